/- What the functions of VehicleGoes compute (part 2 of 4). No condition. -/
import Derived.Test.YtlbppjmekiemiacGreatDoorFVehicleGoesa
import Derived.KernelRfl
namespace Go.Proofs.YtlbppjmekiemiacGreatDoor
open Vm
set_option maxHeartbeats 4000000
variable (ga gc ge my up x:Bool) (cn cu cv e fu gn gv i j k ma mi mk mn mu n now nt nv ou ov t tn tt tv u ug un units until_ v:Int) (ci im rg:List (List Int)) (b vb:List (List UInt8)) (di vo:List Bool) (ks mw nk r sg tk ws:List Int) (cs:List Vm.Campaign) (net:List Vm.Message) (rs:List Vm.Root) (l vs:List Vm.Signed) (ct ts:List Vm.Target) (us:List Vm.UnitD)
def c_q258:z00:=fun vs bs=>match vs,bs with
 | [.one (.dat .int units),.one (.dat .int until_)],[]=>some (some (1≤units∧units≤4∧facOk units.toNat until_=true),.tup [.agg (cV (facN units.toNat until_).1 (.dat (Ty.list Ty.unitd) (facN units.toNat until_).1.units) (.dat (Ty.list Ty.campaign) (facN units.toNat until_).1.campaigns) (dM (facN units.toNat until_).1.net)),.one (.dat (.list .offer) (facO units.toNat until_)),.one (dB true)],[])
 | _,_=>none
def Γ_q258:Ctx:=[(n_q96,c_q96),(n_q95,c_q95),(n_q254,c_q254),(n_q255,c_q255),(n_q257,c_q257)]
theorem ok_q258:Ok Tryz.prog tab Γ_q258:=(((((ok_nil.c hg_q257 sound_q257).c hg_q255 sound_q255).c hg_q254 sound_q254).c hg_q95 sound_q95).c hg_q96 sound_q96)
noncomputable def q258_L0:List It:=[.inLoop [29,13,12,11,10,9,8,7,6,5,4,0,1] (cSub fn_q258 [1,1,1,1,1,1,1,1,0,1,0,0]),.inBlock 0,.code (cSub fn_q258 [1,1,1,1,1,1,1,1,1])]
def q258_S0 (x0:Int) (x1:Bool) (x2 x3:Int) (x4:List Vm.Offer) (x5:List (List Int)) (x6:List Vm.Signed) (x7 x8:Int) (x9:List Vm.Offer) (x10:Int) (x11:Bool) (x12 x13 x14 x15:Int) (x16:List (List UInt8)) (x17:List Int) (x18:List (List UInt8)) (x19:List Vm.Signed) (x20 x21:List Int) (x22 x23:List Bool) (x24:List Vm.UnitD) (x25:List Vm.Campaign) (x26:List Vm.Message):St:=⟨[(29,.one (dI x0)),(13,.one (.own 0)),(12,.one (.own 1)),(11,.one (.fn n_q255 [])),(10,.one (.fn n_q254 [2])),(9,.one (.own 3)),(8,.one (.ptr 2 0)),(7,.one (.ptr 4 0)),(6,.one (dB x1)),(5,.one (.own 5)),(4,.one (.ptr 6 0)),(0,.one (dI x2)),(1,.one (dI x3))],[(0,.arr Ty.offer x4),(1,.arr (Ty.list Ty.int) x5),(2,.box [.own 7]),(3,.arr Ty.signed x6),(4,.box [dI x7,.own 8,dI x8]),(5,.arr Ty.offer x9),(6,.box [.own 9,.own 10,.own 11,dI x10,dB x11,dI x12,.own 12,dI x13,dI x14,.own 13,.own 14,.own 15,.own 16,.own 17,dI x15]),(7,.arr Ty.str x16),(8,.arr Ty.int x17),(9,.arr Ty.str x18),(10,.arr Ty.signed x19),(11,.arr Ty.int x20),(12,.arr Ty.int x21),(13,.arr Ty.bool x22),(14,.arr Ty.bool x23),(15,.arr Ty.unitd x24),(16,.arr Ty.campaign x25),(17,.arr Ty.message x26)],18⟩
noncomputable def q258_L1:List It:=[.inLoop [39,38,15,37,36,35,34,33,32,14,31,30,29,13,12,11,10,9,8,7,6,5,4,0,1] (cSub fn_q258 [1,1,1,1,1,1,1,1,0,1,0,0,1,1,0,0,1,1,0,1,0,0]),.inBlock 2,.code (cSub fn_q258 [1,1,1,1,1,1,1,1,0,1,0,0,1,1,0,0,1,1,1]),.inBlock 1,.code (cSub fn_q258 [1,1,1,1,1,1,1,1,0,1,0,0,1,1,1]),.inLoop [29,13,12,11,10,9,8,7,6,5,4,0,1] (cSub fn_q258 [1,1,1,1,1,1,1,1,0,1,0,0]),.inBlock 0,.code (cSub fn_q258 [1,1,1,1,1,1,1,1,1])]
def q258_S1 (x0 x1 x2 x3 x4 x5 x6 x7 x8 x9 x10:Int) (x11:Bool) (x12:Int) (x13:Bool) (x14 x15 x16 x17:Int) (x18:List Int) (x19:List Vm.Offer) (x20:List (List Int)) (x21:List Vm.Signed) (x22 x23:Int) (x24:List Vm.Offer) (x25:Int) (x26:Bool) (x27 x28 x29 x30:Int) (x31:List Vm.Root) (x32:List (List Int)) (x33:List Vm.Target) (x34:List (List Int)) (x35:List (List UInt8)) (x36:List Int) (x37:List (List UInt8)) (x38:List Vm.Signed) (x39 x40:List Int) (x41 x42:List Bool) (x43:List Vm.UnitD) (x44:List Vm.Campaign) (x45:List Vm.Message):St:=⟨[(39,.one (dI x0)),(38,.one (dI x1)),(15,.one (.ptr 0 0)),(37,.agg [.nil Ty.root,.nil (Ty.list Ty.int),dI x2,dI x3,.nil Ty.target,.own 1,.nil (Ty.list Ty.int)]),(36,.one (.own 1)),(35,.agg [dI x4,dI x5,.nil Ty.target]),(34,.one (dI x6)),(33,.one (dI x7)),(32,.one (dI x8)),(14,.one (dI x9)),(31,.one (dI x10)),(30,.one (dB x11)),(29,.one (dI x12)),(13,.one (.own 2)),(12,.one (.own 3)),(11,.one (.fn n_q255 [])),(10,.one (.fn n_q254 [4])),(9,.one (.own 5)),(8,.one (.ptr 4 0)),(7,.one (.ptr 6 0)),(6,.one (dB x13)),(5,.one (.own 7)),(4,.one (.ptr 8 0)),(0,.one (dI x14)),(1,.one (dI x15))],[(0,.box [.own 9,.own 10,dI x16,dI x17,.own 11,.own 1,.own 12]),(1,.arr Ty.int x18),(2,.arr Ty.offer x19),(3,.arr (Ty.list Ty.int) x20),(4,.box [.own 13]),(5,.arr Ty.signed x21),(6,.box [dI x22,.own 14,dI x23]),(7,.arr Ty.offer x24),(8,.box [.own 15,.own 16,.own 17,dI x25,dB x26,dI x27,.own 18,dI x28,dI x29,.own 19,.own 20,.own 21,.own 22,.own 23,dI x30]),(9,.arr Ty.root x31),(10,.arr (Ty.list Ty.int) x32),(11,.arr Ty.target x33),(12,.arr (Ty.list Ty.int) x34),(13,.arr Ty.str x35),(14,.arr Ty.int x36),(15,.arr Ty.str x37),(16,.arr Ty.signed x38),(17,.arr Ty.int x39),(18,.arr Ty.int x40),(19,.arr Ty.bool x41),(20,.arr Ty.bool x42),(21,.arr Ty.unitd x43),(22,.arr Ty.campaign x44),(23,.arr Ty.message x45)],24⟩
theorem q258_vc (units until_:Int) (rec:RK) (K:KK):segD Γ_q258 tab fn_q258 0 K rec [.code (z05 fn_q258)] (z07 [.one (dI units),.one (dI until_)] [])=(
 rec q258_L0 (q258_S0 0 false units until_ [] [] [] 1 2 [] 0 false 0 0 0 0 [] ((3:Int)::(4:Int)::(5:Int)::[]) [] [] [] [] [] [] [] [] [])):=by kernel_rfl
theorem zhs (x0:Int) (x1:Bool) (x2 x3:Int) (x4:List Vm.Offer) (x5:List (List Int)) (x6:List Vm.Signed) (x7 x8:Int) (x9:List Vm.Offer) (x10:Int) (x11:Bool) (x12 x13 x14 x15:Int) (x16:List (List UInt8)) (x17:List Int) (x18:List (List UInt8)) (x19:List Vm.Signed) (x20 x21:List Int) (x22 x23:List Bool) (x24:List Vm.UnitD) (x25:List Vm.Campaign) (x26:List Vm.Message) (rec:RK) (K:KK) v0 (hv0:v0=newV x16 x6 ⟨x7,x17,x8⟩ x5):segD Γ_q258 tab fn_q258 0 K rec (ent q258_L0) (q258_S0 x0 x1 x2 x3 x4 x5 x6 x7 x8 x9 x10 x11 x12 x13 x14 x15 x16 x17 x18 x19 x20 x21 x22 x23 x24 x25 x26)=(
 br (lti x0 4)
 (rec q258_L1 (q258_S1 0 x2 (max x0 1) x3 (max x0 1) x3 x3 (max x0 1) x0 x0 x0 (lti x0 4) x0 x1 x2 x3 (max x0 1) x3 ((3:Int)::(5:Int)::[]) x4 x5 x6 x7 x8 x9 x10 x11 x12 x13 x14 x15 [] [] [] [] x16 x17 x18 x19 x20 x21 x22 x23 x24 x25 x26))
 (len x17*8≤140737488355328 ∧
 br (eqi v0.snd 0)
 (K (.tup [.agg (cV v0.fst (.dat (Ty.list Ty.unitd) v0.fst.units) (.dat (Ty.list Ty.campaign) v0.fst.campaigns) (dM v0.fst.net)),.one (.dat (Ty.list Ty.offer) x4),.one (dB (eqi (len v0.fst.units:Int) x2))]) [])
 (K (.tup [.agg (cV v0.fst (.dat (Ty.list Ty.unitd) v0.fst.units) (.dat (Ty.list Ty.campaign) v0.fst.campaigns) (dM v0.fst.net)),.one (.dat (Ty.list Ty.offer) x4),.one (dB false)]) []))):=by subst_vars; kernel_rfl
theorem zi6 (x0 x1 x2 x3 x4 x5 x6 x7 x8 x9 x10:Int) (x11:Bool) (x12:Int) (x13:Bool) (x14 x15 x16 x17:Int) (x18:List Int) (x19:List Vm.Offer) (x20:List (List Int)) (x21:List Vm.Signed) (x22 x23:Int) (x24:List Vm.Offer) (x25:Int) (x26:Bool) (x27 x28 x29 x30:Int) (x31:List Vm.Root) (x32:List (List Int)) (x33:List Vm.Target) (x34:List (List Int)) (x35:List (List UInt8)) (x36:List Int) (x37:List (List UInt8)) (x38:List Vm.Signed) (x39 x40:List Int) (x41 x42:List Bool) (x43:List Vm.UnitD) (x44:List Vm.Campaign) (x45:List Vm.Message) (rec:RK) (K:KK) v0 (hv0:v0=imgF x9 x0) v1 (hv1:v1=imageTextE v0) v2 (hv2:v2=nameIn x35 v1.fst) v3 (hv3:v3=releaseTextE x16 x17 x33) v4 (hv4:v4=nameIn x35 v3.fst) v5 (hv5:v5=K (.tup [.agg zV,.one (.dat (Ty.list Ty.offer) []),.one (dB false)]) []):segD Γ_q258 tab fn_q258 0 K rec (ent q258_L1) (q258_S1 x0 x1 x2 x3 x4 x5 x6 x7 x8 x9 x10 x11 x12 x13 x14 x15 x16 x17 x18 x19 x20 x21 x22 x23 x24 x25 x26 x27 x28 x29 x30 x31 x32 x33 x34 x35 x36 x37 x38 x39 x40 x41 x42 x43 x44 x45)=(
 br (lti x0 x1)
 (((0:Int)≤x9∧x9≤10∧(0:Int)≤x0∧x0≤10) ∧
 br (!(eqi v1.snd 0))
 v5
 (List.length x35≤1000 ∧
 br (eqi x9 0)
 ((len x20+len (v0::[]))*24≤140737488355328 ∧
 (len x33+len ((⟨x0,v2.snd,(len v0:Int)⟩:Vm.Target)::[]))*24≤140737488355328 ∧
 (len x34+len (v0::[]))*24≤140737488355328 ∧
 rec q258_L1 (q258_S1 (w64 (x0+1)) x1 x2 x3 x4 x5 x6 x7 x8 x9 x10 x11 x12 x13 x14 x15 x16 x17 x18 x19 (cat x20 (v0::[])) x21 x22 x23 x24 x25 x26 x27 x28 x29 x30 x31 x32 (cat x33 ((⟨x0,v2.snd,(len v0:Int)⟩:Vm.Target)::[])) (cat x34 (v0::[])) v2.fst x36 x37 x38 x39 x40 x41 x42 x43 x44 x45))
 ((len x33+len ((⟨x0,v2.snd,(len v0:Int)⟩:Vm.Target)::[]))*24≤140737488355328 ∧
 (len x34+len (v0::[]))*24≤140737488355328 ∧
 rec q258_L1 (q258_S1 (w64 (x0+1)) x1 x2 x3 x4 x5 x6 x7 x8 x9 x10 x11 x12 x13 x14 x15 x16 x17 x18 x19 x20 x21 x22 x23 x24 x25 x26 x27 x28 x29 x30 x31 x32 (cat x33 ((⟨x0,v2.snd,(len v0:Int)⟩:Vm.Target)::[])) (cat x34 (v0::[])) v2.fst x36 x37 x38 x39 x40 x41 x42 x43 x44 x45))))
 (br (eqi x9 0)
 (rec q258_L0 (q258_S0 (w64 (x12+1)) x13 x14 x15 x19 x20 x21 x22 x23 x24 x25 x26 x27 x28 x29 x30 x35 x36 x37 x38 x39 x40 x41 x42 x43 x44 x45))
 (br (!(eqi v3.snd 0))
 v5
 (List.length x35≤1000 ∧
 br (!(eqi x9 3))
 ((len x21+len ((⟨3,v4.snd⟩:Vm.Signed)::[]))*16≤140737488355328 ∧
 (len (cat x21 ((⟨3,v4.snd⟩:Vm.Signed)::[]))+len ((⟨5,v4.snd⟩:Vm.Signed)::[]))*16≤140737488355328 ∧
 (len x19+len ((⟨x31,x32,⟨x16,x17,x33⟩,x18,x34⟩:Vm.Offer)::[]))*136≤140737488355328 ∧
 rec q258_L0 (q258_S0 (w64 (x12+1)) x13 x14 x15 (cat x19 ((⟨x31,x32,⟨x16,x17,x33⟩,x18,x34⟩:Vm.Offer)::[])) x20 (cat (cat x21 ((⟨3,v4.snd⟩:Vm.Signed)::[])) ((⟨5,v4.snd⟩:Vm.Signed)::[])) x22 x23 x24 x25 x26 x27 x28 x29 x30 v4.fst x36 x37 x38 x39 x40 x41 x42 x43 x44 x45))
 ((len x21+len ((⟨5,v4.snd⟩:Vm.Signed)::[]))*16≤140737488355328 ∧
 (len x19+len ((⟨x31,x32,⟨x16,x17,x33⟩,x18,x34⟩:Vm.Offer)::[]))*136≤140737488355328 ∧
 rec q258_L0 (q258_S0 (w64 (x12+1)) x13 x14 x15 (cat x19 ((⟨x31,x32,⟨x16,x17,x33⟩,x18,x34⟩:Vm.Offer)::[])) x20 (cat x21 ((⟨5,v4.snd⟩:Vm.Signed)::[])) x22 x23 x24 x25 x26 x27 x28 x29 x30 v4.fst x36 x37 x38 x39 x40 x41 x42 x43 x44 x45)))))):=by subst_vars; kernel_rfl

abbrev facS0 (v units til:Int) (a:Fac):St:=q258_S0 v false units til a.offers a.first a.l 1 2 [] 0 false 0 0 0 0 a.b [3,4,5] [] [] [] [] [] [] [] [] []
abbrev facS1 (k v units til:Int) (a:Fac) (f:Fab):St:=q258_S1 k units (max v 1) til (max v 1) til til (max v 1) v v v (lti v 4) v false units til (max v 1) til [3,5] a.offers f.first a.l 1 2 [] 0 false 0 0 0 0 [] [] f.ts f.ims f.b [3,4,5] [] [] [] [] [] [] [] [] []
theorem zep (K:KK) (units:Nat) (til v:Int) (a:Fac) (m:Nat) (hv0:0≤v) (hv3:v≤3) (hu:units≤4) (hl:a.l.length≤100) (ho:a.offers.length≤100) (hi:∀ k:Int,0≤k→k<units→(imageTextE (imgF v k)).2=0) :
  ∀ (n k:Nat) (f:Fab),k+n=units→f.b.length≤100+k→f.first.length≤100+k→f.ts.length≤k→f.ims.length≤k →
  (v≠0→(releaseTextE (max v 1) til (fabKs v n k f).ts).2=0)→goD Γ_q258 tab fn_q258 0 K m q258_L0 (facS0 (v+1) units til (facEnd til v a (fabKs v n k f))) →
  goD Γ_q258 tab fn_q258 0 K (n+1+m) q258_L1 (facS1 k v units til a f)
 | 0,k,f,hk,hb,hf,ht,hm,hr,hE=>by
  rw [show 0+1+m=m+1 by omega,z09 (L:=q258_L1),zi6 _ _ _ _ _ _ _ _ _ _ _ _ _ _ _ _ _ _ _ _ _ _ _ _ _ _ _ _ _ _ _ _ _ _ _ _ _ _ _ _ _ _ _ _ _ _ _ _ _ rfl _ rfl _ rfl _ rfl _ rfl _ rfl]
  simp only [fabKs] at hr hE
  refine z22 (by omega) (z27 (fun h=>?_) (fun h=>?_))
  ·have e:facEnd til v a f=⟨f.b,a.l,f.first,a.offers⟩:=if_pos h
   rw [e] at hE
   rw [z0e (by omega) (by omega)]
   exact hE
  ·have e:facEnd til v a f=_:=if_neg h
   rw [e] at hE
   refine z1c (fun h2=>absurd (hr h) h2) (fun _=>⟨by omega,z1c (fun h3=>⟨by simp only [len,List.length_cons,List.length_nil]; omega,by simp only [len,cat,List.length_append,List.length_cons,List.length_nil]; omega,by simp only [len,List.length_cons,List.length_nil]; omega,?_⟩) (fun h3=>⟨by simp only [len,List.length_cons,List.length_nil]; omega,by simp only [len,List.length_cons,List.length_nil]; omega,?_⟩)⟩)
   ·rw [if_neg h3] at hE
    rw [z0e (by omega) (by omega)]
    exact hE
   ·rw [if_pos h3] at hE
    rw [z0e (by omega) (by omega)]
    exact hE
 | n+1,k,f,hk,hb,hf,ht,hm,hr,hE=>by
  rw [show n+1+1+m=(n+1+m)+1 by omega,z09 (L:=q258_L1),zi6 _ _ _ _ _ _ _ _ _ _ _ _ _ _ _ _ _ _ _ _ _ _ _ _ _ _ _ _ _ _ _ _ _ _ _ _ _ _ _ _ _ _ _ _ _ _ _ _ _ rfl _ rfl _ rfl _ rfl _ rfl _ rfl]
  have hik:=hi k (by omega) (by omega)
  have hnl:=z8o f.b (imageTextE (imgF v k)).1
  have ek:w64 ((k:Int)+1)=((k+1:Nat):Int):=by rw [z0e (by omega) (by omega)]; omega
  have f1:(fabK v k f).b.length≤100+(k+1):=by
   have:(fabK v k f).b.length≤f.b.length+1:=hnl
   omega
  have f2:(fabK v k f).first.length≤100+(k+1):=by
   have:(fabK v k f).first.length≤f.first.length+1:=by simp only [fabK]; split<;>simp
   omega
  have f3:(fabK v k f).ts.length≤k+1:=by
   have:(fabK v k f).ts.length=f.ts.length+1:=by simp [fabK]
   omega
  have f4:(fabK v k f).ims.length≤k+1:=by
   have:(fabK v k f).ims.length=f.ims.length+1:=by simp [fabK]
   omega
  have step:=zep K units til v a m hv0 hv3 hu hl ho hi n (k+1) (fabK v k f) (by omega) f1 f2 f3 f4 hr hE
  refine z2o (by omega) ⟨⟨hv0,by omega,by omega,by omega⟩,z1c (fun h=>absurd hik h) (fun _=>⟨by omega,z27 (fun h=>⟨by simp only [len,List.length_cons,List.length_nil]; omega,by simp only [len,List.length_cons,List.length_nil]; omega,by simp only [len,List.length_cons,List.length_nil]; omega,?_⟩) (fun h=>⟨by simp only [len,List.length_cons,List.length_nil]; omega,by simp only [len,List.length_cons,List.length_nil]; omega,?_⟩)⟩)⟩
  ·rw [ek]
   have e:(fabK v k f).first=f.first++[imgF v k]:=if_pos h
   simp only [facS1] at step
   rw [e] at step
   exact step
  ·rw [ek]
   have e:(fabK v k f).first=f.first:=if_neg h
   simp only [facS1] at step
   rw [e] at step
   exact step
theorem fab_len (v:Int):∀ (n:Nat) (k:Int) (f:Fab),(fabKs v n k f).b.length≤f.b.length+n∧(fabKs v n k f).first.length≤f.first.length+n
 | 0,_,f=>⟨Nat.le_refl _,Nat.le_refl _⟩
 | n+1,k,f=>by
  have h:=fab_len v n (k+1) (fabK v k f)
  have h1:=z8o f.b (imageTextE (imgF v k)).1
  have h2:(fabK v k f).b.length≤f.b.length+1:=h1
  have h3:(fabK v k f).first.length≤f.first.length+1:=by simp only [fabK]; split<;>simp
  simp only [fabKs]
  omega
theorem zkj (til v:Int) (a:Fac) (f:Fab):(facEnd til v a f).b.length≤f.b.length+1∧(facEnd til v a f).l.length≤a.l.length+2∧(facEnd til v a f).first=f.first∧(facEnd til v a f).offers.length≤a.offers.length+1:=by
 have h1:=z8o f.b (textOf v til f)
 unfold facEnd
 split
 ·exact ⟨Nat.le_succ _,by show a.l.length≤_; omega,rfl,Nat.le_succ _⟩
 ·refine ⟨h1,?_,rfl,by simp⟩
  show ((if v=3 then a.l else a.l++_)++_).length≤_
  split<;>simp
theorem zds (units:Nat) (til v:Int) (a:Fac):(facV units til v a).b.length≤a.b.length+units+1∧(facV units til v a).l.length≤a.l.length+2∧(facV units til v a).first.length≤a.first.length+units∧(facV units til v a).offers.length≤a.offers.length+1:=by
 obtain ⟨h1,h2,h3,h4⟩:=zkj til v a (fabKs v units 0 (fab0 a))
 obtain ⟨g1,g2⟩:=fab_len v units 0 (fab0 a)
 have e1:(fab0 a).b=a.b:=rfl
 have e2:(fab0 a).first=a.first:=rfl
 rw [e1] at g1
 rw [e2] at g2
 unfold facV
 rw [h3]
 omega
theorem z89 (K:KK) (units:Nat) (til v:Int) (a:Fac) (m:Nat) (hv0:0≤v) (hv3:v≤3) (hu:units≤4) (hb:a.b.length≤100) (hf:a.first.length≤100) (hl:a.l.length≤100) (ho:a.offers.length≤100) (hi:∀ k:Int,0≤k→k<units→(imageTextE (imgF v k)).2=0)
  (hr:v≠0→(releaseTextE (max v 1) til (fabKs v units 0 (fab0 a)).ts).2=0) (hE:goD Γ_q258 tab fn_q258 0 K m q258_L0 (facS0 (v+1) units til (facV units til v a))) :
  goD Γ_q258 tab fn_q258 0 K (units+1+m+1) q258_L0 (facS0 v units til a):=by
 rw [z09 (L:=q258_L0),zhs _ _ _ _ _ _ _ _ _ _ _ _ _ _ _ _ _ _ _ _ _ _ _ _ _ _ _ _ _ _ rfl]
 exact z2o (by omega) (zep K units til v a m hv0 hv3 hu hl ho hi units 0 (fab0 a) (by omega) hb hf (Nat.le_refl _) (Nat.le_refl _) hr hE)
theorem fac_last (K:KK) (U:Nat) (til v:Int) (m:Nat) (hv:v=4) (hm:m=1) (q4:(facN U til).2=0) (q5:((facN U til).1.units.length:Int)=U) (hK:K (.tup [.agg (cV (facN U til).1 (.dat (Ty.list Ty.unitd) (facN U til).1.units) (.dat (Ty.list Ty.campaign) (facN U til).1.campaigns) (dM (facN U til).1.net)),.one (.dat (.list .offer) (facO U til)),.one (dB true)]) []) :
  goD Γ_q258 tab fn_q258 0 K m q258_L0 (facS0 v U til (facR U til)):=by
 subst hm
 rw [z09 (L:=q258_L0),zhs _ _ _ _ _ _ _ _ _ _ _ _ _ _ _ _ _ _ _ _ _ _ _ _ _ _ _ _ _ _ rfl]
 have eN:newV (facR U til).b (facR U til).l ⟨1,[3,4,5],2⟩ (facR U til).first=facN U til:=rfl
 refine z22 (by omega) ⟨by decide,?_⟩
 rw [eN]
 refine zgj q4 ?_
 have:eqi (((len (facN U til).1.units):Nat):Int) (U:Int)=true:=decide_eq_true q5
 rw [this]
 exact hK
theorem fac_chain (K:KK) (U:Nat) (til:Int) (hU:U≤4) (A0 A1 A2 A3 A4:Fac) (v0 v1 v2 v3 v4:Int) (M0 M1 M2 M3 M4:Nat) (hA0:A0.b.length=0∧A0.first.length=0∧A0.l.length=0∧A0.offers.length=0)
  (h0:v0=0) (h1:v1=v0+1) (h2:v2=v1+1) (h3:v3=v2+1) (h4:v4=v3+1) (m0:M0=U+1+M1+1) (m1:M1=U+1+M2+1) (m2:M2=U+1+M3+1) (m3:M3=U+1+M4+1)
  (e1:facV U til v0 A0=A1) (e2:facV U til v1 A1=A2) (e3:facV U til v2 A2=A3) (e4:facV U til v3 A3=A4)
  (hi:∀ v:Int,0≤v→v<4→∀ k:Int,0≤k→k<U→(imageTextE (imgF v k)).2=0)
  (q1:(releaseTextE (max v1 1) til (fabKs v1 U 0 (fab0 A1)).ts).2=0) (q2:(releaseTextE (max v2 1) til (fabKs v2 U 0 (fab0 A2)).ts).2=0) (q3:(releaseTextE (max v3 1) til (fabKs v3 U 0 (fab0 A3)).ts).2=0)
  (E4:goD Γ_q258 tab fn_q258 0 K M4 q258_L0 (facS0 v4 U til A4)) :
  goD Γ_q258 tab fn_q258 0 K M0 q258_L0 (facS0 v0 U til A0):=by
 obtain ⟨z1,z2,z3,z4⟩:=hA0
 obtain ⟨a1,a2,a3,a4⟩:=zds U til v0 A0
 obtain ⟨b1,b2,b3,b4⟩:=zds U til v1 A1
 obtain ⟨c1,c2,c3,c4⟩:=zds U til v2 A2
 rw [e1] at a1 a2 a3 a4
 rw [e2] at b1 b2 b3 b4
 rw [e3] at c1 c2 c3 c4
 have i0:=hi v0 (by omega) (by omega)
 have i1:=hi v1 (by omega) (by omega)
 have i2:=hi v2 (by omega) (by omega)
 have i3:=hi v3 (by omega) (by omega)
 have x1:A0.b.length≤100∧A0.first.length≤100∧A0.l.length≤100∧A0.offers.length≤100:=by omega
 have x2:A1.b.length≤100∧A1.first.length≤100∧A1.l.length≤100∧A1.offers.length≤100:=by omega
 have x3:A2.b.length≤100∧A2.first.length≤100∧A2.l.length≤100∧A2.offers.length≤100:=by omega
 have x4:A3.b.length≤100∧A3.first.length≤100∧A3.l.length≤100∧A3.offers.length≤100:=by omega
 have y0:0≤v0∧v0≤3:=by omega
 have y1:0≤v1∧v1≤3:=by omega
 have y2:0≤v2∧v2≤3:=by omega
 have y3:0≤v3∧v3≤3:=by omega
 clear a1 a2 a3 a4 b1 b2 b3 b4 c1 c2 c3 c4 z1 z2 z3 z4 hi
 have E3:goD Γ_q258 tab fn_q258 0 K M3 q258_L0 (facS0 v3 U til A3):=by
  rw [m3]; exact z89 K U til v3 A3 M4 y3.1 y3.2 hU x4.1 x4.2.1 x4.2.2.1 x4.2.2.2 i3 (fun _=>q3) (by rw [e4,← h4]; exact E4)
 have E2:goD Γ_q258 tab fn_q258 0 K M2 q258_L0 (facS0 v2 U til A2):=by
  rw [m2]; exact z89 K U til v2 A2 M3 y2.1 y2.2 hU x3.1 x3.2.1 x3.2.2.1 x3.2.2.2 i2 (fun _=>q2) (by rw [e3,← h3]; exact E3)
 have E1:goD Γ_q258 tab fn_q258 0 K M1 q258_L0 (facS0 v1 U til A1):=by
  rw [m1]; exact z89 K U til v1 A1 M2 y1.1 y1.2 hU x2.1 x2.2.1 x2.2.2.1 x2.2.2.2 i1 (fun _=>q1) (by rw [e2,← h2]; exact E2)
 rw [m0]; exact z89 K U til v0 A0 M1 y0.1 y0.2 hU x1.1 x1.2.1 x1.2.2.1 x1.2.2.2 i0 (fun h=>(h h0).elim) (by rw [e1,← h1]; exact E1)
theorem run_q258 (hp:1≤units∧units≤4∧facOk units.toNat until_=true) (K:KK) (hK:K (.tup [.agg (cV (facN units.toNat until_).1 (.dat (Ty.list Ty.unitd) (facN units.toNat until_).1.units) (.dat (Ty.list Ty.campaign) (facN units.toNat until_).1.campaigns) (dM (facN units.toNat until_).1.net)),.one (.dat (.list .offer) (facO units.toNat until_)),.one (dB true)]) []):GD Γ_q258 fn_q258 0 K [.one (dI units),.one (dI until_)] []:=by
 obtain ⟨p1,p2,p3⟩:=hp
 obtain ⟨U,hU⟩:∃ U:Nat,units=U:=⟨units.toNat,by omega⟩
 subst hU
 have eU:((U:Int)).toNat=U:=by omega
 have hU4:U≤4:=by omega
 rw [eU] at p3 hK
 unfold facOk at p3
 simp only [Bool.and_eq_true,facOk1,eqi,decide_eq_true_eq] at p3
 obtain ⟨q0,q1,q2,q3,q4,q5⟩:=p3
 have hi:∀ v:Int,0≤v→v<4→∀ k:Int,0≤k→k<U→(imageTextE (imgF v k)).2=0:=fun v hv0 hv k h0 h1=>by
  unfold imgOk at q0
  have:=List.all_eq_true.1 (List.all_eq_true.1 q0 v.toNat (List.mem_range.2 (by omega))) k.toNat (List.mem_range.2 (by omega))
  rw [show ((k.toNat:Nat):Int)=k by omega,show ((v.toNat:Nat):Int)=v by omega] at this
  exact of_decide_eq_true this
 obtain ⟨M4,m4⟩:∃ M,M=1:=⟨1,rfl⟩
 obtain ⟨M3,m3⟩:∃ M,M=U+1+M4+1:=⟨_,rfl⟩
 obtain ⟨M2,m2⟩:∃ M,M=U+1+M3+1:=⟨_,rfl⟩
 obtain ⟨M1,m1⟩:∃ M,M=U+1+M2+1:=⟨_,rfl⟩
 obtain ⟨M0,m0⟩:∃ M,M=U+1+M1+1:=⟨_,rfl⟩
 obtain ⟨A0,hA0⟩:∃ A:Fac,A=⟨[],[],[],[]⟩:=⟨_,rfl⟩
 have g1:fac1 U until_=facV U until_ 0 A0:=by rw [hA0]; rfl
 have g2:fac2 U until_=facV U until_ 1 (fac1 U until_):=rfl
 have g3:fac3 U until_=facV U until_ 2 (fac2 U until_):=rfl
 have g4:facR U until_=facV U until_ 3 (fac3 U until_):=rfl
 have gN:facN U until_=newV (facR U until_).b (facR U until_).l facRoot (facR U until_).first:=rfl
 have E4:=fac_last K U until_ 4 M4 rfl m4 q4 q5 hK
 generalize facR U until_=A4 at g4 E4
 generalize fac3 U until_=A3 at g3 g4 q3
 generalize fac2 U until_=A2 at g2 g3 q2
 generalize fac1 U until_=A1 at g1 g2 q1
 have E0:=fac_chain K U until_ hU4 A0 A1 A2 A3 A4 0 1 2 3 4 M0 M1 M2 M3 M4 (by rw [hA0]; exact ⟨rfl,rfl,rfl,rfl⟩) rfl rfl rfl rfl rfl m0 m1 m2 m3 g1.symm g2.symm g3.symm g4.symm hi q1 q2 q3 E4
 refine ⟨M0+1,?_⟩
 rw [z02,q258_vc _ _ _ _]
 rw [hA0] at E0
 exact E0
theorem sound_q258:z03 Tryz.prog tab n_q258 c_q258:=z01 ok_q258 hg_q258 (by
 intro vs bs p v bs' h hp
 unfold c_q258 at h
 split at h
 ·cases h
  exact ⟨by kernel_rfl,rfl,.inl (run_q258 _ _ hp.1 _ ⟨rfl,rfl⟩)⟩
 ·cases h)

def c_q133:z00:=fun vs bs=>match vs,bs with
 | [.agg [.dat (.list .int) ws,.dat .int fu,.dat .bool up,.dat .int un,.dat .int ug]],[]=>some (none,.one (dI (z14 ⟨⟨ws,fu⟩,up,un,ug⟩)),[])
 | _,_=>none
def Γ_q133:Ctx:=[(n_q62,c_q62)]
theorem ok_q133:Ok Tryz.prog tab Γ_q133:=(ok_nil.c hg_q62 sound_q62)
theorem q133_vc (ws:List Int) (fu:Int) (up:Bool) (un ug:Int) (rec:RK) (K:KK) v0 (hv0:v0=z0d ⟨ws,fu⟩):segD Γ_q133 tab fn_q133 0 K rec [.code (z05 fn_q133)] (z07 [.agg [dL ws,dI fu,dB up,dI un,dI ug]] [])=(
 br (!(eqi v0 0))
 (K (.one (dI v0)) [])
 (br (!(eqi (len ws:Int) 192))
 (K (.one (dI 4)) [])
 (br (lti un 0)
 (K (.one (dI 3)) [])
 (br (lti 8 un)
 (K (.one (dI 3)) [])
 (br (lti ug 0)
 (K (.one (dI 3)) [])
 (br (lti 40 ug)
 (K (.one (dI 3)) [])
 (K (.one (dI 0)) []))))))):=by subst_vars; kernel_rfl

theorem run_q133 (K:KK) (hK:K (.one (dI (z14 ⟨⟨ws,fu⟩,up,un,ug⟩))) []):GD Γ_q133 fn_q133 0 K [.agg [dL ws,dI fu,dB up,dI un,dI ug]] []:=by
 refine ⟨1,?_⟩
 rw [z02,q133_vc _ _ _ _ _ _ _ _ rfl]
 unfold z14 at hK
 simp only at hK
 refine z1c (fun h=>?_) (fun h=>z1c (fun h2=>?_) (fun h2=>z1a (fun h3=>?_) (fun h3=>z1a (fun h4=>?_) (fun h4=>z1a (fun h5=>?_) (fun h5=>z1a (fun h6=>?_) (fun h6=>?_))))))
 ·rw [if_neg h] at hK; exact hK
 ·rw [if_pos h,if_neg (by simp only [len] at h2; omega)] at hK; exact hK
 all_goals rw [if_pos h,if_pos (by simp only [len] at h2; omega)] at hK
 ·rw [if_pos (by omega)] at hK; exact hK
 ·rw [if_pos (by omega)] at hK; exact hK
 ·rw [if_pos (by omega)] at hK; exact hK
 ·rw [if_pos (by omega)] at hK; exact hK
 ·rw [if_neg (by omega)] at hK; exact hK
theorem sound_q133:z03 Tryz.prog tab n_q133 c_q133:=z01 ok_q133 hg_q133 (by
 intro vs bs p v bs' h hp
 unfold c_q133 at h
 split at h
 ·cases h
  exact ⟨by kernel_rfl,rfl,.inl (run_q133 _ _ _ _ _ _ ⟨rfl,rfl⟩)⟩
 ·cases h)

def c_q229:z00:=fun vs bs=>match vs,bs with
 | [.agg [.dat .int cn,.dat .int cv,.dat .int cu,.dat (.list .target) ct,.dat (.list (.list .int)) ci],.one (.dat .int n),.one (.dat .int units)],[]=>some (some (0≤units∧units≤1000),.one (dI (checkC ⟨cn,⟨cv,cu,ct⟩,ci⟩ n units.toNat)),[])
 | _,_=>none
def Γ_q229:Ctx:=[(n_q93,c_q93),(n_q92,c_q92)]
theorem ok_q229:Ok Tryz.prog tab Γ_q229:=((ok_nil.c hg_q92 sound_q92).c hg_q93 sound_q93)
noncomputable def q229_L0:List It:=[.inLoop [32,31,30,6,3] (cSub fn_q229 [1,1,0,1,0,0]),.inBlock 0,.code (cSub fn_q229 [1,1,1])]
def q229_S0 (x0 x1:Int) (x2:List (List Int)) (x3 x4 x5 x6:Int) (x7:List Vm.Target) (x8:List (List Int)):St:=⟨[(32,.one (dI x0)),(31,.one (dI x1)),(30,.one (dR x2)),(6,.one (dI x3)),(3,.one (.ptr 0 0))],[(0,.box [dI x4,dI x5,dI x6,.dat (Ty.list Ty.target) x7,dR x8])],1⟩
theorem q229_vc (cn cv cu:Int) (ct:List Vm.Target) (ci:List (List Int)) (n units:Int) (rec:RK) (K:KK):segD Γ_q229 tab fn_q229 0 K rec [.code (z05 fn_q229)] (z07 [.agg [dI cn,dI cv,dI cu,.dat (Ty.list Ty.target) ct,dR ci],.one (dI n),.one (dI units)] [])=(
 br (!(eqi cn n))
 (K (.one (dI 4)) [])
 (br (!(eqi (len ci:Int) units))
 (K (.one (dI 4)) [])
 (br (!(eqi (len ct:Int) units))
 (K (.one (dI 4)) [])
 (rec q229_L0 (q229_S0 0 (len ci:Int) ci 0 cn cv cu ct ci))))):=by kernel_rfl
theorem zi3 (x0 x1:Int) (x2:List (List Int)) (x3 x4 x5 x6:Int) (x7:List Vm.Target) (x8:List (List Int)) (rec:RK) (K:KK) v0 (hv0:v0=z0j (nth x2 (Int.toNat x0) (Ty.dflt (Ty.list Ty.int)))) v1 (hv1:v1=z0i x5 x6 x7):segD Γ_q229 tab fn_q229 0 K rec (ent q229_L0) (q229_S0 x0 x1 x2 x3 x4 x5 x6 x7 x8)=(
 br (lti x0 x1)
 (((0:Int)≤x0∧x0<(len x2:Int)) ∧
 br (!(eqi v0 0))
 (K (.one (dI v0)) [])
 (rec q229_L0 (q229_S0 (w64 (x0+1)) x1 x2 x3 x4 x5 x6 x7 x8)))
 (K (.one (dI v1)) [])):=by subst_vars; kernel_rfl

theorem zfg (l:List (List Int)) (hl:l.length≤1000) (K:KK) (x3 cn cv cu:Int) (ct:List Vm.Target) (ci:List (List Int)):∀ (d k:Nat),k+d=l.length→K (.one (dI (if checkImages (l.drop k)=0 then z0i cv cu ct else checkImages (l.drop k)))) [] →
  goD Γ_q229 tab fn_q229 0 K (d+1) q229_L0 (q229_S0 (k:Int) (((len l):Nat):Int) l x3 cn cv cu ct ci)
 | 0,k,hk,hK=>by
  rw [z09 (L:=q229_L0),zi3 _ _ _ _ _ _ _ _ _ _ _ _ rfl _ rfl]
  rw [List.drop_of_length_le (by omega)] at hK
  exact z22 (by simp only [len]; omega) hK
 | d+1,k,hk,hK=>by
  rw [z09 (L:=q229_L0),zi3 _ _ _ _ _ _ _ _ _ _ _ _ rfl _ rfl,z08,z0f (by omega)]
  rw [z0q (by omega) (Ty.dflt (Ty.list Ty.int))] at hK
  unfold checkImages at hK
  refine z2o (by simp only [len]; omega) ⟨⟨by omega,by simp only [len]; omega⟩,z1c (fun h=>?_) (fun h=>?_)⟩
  ·rw [if_neg h,if_neg h] at hK; exact hK
  ·rw [if_pos h] at hK
   exact zfg l hl K x3 cn cv cu ct ci d (k+1) (by omega) hK
theorem run_q229 (hp:0≤units∧units≤1000) (K:KK) (hK:K (.one (dI (checkC ⟨cn,⟨cv,cu,ct⟩,ci⟩ n units.toNat))) []):GD Γ_q229 fn_q229 0 K [.agg [dI cn,dI cv,dI cu,.dat (.list .target) ct,dR ci],.one (dI n),.one (dI units)] []:=by
 obtain ⟨hp,hp2⟩:=hp
 obtain ⟨u,rfl⟩:=Int.eq_ofNat_of_zero_le hp
 rw [z08] at hK
 refine ⟨ci.length+2,?_⟩
 rw [z02,q229_vc _ _ _ _ _ _ _ _ _]
 unfold checkC at hK
 simp only at hK
 refine z1c (fun h=>?_) (fun h=>z1c (fun h2=>?_) (fun h2=>z1c (fun h3=>?_) (fun h3=>?_)))
 ·rw [if_pos (.inl h)] at hK; exact hK
 ·rw [if_pos (.inr (.inl (by simp only [len] at h2; omega)))] at hK; exact hK
 ·rw [if_pos (.inr (.inr (by simp only [len] at h3; omega)))] at hK; exact hK
 ·rw [if_neg (by simp only [len] at h2 h3; omega)] at hK
  exact zfg ci (by simp only [len] at h2; omega) K 0 cn cv cu ct ci ci.length 0 (by omega) hK
theorem sound_q229:z03 Tryz.prog tab n_q229 c_q229:=z01 ok_q229 hg_q229 (by
 intro vs bs p v bs' h hp
 unfold c_q229 at h
 split at h
 ·cases h
  exact ⟨by kernel_rfl,rfl,.inl (run_q229 _ _ _ _ _ _ _ hp.1 _ ⟨rfl,rfl⟩)⟩
 ·cases h)

def c_q145:z00:=fun vs bs=>match vs,bs with
 | [.agg [.dat .int mk,.dat .int mu,.dat .int mn,.dat .int ma,.dat .int mi,.dat (.list .int) mw,.dat .bool my]],[]=>some (none,.one (dI (checkM ⟨mk,mu,mn,ma,mi,mw,my⟩)),[])
 | _,_=>none
def Γ_q145:Ctx:=[(n_q17,c_q17),(n_q144,c_q144)]
theorem ok_q145:Ok Tryz.prog tab Γ_q145:=((ok_nil.c hg_q144 sound_q144).c hg_q17 sound_q17)
theorem q145_vc (mk mu mn ma mi:Int) (mw:List Int) (my:Bool) (rec:RK) (K:KK) v0 (hv0:v0=z04 mw):segD Γ_q145 tab fn_q145 0 K rec [.code (z05 fn_q145)] (z07 [.agg [dI mk,dI mu,dI mn,dI ma,dI mi,dL mw,dB my]] [])=(
 br (lti mk 1)
 (K (.one (dI 3)) [])
 (br (lti 7 mk)
 (K (.one (dI 3)) [])
 (br (lti mu 0)
 (K (.one (dI 3)) [])
 (br (lei 4 mu)
 (K (.one (dI 3)) [])
 (br (lti mn 1)
 (K (.one (dI 3)) [])
 (br (lti 8 mn)
 (K (.one (dI 3)) [])
 (br (lti ma 0)
 (K (.one (dI 3)) [])
 (br (lti 40 ma)
 (K (.one (dI 3)) [])
 (br (lti mi 0)
 (K (.one (dI 3)) [])
 (br (lti 60 mi)
 (K (.one (dI 3)) [])
 (br (lti 8 (len mw:Int))
 (K (.one (dI 3)) [])
 (List.length mw≤140737488355328 ∧
 br (!v0)
 (K (.one (dI 3)) [])
 (K (.one (dI 0)) []))))))))))))):=by subst_vars; kernel_rfl

theorem run_q145 (K:KK) (hK:K (.one (dI (checkM ⟨mk,mu,mn,ma,mi,mw,my⟩))) []):GD Γ_q145 fn_q145 0 K [.agg [dI mk,dI mu,dI mn,dI ma,dI mi,dL mw,dB my]] []:=by
 refine ⟨1,?_⟩
 rw [z02,q145_vc _ _ _ _ _ _ _ _ _ _ rfl]
 unfold checkM at hK
 simp only at hK
 refine z1a (fun h1=>?_) (fun h1=>z1a (fun h2=>?_) (fun h2=>z1a (fun h3=>?_) (fun h3=>z0l (fun h4=>?_) (fun h4=>z1a (fun h5=>?_) (fun h5=>z1a (fun h6=>?_) (fun h6=>z1a (fun h7=>?_) (fun h7=>z1a (fun h8=>?_) (fun h8=>z1a (fun h9=>?_) (fun h9=>z1a (fun h10=>?_) (fun h10=>z1a (fun h11=>?_) (fun h11=>⟨?_,z4n (fun h12=>?_) (fun h12=>?_)⟩)))))))))))
 all_goals try rw [z1u] at h4
 all_goals try rw [z11] at h4
 ·rw [if_pos (by omega)] at hK; exact hK
 ·rw [if_pos (by omega)] at hK; exact hK
 ·rw [if_pos (by omega)] at hK; exact hK
 ·rw [if_pos (by omega)] at hK; exact hK
 ·rw [if_pos (by omega)] at hK; exact hK
 ·rw [if_pos (by omega)] at hK; exact hK
 ·rw [if_pos (by omega)] at hK; exact hK
 ·rw [if_pos (by omega)] at hK; exact hK
 ·rw [if_pos (by omega)] at hK; exact hK
 ·rw [if_pos (by omega)] at hK; exact hK
 ·rw [if_pos (by simp only [len] at h11; omega)] at hK; exact hK
 ·simp only [len] at h11; omega
 ·rw [if_neg (by simp only [len] at h11; omega)] at hK
  have:z04 mw=false:=by simpa using h12
  rw [if_neg (by rw [this]; simp)] at hK; exact hK
 ·rw [if_neg (by simp only [len] at h11; omega)] at hK
  have:z04 mw=true:=by simpa using h12
  rw [if_pos this] at hK; exact hK
theorem sound_q145:z03 Tryz.prog tab n_q145 c_q145:=z01 ok_q145 hg_q145 (by
 intro vs bs p v bs' h hp
 unfold c_q145 at h
 split at h
 ·cases h
  exact ⟨by kernel_rfl,rfl,.inl (run_q145 _ _ _ _ _ _ _ _ ⟨rfl,rfl⟩)⟩
 ·cases h)

def c_q230:z00:=fun vs bs=>match vs,bs with
 | [.agg [.dat (.list .str) vb,.dat (.list .signed) vs,.dat (.list .int) ws,.dat .int fu,.dat .bool up,.dat .int tv,.dat (.list .int) tk,.dat .int tt,.dat .int tn,.dat (.list .bool) vo,.dat (.list .bool) di,.dat (.list .unitd) us,.dat (.list .campaign) cs,.dat (.list .message) net,.dat .int now]],[]=>some (none,.one (dI (checkV ⟨vb,vs,⟨⟨ws,fu⟩,up,⟨⟨tv,tk,tt⟩,tn⟩,vo,di⟩,us,cs,net,now⟩)),[])
 | _,_=>none
def Γ_q230:Ctx:=[(n_q88,c_q88),(n_q114,c_q114),(n_q168,c_q168),(n_q133,c_q133),(n_q229,c_q229),(n_q145,c_q145)]
theorem ok_q230:Ok Tryz.prog tab Γ_q230:=((((((ok_nil.c hg_q145 sound_q145).c hg_q229 sound_q229).c hg_q133 sound_q133).c hg_q168 sound_q168).c hg_q114 sound_q114).c hg_q88 sound_q88)
noncomputable def q230_L0:List It:=[.inLoop [44,43,42,2,1] (cSub fn_q230 [1,1,1,1,1,0,1,0,0]),.inBlock 0,.code (cSub fn_q230 [1,1,1,1,1,1])]
def q230_S0 (x0 x1:Int) (x2:List Vm.UnitD) (x3:Int) (x4:List (List UInt8)) (x5:List Vm.Signed) (x6:List Int) (x7:Int) (x8:Bool) (x9:Int) (x10:List Int) (x11 x12:Int) (x13 x14:List Bool) (x15:List Vm.UnitD) (x16:List Vm.Campaign) (x17:List Vm.Message) (x18:Int):St:=⟨[(44,.one (dI x0)),(43,.one (dI x1)),(42,.one (.dat (Ty.list Ty.unitd) x2)),(2,.one (dI x3)),(1,.one (.ptr 0 0))],[(0,.box [.dat (Ty.list Ty.str) x4,.dat (Ty.list Ty.signed) x5,dL x6,dI x7,dB x8,dI x9,dL x10,dI x11,dI x12,dLb x13,dLb x14,.dat (Ty.list Ty.unitd) x15,.dat (Ty.list Ty.campaign) x16,dM x17,dI x18])],1⟩
noncomputable def q230_L1:List It:=[.inLoop [67,66,65,2,1] (cSub fn_q230 [1,1,1,1,1,1,1,0,1,0,0]),.inBlock 2,.code (cSub fn_q230 [1,1,1,1,1,1,1,1])]
def q230_S1 (x0 x1:Int) (x2:List Vm.Campaign) (x3:Int) (x4:List (List UInt8)) (x5:List Vm.Signed) (x6:List Int) (x7:Int) (x8:Bool) (x9:Int) (x10:List Int) (x11 x12:Int) (x13 x14:List Bool) (x15:List Vm.UnitD) (x16:List Vm.Campaign) (x17:List Vm.Message) (x18:Int):St:=⟨[(67,.one (dI x0)),(66,.one (dI x1)),(65,.one (.dat (Ty.list Ty.campaign) x2)),(2,.one (dI x3)),(1,.one (.ptr 0 0))],[(0,.box [.dat (Ty.list Ty.str) x4,.dat (Ty.list Ty.signed) x5,dL x6,dI x7,dB x8,dI x9,dL x10,dI x11,dI x12,dLb x13,dLb x14,.dat (Ty.list Ty.unitd) x15,.dat (Ty.list Ty.campaign) x16,dM x17,dI x18])],1⟩
noncomputable def q230_L2:List It:=[.inLoop [86,85,84,2,1] (cSub fn_q230 [1,1,1,1,1,1,1,1,0,1,0,0]),.inBlock 4,.code (cSub fn_q230 [1,1,1,1,1,1,1,1,1])]
def q230_S2 (x0 x1:Int) (x2:List Vm.Message) (x3:Int) (x4:List (List UInt8)) (x5:List Vm.Signed) (x6:List Int) (x7:Int) (x8:Bool) (x9:Int) (x10:List Int) (x11 x12:Int) (x13 x14:List Bool) (x15:List Vm.UnitD) (x16:List Vm.Campaign) (x17:List Vm.Message) (x18:Int):St:=⟨[(86,.one (dI x0)),(85,.one (dI x1)),(84,.one (dM x2)),(2,.one (dI x3)),(1,.one (.ptr 0 0))],[(0,.box [.dat (Ty.list Ty.str) x4,.dat (Ty.list Ty.signed) x5,dL x6,dI x7,dB x8,dI x9,dL x10,dI x11,dI x12,dLb x13,dLb x14,.dat (Ty.list Ty.unitd) x15,.dat (Ty.list Ty.campaign) x16,dM x17,dI x18])],1⟩
theorem q230_vc (vb:List (List UInt8)) (vs:List Signed) (ws:List Int) (fu:Int) (up:Bool) (tv:Int) (tk:List Int) (tt tn:Int) (vo di:List Bool) (us:List UnitD) (cs:List Campaign) (net:List Message) (now:Int) (rec:RK) (K:KK) v0 (hv0:v0=z0r vb) v1 (hv1:v1=checkSigned vs) v2 (hv2:v2=z0t ⟨⟨ws,fu⟩,up,⟨⟨tv,tk,tt⟩,tn⟩,vo,di⟩):segD Γ_q230 tab fn_q230 0 K rec [.code (z05 fn_q230)] (z07 [.agg (aV vb vs ws fu up tv tk tt tn vo di (.dat (Ty.list Ty.unitd) us) (.dat (Ty.list Ty.campaign) cs) (dM net) now)] [])=(
 br (!(eqi v0 0))
 (K (.one (dI v0)) [])
 (br (!(eqi v1 0))
 (K (.one (dI v1)) [])
 (br (!(eqi v2 0))
 (K (.one (dI v2)) [])
 (br (!(eqi (len us:Int) (len vo:Int)))
 (K (.one (dI 4)) [])
 (rec q230_L0 (q230_S0 0 (len us:Int) us 0 vb vs ws fu up tv tk tt tn vo di us cs net now)))))):=by subst_vars; kernel_rfl
theorem zji (x0 x1:Int) (x2:List Vm.UnitD) (x3:Int) (x4:List (List UInt8)) (x5:List Vm.Signed) (x6:List Int) (x7:Int) (x8:Bool) (x9:Int) (x10:List Int) (x11 x12:Int) (x13 x14:List Bool) (x15:List Vm.UnitD) (x16:List Vm.Campaign) (x17:List Vm.Message) (x18:Int) (rec:RK) (K:KK) v0 (hv0:v0=z14 ⟨⟨((nth x2 (Int.toNat x0) (Ty.dflt Ty.unitd)).f).words,((nth x2 (Int.toNat x0) (Ty.dflt Ty.unitd)).f).fuel⟩,(nth x2 (Int.toNat x0) (Ty.dflt Ty.unitd)).up,(nth x2 (Int.toNat x0) (Ty.dflt Ty.unitd)).n,(nth x2 (Int.toNat x0) (Ty.dflt Ty.unitd)).got⟩):segD Γ_q230 tab fn_q230 0 K rec (ent q230_L0) (q230_S0 x0 x1 x2 x3 x4 x5 x6 x7 x8 x9 x10 x11 x12 x13 x14 x15 x16 x17 x18)=(
 br (lti x0 x1)
 (((0:Int)≤x0∧x0<(len x2:Int)) ∧
 br (!(eqi v0 0))
 (K (.one (dI v0)) [])
 (rec q230_L0 (q230_S0 (w64 (x0+1)) x1 x2 x3 x4 x5 x6 x7 x8 x9 x10 x11 x12 x13 x14 x15 x16 x17 x18)))
 (br (lti 8 (len x16:Int))
 (K (.one (dI 2)) [])
 (br (lti 24 (len x17:Int))
 (K (.one (dI 2)) [])
 (rec q230_L1 (q230_S1 0 (len x16:Int) x16 x3 x4 x5 x6 x7 x8 x9 x10 x11 x12 x13 x14 x15 x16 x17 x18))))):=by subst_vars; kernel_rfl
theorem zib (x0 x1:Int) (x2:List Vm.Campaign) (x3:Int) (x4:List (List UInt8)) (x5:List Vm.Signed) (x6:List Int) (x7:Int) (x8:Bool) (x9:Int) (x10:List Int) (x11 x12:Int) (x13 x14:List Bool) (x15:List Vm.UnitD) (x16:List Vm.Campaign) (x17:List Vm.Message) (x18:Int) (rec:RK) (K:KK) v0 (hv0:v0=checkC ⟨(nth x2 (Int.toNat x0) (Ty.dflt Ty.campaign)).n,⟨((nth x2 (Int.toNat x0) (Ty.dflt Ty.campaign)).r).version,((nth x2 (Int.toNat x0) (Ty.dflt Ty.campaign)).r).til,((nth x2 (Int.toNat x0) (Ty.dflt Ty.campaign)).r).targets⟩,(nth x2 (Int.toNat x0) (Ty.dflt Ty.campaign)).images⟩ (w64 (x0+1)) (Int.toNat (len x15:Int))):segD Γ_q230 tab fn_q230 0 K rec (ent q230_L1) (q230_S1 x0 x1 x2 x3 x4 x5 x6 x7 x8 x9 x10 x11 x12 x13 x14 x15 x16 x17 x18)=(
 br (lti x0 x1)
 (((0:Int)≤x0∧x0<(len x2:Int)) ∧
 ((0:Int)≤(len x15:Int)∧(len x15:Int)≤(1000:Int)) ∧
 br (!(eqi v0 0))
 (K (.one (dI v0)) [])
 (rec q230_L1 (q230_S1 (w64 (x0+1)) x1 x2 x3 x4 x5 x6 x7 x8 x9 x10 x11 x12 x13 x14 x15 x16 x17 x18)))
 (rec q230_L2 (q230_S2 0 (len x17:Int) x17 x3 x4 x5 x6 x7 x8 x9 x10 x11 x12 x13 x14 x15 x16 x17 x18))):=by subst_vars; kernel_rfl
theorem zj8 (x0 x1:Int) (x2:List Vm.Message) (x3:Int) (x4:List (List UInt8)) (x5:List Vm.Signed) (x6:List Int) (x7:Int) (x8:Bool) (x9:Int) (x10:List Int) (x11 x12:Int) (x13 x14:List Bool) (x15:List Vm.UnitD) (x16:List Vm.Campaign) (x17:List Vm.Message) (x18:Int) (rec:RK) (K:KK) v0 (hv0:v0=checkM ⟨(nth x2 (Int.toNat x0) (Ty.dflt Ty.message)).kind,(nth x2 (Int.toNat x0) (Ty.dflt Ty.message)).unit,(nth x2 (Int.toNat x0) (Ty.dflt Ty.message)).n,(nth x2 (Int.toNat x0) (Ty.dflt Ty.message)).at_,(nth x2 (Int.toNat x0) (Ty.dflt Ty.message)).image,(nth x2 (Int.toNat x0) (Ty.dflt Ty.message)).words,(nth x2 (Int.toNat x0) (Ty.dflt Ty.message)).yes⟩):segD Γ_q230 tab fn_q230 0 K rec (ent q230_L2) (q230_S2 x0 x1 x2 x3 x4 x5 x6 x7 x8 x9 x10 x11 x12 x13 x14 x15 x16 x17 x18)=(
 br (lti x0 x1)
 (((0:Int)≤x0∧x0<(len x2:Int)) ∧
 br (!(eqi v0 0))
 (K (.one (dI v0)) [])
 (br (lei (len x15:Int) (nth x2 (Int.toNat x0) (Ty.dflt Ty.message)).unit)
 (K (.one (dI 5)) [])
 (rec q230_L2 (q230_S2 (w64 (x0+1)) x1 x2 x3 x4 x5 x6 x7 x8 x9 x10 x11 x12 x13 x14 x15 x16 x17 x18))))
 (br (lti x18 0)
 (K (.one (dI 3)) [])
 (br (lti 100000 x18)
 (K (.one (dI 3)) [])
 (K (.one (dI 0)) [])))):=by subst_vars; kernel_rfl

def endT (now:Int):Int:=if now<0∨100000<now then 3 else 0
def endM (n:Nat) (net:List Vm.Message) (now:Int):Int:=if checkMs n net=0 then endT now else checkMs n net
theorem z3y (vb:List (List UInt8)) (vs:List Vm.Signed) (ws:List Int) (fu:Int) (up:Bool) (tv:Int) (tk:List Int) (tt tn:Int) (vo di:List Bool) (us:List Vm.UnitD) (cs:List Vm.Campaign) (net:List Vm.Message) (now:Int) (hn:net.length≤24) (K:KK) (x3:Int):∀ (d k:Nat),k+d=net.length→K (.one (dI (endM us.length (net.drop k) now))) [] →
  goD Γ_q230 tab fn_q230 0 K (d+1) q230_L2 (q230_S2 (k:Int) (((len net):Nat):Int) net x3 vb vs ws fu up tv tk tt tn vo di us cs net now)
 | 0,k,hk,hK=>by
  rw [z09 (L:=q230_L2),zj8 _ _ _ _ _ _ _ _ _ _ _ _ _ _ _ _ _ _ _ _ _ _ rfl]
  rw [List.drop_of_length_le (by omega)] at hK
  refine z22 (by simp only [len]; omega) (z1a (fun h=>?_) (fun h=>z1a (fun h2=>?_) (fun h2=>?_)))
  ·rw [show endM us.length [] now=3 from (show endM us.length [] now=endT now from rfl).trans (if_pos (.inl h))] at hK; exact hK
  ·rw [show endM us.length [] now=3 from (show endM us.length [] now=endT now from rfl).trans (if_pos (.inr h2))] at hK; exact hK
  ·rw [show endM us.length [] now=0 from (show endM us.length [] now=endT now from rfl).trans (if_neg (by omega))] at hK; exact hK
 | d+1,k,hk,hK=>by
  rw [z09 (L:=q230_L2),zj8 _ _ _ _ _ _ _ _ _ _ _ _ _ _ _ _ _ _ _ _ _ _ rfl,z08,z0f (by omega)]
  rw [z0q (by omega) (Ty.dflt Ty.message)] at hK
  obtain ⟨m,hm⟩:∃ m,nth net k (Ty.dflt Ty.message)=m:=⟨_,rfl⟩
  rw [hm] at hK ⊢
  refine z2o (by simp only [len]; omega) ⟨⟨by omega,by simp only [len]; omega⟩,z1c (fun h=>?_) (fun h=>z0l (fun h2=>?_) (fun h2=>?_))⟩
  ·have e:checkMs us.length (m::net.drop (k+1))=checkM m:=if_neg h
   rw [show endM us.length (m::net.drop (k+1)) now=checkM m from by unfold endM; rw [e,if_neg h]] at hK
   exact hK
  ·rw [z1u] at h2
   have e:checkMs us.length (m::net.drop (k+1))=5:=(if_pos h).trans (if_pos h2)
   rw [show endM us.length (m::net.drop (k+1)) now=5 from by unfold endM; rw [e]; rfl] at hK
   exact hK
  ·rw [z11] at h2
   have e:checkMs us.length (m::net.drop (k+1))=checkMs us.length (net.drop (k+1)):=(if_pos h).trans (if_neg (by simp only [len] at h2; omega))
   rw [show endM us.length (m::net.drop (k+1)) now=endM us.length (net.drop (k+1)) now from by unfold endM; rw [e]] at hK
   exact z3y vb vs ws fu up tv tk tt tn vo di us cs net now hn K x3 d (k+1) (by omega) hK
def endC (n:Nat) (i:Int) (cs:List Vm.Campaign) (net:List Vm.Message) (now:Int):Int:=if checkCs n i cs=0 then endM n net now else checkCs n i cs
theorem z46 (vb:List (List UInt8)) (vs:List Vm.Signed) (ws:List Int) (fu:Int) (up:Bool) (tv:Int) (tk:List Int) (tt tn:Int) (vo di:List Bool) (us:List Vm.UnitD) (cs:List Vm.Campaign) (net:List Vm.Message) (now:Int) (hn:net.length≤24) (hc:cs.length≤8) (hu:us.length≤4) (K:KK) (x3:Int):∀ (d k:Nat),k+d=cs.length→K (.one (dI (endC us.length ((k+1:Nat):Int) (cs.drop k) net now))) [] →
  goD Γ_q230 tab fn_q230 0 K (net.length+1+d+1) q230_L1 (q230_S1 (k:Int) (((len cs):Nat):Int) cs x3 vb vs ws fu up tv tk tt tn vo di us cs net now)
 | 0,k,hk,hK=>by
  rw [z09 (L:=q230_L1),zib _ _ _ _ _ _ _ _ _ _ _ _ _ _ _ _ _ _ _ _ _ _ rfl]
  rw [List.drop_of_length_le (by omega)] at hK
  exact z22 (by simp only [len]; omega) (z3y vb vs ws fu up tv tk tt tn vo di us cs net now hn K x3 net.length 0 (by omega) hK)
 | d+1,k,hk,hK=>by
  rw [show net.length+1+(d+1)+1=(net.length+1+d+1)+1 by omega,z09 (L:=q230_L1),zib _ _ _ _ _ _ _ _ _ _ _ _ _ _ _ _ _ _ _ _ _ _ rfl,z08,z0f (by omega),z08]
  rw [z0q (by omega) (Ty.dflt Ty.campaign)] at hK
  obtain ⟨c,hm⟩:∃ c,nth cs k (Ty.dflt Ty.campaign)=c:=⟨_,rfl⟩
  rw [hm] at hK ⊢
  refine z2o (by simp only [len]; omega) ⟨⟨by omega,by simp only [len]; omega⟩,⟨by omega,by simp only [len]; omega⟩,z1c (fun h=>?_) (fun h=>?_)⟩
  ·have e:checkCs us.length ((k+1:Nat):Int) (c::cs.drop (k+1))=checkC c ((k+1:Nat):Int) us.length:=if_neg h
   rw [show endC us.length ((k+1:Nat):Int) (c::cs.drop (k+1)) net now=checkC c ((k+1:Nat):Int) us.length from by unfold endC; rw [e]; exact if_neg h] at hK
   exact hK
  ·have e:checkCs us.length ((k+1:Nat):Int) (c::cs.drop (k+1))=checkCs us.length ((k+1+1:Nat):Int) (cs.drop (k+1)):=if_pos h
   rw [show endC us.length ((k+1:Nat):Int) (c::cs.drop (k+1)) net now=endC us.length ((k+1+1:Nat):Int) (cs.drop (k+1)) net now from by unfold endC; rw [e]] at hK
   exact z46 vb vs ws fu up tv tk tt tn vo di us cs net now hn hc hu K x3 d (k+1) (by omega) hK
def endB (n:Nat) (cs:List Vm.Campaign) (net:List Vm.Message) (now:Int):Int:=if 8<cs.length∨24<net.length then 2 else endC n 1 cs net now
def endU (n:Nat) (us:List Vm.UnitD) (cs:List Vm.Campaign) (net:List Vm.Message) (now:Int):Int:=if checkUnits us=0 then endB n cs net now else checkUnits us
theorem z3v (vb:List (List UInt8)) (vs:List Vm.Signed) (ws:List Int) (fu:Int) (up:Bool) (tv:Int) (tk:List Int) (tt tn:Int) (vo di:List Bool) (us:List Vm.UnitD) (cs:List Vm.Campaign) (net:List Vm.Message) (now:Int) (hu:us.length≤4) (K:KK) (x3:Int) (q:Nat) (hq:net.length≤24→cs.length≤8→q=net.length+1+cs.length):∀ (d k:Nat),k+d=us.length→K (.one (dI (endU us.length (us.drop k) cs net now))) [] →
  goD Γ_q230 tab fn_q230 0 K (q+1+d+1) q230_L0 (q230_S0 (k:Int) (((len us):Nat):Int) us x3 vb vs ws fu up tv tk tt tn vo di us cs net now)
 | 0,k,hk,hK=>by
  rw [z09 (L:=q230_L0),zji _ _ _ _ _ _ _ _ _ _ _ _ _ _ _ _ _ _ _ _ _ _ rfl]
  rw [List.drop_of_length_le (by omega)] at hK
  refine z22 (by simp only [len]; omega) (z1a (fun h=>?_) (fun h=>z1a (fun h2=>?_) (fun h2=>?_)))
  ·rw [show endU us.length [] cs net now=2 from (show endU us.length [] cs net now=endB us.length cs net now from rfl).trans (if_pos (.inl (by simp only [len] at h; omega)))] at hK; exact hK
  ·rw [show endU us.length [] cs net now=2 from (show endU us.length [] cs net now=endB us.length cs net now from rfl).trans (if_pos (.inr (by simp only [len] at h2; omega)))] at hK; exact hK
  ·rw [show endU us.length [] cs net now=endC us.length 1 cs net now from (show endU us.length [] cs net now=endB us.length cs net now from rfl).trans (if_neg (by simp only [len] at h h2; omega))] at hK
   have a:net.length≤24:=by simp only [len] at h2; omega
   have b:cs.length≤8:=by simp only [len] at h; omega
   rw [hq a b]
   exact z46 vb vs ws fu up tv tk tt tn vo di us cs net now a b hu K x3 cs.length 0 (by omega) hK
 | d+1,k,hk,hK=>by
  rw [show q+1+(d+1)+1=(q+1+d+1)+1 by omega,z09 (L:=q230_L0),zji _ _ _ _ _ _ _ _ _ _ _ _ _ _ _ _ _ _ _ _ _ _ rfl,z08,z0f (by omega)]
  rw [z0q (by omega) (Ty.dflt Ty.unitd)] at hK
  obtain ⟨u,hm⟩:∃ u,nth us k (Ty.dflt Ty.unitd)=u:=⟨_,rfl⟩
  rw [hm] at hK ⊢
  refine z2o (by simp only [len]; omega) ⟨⟨by omega,by simp only [len]; omega⟩,z1c (fun h=>?_) (fun h=>?_)⟩
  ·have e:checkUnits (u::us.drop (k+1))=z14 u:=if_neg h
   rw [show endU us.length (u::us.drop (k+1)) cs net now=z14 u from by unfold endU; rw [e]; exact if_neg h] at hK
   exact hK
  ·have e:checkUnits (u::us.drop (k+1))=checkUnits (us.drop (k+1)):=if_pos h
   rw [show endU us.length (u::us.drop (k+1)) cs net now=endU us.length (us.drop (k+1)) cs net now from by unfold endU; rw [e]] at hK
   exact z3v vb vs ws fu up tv tk tt tn vo di us cs net now hu K x3 q hq d (k+1) (by omega) hK
theorem run_q230 (K:KK) (hK:K (.one (dI (checkV ⟨vb,vs,⟨⟨ws,fu⟩,up,⟨⟨tv,tk,tt⟩,tn⟩,vo,di⟩,us,cs,net,now⟩))) []):GD Γ_q230 fn_q230 0 K [.agg (aV vb vs ws fu up tv tk tt tn vo di (.dat (Ty.list Ty.unitd) us) (.dat (Ty.list Ty.campaign) cs) (dM net) now)] []:=by
 refine ⟨(net.length+1+cs.length)+1+us.length+2,?_⟩
 rw [z02,q230_vc _ _ _ _ _ _ _ _ _ _ _ _ _ _ _ _ _ _ rfl _ rfl _ rfl]
 unfold checkV at hK
 simp only at hK
 refine z1c (fun h=>?_) (fun h=>z1c (fun h2=>?_) (fun h2=>z1c (fun h3=>?_) (fun h3=>z1c (fun h4=>?_) (fun h4=>?_))))
 ·rw [if_neg h] at hK; exact hK
 ·rw [if_pos h,if_neg h2] at hK; exact hK
 ·rw [if_pos h,if_pos h2,if_neg h3] at hK; exact hK
 ·rw [if_pos h,if_pos h2,if_pos h3,if_neg (by simp only [len] at h4; omega)] at hK; exact hK
 ·rw [if_pos h,if_pos h2,if_pos h3,if_pos (by simp only [len] at h4; omega)] at hK
  obtain ⟨_,a,b,_⟩:=z0n h3
  simp only at a b
  exact z3v vb vs ws fu up tv tk tt tn vo di us cs net now (by simp only [len] at h4; omega) K 0 (net.length+1+cs.length) (fun _ _=>rfl) us.length 0 (by omega) hK
theorem sound_q230:z03 Tryz.prog tab n_q230 c_q230:=z01 ok_q230 hg_q230 (by
 intro vs bs p v bs' h hp
 unfold c_q230 at h
 split at h
 ·cases h
  exact ⟨by kernel_rfl,rfl,.inl (run_q230 _ _ _ _ _ _ _ _ _ _ _ _ _ _ _ _ ⟨rfl,rfl⟩)⟩
 ·cases h)

abbrev n_q159:Nat:=n_q7
noncomputable abbrev fn_q159:Func:=fn_q7
theorem hg_q159:FnOk Tryz.prog n_q159 fn_q159:=hg_q7
def c_q159:z00:=fun vs bs=>match vs,bs with
 | [.agg [.dat (.list .int) ws,.dat .int fu]],[]=>some (some (len ws*8≤140737488355328),.agg [dL ws,dI fu],[])
 | _,_=>none
def Γ_q159:Ctx:=[(n_q2,c_q2)]
theorem ok_q159:Ok Tryz.prog tab Γ_q159:=(ok_nil.c hg_q2 sound_q2)
theorem q159_vc (ws:List Int) (fu:Int) (rec:RK) (K:KK):segD Γ_q159 tab fn_q159 0 K rec [.code (z05 fn_q159)] (z07 [.agg [dL ws,dI fu]] [])=(
 len ws*8≤140737488355328 ∧
 K (.agg [dL ws,dI fu]) []):=by kernel_rfl

theorem run_q159 (hp:len ws*8≤140737488355328) (K:KK) (hK:K (.agg [dL ws,dI fu]) []):GD Γ_q159 fn_q159 0 K [.agg [dL ws,dI fu]] []:=by
 refine ⟨1,?_⟩
 rw [z02,q159_vc _ _ _ _]
 exact ⟨hp,hK⟩
theorem sound_q159:z03 Tryz.prog tab n_q159 c_q159:=z01 ok_q159 hg_q159 (by
 intro vs bs p v bs' h hp
 unfold c_q159 at h
 split at h
 ·cases h
  exact ⟨by kernel_rfl,rfl,.inl (run_q159 _ _ hp.1 _ ⟨rfl,rfl⟩)⟩
 ·cases h)

def c_q161:z00:=fun vs bs=>match vs,bs with
 | [.one (.dat (.list .bool) l)],[]=>some (some (len l≤1000),.one (.own 0),[.arr .bool l])
 | _,_=>none
def Γ_q161:Ctx:=[]
theorem ok_q161:Ok Tryz.prog tab Γ_q161:=ok_nil
theorem q161_vc (l:List Bool) (rec:RK) (K:KK):segO Γ_q161 tab fn_q161 0 K rec [.code (z05 fn_q161)] (z07 [.one (dLb l)] [])=(
 (∀ bn:Bool,(bn=true→len l=0)→br bn
 (K (.one (.own 0)) [.arr Ty.bool []])
 ((0+len l)*1≤140737488355328 ∧
 K (.one (.own 0)) [.arr Ty.bool (cat [] l)]))):=by kernel_rfl

theorem run_q161 (l:List Bool) (hp:len l≤1000) (K:KK) (hK:K (.one (.own 0)) [.arr .bool l]):GO Γ_q161 fn_q161 0 K [.one (dLb l)] []:=by
 refine ⟨1,?_⟩
 rw [z1i,q161_vc _ _ _]
 intro bn hb
 refine z0l (fun h=>?_) (fun h=>⟨by simp only [len] at hp ⊢; omega,hK⟩)
 have:l=[]:=List.length_eq_zero_iff.1 (hb h)
 subst this
 exact hK
theorem sound_q161:z03 Tryz.prog tab n_q161 c_q161:=z01 ok_q161 hg_q161 (by
 intro vs bs p v bs' h hp
 unfold c_q161 at h
 split at h
 ·cases h
  exact ⟨by kernel_rfl,rfl,.inr (.inl (run_q161 _ hp.1 _ ⟨rfl,rfl⟩))⟩
 ·cases h)

abbrev n_q225:Nat:=n_q171
noncomputable abbrev fn_q225:Func:=fn_q171
theorem hg_q225:FnOk Tryz.prog n_q225 fn_q225:=hg_q171
def c_q225:z00:=fun vs bs=>match vs,bs with
 | [.agg [.dat (.list .int) ws,.dat .int fu,.dat .bool up,.dat .int tv,.dat (.list .int) tk,.dat .int tt,.dat .int tn,.dat (.list .bool) vo,.dat (.list .bool) di]],[]=>some (some (len ws*8≤140737488355328∧len tk*8≤140737488355328∧len vo≤1000∧len di≤1000),.agg [dL ws,dI fu,dB up,dI tv,dL tk,dI tt,dI tn,dLb vo,dLb di],[])
 | _,_=>none
def Γ_q225:Ctx:=[(n_q159,c_q159),(n_q160,c_q160),(n_q161,c_q161)]
theorem ok_q225:Ok Tryz.prog tab Γ_q225:=(((ok_nil.c hg_q161 sound_q161).c hg_q160 sound_q160).c hg_q159 sound_q159)
theorem q225_vc (ws:List Int) (fu:Int) (up:Bool) (tv:Int) (tk:List Int) (tt tn:Int) (vo di:List Bool) (rec:RK) (K:KK):segD Γ_q225 tab fn_q225 0 K rec [.code (z05 fn_q225)] (z07 [.agg [dL ws,dI fu,dB up,dI tv,dL tk,dI tt,dI tn,dLb vo,dLb di]] [])=(
 len ws*8≤140737488355328 ∧
 len tk*8≤140737488355328 ∧
 len vo≤1000 ∧
 len di≤1000 ∧
 K (.agg [dL ws,dI fu,dB up,dI tv,dL tk,dI tt,dI tn,dLb vo,dLb di]) []):=by kernel_rfl

theorem run_q225 (hp:len ws*8≤140737488355328∧len tk*8≤140737488355328∧len vo≤1000∧len di≤1000) (K:KK) (hK:K (.agg [dL ws,dI fu,dB up,dI tv,dL tk,dI tt,dI tn,dLb vo,dLb di]) []):GD Γ_q225 fn_q225 0 K [.agg [dL ws,dI fu,dB up,dI tv,dL tk,dI tt,dI tn,dLb vo,dLb di]] []:=by
 refine ⟨1,?_⟩
 rw [z02,q225_vc _ _ _ _ _ _ _ _ _ _ _]
 exact ⟨hp.1,hp.2.1,hp.2.2.1,hp.2.2.2,hK⟩
theorem sound_q225:z03 Tryz.prog tab n_q225 c_q225:=z01 ok_q225 hg_q225 (by
 intro vs bs p v bs' h hp
 unfold c_q225 at h
 split at h
 ·cases h
  exact ⟨by kernel_rfl,rfl,.inl (run_q225 _ _ _ _ _ _ _ _ _ hp.1 _ ⟨rfl,rfl⟩)⟩
 ·cases h)

def c_q218:z00:=fun vs bs=>match vs,bs with
 | [.one (.dat (.list .unitd) l)],[]=>some (some (len l*56≤140737488355328),.one (.own 0),[.arr .unitd l])
 | _,_=>none
def Γ_q218:Ctx:=[]
theorem ok_q218:Ok Tryz.prog tab Γ_q218:=ok_nil
theorem q218_vc (l:List UnitD) (rec:RK) (K:KK):segO Γ_q218 tab fn_q218 0 K rec [.code (z05 fn_q218)] (z07 [.one (.dat (Ty.list Ty.unitd) l)] [])=(
 (∀ bn:Bool,(bn=true→len l=0)→br bn
 (K (.one (.own 0)) [.arr Ty.unitd []])
 ((0+len l)*56≤140737488355328 ∧
 K (.one (.own 0)) [.arr Ty.unitd (cat [] l)]))):=by kernel_rfl

theorem run_q218 (l:List Vm.UnitD) (hp:len l*56≤140737488355328) (K:KK) (hK:K (.one (.own 0)) [.arr .unitd l]):GO Γ_q218 fn_q218 0 K [.one (.dat (Ty.list Ty.unitd) l)] []:=by
 refine ⟨1,?_⟩
 rw [z1i,q218_vc _ _ _]
 intro bn hb
 refine z0l (fun h=>?_) (fun h=>⟨by simp only [len] at hp ⊢; omega,hK⟩)
 have:l=[]:=List.length_eq_zero_iff.1 (hb h)
 subst this
 exact hK
theorem sound_q218:z03 Tryz.prog tab n_q218 c_q218:=z01 ok_q218 hg_q218 (by
 intro vs bs p v bs' h hp
 unfold c_q218 at h
 split at h
 ·cases h
  exact ⟨by kernel_rfl,rfl,.inr (.inl (run_q218 _ hp.1 _ ⟨rfl,rfl⟩))⟩
 ·cases h)

def c_q136:z00:=fun vs bs=>match vs,bs with
 | [.agg [.dat (.list .int) ws,.dat .int fu,.dat .bool up,.dat .int un,.dat .int ug]],[]=>some (some (len ws*8≤140737488355328),.agg [dL ws,dI fu,dB up,dI un,dI ug],[])
 | _,_=>none
def Γ_q136:Ctx:=[(n_q7,c_q7)]
theorem ok_q136:Ok Tryz.prog tab Γ_q136:=(ok_nil.c hg_q7 sound_q7)
theorem q136_vc (ws:List Int) (fu:Int) (up:Bool) (un ug:Int) (rec:RK) (K:KK):segD Γ_q136 tab fn_q136 0 K rec [.code (z05 fn_q136)] (z07 [.agg [dL ws,dI fu,dB up,dI un,dI ug]] [])=(
 len ws*8≤140737488355328 ∧
 K (.agg [dL ws,dI fu,dB up,dI un,dI ug]) []):=by kernel_rfl

theorem run_q136 (hp:len ws*8≤140737488355328) (K:KK) (hK:K (.agg [dL ws,dI fu,dB up,dI un,dI ug]) []):GD Γ_q136 fn_q136 0 K [.agg [dL ws,dI fu,dB up,dI un,dI ug]] []:=by
 refine ⟨1,?_⟩
 rw [z02,q136_vc _ _ _ _ _ _ _]
 exact ⟨hp,hK⟩
theorem sound_q136:z03 Tryz.prog tab n_q136 c_q136:=z01 ok_q136 hg_q136 (by
 intro vs bs p v bs' h hp
 unfold c_q136 at h
 split at h
 ·cases h
  exact ⟨by kernel_rfl,rfl,.inl (run_q136 _ _ _ _ _ hp.1 _ ⟨rfl,rfl⟩)⟩
 ·cases h)

def c_q219:z00:=fun vs bs=>match vs,bs with
 | [.one (.dat (.list .campaign) l)],[]=>some (some (len l*72≤140737488355328),.one (.own 0),[.arr .campaign l])
 | _,_=>none
def Γ_q219:Ctx:=[]
theorem ok_q219:Ok Tryz.prog tab Γ_q219:=ok_nil
theorem q219_vc (l:List Campaign) (rec:RK) (K:KK):segO Γ_q219 tab fn_q219 0 K rec [.code (z05 fn_q219)] (z07 [.one (.dat (Ty.list Ty.campaign) l)] [])=(
 (∀ bn:Bool,(bn=true→len l=0)→br bn
 (K (.one (.own 0)) [.arr Ty.campaign []])
 ((0+len l)*72≤140737488355328 ∧
 K (.one (.own 0)) [.arr Ty.campaign (cat [] l)]))):=by kernel_rfl

theorem run_q219 (l:List Vm.Campaign) (hp:len l*72≤140737488355328) (K:KK) (hK:K (.one (.own 0)) [.arr .campaign l]):GO Γ_q219 fn_q219 0 K [.one (.dat (Ty.list Ty.campaign) l)] []:=by
 refine ⟨1,?_⟩
 rw [z1i,q219_vc _ _ _]
 intro bn hb
 refine z0l (fun h=>?_) (fun h=>⟨by simp only [len] at hp ⊢; omega,hK⟩)
 have:l=[]:=List.length_eq_zero_iff.1 (hb h)
 subst this
 exact hK
theorem sound_q219:z03 Tryz.prog tab n_q219 c_q219:=z01 ok_q219 hg_q219 (by
 intro vs bs p v bs' h hp
 unfold c_q219 at h
 split at h
 ·cases h
  exact ⟨by kernel_rfl,rfl,.inr (.inl (run_q219 _ hp.1 _ ⟨rfl,rfl⟩))⟩
 ·cases h)

abbrev n_q224:Nat:=n_slices_Clone_LTarget
noncomputable abbrev fn_q224:Func:=fn_slices_Clone_LTarget
theorem hg_q224:FnOk Tryz.prog n_q224 fn_q224:=hg_slices_Clone_LTarget
def c_q224:z00:=fun vs bs=>match vs,bs with
 | [.one (.dat (.list .target) l)],[]=>some (some (len l*24≤140737488355328),.one (.dat (.list .target) l),[])
 | _,_=>none
def Γ_q224:Ctx:=[]
theorem ok_q224:Ok Tryz.prog tab Γ_q224:=ok_nil
theorem q224_vc (l:List Vm.Target) (rec:RK) (K:KK):segD Γ_q224 tab fn_q224 0 K rec [.code (z05 fn_q224)] (z07 [.one (.dat (Ty.list Ty.target) l)] [])=(
 (∀ bn:Bool,(bn=true→len l=0)→br bn
 (K (.one (.dat (Ty.list Ty.target) [])) [])
 ((0+len l)*24≤140737488355328 ∧
 K (.one (.dat (Ty.list Ty.target) (cat [] l))) []))):=by kernel_rfl

theorem run_q224 (l:List Vm.Target) (hp:len l*24≤140737488355328) (K:KK) (hK:K (.one (.dat (.list .target) l)) []):GD Γ_q224 fn_q224 0 K [.one (.dat (.list .target) l)] []:=by
 refine ⟨1,?_⟩
 rw [z02,q224_vc _ _ _]
 intro bn hb
 refine z0l (fun h=>?_) (fun h=>⟨by simp only [len] at hp ⊢; omega,hK⟩)
 have:l=[]:=List.length_eq_zero_iff.1 (hb h)
 subst this
 exact hK
theorem sound_q224:z03 Tryz.prog tab n_q224 c_q224:=z01 ok_q224 hg_q224 (by
 intro vs bs p v bs' h hp
 unfold c_q224 at h
 split at h
 ·cases h
  exact ⟨by kernel_rfl,rfl,.inl (run_q224 _ hp.1 _ ⟨rfl,rfl⟩)⟩
 ·cases h)

def c_q221:z00:=fun vs bs=>match vs,bs with
 | [.one (.dat (.list (.list .int)) l)],[]=>some (some (len l*24≤140737488355328),.one (.own 0),[.arr (.list .int) l])
 | _,_=>none
def Γ_q221:Ctx:=[]
theorem ok_q221:Ok Tryz.prog tab Γ_q221:=ok_nil
theorem q221_vc (l:List (List Int)) (rec:RK) (K:KK):segO Γ_q221 tab fn_q221 0 K rec [.code (z05 fn_q221)] (z07 [.one (dR l)] [])=(
 (∀ bn:Bool,(bn=true→len l=0)→br bn
 (K (.one (.own 0)) [.arr (Ty.list Ty.int) []])
 ((0+len l)*24≤140737488355328 ∧
 K (.one (.own 0)) [.arr (Ty.list Ty.int) (cat [] l)]))):=by kernel_rfl

theorem run_q221 (l:List (List Int)) (hp:len l*24≤140737488355328) (K:KK) (hK:K (.one (.own 0)) [.arr (.list .int) l]):GO Γ_q221 fn_q221 0 K [.one (dR l)] []:=by
 refine ⟨1,?_⟩
 rw [z1i,q221_vc _ _ _]
 intro bn hb
 refine z0l (fun h=>?_) (fun h=>⟨by simp only [len] at hp ⊢; omega,hK⟩)
 have:l=[]:=List.length_eq_zero_iff.1 (hb h)
 subst this
 exact hK
theorem sound_q221:z03 Tryz.prog tab n_q221 c_q221:=z01 ok_q221 hg_q221 (by
 intro vs bs p v bs' h hp
 unfold c_q221 at h
 split at h
 ·cases h
  exact ⟨by kernel_rfl,rfl,.inr (.inl (run_q221 _ hp.1 _ ⟨rfl,rfl⟩))⟩
 ·cases h)

def c_q226:z00:=fun vs bs=>match vs,bs with
 | [.one (.dat (.list (.list .int)) l)],[]=>some (some (len l≤1000∧smW l=true),.one (dR l),[])
 | _,_=>none
def Γ_q226:Ctx:=[(n_q221,c_q221),(n_q160,c_q160)]
theorem ok_q226:Ok Tryz.prog tab Γ_q226:=((ok_nil.c hg_q160 sound_q160).c hg_q221 sound_q221)
noncomputable def q226_L0:List It:=[.inLoop [9,8,7,2,0] (cSub fn_q226 [1,1,0,1,0,0]),.inBlock 0,.code (cSub fn_q226 [1,1,1])]
def q226_S0 (x0 x1:Int) (x2 x3:List (List Int)):St:=⟨[(9,.one (dI x0)),(8,.one (dI x1)),(7,.one (.own 0)),(2,.one (.own 1)),(0,.one (.own 0))],[(0,.arr (Ty.list Ty.int) x2),(1,.arr (Ty.list Ty.int) x3)],2⟩
theorem q226_vc (l:List (List Int)) (rec:RK) (K:KK):segD Γ_q226 tab fn_q226 0 K rec [.code (z05 fn_q226)] (z07 [.one (dR l)] [])=(
 len l*24≤140737488355328 ∧
 rec q226_L0 (q226_S0 0 (len l:Int) l [])):=by kernel_rfl
theorem zhz (x0 x1:Int) (x2 x3:List (List Int)) (rec:RK) (K:KK):segD Γ_q226 tab fn_q226 0 K rec (ent q226_L0) (q226_S0 x0 x1 x2 x3)=(
 br (lti x0 x1)
 (((0:Int)≤x0∧x0<(len x2:Int)) ∧
 Int.toNat x0<len x2 ∧
 len (nth x2 (Int.toNat x0) (Ty.dflt (Ty.list Ty.int)))*8≤140737488355328 ∧
 ((0:Int)≤x0∧x0<(len x2:Int)) ∧
 Int.toNat x0<len x2 ∧
 rec q226_L0 (q226_S0 (w64 (x0+1)) x1 (setAt x2 (Int.toNat x0) (nth x2 (Int.toNat x0) (Ty.dflt (Ty.list Ty.int)))) x3))
 (K (.one (dR x2)) [])):=by kernel_rfl

theorem zga (l:List (List Int)) (hl:l.length≤1000) (hs:smW l=true) (K:KK) (x3:List (List Int)) (hK:K (.one (dR l)) []):∀ (d k:Nat),k+d=l.length →
  goD Γ_q226 tab fn_q226 0 K (d+1) q226_L0 (q226_S0 (k:Int) (((len l):Nat):Int) l x3)
 | 0,k,hk=>by
  rw [z09 (L:=q226_L0),zhz _ _ _ _ _ _]
  exact z22 (by simp only [len]; omega) hK
 | d+1,k,hk=>by
  rw [z09 (L:=q226_L0),zhz _ _ _ _ _ _,z08,z0f (by omega),z6h (by omega)]
  have hm:(nth l k (Ty.dflt (Ty.list Ty.int))).length≤1000:=of_decide_eq_true (List.all_eq_true.1 hs _ (z1g (by omega) _))
  refine z2o (by simp only [len]; omega) ⟨⟨by omega,by simp only [len]; omega⟩,by simp only [len]; omega,by simp only [len]; omega,⟨by omega,by simp only [len]; omega⟩,by simp only [len]; omega,?_⟩
  exact zga l hl hs K x3 hK d (k+1) (by omega)
theorem run_q226 (l:List (List Int)) (hp:len l≤1000∧smW l=true) (K:KK) (hK:K (.one (dR l)) []):GD Γ_q226 fn_q226 0 K [.one (dR l)] []:=by
 refine ⟨l.length+2,?_⟩
 rw [z02,q226_vc _ _ _]
 exact ⟨by omega,zga l hp.1 hp.2 K [] hK l.length 0 (by omega)⟩
theorem sound_q226:z03 Tryz.prog tab n_q226 c_q226:=z01 ok_q226 hg_q226 (by
 intro vs bs p v bs' h hp
 unfold c_q226 at h
 split at h
 ·cases h
  exact ⟨by kernel_rfl,rfl,.inl (run_q226 _ hp.1 _ ⟨rfl,rfl⟩)⟩
 ·cases h)

def c_q220:z00:=fun vs bs=>match vs,bs with
 | [.one (.dat (.list .message) l)],[]=>some (some (len l*72≤140737488355328),.one (.own 0),[.arr .message l])
 | _,_=>none
def Γ_q220:Ctx:=[]
theorem ok_q220:Ok Tryz.prog tab Γ_q220:=ok_nil
theorem q220_vc (l:List Message) (rec:RK) (K:KK):segO Γ_q220 tab fn_q220 0 K rec [.code (z05 fn_q220)] (z07 [.one (dM l)] [])=(
 (∀ bn:Bool,(bn=true→len l=0)→br bn
 (K (.one (.own 0)) [.arr Ty.message []])
 ((0+len l)*72≤140737488355328 ∧
 K (.one (.own 0)) [.arr Ty.message (cat [] l)]))):=by kernel_rfl

theorem run_q220 (l:List Vm.Message) (hp:len l*72≤140737488355328) (K:KK) (hK:K (.one (.own 0)) [.arr .message l]):GO Γ_q220 fn_q220 0 K [.one (dM l)] []:=by
 refine ⟨1,?_⟩
 rw [z1i,q220_vc _ _ _]
 intro bn hb
 refine z0l (fun h=>?_) (fun h=>⟨by simp only [len] at hp ⊢; omega,hK⟩)
 have:l=[]:=List.length_eq_zero_iff.1 (hb h)
 subst this
 exact hK
theorem sound_q220:z03 Tryz.prog tab n_q220 c_q220:=z01 ok_q220 hg_q220 (by
 intro vs bs p v bs' h hp
 unfold c_q220 at h
 split at h
 ·cases h
  exact ⟨by kernel_rfl,rfl,.inr (.inl (run_q220 _ hp.1 _ ⟨rfl,rfl⟩))⟩
 ·cases h)

def c_q231:z00:=fun vs bs=>match vs,bs with
 | [.agg [.dat (.list .str) vb,.dat (.list .signed) vs,.dat (.list .int) ws,.dat .int fu,.dat .bool up,.dat .int tv,.dat (.list .int) tk,.dat .int tt,.dat .int tn,.dat (.list .bool) vo,.dat (.list .bool) di,.dat (.list .unitd) us,.dat (.list .campaign) cs,.dat (.list .message) net,.dat .int now]],[]=>some (some (okW ⟨vb,vs,⟨⟨ws,fu⟩,up,⟨⟨tv,tk,tt⟩,tn⟩,vo,di⟩,us,cs,net,now⟩=true),.agg (aV vb vs ws fu up tv tk tt tn vo di (.own 0) (.own 1) (.own 2) now),[.arr .unitd us,.arr .campaign cs,.arr .message net])
 | _,_=>none
def Γ_q231:Ctx:=[(n_q222,c_q222),(n_q223,c_q223),(n_q225,c_q225),(n_q218,c_q218),(n_q136,c_q136),(n_q219,c_q219),(n_q224,c_q224),(n_q226,c_q226),(n_q220,c_q220),(n_q160,c_q160)]
theorem ok_q231:Ok Tryz.prog tab Γ_q231:=((((((((((ok_nil.c hg_q160 sound_q160).c hg_q220 sound_q220).c hg_q226 sound_q226).c hg_q224 sound_q224).c hg_q219 sound_q219).c hg_q136 sound_q136).c hg_q218 sound_q218).c hg_q225 sound_q225).c hg_q223 sound_q223).c hg_q222 sound_q222)
noncomputable def q231_L0:List It:=[.inLoop [30,29,28,2,1] (cSub fn_q231 [1,1,1,1,0,1,0,0]),.inBlock 0,.code (cSub fn_q231 [1,1,1,1,1])]
def q231_S0 (x0 x1:Int) (x2:List Vm.UnitD) (x3:Int) (x4:Bool) (x5 x6 x7 x8:Int) (x9:List (List UInt8)) (x10:List Vm.Signed) (x11:List Int) (x12:Int) (x13:Bool) (x14:Int) (x15:List Int) (x16 x17:Int) (x18 x19:List Bool) (x20:List Vm.Campaign) (x21:List Vm.Message) (x22:Int) (x23:List (List UInt8)) (x24:List Vm.Signed) (x25 x26:List Int) (x27 x28:List Bool) (x29:List Vm.UnitD) (x30:List Vm.Campaign) (x31:List Vm.Message):St:=⟨[(30,.one (dI x0)),(29,.one (dI x1)),(28,.one (.own 0)),(2,.one (.ptr 1 0)),(1,.one (.ptr 2 0))],[(0,.arr Ty.unitd x2),(1,.box [.own 3,.own 4,.own 5,dI x3,dB x4,dI x5,.own 6,dI x6,dI x7,.own 7,.own 8,.own 9,.own 10,.own 11,dI x8]),(2,.box [.dat (Ty.list Ty.str) x9,.dat (Ty.list Ty.signed) x10,dL x11,dI x12,dB x13,dI x14,dL x15,dI x16,dI x17,dLb x18,dLb x19,.own 0,.dat (Ty.list Ty.campaign) x20,dM x21,dI x22]),(3,.arr Ty.str x23),(4,.arr Ty.signed x24),(5,.arr Ty.int x25),(6,.arr Ty.int x26),(7,.arr Ty.bool x27),(8,.arr Ty.bool x28),(9,.arr Ty.unitd x29),(10,.arr Ty.campaign x30),(11,.arr Ty.message x31)],12⟩
noncomputable def q231_L1:List It:=[.inLoop [49,48,47,2,1] (cSub fn_q231 [1,1,1,1,1,1,0,1,0,0]),.inBlock 2,.code (cSub fn_q231 [1,1,1,1,1,1,1])]
def q231_S1 (x0 x1:Int) (x2:List Vm.Campaign) (x3:Int) (x4:Bool) (x5 x6 x7 x8:Int) (x9:List (List UInt8)) (x10:List Vm.Signed) (x11:List Int) (x12:Int) (x13:Bool) (x14:Int) (x15:List Int) (x16 x17:Int) (x18 x19:List Bool) (x20:List Vm.Message) (x21:Int) (x22:List (List UInt8)) (x23:List Vm.Signed) (x24 x25:List Int) (x26 x27:List Bool) (x28:List Vm.UnitD) (x29:List Vm.Campaign) (x30:List Vm.Message) (x31:List Vm.UnitD):St:=⟨[(49,.one (dI x0)),(48,.one (dI x1)),(47,.one (.own 0)),(2,.one (.ptr 1 0)),(1,.one (.ptr 2 0))],[(0,.arr Ty.campaign x2),(1,.box [.own 3,.own 4,.own 5,dI x3,dB x4,dI x5,.own 6,dI x6,dI x7,.own 7,.own 8,.own 9,.own 10,.own 11,dI x8]),(2,.box [.dat (Ty.list Ty.str) x9,.dat (Ty.list Ty.signed) x10,dL x11,dI x12,dB x13,dI x14,dL x15,dI x16,dI x17,dLb x18,dLb x19,.own 12,.own 0,dM x20,dI x21]),(3,.arr Ty.str x22),(4,.arr Ty.signed x23),(5,.arr Ty.int x24),(6,.arr Ty.int x25),(7,.arr Ty.bool x26),(8,.arr Ty.bool x27),(9,.arr Ty.unitd x28),(10,.arr Ty.campaign x29),(11,.arr Ty.message x30),(12,.arr Ty.unitd x31)],13⟩
noncomputable def q231_L2:List It:=[.inLoop [80,79,78,2,1] (cSub fn_q231 [1,1,1,1,1,1,1,1,0,1,0,0]),.inBlock 4,.code (cSub fn_q231 [1,1,1,1,1,1,1,1,1])]
def q231_S2 (x0 x1:Int) (x2:List Vm.Message) (x3:Int) (x4:Bool) (x5 x6 x7 x8:Int) (x9:List (List UInt8)) (x10:List Vm.Signed) (x11:List Int) (x12:Int) (x13:Bool) (x14:Int) (x15:List Int) (x16 x17:Int) (x18 x19:List Bool) (x20:Int) (x21:List (List UInt8)) (x22:List Vm.Signed) (x23 x24:List Int) (x25 x26:List Bool) (x27:List Vm.UnitD) (x28:List Vm.Campaign) (x29:List Vm.Message) (x30:List Vm.UnitD) (x31:List Vm.Campaign):St:=⟨[(80,.one (dI x0)),(79,.one (dI x1)),(78,.one (.own 0)),(2,.one (.ptr 1 0)),(1,.one (.ptr 2 0))],[(0,.arr Ty.message x2),(1,.box [.own 3,.own 4,.own 5,dI x3,dB x4,dI x5,.own 6,dI x6,dI x7,.own 7,.own 8,.own 9,.own 10,.own 11,dI x8]),(2,.box [.dat (Ty.list Ty.str) x9,.dat (Ty.list Ty.signed) x10,dL x11,dI x12,dB x13,dI x14,dL x15,dI x16,dI x17,dLb x18,dLb x19,.own 12,.own 13,.own 0,dI x20]),(3,.arr Ty.str x21),(4,.arr Ty.signed x22),(5,.arr Ty.int x23),(6,.arr Ty.int x24),(7,.arr Ty.bool x25),(8,.arr Ty.bool x26),(9,.arr Ty.unitd x27),(10,.arr Ty.campaign x28),(11,.arr Ty.message x29),(12,.arr Ty.unitd x30),(13,.arr Ty.campaign x31)],14⟩
theorem q231_vc (vb:List (List UInt8)) (vs:List Signed) (ws:List Int) (fu:Int) (up:Bool) (tv:Int) (tk:List Int) (tt tn:Int) (vo di:List Bool) (us:List UnitD) (cs:List Campaign) (net:List Message) (now:Int) (rec:RK) (K:KK):segO Γ_q231 tab fn_q231 0 K rec [.code (z05 fn_q231)] (z07 [.agg (aV vb vs ws fu up tv tk tt tn vo di (.dat (Ty.list Ty.unitd) us) (.dat (Ty.list Ty.campaign) cs) (dM net) now)] [])=(
 len vb*16≤140737488355328 ∧
 len vs*16≤140737488355328 ∧
 (len ws*8≤140737488355328∧len tk*8≤140737488355328∧len vo≤1000∧len di≤1000) ∧
 len us*56≤140737488355328 ∧
 rec q231_L0 (q231_S0 0 (len us:Int) us 0 false 0 0 0 0 vb vs ws fu up tv tk tt tn vo di cs net now [] [] [] [] [] [] [] [] [])):=by kernel_rfl
theorem zhl (x0 x1:Int) (x2:List Vm.UnitD) (x3:Int) (x4:Bool) (x5 x6 x7 x8:Int) (x9:List (List UInt8)) (x10:List Vm.Signed) (x11:List Int) (x12:Int) (x13:Bool) (x14:Int) (x15:List Int) (x16 x17:Int) (x18 x19:List Bool) (x20:List Vm.Campaign) (x21:List Vm.Message) (x22:Int) (x23:List (List UInt8)) (x24:List Vm.Signed) (x25 x26:List Int) (x27 x28:List Bool) (x29:List Vm.UnitD) (x30:List Vm.Campaign) (x31:List Vm.Message) (rec:RK) (K:KK):segO Γ_q231 tab fn_q231 0 K rec (ent q231_L0) (q231_S0 x0 x1 x2 x3 x4 x5 x6 x7 x8 x9 x10 x11 x12 x13 x14 x15 x16 x17 x18 x19 x20 x21 x22 x23 x24 x25 x26 x27 x28 x29 x30 x31)=(
 br (lti x0 x1)
 (((0:Int)≤x0∧x0<(len x2:Int)) ∧
 Int.toNat x0<len x2 ∧
 len ((nth x2 (Int.toNat x0) (Ty.dflt Ty.unitd)).f).words*8≤140737488355328 ∧
 ((0:Int)≤x0∧x0<(len x2:Int)) ∧
 Int.toNat x0<len x2 ∧
 rec q231_L0 (q231_S0 (w64 (x0+1)) x1 (setAt x2 (Int.toNat x0) ⟨⟨((nth x2 (Int.toNat x0) (Ty.dflt Ty.unitd)).f).words,((nth x2 (Int.toNat x0) (Ty.dflt Ty.unitd)).f).fuel⟩,(nth x2 (Int.toNat x0) (Ty.dflt Ty.unitd)).up,(nth x2 (Int.toNat x0) (Ty.dflt Ty.unitd)).n,(nth x2 (Int.toNat x0) (Ty.dflt Ty.unitd)).got⟩) x3 x4 x5 x6 x7 x8 x9 x10 x11 x12 x13 x14 x15 x16 x17 x18 x19 x20 x21 x22 x23 x24 x25 x26 x27 x28 x29 x30 x31))
 (len x20*72≤140737488355328 ∧
 rec q231_L1 (q231_S1 0 (len x20:Int) x20 x3 x4 x5 x6 x7 x8 x9 x10 x11 x12 x13 x14 x15 x16 x17 x18 x19 x21 x22 x23 x24 x25 x26 x27 x28 x29 x30 x31 x2))):=by kernel_rfl
theorem zin (x0 x1:Int) (x2:List Vm.Campaign) (x3:Int) (x4:Bool) (x5 x6 x7 x8:Int) (x9:List (List UInt8)) (x10:List Vm.Signed) (x11:List Int) (x12:Int) (x13:Bool) (x14:Int) (x15:List Int) (x16 x17:Int) (x18 x19:List Bool) (x20:List Vm.Message) (x21:Int) (x22:List (List UInt8)) (x23:List Vm.Signed) (x24 x25:List Int) (x26 x27:List Bool) (x28:List Vm.UnitD) (x29:List Vm.Campaign) (x30:List Vm.Message) (x31:List Vm.UnitD) (rec:RK) (K:KK) v0 (hv0:v0=smW (nth x2 (Int.toNat x0) (Ty.dflt Ty.campaign)).images):segO Γ_q231 tab fn_q231 0 K rec (ent q231_L1) (q231_S1 x0 x1 x2 x3 x4 x5 x6 x7 x8 x9 x10 x11 x12 x13 x14 x15 x16 x17 x18 x19 x20 x21 x22 x23 x24 x25 x26 x27 x28 x29 x30 x31)=(
 br (lti x0 x1)
 (((0:Int)≤x0∧x0<(len x2:Int)) ∧
 Int.toNat x0<len x2 ∧
 len ((nth x2 (Int.toNat x0) (Ty.dflt Ty.campaign)).r).targets*24≤140737488355328 ∧
 (len (nth x2 (Int.toNat x0) (Ty.dflt Ty.campaign)).images≤1000∧v0=true) ∧
 ((0:Int)≤x0∧x0<(len x2:Int)) ∧
 Int.toNat x0<len x2 ∧
 ((0:Int)≤x0∧x0<(((len (setAt x2 (Int.toNat x0) ⟨(nth x2 (Int.toNat x0) (Ty.dflt Ty.campaign)).n,⟨((nth x2 (Int.toNat x0) (Ty.dflt Ty.campaign)).r).version,((nth x2 (Int.toNat x0) (Ty.dflt Ty.campaign)).r).til,((nth x2 (Int.toNat x0) (Ty.dflt Ty.campaign)).r).targets⟩,(nth x2 (Int.toNat x0) (Ty.dflt Ty.campaign)).images⟩)):Nat):Int)) ∧
 Int.toNat x0<len (setAt x2 (Int.toNat x0) ⟨(nth x2 (Int.toNat x0) (Ty.dflt Ty.campaign)).n,⟨((nth x2 (Int.toNat x0) (Ty.dflt Ty.campaign)).r).version,((nth x2 (Int.toNat x0) (Ty.dflt Ty.campaign)).r).til,((nth x2 (Int.toNat x0) (Ty.dflt Ty.campaign)).r).targets⟩,(nth x2 (Int.toNat x0) (Ty.dflt Ty.campaign)).images⟩) ∧
 rec q231_L1 (q231_S1 (w64 (x0+1)) x1 (setAt (setAt x2 (Int.toNat x0) ⟨(nth x2 (Int.toNat x0) (Ty.dflt Ty.campaign)).n,⟨((nth x2 (Int.toNat x0) (Ty.dflt Ty.campaign)).r).version,((nth x2 (Int.toNat x0) (Ty.dflt Ty.campaign)).r).til,((nth x2 (Int.toNat x0) (Ty.dflt Ty.campaign)).r).targets⟩,(nth x2 (Int.toNat x0) (Ty.dflt Ty.campaign)).images⟩) (Int.toNat x0) ⟨(nth (setAt x2 (Int.toNat x0) ⟨(nth x2 (Int.toNat x0) (Ty.dflt Ty.campaign)).n,⟨((nth x2 (Int.toNat x0) (Ty.dflt Ty.campaign)).r).version,((nth x2 (Int.toNat x0) (Ty.dflt Ty.campaign)).r).til,((nth x2 (Int.toNat x0) (Ty.dflt Ty.campaign)).r).targets⟩,(nth x2 (Int.toNat x0) (Ty.dflt Ty.campaign)).images⟩) (Int.toNat x0) (Ty.dflt Ty.campaign)).n,⟨((nth (setAt x2 (Int.toNat x0) ⟨(nth x2 (Int.toNat x0) (Ty.dflt Ty.campaign)).n,⟨((nth x2 (Int.toNat x0) (Ty.dflt Ty.campaign)).r).version,((nth x2 (Int.toNat x0) (Ty.dflt Ty.campaign)).r).til,((nth x2 (Int.toNat x0) (Ty.dflt Ty.campaign)).r).targets⟩,(nth x2 (Int.toNat x0) (Ty.dflt Ty.campaign)).images⟩) (Int.toNat x0) (Ty.dflt Ty.campaign)).r).version,((nth (setAt x2 (Int.toNat x0) ⟨(nth x2 (Int.toNat x0) (Ty.dflt Ty.campaign)).n,⟨((nth x2 (Int.toNat x0) (Ty.dflt Ty.campaign)).r).version,((nth x2 (Int.toNat x0) (Ty.dflt Ty.campaign)).r).til,((nth x2 (Int.toNat x0) (Ty.dflt Ty.campaign)).r).targets⟩,(nth x2 (Int.toNat x0) (Ty.dflt Ty.campaign)).images⟩) (Int.toNat x0) (Ty.dflt Ty.campaign)).r).til,((nth (setAt x2 (Int.toNat x0) ⟨(nth x2 (Int.toNat x0) (Ty.dflt Ty.campaign)).n,⟨((nth x2 (Int.toNat x0) (Ty.dflt Ty.campaign)).r).version,((nth x2 (Int.toNat x0) (Ty.dflt Ty.campaign)).r).til,((nth x2 (Int.toNat x0) (Ty.dflt Ty.campaign)).r).targets⟩,(nth x2 (Int.toNat x0) (Ty.dflt Ty.campaign)).images⟩) (Int.toNat x0) (Ty.dflt Ty.campaign)).r).targets⟩,(nth x2 (Int.toNat x0) (Ty.dflt Ty.campaign)).images⟩) x3 x4 x5 x6 x7 x8 x9 x10 x11 x12 x13 x14 x15 x16 x17 x18 x19 x20 x21 x22 x23 x24 x25 x26 x27 x28 x29 x30 x31))
 (len x20*72≤140737488355328 ∧
 rec q231_L2 (q231_S2 0 (len x20:Int) x20 x3 x4 x5 x6 x7 x8 x9 x10 x11 x12 x13 x14 x15 x16 x17 x18 x19 x21 x22 x23 x24 x25 x26 x27 x28 x29 x30 x31 x2))):=by subst_vars; kernel_rfl
theorem zjj (x0 x1:Int) (x2:List Vm.Message) (x3:Int) (x4:Bool) (x5 x6 x7 x8:Int) (x9:List (List UInt8)) (x10:List Vm.Signed) (x11:List Int) (x12:Int) (x13:Bool) (x14:Int) (x15:List Int) (x16 x17:Int) (x18 x19:List Bool) (x20:Int) (x21:List (List UInt8)) (x22:List Vm.Signed) (x23 x24:List Int) (x25 x26:List Bool) (x27:List Vm.UnitD) (x28:List Vm.Campaign) (x29:List Vm.Message) (x30:List Vm.UnitD) (x31:List Vm.Campaign) (rec:RK) (K:KK):segO Γ_q231 tab fn_q231 0 K rec (ent q231_L2) (q231_S2 x0 x1 x2 x3 x4 x5 x6 x7 x8 x9 x10 x11 x12 x13 x14 x15 x16 x17 x18 x19 x20 x21 x22 x23 x24 x25 x26 x27 x28 x29 x30 x31)=(
 br (lti x0 x1)
 (((0:Int)≤x0∧x0<(len x2:Int)) ∧
 Int.toNat x0<len x2 ∧
 len (nth x2 (Int.toNat x0) (Ty.dflt Ty.message)).words*8≤140737488355328 ∧
 ((0:Int)≤x0∧x0<(len x2:Int)) ∧
 Int.toNat x0<len x2 ∧
 rec q231_L2 (q231_S2 (w64 (x0+1)) x1 (setAt x2 (Int.toNat x0) ⟨(nth x2 (Int.toNat x0) (Ty.dflt Ty.message)).kind,(nth x2 (Int.toNat x0) (Ty.dflt Ty.message)).unit,(nth x2 (Int.toNat x0) (Ty.dflt Ty.message)).n,(nth x2 (Int.toNat x0) (Ty.dflt Ty.message)).at_,(nth x2 (Int.toNat x0) (Ty.dflt Ty.message)).image,(nth x2 (Int.toNat x0) (Ty.dflt Ty.message)).words,(nth x2 (Int.toNat x0) (Ty.dflt Ty.message)).yes⟩) x3 x4 x5 x6 x7 x8 x9 x10 x11 x12 x13 x14 x15 x16 x17 x18 x19 x20 x21 x22 x23 x24 x25 x26 x27 x28 x29 x30 x31))
 (K (.agg [.dat (Ty.list Ty.str) x9,.dat (Ty.list Ty.signed) x10,dL x11,dI x12,dB x13,dI x14,dL x15,dI x16,dI x17,dLb x18,dLb x19,.own 0,.own 1,.own 2,dI x20]) [.arr Ty.unitd x30,.arr Ty.campaign x31,.arr Ty.message x2])):=by kernel_rfl

theorem z4d (l:List Vm.Message) (hl:l.length≤24) (hm:∀ m∈l,m.words.length≤8) (K:KK) (x3:Int) (x4:Bool) (x5 x6 x7 x8:Int) (vb:List (List UInt8)) (vs:List Vm.Signed) (ws:List Int) (fu:Int) (up:Bool) (tv:Int) (tk:List Int) (tt tn:Int) (vo di:List Bool) (now:Int) (a1:List (List UInt8)) (a2:List Vm.Signed) (a3 a4:List Int) (a5 a6:List Bool) (a7:List Vm.UnitD) (a8:List Vm.Campaign) (a9:List Vm.Message) (us:List Vm.UnitD) (cs:List Vm.Campaign)
  (hK:K (.agg (aV vb vs ws fu up tv tk tt tn vo di (.own 0) (.own 1) (.own 2) now)) [.arr Ty.unitd us,.arr Ty.campaign cs,.arr Ty.message l]):∀ (d k:Nat),k+d=l.length →
  goO Γ_q231 tab fn_q231 0 K (d+1) q231_L2 (q231_S2 (k:Int) (((len l):Nat):Int) l x3 x4 x5 x6 x7 x8 vb vs ws fu up tv tk tt tn vo di now a1 a2 a3 a4 a5 a6 a7 a8 a9 us cs)
 | 0,k,hk=>by
  rw [z9m (L:=q231_L2),zjj _ _ _ _ _ _ _ _ _ _ _ _ _ _ _ _ _ _ _ _ _ _ _ _ _ _ _ _ _ _ _ _ _ _]
  exact z22 (by simp only [len]; omega) hK
 | d+1,k,hk=>by
  rw [z9m (L:=q231_L2),zjj _ _ _ _ _ _ _ _ _ _ _ _ _ _ _ _ _ _ _ _ _ _ _ _ _ _ _ _ _ _ _ _ _ _,z08,z0f (by omega)]
  have h8:=hm _ (z1g (l:=l) (k:=k) (by omega) (Ty.dflt Ty.message))
  have e:setAt l k (⟨(nth l k (Ty.dflt Ty.message)).kind,(nth l k (Ty.dflt Ty.message)).unit,(nth l k (Ty.dflt Ty.message)).n,(nth l k (Ty.dflt Ty.message)).at_,(nth l k (Ty.dflt Ty.message)).image,(nth l k (Ty.dflt Ty.message)).words,(nth l k (Ty.dflt Ty.message)).yes⟩:Vm.Message)=l:=z6h (by omega) _
  rw [e]
  exact z2o (by simp only [len]; omega) ⟨⟨by omega,by simp only [len]; omega⟩,by simp only [len]; omega,by simp only [len]; omega,⟨by omega,by simp only [len]; omega⟩,by simp only [len]; omega,z4d l hl hm K x3 x4 x5 x6 x7 x8 vb vs ws fu up tv tk tt tn vo di now a1 a2 a3 a4 a5 a6 a7 a8 a9 us cs hK d (k+1) (by omega)⟩
theorem z4k (c:List Vm.Campaign) (hc:c.length≤8) (hcs:∀ x∈c,x.r.targets.length≤4∧x.images.length≤4∧smW x.images=true) (l:List Vm.Message) (hl:l.length≤24) (hm:∀ m∈l,m.words.length≤8) (K:KK) (x3:Int) (x4:Bool) (x5 x6 x7 x8:Int) (vb:List (List UInt8)) (vs:List Vm.Signed) (ws:List Int) (fu:Int) (up:Bool) (tv:Int) (tk:List Int) (tt tn:Int) (vo di:List Bool) (now:Int) (a1:List (List UInt8)) (a2:List Vm.Signed) (a3 a4:List Int) (a5 a6:List Bool) (a7:List Vm.UnitD) (a8:List Vm.Campaign) (a9:List Vm.Message) (us:List Vm.UnitD)
  (hK:K (.agg (aV vb vs ws fu up tv tk tt tn vo di (.own 0) (.own 1) (.own 2) now)) [.arr Ty.unitd us,.arr Ty.campaign c,.arr Ty.message l]):∀ (d k:Nat),k+d=c.length →
  goO Γ_q231 tab fn_q231 0 K (l.length+1+d+1) q231_L1 (q231_S1 (k:Int) (((len c):Nat):Int) c x3 x4 x5 x6 x7 x8 vb vs ws fu up tv tk tt tn vo di l now a1 a2 a3 a4 a5 a6 a7 a8 a9 us)
 | 0,k,hk=>by
  rw [z9m (L:=q231_L1),zin _ _ _ _ _ _ _ _ _ _ _ _ _ _ _ _ _ _ _ _ _ _ _ _ _ _ _ _ _ _ _ _ _ _ _ rfl]
  exact z22 (by simp only [len]; omega) ⟨by simp only [len]; omega,z4d l hl hm K x3 x4 x5 x6 x7 x8 vb vs ws fu up tv tk tt tn vo di now a1 a2 a3 a4 a5 a6 a7 a8 a9 us c hK l.length 0 (by omega)⟩
 | d+1,k,hk=>by
  rw [show l.length+1+(d+1)+1=(l.length+1+d+1)+1 by omega,z9m (L:=q231_L1),zin _ _ _ _ _ _ _ _ _ _ _ _ _ _ _ _ _ _ _ _ _ _ _ _ _ _ _ _ _ _ _ _ _ _ _ rfl,z08,z0f (by omega)]
  obtain ⟨h1,h2,h3⟩:=hcs _ (z1g (l:=c) (k:=k) (by omega) (Ty.dflt Ty.campaign))
  have e:setAt c k (⟨(nth c k (Ty.dflt Ty.campaign)).n,⟨(nth c k (Ty.dflt Ty.campaign)).r.version,(nth c k (Ty.dflt Ty.campaign)).r.til,(nth c k (Ty.dflt Ty.campaign)).r.targets⟩,(nth c k (Ty.dflt Ty.campaign)).images⟩:Vm.Campaign)=c:=z6h (by omega) _
  simp only [e]
  exact z2o (by simp only [len]; omega) ⟨⟨by omega,by simp only [len]; omega⟩,by simp only [len]; omega,by simp only [len]; omega,⟨by simp only [len]; omega,h3⟩,⟨by omega,by simp only [len]; omega⟩,by simp only [len]; omega,⟨by omega,by simp only [len]; omega⟩,by simp only [len]; omega,z4k c hc hcs l hl hm K x3 x4 x5 x6 x7 x8 vb vs ws fu up tv tk tt tn vo di now a1 a2 a3 a4 a5 a6 a7 a8 a9 us hK d (k+1) (by omega)⟩
theorem z4f (u:List Vm.UnitD) (hu:u.length≤4) (hus:∀ x∈u,x.f.words.length=192) (c:List Vm.Campaign) (hc:c.length≤8) (hcs:∀ x∈c,x.r.targets.length≤4∧x.images.length≤4∧smW x.images=true) (l:List Vm.Message) (hl:l.length≤24) (hm:∀ m∈l,m.words.length≤8) (K:KK) (x3:Int) (x4:Bool) (x5 x6 x7 x8:Int) (vb:List (List UInt8)) (vs:List Vm.Signed) (ws:List Int) (fu:Int) (up:Bool) (tv:Int) (tk:List Int) (tt tn:Int) (vo di:List Bool) (now:Int) (a1:List (List UInt8)) (a2:List Vm.Signed) (a3 a4:List Int) (a5 a6:List Bool) (a7:List Vm.UnitD) (a8:List Vm.Campaign) (a9:List Vm.Message)
  (hK:K (.agg (aV vb vs ws fu up tv tk tt tn vo di (.own 0) (.own 1) (.own 2) now)) [.arr Ty.unitd u,.arr Ty.campaign c,.arr Ty.message l]):∀ (d k:Nat),k+d=u.length →
  goO Γ_q231 tab fn_q231 0 K (l.length+1+c.length+1+d+1) q231_L0 (q231_S0 (k:Int) (((len u):Nat):Int) u x3 x4 x5 x6 x7 x8 vb vs ws fu up tv tk tt tn vo di c l now a1 a2 a3 a4 a5 a6 a7 a8 a9)
 | 0,k,hk=>by
  rw [z9m (L:=q231_L0),zhl _ _ _ _ _ _ _ _ _ _ _ _ _ _ _ _ _ _ _ _ _ _ _ _ _ _ _ _ _ _ _ _ _ _]
  exact z22 (by simp only [len]; omega) ⟨by simp only [len]; omega,z4k c hc hcs l hl hm K x3 x4 x5 x6 x7 x8 vb vs ws fu up tv tk tt tn vo di now a1 a2 a3 a4 a5 a6 a7 a8 a9 u hK c.length 0 (by omega)⟩
 | d+1,k,hk=>by
  rw [show l.length+1+c.length+1+(d+1)+1=(l.length+1+c.length+1+d+1)+1 by omega,z9m (L:=q231_L0),zhl _ _ _ _ _ _ _ _ _ _ _ _ _ _ _ _ _ _ _ _ _ _ _ _ _ _ _ _ _ _ _ _ _ _,z08,z0f (by omega)]
  have h1:=hus _ (z1g (l:=u) (k:=k) (by omega) (Ty.dflt Ty.unitd))
  have e:setAt u k (⟨⟨(nth u k (Ty.dflt Ty.unitd)).f.words,(nth u k (Ty.dflt Ty.unitd)).f.fuel⟩,(nth u k (Ty.dflt Ty.unitd)).up,(nth u k (Ty.dflt Ty.unitd)).n,(nth u k (Ty.dflt Ty.unitd)).got⟩:Vm.UnitD)=u:=z6h (by omega) _
  rw [e]
  exact z2o (by simp only [len]; omega) ⟨⟨by omega,by simp only [len]; omega⟩,by simp only [len]; omega,by simp only [len]; omega,⟨by omega,by simp only [len]; omega⟩,by simp only [len]; omega,z4f u hu hus c hc hcs l hl hm K x3 x4 x5 x6 x7 x8 vb vs ws fu up tv tk tt tn vo di now a1 a2 a3 a4 a5 a6 a7 a8 a9 hK d (k+1) (by omega)⟩
theorem run_q231 (hp:okW ⟨vb,vs,⟨⟨ws,fu⟩,up,⟨⟨tv,tk,tt⟩,tn⟩,vo,di⟩,us,cs,net,now⟩=true) (K:KK) (hK:K (.agg (aV vb vs ws fu up tv tk tt tn vo di (.own 0) (.own 1) (.own 2) now)) [.arr .unitd us,.arr .campaign cs,.arr .message net]):GO Γ_q231 fn_q231 0 K [.agg (aV vb vs ws fu up tv tk tt tn vo di (.dat (Ty.list Ty.unitd) us) (.dat (Ty.list Ty.campaign) cs) (dM net) now)] []:=by
 have H:=z34.1 hp
 obtain ⟨u1,u4⟩:=H.units4
 have hb:=z3k H.b
 have hs:=(z6s H.s).1
 obtain ⟨g1,g2,g3,g4⟩:=z5j H.g
 have h8:=H.c8
 have h24:=H.n24
 simp only at u1 u4 hb hs h8 h24
 refine ⟨net.length+1+cs.length+1+us.length+2,?_⟩
 rw [z1i,q231_vc _ _ _ _ _ _ _ _ _ _ _ _ _ _ _ _ _]
 refine ⟨by simp only [len]; omega,by simp only [len]; omega,⟨g1,g2,g3,g4⟩,by simp only [len]; omega,?_⟩
 refine z4f us u4 (fun x hx=>(z3a (H.u x hx)).2.1) cs h8 (fun x hx=>?_) net h24 (fun m hm=>(z1e (m:=cutM m) (H.msg m hm).1).2.2.2.2.2.2.2.2.2.2.1) K 0 false 0 0 0 0 vb vs ws fu up tv tk tt tn vo di now [] [] [] [] [] [] [] [] [] hK us.length 0 (by omega)
 obtain ⟨k2,k3,k4,_⟩:=H.camp _ hx
 simp only at k2 k3
 exact ⟨by omega,by omega,smW_of k4⟩
theorem sound_q231:z03 Tryz.prog tab n_q231 c_q231:=z01 ok_q231 hg_q231 (by
 intro vs bs p v bs' h hp
 unfold c_q231 at h
 split at h
 ·cases h
  exact ⟨by kernel_rfl,rfl,.inr (.inl (run_q231 _ _ _ _ _ _ _ _ _ _ _ _ _ _ _ hp.1 _ ⟨rfl,rfl⟩))⟩
 ·cases h)

def c_q175:z00:=fun vs bs=>match vs,bs with
 | [.agg [.dat (.list .int) ws,.dat .int fu,.dat .bool up,.dat .int tv,.dat (.list .int) tk,.dat .int tt,.dat .int tn,.dat (.list .bool) vo,.dat (.list .bool) di]],[]=>some (none,.one (dI (upG ⟨⟨ws,fu⟩,up,⟨⟨tv,tk,tt⟩,tn⟩,vo,di⟩)),[])
 | _,_=>none
def Γ_q175:Ctx:=[(n_q168,c_q168)]
theorem ok_q175:Ok Tryz.prog tab Γ_q175:=(ok_nil.c hg_q168 sound_q168)
theorem q175_vc (ws:List Int) (fu:Int) (up:Bool) (tv:Int) (tk:List Int) (tt tn:Int) (vo di:List Bool) (rec:RK) (K:KK) v0 (hv0:v0=z0t ⟨⟨ws,fu⟩,up,⟨⟨tv,tk,tt⟩,tn⟩,vo,di⟩):segD Γ_q175 tab fn_q175 0 K rec [.code (z05 fn_q175)] (z07 [.agg [dL ws,dI fu,dB up,dI tv,dL tk,dI tt,dI tn,dLb vo,dLb di]] [])=(
 br (!(eqi v0 0))
 (K (.one (dI v0)) [])
 (br (!up)
 (K (.one (dI 7)) [])
 (K (.one (dI 0)) []))):=by subst_vars; kernel_rfl

theorem run_q175 (K:KK) (hK:K (.one (dI (upG ⟨⟨ws,fu⟩,up,⟨⟨tv,tk,tt⟩,tn⟩,vo,di⟩))) []):GD Γ_q175 fn_q175 0 K [.agg [dL ws,dI fu,dB up,dI tv,dL tk,dI tt,dI tn,dLb vo,dLb di]] []:=by
 refine ⟨1,?_⟩
 rw [z02,q175_vc _ _ _ _ _ _ _ _ _ _ _ _ rfl]
 unfold upG at hK
 refine z1c (fun h=>?_) (fun h=>?_)
 ·rw [if_neg h] at hK; exact hK
 ·rw [if_pos h] at hK
  cases up
  ·exact nt_t rfl hK
  ·exact nt_f rfl hK
theorem sound_q175:z03 Tryz.prog tab n_q175 c_q175:=z01 ok_q175 hg_q175 (by
 intro vs bs p v bs' h hp
 unfold c_q175 at h
 split at h
 ·cases h
  exact ⟨by kernel_rfl,rfl,.inl (run_q175 _ _ _ _ _ _ _ _ _ _ ⟨rfl,rfl⟩)⟩
 ·cases h)

def c_q64:z00:=fun vs bs=>match vs,bs with
 | [.agg [.dat (.list .int) ws,.dat .int fu]],[]=>some (none,.tup [.one (dR (recordsF ⟨ws,fu⟩).1),.one (dI (recordsF ⟨ws,fu⟩).2)],[])
 | _,_=>none
def Γ_q64:Ctx:=[(n_q62,c_q62),(n_q60,c_q60),(n_q61,c_q61)]
theorem ok_q64:Ok Tryz.prog tab Γ_q64:=(((ok_nil.c hg_q61 sound_q61).c hg_q60 sound_q60).c hg_q62 sound_q62)
theorem q64_vc (ws:List Int) (fu:Int) (rec:RK) (K:KK) v0 (hv0:v0=z0d (⟨ws,fu⟩:Flash)) v1 (hv1:v1=z04 ws) v2 (hv2:v2=liveS ws) v3 (hv3:v3=scanS ws (Int.toNat ((v2:Nat):Int))):segD Γ_q64 tab fn_q64 0 K rec [.code (z05 fn_q64)] (z07 [.agg [dL ws,dI fu]] [])=(
 br (!(eqi v0 0))
 (K (.tup [.one (dR []),.one (dI v0)]) [])
 ((64≤len ws∧v1=true) ∧
 ((0:Int)≤((v2:Nat):Int)∧((v2:Nat):Int)≤(1:Int)∧64≤len ws∧len ws≤192∧v1=true) ∧
 K (.tup [.one (dR v3.fst),.one (dI 0)]) [])):=by subst_vars; kernel_rfl

theorem run_q64 (K:KK) (hK:K (.tup [.one (dR (recordsF ⟨ws,fu⟩).1),.one (dI (recordsF ⟨ws,fu⟩).2)]) []):GD Γ_q64 fn_q64 0 K [.agg [dL ws,dI fu]] []:=by
 refine ⟨1,?_⟩
 rw [z02,q64_vc _ _ _ _ _ rfl _ rfl _ rfl _ rfl]
 unfold recordsF at hK
 refine z1c (fun h=>?_) (fun h=>?_)
 ·rw [if_neg h] at hK; exact hK
 rw [if_pos h] at hK
 obtain ⟨k1,k2,k3,k4⟩:=z1w h
 obtain ⟨c1,c2,c3,c4⟩:=z10 k1
 obtain ⟨c5,c6⟩:=z6f c1
 have:=z6l ws
 exact ⟨⟨k2,c4⟩,⟨by omega,by omega,k2,c6,c4⟩,hK⟩
theorem sound_q64:z03 Tryz.prog tab n_q64 c_q64:=z01 ok_q64 hg_q64 (by
 intro vs bs p v bs' h hp
 unfold c_q64 at h
 split at h
 ·cases h
  exact ⟨by kernel_rfl,rfl,.inl (run_q64 _ _ _ ⟨rfl,rfl⟩)⟩
 ·cases h)

def c_q165:z00:=fun vs bs=>match vs,bs with
 | [.one (.dat (.list (.list .int)) l)],[]=>some (some (len l≤1000∧nonE l=true),.agg [dI (stateG l).n,dI (stateG l).version,dB (stateG l).commit,dB (stateG l).abort,dB (stateG l).ended],[])
 | _,_=>none
def Γ_q165:Ctx:=[]
theorem ok_q165:Ok Tryz.prog tab Γ_q165:=ok_nil
noncomputable def q165_L0:List It:=[.inLoop [8,7,6,3,2] (cSub fn_q165 [1,1,0,1,0,0]),.inBlock 0,.code (cSub fn_q165 [1,1,1])]
def q165_S0 (x0 x1:Int) (x2:List (List Int)) (x3 x4:Int) (x5 x6 x7:Bool) (x8 x9:Int) (x10 x11 x12:Bool):St:=⟨[(8,.one (dI x0)),(7,.one (dI x1)),(6,.one (dR x2)),(3,.one (.ptr 0 0)),(2,.one (.ptr 1 0))],[(0,.box [dI x3,dI x4,dB x5,dB x6,dB x7]),(1,.box [dI x8,dI x9,dB x10,dB x11,dB x12])],2⟩
theorem q165_vc (l:List (List Int)) (rec:RK) (K:KK):segD Γ_q165 tab fn_q165 0 K rec [.code (z05 fn_q165)] (z07 [.one (dR l)] [])=(
 rec q165_L0 (q165_S0 0 (len l:Int) l 0 0 false false false 0 0 false false false)):=by kernel_rfl
theorem zi2 (x0 x1:Int) (x2:List (List Int)) (x3 x4:Int) (x5 x6 x7:Bool) (x8 x9:Int) (x10 x11 x12:Bool) (rec:RK) (K:KK) v3 (hv3:v3=rec q165_L0 (q165_S0 (w64 (x0+1)) x1 x2 x3 x4 x5 x6 true x8 x9 x10 x11 x12)) v4 (hv4:v4=rec q165_L0 (q165_S0 (w64 (x0+1)) x1 x2 x3 x4 x5 x6 x7 x8 x9 x10 x11 x12)) v2 (hv2:v2=br (eqi (nth (nth x2 (Int.toNat x0) (Ty.dflt (Ty.list Ty.int))) (Int.toNat 0) (Ty.dflt Ty.int)) 4)
 (br x5
 v3
 (br x6
 v3
 v4))
 v4) v1 (hv1:v1=br (eqi (nth (nth x2 (Int.toNat x0) (Ty.dflt (Ty.list Ty.int))) (Int.toNat 0) (Ty.dflt Ty.int)) 3)
 (br (!x5)
 (rec q165_L0 (q165_S0 (w64 (x0+1)) x1 x2 x3 x4 x5 true x7 x8 x9 x10 x11 x12))
 (((0:Int)≤(0:Int)∧(0:Int)<(((len (nth x2 (Int.toNat x0) (Ty.dflt (Ty.list Ty.int)))):Nat):Int)) ∧
 v2))
 (((0:Int)≤(0:Int)∧(0:Int)<(((len (nth x2 (Int.toNat x0) (Ty.dflt (Ty.list Ty.int)))):Nat):Int)) ∧
 v2)) v0 (hv0:v0=br (!(eqi (((len (nth x2 (Int.toNat x0) (Ty.dflt (Ty.list Ty.int)))):Nat):Int) 2))
 v4
 (((0:Int)≤(1:Int)∧(1:Int)<(((len (nth x2 (Int.toNat x0) (Ty.dflt (Ty.list Ty.int)))):Nat):Int)) ∧
 br (!(eqi (nth (nth x2 (Int.toNat x0) (Ty.dflt (Ty.list Ty.int))) (Int.toNat 1) (Ty.dflt Ty.int)) x3))
 v4
 (br (eqi x3 0)
 v4
 (((0:Int)≤(0:Int)∧(0:Int)<(((len (nth x2 (Int.toNat x0) (Ty.dflt (Ty.list Ty.int)))):Nat):Int)) ∧
 br (eqi (nth (nth x2 (Int.toNat x0) (Ty.dflt (Ty.list Ty.int))) (Int.toNat 0) (Ty.dflt Ty.int)) 2)
 (br (!x6)
 (rec q165_L0 (q165_S0 (w64 (x0+1)) x1 x2 x3 x4 true x6 x7 x8 x9 x10 x11 x12))
 (((0:Int)≤(0:Int)∧(0:Int)<(((len (nth x2 (Int.toNat x0) (Ty.dflt (Ty.list Ty.int)))):Nat):Int)) ∧
 v1))
 (((0:Int)≤(0:Int)∧(0:Int)<(((len (nth x2 (Int.toNat x0) (Ty.dflt (Ty.list Ty.int)))):Nat):Int)) ∧
 v1))))):segD Γ_q165 tab fn_q165 0 K rec (ent q165_L0) (q165_S0 x0 x1 x2 x3 x4 x5 x6 x7 x8 x9 x10 x11 x12)=(
 br (lti x0 x1)
 (((0:Int)≤x0∧x0<(len x2:Int)) ∧
 ((0:Int)≤(0:Int)∧(0:Int)<(((len (nth x2 (Int.toNat x0) (Ty.dflt (Ty.list Ty.int)))):Nat):Int)) ∧
 br (eqi (nth (nth x2 (Int.toNat x0) (Ty.dflt (Ty.list Ty.int))) (Int.toNat 0) (Ty.dflt Ty.int)) 1)
 (br (eqi (((len (nth x2 (Int.toNat x0) (Ty.dflt (Ty.list Ty.int)))):Nat):Int) 3)
 (((0:Int)≤(1:Int)∧(1:Int)<(((len (nth x2 (Int.toNat x0) (Ty.dflt (Ty.list Ty.int)))):Nat):Int)) ∧
 br (lei 1 (nth (nth x2 (Int.toNat x0) (Ty.dflt (Ty.list Ty.int))) (Int.toNat 1) (Ty.dflt Ty.int)))
 (((0:Int)≤(1:Int)∧(1:Int)<(((len (nth x2 (Int.toNat x0) (Ty.dflt (Ty.list Ty.int)))):Nat):Int)) ∧
 br (lei (nth (nth x2 (Int.toNat x0) (Ty.dflt (Ty.list Ty.int))) (Int.toNat 1) (Ty.dflt Ty.int)) 8)
 (((0:Int)≤(1:Int)∧(1:Int)<(((len (nth x2 (Int.toNat x0) (Ty.dflt (Ty.list Ty.int)))):Nat):Int)) ∧
 ((0:Int)≤(2:Int)∧(2:Int)<(((len (nth x2 (Int.toNat x0) (Ty.dflt (Ty.list Ty.int)))):Nat):Int)) ∧
 rec q165_L0 (q165_S0 (w64 (x0+1)) x1 x2 (nth (nth x2 (Int.toNat x0) (Ty.dflt (Ty.list Ty.int))) (Int.toNat 1) (Ty.dflt Ty.int)) (nth (nth x2 (Int.toNat x0) (Ty.dflt (Ty.list Ty.int))) (Int.toNat 2) (Ty.dflt Ty.int)) false false false x8 x9 x10 x11 x12))
 v0)
 v0)
 v0)
 v0)
 (K (.agg [dI x3,dI x4,dB x5,dB x6,dB x7]) [])):=by subst_vars; kernel_rfl

set_option maxHeartbeats 4000000 in
theorem zax (l:List (List Int)) (K:KK) (x8 x9:Int) (x10 x11 x12:Bool) (M k:Nat) (n v:Int) (c a e:Bool) (r:List Int) (hk:k<l.length) (hl:l.length≤1000) (h0:0<r.length) (hr:nth l k (Ty.dflt (Ty.list Ty.int))=r)
  (nx:∀ (n' v':Int) (c' a' e':Bool),stepGt ⟨n,v,c,a,e⟩ r=⟨n',v',c',a',e'⟩→goD Γ_q165 tab fn_q165 0 K M q165_L0 (q165_S0 ((k+1:Nat):Int) (((len l):Nat):Int) l n' v' c' a' e' x8 x9 x10 x11 x12)) :
  goD Γ_q165 tab fn_q165 0 K (M+1) q165_L0 (q165_S0 (k:Int) (((len l):Nat):Int) l n v c a e x8 x9 x10 x11 x12):=by
 rw [z09 (L:=q165_L0),zi2 _ _ _ _ _ _ _ _ _ _ _ _ _ _ _ _ rfl _ rfl _ rfl _ rfl _ rfl,z08,hr]
 have ek:w64 ((k:Int)+1)=((k+1:Nat):Int):=z0f (by omega)
 rw [ek]
 obtain ⟨u0,e0⟩:∃ u0,r.getD 0 0=u0:=⟨_,rfl⟩
 obtain ⟨u1,e1⟩:∃ u1,r.getD 1 0=u1:=⟨_,rfl⟩
 obtain ⟨u2,e2⟩:∃ u2,r.getD 2 0=u2:=⟨_,rfl⟩
 have es:stepGt ⟨n,v,c,a,e⟩ r=if u0=1∧r.length=3∧1≤u1∧u1≤8 then ⟨u1,u2,false,false,false⟩ else if r.length≠2∨u1≠n∨n=0 then ⟨n,v,c,a,e⟩
   else if u0=2∧a=false then ⟨n,v,true,a,e⟩ else if u0=3∧c=false then ⟨n,v,c,true,e⟩ else if u0=4∧(c=true∨a=true) then ⟨n,v,c,a,true⟩ else ⟨n,v,c,a,e⟩:=by
  unfold stepGt; rw [e0,e1,e2]
 rw [show nth r (Int.toNat 0) (Ty.dflt Ty.int)=u0 from e0,show nth r (Int.toNat 1) (Ty.dflt Ty.int)=u1 from e1,show nth r (Int.toNat 2) (Ty.dflt Ty.int)=u2 from e2]
 have hlen:len r=r.length:=rfl
 rw [hlen]
 rw [es] at nx
 clear es
 refine z2o (by simp only [len]; omega) ⟨⟨by omega,by simp only [len]; omega⟩,?_⟩
 repeat' first
  | refine ⟨⟨by omega,by omega⟩,?_⟩
  | refine z27 (fun _=>?_) (fun _=>?_)
  | refine z1c (fun _=>?_) (fun _=>?_)
  | refine z4n (fun _=>?_) (fun _=>?_)
  | refine z0l (fun h=>?_) (fun h=>?_)<;>first | rw [z1u] at h | rw [z11] at h
  | refine z0l (fun _=>?_) (fun _=>?_)
 all_goals first
  | (exfalso; omega)
  | exact nx _ _ _ _ _ (if_pos (by omega))
  | exact nx _ _ _ _ _ (by rw [if_neg (by omega),if_pos (by omega)])
  | exact nx _ _ _ _ _ (by rw [if_neg (by omega),if_neg (by omega),if_pos ⟨by omega,by assumption⟩])
  | exact nx _ _ _ _ _ (by rw [if_neg (by omega),if_neg (by omega),if_neg (by first | exact fun h=>absurd h.1 (by omega) | exact fun h=>absurd h.2 (by simp_all)),if_pos ⟨by omega,by assumption⟩])
  | exact nx _ _ _ _ _ (by rw [if_neg (by omega),if_neg (by omega),if_neg (by first | exact fun h=>absurd h.1 (by omega) | exact fun h=>absurd h.2 (by simp_all)),if_neg (by first | exact fun h=>absurd h.1 (by omega) | exact fun h=>absurd h.2 (by simp_all)),if_pos ⟨by omega,.inl (by assumption)⟩])
  | exact nx _ _ _ _ _ (by rw [if_neg (by omega),if_neg (by omega),if_neg (by first | exact fun h=>absurd h.1 (by omega) | exact fun h=>absurd h.2 (by simp_all)),if_neg (by first | exact fun h=>absurd h.1 (by omega) | exact fun h=>absurd h.2 (by simp_all)),if_pos ⟨by omega,.inr (by assumption)⟩])
  | exact nx _ _ _ _ _ (by rw [if_neg (by omega),if_neg (by omega),if_neg (by first | exact fun h=>absurd h.1 (by omega) | exact fun h=>absurd h.2 (by simp_all)),if_neg (by first | exact fun h=>absurd h.1 (by omega) | exact fun h=>absurd h.2 (by simp_all)),if_neg (by first | exact fun h=>absurd h.1 (by omega) | exact fun h=>absurd h.2 (by simp_all))])
theorem zfx (l:List (List Int)) (hl:l.length≤1000) (hn:nonE l=true) (K:KK) (x8 x9:Int) (x10 x11 x12:Bool):∀ (d k:Nat) (n v:Int) (c a e:Bool),k+d=l.length →
  K (.agg [dI ((l.drop k).foldl stepGt ⟨n,v,c,a,e⟩).n,dI ((l.drop k).foldl stepGt ⟨n,v,c,a,e⟩).version,dB ((l.drop k).foldl stepGt ⟨n,v,c,a,e⟩).commit,dB ((l.drop k).foldl stepGt ⟨n,v,c,a,e⟩).abort,dB ((l.drop k).foldl stepGt ⟨n,v,c,a,e⟩).ended]) [] →
  goD Γ_q165 tab fn_q165 0 K (d+1) q165_L0 (q165_S0 (k:Int) (((len l):Nat):Int) l n v c a e x8 x9 x10 x11 x12)
 | 0,k,n,v,c,a,e,hk,hK=>by
  rw [z09 (L:=q165_L0),zi2 _ _ _ _ _ _ _ _ _ _ _ _ _ _ _ _ rfl _ rfl _ rfl _ rfl _ rfl]
  rw [List.drop_of_length_le (by omega)] at hK
  exact z22 (by simp only [len]; omega) hK
 | d+1,k,n,v,c,a,e,hk,hK=>by
  have hm:nth l k (Ty.dflt (Ty.list Ty.int))∈l:=by
   have:k<l.length:=by omega
   simp [nth,List.getD_eq_getElem?_getD,this]
  have h0:0<(nth l k (Ty.dflt (Ty.list Ty.int))).length:=by simpa using List.all_eq_true.1 hn _ hm
  rw [z0q (by omega) (Ty.dflt (Ty.list Ty.int))] at hK
  obtain ⟨r,hr⟩:∃ r,nth l k (Ty.dflt (Ty.list Ty.int))=r:=⟨_,rfl⟩
  rw [hr] at hK h0
  rw [List.foldl_cons] at hK
  refine zax l K x8 x9 x10 x11 x12 (d+1) k n v c a e r (by omega) hl h0 hr ?_
  have nx:∀ (n' v':Int) (c' a' e':Bool),stepGt ⟨n,v,c,a,e⟩ r=⟨n',v',c',a',e'⟩→goD Γ_q165 tab fn_q165 0 K (d+1) q165_L0 (q165_S0 ((k+1:Nat):Int) (((len l):Nat):Int) l n' v' c' a' e' x8 x9 x10 x11 x12):=fun n' v' c' a' e' h=>by
   rw [h] at hK
   exact zfx l hl hn K x8 x9 x10 x11 x12 d (k+1) n' v' c' a' e' (by omega) hK
  exact nx
theorem run_q165 (l:List (List Int)) (hp:len l≤1000∧nonE l=true) (K:KK) (hK:K (.agg [dI (stateG l).n,dI (stateG l).version,dB (stateG l).commit,dB (stateG l).abort,dB (stateG l).ended]) []):GD Γ_q165 fn_q165 0 K [.one (dR l)] []:=by
 refine ⟨l.length+2,?_⟩
 rw [z02,q165_vc _ _ _]
 exact zfx l hp.1 hp.2 K 0 0 false false false l.length 0 0 0 false false false (by omega) hK
theorem sound_q165:z03 Tryz.prog tab n_q165 c_q165:=z01 ok_q165 hg_q165 (by
 intro vs bs p v bs' h hp
 unfold c_q165 at h
 split at h
 ·cases h
  exact ⟨by kernel_rfl,rfl,.inl (run_q165 _ hp.1 _ ⟨rfl,rfl⟩)⟩
 ·cases h)

def c_q166:z00:=fun vs bs=>match vs,bs with
 | [.agg [.dat (.list .int) ws,.dat .int fu,.dat .bool _,.dat .int _,.dat (.list .int) _,.dat .int _,.dat .int _,.dat (.list .bool) _,.dat (.list .bool) _]],[]=>some (none,.agg [dI (ofG ⟨ws,fu⟩).n,dI (ofG ⟨ws,fu⟩).version,dB (ofG ⟨ws,fu⟩).commit,dB (ofG ⟨ws,fu⟩).abort,dB (ofG ⟨ws,fu⟩).ended],[])
 | _,_=>none
def Γ_q166:Ctx:=[(n_q64,c_q64),(n_q165,c_q165)]
theorem ok_q166:Ok Tryz.prog tab Γ_q166:=((ok_nil.c hg_q165 sound_q165).c hg_q64 sound_q64)
theorem q166_vc (ws:List Int) (fu:Int) (up:Bool) (tv:Int) (tk:List Int) (tt tn:Int) (vo di:List Bool) (rec:RK) (K:KK) v0 (hv0:v0=recordsF ⟨ws,fu⟩) v1 (hv1:v1=nonE v0.fst) v2 (hv2:v2=stateG v0.fst):segD Γ_q166 tab fn_q166 0 K rec [.code (z05 fn_q166)] (z07 [.agg [dL ws,dI fu,dB up,dI tv,dL tk,dI tt,dI tn,dLb vo,dLb di]] [])=(
 (len v0.fst≤1000∧v1=true) ∧
 K (.agg [dI v2.n,dI v2.version,dB v2.commit,dB v2.abort,dB v2.ended]) []):=by subst_vars; kernel_rfl

theorem run_q166 (K:KK) (hK:K (.agg [dI (ofG ⟨ws,fu⟩).n,dI (ofG ⟨ws,fu⟩).version,dB (ofG ⟨ws,fu⟩).commit,dB (ofG ⟨ws,fu⟩).abort,dB (ofG ⟨ws,fu⟩).ended]) []):GD Γ_q166 fn_q166 0 K [.agg [dL ws,dI fu,dB up,dI tv,dL tk,dI tt,dI tn,dLb vo,dLb di]] []:=by
 refine ⟨1,?_⟩
 rw [z02,q166_vc _ _ _ _ _ _ _ _ _ _ _ _ rfl _ rfl _ rfl]
 have h:=z3j ⟨ws,fu⟩
 exact ⟨⟨by simp only [len]; omega,zhc h.2⟩,hK⟩
theorem sound_q166:z03 Tryz.prog tab n_q166 c_q166:=z01 ok_q166 hg_q166 (by
 intro vs bs p v bs' h hp
 unfold c_q166 at h
 split at h
 ·cases h
  exact ⟨by kernel_rfl,rfl,.inl (run_q166 _ _ _ _ _ _ _ _ _ _ ⟨rfl,rfl⟩)⟩
 ·cases h)

def c_q94:z00:=fun vs bs=>match vs,bs with
 | [.agg [.dat .int v,.dat (.list .int) ks,.dat .int t]],[]=>some (none,.tup [.one (.dat .str (rootTextE v ks t).1),.one (dI (rootTextE v ks t).2)],[])
 | _,_=>none
def Γ_q94:Ctx:=[(n_q91,c_q91),(n_q84,c_q84),(n_q90,c_q90)]
theorem ok_q94:Ok Tryz.prog tab Γ_q94:=(((ok_nil.c hg_q90 sound_q90).c hg_q84 sound_q84).c hg_q91 sound_q91)
theorem q94_vc (v:Int) (ks:List Int) (t:Int) (rec:RK) (K:KK) v0 (hv0:v0=checkRoot v ks t) v1 (hv1:v1=numT v) v2 (hv2:v2=numT t) v3 (hv3:v3=nums ks) v4 (hv4:v4=listT ks):segD Γ_q94 tab fn_q94 0 K rec [.code (z05 fn_q94)] (z07 [.agg [dI v,dL ks,dI t]] [])=(
 br (!(eqi v0 0))
 (K (.tup [.one (.dat Ty.str []),.one (dI v0)]) [])
 (((0:Int)≤v∧v≤9223372036854775807) ∧
 len ((114:UInt8)::(111:UInt8)::(111:UInt8)::(116:UInt8)::(32:UInt8)::[])+len v1≤140737488355328 ∧
 len (cat ((114:UInt8)::(111:UInt8)::(111:UInt8)::(116:UInt8)::(32:UInt8)::[]) v1)+len ((32:UInt8)::[])≤140737488355328 ∧
 ((0:Int)≤t∧t≤9223372036854775807) ∧
 len (cat (cat ((114:UInt8)::(111:UInt8)::(111:UInt8)::(116:UInt8)::(32:UInt8)::[]) v1) ((32:UInt8)::[]))+len v2≤140737488355328 ∧
 len (cat (cat (cat ((114:UInt8)::(111:UInt8)::(111:UInt8)::(116:UInt8)::(32:UInt8)::[]) v1) ((32:UInt8)::[])) v2)+len ((32:UInt8)::(111:UInt8)::(102:UInt8)::(32:UInt8)::[])≤140737488355328 ∧
 (len ks≤1000∧v3=true) ∧
 len (cat (cat (cat (cat ((114:UInt8)::(111:UInt8)::(111:UInt8)::(116:UInt8)::(32:UInt8)::[]) v1) ((32:UInt8)::[])) v2) ((32:UInt8)::(111:UInt8)::(102:UInt8)::(32:UInt8)::[]))+len v4≤140737488355328 ∧
 K (.tup [.one (.dat Ty.str (cat (cat (cat (cat (cat ((114:UInt8)::(111:UInt8)::(111:UInt8)::(116:UInt8)::(32:UInt8)::[]) v1) ((32:UInt8)::[])) v2) ((32:UInt8)::(111:UInt8)::(102:UInt8)::(32:UInt8)::[])) v4)),.one (dI 0)]) [])):=by subst_vars; kernel_rfl

theorem run_q94 (K:KK) (hK:K (.tup [.one (.dat .str (rootTextE v ks t).1),.one (dI (rootTextE v ks t).2)]) []):GD Γ_q94 fn_q94 0 K [.agg [dI v,dL ks,dI t]] []:=by
 refine ⟨1,?_⟩
 rw [z02,q94_vc _ _ _ _ _ _ rfl _ rfl _ rfl _ rfl _ rfl]
 unfold rootTextE at hK
 refine z1c (fun h=>?_) (fun h=>?_)
 ·rw [if_neg h] at hK; exact hK
 rw [if_pos h] at hK
 obtain ⟨h1,h2,h3,h4,h5,h6⟩:=z2e h
 have n1:=z7s v
 have n2:=z7s t
 have n3:=z84 ks
 refine ⟨by omega,by simp only [len,List.length_cons,List.length_nil]; omega,by simp only [len,cat,List.length_append,List.length_cons,List.length_nil]; omega,by omega,by simp only [len,cat,List.length_append,List.length_cons,List.length_nil]; omega,by simp only [len,cat,List.length_append,List.length_cons,List.length_nil]; omega,⟨by simp only [len]; omega,h6⟩,by simp only [len,cat,List.length_append,List.length_cons,List.length_nil]; omega,hK⟩
theorem sound_q94:z03 Tryz.prog tab n_q94 c_q94:=z01 ok_q94 hg_q94 (by
 intro vs bs p v bs' h hp
 unfold c_q94 at h
 split at h
 ·cases h
  exact ⟨by kernel_rfl,rfl,.inl (run_q94 _ _ _ _ ⟨rfl,rfl⟩)⟩
 ·cases h)

def c_q110:z00:=fun vs bs=>match vs,bs with
 | [.one (.dat (.list .int) l),.one (.dat .int k)],[]=>some (some (l.length≤140737488355328),.one (dI (indexI k 0 l)),[])
 | _,_=>none
def Γ_q110:Ctx:=[]
theorem ok_q110:Ok Tryz.prog tab Γ_q110:=ok_nil
noncomputable def q110_L0:List It:=[.inLoop [8,7,4,0,1] (cSub fn_q110 [1,0,1,0,0]),.inBlock 0,.code (cSub fn_q110 [1,1])]
def q110_S0 (x0 x1 x2:Int) (x3:List Int) (x4:Int):St:=⟨[(8,.one (dI x0)),(7,.one (dI x1)),(4,.one (dI x2)),(0,.one (dL x3)),(1,.one (dI x4))],[],0⟩
theorem q110_vc (l:List Int) (k:Int) (rec:RK) (K:KK):segD Γ_q110 tab fn_q110 0 K rec [.code (z05 fn_q110)] (z07 [.one (dL l),.one (dI k)] [])=(
 rec q110_L0 (q110_S0 0 (len l:Int) 0 l k)):=by kernel_rfl
theorem zii (x0 x1 x2:Int) (x3:List Int) (x4:Int) (rec:RK) (K:KK):segD Γ_q110 tab fn_q110 0 K rec (ent q110_L0) (q110_S0 x0 x1 x2 x3 x4)=(
 br (lti x0 x1)
 (((0:Int)≤x0∧x0<(len x3:Int)) ∧
 br (eqi x4 (nth x3 (Int.toNat x0) (Ty.dflt Ty.int)))
 (K (.one (dI x0)) [])
 (rec q110_L0 (q110_S0 (w64 (x0+1)) x1 x2 x3 x4)))
 (K (.one (dI (-1))) [])):=by kernel_rfl

theorem zew (l:List Int) (s:Int) (hl:l.length≤140737488355328) (K:KK):∀ (d k:Nat),k+d=l.length→K (.one (dI (indexI s k (l.drop k)))) [] →
  goD Γ_q110 tab fn_q110 0 K (d+1) q110_L0 (q110_S0 (k:Int) (((len l):Nat):Int) 0 l s)
 | 0,k,hk,hK=>by
  rw [z09 (L:=q110_L0),zii _ _ _ _ _ _ _]
  rw [List.drop_of_length_le (by omega)] at hK
  exact z22 (by simp only [len]; omega) hK
 | d+1,k,hk,hK=>by
  rw [z09 (L:=q110_L0),zii _ _ _ _ _ _ _,z08]
  rw [z0q (by omega) (Ty.dflt Ty.int)] at hK
  simp only [indexI] at hK
  refine z2o (by simp only [len]; omega) ⟨⟨by omega,by simp only [len]; omega⟩,z27 (fun h=>?_) (fun h=>?_)⟩
  ·rw [if_pos h.symm] at hK; exact hK
  ·rw [if_neg (fun e=>h e.symm)] at hK
   rw [z0f (by omega)]
   exact zew l s hl K d (k+1) (by omega) hK
theorem run_q110 (l:List Int) (hp:l.length≤140737488355328) (K:KK) (hK:K (.one (dI (indexI k 0 l))) []):GD Γ_q110 fn_q110 0 K [.one (dL l),.one (dI k)] []:=by
 refine ⟨l.length+2,?_⟩
 rw [z02,q110_vc _ _ _ _]
 exact zew l k hp K l.length 0 (by omega) hK
theorem sound_q110:z03 Tryz.prog tab n_q110 c_q110:=z01 ok_q110 hg_q110 (by
 intro vs bs p v bs' h hp
 unfold c_q110 at h
 split at h
 ·cases h
  exact ⟨by kernel_rfl,rfl,.inl (run_q110 _ _ hp.1 _ ⟨rfl,rfl⟩)⟩
 ·cases h)

def c_q111:z00:=fun vs bs=>match vs,bs with
 | [.one (.dat (.list .int) l),.one (.dat .int k)],[]=>some (some (l.length≤140737488355328),.one (dB (hasI k l)),[])
 | _,_=>none
def Γ_q111:Ctx:=[(n_q110,c_q110)]
theorem ok_q111:Ok Tryz.prog tab Γ_q111:=(ok_nil.c hg_q110 sound_q110)
theorem q111_vc (l:List Int) (k:Int) (rec:RK) (K:KK) v0 (hv0:v0=indexI k 0 l):segD Γ_q111 tab fn_q111 0 K rec [.code (z05 fn_q111)] (z07 [.one (dL l),.one (dI k)] [])=(
 List.length l≤140737488355328 ∧
 K (.one (dB (lei 0 v0))) []):=by subst_vars; kernel_rfl

theorem run_q111 (l:List Int) (hp:l.length≤140737488355328) (K:KK) (hK:K (.one (dB (hasI k l))) []):GD Γ_q111 fn_q111 0 K [.one (dL l),.one (dI k)] []:=by
 refine ⟨1,?_⟩
 rw [z02,q111_vc _ _ _ _ _ rfl]
 rw [← zd4 k l 0 (by omega)] at hK
 exact ⟨hp,hK⟩
theorem sound_q111:z03 Tryz.prog tab n_q111 c_q111:=z01 ok_q111 hg_q111 (by
 intro vs bs p v bs' h hp
 unfold c_q111 at h
 split at h
 ·cases h
  exact ⟨by kernel_rfl,rfl,.inl (run_q111 _ _ hp.1 _ ⟨rfl,rfl⟩)⟩
 ·cases h)

def c_q112:z00:=fun vs bs=>match vs,bs with
 | [.one (.dat (.list .signed) l),.agg [.dat .int k,.dat .int n]],[]=>some (some (l.length≤140737488355328),.one (dI (indexG k n 0 l)),[])
 | _,_=>none
def Γ_q112:Ctx:=[]
theorem ok_q112:Ok Tryz.prog tab Γ_q112:=ok_nil
noncomputable def q112_L0:List It:=[.inLoop [8,7,4,3,0] (cSub fn_q112 [1,0,1,0,0]),.inBlock 0,.code (cSub fn_q112 [1,1])]
def q112_S0 (x0 x1 x2:Int) (x3:List Vm.Signed) (x4 x5:Int):St:=⟨[(8,.one (dI x0)),(7,.one (dI x1)),(4,.one (dI x2)),(3,.one (.ptr 0 0)),(0,.one (.dat (Ty.list Ty.signed) x3))],[(0,.box [dI x4,dI x5])],1⟩
theorem q112_vc (l:List Signed) (k n:Int) (rec:RK) (K:KK):segD Γ_q112 tab fn_q112 0 K rec [.code (z05 fn_q112)] (z07 [.one (.dat (Ty.list Ty.signed) l),.agg [dI k,dI n]] [])=(
 rec q112_L0 (q112_S0 0 (len l:Int) 0 l k n)):=by kernel_rfl
theorem zi4 (x0 x1 x2:Int) (x3:List Vm.Signed) (x4 x5:Int) (rec:RK) (K:KK):segD Γ_q112 tab fn_q112 0 K rec (ent q112_L0) (q112_S0 x0 x1 x2 x3 x4 x5)=(
 br (lti x0 x1)
 (((0:Int)≤x0∧x0<(len x3:Int)) ∧
 br ((eqi x4 (nth x3 (Int.toNat x0) (Ty.dflt Ty.signed)).key) && ((eqi x5 (nth x3 (Int.toNat x0) (Ty.dflt Ty.signed)).name) && true))
 (K (.one (dI x0)) [])
 (rec q112_L0 (q112_S0 (w64 (x0+1)) x1 x2 x3 x4 x5)))
 (K (.one (dI (-1))) [])):=by kernel_rfl

theorem zfr (l:List Vm.Signed) (s n:Int) (hl:l.length≤140737488355328) (K:KK):∀ (d k:Nat),k+d=l.length→K (.one (dI (indexG s n k (l.drop k)))) [] →
  goD Γ_q112 tab fn_q112 0 K (d+1) q112_L0 (q112_S0 (k:Int) (((len l):Nat):Int) 0 l s n)
 | 0,k,hk,hK=>by
  rw [z09 (L:=q112_L0),zi4 _ _ _ _ _ _ _ _]
  rw [List.drop_of_length_le (by omega)] at hK
  exact z22 (by simp only [len]; omega) hK
 | d+1,k,hk,hK=>by
  rw [z09 (L:=q112_L0),zi4 _ _ _ _ _ _ _ _,z08]
  rw [z0q (by omega) (Ty.dflt Ty.signed)] at hK
  simp only [indexG] at hK
  refine z2o (by simp only [len]; omega) ⟨⟨by omega,by simp only [len]; omega⟩,z0l (fun h=>?_) (fun h=>?_)⟩
  ·rw [if_pos (show isSig s n _=true from h)] at hK; exact hK
  ·rw [if_neg (show ¬ isSig s n _=true from by rw [show isSig s n (nth l k (Ty.dflt Ty.signed))=false from h]; simp)] at hK
   rw [z0f (by omega)]
   exact zfr l s n hl K d (k+1) (by omega) hK
theorem run_q112 (hp:l.length≤140737488355328) (K:KK) (hK:K (.one (dI (indexG k n 0 l))) []):GD Γ_q112 fn_q112 0 K [.one (.dat (Ty.list Ty.signed) l),.agg [dI k,dI n]] []:=by
 refine ⟨l.length+2,?_⟩
 rw [z02,q112_vc _ _ _ _ _]
 exact zfr l k n hp K l.length 0 (by omega) hK
theorem sound_q112:z03 Tryz.prog tab n_q112 c_q112:=z01 ok_q112 hg_q112 (by
 intro vs bs p v bs' h hp
 unfold c_q112 at h
 split at h
 ·cases h
  exact ⟨by kernel_rfl,rfl,.inl (run_q112 _ _ _ hp.1 _ ⟨rfl,rfl⟩)⟩
 ·cases h)

def c_q113:z00:=fun vs bs=>match vs,bs with
 | [.one (.dat (.list .signed) l),.agg [.dat .int k,.dat .int n]],[]=>some (some (l.length≤140737488355328),.one (dB (hasSig k n l)),[])
 | _,_=>none
def Γ_q113:Ctx:=[(n_q112,c_q112)]
theorem ok_q113:Ok Tryz.prog tab Γ_q113:=(ok_nil.c hg_q112 sound_q112)
theorem q113_vc (l:List Signed) (k n:Int) (rec:RK) (K:KK) v0 (hv0:v0=indexG k n 0 l):segD Γ_q113 tab fn_q113 0 K rec [.code (z05 fn_q113)] (z07 [.one (.dat (Ty.list Ty.signed) l),.agg [dI k,dI n]] [])=(
 List.length l≤140737488355328 ∧
 K (.one (dB (lei 0 v0))) []):=by subst_vars; kernel_rfl

theorem run_q113 (hp:l.length≤140737488355328) (K:KK) (hK:K (.one (dB (hasSig k n l))) []):GD Γ_q113 fn_q113 0 K [.one (.dat (Ty.list Ty.signed) l),.agg [dI k,dI n]] []:=by
 refine ⟨1,?_⟩
 rw [z02,q113_vc _ _ _ _ _ _ rfl]
 rw [← zch k n l 0 (by omega)] at hK
 exact ⟨hp,hK⟩
theorem sound_q113:z03 Tryz.prog tab n_q113 c_q113:=z01 ok_q113 hg_q113 (by
 intro vs bs p v bs' h hp
 unfold c_q113 at h
 split at h
 ·cases h
  exact ⟨by kernel_rfl,rfl,.inl (run_q113 _ _ _ hp.1 _ ⟨rfl,rfl⟩)⟩
 ·cases h)

def c_q115:z00:=fun vs bs=>match vs,bs with
 | [.one (.dat (.list .signed) l),.agg [.dat .int v,.dat (.list .int) ks,.dat .int t],.one (.dat (.list .int) sg),.one (.dat .int n)],[]=>some (none,.tup [.one (dI (countT l ⟨v,ks,t⟩ sg n).1),.one (dI (countT l ⟨v,ks,t⟩ sg n).2)],[])
 | _,_=>none
def Γ_q115:Ctx:=[(n_q114,c_q114),(n_q91,c_q91),(n_q111,c_q111),(n_q113,c_q113)]
theorem ok_q115:Ok Tryz.prog tab Γ_q115:=((((ok_nil.c hg_q113 sound_q113).c hg_q111 sound_q111).c hg_q91 sound_q91).c hg_q114 sound_q114)
noncomputable def q115_L0:List It:=[.inLoop [31,30,29,12,9,8,0,2,3] (cSub fn_q115 [1,1,1,1,1,0,1,0,0]),.inBlock 0,.code (cSub fn_q115 [1,1,1,1,1,1])]
def q115_S0 (x0 x1:Int) (x2:List Int) (x3 x4 x5:Int) (x6:List Vm.Signed) (x7:List Int) (x8:Int):St:=⟨[(31,.one (dI x0)),(30,.one (dI x1)),(29,.one (dL x2)),(12,.one (dI x3)),(9,.one (dI x4)),(8,.one (dI x5)),(0,.one (.dat (Ty.list Ty.signed) x6)),(2,.one (dL x7)),(3,.one (dI x8))],[],0⟩
theorem q115_vc (l:List Signed) (v:Int) (ks:List Int) (t:Int) (sg:List Int) (n:Int) (rec:RK) (K:KK) v0 (hv0:v0=checkSigned l) v1 (hv1:v1=checkRoot v ks t):segD Γ_q115 tab fn_q115 0 K rec [.code (z05 fn_q115)] (z07 [.one (.dat (Ty.list Ty.signed) l),.agg [dI v,dL ks,dI t],.one (dL sg),.one (dI n)] [])=(
 br (!(eqi v0 0))
 (K (.tup [.one (dI 0),.one (dI v0)]) [])
 (br (!(eqi v1 0))
 (K (.tup [.one (dI 0),.one (dI v1)]) [])
 (br (lti 50 (len sg:Int))
 (K (.tup [.one (dI 0),.one (dI 2)]) [])
 (rec q115_L0 (q115_S0 0 (len ks:Int) ks 0 0 0 l sg n))))):=by subst_vars; kernel_rfl
theorem zid (x0 x1:Int) (x2:List Int) (x3 x4 x5:Int) (x6:List Vm.Signed) (x7:List Int) (x8:Int) (rec:RK) (K:KK) v0 (hv0:v0=hasI (nth x2 (Int.toNat x0) (Ty.dflt Ty.int)) x7) v1 (hv1:v1=hasSig (nth x2 (Int.toNat x0) (Ty.dflt Ty.int)) x8 x6) v2 (hv2:v2=rec q115_L0 (q115_S0 (w64 (x0+1)) x1 x2 x3 x4 x5 x6 x7 x8)):segD Γ_q115 tab fn_q115 0 K rec (ent q115_L0) (q115_S0 x0 x1 x2 x3 x4 x5 x6 x7 x8)=(
 br (lti x0 x1)
 (((0:Int)≤x0∧x0<(len x2:Int)) ∧
 List.length x7≤140737488355328 ∧
 br v0
 (List.length x6≤140737488355328 ∧
 br v1
 (rec q115_L0 (q115_S0 (w64 (x0+1)) x1 x2 (w64 (x3+1)) x4 x5 x6 x7 x8))
 v2)
 v2)
 (K (.tup [.one (dI x3),.one (dI 0)]) [])):=by subst_vars; kernel_rfl

theorem z7p (l:List Vm.Signed) (ks sg:List Int) (n:Int) (hk6:ks.length≤6) (hl:l.length≤360) (hs:sg.length≤50) (K:KK) (x4 x5:Int):∀ (d k c:Nat),k+d=ks.length→c≤k→K (.tup [.one (dI ((c+countN l sg n (ks.drop k):Nat):Int)),.one (dI 0)]) [] →
  goD Γ_q115 tab fn_q115 0 K (d+1) q115_L0 (q115_S0 (k:Int) (((len ks):Nat):Int) ks (c:Int) x4 x5 l sg n)
 | 0,k,c,hk,hc,hK=>by
  rw [z09 (L:=q115_L0),zid _ _ _ _ _ _ _ _ _ _ _ _ rfl _ rfl _ rfl]
  rw [List.drop_of_length_le (by omega)] at hK
  exact z22 (by simp only [len]; omega) hK
 | d+1,k,c,hk,hc,hK=>by
  rw [z09 (L:=q115_L0),zid _ _ _ _ _ _ _ _ _ _ _ _ rfl _ rfl _ rfl,z08]
  rw [z0q (by omega) (Ty.dflt Ty.int),zgk] at hK
  obtain ⟨x,hx⟩:∃ x,nth ks k (Ty.dflt Ty.int)=x:=⟨_,rfl⟩
  rw [hx] at hK ⊢
  rw [z0f (k:=k) (by omega),z0f (k:=c) (by omega)]
  have no:signs l sg n x=false→K (.tup [.one (dI ((c+countN l sg n (ks.drop (k+1)):Nat):Int)),.one (dI 0)]) []:=fun h=>by
   rw [if_neg (by rw [h]; simp),Nat.zero_add] at hK; exact hK
  refine z2o (by simp only [len]; omega) ⟨⟨by omega,by simp only [len]; omega⟩,by omega,z0l (fun h=>⟨by omega,z0l (fun h2=>?_) (fun h2=>?_)⟩) (fun h=>?_)⟩
  ·rw [if_pos (show signs l sg n x=true from by simp [signs,h,h2])] at hK
   exact z7p l ks sg n hk6 hl hs K x4 x5 d (k+1) (c+1) (by omega) (by omega) (by rw [show c+1+countN l sg n (ks.drop (k+1))=c+(1+countN l sg n (ks.drop (k+1))) by omega]; exact hK)
  ·exact z7p l ks sg n hk6 hl hs K x4 x5 d (k+1) c (by omega) (by omega) (no (by simp [signs,h2]))
  ·exact z7p l ks sg n hk6 hl hs K x4 x5 d (k+1) c (by omega) (by omega) (no (by simp [signs,h]))
theorem run_q115 (K:KK) (hK:K (.tup [.one (dI (countT l ⟨v,ks,t⟩ sg n).1),.one (dI (countT l ⟨v,ks,t⟩ sg n).2)]) []):GD Γ_q115 fn_q115 0 K [.one (.dat (Ty.list Ty.signed) l),.agg [dI v,dL ks,dI t],.one (dL sg),.one (dI n)] []:=by
 refine ⟨ks.length+2,?_⟩
 rw [z02,q115_vc _ _ _ _ _ _ _ _ _ rfl _ rfl]
 unfold countT at hK
 simp only at hK
 refine z1c (fun h=>?_) (fun h=>z1c (fun h2=>?_) (fun h2=>z1a (fun h3=>?_) (fun h3=>?_)))
 ·rw [if_neg h] at hK; exact hK
 ·rw [if_pos h,if_neg h2] at hK; exact hK
 ·rw [if_pos h,if_pos h2,if_pos (by simp only [len] at h3; omega)] at hK; exact hK
 ·rw [if_pos h,if_pos h2,if_neg (by simp only [len] at h3; omega)] at hK
  have hl:l.length≤360:=by
   unfold checkSigned at h
   by_cases c:360<l.length
   ·rw [if_pos c] at h; cases h
   ·omega
  exact z7p l ks sg n (z2e h2).2.2.2.2.1 hl (by simp only [len] at h3; omega) K 0 0 ks.length 0 0 (by omega) (by omega) (by rw [Nat.zero_add]; exact hK)
theorem sound_q115:z03 Tryz.prog tab n_q115 c_q115:=z01 ok_q115 hg_q115 (by
 intro vs bs p v bs' h hp
 unfold c_q115 at h
 split at h
 ·cases h
  exact ⟨by kernel_rfl,rfl,.inl (run_q115 _ _ _ _ _ _ _ ⟨rfl,rfl⟩)⟩
 ·cases h)

def c_q117:z00:=fun vs bs=>match vs,bs with
 | [.agg [.dat (.list .str) b],.one (.dat (.list .signed) l),.agg [.dat .int v,.dat (.list .int) ks,.dat .int t,.dat .int n],.agg [.dat .int nv,.dat (.list .int) nk,.dat .int nt],.one (.dat (.list .int) sg)],[]=>some (some (b.length≤140737488355328),.tup [.agg [dI (turnT b l ⟨⟨v,ks,t⟩,n⟩ ⟨nv,nk,nt⟩ sg).1.r.version,dL (turnT b l ⟨⟨v,ks,t⟩,n⟩ ⟨nv,nk,nt⟩ sg).1.r.keys,dI (turnT b l ⟨⟨v,ks,t⟩,n⟩ ⟨nv,nk,nt⟩ sg).1.r.thr,dI (turnT b l ⟨⟨v,ks,t⟩,n⟩ ⟨nv,nk,nt⟩ sg).1.version],.one (dI (turnT b l ⟨⟨v,ks,t⟩,n⟩ ⟨nv,nk,nt⟩ sg).2)],[])
 | _,_=>none
def Γ_q117:Ctx:=[(n_q116,c_q116),(n_q94,c_q94),(n_q89,c_q89),(n_q115,c_q115),(n_q2,c_q2)]
theorem ok_q117:Ok Tryz.prog tab Γ_q117:=(((((ok_nil.c hg_q2 sound_q2).c hg_q115 sound_q115).c hg_q89 sound_q89).c hg_q94 sound_q94).c hg_q116 sound_q116)
noncomputable def q117_L0:List It:=[.inLoop [57,56,15,11,10,8,7,1,4] (cSub fn_q117 [1,1,1,1,1,1,1,0,1,0,0]),.inBlock 0,.code (cSub fn_q117 [1,1,1,1,1,1,1,1])]
def q117_S0 (x0 x1:Int) (x2:List Int) (x3 x4:Int) (x5:List Int) (x6 x7 x8:Int) (x9:List Vm.Signed) (x10:List Int) (x11 x12 x13 x14:Int) (x15:List Int) (x16 x17:Int) (x18:List Int) (x19 x20:Int) (x21:List Int):St:=⟨[(57,.one (dI x0)),(56,.agg [dI x1,dL x2,dI x3,dI x4,dL x5,dI x6]),(15,.one (dI x7)),(11,.one (dI x8)),(10,.one (.ptr 0 0)),(8,.one (.ptr 1 0)),(7,.one (.ptr 2 0)),(1,.one (.dat (Ty.list Ty.signed) x9)),(4,.one (dL x10))],[(0,.box [dI x11,.own 3,dI x12,dI x13]),(1,.box [dI x14,dL x15,dI x16]),(2,.box [dI x17,dL x18,dI x19,dI x20]),(3,.arr Ty.int x21)],4⟩
theorem q117_vc (b:List (List UInt8)) (l:List Signed) (v:Int) (ks:List Int) (t n nv:Int) (nk:List Int) (nt:Int) (sg:List Int) (rec:RK) (K:KK) v0 (hv0:v0=checkTrust ⟨⟨v,ks,t⟩,n⟩) v1 (hv1:v1=rootTextE nv nk nt) v2 (hv2:v2=nameB b v1.fst):segD Γ_q117 tab fn_q117 0 K rec [.code (z05 fn_q117)] (z07 [.agg [.dat (Ty.list Ty.str) b],.one (.dat (Ty.list Ty.signed) l),.agg [dI v,dL ks,dI t,dI n],.agg [dI nv,dL nk,dI nt],.one (dL sg)] [])=(
 br (!(eqi v0 0))
 (K (.tup [.agg [dI (0:Int),dL [],dI (0:Int),dI (0:Int)],.one (dI v0)]) [])
 (br (!(eqi v1.snd 0))
 (K (.tup [.agg [dI (0:Int),dL [],dI (0:Int),dI (0:Int)],.one (dI v1.snd)]) [])
 (List.length b≤140737488355328 ∧
 br (!(eqi v2.snd 0))
 (K (.tup [.agg [dI (0:Int),dL [],dI (0:Int),dI (0:Int)],.one (dI v2.snd)]) [])
 (br (!(eqi nv (w64 (v+1))))
 (K (.tup [.agg [dI (0:Int),dL [],dI (0:Int),dI (0:Int)],.one (dI 10)]) [])
 (rec q117_L0 (q117_S0 0 v ks t nv nk nt v2.fst 0 l sg 0 0 0 nv nk nt v ks t n [])))))):=by subst_vars; kernel_rfl
theorem zjw (x1:Int) (x2:List Int) (x3 x4:Int) (x5:List Int) (x6 x7 x8:Int) (x9:List Vm.Signed) (x10:List Int) (x11 x12 x13 x14:Int) (x15:List Int) (x16 x17:Int) (x18:List Int) (x19 x20:Int) (x21:List Int) (rec:RK) (K:KK) v0 (hv0:v0=countT x9 ⟨x1,x2,x3⟩ x10 x7):segD Γ_q117 tab fn_q117 0 K rec (ent q117_L0) (q117_S0 0 x1 x2 x3 x4 x5 x6 x7 x8 x9 x10 x11 x12 x13 x14 x15 x16 x17 x18 x19 x20 x21)=(
 ((0:Int)≤(0:Int)∧(0:Int)<((2:Nat):Int)) ∧
 br (!(eqi v0.snd 0))
 (K (.tup [.agg [dI (0:Int),dL [],dI (0:Int),dI (0:Int)],.one (dI v0.snd)]) [])
 (br (lti v0.fst x3)
 (K (.tup [.agg [dI (0:Int),dL [],dI (0:Int),dI (0:Int)],.one (dI 9)]) [])
 (rec q117_L0 (q117_S0 (w64 ((0:Int)+(1:Int))) x1 x2 x3 x4 x5 x6 x7 x8 x9 x10 x11 x12 x13 x14 x15 x16 x17 x18 x19 x20 x21)))):=by subst_vars; kernel_rfl
theorem zkn (x1:Int) (x2:List Int) (x3 x4:Int) (x5:List Int) (x6 x7 x8:Int) (x9:List Vm.Signed) (x10:List Int) (x11 x12 x13 x14:Int) (x15:List Int) (x16 x17:Int) (x18:List Int) (x19 x20:Int) (x21:List Int) (rec:RK) (K:KK) v0 (hv0:v0=countT x9 ⟨x4,x5,x6⟩ x10 x7):segD Γ_q117 tab fn_q117 0 K rec (ent q117_L0) (q117_S0 1 x1 x2 x3 x4 x5 x6 x7 x8 x9 x10 x11 x12 x13 x14 x15 x16 x17 x18 x19 x20 x21)=(
 ((0:Int)≤(1:Int)∧(1:Int)<((2:Nat):Int)) ∧
 br (!(eqi v0.snd 0))
 (K (.tup [.agg [dI (0:Int),dL [],dI (0:Int),dI (0:Int)],.one (dI v0.snd)]) [])
 (br (lti v0.fst x6)
 (K (.tup [.agg [dI (0:Int),dL [],dI (0:Int),dI (0:Int)],.one (dI 9)]) [])
 (rec q117_L0 (q117_S0 (w64 ((1:Int)+(1:Int))) x1 x2 x3 x4 x5 x6 x7 x8 x9 x10 x11 x12 x13 x14 x15 x16 x17 x18 x19 x20 x21)))):=by subst_vars; kernel_rfl
theorem zke (x1:Int) (x2:List Int) (x3 x4:Int) (x5:List Int) (x6 x7 x8:Int) (x9:List Vm.Signed) (x10:List Int) (x11 x12 x13 x14:Int) (x15:List Int) (x16 x17:Int) (x18:List Int) (x19 x20:Int) (x21:List Int) (rec:RK) (K:KK):segD Γ_q117 tab fn_q117 0 K rec (ent q117_L0) (q117_S0 2 x1 x2 x3 x4 x5 x6 x7 x8 x9 x10 x11 x12 x13 x14 x15 x16 x17 x18 x19 x20 x21)=(
 len x15*8≤140737488355328 ∧
 K (.tup [.agg [dI x14,dL x15,dI x16,dI x20],.one (dI 0)]) []):=by kernel_rfl
theorem q117_vc0_3 (x1:Int) (x2:List Int) (x3 x4:Int) (x5:List Int) (x6 x7 x8:Int) (x9:List Vm.Signed) (x10:List Int) (x11 x12 x13 x14:Int) (x15:List Int) (x16 x17:Int) (x18:List Int) (x19 x20:Int) (x21:List Int) (rec:RK) (K:KK):segD Γ_q117 tab fn_q117 0 K rec (ent q117_L0) (q117_S0 3 x1 x2 x3 x4 x5 x6 x7 x8 x9 x10 x11 x12 x13 x14 x15 x16 x17 x18 x19 x20 x21)=(
 len x15*8≤140737488355328 ∧
 K (.tup [.agg [dI x14,dL x15,dI x16,dI x20],.one (dI 0)]) []):=by kernel_rfl

theorem run_q117 (hp:b.length≤140737488355328) (K:KK) (hK:K (.tup [.agg [dI (turnT b l ⟨⟨v,ks,t⟩,n⟩ ⟨nv,nk,nt⟩ sg).1.r.version,dL (turnT b l ⟨⟨v,ks,t⟩,n⟩ ⟨nv,nk,nt⟩ sg).1.r.keys,dI (turnT b l ⟨⟨v,ks,t⟩,n⟩ ⟨nv,nk,nt⟩ sg).1.r.thr,dI (turnT b l ⟨⟨v,ks,t⟩,n⟩ ⟨nv,nk,nt⟩ sg).1.version],.one (dI (turnT b l ⟨⟨v,ks,t⟩,n⟩ ⟨nv,nk,nt⟩ sg).2)]) []):GD Γ_q117 fn_q117 0 K [.agg [.dat (Ty.list Ty.str) b],.one (.dat (Ty.list Ty.signed) l),.agg [dI v,dL ks,dI t,dI n],.agg [dI nv,dL nk,dI nt],.one (dL sg)] []:=by
 refine ⟨5,?_⟩
 rw [z02,q117_vc _ _ _ _ _ _ _ _ _ _ _ _ _ rfl _ rfl _ rfl]
 have bad:∀ e:Int,e≠0→turnE b l ⟨⟨v,ks,t⟩,n⟩ ⟨nv,nk,nt⟩ sg=e→K (.tup [.agg [dI 0,dL [],dI 0,dI 0],.one (dI e)]) []:=fun e he h=>by
  rw [show turnT b l ⟨⟨v,ks,t⟩,n⟩ ⟨nv,nk,nt⟩ sg=(noTrust,e) from by unfold turnT; rw [if_neg (by rw [h]; exact he),h]] at hK
  exact hK
 refine z1c (fun h=>bad _ h (if_neg h)) (fun h=>?_)
 have E1:turnE b l ⟨⟨v,ks,t⟩,n⟩ ⟨nv,nk,nt⟩ sg=_:=if_pos h
 refine z1c (fun h2=>?_) (fun h2=>⟨hp,?_⟩)
 ·unfold rootTextE at h2 ⊢
  by_cases c:checkRoot nv nk nt=0
  ·rw [if_pos c] at h2; exact absurd rfl h2
  ·rw [if_neg c]
   exact bad _ c (E1.trans (if_neg c))
 have c2:checkRoot nv nk nt=0:=by
  by_cases c:checkRoot nv nk nt=0
  ·exact c
  ·unfold rootTextE at h2; rw [if_neg c] at h2; exact h2
 rw [show rootTextE nv nk nt=(rootText nv nk nt,0) from if_pos c2]
 have E2:=E1.trans (if_pos c2)
 refine z1c (fun h3=>?_) (fun h3=>?_)
 ·unfold nameB at h3 ⊢
  by_cases c:z0r b=0
  ·rw [if_pos c] at h3; exact absurd rfl h3
  ·rw [if_neg c]
   exact bad _ c (E2.trans (if_neg c))
 have c3:z0r b=0:=by
  by_cases c:z0r b=0
  ·exact c
  ·unfold nameB at h3; rw [if_neg c] at h3; exact h3
 have E3:=E2.trans (if_pos c3)
 simp only [show nameB b (rootText nv nk nt)=(indexS (rootText nv nk nt) b+1,0) from if_pos c3]
 obtain ⟨t1,t2,t3⟩:=z2z h
 obtain ⟨r1,r2,r3,r4,r5,_⟩:=z2e t3
 obtain ⟨q1,q2,q3,q4,q5,_⟩:=z2e c2
 simp only at t1 t2 r1 r2 r3 r4 r5
 rw [z0e (n:=v+1) (by omega) (by omega)]
 refine z1c (fun h4=>bad _ (by decide) (E3.trans (if_neg h4))) (fun h4=>?_)
 have E4:=E3.trans (if_pos h4)
 have step:∀ (r:Vm.Root) (P Q R:Prop),(enough l r sg (indexS (rootText nv nk nt) b+1)≠0→(countT l r sg (indexS (rootText nv nk nt) b+1)).2≠0→(countT l r sg (indexS (rootText nv nk nt) b+1)).2=enough l r sg (indexS (rootText nv nk nt) b+1)→P)→(enough l r sg (indexS (rootText nv nk nt) b+1)=9→Q)→(enough l r sg (indexS (rootText nv nk nt) b+1)=0→R) →
   br (!eqi (countT l r sg (indexS (rootText nv nk nt) b+1)).2 0) P (br (lti (countT l r sg (indexS (rootText nv nk nt) b+1)).1 r.thr) Q R):=fun r P Q R hP hQ hR=>by
  refine z1c (fun g=>?_) (fun g=>z1a (fun g2=>hQ ?_) (fun g2=>hR ?_))
  ·have e:enough l r sg (indexS (rootText nv nk nt) b+1)=(countT l r sg (indexS (rootText nv nk nt) b+1)).2:=if_neg g
   exact hP (by rw [e]; exact g) g e.symm
  ·unfold enough; rw [if_pos g,if_pos g2]
  ·unfold enough; rw [if_pos g,if_neg (by omega)]
 rw [z09 (L:=q117_L0),zjw _ _ _ _ _ _ _ _ _ _ _ _ _ _ _ _ _ _ _ _ _ _ _ _ rfl]
 refine ⟨by omega,step ⟨v,ks,t⟩ _ _ _ (fun g g1 g2=>bad _ g1 ((E4.trans (if_neg g)).trans g2.symm)) (fun g=>bad _ (by decide) ((E4.trans (if_neg (by rw [g]; decide))).trans g)) (fun g=>?_)⟩
 have E5:=E4.trans (if_pos g)
 rw [show w64 ((0:Int)+1)=1 from z0e (by omega) (by omega),z09 (L:=q117_L0),zkn _ _ _ _ _ _ _ _ _ _ _ _ _ _ _ _ _ _ _ _ _ _ _ _ rfl]
 refine ⟨by omega,step ⟨nv,nk,nt⟩ _ _ _ (fun g g1 g2=>bad _ g1 (E5.trans g2.symm)) (fun g=>bad _ (by decide) (E5.trans g)) (fun g=>?_)⟩
 rw [show w64 ((1:Int)+1)=2 from z0e (by omega) (by omega),z09 (L:=q117_L0),zke _ _ _ _ _ _ _ _ _ _ _ _ _ _ _ _ _ _ _ _ _ _ _]
 refine ⟨by simp only [len]; omega,?_⟩
 rw [show turnT b l ⟨⟨v,ks,t⟩,n⟩ ⟨nv,nk,nt⟩ sg=(⟨⟨nv,nk,nt⟩,n⟩,0) from if_pos (E5.trans g)] at hK
 exact hK
theorem sound_q117:z03 Tryz.prog tab n_q117 c_q117:=z01 ok_q117 hg_q117 (by
 intro vs bs p v bs' h hp
 unfold c_q117 at h
 split at h
 ·cases h
  exact ⟨by kernel_rfl,rfl,.inl (run_q117 _ _ _ _ _ _ _ _ _ _ hp.1 _ ⟨rfl,rfl⟩)⟩
 ·cases h)

def c_q118:z00:=fun vs bs=>match vs,bs with
 | [.one (.dat .int e)],[]=>some (none,.tup [.agg [dI 0,dL [],dI 0,dI 0],.one (dI e)],[])
 | _,_=>none
def Γ_q118:Ctx:=[]
theorem ok_q118:Ok Tryz.prog tab Γ_q118:=ok_nil
theorem q118_vc (e:Int) (rec:RK) (K:KK):segD Γ_q118 tab fn_q118 0 K rec [.code (z05 fn_q118)] (z07 [.one (dI e)] [])=(
 K (.tup [.agg [dI (0:Int),dL [],dI (0:Int),dI (0:Int)],.one (dI e)]) []):=by kernel_rfl

theorem run_q118 (K:KK) (hK:K (.tup [.agg [dI 0,dL [],dI 0,dI 0],.one (dI e)]) []):GD Γ_q118 fn_q118 0 K [.one (dI e)] []:=by
 refine ⟨1,?_⟩
 rw [z02,q118_vc _ _ _]
 exact hK
theorem sound_q118:z03 Tryz.prog tab n_q118 c_q118:=z01 ok_q118 hg_q118 (by
 intro vs bs p v bs' h hp
 unfold c_q118 at h
 split at h
 ·cases h
  exact ⟨by kernel_rfl,rfl,.inl (run_q118 _ _ ⟨rfl,rfl⟩)⟩
 ·cases h)

def c_q119:z00:=fun vs bs=>match vs,bs with
 | [.agg [.dat (.list .str) b],.one (.dat (.list .signed) l),.agg [.dat .int v,.dat (.list .int) ks,.dat .int t,.dat .int n],.agg [.dat (.list .root) rs,.dat (.list (.list .int)) rg,.dat .int ov,.dat .int ou,.dat (.list .target) ts,.dat (.list .int) sg,.dat (.list (.list .int)) im],.one (.dat .int now),.one (.dat .int units)],[]=>some (some (b.length≤140737488355328),.tup [.agg [dI (takeT b l ⟨⟨v,ks,t⟩,n⟩ ⟨rs,rg,⟨ov,ou,ts⟩,sg,im⟩ now units).1.r.version,dL (takeT b l ⟨⟨v,ks,t⟩,n⟩ ⟨rs,rg,⟨ov,ou,ts⟩,sg,im⟩ now units).1.r.keys,dI (takeT b l ⟨⟨v,ks,t⟩,n⟩ ⟨rs,rg,⟨ov,ou,ts⟩,sg,im⟩ now units).1.r.thr,dI (takeT b l ⟨⟨v,ks,t⟩,n⟩ ⟨rs,rg,⟨ov,ou,ts⟩,sg,im⟩ now units).1.version],.one (dI (takeT b l ⟨⟨v,ks,t⟩,n⟩ ⟨rs,rg,⟨ov,ou,ts⟩,sg,im⟩ now units).2)],[])
 | _,_=>none
def Γ_q119:Ctx:=[(n_q116,c_q116),(n_q117,c_q117),(n_q118,c_q118),(n_q95,c_q95),(n_q89,c_q89),(n_q115,c_q115),(n_q97,c_q97),(n_q2,c_q2)]
theorem ok_q119:Ok Tryz.prog tab Γ_q119:=((((((((ok_nil.c hg_q2 sound_q2).c hg_q97 sound_q97).c hg_q115 sound_q115).c hg_q89 sound_q89).c hg_q95 sound_q95).c hg_q118 sound_q118).c hg_q117 sound_q117).c hg_q116 sound_q116)
noncomputable def q119_L0:List It:=[.inLoop [57,56,55,14,13,12,9,8,6,1,4,5] (cSub fn_q119 [1,1,1,1,0,1,0,0]),.inBlock 0,.code (cSub fn_q119 [1,1,1,1,1])]
def q119_S0 (x0 x1:Int) (x2:List Vm.Root) (x3:Int) (x4:List Vm.Signed) (x5 x6 x7 x8 x9:Int) (x10:List Vm.Root) (x11:List (List Int)) (x12 x13:Int) (x14:List Vm.Target) (x15:List Int) (x16:List (List Int)) (x17:Int) (x18:List Int) (x19 x20:Int) (x21:List (List UInt8)) (x22:List Int):St:=⟨[(57,.one (dI x0)),(56,.one (dI x1)),(55,.one (.dat (Ty.list Ty.root) x2)),(14,.one (.fn n_q118 [])),(13,.one (dI x3)),(12,.one (.ptr 0 0)),(9,.one (.ptr 1 0)),(8,.one (.ptr 2 0)),(6,.one (.ptr 3 0)),(1,.one (.dat (Ty.list Ty.signed) x4)),(4,.one (dI x5)),(5,.one (dI x6))],[(0,.box [dI x7,.own 4,dI x8,dI x9]),(1,.box [.dat (Ty.list Ty.root) x10,dR x11,dI x12,dI x13,.dat (Ty.list Ty.target) x14,dL x15,dR x16]),(2,.box [dI x17,dL x18,dI x19,dI x20]),(3,.box [.dat (Ty.list Ty.str) x21]),(4,.arr Ty.int x22)],5⟩
noncomputable def q119_L1:List It:=[.inLoop [181,180,179,14,13,12,9,8,6] (cSub fn_q119 [1,1,1,1,1,1,1,1,1,1,1,0,1,0,0]),.inBlock 3,.code (cSub fn_q119 [1,1,1,1,1,1,1,1,1,1,1,1])]
def q119_S1 (x0 x1:Int) (x2:List Vm.Target) (x3 x4 x5 x6:Int) (x7:List Vm.Root) (x8:List (List Int)) (x9 x10:Int) (x11:List Vm.Target) (x12:List Int) (x13:List (List Int)) (x14:Int) (x15:List Int) (x16 x17:Int) (x18:List (List UInt8)) (x19:List Int):St:=⟨[(181,.one (dI x0)),(180,.one (dI x1)),(179,.one (.dat (Ty.list Ty.target) x2)),(14,.one (.fn n_q118 [])),(13,.one (dI x3)),(12,.one (.ptr 0 0)),(9,.one (.ptr 1 0)),(8,.one (.ptr 2 0)),(6,.one (.ptr 3 0))],[(0,.box [dI x4,.own 4,dI x5,dI x6]),(1,.box [.dat (Ty.list Ty.root) x7,dR x8,dI x9,dI x10,.dat (Ty.list Ty.target) x11,dL x12,dR x13]),(2,.box [dI x14,dL x15,dI x16,dI x17]),(3,.box [.dat (Ty.list Ty.str) x18]),(4,.arr Ty.int x19)],5⟩
theorem q119_vc (b:List (List UInt8)) (l:List Signed) (v:Int) (ks:List Int) (t n:Int) (rs:List Root) (rg:List (List Int)) (ov ou:Int) (ts:List Vm.Target) (sg:List Int) (im:List (List Int)) (now units:Int) (rec:RK) (K:KK) v0 (hv0:v0=checkTrust ⟨⟨v,ks,t⟩,n⟩) v1 (hv1:v1=K (.tup [.agg [dI (0:Int),dL [],dI (0:Int),dI (0:Int)],.one (dI 2)]) []):segD Γ_q119 tab fn_q119 0 K rec [.code (z05 fn_q119)] (z07 [.agg [.dat (Ty.list Ty.str) b],.one (.dat (Ty.list Ty.signed) l),.agg [dI v,dL ks,dI t,dI n],.agg [.dat (Ty.list Ty.root) rs,dR rg,dI ov,dI ou,.dat (Ty.list Ty.target) ts,dL sg,dR im],.one (dI now),.one (dI units)] [])=(
 br (!(eqi v0 0))
 (K (.tup [.agg [dI (0:Int),dL [],dI (0:Int),dI (0:Int)],.one (dI v0)]) [])
 (br (lti 6 (len rs:Int))
 v1
 (br (!(eqi (len rg:Int) (len rs:Int)))
 v1
 (rec q119_L0 (q119_S0 0 (len rs:Int) rs 0 l now units 0 0 0 rs rg ov ou ts sg im v ks t n b []))))):=by subst_vars; kernel_rfl
theorem zij (x0 x1:Int) (x2:List Vm.Root) (x3:Int) (x4:List Vm.Signed) (x5 x6 x7 x8 x9:Int) (x10:List Vm.Root) (x11:List (List Int)) (x12 x13:Int) (x14:List Vm.Target) (x15:List Int) (x16:List (List Int)) (x17:Int) (x18:List Int) (x19 x20:Int) (x21:List (List UInt8)) (x22:List Int) (rec:RK) (K:KK) v0 (hv0:v0=turnT x21 x4 ⟨⟨x17,x18,x19⟩,x20⟩ ⟨(nth x2 (Int.toNat x0) (Ty.dflt Ty.root)).version,(nth x2 (Int.toNat x0) (Ty.dflt Ty.root)).keys,(nth x2 (Int.toNat x0) (Ty.dflt Ty.root)).thr⟩ (nth x11 (Int.toNat x0) (Ty.dflt (Ty.list Ty.int)))) v1 (hv1:v1=releaseTextE x12 x13 x14) v2 (hv2:v2=nameB x21 v1.fst) v3 (hv3:v3=countT x4 ⟨x17,x18,x19⟩ x15 v2.fst) v4 (hv4:v4=K (.tup [.agg [dI (0:Int),dL [],dI (0:Int),dI (0:Int)],.one (dI 4)]) []):segD Γ_q119 tab fn_q119 0 K rec (ent q119_L0) (q119_S0 x0 x1 x2 x3 x4 x5 x6 x7 x8 x9 x10 x11 x12 x13 x14 x15 x16 x17 x18 x19 x20 x21 x22)=(
 br (lti x0 x1)
 (((0:Int)≤x0∧x0<(len x2:Int)) ∧
 ((0:Int)≤x0∧x0<(len x11:Int)) ∧
 List.length x21≤140737488355328 ∧
 br (!(eqi v0.snd 0))
 (K (.tup [.agg [dI (0:Int),dL [],dI (0:Int),dI (0:Int)],.one (dI v0.snd)]) [])
 (rec q119_L0 (q119_S0 (w64 (x0+1)) x1 x2 x3 x4 x5 x6 x7 x8 x9 x10 x11 x12 x13 x14 x15 x16 v0.fst.r.version v0.fst.r.keys v0.fst.r.thr v0.fst.version x21 x22)))
 (br (!(eqi v1.snd 0))
 (K (.tup [.agg [dI (0:Int),dL [],dI (0:Int),dI (0:Int)],.one (dI v1.snd)]) [])
 (List.length x21≤140737488355328 ∧
 br (!(eqi v2.snd 0))
 (K (.tup [.agg [dI (0:Int),dL [],dI (0:Int),dI (0:Int)],.one (dI v2.snd)]) [])
 (br (!(eqi v3.snd 0))
 (K (.tup [.agg [dI (0:Int),dL [],dI (0:Int),dI (0:Int)],.one (dI v3.snd)]) [])
 (br (lti v3.fst x19)
 (K (.tup [.agg [dI (0:Int),dL [],dI (0:Int),dI (0:Int)],.one (dI 9)]) [])
 (br (lei x12 x20)
 (K (.tup [.agg [dI (0:Int),dL [],dI (0:Int),dI (0:Int)],.one (dI 10)]) [])
 (br (lti x13 x5)
 (K (.tup [.agg [dI (0:Int),dL [],dI (0:Int),dI (0:Int)],.one (dI 11)]) [])
 (br (!(eqi (len x14:Int) x6))
 v4
 (br (!(eqi (len x16:Int) x6))
 v4
 (rec q119_L1 (q119_S1 0 (len x14:Int) x14 x3 x7 x8 x9 x10 x11 x12 x13 x14 x15 x16 x17 x18 x19 x20 x21 x22))))))))))):=by subst_vars; kernel_rfl
theorem zjc (x0 x1:Int) (x2:List Vm.Target) (x3 x4 x5 x6:Int) (x7:List Vm.Root) (x8:List (List Int)) (x9 x10:Int) (x11:List Vm.Target) (x12:List Int) (x13:List (List Int)) (x14:Int) (x15:List Int) (x16 x17:Int) (x18:List (List UInt8)) (x19:List Int) (rec:RK) (K:KK) v0 (hv0:v0=z0m x18 (nth x13 (Int.toNat x0) (Ty.dflt (Ty.list Ty.int)))) v1 (hv1:v1=K (.tup [.agg [dI (0:Int),dL [],dI (0:Int),dI (0:Int)],.one (dI 5)]) []):segD Γ_q119 tab fn_q119 0 K rec (ent q119_L1) (q119_S1 x0 x1 x2 x3 x4 x5 x6 x7 x8 x9 x10 x11 x12 x13 x14 x15 x16 x17 x18 x19)=(
 br (lti x0 x1)
 (((0:Int)≤x0∧x0<(len x2:Int)) ∧
 ((0:Int)≤x0∧x0<(len x13:Int)) ∧
 List.length x18≤140737488355328 ∧
 br (!(eqi v0.snd 0))
 v1
 (br (!(eqi v0.fst (nth x2 (Int.toNat x0) (Ty.dflt Ty.target)).image))
 v1
 (((0:Int)≤x0∧x0<(len x13:Int)) ∧
 br (!(eqi (((len (nth x13 (Int.toNat x0) (Ty.dflt (Ty.list Ty.int)))):Nat):Int) (nth x2 (Int.toNat x0) (Ty.dflt Ty.target)).long))
 v1
 (rec q119_L1 (q119_S1 (w64 (x0+1)) x1 x2 x3 x4 x5 x6 x7 x8 x9 x10 x11 x12 x13 x14 x15 x16 x17 x18 x19)))))
 (len x15*8≤140737488355328 ∧
 K (.tup [.agg [dI x14,dL x15,dI x16,dI x9],.one (dI 0)]) [])):=by subst_vars; kernel_rfl

theorem z5h (b:List (List UInt8)) (hb:b.length≤140737488355328) (ts:List Vm.Target) (im:List (List Int)) (hl:ts.length≤4) (hi:im.length=ts.length) (K:KK) (x3 x4 x5 x6:Int) (rs:List Vm.Root) (rg:List (List Int)) (ov ou:Int) (sg:List Int) (v:Int) (ks:List Int) (t n:Int) (hk:ks.length≤6) (x19:List Int):∀ (d k:Nat),k+d=ts.length →
  (okImages b (ts.drop k) (im.drop k)=true→K (.tup [.agg [dI v,dL ks,dI t,dI ov],.one (dI 0)]) []) →
  (okImages b (ts.drop k) (im.drop k)=false→K (.tup [.agg [dI 0,dL [],dI 0,dI 0],.one (dI 5)]) []) →
  goD Γ_q119 tab fn_q119 0 K (d+1) q119_L1 (q119_S1 (k:Int) (((len ts):Nat):Int) ts x3 x4 x5 x6 rs rg ov ou ts sg im v ks t n b x19)
 | 0,k,hk',hT,hF=>by
  rw [z09 (L:=q119_L1),zjc _ _ _ _ _ _ _ _ _ _ _ _ _ _ _ _ _ _ _ _ _ _ _ rfl _ rfl]
  rw [List.drop_of_length_le (by omega)] at hT
  exact z22 (by simp only [len]; omega) ⟨by simp only [len]; omega,hT rfl⟩
 | d+1,k,hk',hT,hF=>by
  rw [z09 (L:=q119_L1),zjc _ _ _ _ _ _ _ _ _ _ _ _ _ _ _ _ _ _ _ _ _ _ _ rfl _ rfl,z08]
  rw [z0q (l:=ts) (by omega) (Ty.dflt Ty.target),z0q (l:=im) (by omega) (Ty.dflt (Ty.list Ty.int))] at hT hF
  obtain ⟨x,hx⟩:∃ x,nth ts k (Ty.dflt Ty.target)=x:=⟨_,rfl⟩
  obtain ⟨w,hw⟩:∃ w,nth im k (Ty.dflt (Ty.list Ty.int))=w:=⟨_,rfl⟩
  rw [hx,hw] at hT hF ⊢
  simp only [okImages,List.headD_cons,List.tail_cons] at hT hF
  have five:okImage b x w=false→K (.tup [.agg [dI 0,dL [],dI 0,dI 0],.one (dI 5)]) []:=fun h=>hF (by rw [h]; rfl)
  have ek:w64 ((k:Int)+1)=((k+1:Nat):Int):=z0f (by omega)
  rw [ek]
  refine z2o (by simp only [len]; omega) ⟨⟨by omega,by simp only [len]; omega⟩,⟨by omega,by simp only [len]; omega⟩,hb,z1c (fun h=>five ?_) (fun h=>z1c (fun h2=>five ?_) (fun h2=>⟨⟨by omega,by simp only [len]; omega⟩,z1c (fun h3=>five ?_) (fun h3=>?_)⟩))⟩
  ·simp [okImage,h]
  ·simp [okImage,h2]
  ·simp only [okImage,Bool.and_eq_false_iff,decide_eq_false_iff_not]; exact .inr h3
  ·have ok:okImage b x w=true:=by
    simp only [okImage,Bool.and_eq_true,decide_eq_true_eq]; exact ⟨⟨h,h2⟩,h3⟩
   rw [ok] at hT hF
   exact z5h b hb ts im hl hi K x3 x4 x5 x6 rs rg ov ou sg v ks t n hk x19 d (k+1) (by omega) (fun g=>hT (by rw [g]; rfl)) (fun g=>hF (by rw [g]; rfl))
theorem zer (b:List (List UInt8)) (hb:b.length≤140737488355328) (l:List Vm.Signed) (rs:List Vm.Root) (rg:List (List Int)) (ov ou:Int) (ts:List Vm.Target) (sg:List Int) (im:List (List Int)) (now units:Int) (hr:rs.length≤6) (hg:rg.length=rs.length) (K:KK) (x3 x7 x8 x9:Int) (x22:List Int):∀ (d k:Nat) (v:Int) (ks:List Int) (t n:Int),k+d=rs.length→ks.length≤6 →
  K (.tup [.agg [dI (takeEnd b l ⟨rs,rg,⟨ov,ou,ts⟩,sg,im⟩ now units (rootsT b l ⟨⟨v,ks,t⟩,n⟩ (rs.drop k) (rg.drop k))).1.r.version,dL (takeEnd b l ⟨rs,rg,⟨ov,ou,ts⟩,sg,im⟩ now units (rootsT b l ⟨⟨v,ks,t⟩,n⟩ (rs.drop k) (rg.drop k))).1.r.keys,dI (takeEnd b l ⟨rs,rg,⟨ov,ou,ts⟩,sg,im⟩ now units (rootsT b l ⟨⟨v,ks,t⟩,n⟩ (rs.drop k) (rg.drop k))).1.r.thr,dI (takeEnd b l ⟨rs,rg,⟨ov,ou,ts⟩,sg,im⟩ now units (rootsT b l ⟨⟨v,ks,t⟩,n⟩ (rs.drop k) (rg.drop k))).1.version],.one (dI (takeEnd b l ⟨rs,rg,⟨ov,ou,ts⟩,sg,im⟩ now units (rootsT b l ⟨⟨v,ks,t⟩,n⟩ (rs.drop k) (rg.drop k))).2)]) [] →
  goD Γ_q119 tab fn_q119 0 K ((ts.length+1)+d+1) q119_L0 (q119_S0 (k:Int) (((len rs):Nat):Int) rs x3 l now units x7 x8 x9 rs rg ov ou ts sg im v ks t n b x22)
 | 0,k,v,ks,t,n,hk,hks,hK=>by
  rw [z09 (L:=q119_L0),zij _ _ _ _ _ _ _ _ _ _ _ _ _ _ _ _ _ _ _ _ _ _ _ _ _ _ rfl _ rfl _ rfl _ rfl _ rfl]
  rw [List.drop_of_length_le (by omega)] at hK
  refine z22 (by simp only [len]; omega) ?_
  have e0:takeEnd b l ⟨rs,rg,⟨ov,ou,ts⟩,sg,im⟩ now units (rootsT b l ⟨⟨v,ks,t⟩,n⟩ [] (rg.drop k))=if relE b l ⟨⟨v,ks,t⟩,n⟩ ⟨rs,rg,⟨ov,ou,ts⟩,sg,im⟩ now units=0 then (⟨⟨v,ks,t⟩,ov⟩,0) else (noTrust,relE b l ⟨⟨v,ks,t⟩,n⟩ ⟨rs,rg,⟨ov,ou,ts⟩,sg,im⟩ now units):=rfl
  rw [e0] at hK
  have bad:∀ e:Int,e≠0→relE b l ⟨⟨v,ks,t⟩,n⟩ ⟨rs,rg,⟨ov,ou,ts⟩,sg,im⟩ now units=e→K (.tup [.agg [dI 0,dL [],dI 0,dI 0],.one (dI e)]) []:=fun e he h=>by
   rw [if_neg (by rw [h]; exact he),h] at hK; exact hK
  have good:relE b l ⟨⟨v,ks,t⟩,n⟩ ⟨rs,rg,⟨ov,ou,ts⟩,sg,im⟩ now units=0→K (.tup [.agg [dI v,dL ks,dI t,dI ov],.one (dI 0)]) []:=fun h=>by
   rw [if_pos h] at hK; exact hK
  clear hK e0
  refine z1c (fun h2=>?_) (fun h2=>⟨hb,?_⟩)
  ·unfold releaseTextE at h2 ⊢
   by_cases c:z0i ov ou ts=0
   ·rw [if_pos c] at h2; exact absurd rfl h2
   ·rw [if_neg c]
    exact bad _ c (if_neg c)
  have c2:z0i ov ou ts=0:=by
   by_cases c:z0i ov ou ts=0
   ·exact c
   ·unfold releaseTextE at h2; rw [if_neg c] at h2; exact h2
  rw [show releaseTextE ov ou ts=(z1h ov ou ts,0) from if_pos c2]
  have E2:relE b l ⟨⟨v,ks,t⟩,n⟩ ⟨rs,rg,⟨ov,ou,ts⟩,sg,im⟩ now units=_:=if_pos c2
  refine z1c (fun h3=>?_) (fun h3=>?_)
  ·unfold nameB at h3 ⊢
   by_cases c:z0r b=0
   ·rw [if_pos c] at h3; exact absurd rfl h3
   ·rw [if_neg c]
    exact bad _ c (E2.trans (if_neg c))
  have c3:z0r b=0:=by
   by_cases c:z0r b=0
   ·exact c
   ·unfold nameB at h3; rw [if_neg c] at h3; exact h3
  have E3:=E2.trans (if_pos c3)
  simp only [show nameB b (z1h ov ou ts)=(indexS (z1h ov ou ts) b+1,0) from if_pos c3]
  obtain ⟨q1,q2,q3,q4,q5,q6,_⟩:=z3z c2
  refine z1c (fun g=>?_) (fun g=>z1a (fun g2=>?_) (fun g2=>?_))
  ·have e:enough l ⟨v,ks,t⟩ sg (indexS (z1h ov ou ts) b+1)=(countT l ⟨v,ks,t⟩ sg (indexS (z1h ov ou ts) b+1)).2:=if_neg g
   exact bad _ g ((E3.trans (if_neg (by rw [e]; exact g))).trans e)
  ·have e:enough l ⟨v,ks,t⟩ sg (indexS (z1h ov ou ts) b+1)=9:=by unfold enough; rw [if_pos g,if_pos g2]
   exact bad _ (by decide) ((E3.trans (if_neg (by rw [e]; decide))).trans e)
  have e:enough l ⟨v,ks,t⟩ sg (indexS (z1h ov ou ts) b+1)=0:=by unfold enough; rw [if_pos g,if_neg (by simp only; omega)]
  have E4:=E3.trans (if_pos e)
  simp only at E4
  refine z0l (fun h5=>?_) (fun h5=>?_)
  ·rw [z1u] at h5
   exact bad _ (by decide) (E4.trans (if_pos h5))
  rw [z11] at h5
  have E5:=E4.trans (if_neg (by omega))
  refine z1a (fun h6=>bad _ (by decide) (E5.trans (if_pos h6))) (fun h6=>?_)
  have E6:=E5.trans (if_neg (by omega))
  refine z1c (fun h7=>bad _ (by decide) (E6.trans (if_pos (.inl h7)))) (fun h7=>z1c (fun h8=>bad _ (by decide) (E6.trans (if_pos (.inr h8)))) (fun h8=>?_))
  have E7:=E6.trans (if_neg (by simp only [len] at h7 h8; omega))
  exact z5h b hb ts im q6 (by simp only [len] at h7 h8; omega) K x3 x7 x8 x9 rs rg ov ou sg v ks t n hks x22 ts.length 0 (by omega) (fun g=>good (E7.trans (if_pos g))) (fun g=>bad 5 (by decide) (E7.trans (if_neg (by rw [show okImages b ts im=false from g]; simp))))
 | d+1,k,v,ks,t,n,hk,hks,hK=>by
  rw [show ts.length+1+(d+1)+1=(ts.length+1+d+1)+1 by omega,z09 (L:=q119_L0),zij _ _ _ _ _ _ _ _ _ _ _ _ _ _ _ _ _ _ _ _ _ _ _ _ _ _ rfl _ rfl _ rfl _ rfl _ rfl,z08]
  rw [z0q (l:=rs) (by omega) (Ty.dflt Ty.root),z0q (l:=rg) (by omega) (Ty.dflt (Ty.list Ty.int))] at hK
  obtain ⟨x,hx⟩:∃ x,nth rs k (Ty.dflt Ty.root)=x:=⟨_,rfl⟩
  obtain ⟨w,hw⟩:∃ w,nth rg k (Ty.dflt (Ty.list Ty.int))=w:=⟨_,rfl⟩
  rw [hx,hw] at hK ⊢
  have ek:w64 ((k:Int)+1)=((k+1:Nat):Int):=z0f (by omega)
  rw [ek]
  have ex:(⟨x.version,x.keys,x.thr⟩:Vm.Root)=x:=rfl
  rw [ex]
  refine z2o (by simp only [len]; omega) ⟨⟨by omega,by simp only [len]; omega⟩,⟨by omega,by simp only [len]; omega⟩,hb,z1c (fun h=>?_) (fun h=>?_)⟩
  ·rw [show rootsT b l ⟨⟨v,ks,t⟩,n⟩ (x::rs.drop (k+1)) (w::rg.drop (k+1))=(noTrust,(turnT b l ⟨⟨v,ks,t⟩,n⟩ x w).2) from if_neg h] at hK
   have e:takeEnd b l ⟨rs,rg,⟨ov,ou,ts⟩,sg,im⟩ now units (noTrust,(turnT b l ⟨⟨v,ks,t⟩,n⟩ x w).2)=(noTrust,(turnT b l ⟨⟨v,ks,t⟩,n⟩ x w).2):=if_neg h
   rw [e] at hK; exact hK
  ·rw [show rootsT b l ⟨⟨v,ks,t⟩,n⟩ (x::rs.drop (k+1)) (w::rg.drop (k+1))=rootsT b l (turnT b l ⟨⟨v,ks,t⟩,n⟩ x w).1 (rs.drop (k+1)) (rg.drop (k+1)) from if_pos h] at hK
   obtain ⟨h1,h2⟩:=zjm h
   obtain ⟨_,h3,_⟩:=zj7 h1
   rw [h2] at hK ⊢
   exact zer b hb l rs rg ov ou ts sg im now units hr hg K x3 x7 x8 x9 x22 d (k+1) x.version x.keys x.thr n (by omega) (z2e h3).2.2.2.2.1 hK
theorem run_q119 (hp:b.length≤140737488355328) (K:KK) (hK:K (.tup [.agg [dI (takeT b l ⟨⟨v,ks,t⟩,n⟩ ⟨rs,rg,⟨ov,ou,ts⟩,sg,im⟩ now units).1.r.version,dL (takeT b l ⟨⟨v,ks,t⟩,n⟩ ⟨rs,rg,⟨ov,ou,ts⟩,sg,im⟩ now units).1.r.keys,dI (takeT b l ⟨⟨v,ks,t⟩,n⟩ ⟨rs,rg,⟨ov,ou,ts⟩,sg,im⟩ now units).1.r.thr,dI (takeT b l ⟨⟨v,ks,t⟩,n⟩ ⟨rs,rg,⟨ov,ou,ts⟩,sg,im⟩ now units).1.version],.one (dI (takeT b l ⟨⟨v,ks,t⟩,n⟩ ⟨rs,rg,⟨ov,ou,ts⟩,sg,im⟩ now units).2)]) []):GD Γ_q119 fn_q119 0 K [.agg [.dat (Ty.list Ty.str) b],.one (.dat (Ty.list Ty.signed) l),.agg [dI v,dL ks,dI t,dI n],.agg [.dat (.list .root) rs,dR rg,dI ov,dI ou,.dat (.list .target) ts,dL sg,dR im],.one (dI now),.one (dI units)] []:=by
 refine ⟨ts.length+1+rs.length+1+1,?_⟩
 rw [z02,q119_vc _ _ _ _ _ _ _ _ _ _ _ _ _ _ _ _ _ _ rfl _ rfl]
 unfold takeT at hK
 simp only at hK
 refine z1c (fun h=>?_) (fun h=>z1a (fun h2=>?_) (fun h2=>z1c (fun h3=>?_) (fun h3=>?_)))
 ·rw [if_neg h] at hK; exact hK
 ·rw [if_pos h,if_pos (.inl (by simp only [len] at h2; omega))] at hK; exact hK
 ·rw [if_pos h,if_pos (.inr (by simp only [len] at h3; omega))] at hK; exact hK
 ·rw [if_pos h,if_neg (by simp only [len] at h2 h3; omega)] at hK
  exact zer b hp l rs rg ov ou ts sg im now units (by simp only [len] at h2; omega) (by simp only [len] at h3; omega) K 0 0 0 0 [] rs.length 0 v ks t n (by omega) (z2e (z2z h).2.2).2.2.2.2.1 hK
theorem sound_q119:z03 Tryz.prog tab n_q119 c_q119:=z01 ok_q119 hg_q119 (by
 intro vs bs p v bs' h hp
 unfold c_q119 at h
 split at h
 ·cases h
  exact ⟨by kernel_rfl,rfl,.inl (run_q119 _ _ _ _ _ _ _ _ _ _ _ _ _ _ _ hp.1 _ ⟨rfl,rfl⟩)⟩
 ·cases h)

def c_q171:z00:=fun vs bs=>match vs,bs with
 | [.agg [.dat (.list .int) ws,.dat .int fu,.dat .bool up,.dat .int tv,.dat (.list .int) tk,.dat .int tt,.dat .int tn,.dat (.list .bool) vo,.dat (.list .bool) di]],[]=>some (some (len ws*8≤140737488355328∧len tk*8≤140737488355328∧len vo≤1000∧len di≤1000),.agg [dL ws,dI fu,dB up,dI tv,dL tk,dI tt,dI tn,.own 0,.own 1],[.arr .bool vo,.arr .bool di])
 | _,_=>none
def Γ_q171:Ctx:=[(n_q159,c_q159),(n_q160,c_q160),(n_q161,c_q161)]
theorem ok_q171:Ok Tryz.prog tab Γ_q171:=(((ok_nil.c hg_q161 sound_q161).c hg_q160 sound_q160).c hg_q159 sound_q159)
theorem q171_vc (ws:List Int) (fu:Int) (up:Bool) (tv:Int) (tk:List Int) (tt tn:Int) (vo di:List Bool) (rec:RK) (K:KK):segO Γ_q171 tab fn_q171 0 K rec [.code (z05 fn_q171)] (z07 [.agg [dL ws,dI fu,dB up,dI tv,dL tk,dI tt,dI tn,dLb vo,dLb di]] [])=(
 len ws*8≤140737488355328 ∧
 len tk*8≤140737488355328 ∧
 len vo≤1000 ∧
 len di≤1000 ∧
 K (.agg [dL ws,dI fu,dB up,dI tv,dL tk,dI tt,dI tn,.own 0,.own 1]) [.arr Ty.bool vo,.arr Ty.bool di]):=by kernel_rfl

theorem run_q171 (hp:len ws*8≤140737488355328∧len tk*8≤140737488355328∧len vo≤1000∧len di≤1000) (K:KK) (hK:K (.agg [dL ws,dI fu,dB up,dI tv,dL tk,dI tt,dI tn,.own 0,.own 1]) [.arr .bool vo,.arr .bool di]):GO Γ_q171 fn_q171 0 K [.agg [dL ws,dI fu,dB up,dI tv,dL tk,dI tt,dI tn,dLb vo,dLb di]] []:=by
 refine ⟨1,?_⟩
 rw [z1i,q171_vc _ _ _ _ _ _ _ _ _ _ _]
 exact ⟨hp.1,hp.2.1,hp.2.2.1,hp.2.2.2,hK⟩
theorem sound_q171:z03 Tryz.prog tab n_q171 c_q171:=z01 ok_q171 hg_q171 (by
 intro vs bs p v bs' h hp
 unfold c_q171 at h
 split at h
 ·cases h
  exact ⟨by kernel_rfl,rfl,.inr (.inl (run_q171 _ _ _ _ _ _ _ _ _ hp.1 _ ⟨rfl,rfl⟩))⟩
 ·cases h)

abbrev n_q167:Nat:=n_q166
noncomputable abbrev fn_q167:Func:=fn_q166
theorem hg_q167:FnOk Tryz.prog n_q167 fn_q167:=hg_q166
def c_q167:z00:=fun vs bs=>match vs,bs with
 | [.agg [.dat (.list .int) ws,.dat .int fu,.dat .bool _,.dat .int _,.dat (.list .int) _,.dat .int _,.dat .int _,.own 0,.own 1]],[.arr .bool vo,.arr .bool di]=>some (none,.agg [dI (ofG ⟨ws,fu⟩).n,dI (ofG ⟨ws,fu⟩).version,dB (ofG ⟨ws,fu⟩).commit,dB (ofG ⟨ws,fu⟩).abort,dB (ofG ⟨ws,fu⟩).ended],[.arr .bool vo,.arr .bool di])
 | _,_=>none
def Γ_q167:Ctx:=[(n_q64,c_q64),(n_q165,c_q165)]
theorem ok_q167:Ok Tryz.prog tab Γ_q167:=((ok_nil.c hg_q165 sound_q165).c hg_q64 sound_q64)
theorem q167_vc (ws:List Int) (fu:Int) (up:Bool) (tv:Int) (tk:List Int) (tt tn:Int) (vo di:List Bool) (rec:RK) (K:KK) v0 (hv0:v0=recordsF ⟨ws,fu⟩) v1 (hv1:v1=nonE v0.fst) v2 (hv2:v2=stateG v0.fst):segD Γ_q167 tab fn_q167 2 K rec [.code (z05 fn_q167)] (z07 [.agg [dL ws,dI fu,dB up,dI tv,dL tk,dI tt,dI tn,.own 0,.own 1]] [.arr Ty.bool vo,.arr Ty.bool di])=(
 (len v0.fst≤1000∧v1=true) ∧
 K (.agg [dI v2.n,dI v2.version,dB v2.commit,dB v2.abort,dB v2.ended]) [.arr Ty.bool vo,.arr Ty.bool di]):=by subst_vars; kernel_rfl

theorem run_q167 (K:KK) (hK:K (.agg [dI (ofG ⟨ws,fu⟩).n,dI (ofG ⟨ws,fu⟩).version,dB (ofG ⟨ws,fu⟩).commit,dB (ofG ⟨ws,fu⟩).abort,dB (ofG ⟨ws,fu⟩).ended]) [.arr .bool vo,.arr .bool di]):GD Γ_q167 fn_q167 2 K [.agg [dL ws,dI fu,dB up,dI tv,dL tk,dI tt,dI tn,.own 0,.own 1]] [.arr .bool vo,.arr .bool di]:=by
 refine ⟨1,?_⟩
 rw [z02,q167_vc _ _ _ _ _ _ _ _ _ _ _ _ rfl _ rfl _ rfl]
 have h:=z3j ⟨ws,fu⟩
 exact ⟨⟨by simp only [len]; omega,zhc h.2⟩,hK⟩
theorem sound_q167:z03 Tryz.prog tab n_q167 c_q167:=z01 ok_q167 hg_q167 (by
 intro vs bs p v bs' h hp
 unfold c_q167 at h
 split at h
 ·cases h
  exact ⟨by kernel_rfl,rfl,.inl (run_q167 _ _ _ _ _ _ _ _ _ _ ⟨rfl,rfl⟩)⟩
 ·cases h)

def c_q173:z00:=fun vs bs=>match vs,bs with
 | [.agg [.dat .int gn,.dat .int gv,.dat .bool gc,.dat .bool ga,.dat .bool ge]],[]=>some (none,.one (dR (keepG ⟨gn,gv,gc,ga,ge⟩)),[])
 | _,_=>none
def Γ_q173:Ctx:=[]
theorem ok_q173:Ok Tryz.prog tab Γ_q173:=ok_nil
theorem q173_vc (gn gv:Int) (gc ga ge:Bool) (rec:RK) (K:KK):segD Γ_q173 tab fn_q173 0 K rec [.code (z05 fn_q173)] (z07 [.agg [dI gn,dI gv,dB gc,dB ga,dB ge]] [])=(
 br (eqi gn 0)
 (K (.one (dR [])) [])
 (br gc
 ((len (((1:Int)::gn::gv::[])::[])+len (((2:Int)::gn::[])::[]))*24≤140737488355328 ∧
 br ga
 ((len (cat (((1:Int)::gn::gv::[])::[]) (((2:Int)::gn::[])::[]))+len (((3:Int)::gn::[])::[]))*24≤140737488355328 ∧
 br ge
 ((len (cat (cat (((1:Int)::gn::gv::[])::[]) (((2:Int)::gn::[])::[])) (((3:Int)::gn::[])::[]))+len (((4:Int)::gn::[])::[]))*24≤140737488355328 ∧
 K (.one (dR (cat (cat (cat (((1:Int)::gn::gv::[])::[]) (((2:Int)::gn::[])::[])) (((3:Int)::gn::[])::[])) (((4:Int)::gn::[])::[])))) [])
 (K (.one (dR (cat (cat (((1:Int)::gn::gv::[])::[]) (((2:Int)::gn::[])::[])) (((3:Int)::gn::[])::[])))) []))
 (br ge
 ((len (cat (((1:Int)::gn::gv::[])::[]) (((2:Int)::gn::[])::[]))+len (((4:Int)::gn::[])::[]))*24≤140737488355328 ∧
 K (.one (dR (cat (cat (((1:Int)::gn::gv::[])::[]) (((2:Int)::gn::[])::[])) (((4:Int)::gn::[])::[])))) [])
 (K (.one (dR (cat (((1:Int)::gn::gv::[])::[]) (((2:Int)::gn::[])::[])))) [])))
 (br ga
 ((len (((1:Int)::gn::gv::[])::[])+len (((3:Int)::gn::[])::[]))*24≤140737488355328 ∧
 br ge
 ((len (cat (((1:Int)::gn::gv::[])::[]) (((3:Int)::gn::[])::[]))+len (((4:Int)::gn::[])::[]))*24≤140737488355328 ∧
 K (.one (dR (cat (cat (((1:Int)::gn::gv::[])::[]) (((3:Int)::gn::[])::[])) (((4:Int)::gn::[])::[])))) [])
 (K (.one (dR (cat (((1:Int)::gn::gv::[])::[]) (((3:Int)::gn::[])::[])))) []))
 (br ge
 ((len (((1:Int)::gn::gv::[])::[])+len (((4:Int)::gn::[])::[]))*24≤140737488355328 ∧
 K (.one (dR (cat (((1:Int)::gn::gv::[])::[]) (((4:Int)::gn::[])::[])))) [])
 (K (.one (dR (((1:Int)::gn::gv::[])::[]))) []))))):=by kernel_rfl

theorem run_q173 (K:KK) (hK:K (.one (dR (keepG ⟨gn,gv,gc,ga,ge⟩))) []):GD Γ_q173 fn_q173 0 K [.agg [dI gn,dI gv,dB gc,dB ga,dB ge]] []:=by
 refine ⟨1,?_⟩
 rw [z02,q173_vc _ _ _ _ _ _ _]
 unfold keepG at hK
 refine z27 (fun h=>?_) (fun h=>?_)
 ·rw [if_pos (by exact h)] at hK; exact hK
 ·rw [if_neg (by exact h)] at hK
  cases gc<;>cases ga<;>cases ge
  ·exact z6r rfl (z6r rfl (z6r rfl hK))
  ·exact z6r rfl (z6r rfl (z97 rfl ⟨by simp [len],hK⟩))
  ·exact z6r rfl (z97 rfl ⟨by simp [len],z6r rfl hK⟩)
  ·exact z6r rfl (z97 rfl ⟨by simp [len],z97 rfl ⟨by simp [len,cat],hK⟩⟩)
  ·exact z97 rfl ⟨by simp [len],z6r rfl (z6r rfl hK)⟩
  ·exact z97 rfl ⟨by simp [len],z6r rfl (z97 rfl ⟨by simp [len,cat],hK⟩)⟩
  ·exact z97 rfl ⟨by simp [len],z97 rfl ⟨by simp [len,cat],z6r rfl hK⟩⟩
  ·exact z97 rfl ⟨by simp [len],z97 rfl ⟨by simp [len,cat],z97 rfl ⟨by simp [len,cat],hK⟩⟩⟩
theorem sound_q173:z03 Tryz.prog tab n_q173 c_q173:=z01 ok_q173 hg_q173 (by
 intro vs bs p v bs' h hp
 unfold c_q173 at h
 split at h
 ·cases h
  exact ⟨by kernel_rfl,rfl,.inl (run_q173 _ _ _ _ _ _ ⟨rfl,rfl⟩)⟩
 ·cases h)

def c_q172:z00:=fun vs bs=>match vs,bs with
 | [.one (.ptr 0 0)],[.box [.dat (.list .int) ws,.dat .int fu,.dat .bool up,.dat .int tv,.dat (.list .int) tk,.dat .int tt,.dat .int tn,.own 1,.own 2],.arr .bool vo,.arr .bool di]=>some (none,.tup [],[.box [dL (forgetG ⟨⟨ws,fu⟩,up,⟨⟨tv,tk,tt⟩,tn⟩,vo,di⟩).f.words,dI (forgetG ⟨⟨ws,fu⟩,up,⟨⟨tv,tk,tt⟩,tn⟩,vo,di⟩).f.fuel,dB (forgetG ⟨⟨ws,fu⟩,up,⟨⟨tv,tk,tt⟩,tn⟩,vo,di⟩).up,dI (forgetG ⟨⟨ws,fu⟩,up,⟨⟨tv,tk,tt⟩,tn⟩,vo,di⟩).t.r.version,dL (forgetG ⟨⟨ws,fu⟩,up,⟨⟨tv,tk,tt⟩,tn⟩,vo,di⟩).t.r.keys,dI (forgetG ⟨⟨ws,fu⟩,up,⟨⟨tv,tk,tt⟩,tn⟩,vo,di⟩).t.r.thr,dI (forgetG ⟨⟨ws,fu⟩,up,⟨⟨tv,tk,tt⟩,tn⟩,vo,di⟩).t.version,.own 1,.own 2],.arr .bool (forgetG ⟨⟨ws,fu⟩,up,⟨⟨tv,tk,tt⟩,tn⟩,vo,di⟩).voted,.arr .bool (forgetG ⟨⟨ws,fu⟩,up,⟨⟨tv,tk,tt⟩,tn⟩,vo,di⟩).did])
 | _,_=>none
def Γ_q172:Ctx:=[]
theorem ok_q172:Ok Tryz.prog tab Γ_q172:=ok_nil
theorem q172_vc (ws:List Int) (fu:Int) (up:Bool) (tv:Int) (tk:List Int) (tt tn:Int) (vo di:List Bool) (rec:RK) (K:KK):segD Γ_q172 tab fn_q172 3 K rec [.code (z05 fn_q172)] (z07 [.one (.ptr 0 0)] [.box [dL ws,dI fu,dB up,dI tv,dL tk,dI tt,dI tn,.own 1,.own 2],.arr Ty.bool vo,.arr Ty.bool di])=(
 K (.tup []) [.box [dL ws,dI fu,dB up,dI tv,dL tk,dI tt,dI tn,.own 1,.own 2],.arr Ty.bool (zeros (len vo) (Ty.dflt Ty.bool)),.arr Ty.bool (zeros (len di) (Ty.dflt Ty.bool))]):=by kernel_rfl

theorem run_q172 (K:KK) (hK:K (.tup []) [.box [dL (forgetG ⟨⟨ws,fu⟩,up,⟨⟨tv,tk,tt⟩,tn⟩,vo,di⟩).f.words,dI (forgetG ⟨⟨ws,fu⟩,up,⟨⟨tv,tk,tt⟩,tn⟩,vo,di⟩).f.fuel,dB (forgetG ⟨⟨ws,fu⟩,up,⟨⟨tv,tk,tt⟩,tn⟩,vo,di⟩).up,dI (forgetG ⟨⟨ws,fu⟩,up,⟨⟨tv,tk,tt⟩,tn⟩,vo,di⟩).t.r.version,dL (forgetG ⟨⟨ws,fu⟩,up,⟨⟨tv,tk,tt⟩,tn⟩,vo,di⟩).t.r.keys,dI (forgetG ⟨⟨ws,fu⟩,up,⟨⟨tv,tk,tt⟩,tn⟩,vo,di⟩).t.r.thr,dI (forgetG ⟨⟨ws,fu⟩,up,⟨⟨tv,tk,tt⟩,tn⟩,vo,di⟩).t.version,.own 1,.own 2],.arr .bool (forgetG ⟨⟨ws,fu⟩,up,⟨⟨tv,tk,tt⟩,tn⟩,vo,di⟩).voted,.arr .bool (forgetG ⟨⟨ws,fu⟩,up,⟨⟨tv,tk,tt⟩,tn⟩,vo,di⟩).did]):GD Γ_q172 fn_q172 3 K [.one (.ptr 0 0)] [.box [dL ws,dI fu,dB up,dI tv,dL tk,dI tt,dI tn,.own 1,.own 2],.arr .bool vo,.arr .bool di]:=by
 refine ⟨1,?_⟩
 rw [z02,q172_vc _ _ _ _ _ _ _ _ _ _ _]
 exact hK
theorem sound_q172:z03 Tryz.prog tab n_q172 c_q172:=z01 ok_q172 hg_q172 (by
 intro vs bs p v bs' h hp
 unfold c_q172 at h
 split at h
 ·cases h
  exact ⟨by kernel_rfl,rfl,.inl (run_q172 _ _ _ _ _ _ _ _ _ _ ⟨rfl,rfl⟩)⟩
 ·cases h)

def c_q174:z00:=fun vs bs=>match vs,bs with
 | [.one (.ptr 0 0),.one (.dat (.list .int) r)],[.box [.dat (.list .int) ws,.dat .int fu,.dat .bool up,.dat .int tv,.dat (.list .int) tk,.dat .int tt,.dat .int tn,.own 1,.own 2],.arr .bool vo,.arr .bool di]=>some (some (Sm r),.one (dB (z0o ⟨⟨ws,fu⟩,up,⟨⟨tv,tk,tt⟩,tn⟩,vo,di⟩ r).2),[.box [dL (z0o ⟨⟨ws,fu⟩,up,⟨⟨tv,tk,tt⟩,tn⟩,vo,di⟩ r).1.f.words,dI (z0o ⟨⟨ws,fu⟩,up,⟨⟨tv,tk,tt⟩,tn⟩,vo,di⟩ r).1.f.fuel,dB (z0o ⟨⟨ws,fu⟩,up,⟨⟨tv,tk,tt⟩,tn⟩,vo,di⟩ r).1.up,dI (z0o ⟨⟨ws,fu⟩,up,⟨⟨tv,tk,tt⟩,tn⟩,vo,di⟩ r).1.t.r.version,dL (z0o ⟨⟨ws,fu⟩,up,⟨⟨tv,tk,tt⟩,tn⟩,vo,di⟩ r).1.t.r.keys,dI (z0o ⟨⟨ws,fu⟩,up,⟨⟨tv,tk,tt⟩,tn⟩,vo,di⟩ r).1.t.r.thr,dI (z0o ⟨⟨ws,fu⟩,up,⟨⟨tv,tk,tt⟩,tn⟩,vo,di⟩ r).1.t.version,.own 1,.own 2],.arr .bool (z0o ⟨⟨ws,fu⟩,up,⟨⟨tv,tk,tt⟩,tn⟩,vo,di⟩ r).1.voted,.arr .bool (z0o ⟨⟨ws,fu⟩,up,⟨⟨tv,tk,tt⟩,tn⟩,vo,di⟩ r).1.did])
 | _,_=>none
def Γ_q174:Ctx:=[(n_q167,c_q167),(n_q173,c_q173),(n_q65,c_q65),(n_q172,c_q172)]
theorem ok_q174:Ok Tryz.prog tab Γ_q174:=((((ok_nil.c hg_q172 sound_q172).c hg_q65 sound_q65).c hg_q173 sound_q173).c hg_q167 sound_q167)
theorem q174_vc (ws:List Int) (fu:Int) (up:Bool) (tv:Int) (tk:List Int) (tt tn:Int) (vo di:List Bool) (r:List Int) (rec:RK) (K:KK) v0 (hv0:v0=ofG ⟨ws,fu⟩) v1 (hv1:v1=keepG ⟨v0.n,v0.version,v0.commit,v0.abort,v0.ended⟩) v2 (hv2:v2=smR v1) v3 (hv3:v3=z0u ⟨ws,fu⟩ r v1) v4 (hv4:v4=br (eqi v3.snd 7)
 (K (.one (dB (eqi v3.snd 0))) [.box [dL v3.fst.words,dI v3.fst.fuel,dB false,dI tv,dL tk,dI tt,dI tn,.own 1,.own 2],.arr Ty.bool (zeros (List.length vo) false),.arr Ty.bool (zeros (List.length di) false)])
 (K (.one (dB (eqi v3.snd 0))) [.box [dL v3.fst.words,dI v3.fst.fuel,dB up,dI tv,dL tk,dI tt,dI tn,.own 1,.own 2],.arr Ty.bool vo,.arr Ty.bool di])):segD Γ_q174 tab fn_q174 3 K rec [.code (z05 fn_q174)] (z07 [.one (.ptr 0 0),.one (dL r)] [.box [dL ws,dI fu,dB up,dI tv,dL tk,dI tt,dI tn,.own 1,.own 2],.arr Ty.bool vo,.arr Ty.bool di])=(
 (List.length r≤140737488355328∧len v1*24≤140737488351232∧v2=true) ∧
 br (!(eqi v3.snd 0))
 (br (!(eqi v3.snd 7))
 (K (.one (dB false)) [.box [dL ws,dI fu,dB up,dI tv,dL tk,dI tt,dI tn,.own 1,.own 2],.arr Ty.bool vo,.arr Ty.bool di])
 v4)
 v4):=by subst_vars; kernel_rfl

theorem run_q174 (hp:Sm r) (K:KK) (hK:K (.one (dB (z0o ⟨⟨ws,fu⟩,up,⟨⟨tv,tk,tt⟩,tn⟩,vo,di⟩ r).2)) [.box [dL (z0o ⟨⟨ws,fu⟩,up,⟨⟨tv,tk,tt⟩,tn⟩,vo,di⟩ r).1.f.words,dI (z0o ⟨⟨ws,fu⟩,up,⟨⟨tv,tk,tt⟩,tn⟩,vo,di⟩ r).1.f.fuel,dB (z0o ⟨⟨ws,fu⟩,up,⟨⟨tv,tk,tt⟩,tn⟩,vo,di⟩ r).1.up,dI (z0o ⟨⟨ws,fu⟩,up,⟨⟨tv,tk,tt⟩,tn⟩,vo,di⟩ r).1.t.r.version,dL (z0o ⟨⟨ws,fu⟩,up,⟨⟨tv,tk,tt⟩,tn⟩,vo,di⟩ r).1.t.r.keys,dI (z0o ⟨⟨ws,fu⟩,up,⟨⟨tv,tk,tt⟩,tn⟩,vo,di⟩ r).1.t.r.thr,dI (z0o ⟨⟨ws,fu⟩,up,⟨⟨tv,tk,tt⟩,tn⟩,vo,di⟩ r).1.t.version,.own 1,.own 2],.arr .bool (z0o ⟨⟨ws,fu⟩,up,⟨⟨tv,tk,tt⟩,tn⟩,vo,di⟩ r).1.voted,.arr .bool (z0o ⟨⟨ws,fu⟩,up,⟨⟨tv,tk,tt⟩,tn⟩,vo,di⟩ r).1.did]):GD Γ_q174 fn_q174 3 K [.one (.ptr 0 0),.one (dL r)] [.box [dL ws,dI fu,dB up,dI tv,dL tk,dI tt,dI tn,.own 1,.own 2],.arr .bool vo,.arr .bool di]:=by
 refine ⟨1,?_⟩
 rw [z02,q174_vc _ _ _ _ _ _ _ _ _ _ _ _ _ rfl _ rfl _ rfl _ rfl _ rfl]
 unfold z0o changeG at hK
 simp only at hK
 have e0:(⟨(ofG ⟨ws,fu⟩).n,(ofG ⟨ws,fu⟩).version,(ofG ⟨ws,fu⟩).commit,(ofG ⟨ws,fu⟩).abort,(ofG ⟨ws,fu⟩).ended⟩:Vm.GState)=ofG ⟨ws,fu⟩:=rfl
 rw [e0]
 obtain ⟨k1,k2⟩:=keepG_sm (ofG ⟨ws,fu⟩)
 refine ⟨⟨hp,by simp only [len]; omega,k1⟩,?_⟩
 obtain ⟨r',hr⟩:∃ r',z0u ⟨ws,fu⟩ r (keepG (ofG ⟨ws,fu⟩))=r':=⟨_,rfl⟩
 rw [hr] at hK ⊢
 refine z1c (fun h=>?_) (fun h=>?_)
 ·rw [if_neg h] at hK
  refine z1c (fun h2=>?_) (fun h2=>?_)
  ·rw [if_neg h2] at hK; exact hK
  ·rw [if_pos h2] at hK
   refine zgj h2 ?_
   rw [show eqi r'.2 0=false from z60.2 h]
   exact hK
 ·rw [if_pos h] at hK
  refine zfd (by omega) ?_
  rw [show eqi r'.2 0=true from z82.2 h]
  exact hK
theorem sound_q174:z03 Tryz.prog tab n_q174 c_q174:=z01 ok_q174 hg_q174 (by
 intro vs bs p v bs' h hp
 unfold c_q174 at h
 split at h
 ·cases h
  exact ⟨by kernel_rfl,rfl,.inl (run_q174 _ _ _ _ _ _ _ _ _ _ hp.1 _ ⟨rfl,rfl⟩)⟩
 ·cases h)

def c_q180:z00:=fun vs bs=>match vs,bs with
 | [.agg [.dat (.list .str) b],.one (.dat (.list .signed) l),.agg [.dat (.list .int) ws,.dat .int fu,.dat .bool up,.dat .int tv,.dat (.list .int) tk,.dat .int tt,.dat .int tn,.dat (.list .bool) vo,.dat (.list .bool) di],.agg [.dat (.list .root) rs,.dat (.list (.list .int)) rg,.dat .int ov,.dat .int ou,.dat (.list .target) ts,.dat (.list .int) sg,.dat (.list (.list .int)) im],.one (.dat .int now)],[]=>some (some (b.length≤140737488355328),.tup [.agg (cG (beginG b l ⟨⟨ws,fu⟩,up,⟨⟨tv,tk,tt⟩,tn⟩,vo,di⟩ ⟨rs,rg,⟨ov,ou,ts⟩,sg,im⟩ now).1),.one (dI (beginG b l ⟨⟨ws,fu⟩,up,⟨⟨tv,tk,tt⟩,tn⟩,vo,di⟩ ⟨rs,rg,⟨ov,ou,ts⟩,sg,im⟩ now).2.1),.one (dI (beginG b l ⟨⟨ws,fu⟩,up,⟨⟨tv,tk,tt⟩,tn⟩,vo,di⟩ ⟨rs,rg,⟨ov,ou,ts⟩,sg,im⟩ now).2.2)],[])
 | _,_=>none
def Γ_q180:Ctx:=[(n_q175,c_q175),(n_q166,c_q166),(n_q119,c_q119),(n_q171,c_q171),(n_q174,c_q174),(n_q172,c_q172)]
theorem ok_q180:Ok Tryz.prog tab Γ_q180:=((((((ok_nil.c hg_q172 sound_q172).c hg_q174 sound_q174).c hg_q171 sound_q171).c hg_q119 sound_q119).c hg_q166 sound_q166).c hg_q175 sound_q175)
theorem q180_vc (b:List (List UInt8)) (l:List Signed) (ws:List Int) (fu:Int) (up:Bool) (tv:Int) (tk:List Int) (tt tn:Int) (vo di:List Bool) (rs:List Root) (rg:List (List Int)) (ov ou:Int) (ts:List Vm.Target) (sg:List Int) (im:List (List Int)) (now:Int) (rec:RK) (K:KK) v0 (hv0:v0=upG ⟨⟨ws,fu⟩,up,⟨⟨tv,tk,tt⟩,tn⟩,vo,di⟩) v1 (hv1:v1=ofG ⟨ws,fu⟩) v2 (hv2:v2=takeT b l ⟨⟨tv,tk,tt⟩,tn⟩ ⟨rs,rg,⟨ov,ou,ts⟩,sg,im⟩ now (len vo:Int)) v3 (hv3:v3=z0o ⟨⟨ws,fu⟩,up,⟨⟨tv,tk,tt⟩,tn⟩,vo,di⟩ ((1:Int)::w64 (v1.n+1)::ov::[])) v4 (hv4:v4=br (eqi v1.n 8)
 (K (.tup [.agg [dL [],dI (0:Int),dB false,dI (0:Int),dL [],dI (0:Int),dI (0:Int),dLb [],dLb []],.one (dI 0),.one (dI 8)]) [])
 (List.length b≤140737488355328 ∧
 br (!(eqi v2.snd 0))
 (K (.tup [.agg [dL [],dI (0:Int),dB false,dI (0:Int),dL [],dI (0:Int),dI (0:Int),dLb [],dLb []],.one (dI 0),.one (dI v2.snd)]) [])
 ((len ws*8≤140737488355328∧len tk*8≤140737488355328∧len vo≤1000∧len di≤1000) ∧
 List.length ((1:Int)::w64 (v1.n+1)::ov::[])≤140737488355328 ∧
 br (!v3.snd)
 (K (.tup [.agg (cG v3.fst),.one (dI 0),.one (dI 0)]) [])
 (K (.tup [.agg [dL v3.fst.f.words,dI v3.fst.f.fuel,dB v3.fst.up,dI v2.fst.r.version,dL v2.fst.r.keys,dI v2.fst.r.thr,dI v2.fst.version,dLb (zeros (List.length v3.fst.voted) false),dLb (zeros (List.length v3.fst.did) false)],.one (dI (w64 (v1.n+1))),.one (dI 0)]) [])))):segD Γ_q180 tab fn_q180 0 K rec [.code (z05 fn_q180)] (z07 [.agg [.dat (Ty.list Ty.str) b],.one (.dat (Ty.list Ty.signed) l),.agg [dL ws,dI fu,dB up,dI tv,dL tk,dI tt,dI tn,dLb vo,dLb di],.agg [.dat (Ty.list Ty.root) rs,dR rg,dI ov,dI ou,.dat (Ty.list Ty.target) ts,dL sg,dR im],.one (dI now)] [])=(
 br (!(eqi v0 0))
 (K (.tup [.agg [dL [],dI (0:Int),dB false,dI (0:Int),dL [],dI (0:Int),dI (0:Int),dLb [],dLb []],.one (dI 0),.one (dI v0)]) [])
 (br (lti 0 v1.n)
 (br (!v1.ended)
 (K (.tup [.agg [dL [],dI (0:Int),dB false,dI (0:Int),dL [],dI (0:Int),dI (0:Int),dLb [],dLb []],.one (dI 0),.one (dI 12)]) [])
 v4)
 v4)):=by subst_vars; kernel_rfl

theorem run_q180 (hp:b.length≤140737488355328) (K:KK) (hK:K (.tup [.agg (cG (beginG b l ⟨⟨ws,fu⟩,up,⟨⟨tv,tk,tt⟩,tn⟩,vo,di⟩ ⟨rs,rg,⟨ov,ou,ts⟩,sg,im⟩ now).1),.one (dI (beginG b l ⟨⟨ws,fu⟩,up,⟨⟨tv,tk,tt⟩,tn⟩,vo,di⟩ ⟨rs,rg,⟨ov,ou,ts⟩,sg,im⟩ now).2.1),.one (dI (beginG b l ⟨⟨ws,fu⟩,up,⟨⟨tv,tk,tt⟩,tn⟩,vo,di⟩ ⟨rs,rg,⟨ov,ou,ts⟩,sg,im⟩ now).2.2)]) []):GD Γ_q180 fn_q180 0 K [.agg [.dat (Ty.list Ty.str) b],.one (.dat (Ty.list Ty.signed) l),.agg [dL ws,dI fu,dB up,dI tv,dL tk,dI tt,dI tn,dLb vo,dLb di],.agg [.dat (.list .root) rs,dR rg,dI ov,dI ou,.dat (.list .target) ts,dL sg,dR im],.one (dI now)] []:=by
 refine ⟨1,?_⟩
 rw [z02,q180_vc _ _ _ _ _ _ _ _ _ _ _ _ _ _ _ _ _ _ _ _ _ _ rfl _ rfl _ rfl _ rfl _ rfl]
 unfold beginG beginE begunG at hK
 simp only at hK
 have hv0:=z24 ⟨ws,fu⟩
 obtain ⟨s,hs⟩:∃ s,ofG ⟨ws,fu⟩=s:=⟨_,rfl⟩
 rw [hs] at hK hv0 ⊢
 obtain ⟨t,ht⟩:∃ t,takeT b l ⟨⟨tv,tk,tt⟩,tn⟩ ⟨rs,rg,⟨ov,ou,ts⟩,sg,im⟩ now (vo.length:Int)=t:=⟨_,rfl⟩
 rw [show ((len vo:Nat):Int)=(vo.length:Int) from rfl]
 rw [ht] at hK ⊢
 have n0:=hv0.n0
 have n8:=hv0.n8
 have ew:w64 (s.n+1)=s.n+1:=z0e (by omega) (by omega)
 rw [ew]
 refine z1c (fun h=>?_) (fun h=>?_)
 ·rw [if_neg h,if_neg h] at hK; exact hK
 have hc:z0t ⟨⟨ws,fu⟩,up,⟨⟨tv,tk,tt⟩,tn⟩,vo,di⟩=0:=z47 h
 obtain ⟨s1,s2,s3,s4⟩:=z5j hc
 obtain ⟨_,_,l1,l2,_⟩:=z1f (r:=[1,s.n+1,ov]) (z0n hc).1
 rw [if_pos h] at hK
 by_cases c:0<s.n∧s.ended=false
 ·rw [if_pos c,if_neg (by omega)] at hK
  exact z2o c.1 (nt_t c.2 hK)
 rw [if_neg c] at hK
 have key:br (eqi s.n 8) (K (.tup [.agg [dL [],dI (0:Int),dB false,dI (0:Int),dL [],dI (0:Int),dI (0:Int),dLb [],dLb []],.one (dI (0:Int)),.one (dI (8:Int))]) []) (((List.length b)≤140737488355328) ∧
   (br (!(eqi t.2 (0:Int)))
    (K (.tup [.agg [dL [],dI (0:Int),dB false,dI (0:Int),dL [],dI (0:Int),dI (0:Int),dLb [],dLb []],.one (dI (0:Int)),.one (dI t.2)]) [])
    (((((len ws)*8)≤140737488355328)∧((((len tk)*8)≤140737488355328)∧(((len vo)≤1000)∧((len di)≤1000)))) ∧
     (((List.length ((1:Int)::(s.n+1)::(ov::[])))≤140737488355328) ∧
     (br (!(z0o ⟨⟨ws,fu⟩,up,⟨⟨tv,tk,tt⟩,tn⟩,vo,di⟩ [1,s.n+1,ov]).2)
      (K (.tup [.agg [dL (((z0o ⟨⟨ws,fu⟩,up,⟨⟨tv,tk,tt⟩,tn⟩,vo,di⟩ [1,s.n+1,ov]).1).f).words,dI (((z0o ⟨⟨ws,fu⟩,up,⟨⟨tv,tk,tt⟩,tn⟩,vo,di⟩ [1,s.n+1,ov]).1).f).fuel,dB ((z0o ⟨⟨ws,fu⟩,up,⟨⟨tv,tk,tt⟩,tn⟩,vo,di⟩ [1,s.n+1,ov]).1).up,dI ((((z0o ⟨⟨ws,fu⟩,up,⟨⟨tv,tk,tt⟩,tn⟩,vo,di⟩ [1,s.n+1,ov]).1).t).r).version,dL ((((z0o ⟨⟨ws,fu⟩,up,⟨⟨tv,tk,tt⟩,tn⟩,vo,di⟩ [1,s.n+1,ov]).1).t).r).keys,dI ((((z0o ⟨⟨ws,fu⟩,up,⟨⟨tv,tk,tt⟩,tn⟩,vo,di⟩ [1,s.n+1,ov]).1).t).r).thr,dI (((z0o ⟨⟨ws,fu⟩,up,⟨⟨tv,tk,tt⟩,tn⟩,vo,di⟩ [1,s.n+1,ov]).1).t).version,dLb ((z0o ⟨⟨ws,fu⟩,up,⟨⟨tv,tk,tt⟩,tn⟩,vo,di⟩ [1,s.n+1,ov]).1).voted,dLb ((z0o ⟨⟨ws,fu⟩,up,⟨⟨tv,tk,tt⟩,tn⟩,vo,di⟩ [1,s.n+1,ov]).1).did],.one (dI (0:Int)),.one (dI (0:Int))]) [])
      (K (.tup [.agg [dL (((z0o ⟨⟨ws,fu⟩,up,⟨⟨tv,tk,tt⟩,tn⟩,vo,di⟩ [1,s.n+1,ov]).1).f).words,dI (((z0o ⟨⟨ws,fu⟩,up,⟨⟨tv,tk,tt⟩,tn⟩,vo,di⟩ [1,s.n+1,ov]).1).f).fuel,dB ((z0o ⟨⟨ws,fu⟩,up,⟨⟨tv,tk,tt⟩,tn⟩,vo,di⟩ [1,s.n+1,ov]).1).up,dI ((t.fst).r).version,dL ((t.fst).r).keys,dI ((t.fst).r).thr,dI (t.fst).version,dLb (zeros (List.length ((z0o ⟨⟨ws,fu⟩,up,⟨⟨tv,tk,tt⟩,tn⟩,vo,di⟩ [1,s.n+1,ov]).1).voted) false),dLb (zeros (List.length ((z0o ⟨⟨ws,fu⟩,up,⟨⟨tv,tk,tt⟩,tn⟩,vo,di⟩ [1,s.n+1,ov]).1).did) false)],.one (dI (s.n+1)),.one (dI (0:Int))]) [])))))):=by
  refine z27 (fun c2=>?_) (fun c2=>?_)
  ·rw [if_pos c2,if_neg (by omega)] at hK; exact hK
  rw [if_neg c2] at hK
  refine ⟨hp,z1c (fun c3=>?_) (fun c3=>⟨⟨s1,s2,s3,s4⟩,by simp,?_⟩)⟩
  ·rw [if_neg c3] at hK; exact hK
  rw [if_pos c3] at hK
  rw [l1,l2]
  refine z4n (fun c4=>?_) (fun c4=>?_)
  ·rw [if_neg (by rw [c4]; simp)] at hK; exact hK
  ·rw [if_pos c4] at hK; exact hK
 refine z1a (fun c1=>z4n (fun c2=>absurd ⟨c1,c2⟩ c) (fun _=>key)) (fun _=>key)
theorem sound_q180:z03 Tryz.prog tab n_q180 c_q180:=z01 ok_q180 hg_q180 (by
 intro vs bs p v bs' h hp
 unfold c_q180 at h
 split at h
 ·cases h
  exact ⟨by kernel_rfl,rfl,.inl (run_q180 _ _ _ _ _ _ _ _ _ _ _ _ _ _ _ _ _ _ _ hp.1 _ ⟨rfl,rfl⟩)⟩
 ·cases h)

def c_q233:z00:=fun vs bs=>match vs,bs with
 | [.one (.ptr 0 0),.agg [.dat (.list .root) rs,.dat (.list (.list .int)) rg,.dat .int ov,.dat .int ou,.dat (.list .target) ts,.dat (.list .int) sg,.dat (.list (.list .int)) im]],[.box [.dat (.list .str) vb,.dat (.list .signed) vs,.dat (.list .int) ws,.dat .int fu,.dat .bool up,.dat .int tv,.dat (.list .int) tk,.dat .int tt,.dat .int tn,.dat (.list .bool) vo,.dat (.list .bool) di,.own 1,.own 2,.own 3,.dat .int now],.arr .unitd us,.arr .campaign cs,.arr .message net]=>some (some (okW ⟨vb,vs,⟨⟨ws,fu⟩,up,⟨⟨tv,tk,tt⟩,tn⟩,vo,di⟩,us,cs,net,now⟩=true),.one (dI (z0w ⟨vb,vs,⟨⟨ws,fu⟩,up,⟨⟨tv,tk,tt⟩,tn⟩,vo,di⟩,us,cs,net,now⟩ ⟨rs,rg,⟨ov,ou,ts⟩,sg,im⟩).2),[.box (cV (z0w ⟨vb,vs,⟨⟨ws,fu⟩,up,⟨⟨tv,tk,tt⟩,tn⟩,vo,di⟩,us,cs,net,now⟩ ⟨rs,rg,⟨ov,ou,ts⟩,sg,im⟩).1 (.own 4) (.own 5) (.own 6)),.dead,.dead,.dead,.arr .unitd (z0w ⟨vb,vs,⟨⟨ws,fu⟩,up,⟨⟨tv,tk,tt⟩,tn⟩,vo,di⟩,us,cs,net,now⟩ ⟨rs,rg,⟨ov,ou,ts⟩,sg,im⟩).1.units,.arr .campaign (z0w ⟨vb,vs,⟨⟨ws,fu⟩,up,⟨⟨tv,tk,tt⟩,tn⟩,vo,di⟩,us,cs,net,now⟩ ⟨rs,rg,⟨ov,ou,ts⟩,sg,im⟩).1.campaigns,.arr .message (z0w ⟨vb,vs,⟨⟨ws,fu⟩,up,⟨⟨tv,tk,tt⟩,tn⟩,vo,di⟩,us,cs,net,now⟩ ⟨rs,rg,⟨ov,ou,ts⟩,sg,im⟩).1.net])
 | _,_=>none
def Γ_q233:Ctx:=[(n_q180,c_q180),(n_q226,c_q226),(n_q224,c_q224)]
theorem ok_q233:Ok Tryz.prog tab Γ_q233:=(((ok_nil.c hg_q224 sound_q224).c hg_q226 sound_q226).c hg_q180 sound_q180)
theorem q233_vc (vb:List (List UInt8)) (vs:List Signed) (ws:List Int) (fu:Int) (up:Bool) (tv:Int) (tk:List Int) (tt tn:Int) (vo di:List Bool) (us:List UnitD) (cs:List Campaign) (net:List Message) (now:Int) (rs:List Root) (rg:List (List Int)) (ov ou:Int) (ts:List Vm.Target) (sg:List Int) (im:List (List Int)) (rec:RK) (K:KK) v0 (hv0:v0=beginG vb vs ⟨⟨ws,fu⟩,up,⟨⟨tv,tk,tt⟩,tn⟩,vo,di⟩ ⟨rs,rg,⟨ov,ou,ts⟩,sg,im⟩ now) v1 (hv1:v1=smW im):segO Γ_q233 tab fn_q233 4 K rec [.code (z05 fn_q233)] (initN [.one (.ptr 0 0),.agg [.dat (Ty.list Ty.root) rs,dR rg,dI ov,dI ou,.dat (Ty.list Ty.target) ts,dL sg,dR im]] [.box (aV vb vs ws fu up tv tk tt tn vo di (.own 1) (.own 2) (.own 3) now),.arr Ty.unitd us,.arr Ty.campaign cs,.arr Ty.message net])=(
 List.length vb≤140737488355328 ∧
 br (!(eqi v0.snd.snd 0))
 (K (.one (dI v0.snd.snd)) [.box (aV vb vs ws fu up tv tk tt tn vo di (.own 4) (.own 5) (.own 6) now),.dead,.dead,.dead,.arr Ty.unitd us,.arr Ty.campaign cs,.arr Ty.message net])
 (br (lti 0 v0.snd.fst)
 ((len im≤1000∧v1=true) ∧
 len ts*24≤140737488355328 ∧
 ((0:Int)≤(0:Int)∧(0:Int)≤min (w64 (v0.snd.fst-1)) (len cs:Int)∧min (w64 (v0.snd.fst-1)) (len cs:Int)≤(len cs:Int)) ∧
 (Int.toNat (min (w64 (v0.snd.fst-1)) (len cs:Int)-0)≤len cs∧(Int.toNat (min (w64 (v0.snd.fst-1)) (len cs:Int)-0)+len ((⟨v0.snd.fst,⟨ov,ou,ts⟩,im⟩:Vm.Campaign)::[]))*72≤140737488355328) ∧
 K (.one (dI 0)) [.box [.dat (Ty.list Ty.str) vb,.dat (Ty.list Ty.signed) vs,dL v0.fst.f.words,dI v0.fst.f.fuel,dB v0.fst.up,dI v0.fst.t.r.version,dL v0.fst.t.r.keys,dI v0.fst.t.r.thr,dI v0.fst.t.version,dLb v0.fst.voted,dLb v0.fst.did,.own 4,.own 5,.own 6,dI now],.dead,.dead,.dead,.arr Ty.unitd us,.arr Ty.campaign (cat (slc cs 0 (Int.toNat (min (w64 (v0.snd.fst-1)) (len cs:Int)-0))) ((⟨v0.snd.fst,⟨ov,ou,ts⟩,im⟩:Vm.Campaign)::[])),.arr Ty.message net])
 (K (.one (dI 0)) [.box [.dat (Ty.list Ty.str) vb,.dat (Ty.list Ty.signed) vs,dL v0.fst.f.words,dI v0.fst.f.fuel,dB v0.fst.up,dI v0.fst.t.r.version,dL v0.fst.t.r.keys,dI v0.fst.t.r.thr,dI v0.fst.t.version,dLb v0.fst.voted,dLb v0.fst.did,.own 4,.own 5,.own 6,dI now],.dead,.dead,.dead,.arr Ty.unitd us,.arr Ty.campaign cs,.arr Ty.message net]))):=by subst_vars; kernel_rfl

theorem run_q233 (hp:okW ⟨vb,vs,⟨⟨ws,fu⟩,up,⟨⟨tv,tk,tt⟩,tn⟩,vo,di⟩,us,cs,net,now⟩=true) (K:KK) (hK:K (.one (dI (z0w ⟨vb,vs,⟨⟨ws,fu⟩,up,⟨⟨tv,tk,tt⟩,tn⟩,vo,di⟩,us,cs,net,now⟩ ⟨rs,rg,⟨ov,ou,ts⟩,sg,im⟩).2)) [.box (cV (z0w ⟨vb,vs,⟨⟨ws,fu⟩,up,⟨⟨tv,tk,tt⟩,tn⟩,vo,di⟩,us,cs,net,now⟩ ⟨rs,rg,⟨ov,ou,ts⟩,sg,im⟩).1 (.own 4) (.own 5) (.own 6)),.dead,.dead,.dead,.arr .unitd (z0w ⟨vb,vs,⟨⟨ws,fu⟩,up,⟨⟨tv,tk,tt⟩,tn⟩,vo,di⟩,us,cs,net,now⟩ ⟨rs,rg,⟨ov,ou,ts⟩,sg,im⟩).1.units,.arr .campaign (z0w ⟨vb,vs,⟨⟨ws,fu⟩,up,⟨⟨tv,tk,tt⟩,tn⟩,vo,di⟩,us,cs,net,now⟩ ⟨rs,rg,⟨ov,ou,ts⟩,sg,im⟩).1.campaigns,.arr .message (z0w ⟨vb,vs,⟨⟨ws,fu⟩,up,⟨⟨tv,tk,tt⟩,tn⟩,vo,di⟩,us,cs,net,now⟩ ⟨rs,rg,⟨ov,ou,ts⟩,sg,im⟩).1.net]):GN Γ_q233 fn_q233 4 K [.one (.ptr 0 0),.agg [.dat (.list .root) rs,dR rg,dI ov,dI ou,.dat (.list .target) ts,dL sg,dR im]] [.box (aV vb vs ws fu up tv tk tt tn vo di (.own 1) (.own 2) (.own 3) now),.arr .unitd us,.arr .campaign cs,.arr .message net]:=by
 refine ⟨1,?_⟩
 rw [z1i,q233_vc _ _ _ _ _ _ _ _ _ _ _ _ _ _ _ _ _ _ _ _ _ _ _ _ _ rfl _ rfl]
 have H:=z34.1 hp
 have hb:=z3k H.b
 have h8:=H.c8
 obtain ⟨u1,u4⟩:=H.units4
 have hn:=H.n
 simp only at hb h8 u4 hn
 have hV:beginV ⟨vb,vs,⟨⟨ws,fu⟩,up,⟨⟨tv,tk,tt⟩,tn⟩,vo,di⟩,us,cs,net,now⟩ ⟨rs,rg,⟨ov,ou,ts⟩,sg,im⟩=beginG vb vs ⟨⟨ws,fu⟩,up,⟨⟨tv,tk,tt⟩,tn⟩,vo,di⟩ ⟨rs,rg,⟨ov,ou,ts⟩,sg,im⟩ now:=rfl
 have hN:=zic (v:=⟨vb,vs,⟨⟨ws,fu⟩,up,⟨⟨tv,tk,tt⟩,tn⟩,vo,di⟩,us,cs,net,now⟩) (o:=⟨rs,rg,⟨ov,ou,ts⟩,sg,im⟩)
 have hO:=z48 (b:=vb) (l:=vs) (g:=⟨⟨ws,fu⟩,up,⟨⟨tv,tk,tt⟩,tn⟩,vo,di⟩) (o:=⟨rs,rg,⟨ov,ou,ts⟩,sg,im⟩) (now:=now)
 unfold z0w at hK
 rw [hV] at hK hN
 obtain ⟨B,hB⟩:∃ B,beginG vb vs ⟨⟨ws,fu⟩,up,⟨⟨tv,tk,tt⟩,tn⟩,vo,di⟩ ⟨rs,rg,⟨ov,ou,ts⟩,sg,im⟩ now=B:=⟨_,rfl⟩
 rw [hB] at hK hN hO ⊢
 refine ⟨by omega,z1c (fun h=>?_) (fun h=>z1a (fun h2=>?_) (fun h2=>?_))⟩
 ·rw [if_neg h] at hK; exact hK
 ·rw [if_pos h] at hK
  obtain ⟨_,_,_,_,ht,_⟩:=hO h
  obtain ⟨r1,r2,r3,r4,_⟩:=z6k ht
  simp only at r2 r3 r4
  rcases hN h with e | ⟨_,e1,e2⟩
  ·omega
  have em:min (w64 (B.2.1-1)) (((len cs):Nat):Int)=((min (B.2.1-1).toNat cs.length:Nat):Int):=by
   rw [z0e (by omega) (by omega)]; simp only [len]; omega
  rw [em,show Int.toNat (((min (B.2.1-1).toNat cs.length:Nat):Int)-0)=min (B.2.1-1).toNat cs.length by omega,zi8,take_min]
  refine ⟨⟨by simp only [len]; omega,smW_of r4⟩,by simp only [len]; omega,⟨by omega,by omega,by simp only [len]; omega⟩,⟨by simp only [len]; omega,by simp only [len,List.length_cons,List.length_nil]; omega⟩,?_⟩
  unfold campaignsV at hK
  simp only [if_pos h2] at hK
  exact hK
 ·rw [if_pos h] at hK
  unfold campaignsV at hK
  simp only [if_neg (show ¬ 0<B.2.1 by omega)] at hK
  exact hK
theorem sound_q233:z03 Tryz.prog tab n_q233 c_q233:=z01 ok_q233 hg_q233 (by
 intro vs bs p v bs' h hp
 unfold c_q233 at h
 split at h
 ·cases h
  exact ⟨by kernel_rfl,rfl,.inr (.inr (run_q233 _ _ _ _ _ _ _ _ _ _ _ _ _ _ _ _ _ _ _ _ _ _ hp.1 _ ⟨rfl,rfl⟩))⟩
 ·cases h)

abbrev n_q227:Nat:=n_q228
noncomputable abbrev fn_q227:Func:=fn_q228
theorem hg_q227:FnOk Tryz.prog n_q227 fn_q227:=hg_q228
def c_q227:z00:=fun vs bs=>match vs,bs with
 | [.one (.own 0),.one (.dat .int i),.one (.dat .int j)],[.arr .message l]=>some (some (0≤i∧i<(l.length:Int)∧j=i+1∧l.length≤1000),.one (.view 0 0 (l.length-1)),[.arr .message (put (put l i.toNat (slc l j.toNat l.length)) (l.length-1) (zeros 1 (Ty.dflt Ty.message)))])
 | _,_=>none
def Γ_q227:Ctx:=[]
theorem ok_q227:Ok Tryz.prog tab Γ_q227:=ok_nil
theorem q227_vc (l:List Message) (i j:Int) (rec:RK) (K:KK):segO Γ_q227 tab fn_q227 1 K rec [.code (z05 fn_q227)] (z07 [.one (.own 0),.one (dI i),.one (dI j)] [.arr Ty.message l])=(
 ((0:Int)≤i∧i≤j∧j≤(len l:Int)∧(len l:Int)=(len l:Int)) ∧
 br (eqi i j)
 (K (.one (.own 0)) [.arr Ty.message l])
 (((0:Int)≤(0:Int)∧(0:Int)≤i∧i≤(len l:Int)) ∧
 ((0:Int)≤j∧j≤(len l:Int)∧(len l:Int)≤(len l:Int)) ∧
 (Int.toNat j+Int.toNat ((len l:Int)-j)≤len l∧Int.toNat (i-0)+len (slc l (Int.toNat j) (Int.toNat j+Int.toNat ((len l:Int)-j)))≤len l) ∧
 ((0:Int)≤(((Int.toNat (i-0)+len (slc l (Int.toNat j) (Int.toNat j+Int.toNat ((len l:Int)-j)))):Nat):Int)∧(((Int.toNat (i-0)+len (slc l (Int.toNat j) (Int.toNat j+Int.toNat ((len l:Int)-j)))):Nat):Int)≤(len l:Int)∧(len l:Int)≤(((len (put l (Int.toNat (i-0)) (slc l (Int.toNat j) (Int.toNat j+Int.toNat ((len l:Int)-j))))):Nat):Int)) ∧
 Int.toNat (((Int.toNat (i-0)+len (slc l (Int.toNat j) (Int.toNat j+Int.toNat ((len l:Int)-j)))):Nat):Int)+Int.toNat ((len l:Int)-(((Int.toNat (i-0)+len (slc l (Int.toNat j) (Int.toNat j+Int.toNat ((len l:Int)-j)))):Nat):Int))≤len (put l (Int.toNat (i-0)) (slc l (Int.toNat j) (Int.toNat j+Int.toNat ((len l:Int)-j)))) ∧
 K (.one (.view 0 0 (Int.toNat (i-0)+len (slc l (Int.toNat j) (Int.toNat j+Int.toNat ((len l:Int)-j)))))) [.arr Ty.message (put (put l (Int.toNat (i-0)) (slc l (Int.toNat j) (Int.toNat j+Int.toNat ((len l:Int)-j)))) (Int.toNat (((Int.toNat (i-0)+len (slc l (Int.toNat j) (Int.toNat j+Int.toNat ((len l:Int)-j)))):Nat):Int)) (zeros (Int.toNat ((len l:Int)-(((Int.toNat (i-0)+len (slc l (Int.toNat j) (Int.toNat j+Int.toNat ((len l:Int)-j)))):Nat):Int))) (Ty.dflt Ty.message)))])):=by kernel_rfl

theorem run_q227 (l:List Vm.Message) (hp:0≤i∧i<(l.length:Int)∧j=i+1∧l.length≤1000) (K:KK) (hK:K (.one (.view 0 0 (l.length-1))) [.arr .message (put (put l i.toNat (slc l j.toNat l.length)) (l.length-1) (zeros 1 (Ty.dflt Ty.message)))]):GO Γ_q227 fn_q227 1 K [.one (.own 0),.one (dI i),.one (dI j)] [.arr .message l]:=by
 obtain ⟨p1,p2,p3,p4⟩:=hp
 obtain ⟨k,hk⟩:∃ k:Nat,i=k:=⟨i.toNat,by omega⟩
 subst hk
 subst p3
 refine ⟨1,?_⟩
 rw [z1i,q227_vc _ _ _ _ _]
 have e1:((k:Int)-0).toNat=k:=by omega
 have e2:((k:Int)+1).toNat=k+1:=by omega
 have e3:(((len l:Nat):Int)-((k:Int)+1)).toNat=l.length-(k+1):=by simp only [len]; omega
 have e4:k+1+(l.length-(k+1))=l.length:=by omega
 have e5:len (slc l (k+1) l.length)=l.length-(k+1):=z4j l (k+1) l.length (Nat.le_refl _)
 have e6:k+(l.length-(k+1))=l.length-1:=by omega
 have e7:len (put l k (slc l (k+1) l.length))=l.length:=z6o l _ k (by have:(slc l (k+1) l.length).length=l.length-(k+1):=e5; omega)
 have e8:(((l.length-1:Nat):Int)).toNat=l.length-1:=by omega
 have e9:(((len l:Nat):Int)-((l.length-1:Nat):Int)).toNat=1:=by simp only [len]; omega
 have e0:((k:Int)).toNat=k:=by omega
 rw [e1,e2,e3,e4,e5,e6,e7,e8,e9]
 rw [e0,e2] at hK
 exact ⟨⟨by omega,by omega,by simp only [len]; omega,rfl⟩,zfd (by omega) ⟨⟨by omega,by omega,by simp only [len]; omega⟩,⟨by omega,by simp only [len]; omega,Int.le_refl _⟩,⟨by simp only [len]; omega,by simp only [len]; omega⟩,⟨by omega,by simp only [len]; omega,Int.le_refl _⟩,by omega,hK⟩⟩
theorem sound_q227:z03 Tryz.prog tab n_q227 c_q227:=z01 ok_q227 hg_q227 (by
 intro vs bs p v bs' h hp
 unfold c_q227 at h
 split at h
 ·cases h
  exact ⟨by kernel_rfl,rfl,.inr (.inl (run_q227 _ _ _ hp.1 _ ⟨rfl,rfl⟩))⟩
 ·cases h)

def c_q228:z00:=fun vs bs=>match vs,bs with
 | [.one (.own 0),.one (.dat .int i),.one (.dat .int j)],[.arr .message l]=>some (some (0≤i∧i<(l.length:Int)∧j=i+1∧l.length≤1000),.one (.own 1),[.dead,.arr .message (l.eraseIdx i.toNat)])
 | _,_=>none
theorem zkr {α:Type} (l:List α) (k:Nat) (h:k<l.length) (d:List α):slc (put (put l k (slc l (k+1) l.length)) (l.length-1) d) 0 (l.length-1)=l.eraseIdx k:=by
 have e5:(slc l (k+1) l.length)=l.drop (k+1):=by simp [slc]
 have e1:put l k (slc l (k+1) l.length)=l.take k++l.drop (k+1)++l.drop (k+(l.length-(k+1))):=by simp [put,e5]
 have hlen:(l.take k++l.drop (k+1)).length=l.length-1:=by simp; omega
 rw [e1,List.eraseIdx_eq_take_drop_succ]
 simp only [slc,put,List.drop_zero]
 rw [List.take_append_of_le_length (by simp; omega),List.take_append_of_le_length (by simp; omega),List.take_append_of_le_length (by rw [hlen]; exact Nat.le_refl _),← hlen,List.take_length]
 rw [hlen,List.take_of_length_le (by rw [hlen]; exact Nat.le_refl _)]
theorem aux_q228 (l:List Vm.Message) (i j:Int) (hp:0≤i∧i<(l.length:Int)∧j=i+1∧l.length≤1000):AC Tryz.prog tab n_q228 [.one (.own 0),.one (dI i),.one (dI j)] [.arr .message l] (.one (.own 1)) [.dead,.arr .message (l.eraseIdx i.toNat)]:=by
 obtain ⟨p1,p2,p3,p4⟩:=hp
 obtain ⟨k,hk⟩:∃ k:Nat,i=k:=⟨i.toNat,by omega⟩
 subst hk
 subst p3
 have e0:((k:Int)).toNat=k:=by omega
 have e2:((k:Int)+1).toNat=k+1:=by omega
 have e:=zkr l k (by omega) (zeros 1 (Ty.dflt Ty.message))
 rw [e0,← e]
 refine zh1 sound_q227 [.one (.own 0),.one (dI (k:Int)),.one (dI ((k:Int)+1))] [.arr .message l] (some (both (some (0≤(k:Int)∧(k:Int)<(l.length:Int)∧(k:Int)+1=(k:Int)+1∧l.length≤1000)) (l.length-1≤len (put (put l k (slc l (k+1) l.length)) (l.length-1) (zeros 1 (Ty.dflt Ty.message)))))) _ _ ?_ ⟨⟨⟨p1,p2,rfl,p4⟩,?_⟩,trivial⟩
 ·have q:c_q227 [.one (.own 0),.one (dI (k:Int)),.one (dI ((k:Int)+1))] [.arr .message l]=some (some (0≤(k:Int)∧(k:Int)<(l.length:Int)∧(k:Int)+1=(k:Int)+1∧l.length≤1000),.one (.view 0 0 (l.length-1)),[.arr .message (put (put l k (slc l (k+1) l.length)) (l.length-1) (zeros 1 (Ty.dflt Ty.message)))]):=rfl
  simp only [viewC,q]
 ·simp only [len]
  have h5:(slc l (k+1) l.length).length=l.length-(k+1):=z4j l (k+1) l.length (Nat.le_refl _)
  have h7:=z6o l (slc l (k+1) l.length) k (by omega)
  have h8:=z6o (put l k (slc l (k+1) l.length)) (zeros 1 (Ty.dflt Ty.message)) (l.length-1) (by
   have hz:(zeros 1 (Ty.dflt Ty.message)).length=1:=by simp [zeros]
   omega)
  omega
theorem sound_q228:z03 Tryz.prog tab n_q228 c_q228:=by
 intro vs bs p v bs' h hp
 unfold c_q228 at h
 split at h
 ·cases h
  exact aux_q228 _ _ _ hp.1
 ·cases h

abbrev n_q162:Nat:=n_slices_Index_Lbool
noncomputable abbrev fn_q162:Func:=fn_slices_Index_Lbool
theorem hg_q162:FnOk Tryz.prog n_q162 fn_q162:=hg_slices_Index_Lbool
def c_q162:z00:=fun vs bs=>match vs,bs with
 | [.one (.own 0),.one (.dat .bool x)],[.arr .bool l]=>some (some (len l≤1000),.one (dI (indexB x 0 l)),[.arr .bool l])
 | _,_=>none
def Γ_q162:Ctx:=[]
theorem ok_q162:Ok Tryz.prog tab Γ_q162:=ok_nil
noncomputable def q162_L0:List It:=[.inLoop [8,7,4,0,1] (cSub fn_q162 [1,0,1,0,0]),.inBlock 0,.code (cSub fn_q162 [1,1])]
def q162_S0 (x0 x1 x2:Int) (x3:Bool) (x4:List Bool):St:=⟨[(8,.one (dI x0)),(7,.one (dI x1)),(4,.one (dI x2)),(0,.one (.own 0)),(1,.one (dB x3))],[(0,.arr Ty.bool x4)],1⟩
theorem q162_vc (l:List Bool) (x:Bool) (rec:RK) (K:KK):segD Γ_q162 tab fn_q162 1 K rec [.code (z05 fn_q162)] (z07 [.one (.own 0),.one (dB x)] [.arr Ty.bool l])=(
 rec q162_L0 (q162_S0 0 (len l:Int) 0 x l)):=by kernel_rfl
theorem zio (x0 x1 x2:Int) (x3:Bool) (x4:List Bool) (rec:RK) (K:KK):segD Γ_q162 tab fn_q162 1 K rec (ent q162_L0) (q162_S0 x0 x1 x2 x3 x4)=(
 br (lti x0 x1)
 (((0:Int)≤x0∧x0<(len x4:Int)) ∧
 Int.toNat x0<len x4 ∧
 br (eqb x3 (nth x4 (Int.toNat x0) (Ty.dflt Ty.bool)))
 (K (.one (dI x0)) [.arr Ty.bool x4])
 (rec q162_L0 (q162_S0 (w64 (x0+1)) x1 x2 x3 x4)))
 (K (.one (dI (-1))) [.arr Ty.bool x4])):=by kernel_rfl

theorem zgf (l:List Bool) (s:Bool) (hl:l.length≤1000) (K:KK):∀ (d k:Nat),k+d=l.length→K (.one (dI (indexB s k (l.drop k)))) [.arr .bool l] →
  goD Γ_q162 tab fn_q162 1 K (d+1) q162_L0 (q162_S0 (k:Int) (((len l):Nat):Int) 0 s l)
 | 0,k,hk,hK=>by
  rw [z09 (L:=q162_L0),zio _ _ _ _ _ _ _]
  rw [List.drop_of_length_le (by omega)] at hK
  exact z22 (by simp only [len]; omega) hK
 | d+1,k,hk,hK=>by
  rw [z09 (L:=q162_L0),zio _ _ _ _ _ _ _,z08]
  rw [z0q (by omega) (Ty.dflt Ty.bool)] at hK
  simp only [indexB] at hK
  refine z2o (by simp only [len]; omega) ⟨⟨by omega,by simp only [len]; omega⟩,by simp only [len]; omega,z0l (fun h=>?_) (fun h=>?_)⟩
  ·rw [if_pos (of_decide_eq_true h).symm] at hK; exact hK
  ·rw [if_neg (fun e=>of_decide_eq_false h e.symm)] at hK
   rw [z0f (by omega)]
   exact zgf l s hl K d (k+1) (by omega) hK
theorem run_q162 (l:List Bool) (hp:len l≤1000) (K:KK) (hK:K (.one (dI (indexB x 0 l))) [.arr .bool l]):GD Γ_q162 fn_q162 1 K [.one (.own 0),.one (dB x)] [.arr .bool l]:=by
 refine ⟨l.length+2,?_⟩
 rw [z02,q162_vc _ _ _ _]
 exact zgf l x hp K l.length 0 (by omega) hK
theorem sound_q162:z03 Tryz.prog tab n_q162 c_q162:=z01 ok_q162 hg_q162 (by
 intro vs bs p v bs' h hp
 unfold c_q162 at h
 split at h
 ·cases h
  exact ⟨by kernel_rfl,rfl,.inl (run_q162 _ _ hp.1 _ ⟨rfl,rfl⟩)⟩
 ·cases h)

abbrev n_q163:Nat:=n_slices_Contains_Lbool
noncomputable abbrev fn_q163:Func:=fn_slices_Contains_Lbool
theorem hg_q163:FnOk Tryz.prog n_q163 fn_q163:=hg_slices_Contains_Lbool
def c_q163:z00:=fun vs bs=>match vs,bs with
 | [.one (.own 0),.one (.dat .bool x)],[.arr .bool l]=>some (some (len l≤1000),.one (dB (hasB x l)),[.arr .bool l])
 | _,_=>none
def Γ_q163:Ctx:=[(n_q162,c_q162)]
theorem ok_q163:Ok Tryz.prog tab Γ_q163:=(ok_nil.c hg_q162 sound_q162)
theorem q163_vc (l:List Bool) (x:Bool) (rec:RK) (K:KK) v0 (hv0:v0=indexB x 0 l):segD Γ_q163 tab fn_q163 1 K rec [.code (z05 fn_q163)] (z07 [.one (.own 0),.one (dB x)] [.arr Ty.bool l])=(
 len l≤1000 ∧
 K (.one (dB (lei 0 v0))) [.arr Ty.bool l]):=by subst_vars; kernel_rfl

theorem run_q163 (l:List Bool) (hp:len l≤1000) (K:KK) (hK:K (.one (dB (hasB x l))) [.arr .bool l]):GD Γ_q163 fn_q163 1 K [.one (.own 0),.one (dB x)] [.arr .bool l]:=by
 refine ⟨1,?_⟩
 rw [z02,q163_vc _ _ _ _ _ rfl]
 exact ⟨hp,hK⟩
theorem sound_q163:z03 Tryz.prog tab n_q163 c_q163:=z01 ok_q163 hg_q163 (by
 intro vs bs p v bs' h hp
 unfold c_q163 at h
 split at h
 ·cases h
  exact ⟨by kernel_rfl,rfl,.inl (run_q163 _ _ hp.1 _ ⟨rfl,rfl⟩)⟩
 ·cases h)

def c_q176:z00:=fun vs bs=>match vs,bs with
 | [.agg [.dat .int gn,.dat .int gv,.dat .bool gc,.dat .bool ga,.dat .bool ge],.one (.dat .int u),.one (.dat .int n)],[]=>some (none,.agg [dI (kindG ⟨gn,gv,gc,ga,ge⟩ n),dI u,dI n,dI 0,dI 0,dL [],dB false],[])
 | _,_=>none
def Γ_q176:Ctx:=[]
theorem ok_q176:Ok Tryz.prog tab Γ_q176:=ok_nil
theorem q176_vc (gn gv:Int) (gc ga ge:Bool) (u n:Int) (rec:RK) (K:KK) v0 (hv0:v0=K (.agg [dI (5:Int),dI u,dI n,dI (0:Int),dI (0:Int),dL [],dB false]) []):segD Γ_q176 tab fn_q176 0 K rec [.code (z05 fn_q176)] (z07 [.agg [dI gn,dI gv,dB gc,dB ga,dB ge],.one (dI u),.one (dI n)] [])=(
 br gc
 (br (eqi gn n)
 (K (.agg [dI (4:Int),dI u,dI n,dI (0:Int),dI (0:Int),dL [],dB false]) [])
 v0)
 v0):=by subst_vars; kernel_rfl

theorem run_q176 (K:KK) (hK:K (.agg [dI (kindG ⟨gn,gv,gc,ga,ge⟩ n),dI u,dI n,dI 0,dI 0,dL [],dB false]) []):GD Γ_q176 fn_q176 0 K [.agg [dI gn,dI gv,dB gc,dB ga,dB ge],.one (dI u),.one (dI n)] []:=by
 refine ⟨1,?_⟩
 rw [z02,q176_vc _ _ _ _ _ _ _ _ _ _ rfl]
 unfold kindG at hK
 cases gc
 ·rw [if_neg (by simp)] at hK
  exact z6r rfl hK
 ·refine z97 rfl (z27 (fun h=>?_) (fun h=>?_))
  ·rw [if_pos ⟨rfl,h⟩] at hK; exact hK
  ·rw [if_neg (fun q=>h q.2)] at hK; exact hK
theorem sound_q176:z03 Tryz.prog tab n_q176 c_q176:=z01 ok_q176 hg_q176 (by
 intro vs bs p v bs' h hp
 unfold c_q176 at h
 split at h
 ·cases h
  exact ⟨by kernel_rfl,rfl,.inl (run_q176 _ _ _ _ _ _ _ _ ⟨rfl,rfl⟩)⟩
 ·cases h)

def c_q178:z00:=fun vs bs=>match vs,bs with
 | [.agg [.dat (.list .int) ws,.dat .int fu,.dat .bool up,.dat .int tv,.dat (.list .int) tk,.dat .int tt,.dat .int tn,.dat (.list .bool) vo,.dat (.list .bool) di],.agg [.dat .int mk,.dat .int mu,.dat .int mn,.dat .int ma,.dat .int mi,.dat (.list .int) mw,.dat .bool my]],[]=>some (none,.tup [.agg (cG (hearG ⟨⟨ws,fu⟩,up,⟨⟨tv,tk,tt⟩,tn⟩,vo,di⟩ ⟨mk,mu,mn,ma,mi,mw,my⟩).1.1),.one (dM (hearG ⟨⟨ws,fu⟩,up,⟨⟨tv,tk,tt⟩,tn⟩,vo,di⟩ ⟨mk,mu,mn,ma,mi,mw,my⟩).1.2),.one (dI (hearG ⟨⟨ws,fu⟩,up,⟨⟨tv,tk,tt⟩,tn⟩,vo,di⟩ ⟨mk,mu,mn,ma,mi,mw,my⟩).2)],[])
 | _,_=>none
def Γ_q178:Ctx:=[(n_q168,c_q168),(n_q171,c_q171),(n_q167,c_q167),(n_q163,c_q163),(n_q174,c_q174),(n_q176,c_q176)]
theorem ok_q178:Ok Tryz.prog tab Γ_q178:=((((((ok_nil.c hg_q176 sound_q176).c hg_q174 sound_q174).c hg_q163 sound_q163).c hg_q167 sound_q167).c hg_q171 sound_q171).c hg_q168 sound_q168)
theorem q178_vc (ws:List Int) (fu:Int) (up:Bool) (tv:Int) (tk:List Int) (tt tn:Int) (vo di:List Bool) (mk mu mn ma mi:Int) (mw:List Int) (my:Bool) (rec:RK) (K:KK) v0 (hv0:v0=z0t ⟨⟨ws,fu⟩,up,⟨⟨tv,tk,tt⟩,tn⟩,vo,di⟩) v1 (hv1:v1=ofG ⟨ws,fu⟩) v2 (hv2:v2=hasB false (setAt di (Int.toNat mu) true)) v3 (hv3:v3=z0o ⟨⟨ws,fu⟩,up,⟨⟨tv,tk,tt⟩,tn⟩,vo,setAt di (Int.toNat mu) true⟩ ((4:Int)::v1.n::[])) v4 (hv4:v4=kindG ⟨v1.n,v1.version,v1.commit,v1.abort,v1.ended⟩ mn) v5 (hv5:v5=hasB false (setAt vo (Int.toNat mu) true)) v6 (hv6:v6=z0o ⟨⟨ws,fu⟩,up,⟨⟨tv,tk,tt⟩,tn⟩,setAt vo (Int.toNat mu) true,di⟩ ((2:Int)::v1.n::[])) v7 (hv7:v7=br (eqi mk 3)
 (K (.tup [.agg [dL ws,dI fu,dB up,dI tv,dL tk,dI tt,dI tn,dLb vo,dLb di],.one (dM []),.one (dI 0)]) [])
 (br (eqi mk 6)
 (K (.tup [.agg [dL ws,dI fu,dB up,dI tv,dL tk,dI tt,dI tn,dLb vo,dLb di],.one (dM []),.one (dI 0)]) [])
 (br (eqi mk 7)
 (K (.tup [.agg [dL ws,dI fu,dB up,dI tv,dL tk,dI tt,dI tn,dLb vo,dLb di],.one (dM ((⟨v4,mu,mn,0,0,[],false⟩:Vm.Message)::[])),.one (dI 0)]) [])
 (K (.tup [.agg [dL ws,dI fu,dB up,dI tv,dL tk,dI tt,dI tn,dLb vo,dLb di],.one (dM []),.one (dI 0)]) [])))) v8 (hv8:v8=br (!v2)
 (List.length ((4:Int)::v1.n::[])≤140737488355328 ∧
 K (.tup [.agg (cG v3.fst),.one (dM []),.one (dI 0)]) [])
 (K (.tup [.agg [dL ws,dI fu,dB up,dI tv,dL tk,dI tt,dI tn,dLb vo,dLb (setAt di (Int.toNat mu) true)],.one (dM []),.one (dI 0)]) [])) v9 (hv9:v9=K (.tup [.agg [dL ws,dI fu,dB up,dI tv,dL tk,dI tt,dI tn,dLb vo,dLb di],.one (dM ((⟨v4,mu,mn,0,0,[],false⟩:Vm.Message)::[])),.one (dI 0)]) []) v10 (hv10:v10=K (.tup [.agg [dL [],dI (0:Int),dB false,dI (0:Int),dL [],dI (0:Int),dI (0:Int),dLb [],dLb []],.one (dM []),.one (dI 3)]) []) v11 (hv11:v11=K (.tup [.agg [dL ws,dI fu,dB up,dI tv,dL tk,dI tt,dI tn,dLb vo,dLb di],.one (dM []),.one (dI 0)]) []):segD Γ_q178 tab fn_q178 0 K rec [.code (z05 fn_q178)] (z07 [.agg [dL ws,dI fu,dB up,dI tv,dL tk,dI tt,dI tn,dLb vo,dLb di],.agg [dI mk,dI mu,dI mn,dI ma,dI mi,dL mw,dB my]] [])=(
 br (!(eqi v0 0))
 (K (.tup [.agg [dL [],dI (0:Int),dB false,dI (0:Int),dL [],dI (0:Int),dI (0:Int),dLb [],dLb []],.one (dM []),.one (dI v0)]) [])
 (br (lti mu 0)
 v10
 (br (lei (len vo:Int) mu)
 v10
 (br (lti mn 1)
 v10
 (br (lti 8 mn)
 v10
 ((len ws*8≤140737488355328∧len tk*8≤140737488355328∧len vo≤1000∧len di≤1000) ∧
 br (!up)
 v11
 (br (eqi v1.n mn)
 (br v1.commit
 (br (eqi mk 3)
 (br (!(!v1.ended))
 v11
 v11)
 (br (eqi mk 6)
 (br (!(!v1.ended))
 v11
 (((0:Int)≤mu∧mu<(len di:Int)) ∧
 Int.toNat mu<len di ∧
 len (setAt di (Int.toNat mu) true)≤1000 ∧
 v8))
 (br (eqi mk 7)
 (br (!(!v1.ended))
 v9
 v9)
 v11)))
 (br (eqi mk 3)
 (br (!(!v1.ended))
 v11
 (br v1.abort
 v11
 (br (!my)
 v11
 (((0:Int)≤mu∧mu<(len vo:Int)) ∧
 Int.toNat mu<len vo ∧
 len (setAt vo (Int.toNat mu) true)≤1000 ∧
 br (!v5)
 (List.length ((2:Int)::v1.n::[])≤140737488355328 ∧
 K (.tup [.agg (cG v6.fst),.one (dM []),.one (dI 0)]) [])
 (K (.tup [.agg [dL ws,dI fu,dB up,dI tv,dL tk,dI tt,dI tn,dLb (setAt vo (Int.toNat mu) true),dLb di],.one (dM []),.one (dI 0)]) [])))))
 (br (eqi mk 6)
 (br (!(!v1.ended))
 v11
 (br (!v1.abort)
 v11
 (((0:Int)≤mu∧mu<(len di:Int)) ∧
 Int.toNat mu<len di ∧
 len (setAt di (Int.toNat mu) true)≤1000 ∧
 v8)))
 (br (eqi mk 7)
 (br (!(!v1.ended))
 v9
 (br v1.abort
 v9
 v11))
 v11))))
 (br v1.commit
 v7
 v7)))))))):=by subst_vars; kernel_rfl

theorem run_q178 (K:KK) (hK:K (.tup [.agg (cG (hearG ⟨⟨ws,fu⟩,up,⟨⟨tv,tk,tt⟩,tn⟩,vo,di⟩ ⟨mk,mu,mn,ma,mi,mw,my⟩).1.1),.one (dM (hearG ⟨⟨ws,fu⟩,up,⟨⟨tv,tk,tt⟩,tn⟩,vo,di⟩ ⟨mk,mu,mn,ma,mi,mw,my⟩).1.2),.one (dI (hearG ⟨⟨ws,fu⟩,up,⟨⟨tv,tk,tt⟩,tn⟩,vo,di⟩ ⟨mk,mu,mn,ma,mi,mw,my⟩).2)]) []):GD Γ_q178 fn_q178 0 K [.agg [dL ws,dI fu,dB up,dI tv,dL tk,dI tt,dI tn,dLb vo,dLb di],.agg [dI mk,dI mu,dI mn,dI ma,dI mi,dL mw,dB my]] []:=by
 refine ⟨1,?_⟩
 rw [z02,q178_vc _ _ _ _ _ _ _ _ _ _ _ _ _ _ _ _ _ _ _ rfl _ rfl _ rfl _ rfl _ rfl _ rfl _ rfl _ rfl _ rfl _ rfl _ rfl _ rfl]
 refine z1c (fun h=>?_) (fun h=>?_)
 ·rw [show hearG ⟨⟨ws,fu⟩,up,⟨⟨tv,tk,tt⟩,tn⟩,vo,di⟩ ⟨mk,mu,mn,ma,mi,mw,my⟩=((noGate,[]),z0t ⟨⟨ws,fu⟩,up,⟨⟨tv,tk,tt⟩,tn⟩,vo,di⟩) from by unfold hearG hearGE; rw [if_neg h,if_neg h]] at hK
  exact hK
 have lv:((len vo:Nat):Int)=(vo.length:Int):=rfl
 have ld:((len di:Nat):Int)=(di.length:Int):=rfl
 rw [lv,ld]
 by_cases c:mu<0∨(vo.length:Int)≤mu∨mn<1∨8<mn
 ·rw [show hearG ⟨⟨ws,fu⟩,up,⟨⟨tv,tk,tt⟩,tn⟩,vo,di⟩ ⟨mk,mu,mn,ma,mi,mw,my⟩=((noGate,[]),3) from by
   have e:hearGE ⟨⟨ws,fu⟩,up,⟨⟨tv,tk,tt⟩,tn⟩,vo,di⟩ ⟨mk,mu,mn,ma,mi,mw,my⟩=3:=by unfold hearGE; rw [if_pos h,if_pos (by exact c)]
   unfold hearG; rw [e,if_neg (by decide)]] at hK
  exact z1a (fun _=>hK) (fun _=>z0l (fun _=>hK) (fun h2=>z1a (fun _=>hK) (fun _=>z2o (by rw [z11] at h2; omega) hK)))
 obtain ⟨s1,s2,s3,s4⟩:=z5j h
 obtain ⟨_,v1,v2,v3,_⟩:=z0n h
 simp only at v1 v2 v3
 refine z22 (by omega) (z6r (z11.2 (by omega)) (z22 (by omega) (z22 (by omega) ⟨⟨s1,s2,s3,s4⟩,?_⟩)))
 rw [zhi h (by simp only; omega)] at hK
 have lsv:len (setAt vo (Int.toNat mu) true)≤1000:=by simp only [len,z2x]; omega
 have lsd:len (setAt di (Int.toNat mu) true)≤1000:=by simp only [len,z2x]; omega
 have lnv:Int.toNat mu<len vo:=by simp only [len]; omega
 have lnd:Int.toNat mu<len di:=by simp only [len]; omega
 unfold z06 at hK
 cases up
 ·rw [if_neg (by simp)] at hK
  exact nt_t rfl hK
 rw [if_pos rfl] at hK
 refine nt_f rfl ?_
 obtain ⟨s,hs⟩:∃ s,ofG ⟨ws,fu⟩=s:=⟨_,rfl⟩
 simp only [hs] at hK ⊢
 rw [show (⟨s.n,s.version,s.commit,s.abort,s.ended⟩:Vm.GState)=s from rfl]
 obtain ⟨g,hg⟩:∃ g:Vm.Gate,(⟨⟨ws,fu⟩,true,⟨⟨tv,tk,tt⟩,tn⟩,vo,di⟩:Vm.Gate)=g:=⟨_,rfl⟩
 have hKa:hearsS g s ⟨mk,mu,mn,ma,mi,mw,my⟩=(g,[])→K (.tup [.agg [dL ws,dI fu,dB true,dI tv,dL tk,dI tt,dI tn,dLb vo,dLb di],.one (dM []),.one (dI (0:Int))]) []:=fun e=>by rw [hg,e,← hg] at hK; exact hK
 have hKb:hearsS g s ⟨mk,mu,mn,ma,mi,mw,my⟩=(g,[z19 s mu mn])→K (.tup [.agg [dL ws,dI fu,dB true,dI tv,dL tk,dI tt,dI tn,dLb vo,dLb di],.one (dM [⟨kindG s mn,mu,mn,0,0,[],false⟩]),.one (dI (0:Int))]) []:=fun e=>by rw [hg,e,← hg] at hK; exact hK
 have hKc:hearsS g s ⟨mk,mu,mn,ma,mi,mw,my⟩=(z29 g mu,[])→K (.tup [.agg [dL ws,dI fu,dB true,dI tv,dL tk,dI tt,dI tn,dLb (setAt vo (Int.toNat mu) true),dLb di],.one (dM []),.one (dI (0:Int))]) []:=fun e=>by rw [hg,e,← hg] at hK; exact hK
 have hKe:hearsS g s ⟨mk,mu,mn,ma,mi,mw,my⟩=(didG g mu,[])→K (.tup [.agg [dL ws,dI fu,dB true,dI tv,dL tk,dI tt,dI tn,dLb vo,dLb (setAt di (Int.toNat mu) true)],.one (dM []),.one (dI (0:Int))]) []:=fun e=>by rw [hg,e,← hg] at hK; exact hK
 have hKd:hearsS g s ⟨mk,mu,mn,ma,mi,mw,my⟩=((z0o (z29 g mu) [2,s.n]).1,[])→K (.tup [.agg (cG (z0o ⟨⟨ws,fu⟩,true,⟨⟨tv,tk,tt⟩,tn⟩,setAt vo (Int.toNat mu) true,di⟩ [2,s.n]).1),.one (dM []),.one (dI (0:Int))]) []:=fun e=>by rw [hg,e,← hg] at hK; exact hK
 have hKf:hearsS g s ⟨mk,mu,mn,ma,mi,mw,my⟩=((z0o (didG g mu) [4,s.n]).1,[])→K (.tup [.agg (cG (z0o ⟨⟨ws,fu⟩,true,⟨⟨tv,tk,tt⟩,tn⟩,vo,setAt di (Int.toNat mu) true⟩ [4,s.n]).1),.one (dM []),.one (dI (0:Int))]) []:=fun e=>by rw [hg,e,← hg] at hK; exact hK
 clear hK
 have evo:(z29 g mu).voted=setAt vo (Int.toNat mu) true:=by rw [← hg]; rfl
 have edi:(didG g mu).did=setAt di (Int.toNat mu) true:=by rw [← hg]; rfl
 have h3:mk=3→hearsS g s ⟨mk,mu,mn,ma,mi,mw,my⟩=if s.n≠mn∨s.ended=true∨s.commit=true∨s.abort=true∨my=false then (g,[]) else (voteG g s mu,[]):=fun e=>by unfold hearsS; rw [if_pos (by exact e)]
 have h6:mk=6→hearsS g s ⟨mk,mu,mn,ma,mi,mw,my⟩=if s.n≠mn∨s.ended=true∨(s.commit=false∧s.abort=false) then (g,[]) else (doneG g s mu,[]):=fun e=>by unfold hearsS; rw [if_neg (by simp only; omega),if_pos (by exact e)]
 have h7:mk=7→hearsS g s ⟨mk,mu,mn,ma,mi,mw,my⟩=if s.n≠mn∨s.ended=true∨s.commit=true∨s.abort=true then (g,[z19 s mu mn]) else (g,[]):=fun e=>by unfold hearsS; rw [if_neg (by simp only; omega),if_neg (by simp only; omega),if_pos (by exact e)]
 have h0:mk≠3→mk≠6→mk≠7→hearsS g s ⟨mk,mu,mn,ma,mi,mw,my⟩=(g,[]):=fun a b c=>by unfold hearsS; rw [if_neg (by exact a),if_neg (by exact b),if_neg (by exact c)]
 have hcc:(s.commit=true∨s.commit=false):=by cases s.commit<;>simp
 have haa:(s.abort=true∨s.abort=false):=by cases s.abort<;>simp
 have hee:(s.ended=true∨s.ended=false):=by cases s.ended<;>simp
 by_cases hn:s.n=mn
 ·refine zgj hn ?_
  rcases hcc with hc | hc<;>rcases haa with ha | ha<;>rcases hee with he | he<;>rw [hc,he]<;>rw [hc,ha,he,hn] at h3 h6 h7<;>simp only [ne_eq,not_true_eq_false,Bool.true_eq_false,Bool.false_eq_true,true_or,or_true,false_or,or_false,and_false,false_and,and_true,true_and,and_self,if_true,if_false,Bool.not_eq_false] at h3 h6 h7
  all_goals
   try rw [ha]
   try simp only [br,Bool.not_true,Bool.not_false]
   refine z27 (fun k=>?_) (fun k3=>z27 (fun k=>?_) (fun k6=>z27 (fun k=>?_) (fun k7=>hKa (h0 k3 k6 k7))))
   ·first
     | exact hKa (h3 k)
     | (refine z4n (fun q=>hKa (by rw [h3 k,if_pos q])) (fun q=>⟨⟨by omega,by omega⟩,lnv,lsv,?_⟩)
        refine z4n (fun q2=>⟨by simp,hKd (by rw [h3 k,if_neg (by rw [q]; simp)]; unfold voteG; rw [evo,q2]; rfl)⟩) (fun q2=>hKc (by rw [h3 k,if_neg (by rw [q]; simp)]; unfold voteG; rw [evo,q2]; rfl)))
   ·first
     | exact hKa (h6 k)
     | (refine ⟨⟨by omega,by omega⟩,lnd,lsd,z4n (fun q2=>⟨by simp,hKf (by rw [h6 k]; unfold doneG; rw [edi,q2]; rfl)⟩) (fun q2=>hKe (by rw [h6 k]; unfold doneG; rw [edi,q2]; rfl))⟩)
   ·first
     | exact hKb (h7 k)
     | exact hKa (h7 k)
 ·refine zfd hn ?_
  rw [if_pos (.inl hn)] at h3 h6 h7
  refine z0l (fun _=>?_) (fun _=>?_)<;>exact z27 (fun k=>hKa (h3 k)) (fun k3=>z27 (fun k=>hKa (h6 k)) (fun k6=>z27 (fun k=>hKb (h7 k)) (fun k7=>hKa (h0 k3 k6 k7))))
theorem sound_q178:z03 Tryz.prog tab n_q178 c_q178:=z01 ok_q178 hg_q178 (by
 intro vs bs p v bs' h hp
 unfold c_q178 at h
 split at h
 ·cases h
  exact ⟨by kernel_rfl,rfl,.inl (run_q178 _ _ _ _ _ _ _ _ _ _ _ _ _ _ _ _ _ ⟨rfl,rfl⟩)⟩
 ·cases h)
end Go.Proofs.YtlbppjmekiemiacGreatDoor
