/- What the functions of GateHears compute (part 2 of 3). No condition. -/
import Derived.Test.YtlbppjmekiemiacGreatDoorFGateHearsa
import Derived.KernelRfl
namespace Go.Proofs.YtlbppjmekiemiacGreatDoor
open Vm
set_option maxHeartbeats 4000000
variable (my qy up up2:Bool) (at_ cn cu cv e fu fu2 fv k ma mi mk mn mu n n2 now nt nv ou ov qa qi qk qn qu sector t t2 tn tn2 tt tt2 tv tv2 u units v v2:Int) (xs:List (List Change)) (ci im rg:List (List Int)) (b:List (List UInt8)) (di di2 vo vo2:List Bool) (cs:List Change) (ks ks2 mw nk qw sg tk tk2 us ws ws2:List Int) (s:List UInt8) (a:List Vm.Message) (rs:List Vm.Root) (l:List Vm.Signed) (ct ts:List Vm.Target)
def c_q86:Contract:=fun vs bs=>match vs,bs with
 | [.one (.dat (.list .str) l),.one (.dat .str s)],[]=>some (some (l.length≤140737488355328),.one (dI (indexS s l)),[])
 | _,_=>none
def Γ_q86:Ctx:=[]
theorem ok_q86:Ok Tryz.prog tab Γ_q86:=ok_nil
noncomputable def q86_L0:List It:=[.inLoop [8,7,4,0,1] (cSub fn_q86 [1,0,1,0,0]),.inBlock 0,.code (cSub fn_q86 [1,1])]
def q86_S0 (x0 x1 x2:Int) (x3:List (List UInt8)) (x4:List UInt8):St:=⟨[(8,.one (dI x0)),(7,.one (dI x1)),(4,.one (dI x2)),(0,.one (.dat (Ty.list Ty.str) x3)),(1,.one (.dat Ty.str x4))],[],0⟩
theorem q86_vc (l:List (List UInt8)) (s:List UInt8) (rec:RK) (K:KK):segD Γ_q86 tab fn_q86 0 K rec [.code (bodyOf fn_q86)] (initSt [.one (.dat (Ty.list Ty.str) l),.one (.dat Ty.str s)] [])=(
 rec q86_L0 (q86_S0 0 (len l:Int) 0 l s)):=by kernel_rfl
theorem q86_vc0 (x0 x1 x2:Int) (x3:List (List UInt8)) (x4:List UInt8) (rec:RK) (K:KK):segD Γ_q86 tab fn_q86 0 K rec (ent q86_L0) (q86_S0 x0 x1 x2 x3 x4)=(
 br (lti x0 x1)
 (((0:Int)≤x0∧x0<(len x3:Int)) ∧
 br (eqs x4 (nth x3 (Int.toNat x0) (Ty.dflt Ty.str)))
 (K (.one (dI x0)) [])
 (rec q86_L0 (q86_S0 (w64 (x0+1)) x1 x2 x3 x4)))
 (K (.one (dI (-1))) [])):=by kernel_rfl

theorem loop_q86 (l:List (List UInt8)) (s:List UInt8) (hl:l.length≤140737488355328) (K:KK):∀ (d k:Nat),k+d=l.length→K (.one (dI (indexFrom k s (l.drop k)))) [] →
  goD Γ_q86 tab fn_q86 0 K (d+1) q86_L0 (q86_S0 (k:Int) (((len l):Nat):Int) 0 l s)
 | 0,k,hk,hK=>by
  rw [goD_in (L:=q86_L0),q86_vc0 _ _ _ _ _ _ _]
  rw [List.drop_of_length_le (by omega)] at hK
  exact lt_f (by simp only [len]; omega) hK
 | d+1,k,hk,hK=>by
  rw [goD_in (L:=q86_L0),q86_vc0 _ _ _ _ _ _ _,toNat_nat]
  rw [drop_step (by omega) (Ty.dflt Ty.str)] at hK
  simp only [indexFrom] at hK
  refine lt_t (by simp only [len]; omega) ⟨⟨by omega,by simp only [len]; omega⟩,br_split (fun h=>?_) (fun h=>?_)⟩
  ·rw [eqs_true] at h
   rw [if_pos h.symm] at hK; exact hK
  ·rw [eqs_false] at h
   rw [if_neg (fun e=>h e.symm)] at hK
   rw [w64_succ (by omega)]
   exact loop_q86 l s hl K d (k+1) (by omega) hK
theorem run_q86 (l:List (List UInt8)) (hp:l.length≤140737488355328) (K:KK) (hK:K (.one (dI (indexS s l))) []):GD Γ_q86 fn_q86 0 K [.one (.dat (Ty.list Ty.str) l),.one (.dat .str s)] []:=by
 refine ⟨l.length+2,?_⟩
 rw [goD_code,q86_vc _ _ _ _]
 exact loop_q86 l s hp K l.length 0 (by omega) hK
theorem sound_q86:SoundC Tryz.prog tab n_q86 c_q86:=soundC_f ok_q86 hg_q86 (by
 intro vs bs p v bs' h hp
 unfold c_q86 at h
 split at h
 ·cases h
  exact ⟨by kernel_rfl,rfl,.inl (run_q86 _ _ hp.1 _ ⟨rfl,rfl⟩)⟩
 ·cases h)

def c_q87:Contract:=fun vs bs=>match vs,bs with
 | [.one (.dat (.list .str) l),.one (.dat .str s)],[]=>some (some (l.length≤140737488355328),.one (dB (hasS s l)),[])
 | _,_=>none
def Γ_q87:Ctx:=[(n_q86,c_q86)]
theorem ok_q87:Ok Tryz.prog tab Γ_q87:=(ok_nil.c hg_q86 sound_q86)
theorem q87_vc (l:List (List UInt8)) (s:List UInt8) (rec:RK) (K:KK) v0 (hv0:v0=indexS s l):segD Γ_q87 tab fn_q87 0 K rec [.code (bodyOf fn_q87)] (initSt [.one (.dat (Ty.list Ty.str) l),.one (.dat Ty.str s)] [])=(
 List.length l≤140737488355328 ∧
 K (.one (dB (lei 0 v0))) []):=by subst_vars; kernel_rfl

theorem run_q87 (l:List (List UInt8)) (hp:l.length≤140737488355328) (K:KK) (hK:K (.one (dB (hasS s l))) []):GD Γ_q87 fn_q87 0 K [.one (.dat (Ty.list Ty.str) l),.one (.dat .str s)] []:=by
 refine ⟨1,?_⟩
 rw [goD_code,q87_vc _ _ _ _ _ rfl]
 rw [show lei 0 (indexS s l)=hasS s l from indexS_has s l]
 exact ⟨hp,hK⟩
theorem sound_q87:SoundC Tryz.prog tab n_q87 c_q87:=soundC_f ok_q87 hg_q87 (by
 intro vs bs p v bs' h hp
 unfold c_q87 at h
 split at h
 ·cases h
  exact ⟨by kernel_rfl,rfl,.inl (run_q87 _ _ hp.1 _ ⟨rfl,rfl⟩)⟩
 ·cases h)

def c_q88:Contract:=fun vs bs=>match vs,bs with
 | [.agg [.dat (.list .str) l]],[]=>some (none,.one (dI (checkBook l)),[])
 | _,_=>none
def Γ_q88:Ctx:=[(n_q87,c_q87)]
theorem ok_q88:Ok Tryz.prog tab Γ_q88:=(ok_nil.c hg_q87 sound_q87)
noncomputable def q88_L0:List It:=[.inLoop [12,11,10,2,1] (cSub fn_q88 [1,1,0,1,0,0]),.inBlock 0,.code (cSub fn_q88 [1,1,1])]
def q88_S0 (x0 x1:Int) (x2:List (List UInt8)) (x3:Int) (x4:List (List UInt8)):St:=⟨[(12,.one (dI x0)),(11,.one (dI x1)),(10,.one (.dat (Ty.list Ty.str) x2)),(2,.one (dI x3)),(1,.one (.ptr 0 0))],[(0,.box [.dat (Ty.list Ty.str) x4])],1⟩
theorem q88_vc (l:List (List UInt8)) (rec:RK) (K:KK):segD Γ_q88 tab fn_q88 0 K rec [.code (bodyOf fn_q88)] (initSt [.agg [.dat (Ty.list Ty.str) l]] [])=(
 br (lti 60 (len l:Int))
 (K (.one (dI 2)) [])
 (rec q88_L0 (q88_S0 0 (len l:Int) l 0 l))):=by kernel_rfl
theorem q88_vc0 (x0 x1:Int) (x2:List (List UInt8)) (x3:Int) (x4:List (List UInt8)) (rec:RK) (K:KK) v0 (hv0:v0=hasS (nth x2 (Int.toNat x0) (Ty.dflt Ty.str)) (slc x4 (Int.toNat 0) (Int.toNat x0))):segD Γ_q88 tab fn_q88 0 K rec (ent q88_L0) (q88_S0 x0 x1 x2 x3 x4)=(
 br (lti x0 x1)
 (((0:Int)≤x0∧x0<(len x2:Int)) ∧
 br (lti 2000 (len (nth x2 (Int.toNat x0) (Ty.dflt Ty.str)):Int))
 (K (.one (dI 2)) [])
 (((0:Int)≤(0:Int)∧(0:Int)≤x0∧x0≤(len x4:Int)) ∧
 List.length (slc x4 (Int.toNat 0) (Int.toNat x0))≤140737488355328 ∧
 br v0
 (K (.one (dI 6)) [])
 (rec q88_L0 (q88_S0 (w64 (x0+1)) x1 x2 x3 x4))))
 (K (.one (dI 0)) [])):=by subst_vars; kernel_rfl

theorem loop_q88 (l:List (List UInt8)) (hl:l.length≤60) (K:KK):∀ (d k:Nat),k+d=l.length→K (.one (dI (bookFrom (l.take k) (l.drop k)))) [] →
  goD Γ_q88 tab fn_q88 0 K (d+1) q88_L0 (q88_S0 (k:Int) (((len l):Nat):Int) l 0 l)
 | 0,k,hk,hK=>by
  rw [goD_in (L:=q88_L0),q88_vc0 _ _ _ _ _ _ _ _ rfl]
  rw [List.drop_of_length_le (by omega)] at hK
  exact lt_f (by simp only [len]; omega) hK
 | d+1,k,hk,hK=>by
  rw [goD_in (L:=q88_L0),q88_vc0 _ _ _ _ _ _ _ _ rfl,toNat_nat,show Int.toNat (0:Int)=0 from rfl,slc_take]
  rw [drop_step (by omega) (Ty.dflt Ty.str)] at hK
  simp only [bookFrom] at hK
  refine lt_t (by simp only [len]; omega) ⟨⟨by omega,by simp only [len]; omega⟩,lt_s (fun h=>?_) (fun h=>⟨⟨by omega,by omega,by simp only [len]; omega⟩,by rw [List.length_take]; omega,br_split (fun h2=>?_) (fun h2=>?_)⟩)⟩
  ·rw [if_pos (by simp only [len] at h; omega)] at hK; exact hK
  ·rw [if_neg (by simp only [len] at h; omega),if_pos h2] at hK; exact hK
  ·rw [if_neg (by simp only [len] at h; omega),if_neg (by rw [h2]; simp)] at hK
   rw [w64_succ (by omega)]
   rw [← take_step (by omega) (Ty.dflt Ty.str)] at hK
   exact loop_q88 l hl K d (k+1) (by omega) hK
theorem run_q88 (l:List (List UInt8)) (K:KK) (hK:K (.one (dI (checkBook l))) []):GD Γ_q88 fn_q88 0 K [.agg [.dat (Ty.list Ty.str) l]] []:=by
 refine ⟨l.length+2,?_⟩
 rw [goD_code,q88_vc _ _ _]
 unfold checkBook at hK
 refine lt_s (fun h=>?_) (fun h=>?_)
 ·rw [if_pos (by simp only [len] at h; omega)] at hK; exact hK
 ·rw [if_neg (by simp only [len] at h; omega)] at hK
  exact loop_q88 l (by simp only [len] at h; omega) K l.length 0 (by omega) hK
theorem sound_q88:SoundC Tryz.prog tab n_q88 c_q88:=soundC_f ok_q88 hg_q88 (by
 intro vs bs p v bs' h hp
 unfold c_q88 at h
 split at h
 ·cases h
  exact ⟨by kernel_rfl,rfl,.inl (run_q88 _ _ ⟨rfl,rfl⟩)⟩
 ·cases h)

def c_q89:Contract:=fun vs bs=>match vs,bs with
 | [.agg [.dat (.list .str) l],.one (.dat .str s)],[]=>some (some (l.length≤140737488355328),.tup [.one (dI (nameB l s).1),.one (dI (nameB l s).2)],[])
 | _,_=>none
def Γ_q89:Ctx:=[(n_q88,c_q88),(n_q86,c_q86)]
theorem ok_q89:Ok Tryz.prog tab Γ_q89:=((ok_nil.c hg_q86 sound_q86).c hg_q88 sound_q88)
theorem q89_vc (l:List (List UInt8)) (s:List UInt8) (rec:RK) (K:KK) v0 (hv0:v0=checkBook l) v1 (hv1:v1=indexS s l):segD Γ_q89 tab fn_q89 0 K rec [.code (bodyOf fn_q89)] (initSt [.agg [.dat (Ty.list Ty.str) l],.one (.dat Ty.str s)] [])=(
 br (!(eqi v0 0))
 (K (.tup [.one (dI 0),.one (dI v0)]) [])
 (List.length l≤140737488355328 ∧
 K (.tup [.one (dI (w64 (v1+1))),.one (dI 0)]) [])):=by subst_vars; kernel_rfl

theorem run_q89 (l:List (List UInt8)) (hp:l.length≤140737488355328) (K:KK) (hK:K (.tup [.one (dI (nameB l s).1),.one (dI (nameB l s).2)]) []):GD Γ_q89 fn_q89 0 K [.agg [.dat (Ty.list Ty.str) l],.one (.dat .str s)] []:=by
 refine ⟨1,?_⟩
 rw [goD_code,q89_vc _ _ _ _ _ rfl _ rfl]
 unfold nameB at hK
 refine ne_s (fun h=>?_) (fun h=>⟨hp,?_⟩)
 ·rw [if_neg h] at hK; exact hK
 ·rw [if_pos h] at hK
  have:=indexFrom_range s l 0 (by omega)
  rw [w64_id (by unfold indexS; omega) (by unfold indexS; omega)]
  exact hK
theorem sound_q89:SoundC Tryz.prog tab n_q89 c_q89:=soundC_f ok_q89 hg_q89 (by
 intro vs bs p v bs' h hp
 unfold c_q89 at h
 split at h
 ·cases h
  exact ⟨by kernel_rfl,rfl,.inl (run_q89 _ _ hp.1 _ ⟨rfl,rfl⟩)⟩
 ·cases h)

def c_q114:Contract:=fun vs bs=>match vs,bs with
 | [.one (.dat (.list .signed) l)],[]=>some (none,.one (dI (checkSigned l)),[])
 | _,_=>none
def Γ_q114:Ctx:=[]
theorem ok_q114:Ok Tryz.prog tab Γ_q114:=ok_nil
noncomputable def q114_L0:List It:=[.inLoop [10,9,8,2] (cSub fn_q114 [1,1,0,1,0,0]),.inBlock 0,.code (cSub fn_q114 [1,1,1])]
def q114_S0 (x0 x1:Int) (x2:List Vm.Signed) (x3:Int):St:=⟨[(10,.one (dI x0)),(9,.one (dI x1)),(8,.one (.dat (Ty.list Ty.signed) x2)),(2,.one (dI x3))],[],0⟩
theorem q114_vc (l:List Signed) (rec:RK) (K:KK):segD Γ_q114 tab fn_q114 0 K rec [.code (bodyOf fn_q114)] (initSt [.one (.dat (Ty.list Ty.signed) l)] [])=(
 br (lti 360 (len l:Int))
 (K (.one (dI 2)) [])
 (rec q114_L0 (q114_S0 0 (len l:Int) l 0))):=by kernel_rfl
theorem q114_vc0 (x0 x1:Int) (x2:List Vm.Signed) (x3:Int) (rec:RK) (K:KK):segD Γ_q114 tab fn_q114 0 K rec (ent q114_L0) (q114_S0 x0 x1 x2 x3)=(
 br (lti x0 x1)
 (((0:Int)≤x0∧x0<(len x2:Int)) ∧
 br (lti (nth x2 (Int.toNat x0) (Ty.dflt Ty.signed)).key 1)
 (K (.one (dI 3)) [])
 (br (lti 50 (nth x2 (Int.toNat x0) (Ty.dflt Ty.signed)).key)
 (K (.one (dI 3)) [])
 (br (lti (nth x2 (Int.toNat x0) (Ty.dflt Ty.signed)).name 1)
 (K (.one (dI 3)) [])
 (br (lti 60 (nth x2 (Int.toNat x0) (Ty.dflt Ty.signed)).name)
 (K (.one (dI 3)) [])
 (rec q114_L0 (q114_S0 (w64 (x0+1)) x1 x2 x3))))))
 (K (.one (dI 0)) [])):=by kernel_rfl

theorem loop_q114 (l:List Vm.Signed) (hl:l.length≤360) (K:KK) (x3:Int):∀ (d k:Nat),k+d=l.length→K (.one (dI (if (l.drop k).all okSigned then 0 else 3))) [] →
  goD Γ_q114 tab fn_q114 0 K (d+1) q114_L0 (q114_S0 (k:Int) (((len l):Nat):Int) l x3)
 | 0,k,hk,hK=>by
  rw [goD_in (L:=q114_L0),q114_vc0 _ _ _ _ _ _]
  rw [List.drop_of_length_le (by omega)] at hK
  exact lt_f (by simp only [len]; omega) hK
 | d+1,k,hk,hK=>by
  rw [goD_in (L:=q114_L0),q114_vc0 _ _ _ _ _ _,toNat_nat]
  rw [drop_step (by omega) (Ty.dflt Ty.signed)] at hK
  obtain ⟨x,hx⟩:∃ x,nth l k (Ty.dflt Ty.signed)=x:=⟨_,rfl⟩
  rw [hx] at hK ⊢
  rw [List.all_cons] at hK
  have bad:¬ (1≤x.key∧x.key≤50∧1≤x.name∧x.name≤60)→K (.one (dI 3)) []:=fun h=>by
   rw [show okSigned x=false from by
    cases hc:okSigned x
    ·rfl
    ·simp only [okSigned,Bool.and_eq_true,decide_eq_true_eq] at hc; exact absurd hc (by omega)] at hK
   exact hK
  rw [w64_succ (by omega)]
  refine lt_t (by simp only [len]; omega) ⟨⟨by omega,by simp only [len]; omega⟩,lt_s (fun h=>bad (by omega)) (fun h=>lt_s (fun h2=>bad (by omega)) (fun h2=>lt_s (fun h3=>bad (by omega)) (fun h3=>lt_s (fun h4=>bad (by omega)) (fun h4=>?_))))⟩
  rw [show okSigned x=true from by simp only [okSigned,Bool.and_eq_true,decide_eq_true_eq]; omega,Bool.true_and] at hK
  exact loop_q114 l hl K x3 d (k+1) (by omega) hK
theorem run_q114 (K:KK) (hK:K (.one (dI (checkSigned l))) []):GD Γ_q114 fn_q114 0 K [.one (.dat (Ty.list Ty.signed) l)] []:=by
 refine ⟨l.length+2,?_⟩
 rw [goD_code,q114_vc _ _ _]
 unfold checkSigned at hK
 refine lt_s (fun h=>?_) (fun h=>?_)
 ·rw [if_pos (by simp only [len] at h; omega)] at hK; exact hK
 ·rw [if_neg (by simp only [len] at h; omega)] at hK
  exact loop_q114 l (by simp only [len] at h; omega) K 0 l.length 0 (by omega) hK
theorem sound_q114:SoundC Tryz.prog tab n_q114 c_q114:=soundC_f ok_q114 hg_q114 (by
 intro vs bs p v bs' h hp
 unfold c_q114 at h
 split at h
 ·cases h
  exact ⟨by kernel_rfl,rfl,.inl (run_q114 _ _ ⟨rfl,rfl⟩)⟩
 ·cases h)

def c_q110:Contract:=fun vs bs=>match vs,bs with
 | [.one (.dat (.list .int) l),.one (.dat .int k)],[]=>some (some (l.length≤140737488355328),.one (dI (indexI k 0 l)),[])
 | _,_=>none
def Γ_q110:Ctx:=[]
theorem ok_q110:Ok Tryz.prog tab Γ_q110:=ok_nil
noncomputable def q110_L0:List It:=[.inLoop [8,7,4,0,1] (cSub fn_q110 [1,0,1,0,0]),.inBlock 0,.code (cSub fn_q110 [1,1])]
def q110_S0 (x0 x1 x2:Int) (x3:List Int) (x4:Int):St:=⟨[(8,.one (dI x0)),(7,.one (dI x1)),(4,.one (dI x2)),(0,.one (dL x3)),(1,.one (dI x4))],[],0⟩
theorem q110_vc (l:List Int) (k:Int) (rec:RK) (K:KK):segD Γ_q110 tab fn_q110 0 K rec [.code (bodyOf fn_q110)] (initSt [.one (dL l),.one (dI k)] [])=(
 rec q110_L0 (q110_S0 0 (len l:Int) 0 l k)):=by kernel_rfl
theorem q110_vc0 (x0 x1 x2:Int) (x3:List Int) (x4:Int) (rec:RK) (K:KK):segD Γ_q110 tab fn_q110 0 K rec (ent q110_L0) (q110_S0 x0 x1 x2 x3 x4)=(
 br (lti x0 x1)
 (((0:Int)≤x0∧x0<(len x3:Int)) ∧
 br (eqi x4 (nth x3 (Int.toNat x0) (Ty.dflt Ty.int)))
 (K (.one (dI x0)) [])
 (rec q110_L0 (q110_S0 (w64 (x0+1)) x1 x2 x3 x4)))
 (K (.one (dI (-1))) [])):=by kernel_rfl

theorem loop_q110 (l:List Int) (s:Int) (hl:l.length≤140737488355328) (K:KK):∀ (d k:Nat),k+d=l.length→K (.one (dI (indexI s k (l.drop k)))) [] →
  goD Γ_q110 tab fn_q110 0 K (d+1) q110_L0 (q110_S0 (k:Int) (((len l):Nat):Int) 0 l s)
 | 0,k,hk,hK=>by
  rw [goD_in (L:=q110_L0),q110_vc0 _ _ _ _ _ _ _]
  rw [List.drop_of_length_le (by omega)] at hK
  exact lt_f (by simp only [len]; omega) hK
 | d+1,k,hk,hK=>by
  rw [goD_in (L:=q110_L0),q110_vc0 _ _ _ _ _ _ _,toNat_nat]
  rw [drop_step (by omega) (Ty.dflt Ty.int)] at hK
  simp only [indexI] at hK
  refine lt_t (by simp only [len]; omega) ⟨⟨by omega,by simp only [len]; omega⟩,eq_s (fun h=>?_) (fun h=>?_)⟩
  ·rw [if_pos h.symm] at hK; exact hK
  ·rw [if_neg (fun e=>h e.symm)] at hK
   rw [w64_succ (by omega)]
   exact loop_q110 l s hl K d (k+1) (by omega) hK
theorem run_q110 (l:List Int) (hp:l.length≤140737488355328) (K:KK) (hK:K (.one (dI (indexI k 0 l))) []):GD Γ_q110 fn_q110 0 K [.one (dL l),.one (dI k)] []:=by
 refine ⟨l.length+2,?_⟩
 rw [goD_code,q110_vc _ _ _ _]
 exact loop_q110 l k hp K l.length 0 (by omega) hK
theorem sound_q110:SoundC Tryz.prog tab n_q110 c_q110:=soundC_f ok_q110 hg_q110 (by
 intro vs bs p v bs' h hp
 unfold c_q110 at h
 split at h
 ·cases h
  exact ⟨by kernel_rfl,rfl,.inl (run_q110 _ _ hp.1 _ ⟨rfl,rfl⟩)⟩
 ·cases h)

def c_q111:Contract:=fun vs bs=>match vs,bs with
 | [.one (.dat (.list .int) l),.one (.dat .int k)],[]=>some (some (l.length≤140737488355328),.one (dB (hasI k l)),[])
 | _,_=>none
def Γ_q111:Ctx:=[(n_q110,c_q110)]
theorem ok_q111:Ok Tryz.prog tab Γ_q111:=(ok_nil.c hg_q110 sound_q110)
theorem q111_vc (l:List Int) (k:Int) (rec:RK) (K:KK) v0 (hv0:v0=indexI k 0 l):segD Γ_q111 tab fn_q111 0 K rec [.code (bodyOf fn_q111)] (initSt [.one (dL l),.one (dI k)] [])=(
 List.length l≤140737488355328 ∧
 K (.one (dB (lei 0 v0))) []):=by subst_vars; kernel_rfl

theorem run_q111 (l:List Int) (hp:l.length≤140737488355328) (K:KK) (hK:K (.one (dB (hasI k l))) []):GD Γ_q111 fn_q111 0 K [.one (dL l),.one (dI k)] []:=by
 refine ⟨1,?_⟩
 rw [goD_code,q111_vc _ _ _ _ _ rfl]
 rw [← indexI_has k l 0 (by omega)] at hK
 exact ⟨hp,hK⟩
theorem sound_q111:SoundC Tryz.prog tab n_q111 c_q111:=soundC_f ok_q111 hg_q111 (by
 intro vs bs p v bs' h hp
 unfold c_q111 at h
 split at h
 ·cases h
  exact ⟨by kernel_rfl,rfl,.inl (run_q111 _ _ hp.1 _ ⟨rfl,rfl⟩)⟩
 ·cases h)

def c_q112:Contract:=fun vs bs=>match vs,bs with
 | [.one (.dat (.list .signed) l),.agg [.dat .int k,.dat .int n]],[]=>some (some (l.length≤140737488355328),.one (dI (indexG k n 0 l)),[])
 | _,_=>none
def Γ_q112:Ctx:=[]
theorem ok_q112:Ok Tryz.prog tab Γ_q112:=ok_nil
noncomputable def q112_L0:List It:=[.inLoop [8,7,4,3,0] (cSub fn_q112 [1,0,1,0,0]),.inBlock 0,.code (cSub fn_q112 [1,1])]
def q112_S0 (x0 x1 x2:Int) (x3:List Vm.Signed) (x4 x5:Int):St:=⟨[(8,.one (dI x0)),(7,.one (dI x1)),(4,.one (dI x2)),(3,.one (.ptr 0 0)),(0,.one (.dat (Ty.list Ty.signed) x3))],[(0,.box [dI x4,dI x5])],1⟩
theorem q112_vc (l:List Signed) (k n:Int) (rec:RK) (K:KK):segD Γ_q112 tab fn_q112 0 K rec [.code (bodyOf fn_q112)] (initSt [.one (.dat (Ty.list Ty.signed) l),.agg [dI k,dI n]] [])=(
 rec q112_L0 (q112_S0 0 (len l:Int) 0 l k n)):=by kernel_rfl
theorem q112_vc0 (x0 x1 x2:Int) (x3:List Vm.Signed) (x4 x5:Int) (rec:RK) (K:KK):segD Γ_q112 tab fn_q112 0 K rec (ent q112_L0) (q112_S0 x0 x1 x2 x3 x4 x5)=(
 br (lti x0 x1)
 (((0:Int)≤x0∧x0<(len x3:Int)) ∧
 br ((eqi x4 (nth x3 (Int.toNat x0) (Ty.dflt Ty.signed)).key) && ((eqi x5 (nth x3 (Int.toNat x0) (Ty.dflt Ty.signed)).name) && true))
 (K (.one (dI x0)) [])
 (rec q112_L0 (q112_S0 (w64 (x0+1)) x1 x2 x3 x4 x5)))
 (K (.one (dI (-1))) [])):=by kernel_rfl

theorem loop_q112 (l:List Vm.Signed) (s n:Int) (hl:l.length≤140737488355328) (K:KK):∀ (d k:Nat),k+d=l.length→K (.one (dI (indexG s n k (l.drop k)))) [] →
  goD Γ_q112 tab fn_q112 0 K (d+1) q112_L0 (q112_S0 (k:Int) (((len l):Nat):Int) 0 l s n)
 | 0,k,hk,hK=>by
  rw [goD_in (L:=q112_L0),q112_vc0 _ _ _ _ _ _ _ _]
  rw [List.drop_of_length_le (by omega)] at hK
  exact lt_f (by simp only [len]; omega) hK
 | d+1,k,hk,hK=>by
  rw [goD_in (L:=q112_L0),q112_vc0 _ _ _ _ _ _ _ _,toNat_nat]
  rw [drop_step (by omega) (Ty.dflt Ty.signed)] at hK
  simp only [indexG] at hK
  refine lt_t (by simp only [len]; omega) ⟨⟨by omega,by simp only [len]; omega⟩,br_split (fun h=>?_) (fun h=>?_)⟩
  ·rw [if_pos (show isSig s n _=true from h)] at hK; exact hK
  ·rw [if_neg (show ¬ isSig s n _=true from by rw [show isSig s n (nth l k (Ty.dflt Ty.signed))=false from h]; simp)] at hK
   rw [w64_succ (by omega)]
   exact loop_q112 l s n hl K d (k+1) (by omega) hK
theorem run_q112 (hp:l.length≤140737488355328) (K:KK) (hK:K (.one (dI (indexG k n 0 l))) []):GD Γ_q112 fn_q112 0 K [.one (.dat (Ty.list Ty.signed) l),.agg [dI k,dI n]] []:=by
 refine ⟨l.length+2,?_⟩
 rw [goD_code,q112_vc _ _ _ _ _]
 exact loop_q112 l k n hp K l.length 0 (by omega) hK
theorem sound_q112:SoundC Tryz.prog tab n_q112 c_q112:=soundC_f ok_q112 hg_q112 (by
 intro vs bs p v bs' h hp
 unfold c_q112 at h
 split at h
 ·cases h
  exact ⟨by kernel_rfl,rfl,.inl (run_q112 _ _ _ hp.1 _ ⟨rfl,rfl⟩)⟩
 ·cases h)

def c_q113:Contract:=fun vs bs=>match vs,bs with
 | [.one (.dat (.list .signed) l),.agg [.dat .int k,.dat .int n]],[]=>some (some (l.length≤140737488355328),.one (dB (hasSig k n l)),[])
 | _,_=>none
def Γ_q113:Ctx:=[(n_q112,c_q112)]
theorem ok_q113:Ok Tryz.prog tab Γ_q113:=(ok_nil.c hg_q112 sound_q112)
theorem q113_vc (l:List Signed) (k n:Int) (rec:RK) (K:KK) v0 (hv0:v0=indexG k n 0 l):segD Γ_q113 tab fn_q113 0 K rec [.code (bodyOf fn_q113)] (initSt [.one (.dat (Ty.list Ty.signed) l),.agg [dI k,dI n]] [])=(
 List.length l≤140737488355328 ∧
 K (.one (dB (lei 0 v0))) []):=by subst_vars; kernel_rfl

theorem run_q113 (hp:l.length≤140737488355328) (K:KK) (hK:K (.one (dB (hasSig k n l))) []):GD Γ_q113 fn_q113 0 K [.one (.dat (Ty.list Ty.signed) l),.agg [dI k,dI n]] []:=by
 refine ⟨1,?_⟩
 rw [goD_code,q113_vc _ _ _ _ _ _ rfl]
 rw [← indexG_has k n l 0 (by omega)] at hK
 exact ⟨hp,hK⟩
theorem sound_q113:SoundC Tryz.prog tab n_q113 c_q113:=soundC_f ok_q113 hg_q113 (by
 intro vs bs p v bs' h hp
 unfold c_q113 at h
 split at h
 ·cases h
  exact ⟨by kernel_rfl,rfl,.inl (run_q113 _ _ _ hp.1 _ ⟨rfl,rfl⟩)⟩
 ·cases h)

def c_q115:Contract:=fun vs bs=>match vs,bs with
 | [.one (.dat (.list .signed) l),.agg [.dat .int v,.dat (.list .int) ks,.dat .int t],.one (.dat (.list .int) sg),.one (.dat .int n)],[]=>some (none,.tup [.one (dI (countT l ⟨v,ks,t⟩ sg n).1),.one (dI (countT l ⟨v,ks,t⟩ sg n).2)],[])
 | _,_=>none
def Γ_q115:Ctx:=[(n_q114,c_q114),(n_q91,c_q91),(n_q111,c_q111),(n_q113,c_q113)]
theorem ok_q115:Ok Tryz.prog tab Γ_q115:=((((ok_nil.c hg_q113 sound_q113).c hg_q111 sound_q111).c hg_q91 sound_q91).c hg_q114 sound_q114)
noncomputable def q115_L0:List It:=[.inLoop [31,30,29,12,9,8,0,2,3] (cSub fn_q115 [1,1,1,1,1,0,1,0,0]),.inBlock 0,.code (cSub fn_q115 [1,1,1,1,1,1])]
def q115_S0 (x0 x1:Int) (x2:List Int) (x3 x4 x5:Int) (x6:List Vm.Signed) (x7:List Int) (x8:Int):St:=⟨[(31,.one (dI x0)),(30,.one (dI x1)),(29,.one (dL x2)),(12,.one (dI x3)),(9,.one (dI x4)),(8,.one (dI x5)),(0,.one (.dat (Ty.list Ty.signed) x6)),(2,.one (dL x7)),(3,.one (dI x8))],[],0⟩
theorem q115_vc (l:List Signed) (v:Int) (ks:List Int) (t:Int) (sg:List Int) (n:Int) (rec:RK) (K:KK) v0 (hv0:v0=checkSigned l) v1 (hv1:v1=checkRoot v ks t):segD Γ_q115 tab fn_q115 0 K rec [.code (bodyOf fn_q115)] (initSt [.one (.dat (Ty.list Ty.signed) l),.agg [dI v,dL ks,dI t],.one (dL sg),.one (dI n)] [])=(
 br (!(eqi v0 0))
 (K (.tup [.one (dI 0),.one (dI v0)]) [])
 (br (!(eqi v1 0))
 (K (.tup [.one (dI 0),.one (dI v1)]) [])
 (br (lti 50 (len sg:Int))
 (K (.tup [.one (dI 0),.one (dI 2)]) [])
 (rec q115_L0 (q115_S0 0 (len ks:Int) ks 0 0 0 l sg n))))):=by subst_vars; kernel_rfl
theorem q115_vc0 (x0 x1:Int) (x2:List Int) (x3 x4 x5:Int) (x6:List Vm.Signed) (x7:List Int) (x8:Int) (rec:RK) (K:KK) v0 (hv0:v0=hasI (nth x2 (Int.toNat x0) (Ty.dflt Ty.int)) x7) v1 (hv1:v1=hasSig (nth x2 (Int.toNat x0) (Ty.dflt Ty.int)) x8 x6) v2 (hv2:v2=rec q115_L0 (q115_S0 (w64 (x0+1)) x1 x2 x3 x4 x5 x6 x7 x8)):segD Γ_q115 tab fn_q115 0 K rec (ent q115_L0) (q115_S0 x0 x1 x2 x3 x4 x5 x6 x7 x8)=(
 br (lti x0 x1)
 (((0:Int)≤x0∧x0<(len x2:Int)) ∧
 List.length x7≤140737488355328 ∧
 br v0
 (List.length x6≤140737488355328 ∧
 br v1
 (rec q115_L0 (q115_S0 (w64 (x0+1)) x1 x2 (w64 (x3+1)) x4 x5 x6 x7 x8))
 v2)
 v2)
 (K (.tup [.one (dI x3),.one (dI 0)]) [])):=by subst_vars; kernel_rfl

theorem loop_q115 (l:List Vm.Signed) (ks sg:List Int) (n:Int) (hk6:ks.length≤6) (hl:l.length≤360) (hs:sg.length≤50) (K:KK) (x4 x5:Int):∀ (d k c:Nat),k+d=ks.length→c≤k→K (.tup [.one (dI ((c+countN l sg n (ks.drop k):Nat):Int)),.one (dI 0)]) [] →
  goD Γ_q115 tab fn_q115 0 K (d+1) q115_L0 (q115_S0 (k:Int) (((len ks):Nat):Int) ks (c:Int) x4 x5 l sg n)
 | 0,k,c,hk,hc,hK=>by
  rw [goD_in (L:=q115_L0),q115_vc0 _ _ _ _ _ _ _ _ _ _ _ _ rfl _ rfl _ rfl]
  rw [List.drop_of_length_le (by omega)] at hK
  exact lt_f (by simp only [len]; omega) hK
 | d+1,k,c,hk,hc,hK=>by
  rw [goD_in (L:=q115_L0),q115_vc0 _ _ _ _ _ _ _ _ _ _ _ _ rfl _ rfl _ rfl,toNat_nat]
  rw [drop_step (by omega) (Ty.dflt Ty.int),countN_cons] at hK
  obtain ⟨x,hx⟩:∃ x,nth ks k (Ty.dflt Ty.int)=x:=⟨_,rfl⟩
  rw [hx] at hK ⊢
  rw [w64_succ (k:=k) (by omega),w64_succ (k:=c) (by omega)]
  have no:signs l sg n x=false→K (.tup [.one (dI ((c+countN l sg n (ks.drop (k+1)):Nat):Int)),.one (dI 0)]) []:=fun h=>by
   rw [if_neg (by rw [h]; simp),Nat.zero_add] at hK; exact hK
  refine lt_t (by simp only [len]; omega) ⟨⟨by omega,by simp only [len]; omega⟩,by omega,br_split (fun h=>⟨by omega,br_split (fun h2=>?_) (fun h2=>?_)⟩) (fun h=>?_)⟩
  ·rw [if_pos (show signs l sg n x=true from by simp [signs,h,h2])] at hK
   exact loop_q115 l ks sg n hk6 hl hs K x4 x5 d (k+1) (c+1) (by omega) (by omega) (by rw [show c+1+countN l sg n (ks.drop (k+1))=c+(1+countN l sg n (ks.drop (k+1))) by omega]; exact hK)
  ·exact loop_q115 l ks sg n hk6 hl hs K x4 x5 d (k+1) c (by omega) (by omega) (no (by simp [signs,h2]))
  ·exact loop_q115 l ks sg n hk6 hl hs K x4 x5 d (k+1) c (by omega) (by omega) (no (by simp [signs,h]))
theorem run_q115 (K:KK) (hK:K (.tup [.one (dI (countT l ⟨v,ks,t⟩ sg n).1),.one (dI (countT l ⟨v,ks,t⟩ sg n).2)]) []):GD Γ_q115 fn_q115 0 K [.one (.dat (Ty.list Ty.signed) l),.agg [dI v,dL ks,dI t],.one (dL sg),.one (dI n)] []:=by
 refine ⟨ks.length+2,?_⟩
 rw [goD_code,q115_vc _ _ _ _ _ _ _ _ _ rfl _ rfl]
 unfold countT at hK
 simp only at hK
 refine ne_s (fun h=>?_) (fun h=>ne_s (fun h2=>?_) (fun h2=>lt_s (fun h3=>?_) (fun h3=>?_)))
 ·rw [if_neg h] at hK; exact hK
 ·rw [if_pos h,if_neg h2] at hK; exact hK
 ·rw [if_pos h,if_pos h2,if_pos (by simp only [len] at h3; omega)] at hK; exact hK
 ·rw [if_pos h,if_pos h2,if_neg (by simp only [len] at h3; omega)] at hK
  have hl:l.length≤360:=by
   unfold checkSigned at h
   by_cases c:360<l.length
   ·rw [if_pos c] at h; cases h
   ·omega
  exact loop_q115 l ks sg n (checkRoot_ok h2).2.2.2.2.1 hl (by simp only [len] at h3; omega) K 0 0 ks.length 0 0 (by omega) (by omega) (by rw [Nat.zero_add]; exact hK)
theorem sound_q115:SoundC Tryz.prog tab n_q115 c_q115:=soundC_f ok_q115 hg_q115 (by
 intro vs bs p v bs' h hp
 unfold c_q115 at h
 split at h
 ·cases h
  exact ⟨by kernel_rfl,rfl,.inl (run_q115 _ _ _ _ _ _ _ ⟨rfl,rfl⟩)⟩
 ·cases h)

def c_q117:Contract:=fun vs bs=>match vs,bs with
 | [.agg [.dat (.list .str) b],.one (.dat (.list .signed) l),.agg [.dat .int v,.dat (.list .int) ks,.dat .int t,.dat .int n],.agg [.dat .int nv,.dat (.list .int) nk,.dat .int nt],.one (.dat (.list .int) sg)],[]=>some (some (b.length≤140737488355328),.tup [.agg [dI (turnT b l ⟨⟨v,ks,t⟩,n⟩ ⟨nv,nk,nt⟩ sg).1.r.version,dL (turnT b l ⟨⟨v,ks,t⟩,n⟩ ⟨nv,nk,nt⟩ sg).1.r.keys,dI (turnT b l ⟨⟨v,ks,t⟩,n⟩ ⟨nv,nk,nt⟩ sg).1.r.thr,dI (turnT b l ⟨⟨v,ks,t⟩,n⟩ ⟨nv,nk,nt⟩ sg).1.version],.one (dI (turnT b l ⟨⟨v,ks,t⟩,n⟩ ⟨nv,nk,nt⟩ sg).2)],[])
 | _,_=>none
def Γ_q117:Ctx:=[(n_q116,c_q116),(n_q94,c_q94),(n_q89,c_q89),(n_q115,c_q115),(n_q2,c_q2)]
theorem ok_q117:Ok Tryz.prog tab Γ_q117:=(((((ok_nil.c hg_q2 sound_q2).c hg_q115 sound_q115).c hg_q89 sound_q89).c hg_q94 sound_q94).c hg_q116 sound_q116)
noncomputable def q117_L0:List It:=[.inLoop [57,56,15,11,10,8,7,1,4] (cSub fn_q117 [1,1,1,1,1,1,1,0,1,0,0]),.inBlock 0,.code (cSub fn_q117 [1,1,1,1,1,1,1,1])]
def q117_S0 (x0 x1:Int) (x2:List Int) (x3 x4:Int) (x5:List Int) (x6 x7 x8:Int) (x9:List Vm.Signed) (x10:List Int) (x11 x12 x13 x14:Int) (x15:List Int) (x16 x17:Int) (x18:List Int) (x19 x20:Int) (x21:List Int):St:=⟨[(57,.one (dI x0)),(56,.agg [dI x1,dL x2,dI x3,dI x4,dL x5,dI x6]),(15,.one (dI x7)),(11,.one (dI x8)),(10,.one (.ptr 0 0)),(8,.one (.ptr 1 0)),(7,.one (.ptr 2 0)),(1,.one (.dat (Ty.list Ty.signed) x9)),(4,.one (dL x10))],[(0,.box [dI x11,.own 3,dI x12,dI x13]),(1,.box [dI x14,dL x15,dI x16]),(2,.box [dI x17,dL x18,dI x19,dI x20]),(3,.arr Ty.int x21)],4⟩
theorem q117_vc (b:List (List UInt8)) (l:List Signed) (v:Int) (ks:List Int) (t n nv:Int) (nk:List Int) (nt:Int) (sg:List Int) (rec:RK) (K:KK) v0 (hv0:v0=checkTrust ⟨⟨v,ks,t⟩,n⟩) v1 (hv1:v1=rootTextE nv nk nt) v2 (hv2:v2=nameB b v1.fst):segD Γ_q117 tab fn_q117 0 K rec [.code (bodyOf fn_q117)] (initSt [.agg [.dat (Ty.list Ty.str) b],.one (.dat (Ty.list Ty.signed) l),.agg [dI v,dL ks,dI t,dI n],.agg [dI nv,dL nk,dI nt],.one (dL sg)] [])=(
 br (!(eqi v0 0))
 (K (.tup [.agg [dI (0:Int),dL [],dI (0:Int),dI (0:Int)],.one (dI v0)]) [])
 (br (!(eqi v1.snd 0))
 (K (.tup [.agg [dI (0:Int),dL [],dI (0:Int),dI (0:Int)],.one (dI v1.snd)]) [])
 (List.length b≤140737488355328 ∧
 br (!(eqi v2.snd 0))
 (K (.tup [.agg [dI (0:Int),dL [],dI (0:Int),dI (0:Int)],.one (dI v2.snd)]) [])
 (br (!(eqi nv (w64 (v+1))))
 (K (.tup [.agg [dI (0:Int),dL [],dI (0:Int),dI (0:Int)],.one (dI 10)]) [])
 (rec q117_L0 (q117_S0 0 v ks t nv nk nt v2.fst 0 l sg 0 0 0 nv nk nt v ks t n [])))))):=by subst_vars; kernel_rfl
theorem q117_vc0_0 (x1:Int) (x2:List Int) (x3 x4:Int) (x5:List Int) (x6 x7 x8:Int) (x9:List Vm.Signed) (x10:List Int) (x11 x12 x13 x14:Int) (x15:List Int) (x16 x17:Int) (x18:List Int) (x19 x20:Int) (x21:List Int) (rec:RK) (K:KK) v0 (hv0:v0=countT x9 ⟨x1,x2,x3⟩ x10 x7):segD Γ_q117 tab fn_q117 0 K rec (ent q117_L0) (q117_S0 0 x1 x2 x3 x4 x5 x6 x7 x8 x9 x10 x11 x12 x13 x14 x15 x16 x17 x18 x19 x20 x21)=(
 ((0:Int)≤(0:Int)∧(0:Int)<((2:Nat):Int)) ∧
 br (!(eqi v0.snd 0))
 (K (.tup [.agg [dI (0:Int),dL [],dI (0:Int),dI (0:Int)],.one (dI v0.snd)]) [])
 (br (lti v0.fst x3)
 (K (.tup [.agg [dI (0:Int),dL [],dI (0:Int),dI (0:Int)],.one (dI 9)]) [])
 (rec q117_L0 (q117_S0 (w64 ((0:Int)+(1:Int))) x1 x2 x3 x4 x5 x6 x7 x8 x9 x10 x11 x12 x13 x14 x15 x16 x17 x18 x19 x20 x21)))):=by subst_vars; kernel_rfl
theorem q117_vc0_1 (x1:Int) (x2:List Int) (x3 x4:Int) (x5:List Int) (x6 x7 x8:Int) (x9:List Vm.Signed) (x10:List Int) (x11 x12 x13 x14:Int) (x15:List Int) (x16 x17:Int) (x18:List Int) (x19 x20:Int) (x21:List Int) (rec:RK) (K:KK) v0 (hv0:v0=countT x9 ⟨x4,x5,x6⟩ x10 x7):segD Γ_q117 tab fn_q117 0 K rec (ent q117_L0) (q117_S0 1 x1 x2 x3 x4 x5 x6 x7 x8 x9 x10 x11 x12 x13 x14 x15 x16 x17 x18 x19 x20 x21)=(
 ((0:Int)≤(1:Int)∧(1:Int)<((2:Nat):Int)) ∧
 br (!(eqi v0.snd 0))
 (K (.tup [.agg [dI (0:Int),dL [],dI (0:Int),dI (0:Int)],.one (dI v0.snd)]) [])
 (br (lti v0.fst x6)
 (K (.tup [.agg [dI (0:Int),dL [],dI (0:Int),dI (0:Int)],.one (dI 9)]) [])
 (rec q117_L0 (q117_S0 (w64 ((1:Int)+(1:Int))) x1 x2 x3 x4 x5 x6 x7 x8 x9 x10 x11 x12 x13 x14 x15 x16 x17 x18 x19 x20 x21)))):=by subst_vars; kernel_rfl
theorem q117_vc0_2 (x1:Int) (x2:List Int) (x3 x4:Int) (x5:List Int) (x6 x7 x8:Int) (x9:List Vm.Signed) (x10:List Int) (x11 x12 x13 x14:Int) (x15:List Int) (x16 x17:Int) (x18:List Int) (x19 x20:Int) (x21:List Int) (rec:RK) (K:KK):segD Γ_q117 tab fn_q117 0 K rec (ent q117_L0) (q117_S0 2 x1 x2 x3 x4 x5 x6 x7 x8 x9 x10 x11 x12 x13 x14 x15 x16 x17 x18 x19 x20 x21)=(
 len x15*8≤140737488355328 ∧
 K (.tup [.agg [dI x14,dL x15,dI x16,dI x20],.one (dI 0)]) []):=by kernel_rfl
theorem q117_vc0_3 (x1:Int) (x2:List Int) (x3 x4:Int) (x5:List Int) (x6 x7 x8:Int) (x9:List Vm.Signed) (x10:List Int) (x11 x12 x13 x14:Int) (x15:List Int) (x16 x17:Int) (x18:List Int) (x19 x20:Int) (x21:List Int) (rec:RK) (K:KK):segD Γ_q117 tab fn_q117 0 K rec (ent q117_L0) (q117_S0 3 x1 x2 x3 x4 x5 x6 x7 x8 x9 x10 x11 x12 x13 x14 x15 x16 x17 x18 x19 x20 x21)=(
 len x15*8≤140737488355328 ∧
 K (.tup [.agg [dI x14,dL x15,dI x16,dI x20],.one (dI 0)]) []):=by kernel_rfl

theorem run_q117 (hp:b.length≤140737488355328) (K:KK) (hK:K (.tup [.agg [dI (turnT b l ⟨⟨v,ks,t⟩,n⟩ ⟨nv,nk,nt⟩ sg).1.r.version,dL (turnT b l ⟨⟨v,ks,t⟩,n⟩ ⟨nv,nk,nt⟩ sg).1.r.keys,dI (turnT b l ⟨⟨v,ks,t⟩,n⟩ ⟨nv,nk,nt⟩ sg).1.r.thr,dI (turnT b l ⟨⟨v,ks,t⟩,n⟩ ⟨nv,nk,nt⟩ sg).1.version],.one (dI (turnT b l ⟨⟨v,ks,t⟩,n⟩ ⟨nv,nk,nt⟩ sg).2)]) []):GD Γ_q117 fn_q117 0 K [.agg [.dat (Ty.list Ty.str) b],.one (.dat (Ty.list Ty.signed) l),.agg [dI v,dL ks,dI t,dI n],.agg [dI nv,dL nk,dI nt],.one (dL sg)] []:=by
 refine ⟨5,?_⟩
 rw [goD_code,q117_vc _ _ _ _ _ _ _ _ _ _ _ _ _ rfl _ rfl _ rfl]
 have bad:∀ e:Int,e≠0→turnE b l ⟨⟨v,ks,t⟩,n⟩ ⟨nv,nk,nt⟩ sg=e→K (.tup [.agg [dI 0,dL [],dI 0,dI 0],.one (dI e)]) []:=fun e he h=>by
  rw [show turnT b l ⟨⟨v,ks,t⟩,n⟩ ⟨nv,nk,nt⟩ sg=(noTrust,e) from by unfold turnT; rw [if_neg (by rw [h]; exact he),h]] at hK
  exact hK
 refine ne_s (fun h=>bad _ h (if_neg h)) (fun h=>?_)
 have E1:turnE b l ⟨⟨v,ks,t⟩,n⟩ ⟨nv,nk,nt⟩ sg=_:=if_pos h
 refine ne_s (fun h2=>?_) (fun h2=>⟨hp,?_⟩)
 ·unfold rootTextE at h2 ⊢
  by_cases c:checkRoot nv nk nt=0
  ·rw [if_pos c] at h2; exact absurd rfl h2
  ·rw [if_neg c]
   exact bad _ c (E1.trans (if_neg c))
 have c2:checkRoot nv nk nt=0:=by
  by_cases c:checkRoot nv nk nt=0
  ·exact c
  ·unfold rootTextE at h2; rw [if_neg c] at h2; exact h2
 rw [show rootTextE nv nk nt=(rootText nv nk nt,0) from if_pos c2]
 have E2:=E1.trans (if_pos c2)
 refine ne_s (fun h3=>?_) (fun h3=>?_)
 ·unfold nameB at h3 ⊢
  by_cases c:checkBook b=0
  ·rw [if_pos c] at h3; exact absurd rfl h3
  ·rw [if_neg c]
   exact bad _ c (E2.trans (if_neg c))
 have c3:checkBook b=0:=by
  by_cases c:checkBook b=0
  ·exact c
  ·unfold nameB at h3; rw [if_neg c] at h3; exact h3
 have E3:=E2.trans (if_pos c3)
 simp only [show nameB b (rootText nv nk nt)=(indexS (rootText nv nk nt) b+1,0) from if_pos c3]
 obtain ⟨t1,t2,t3⟩:=checkTrust_ok h
 obtain ⟨r1,r2,r3,r4,r5,_⟩:=checkRoot_ok t3
 obtain ⟨q1,q2,q3,q4,q5,_⟩:=checkRoot_ok c2
 simp only at t1 t2 r1 r2 r3 r4 r5
 rw [w64_id (n:=v+1) (by omega) (by omega)]
 refine ne_s (fun h4=>bad _ (by decide) (E3.trans (if_neg h4))) (fun h4=>?_)
 have E4:=E3.trans (if_pos h4)
 have step:∀ (r:Vm.Root) (P Q R:Prop),(enough l r sg (indexS (rootText nv nk nt) b+1)≠0→(countT l r sg (indexS (rootText nv nk nt) b+1)).2≠0→(countT l r sg (indexS (rootText nv nk nt) b+1)).2=enough l r sg (indexS (rootText nv nk nt) b+1)→P)→(enough l r sg (indexS (rootText nv nk nt) b+1)=9→Q)→(enough l r sg (indexS (rootText nv nk nt) b+1)=0→R) →
   br (!eqi (countT l r sg (indexS (rootText nv nk nt) b+1)).2 0) P (br (lti (countT l r sg (indexS (rootText nv nk nt) b+1)).1 r.thr) Q R):=fun r P Q R hP hQ hR=>by
  refine ne_s (fun g=>?_) (fun g=>lt_s (fun g2=>hQ ?_) (fun g2=>hR ?_))
  ·have e:enough l r sg (indexS (rootText nv nk nt) b+1)=(countT l r sg (indexS (rootText nv nk nt) b+1)).2:=if_neg g
   exact hP (by rw [e]; exact g) g e.symm
  ·unfold enough; rw [if_pos g,if_pos g2]
  ·unfold enough; rw [if_pos g,if_neg (by omega)]
 rw [goD_in (L:=q117_L0),q117_vc0_0 _ _ _ _ _ _ _ _ _ _ _ _ _ _ _ _ _ _ _ _ _ _ _ _ rfl]
 refine ⟨by omega,step ⟨v,ks,t⟩ _ _ _ (fun g g1 g2=>bad _ g1 ((E4.trans (if_neg g)).trans g2.symm)) (fun g=>bad _ (by decide) ((E4.trans (if_neg (by rw [g]; decide))).trans g)) (fun g=>?_)⟩
 have E5:=E4.trans (if_pos g)
 rw [show w64 ((0:Int)+1)=1 from w64_id (by omega) (by omega),goD_in (L:=q117_L0),q117_vc0_1 _ _ _ _ _ _ _ _ _ _ _ _ _ _ _ _ _ _ _ _ _ _ _ _ rfl]
 refine ⟨by omega,step ⟨nv,nk,nt⟩ _ _ _ (fun g g1 g2=>bad _ g1 (E5.trans g2.symm)) (fun g=>bad _ (by decide) (E5.trans g)) (fun g=>?_)⟩
 rw [show w64 ((1:Int)+1)=2 from w64_id (by omega) (by omega),goD_in (L:=q117_L0),q117_vc0_2 _ _ _ _ _ _ _ _ _ _ _ _ _ _ _ _ _ _ _ _ _ _ _]
 refine ⟨by simp only [len]; omega,?_⟩
 rw [show turnT b l ⟨⟨v,ks,t⟩,n⟩ ⟨nv,nk,nt⟩ sg=(⟨⟨nv,nk,nt⟩,n⟩,0) from if_pos (E5.trans g)] at hK
 exact hK
theorem sound_q117:SoundC Tryz.prog tab n_q117 c_q117:=soundC_f ok_q117 hg_q117 (by
 intro vs bs p v bs' h hp
 unfold c_q117 at h
 split at h
 ·cases h
  exact ⟨by kernel_rfl,rfl,.inl (run_q117 _ _ _ _ _ _ _ _ _ _ hp.1 _ ⟨rfl,rfl⟩)⟩
 ·cases h)

def c_q118:Contract:=fun vs bs=>match vs,bs with
 | [.one (.dat .int e)],[]=>some (none,.tup [.agg [dI 0,dL [],dI 0,dI 0],.one (dI e)],[])
 | _,_=>none
def Γ_q118:Ctx:=[]
theorem ok_q118:Ok Tryz.prog tab Γ_q118:=ok_nil
theorem q118_vc (e:Int) (rec:RK) (K:KK):segD Γ_q118 tab fn_q118 0 K rec [.code (bodyOf fn_q118)] (initSt [.one (dI e)] [])=(
 K (.tup [.agg [dI (0:Int),dL [],dI (0:Int),dI (0:Int)],.one (dI e)]) []):=by kernel_rfl

theorem run_q118 (K:KK) (hK:K (.tup [.agg [dI 0,dL [],dI 0,dI 0],.one (dI e)]) []):GD Γ_q118 fn_q118 0 K [.one (dI e)] []:=by
 refine ⟨1,?_⟩
 rw [goD_code,q118_vc _ _ _]
 exact hK
theorem sound_q118:SoundC Tryz.prog tab n_q118 c_q118:=soundC_f ok_q118 hg_q118 (by
 intro vs bs p v bs' h hp
 unfold c_q118 at h
 split at h
 ·cases h
  exact ⟨by kernel_rfl,rfl,.inl (run_q118 _ _ ⟨rfl,rfl⟩)⟩
 ·cases h)

def c_q92:Contract:=fun vs bs=>match vs,bs with
 | [.agg [.dat .int v,.dat .int u,.dat (.list .target) ts]],[]=>some (none,.one (dI (checkRelease v u ts)),[])
 | _,_=>none
def Γ_q92:Ctx:=[]
theorem ok_q92:Ok Tryz.prog tab Γ_q92:=ok_nil
noncomputable def q92_L0:List It:=[.inLoop [38,37,36,2] (cSub fn_q92 [1,1,1,0,1,0,0]),.inBlock 0,.code (cSub fn_q92 [1,1,1,1])]
def q92_S0 (x0 x1:Int) (x2:List Vm.Target) (x3:Int):St:=⟨[(38,.one (dI x0)),(37,.one (dI x1)),(36,.one (.dat (Ty.list Ty.target) x2)),(2,.one (dI x3))],[],0⟩
noncomputable def q92_L1:List It:=[.inLoop [55,54,53,52,51,50,49,48,47,46,45,44,43,3,4,42,41,40,39,38,37,36,2] (cSub fn_q92 [1,1,1,0,1,0,0,1,1,0,0,1,1,0,0]),.inBlock 2,.inBlock 1,.code (cSub fn_q92 [1,1,1,0,1,0,0,1,1,1]),.inLoop [38,37,36,2] (cSub fn_q92 [1,1,1,0,1,0,0]),.inBlock 0,.code (cSub fn_q92 [1,1,1,1])]
def q92_S1 (x0 x1 x2 x3 x4 x5 x6 x7 x8 x9 x10 x11 x12 x13 x14 x15 x16 x17 x18 x19 x20 x21 x22 x23 x24 x25 x26 x27:Int) (x28:List Vm.Target) (x29:Nat) (x30:Int) (x31:Bool) (x32 x33:Int) (x34:List Vm.Target) (x35 x36 x37 x38:Int):St:=⟨[(55,.one (dI x0)),(54,.agg [dI x1,dI x2,dI x3,dI x4,dI x5,dI x6,dI x7,dI x8,dI x9]),(53,.agg [dI x10,dI x11,dI x12]),(52,.one (dI x13)),(51,.one (.ptr 0 2)),(50,.agg [dI x14,dI x15,dI x16]),(49,.one (dI x17)),(48,.one (.ptr 0 1)),(47,.agg [dI x18,dI x19,dI x20]),(46,.one (dI x21)),(45,.one (dI x22)),(44,.one (dI x23)),(43,.one (.ptr 0 0)),(3,.one (dI x24)),(4,.one (.ptr 0 0)),(42,.agg [dI x25,dI x26,dI x27]),(41,.one (.eptr Ty.target x28 x29 0)),(40,.one (dI x30)),(39,.one (dB x31)),(38,.one (dI x32)),(37,.one (dI x33)),(36,.one (.dat (Ty.list Ty.target) x34)),(2,.one (dI x35))],[(0,.box [dI x36,dI x37,dI x38])],1⟩
theorem q92_vc (v u:Int) (ts:List Vm.Target) (rec:RK) (K:KK):segD Γ_q92 tab fn_q92 0 K rec [.code (bodyOf fn_q92)] (initSt [.agg [dI v,dI u,.dat (Ty.list Ty.target) ts]] [])=(
 br (lti v 1)
 (K (.one (dI 3)) [])
 (br (lti 1000 v)
 (K (.one (dI 3)) [])
 (br (lti u 0)
 (K (.one (dI 3)) [])
 (br (lti 100000 u)
 (K (.one (dI 3)) [])
 (br (eqi (len ts:Int) 0)
 (K (.one (dI 2)) [])
 (br (lti 4 (len ts:Int))
 (K (.one (dI 2)) [])
 (rec q92_L0 (q92_S0 0 (len ts:Int) ts 0)))))))):=by kernel_rfl
theorem q92_vc0 (x0 x1:Int) (x2:List Vm.Target) (x3:Int) (rec:RK) (K:KK):segD Γ_q92 tab fn_q92 0 K rec (ent q92_L0) (q92_S0 x0 x1 x2 x3)=(
 br (lti x0 x1)
 (((0:Int)≤x0∧x0<(len x2:Int)) ∧
 rec q92_L1 (q92_S1 0 (nth x2 (Int.toNat x0) (Ty.dflt Ty.target)).unit x0 x0 (nth x2 (Int.toNat x0) (Ty.dflt Ty.target)).image 1 60 (nth x2 (Int.toNat x0) (Ty.dflt Ty.target)).long 1 40 (nth x2 (Int.toNat x0) (Ty.dflt Ty.target)).long 1 40 (nth x2 (Int.toNat x0) (Ty.dflt Ty.target)).long (nth x2 (Int.toNat x0) (Ty.dflt Ty.target)).image 1 60 (nth x2 (Int.toNat x0) (Ty.dflt Ty.target)).image (nth x2 (Int.toNat x0) (Ty.dflt Ty.target)).unit x0 x0 x0 x0 (nth x2 (Int.toNat x0) (Ty.dflt Ty.target)).unit x0 (nth x2 (Int.toNat x0) (Ty.dflt Ty.target)).unit (nth x2 (Int.toNat x0) (Ty.dflt Ty.target)).image (nth x2 (Int.toNat x0) (Ty.dflt Ty.target)).long x2 (Int.toNat x0) x0 (lti x0 x1) x0 x1 x2 x3 (nth x2 (Int.toNat x0) (Ty.dflt Ty.target)).unit (nth x2 (Int.toNat x0) (Ty.dflt Ty.target)).image (nth x2 (Int.toNat x0) (Ty.dflt Ty.target)).long))
 (K (.one (dI 0)) [])):=by kernel_rfl
theorem q92_vc1_0 (x1 x2 x3 x4 x5 x6 x7 x8 x9 x10 x11 x12 x13 x14 x15 x16 x17 x18 x19 x20 x21 x22 x23 x24 x25 x26 x27:Int) (x28:List Vm.Target) (x29:Nat) (x30:Int) (x31:Bool) (x32 x33:Int) (x34:List Vm.Target) (x35 x36 x37 x38:Int) (rec:RK) (K:KK):segD Γ_q92 tab fn_q92 0 K rec (ent q92_L1) (q92_S1 0 x1 x2 x3 x4 x5 x6 x7 x8 x9 x10 x11 x12 x13 x14 x15 x16 x17 x18 x19 x20 x21 x22 x23 x24 x25 x26 x27 x28 x29 x30 x31 x32 x33 x34 x35 x36 x37 x38)=(
 ((0:Int)≤(0:Int)∧(0:Int)<((3:Nat):Int)) ∧
 ((0:Int)≤(0:Int)∧(0:Int)<((3:Nat):Int)) ∧
 ((0:Int)≤(1:Int)∧(1:Int)<((3:Nat):Int)) ∧
 br (lti x1 x2)
 (K (.one (dI 3)) [])
 (((0:Int)≤(0:Int)∧(0:Int)<((3:Nat):Int)) ∧
 ((0:Int)≤(2:Int)∧(2:Int)<((3:Nat):Int)) ∧
 br (lti x3 x1)
 (K (.one (dI 3)) [])
 (rec q92_L1 (q92_S1 (w64 ((0:Int)+(1:Int))) x1 x2 x3 x4 x5 x6 x7 x8 x9 x10 x11 x12 x13 x14 x15 x16 x17 x18 x19 x20 x21 x22 x23 x24 x25 x26 x27 x28 x29 x30 x31 x32 x33 x34 x35 x36 x37 x38)))):=by kernel_rfl
theorem q92_vc1_1 (x1 x2 x3 x4 x5 x6 x7 x8 x9 x10 x11 x12 x13 x14 x15 x16 x17 x18 x19 x20 x21 x22 x23 x24 x25 x26 x27:Int) (x28:List Vm.Target) (x29:Nat) (x30:Int) (x31:Bool) (x32 x33:Int) (x34:List Vm.Target) (x35 x36 x37 x38:Int) (rec:RK) (K:KK):segD Γ_q92 tab fn_q92 0 K rec (ent q92_L1) (q92_S1 1 x1 x2 x3 x4 x5 x6 x7 x8 x9 x10 x11 x12 x13 x14 x15 x16 x17 x18 x19 x20 x21 x22 x23 x24 x25 x26 x27 x28 x29 x30 x31 x32 x33 x34 x35 x36 x37 x38)=(
 ((0:Int)≤(1:Int)∧(1:Int)<((3:Nat):Int)) ∧
 ((0:Int)≤(0:Int)∧(0:Int)<((3:Nat):Int)) ∧
 ((0:Int)≤(1:Int)∧(1:Int)<((3:Nat):Int)) ∧
 br (lti x4 x5)
 (K (.one (dI 3)) [])
 (((0:Int)≤(0:Int)∧(0:Int)<((3:Nat):Int)) ∧
 ((0:Int)≤(2:Int)∧(2:Int)<((3:Nat):Int)) ∧
 br (lti x6 x4)
 (K (.one (dI 3)) [])
 (rec q92_L1 (q92_S1 (w64 ((1:Int)+(1:Int))) x1 x2 x3 x4 x5 x6 x7 x8 x9 x10 x11 x12 x13 x14 x15 x16 x17 x18 x19 x20 x21 x22 x23 x24 x25 x26 x27 x28 x29 x30 x31 x32 x33 x34 x35 x36 x37 x38)))):=by kernel_rfl
theorem q92_vc1_2 (x1 x2 x3 x4 x5 x6 x7 x8 x9 x10 x11 x12 x13 x14 x15 x16 x17 x18 x19 x20 x21 x22 x23 x24 x25 x26 x27:Int) (x28:List Vm.Target) (x29:Nat) (x30:Int) (x31:Bool) (x32 x33:Int) (x34:List Vm.Target) (x35 x36 x37 x38:Int) (rec:RK) (K:KK):segD Γ_q92 tab fn_q92 0 K rec (ent q92_L1) (q92_S1 2 x1 x2 x3 x4 x5 x6 x7 x8 x9 x10 x11 x12 x13 x14 x15 x16 x17 x18 x19 x20 x21 x22 x23 x24 x25 x26 x27 x28 x29 x30 x31 x32 x33 x34 x35 x36 x37 x38)=(
 ((0:Int)≤(2:Int)∧(2:Int)<((3:Nat):Int)) ∧
 ((0:Int)≤(0:Int)∧(0:Int)<((3:Nat):Int)) ∧
 ((0:Int)≤(1:Int)∧(1:Int)<((3:Nat):Int)) ∧
 br (lti x7 x8)
 (K (.one (dI 3)) [])
 (((0:Int)≤(0:Int)∧(0:Int)<((3:Nat):Int)) ∧
 ((0:Int)≤(2:Int)∧(2:Int)<((3:Nat):Int)) ∧
 br (lti x9 x7)
 (K (.one (dI 3)) [])
 (rec q92_L1 (q92_S1 (w64 ((2:Int)+(1:Int))) x1 x2 x3 x4 x5 x6 x7 x8 x9 x10 x11 x12 x13 x14 x15 x16 x17 x18 x19 x20 x21 x22 x23 x24 x25 x26 x27 x28 x29 x30 x31 x32 x33 x34 x35 x36 x37 x38)))):=by kernel_rfl
theorem q92_vc1_3 (x1 x2 x3 x4 x5 x6 x7 x8 x9 x10 x11 x12 x13 x14 x15 x16 x17 x18 x19 x20 x21 x22 x23 x24 x25 x26 x27:Int) (x28:List Vm.Target) (x29:Nat) (x30:Int) (x31:Bool) (x32 x33:Int) (x34:List Vm.Target) (x35 x36 x37 x38:Int) (rec:RK) (K:KK):segD Γ_q92 tab fn_q92 0 K rec (ent q92_L1) (q92_S1 3 x1 x2 x3 x4 x5 x6 x7 x8 x9 x10 x11 x12 x13 x14 x15 x16 x17 x18 x19 x20 x21 x22 x23 x24 x25 x26 x27 x28 x29 x30 x31 x32 x33 x34 x35 x36 x37 x38)=(
 rec q92_L0 (q92_S0 (w64 (x32+1)) x33 x34 x35)):=by kernel_rfl

theorem loop_q92 (ts:List Vm.Target) (hl:ts.length≤4) (K:KK):∀ (d k:Nat),k+d=ts.length→K (.one (dI (if okTargets (k:Int) (ts.drop k) then 0 else 3))) [] →
  goD Γ_q92 tab fn_q92 0 K (5*d+1) q92_L0 (q92_S0 (k:Int) (((len ts):Nat):Int) ts 0)
 | 0,k,hk,hK=>by
  rw [show 5*0+1=0+1 by omega,goD_in (L:=q92_L0),q92_vc0 _ _ _ _ _ _]
  rw [List.drop_of_length_le (by omega)] at hK
  exact lt_f (by simp only [len]; omega) hK
 | d+1,k,hk,hK=>by
  rw [show 5*(d+1)+1=(5*d+1+1+1+1+1)+1 by omega,goD_in (L:=q92_L0),q92_vc0 _ _ _ _ _ _,toNat_nat]
  rw [drop_step (by omega) (Ty.dflt Ty.target)] at hK
  obtain ⟨x,hx⟩:∃ x,nth ts k (Ty.dflt Ty.target)=x:=⟨_,rfl⟩
  rw [hx] at hK ⊢
  have three:okTarget (k:Int) x=false→K (.one (dI 3)) []:=fun h=>by rw [show okTargets (k:Int) (x::ts.drop (k+1))=false from by simp [okTargets,h]] at hK; exact hK
  have hot:okTarget (k:Int) x=true↔(x.unit=k∧1≤x.image∧x.image≤60∧1≤x.long∧x.long≤40):=by
   simp only [okTarget,Bool.and_eq_true,decide_eq_true_eq]; omega
  have bad:¬ (x.unit=k∧1≤x.image∧x.image≤60∧1≤x.long∧x.long≤40)→K (.one (dI 3)) []:=fun h=>three (by
   cases hc:okTarget (k:Int) x
   ·rfl
   ·exact absurd (hot.1 hc) h)
  refine lt_t (by simp only [len]; omega) ⟨⟨by omega,by simp only [len]; omega⟩,?_⟩
  rw [goD_in (L:=q92_L1),q92_vc1_0 _ _ _ _ _ _ _ _ _ _ _ _ _ _ _ _ _ _ _ _ _ _ _ _ _ _ _ _ _ _ _ _ _ _ _ _ _ _ _ _]
  refine ⟨by omega,by omega,by omega,lt_s (fun h=>bad (by omega)) (fun h=>⟨by omega,by omega,lt_s (fun h2=>bad (by omega)) (fun h2=>?_)⟩)⟩
  rw [show w64 ((0:Int)+1)=1 from w64_id (by omega) (by omega),goD_in (L:=q92_L1),q92_vc1_1 _ _ _ _ _ _ _ _ _ _ _ _ _ _ _ _ _ _ _ _ _ _ _ _ _ _ _ _ _ _ _ _ _ _ _ _ _ _ _ _]
  refine ⟨by omega,by omega,by omega,lt_s (fun h3=>bad (by omega)) (fun h3=>⟨by omega,by omega,lt_s (fun h4=>bad (by omega)) (fun h4=>?_)⟩)⟩
  rw [show w64 ((1:Int)+1)=2 from w64_id (by omega) (by omega),goD_in (L:=q92_L1),q92_vc1_2 _ _ _ _ _ _ _ _ _ _ _ _ _ _ _ _ _ _ _ _ _ _ _ _ _ _ _ _ _ _ _ _ _ _ _ _ _ _ _ _]
  refine ⟨by omega,by omega,by omega,lt_s (fun h5=>bad (by omega)) (fun h5=>⟨by omega,by omega,lt_s (fun h6=>bad (by omega)) (fun h6=>?_)⟩)⟩
  rw [show w64 ((2:Int)+1)=3 from w64_id (by omega) (by omega),goD_in (L:=q92_L1),q92_vc1_3 _ _ _ _ _ _ _ _ _ _ _ _ _ _ _ _ _ _ _ _ _ _ _ _ _ _ _ _ _ _ _ _ _ _ _ _ _ _ _ _,w64_succ (by omega)]
  rw [show okTargets (k:Int) (x::ts.drop (k+1))=okTargets ((k:Int)+1) (ts.drop (k+1)) from by simp only [okTargets,hot.2 (show _ by omega),Bool.true_and]] at hK
  exact loop_q92 ts hl K d (k+1) (by omega) (by rw [show ((k+1:Nat):Int)=(k:Int)+1 by omega]; exact hK)
theorem run_q92 (K:KK) (hK:K (.one (dI (checkRelease v u ts))) []):GD Γ_q92 fn_q92 0 K [.agg [dI v,dI u,.dat (.list .target) ts]] []:=by
 refine ⟨5*ts.length+1+1,?_⟩
 rw [goD_code,q92_vc _ _ _ _ _]
 unfold checkRelease at hK
 refine lt_s (fun h=>?_) (fun h=>lt_s (fun h2=>?_) (fun h2=>lt_s (fun h3=>?_) (fun h3=>lt_s (fun h4=>?_) (fun h4=>eq_s (fun h5=>?_) (fun h5=>lt_s (fun h6=>?_) (fun h6=>?_))))))
 ·rw [if_pos (by omega)] at hK; exact hK
 ·rw [if_pos (by omega)] at hK; exact hK
 ·rw [if_pos (by omega)] at hK; exact hK
 ·rw [if_pos (by omega)] at hK; exact hK
 ·rw [if_neg (by omega),if_pos (by simp only [len] at h5; omega)] at hK; exact hK
 ·rw [if_neg (by omega),if_pos (by simp only [len] at h6; omega)] at hK; exact hK
 ·rw [if_neg (by omega),if_neg (by simp only [len] at h5 h6; omega)] at hK
  exact loop_q92 ts (by simp only [len] at h6; omega) K ts.length 0 (by omega) hK
theorem sound_q92:SoundC Tryz.prog tab n_q92 c_q92:=soundC_f ok_q92 hg_q92 (by
 intro vs bs p v bs' h hp
 unfold c_q92 at h
 split at h
 ·cases h
  exact ⟨by kernel_rfl,rfl,.inl (run_q92 _ _ _ _ ⟨rfl,rfl⟩)⟩
 ·cases h)

def c_q95:Contract:=fun vs bs=>match vs,bs with
 | [.agg [.dat .int v,.dat .int u,.dat (.list .target) ts]],[]=>some (none,.tup [.one (.dat .str (releaseTextE v u ts).1),.one (dI (releaseTextE v u ts).2)],[])
 | _,_=>none
def Γ_q95:Ctx:=[(n_q92,c_q92),(n_q84,c_q84),(n_q90,c_q90)]
theorem ok_q95:Ok Tryz.prog tab Γ_q95:=(((ok_nil.c hg_q90 sound_q90).c hg_q84 sound_q84).c hg_q92 sound_q92)
noncomputable def q95_L0:List It:=[.inLoop [25,24,23,5,3,2] (cSub fn_q95 [1,1,1,0,1,0,0]),.inBlock 0,.code (cSub fn_q95 [1,1,1,1])]
def q95_S0 (x0 x1:Int) (x2:List Vm.Target) (x3:List UInt8) (x4:Int) (x5:List UInt8):St:=⟨[(25,.one (dI x0)),(24,.one (dI x1)),(23,.one (.dat (Ty.list Ty.target) x2)),(5,.one (.dat Ty.str x3)),(3,.one (dI x4)),(2,.one (.dat Ty.str x5))],[],0⟩
theorem q95_vc (v u:Int) (ts:List Vm.Target) (rec:RK) (K:KK) v0 (hv0:v0=checkRelease v u ts) v1 (hv1:v1=numT v) v2 (hv2:v2=numT u):segD Γ_q95 tab fn_q95 0 K rec [.code (bodyOf fn_q95)] (initSt [.agg [dI v,dI u,.dat (Ty.list Ty.target) ts]] [])=(
 br (!(eqi v0 0))
 (K (.tup [.one (.dat Ty.str []),.one (dI v0)]) [])
 (((0:Int)≤v∧v≤9223372036854775807) ∧
 len ((114:UInt8)::(101:UInt8)::(108:UInt8)::(101:UInt8)::(97:UInt8)::(115:UInt8)::(101:UInt8)::(32:UInt8)::[])+len v1≤140737488355328 ∧
 len (cat ((114:UInt8)::(101:UInt8)::(108:UInt8)::(101:UInt8)::(97:UInt8)::(115:UInt8)::(101:UInt8)::(32:UInt8)::[]) v1)+len ((32:UInt8)::(117:UInt8)::(110:UInt8)::(116:UInt8)::(105:UInt8)::(108:UInt8)::(32:UInt8)::[])≤140737488355328 ∧
 ((0:Int)≤u∧u≤9223372036854775807) ∧
 len (cat (cat ((114:UInt8)::(101:UInt8)::(108:UInt8)::(101:UInt8)::(97:UInt8)::(115:UInt8)::(101:UInt8)::(32:UInt8)::[]) v1) ((32:UInt8)::(117:UInt8)::(110:UInt8)::(116:UInt8)::(105:UInt8)::(108:UInt8)::(32:UInt8)::[]))+len v2≤140737488355328 ∧
 rec q95_L0 (q95_S0 0 (len ts:Int) ts (cat (cat (cat ((114:UInt8)::(101:UInt8)::(108:UInt8)::(101:UInt8)::(97:UInt8)::(115:UInt8)::(101:UInt8)::(32:UInt8)::[]) v1) ((32:UInt8)::(117:UInt8)::(110:UInt8)::(116:UInt8)::(105:UInt8)::(108:UInt8)::(32:UInt8)::[])) v2) 0 []))):=by subst_vars; kernel_rfl
theorem q95_vc0 (x0 x1:Int) (x2:List Vm.Target) (x3:List UInt8) (x4:Int) (x5:List UInt8) (rec:RK) (K:KK) v0 (hv0:v0=nums ((nth x2 (Int.toNat x0) (Ty.dflt Ty.target)).unit::(nth x2 (Int.toNat x0) (Ty.dflt Ty.target)).image::(nth x2 (Int.toNat x0) (Ty.dflt Ty.target)).long::[])) v1 (hv1:v1=listT ((nth x2 (Int.toNat x0) (Ty.dflt Ty.target)).unit::(nth x2 (Int.toNat x0) (Ty.dflt Ty.target)).image::(nth x2 (Int.toNat x0) (Ty.dflt Ty.target)).long::[])):segD Γ_q95 tab fn_q95 0 K rec (ent q95_L0) (q95_S0 x0 x1 x2 x3 x4 x5)=(
 br (lti x0 x1)
 (((0:Int)≤x0∧x0<(len x2:Int)) ∧
 (len ((nth x2 (Int.toNat x0) (Ty.dflt Ty.target)).unit::(nth x2 (Int.toNat x0) (Ty.dflt Ty.target)).image::(nth x2 (Int.toNat x0) (Ty.dflt Ty.target)).long::[])≤1000∧v0=true) ∧
 len ((59:UInt8)::(32:UInt8)::[])+len v1≤140737488355328 ∧
 len x3+len (cat ((59:UInt8)::(32:UInt8)::[]) v1)≤140737488355328 ∧
 rec q95_L0 (q95_S0 (w64 (x0+1)) x1 x2 (cat x3 (cat ((59:UInt8)::(32:UInt8)::[]) v1)) x4 x5))
 (K (.tup [.one (.dat Ty.str x3),.one (dI 0)]) [])):=by subst_vars; kernel_rfl

theorem loop_q95 (ts:List Vm.Target) (hl:ts.length≤4) (hn:∀ t∈ts,0≤t.unit∧t.unit≤1000∧0≤t.image∧t.image≤1000∧0≤t.long∧t.long≤1000) (K:KK) (pre:List UInt8) (hp:pre.length≤1000) (x4:Int) (x5:List UInt8) (hK:K (.tup [.one (.dat .str (pre++targetsT ts)),.one (dI 0)]) []):∀ (d k:Nat),k+d=ts.length→(targetsT (ts.take k)).length≤65*k →
  goD Γ_q95 tab fn_q95 0 K (d+1) q95_L0 (q95_S0 (k:Int) (((len ts):Nat):Int) ts (pre++targetsT (ts.take k)) x4 x5)
 | 0,k,hk,hq=>by
  rw [goD_in (L:=q95_L0),q95_vc0 _ _ _ _ _ _ _ _ _ rfl _ rfl,List.take_of_length_le (by omega)]
  exact lt_f (by simp only [len]; omega) hK
 | d+1,k,hk,hq=>by
  have ht:=take_step (l:=ts) (k:=k) (by omega) (Ty.dflt Ty.target)
  have hm:nth ts k (Ty.dflt Ty.target)∈ts:=by
   have:k<ts.length:=by omega
   simp [nth,List.getD_eq_getElem?_getD,this]
  have hx:=hn _ hm
  have step:targetsT (ts.take (k+1))=targetsT (ts.take k)++targetT (nth ts k (Ty.dflt Ty.target)):=by rw [ht]; simp [targetsT]
  rw [goD_in (L:=q95_L0),q95_vc0 _ _ _ _ _ _ _ _ _ rfl _ rfl,toNat_nat]
  obtain ⟨x,hxe⟩:∃ x,nth ts k (Ty.dflt Ty.target)=x:=⟨_,rfl⟩
  rw [hxe] at hx step ⊢
  have l1:=listT_len [x.unit,x.image,x.long]
  simp only [List.length_cons,List.length_nil] at l1
  have el:(targetT x).length=2+(listT [x.unit,x.image,x.long]).length:=by simp [targetT]; omega
  have ek:w64 ((k:Int)+1)=((k+1:Nat):Int):=w64_succ (by omega)
  rw [ek]
  refine lt_t (by simp only [len]; omega) ⟨⟨by omega,by simp only [len]; omega⟩,⟨by simp [len],?_⟩,by simp only [len,List.length_cons,List.length_nil]; omega,by simp only [len,cat,List.length_append,List.length_cons,List.length_nil]; omega,?_⟩
  ·simp only [nums,List.all_cons,List.all_nil,Bool.and_true,Bool.and_eq_true,decide_eq_true_eq]; omega
  ·have:=loop_q95 ts hl hn K pre hp x4 x5 hK d (k+1) (by omega) (by rw [step,List.length_append,el]; omega)
   rw [step] at this
   have e:cat (pre++targetsT (ts.take k)) (cat [59,32] (listT [x.unit,x.image,x.long]))=pre++(targetsT (ts.take k)++targetT x):=by simp [cat,targetT]
   rw [← e] at this
   exact this
theorem run_q95 (K:KK) (hK:K (.tup [.one (.dat .str (releaseTextE v u ts).1),.one (dI (releaseTextE v u ts).2)]) []):GD Γ_q95 fn_q95 0 K [.agg [dI v,dI u,.dat (.list .target) ts]] []:=by
 refine ⟨ts.length+2,?_⟩
 rw [goD_code,q95_vc _ _ _ _ _ _ rfl _ rfl _ rfl]
 unfold releaseTextE at hK
 refine ne_s (fun h=>?_) (fun h=>?_)
 ·rw [if_neg h] at hK; exact hK
 rw [if_pos h] at hK
 obtain ⟨h1,h2,h3,h4,h5,h6,h7⟩:=checkRelease_ok h
 have n1:=numT_len v
 have n2:=numT_len u
 refine ⟨by omega,by simp only [len,List.length_cons,List.length_nil]; omega,by simp only [len,cat,List.length_append,List.length_cons,List.length_nil]; omega,by omega,by simp only [len,cat,List.length_append,List.length_cons,List.length_nil]; omega,?_⟩
 have:=loop_q95 ts h6 h7 K ([114,101,108,101,97,115,101,32]++numT v++[32,117,110,116,105,108,32]++numT u) (by simp only [List.length_append,List.length_cons,List.length_nil]; omega) 0 [] hK ts.length 0 (by omega) (by simp [targetsT])
 rw [show targetsT (ts.take 0)=[] from by simp [targetsT],List.append_nil] at this
 exact this
theorem sound_q95:SoundC Tryz.prog tab n_q95 c_q95:=soundC_f ok_q95 hg_q95 (by
 intro vs bs p v bs' h hp
 unfold c_q95 at h
 split at h
 ·cases h
  exact ⟨by kernel_rfl,rfl,.inl (run_q95 _ _ _ _ ⟨rfl,rfl⟩)⟩
 ·cases h)

def c_q93:Contract:=fun vs bs=>match vs,bs with
 | [.one (.dat (.list .int) l)],[]=>some (none,.one (dI (checkImage l)),[])
 | _,_=>none
def Γ_q93:Ctx:=[]
theorem ok_q93:Ok Tryz.prog tab Γ_q93:=ok_nil
noncomputable def q93_L0:List It:=[.inLoop [15,14,13,2] (cSub fn_q93 [1,1,0,1,0,0]),.inBlock 0,.code (cSub fn_q93 [1,1,1])]
def q93_S0 (x0 x1:Int) (x2:List Int) (x3:Int):St:=⟨[(15,.one (dI x0)),(14,.one (dI x1)),(13,.one (dL x2)),(2,.one (dI x3))],[],0⟩
theorem q93_vc (l:List Int) (rec:RK) (K:KK):segD Γ_q93 tab fn_q93 0 K rec [.code (bodyOf fn_q93)] (initSt [.one (dL l)] [])=(
 br (eqi (len l:Int) 0)
 (K (.one (dI 2)) [])
 (br (lti 40 (len l:Int))
 (K (.one (dI 2)) [])
 (rec q93_L0 (q93_S0 0 (len l:Int) l 0)))):=by kernel_rfl
theorem q93_vc0 (x0 x1:Int) (x2:List Int) (x3:Int) (rec:RK) (K:KK):segD Γ_q93 tab fn_q93 0 K rec (ent q93_L0) (q93_S0 x0 x1 x2 x3)=(
 br (lti x0 x1)
 (((0:Int)≤x0∧x0<(len x2:Int)) ∧
 br (lti (nth x2 (Int.toNat x0) (Ty.dflt Ty.int)) 0)
 (K (.one (dI 3)) [])
 (br (lti 65535 (nth x2 (Int.toNat x0) (Ty.dflt Ty.int)))
 (K (.one (dI 3)) [])
 (rec q93_L0 (q93_S0 (w64 (x0+1)) x1 x2 x3))))
 (K (.one (dI 0)) [])):=by kernel_rfl

theorem loop_q93 (ws:List Int) (hl:ws.length≤40) (K:KK) (hK:K (.one (dI (if okWords ws then 0 else 3))) []):∀ (d k:Nat),k+d=ws.length→okWords (ws.take k)=true →
  goD Γ_q93 tab fn_q93 0 K (d+1) q93_L0 (q93_S0 (k:Int) (((len ws):Nat):Int) ws (0:Int))
 | 0,k,hk,he=>by
  rw [goD_in (L:=q93_L0),q93_vc0 _ _ _ _ _ _]
  refine lt_f (by simp only [len]; omega) ?_
  rw [List.take_of_length_le (by omega)] at he
  rw [if_pos he] at hK
  exact hK
 | d+1,k,hk,he=>by
  rw [goD_in (L:=q93_L0),q93_vc0 _ _ _ _ _ _]
  have bad:okWord (nth ws k (Ty.dflt Ty.int))=false→K (.one (dI 3)) []:=fun h=>by
   rw [show okWords ws=false from all_false (k:=k) (by omega) _ h] at hK; exact hK
  refine lt_t (by simp only [len]; omega) ⟨⟨by omega,by simp only [len]; omega⟩,lt_s (fun h=>?_) (fun h=>lt_s (fun h2=>?_) (fun h2=>?_))⟩
  ·rw [toNat_nat] at h
   exact bad (by simp only [okWord,Bool.and_eq_false_iff,decide_eq_false_iff_not]; exact .inl (by omega))
  ·rw [toNat_nat] at h2
   exact bad (by simp only [okWord,Bool.and_eq_false_iff,decide_eq_false_iff_not]; exact .inr (by omega))
  ·rw [w64_succ (by omega)]
   rw [toNat_nat] at h h2
   exact loop_q93 ws hl K hK d (k+1) (by omega) (all_take_step (by omega) (Ty.dflt Ty.int) he (by simp [okWord,h,h2]))
theorem run_q93 (l:List Int) (K:KK) (hK:K (.one (dI (checkImage l))) []):GD Γ_q93 fn_q93 0 K [.one (dL l)] []:=by
 refine ⟨l.length+2,?_⟩
 rw [goD_code,q93_vc _ _ _]
 unfold checkImage at hK
 refine eq_s (fun h=>?_) (fun h=>lt_s (fun h2=>?_) (fun h2=>?_))
 ·rw [if_pos (by simp only [len] at h; omega)] at hK; exact hK
 ·rw [if_pos (by simp only [len] at h2; omega)] at hK; exact hK
 ·rw [if_neg (by simp only [len] at h h2; omega)] at hK
  exact loop_q93 l (by simp only [len] at h2; omega) K hK l.length 0 (by omega) rfl
theorem sound_q93:SoundC Tryz.prog tab n_q93 c_q93:=soundC_f ok_q93 hg_q93 (by
 intro vs bs p v bs' h hp
 unfold c_q93 at h
 split at h
 ·cases h
  exact ⟨by kernel_rfl,rfl,.inl (run_q93 _ _ ⟨rfl,rfl⟩)⟩
 ·cases h)

def c_q96:Contract:=fun vs bs=>match vs,bs with
 | [.one (.dat (.list .int) l)],[]=>some (none,.tup [.one (.dat .str (imageTextE l).1),.one (dI (imageTextE l).2)],[])
 | _,_=>none
def Γ_q96:Ctx:=[(n_q93,c_q93),(n_q90,c_q90)]
theorem ok_q96:Ok Tryz.prog tab Γ_q96:=((ok_nil.c hg_q90 sound_q90).c hg_q93 sound_q93)
theorem q96_vc (l:List Int) (rec:RK) (K:KK) v0 (hv0:v0=checkImage l) v1 (hv1:v1=nums l) v2 (hv2:v2=listT l):segD Γ_q96 tab fn_q96 0 K rec [.code (bodyOf fn_q96)] (initSt [.one (dL l)] [])=(
 br (!(eqi v0 0))
 (K (.tup [.one (.dat Ty.str []),.one (dI v0)]) [])
 ((len l≤1000∧v1=true) ∧
 len ((105:UInt8)::(109:UInt8)::(97:UInt8)::(103:UInt8)::(101:UInt8)::(32:UInt8)::[])+len v2≤140737488355328 ∧
 K (.tup [.one (.dat Ty.str (cat ((105:UInt8)::(109:UInt8)::(97:UInt8)::(103:UInt8)::(101:UInt8)::(32:UInt8)::[]) v2)),.one (dI 0)]) [])):=by subst_vars; kernel_rfl

theorem run_q96 (l:List Int) (K:KK) (hK:K (.tup [.one (.dat .str (imageTextE l).1),.one (dI (imageTextE l).2)]) []):GD Γ_q96 fn_q96 0 K [.one (dL l)] []:=by
 refine ⟨1,?_⟩
 rw [goD_code,q96_vc _ _ _ _ rfl _ rfl _ rfl]
 unfold imageTextE at hK
 refine ne_s (fun h=>?_) (fun h=>?_)
 ·rw [if_neg h] at hK; exact hK
 rw [if_pos h] at hK
 obtain ⟨h1,h2,h3⟩:=checkImage_ok h
 have n3:=listT_len l
 exact ⟨⟨by simp only [len]; omega,nums_of_words h3⟩,by simp only [len,List.length_cons,List.length_nil]; omega,hK⟩
theorem sound_q96:SoundC Tryz.prog tab n_q96 c_q96:=soundC_f ok_q96 hg_q96 (by
 intro vs bs p v bs' h hp
 unfold c_q96 at h
 split at h
 ·cases h
  exact ⟨by kernel_rfl,rfl,.inl (run_q96 _ _ ⟨rfl,rfl⟩)⟩
 ·cases h)

def c_q97:Contract:=fun vs bs=>match vs,bs with
 | [.agg [.dat (.list .str) l],.one (.dat (.list .int) ws)],[]=>some (some (l.length≤140737488355328),.tup [.one (dI (imageName l ws).1),.one (dI (imageName l ws).2)],[])
 | _,_=>none
def Γ_q97:Ctx:=[(n_q96,c_q96),(n_q89,c_q89)]
theorem ok_q97:Ok Tryz.prog tab Γ_q97:=((ok_nil.c hg_q89 sound_q89).c hg_q96 sound_q96)
theorem q97_vc (l:List (List UInt8)) (ws:List Int) (rec:RK) (K:KK) v0 (hv0:v0=imageTextE ws) v1 (hv1:v1=nameB l v0.fst):segD Γ_q97 tab fn_q97 0 K rec [.code (bodyOf fn_q97)] (initSt [.agg [.dat (Ty.list Ty.str) l],.one (dL ws)] [])=(
 br (!(eqi v0.snd 0))
 (K (.tup [.one (dI 0),.one (dI v0.snd)]) [])
 (List.length l≤140737488355328 ∧
 K (.tup [.one (dI v1.fst),.one (dI v1.snd)]) [])):=by subst_vars; kernel_rfl

theorem run_q97 (l:List (List UInt8)) (hp:l.length≤140737488355328) (K:KK) (hK:K (.tup [.one (dI (imageName l ws).1),.one (dI (imageName l ws).2)]) []):GD Γ_q97 fn_q97 0 K [.agg [.dat (Ty.list Ty.str) l],.one (dL ws)] []:=by
 refine ⟨1,?_⟩
 rw [goD_code,q97_vc _ _ _ _ _ rfl _ rfl]
 unfold imageName at hK
 by_cases h:checkImage ws=0
 ·rw [if_pos h] at hK
  rw [show imageTextE ws=(imageText ws,0) from if_pos h]
  exact ne_f rfl ⟨hp,hK⟩
 ·rw [if_neg h] at hK
  rw [show imageTextE ws=([],checkImage ws) from if_neg h]
  exact ne_t h hK
theorem sound_q97:SoundC Tryz.prog tab n_q97 c_q97:=soundC_f ok_q97 hg_q97 (by
 intro vs bs p v bs' h hp
 unfold c_q97 at h
 split at h
 ·cases h
  exact ⟨by kernel_rfl,rfl,.inl (run_q97 _ _ hp.1 _ ⟨rfl,rfl⟩)⟩
 ·cases h)

def c_q119:Contract:=fun vs bs=>match vs,bs with
 | [.agg [.dat (.list .str) b],.one (.dat (.list .signed) l),.agg [.dat .int v,.dat (.list .int) ks,.dat .int t,.dat .int n],.agg [.dat (.list .root) rs,.dat (.list (.list .int)) rg,.dat .int ov,.dat .int ou,.dat (.list .target) ts,.dat (.list .int) sg,.dat (.list (.list .int)) im],.one (.dat .int now),.one (.dat .int units)],[]=>some (some (b.length≤140737488355328),.tup [.agg [dI (takeT b l ⟨⟨v,ks,t⟩,n⟩ ⟨rs,rg,⟨ov,ou,ts⟩,sg,im⟩ now units).1.r.version,dL (takeT b l ⟨⟨v,ks,t⟩,n⟩ ⟨rs,rg,⟨ov,ou,ts⟩,sg,im⟩ now units).1.r.keys,dI (takeT b l ⟨⟨v,ks,t⟩,n⟩ ⟨rs,rg,⟨ov,ou,ts⟩,sg,im⟩ now units).1.r.thr,dI (takeT b l ⟨⟨v,ks,t⟩,n⟩ ⟨rs,rg,⟨ov,ou,ts⟩,sg,im⟩ now units).1.version],.one (dI (takeT b l ⟨⟨v,ks,t⟩,n⟩ ⟨rs,rg,⟨ov,ou,ts⟩,sg,im⟩ now units).2)],[])
 | _,_=>none
def Γ_q119:Ctx:=[(n_q116,c_q116),(n_q117,c_q117),(n_q118,c_q118),(n_q95,c_q95),(n_q89,c_q89),(n_q115,c_q115),(n_q97,c_q97),(n_q2,c_q2)]
theorem ok_q119:Ok Tryz.prog tab Γ_q119:=((((((((ok_nil.c hg_q2 sound_q2).c hg_q97 sound_q97).c hg_q115 sound_q115).c hg_q89 sound_q89).c hg_q95 sound_q95).c hg_q118 sound_q118).c hg_q117 sound_q117).c hg_q116 sound_q116)
noncomputable def q119_L0:List It:=[.inLoop [57,56,55,14,13,12,9,8,6,1,4,5] (cSub fn_q119 [1,1,1,1,0,1,0,0]),.inBlock 0,.code (cSub fn_q119 [1,1,1,1,1])]
def q119_S0 (x0 x1:Int) (x2:List Vm.Root) (x3:Int) (x4:List Vm.Signed) (x5 x6 x7 x8 x9:Int) (x10:List Vm.Root) (x11:List (List Int)) (x12 x13:Int) (x14:List Vm.Target) (x15:List Int) (x16:List (List Int)) (x17:Int) (x18:List Int) (x19 x20:Int) (x21:List (List UInt8)) (x22:List Int):St:=⟨[(57,.one (dI x0)),(56,.one (dI x1)),(55,.one (.dat (Ty.list Ty.root) x2)),(14,.one (.fn n_q118 [])),(13,.one (dI x3)),(12,.one (.ptr 0 0)),(9,.one (.ptr 1 0)),(8,.one (.ptr 2 0)),(6,.one (.ptr 3 0)),(1,.one (.dat (Ty.list Ty.signed) x4)),(4,.one (dI x5)),(5,.one (dI x6))],[(0,.box [dI x7,.own 4,dI x8,dI x9]),(1,.box [.dat (Ty.list Ty.root) x10,dR x11,dI x12,dI x13,.dat (Ty.list Ty.target) x14,dL x15,dR x16]),(2,.box [dI x17,dL x18,dI x19,dI x20]),(3,.box [.dat (Ty.list Ty.str) x21]),(4,.arr Ty.int x22)],5⟩
noncomputable def q119_L1:List It:=[.inLoop [181,180,179,14,13,12,9,8,6] (cSub fn_q119 [1,1,1,1,1,1,1,1,1,1,1,0,1,0,0]),.inBlock 3,.code (cSub fn_q119 [1,1,1,1,1,1,1,1,1,1,1,1])]
def q119_S1 (x0 x1:Int) (x2:List Vm.Target) (x3 x4 x5 x6:Int) (x7:List Vm.Root) (x8:List (List Int)) (x9 x10:Int) (x11:List Vm.Target) (x12:List Int) (x13:List (List Int)) (x14:Int) (x15:List Int) (x16 x17:Int) (x18:List (List UInt8)) (x19:List Int):St:=⟨[(181,.one (dI x0)),(180,.one (dI x1)),(179,.one (.dat (Ty.list Ty.target) x2)),(14,.one (.fn n_q118 [])),(13,.one (dI x3)),(12,.one (.ptr 0 0)),(9,.one (.ptr 1 0)),(8,.one (.ptr 2 0)),(6,.one (.ptr 3 0))],[(0,.box [dI x4,.own 4,dI x5,dI x6]),(1,.box [.dat (Ty.list Ty.root) x7,dR x8,dI x9,dI x10,.dat (Ty.list Ty.target) x11,dL x12,dR x13]),(2,.box [dI x14,dL x15,dI x16,dI x17]),(3,.box [.dat (Ty.list Ty.str) x18]),(4,.arr Ty.int x19)],5⟩
theorem q119_vc (b:List (List UInt8)) (l:List Signed) (v:Int) (ks:List Int) (t n:Int) (rs:List Root) (rg:List (List Int)) (ov ou:Int) (ts:List Vm.Target) (sg:List Int) (im:List (List Int)) (now units:Int) (rec:RK) (K:KK) v0 (hv0:v0=checkTrust ⟨⟨v,ks,t⟩,n⟩) v1 (hv1:v1=K (.tup [.agg [dI (0:Int),dL [],dI (0:Int),dI (0:Int)],.one (dI 2)]) []):segD Γ_q119 tab fn_q119 0 K rec [.code (bodyOf fn_q119)] (initSt [.agg [.dat (Ty.list Ty.str) b],.one (.dat (Ty.list Ty.signed) l),.agg [dI v,dL ks,dI t,dI n],.agg [.dat (Ty.list Ty.root) rs,dR rg,dI ov,dI ou,.dat (Ty.list Ty.target) ts,dL sg,dR im],.one (dI now),.one (dI units)] [])=(
 br (!(eqi v0 0))
 (K (.tup [.agg [dI (0:Int),dL [],dI (0:Int),dI (0:Int)],.one (dI v0)]) [])
 (br (lti 6 (len rs:Int))
 v1
 (br (!(eqi (len rg:Int) (len rs:Int)))
 v1
 (rec q119_L0 (q119_S0 0 (len rs:Int) rs 0 l now units 0 0 0 rs rg ov ou ts sg im v ks t n b []))))):=by subst_vars; kernel_rfl
theorem q119_vc0 (x0 x1:Int) (x2:List Vm.Root) (x3:Int) (x4:List Vm.Signed) (x5 x6 x7 x8 x9:Int) (x10:List Vm.Root) (x11:List (List Int)) (x12 x13:Int) (x14:List Vm.Target) (x15:List Int) (x16:List (List Int)) (x17:Int) (x18:List Int) (x19 x20:Int) (x21:List (List UInt8)) (x22:List Int) (rec:RK) (K:KK) v0 (hv0:v0=turnT x21 x4 ⟨⟨x17,x18,x19⟩,x20⟩ ⟨(nth x2 (Int.toNat x0) (Ty.dflt Ty.root)).version,(nth x2 (Int.toNat x0) (Ty.dflt Ty.root)).keys,(nth x2 (Int.toNat x0) (Ty.dflt Ty.root)).thr⟩ (nth x11 (Int.toNat x0) (Ty.dflt (Ty.list Ty.int)))) v1 (hv1:v1=releaseTextE x12 x13 x14) v2 (hv2:v2=nameB x21 v1.fst) v3 (hv3:v3=countT x4 ⟨x17,x18,x19⟩ x15 v2.fst) v4 (hv4:v4=K (.tup [.agg [dI (0:Int),dL [],dI (0:Int),dI (0:Int)],.one (dI 4)]) []):segD Γ_q119 tab fn_q119 0 K rec (ent q119_L0) (q119_S0 x0 x1 x2 x3 x4 x5 x6 x7 x8 x9 x10 x11 x12 x13 x14 x15 x16 x17 x18 x19 x20 x21 x22)=(
 br (lti x0 x1)
 (((0:Int)≤x0∧x0<(len x2:Int)) ∧
 ((0:Int)≤x0∧x0<(len x11:Int)) ∧
 List.length x21≤140737488355328 ∧
 br (!(eqi v0.snd 0))
 (K (.tup [.agg [dI (0:Int),dL [],dI (0:Int),dI (0:Int)],.one (dI v0.snd)]) [])
 (rec q119_L0 (q119_S0 (w64 (x0+1)) x1 x2 x3 x4 x5 x6 x7 x8 x9 x10 x11 x12 x13 x14 x15 x16 v0.fst.r.version v0.fst.r.keys v0.fst.r.thr v0.fst.version x21 x22)))
 (br (!(eqi v1.snd 0))
 (K (.tup [.agg [dI (0:Int),dL [],dI (0:Int),dI (0:Int)],.one (dI v1.snd)]) [])
 (List.length x21≤140737488355328 ∧
 br (!(eqi v2.snd 0))
 (K (.tup [.agg [dI (0:Int),dL [],dI (0:Int),dI (0:Int)],.one (dI v2.snd)]) [])
 (br (!(eqi v3.snd 0))
 (K (.tup [.agg [dI (0:Int),dL [],dI (0:Int),dI (0:Int)],.one (dI v3.snd)]) [])
 (br (lti v3.fst x19)
 (K (.tup [.agg [dI (0:Int),dL [],dI (0:Int),dI (0:Int)],.one (dI 9)]) [])
 (br (lei x12 x20)
 (K (.tup [.agg [dI (0:Int),dL [],dI (0:Int),dI (0:Int)],.one (dI 10)]) [])
 (br (lti x13 x5)
 (K (.tup [.agg [dI (0:Int),dL [],dI (0:Int),dI (0:Int)],.one (dI 11)]) [])
 (br (!(eqi (len x14:Int) x6))
 v4
 (br (!(eqi (len x16:Int) x6))
 v4
 (rec q119_L1 (q119_S1 0 (len x14:Int) x14 x3 x7 x8 x9 x10 x11 x12 x13 x14 x15 x16 x17 x18 x19 x20 x21 x22))))))))))):=by subst_vars; kernel_rfl
theorem q119_vc1 (x0 x1:Int) (x2:List Vm.Target) (x3 x4 x5 x6:Int) (x7:List Vm.Root) (x8:List (List Int)) (x9 x10:Int) (x11:List Vm.Target) (x12:List Int) (x13:List (List Int)) (x14:Int) (x15:List Int) (x16 x17:Int) (x18:List (List UInt8)) (x19:List Int) (rec:RK) (K:KK) v0 (hv0:v0=imageName x18 (nth x13 (Int.toNat x0) (Ty.dflt (Ty.list Ty.int)))) v1 (hv1:v1=K (.tup [.agg [dI (0:Int),dL [],dI (0:Int),dI (0:Int)],.one (dI 5)]) []):segD Γ_q119 tab fn_q119 0 K rec (ent q119_L1) (q119_S1 x0 x1 x2 x3 x4 x5 x6 x7 x8 x9 x10 x11 x12 x13 x14 x15 x16 x17 x18 x19)=(
 br (lti x0 x1)
 (((0:Int)≤x0∧x0<(len x2:Int)) ∧
 ((0:Int)≤x0∧x0<(len x13:Int)) ∧
 List.length x18≤140737488355328 ∧
 br (!(eqi v0.snd 0))
 v1
 (br (!(eqi v0.fst (nth x2 (Int.toNat x0) (Ty.dflt Ty.target)).image))
 v1
 (((0:Int)≤x0∧x0<(len x13:Int)) ∧
 br (!(eqi (((len (nth x13 (Int.toNat x0) (Ty.dflt (Ty.list Ty.int)))):Nat):Int) (nth x2 (Int.toNat x0) (Ty.dflt Ty.target)).long))
 v1
 (rec q119_L1 (q119_S1 (w64 (x0+1)) x1 x2 x3 x4 x5 x6 x7 x8 x9 x10 x11 x12 x13 x14 x15 x16 x17 x18 x19)))))
 (len x15*8≤140737488355328 ∧
 K (.tup [.agg [dI x14,dL x15,dI x16,dI x9],.one (dI 0)]) [])):=by subst_vars; kernel_rfl

theorem loop1_trust_Take (b:List (List UInt8)) (hb:b.length≤140737488355328) (ts:List Vm.Target) (im:List (List Int)) (hl:ts.length≤4) (hi:im.length=ts.length) (K:KK) (x3 x4 x5 x6:Int) (rs:List Vm.Root) (rg:List (List Int)) (ov ou:Int) (sg:List Int) (v:Int) (ks:List Int) (t n:Int) (hk:ks.length≤6) (x19:List Int):∀ (d k:Nat),k+d=ts.length →
  (okImages b (ts.drop k) (im.drop k)=true→K (.tup [.agg [dI v,dL ks,dI t,dI ov],.one (dI 0)]) []) →
  (okImages b (ts.drop k) (im.drop k)=false→K (.tup [.agg [dI 0,dL [],dI 0,dI 0],.one (dI 5)]) []) →
  goD Γ_q119 tab fn_q119 0 K (d+1) q119_L1 (q119_S1 (k:Int) (((len ts):Nat):Int) ts x3 x4 x5 x6 rs rg ov ou ts sg im v ks t n b x19)
 | 0,k,hk',hT,hF=>by
  rw [goD_in (L:=q119_L1),q119_vc1 _ _ _ _ _ _ _ _ _ _ _ _ _ _ _ _ _ _ _ _ _ _ _ rfl _ rfl]
  rw [List.drop_of_length_le (by omega)] at hT
  exact lt_f (by simp only [len]; omega) ⟨by simp only [len]; omega,hT rfl⟩
 | d+1,k,hk',hT,hF=>by
  rw [goD_in (L:=q119_L1),q119_vc1 _ _ _ _ _ _ _ _ _ _ _ _ _ _ _ _ _ _ _ _ _ _ _ rfl _ rfl,toNat_nat]
  rw [drop_step (l:=ts) (by omega) (Ty.dflt Ty.target),drop_step (l:=im) (by omega) (Ty.dflt (Ty.list Ty.int))] at hT hF
  obtain ⟨x,hx⟩:∃ x,nth ts k (Ty.dflt Ty.target)=x:=⟨_,rfl⟩
  obtain ⟨w,hw⟩:∃ w,nth im k (Ty.dflt (Ty.list Ty.int))=w:=⟨_,rfl⟩
  rw [hx,hw] at hT hF ⊢
  simp only [okImages,List.headD_cons,List.tail_cons] at hT hF
  have five:okImage b x w=false→K (.tup [.agg [dI 0,dL [],dI 0,dI 0],.one (dI 5)]) []:=fun h=>hF (by rw [h]; rfl)
  have ek:w64 ((k:Int)+1)=((k+1:Nat):Int):=w64_succ (by omega)
  rw [ek]
  refine lt_t (by simp only [len]; omega) ⟨⟨by omega,by simp only [len]; omega⟩,⟨by omega,by simp only [len]; omega⟩,hb,ne_s (fun h=>five ?_) (fun h=>ne_s (fun h2=>five ?_) (fun h2=>⟨⟨by omega,by simp only [len]; omega⟩,ne_s (fun h3=>five ?_) (fun h3=>?_)⟩))⟩
  ·simp [okImage,h]
  ·simp [okImage,h2]
  ·simp only [okImage,Bool.and_eq_false_iff,decide_eq_false_iff_not]; exact .inr h3
  ·have ok:okImage b x w=true:=by
    simp only [okImage,Bool.and_eq_true,decide_eq_true_eq]; exact ⟨⟨h,h2⟩,h3⟩
   rw [ok] at hT hF
   exact loop1_trust_Take b hb ts im hl hi K x3 x4 x5 x6 rs rg ov ou sg v ks t n hk x19 d (k+1) (by omega) (fun g=>hT (by rw [g]; rfl)) (fun g=>hF (by rw [g]; rfl))
theorem loop_q119 (b:List (List UInt8)) (hb:b.length≤140737488355328) (l:List Vm.Signed) (rs:List Vm.Root) (rg:List (List Int)) (ov ou:Int) (ts:List Vm.Target) (sg:List Int) (im:List (List Int)) (now units:Int) (hr:rs.length≤6) (hg:rg.length=rs.length) (K:KK) (x3 x7 x8 x9:Int) (x22:List Int):∀ (d k:Nat) (v:Int) (ks:List Int) (t n:Int),k+d=rs.length→ks.length≤6 →
  K (.tup [.agg [dI (takeEnd b l ⟨rs,rg,⟨ov,ou,ts⟩,sg,im⟩ now units (rootsT b l ⟨⟨v,ks,t⟩,n⟩ (rs.drop k) (rg.drop k))).1.r.version,dL (takeEnd b l ⟨rs,rg,⟨ov,ou,ts⟩,sg,im⟩ now units (rootsT b l ⟨⟨v,ks,t⟩,n⟩ (rs.drop k) (rg.drop k))).1.r.keys,dI (takeEnd b l ⟨rs,rg,⟨ov,ou,ts⟩,sg,im⟩ now units (rootsT b l ⟨⟨v,ks,t⟩,n⟩ (rs.drop k) (rg.drop k))).1.r.thr,dI (takeEnd b l ⟨rs,rg,⟨ov,ou,ts⟩,sg,im⟩ now units (rootsT b l ⟨⟨v,ks,t⟩,n⟩ (rs.drop k) (rg.drop k))).1.version],.one (dI (takeEnd b l ⟨rs,rg,⟨ov,ou,ts⟩,sg,im⟩ now units (rootsT b l ⟨⟨v,ks,t⟩,n⟩ (rs.drop k) (rg.drop k))).2)]) [] →
  goD Γ_q119 tab fn_q119 0 K ((ts.length+1)+d+1) q119_L0 (q119_S0 (k:Int) (((len rs):Nat):Int) rs x3 l now units x7 x8 x9 rs rg ov ou ts sg im v ks t n b x22)
 | 0,k,v,ks,t,n,hk,hks,hK=>by
  rw [goD_in (L:=q119_L0),q119_vc0 _ _ _ _ _ _ _ _ _ _ _ _ _ _ _ _ _ _ _ _ _ _ _ _ _ _ rfl _ rfl _ rfl _ rfl _ rfl]
  rw [List.drop_of_length_le (by omega)] at hK
  refine lt_f (by simp only [len]; omega) ?_
  have e0:takeEnd b l ⟨rs,rg,⟨ov,ou,ts⟩,sg,im⟩ now units (rootsT b l ⟨⟨v,ks,t⟩,n⟩ [] (rg.drop k))=if relE b l ⟨⟨v,ks,t⟩,n⟩ ⟨rs,rg,⟨ov,ou,ts⟩,sg,im⟩ now units=0 then (⟨⟨v,ks,t⟩,ov⟩,0) else (noTrust,relE b l ⟨⟨v,ks,t⟩,n⟩ ⟨rs,rg,⟨ov,ou,ts⟩,sg,im⟩ now units):=rfl
  rw [e0] at hK
  have bad:∀ e:Int,e≠0→relE b l ⟨⟨v,ks,t⟩,n⟩ ⟨rs,rg,⟨ov,ou,ts⟩,sg,im⟩ now units=e→K (.tup [.agg [dI 0,dL [],dI 0,dI 0],.one (dI e)]) []:=fun e he h=>by
   rw [if_neg (by rw [h]; exact he),h] at hK; exact hK
  have good:relE b l ⟨⟨v,ks,t⟩,n⟩ ⟨rs,rg,⟨ov,ou,ts⟩,sg,im⟩ now units=0→K (.tup [.agg [dI v,dL ks,dI t,dI ov],.one (dI 0)]) []:=fun h=>by
   rw [if_pos h] at hK; exact hK
  clear hK e0
  refine ne_s (fun h2=>?_) (fun h2=>⟨hb,?_⟩)
  ·unfold releaseTextE at h2 ⊢
   by_cases c:checkRelease ov ou ts=0
   ·rw [if_pos c] at h2; exact absurd rfl h2
   ·rw [if_neg c]
    exact bad _ c (if_neg c)
  have c2:checkRelease ov ou ts=0:=by
   by_cases c:checkRelease ov ou ts=0
   ·exact c
   ·unfold releaseTextE at h2; rw [if_neg c] at h2; exact h2
  rw [show releaseTextE ov ou ts=(releaseText ov ou ts,0) from if_pos c2]
  have E2:relE b l ⟨⟨v,ks,t⟩,n⟩ ⟨rs,rg,⟨ov,ou,ts⟩,sg,im⟩ now units=_:=if_pos c2
  refine ne_s (fun h3=>?_) (fun h3=>?_)
  ·unfold nameB at h3 ⊢
   by_cases c:checkBook b=0
   ·rw [if_pos c] at h3; exact absurd rfl h3
   ·rw [if_neg c]
    exact bad _ c (E2.trans (if_neg c))
  have c3:checkBook b=0:=by
   by_cases c:checkBook b=0
   ·exact c
   ·unfold nameB at h3; rw [if_neg c] at h3; exact h3
  have E3:=E2.trans (if_pos c3)
  simp only [show nameB b (releaseText ov ou ts)=(indexS (releaseText ov ou ts) b+1,0) from if_pos c3]
  obtain ⟨q1,q2,q3,q4,q5,q6,_⟩:=checkRelease_ok c2
  refine ne_s (fun g=>?_) (fun g=>lt_s (fun g2=>?_) (fun g2=>?_))
  ·have e:enough l ⟨v,ks,t⟩ sg (indexS (releaseText ov ou ts) b+1)=(countT l ⟨v,ks,t⟩ sg (indexS (releaseText ov ou ts) b+1)).2:=if_neg g
   exact bad _ g ((E3.trans (if_neg (by rw [e]; exact g))).trans e)
  ·have e:enough l ⟨v,ks,t⟩ sg (indexS (releaseText ov ou ts) b+1)=9:=by unfold enough; rw [if_pos g,if_pos g2]
   exact bad _ (by decide) ((E3.trans (if_neg (by rw [e]; decide))).trans e)
  have e:enough l ⟨v,ks,t⟩ sg (indexS (releaseText ov ou ts) b+1)=0:=by unfold enough; rw [if_pos g,if_neg (by simp only; omega)]
  have E4:=E3.trans (if_pos e)
  simp only at E4
  refine br_split (fun h5=>?_) (fun h5=>?_)
  ·rw [lei_true] at h5
   exact bad _ (by decide) (E4.trans (if_pos h5))
  rw [lei_false] at h5
  have E5:=E4.trans (if_neg (by omega))
  refine lt_s (fun h6=>bad _ (by decide) (E5.trans (if_pos h6))) (fun h6=>?_)
  have E6:=E5.trans (if_neg (by omega))
  refine ne_s (fun h7=>bad _ (by decide) (E6.trans (if_pos (.inl h7)))) (fun h7=>ne_s (fun h8=>bad _ (by decide) (E6.trans (if_pos (.inr h8)))) (fun h8=>?_))
  have E7:=E6.trans (if_neg (by simp only [len] at h7 h8; omega))
  exact loop1_trust_Take b hb ts im q6 (by simp only [len] at h7 h8; omega) K x3 x7 x8 x9 rs rg ov ou sg v ks t n hks x22 ts.length 0 (by omega) (fun g=>good (E7.trans (if_pos g))) (fun g=>bad 5 (by decide) (E7.trans (if_neg (by rw [show okImages b ts im=false from g]; simp))))
 | d+1,k,v,ks,t,n,hk,hks,hK=>by
  rw [show ts.length+1+(d+1)+1=(ts.length+1+d+1)+1 by omega,goD_in (L:=q119_L0),q119_vc0 _ _ _ _ _ _ _ _ _ _ _ _ _ _ _ _ _ _ _ _ _ _ _ _ _ _ rfl _ rfl _ rfl _ rfl _ rfl,toNat_nat]
  rw [drop_step (l:=rs) (by omega) (Ty.dflt Ty.root),drop_step (l:=rg) (by omega) (Ty.dflt (Ty.list Ty.int))] at hK
  obtain ⟨x,hx⟩:∃ x,nth rs k (Ty.dflt Ty.root)=x:=⟨_,rfl⟩
  obtain ⟨w,hw⟩:∃ w,nth rg k (Ty.dflt (Ty.list Ty.int))=w:=⟨_,rfl⟩
  rw [hx,hw] at hK ⊢
  have ek:w64 ((k:Int)+1)=((k+1:Nat):Int):=w64_succ (by omega)
  rw [ek]
  have ex:(⟨x.version,x.keys,x.thr⟩:Vm.Root)=x:=rfl
  rw [ex]
  refine lt_t (by simp only [len]; omega) ⟨⟨by omega,by simp only [len]; omega⟩,⟨by omega,by simp only [len]; omega⟩,hb,ne_s (fun h=>?_) (fun h=>?_)⟩
  ·rw [show rootsT b l ⟨⟨v,ks,t⟩,n⟩ (x::rs.drop (k+1)) (w::rg.drop (k+1))=(noTrust,(turnT b l ⟨⟨v,ks,t⟩,n⟩ x w).2) from if_neg h] at hK
   have e:takeEnd b l ⟨rs,rg,⟨ov,ou,ts⟩,sg,im⟩ now units (noTrust,(turnT b l ⟨⟨v,ks,t⟩,n⟩ x w).2)=(noTrust,(turnT b l ⟨⟨v,ks,t⟩,n⟩ x w).2):=if_neg h
   rw [e] at hK; exact hK
  ·rw [show rootsT b l ⟨⟨v,ks,t⟩,n⟩ (x::rs.drop (k+1)) (w::rg.drop (k+1))=rootsT b l (turnT b l ⟨⟨v,ks,t⟩,n⟩ x w).1 (rs.drop (k+1)) (rg.drop (k+1)) from if_pos h] at hK
   obtain ⟨h1,h2⟩:=turnT_ok h
   obtain ⟨_,h3,_⟩:=turnE_ok h1
   rw [h2] at hK ⊢
   exact loop_q119 b hb l rs rg ov ou ts sg im now units hr hg K x3 x7 x8 x9 x22 d (k+1) x.version x.keys x.thr n (by omega) (checkRoot_ok h3).2.2.2.2.1 hK
theorem run_q119 (hp:b.length≤140737488355328) (K:KK) (hK:K (.tup [.agg [dI (takeT b l ⟨⟨v,ks,t⟩,n⟩ ⟨rs,rg,⟨ov,ou,ts⟩,sg,im⟩ now units).1.r.version,dL (takeT b l ⟨⟨v,ks,t⟩,n⟩ ⟨rs,rg,⟨ov,ou,ts⟩,sg,im⟩ now units).1.r.keys,dI (takeT b l ⟨⟨v,ks,t⟩,n⟩ ⟨rs,rg,⟨ov,ou,ts⟩,sg,im⟩ now units).1.r.thr,dI (takeT b l ⟨⟨v,ks,t⟩,n⟩ ⟨rs,rg,⟨ov,ou,ts⟩,sg,im⟩ now units).1.version],.one (dI (takeT b l ⟨⟨v,ks,t⟩,n⟩ ⟨rs,rg,⟨ov,ou,ts⟩,sg,im⟩ now units).2)]) []):GD Γ_q119 fn_q119 0 K [.agg [.dat (Ty.list Ty.str) b],.one (.dat (Ty.list Ty.signed) l),.agg [dI v,dL ks,dI t,dI n],.agg [.dat (.list .root) rs,dR rg,dI ov,dI ou,.dat (.list .target) ts,dL sg,dR im],.one (dI now),.one (dI units)] []:=by
 refine ⟨ts.length+1+rs.length+1+1,?_⟩
 rw [goD_code,q119_vc _ _ _ _ _ _ _ _ _ _ _ _ _ _ _ _ _ _ rfl _ rfl]
 unfold takeT at hK
 simp only at hK
 refine ne_s (fun h=>?_) (fun h=>lt_s (fun h2=>?_) (fun h2=>ne_s (fun h3=>?_) (fun h3=>?_)))
 ·rw [if_neg h] at hK; exact hK
 ·rw [if_pos h,if_pos (.inl (by simp only [len] at h2; omega))] at hK; exact hK
 ·rw [if_pos h,if_pos (.inr (by simp only [len] at h3; omega))] at hK; exact hK
 ·rw [if_pos h,if_neg (by simp only [len] at h2 h3; omega)] at hK
  exact loop_q119 b hp l rs rg ov ou ts sg im now units (by simp only [len] at h2; omega) (by simp only [len] at h3; omega) K 0 0 0 0 [] rs.length 0 v ks t n (by omega) (checkRoot_ok (checkTrust_ok h).2.2).2.2.2.2.1 hK
theorem sound_q119:SoundC Tryz.prog tab n_q119 c_q119:=soundC_f ok_q119 hg_q119 (by
 intro vs bs p v bs' h hp
 unfold c_q119 at h
 split at h
 ·cases h
  exact ⟨by kernel_rfl,rfl,.inl (run_q119 _ _ _ _ _ _ _ _ _ _ _ _ _ _ _ hp.1 _ ⟨rfl,rfl⟩)⟩
 ·cases h)

def c_q180:Contract:=fun vs bs=>match vs,bs with
 | [.agg [.dat (.list .str) b],.one (.dat (.list .signed) l),.agg [.dat (.list .int) ws,.dat .int fu,.dat .bool up,.dat .int tv,.dat (.list .int) tk,.dat .int tt,.dat .int tn,.dat (.list .bool) vo,.dat (.list .bool) di],.agg [.dat (.list .root) rs,.dat (.list (.list .int)) rg,.dat .int ov,.dat .int ou,.dat (.list .target) ts,.dat (.list .int) sg,.dat (.list (.list .int)) im],.one (.dat .int now)],[]=>some (some (b.length≤140737488355328),.tup [.agg (cG (beginG b l ⟨⟨ws,fu⟩,up,⟨⟨tv,tk,tt⟩,tn⟩,vo,di⟩ ⟨rs,rg,⟨ov,ou,ts⟩,sg,im⟩ now).1),.one (dI (beginG b l ⟨⟨ws,fu⟩,up,⟨⟨tv,tk,tt⟩,tn⟩,vo,di⟩ ⟨rs,rg,⟨ov,ou,ts⟩,sg,im⟩ now).2.1),.one (dI (beginG b l ⟨⟨ws,fu⟩,up,⟨⟨tv,tk,tt⟩,tn⟩,vo,di⟩ ⟨rs,rg,⟨ov,ou,ts⟩,sg,im⟩ now).2.2)],[])
 | _,_=>none
def Γ_q180:Ctx:=[(n_q175,c_q175),(n_q166,c_q166),(n_q119,c_q119),(n_q171,c_q171),(n_q174,c_q174),(n_q172,c_q172)]
theorem ok_q180:Ok Tryz.prog tab Γ_q180:=((((((ok_nil.c hg_q172 sound_q172).c hg_q174 sound_q174).c hg_q171 sound_q171).c hg_q119 sound_q119).c hg_q166 sound_q166).c hg_q175 sound_q175)
theorem q180_vc (b:List (List UInt8)) (l:List Signed) (ws:List Int) (fu:Int) (up:Bool) (tv:Int) (tk:List Int) (tt tn:Int) (vo di:List Bool) (rs:List Root) (rg:List (List Int)) (ov ou:Int) (ts:List Vm.Target) (sg:List Int) (im:List (List Int)) (now:Int) (rec:RK) (K:KK) v0 (hv0:v0=upG ⟨⟨ws,fu⟩,up,⟨⟨tv,tk,tt⟩,tn⟩,vo,di⟩) v1 (hv1:v1=ofG ⟨ws,fu⟩) v2 (hv2:v2=takeT b l ⟨⟨tv,tk,tt⟩,tn⟩ ⟨rs,rg,⟨ov,ou,ts⟩,sg,im⟩ now (len vo:Int)) v3 (hv3:v3=noteG ⟨⟨ws,fu⟩,up,⟨⟨tv,tk,tt⟩,tn⟩,vo,di⟩ ((1:Int)::w64 (v1.n+1)::ov::[])) v4 (hv4:v4=br (eqi v1.n 8)
 (K (.tup [.agg [dL [],dI (0:Int),dB false,dI (0:Int),dL [],dI (0:Int),dI (0:Int),dLb [],dLb []],.one (dI 0),.one (dI 8)]) [])
 (List.length b≤140737488355328 ∧
 br (!(eqi v2.snd 0))
 (K (.tup [.agg [dL [],dI (0:Int),dB false,dI (0:Int),dL [],dI (0:Int),dI (0:Int),dLb [],dLb []],.one (dI 0),.one (dI v2.snd)]) [])
 ((len ws*8≤140737488355328∧len tk*8≤140737488355328∧len vo≤1000∧len di≤1000) ∧
 List.length ((1:Int)::w64 (v1.n+1)::ov::[])≤140737488355328 ∧
 br (!v3.snd)
 (K (.tup [.agg (cG v3.fst),.one (dI 0),.one (dI 0)]) [])
 (K (.tup [.agg [dL v3.fst.f.words,dI v3.fst.f.fuel,dB v3.fst.up,dI v2.fst.r.version,dL v2.fst.r.keys,dI v2.fst.r.thr,dI v2.fst.version,dLb (zeros (List.length v3.fst.voted) false),dLb (zeros (List.length v3.fst.did) false)],.one (dI (w64 (v1.n+1))),.one (dI 0)]) [])))):segD Γ_q180 tab fn_q180 0 K rec [.code (bodyOf fn_q180)] (initSt [.agg [.dat (Ty.list Ty.str) b],.one (.dat (Ty.list Ty.signed) l),.agg [dL ws,dI fu,dB up,dI tv,dL tk,dI tt,dI tn,dLb vo,dLb di],.agg [.dat (Ty.list Ty.root) rs,dR rg,dI ov,dI ou,.dat (Ty.list Ty.target) ts,dL sg,dR im],.one (dI now)] [])=(
 br (!(eqi v0 0))
 (K (.tup [.agg [dL [],dI (0:Int),dB false,dI (0:Int),dL [],dI (0:Int),dI (0:Int),dLb [],dLb []],.one (dI 0),.one (dI v0)]) [])
 (br (lti 0 v1.n)
 (br (!v1.ended)
 (K (.tup [.agg [dL [],dI (0:Int),dB false,dI (0:Int),dL [],dI (0:Int),dI (0:Int),dLb [],dLb []],.one (dI 0),.one (dI 12)]) [])
 v4)
 v4)):=by subst_vars; kernel_rfl

theorem run_q180 (hp:b.length≤140737488355328) (K:KK) (hK:K (.tup [.agg (cG (beginG b l ⟨⟨ws,fu⟩,up,⟨⟨tv,tk,tt⟩,tn⟩,vo,di⟩ ⟨rs,rg,⟨ov,ou,ts⟩,sg,im⟩ now).1),.one (dI (beginG b l ⟨⟨ws,fu⟩,up,⟨⟨tv,tk,tt⟩,tn⟩,vo,di⟩ ⟨rs,rg,⟨ov,ou,ts⟩,sg,im⟩ now).2.1),.one (dI (beginG b l ⟨⟨ws,fu⟩,up,⟨⟨tv,tk,tt⟩,tn⟩,vo,di⟩ ⟨rs,rg,⟨ov,ou,ts⟩,sg,im⟩ now).2.2)]) []):GD Γ_q180 fn_q180 0 K [.agg [.dat (Ty.list Ty.str) b],.one (.dat (Ty.list Ty.signed) l),.agg [dL ws,dI fu,dB up,dI tv,dL tk,dI tt,dI tn,dLb vo,dLb di],.agg [.dat (.list .root) rs,dR rg,dI ov,dI ou,.dat (.list .target) ts,dL sg,dR im],.one (dI now)] []:=by
 refine ⟨1,?_⟩
 rw [goD_code,q180_vc _ _ _ _ _ _ _ _ _ _ _ _ _ _ _ _ _ _ _ _ _ _ rfl _ rfl _ rfl _ rfl _ rfl]
 unfold beginG beginE begunG at hK
 simp only at hK
 have hv0:=ofG_ok ⟨ws,fu⟩
 obtain ⟨s,hs⟩:∃ s,ofG ⟨ws,fu⟩=s:=⟨_,rfl⟩
 rw [hs] at hK hv0 ⊢
 obtain ⟨t,ht⟩:∃ t,takeT b l ⟨⟨tv,tk,tt⟩,tn⟩ ⟨rs,rg,⟨ov,ou,ts⟩,sg,im⟩ now (vo.length:Int)=t:=⟨_,rfl⟩
 rw [show ((len vo:Nat):Int)=(vo.length:Int) from rfl]
 rw [ht] at hK ⊢
 have n0:=hv0.n0
 have n8:=hv0.n8
 have ew:w64 (s.n+1)=s.n+1:=w64_id (by omega) (by omega)
 rw [ew]
 refine ne_s (fun h=>?_) (fun h=>?_)
 ·rw [if_neg h,if_neg h] at hK; exact hK
 have hc:checkG ⟨⟨ws,fu⟩,up,⟨⟨tv,tk,tt⟩,tn⟩,vo,di⟩=0:=upG_check h
 obtain ⟨s1,s2,s3,s4⟩:=checkG_sm hc
 obtain ⟨_,_,l1,l2,_⟩:=note_allG (r:=[1,s.n+1,ov]) (checkG_ok hc).1
 rw [if_pos h] at hK
 by_cases c:0<s.n∧s.ended=false
 ·rw [if_pos c,if_neg (by omega)] at hK
  exact lt_t c.1 (nt_t c.2 hK)
 rw [if_neg c] at hK
 have key:br (eqi s.n 8) (K (.tup [.agg [dL [],dI (0:Int),dB false,dI (0:Int),dL [],dI (0:Int),dI (0:Int),dLb [],dLb []],.one (dI (0:Int)),.one (dI (8:Int))]) []) (((List.length b)≤140737488355328) ∧
   (br (!(eqi t.2 (0:Int)))
    (K (.tup [.agg [dL [],dI (0:Int),dB false,dI (0:Int),dL [],dI (0:Int),dI (0:Int),dLb [],dLb []],.one (dI (0:Int)),.one (dI t.2)]) [])
    (((((len ws)*8)≤140737488355328)∧((((len tk)*8)≤140737488355328)∧(((len vo)≤1000)∧((len di)≤1000)))) ∧
     (((List.length ((1:Int)::(s.n+1)::(ov::[])))≤140737488355328) ∧
     (br (!(noteG ⟨⟨ws,fu⟩,up,⟨⟨tv,tk,tt⟩,tn⟩,vo,di⟩ [1,s.n+1,ov]).2)
      (K (.tup [.agg [dL (((noteG ⟨⟨ws,fu⟩,up,⟨⟨tv,tk,tt⟩,tn⟩,vo,di⟩ [1,s.n+1,ov]).1).f).words,dI (((noteG ⟨⟨ws,fu⟩,up,⟨⟨tv,tk,tt⟩,tn⟩,vo,di⟩ [1,s.n+1,ov]).1).f).fuel,dB ((noteG ⟨⟨ws,fu⟩,up,⟨⟨tv,tk,tt⟩,tn⟩,vo,di⟩ [1,s.n+1,ov]).1).up,dI ((((noteG ⟨⟨ws,fu⟩,up,⟨⟨tv,tk,tt⟩,tn⟩,vo,di⟩ [1,s.n+1,ov]).1).t).r).version,dL ((((noteG ⟨⟨ws,fu⟩,up,⟨⟨tv,tk,tt⟩,tn⟩,vo,di⟩ [1,s.n+1,ov]).1).t).r).keys,dI ((((noteG ⟨⟨ws,fu⟩,up,⟨⟨tv,tk,tt⟩,tn⟩,vo,di⟩ [1,s.n+1,ov]).1).t).r).thr,dI (((noteG ⟨⟨ws,fu⟩,up,⟨⟨tv,tk,tt⟩,tn⟩,vo,di⟩ [1,s.n+1,ov]).1).t).version,dLb ((noteG ⟨⟨ws,fu⟩,up,⟨⟨tv,tk,tt⟩,tn⟩,vo,di⟩ [1,s.n+1,ov]).1).voted,dLb ((noteG ⟨⟨ws,fu⟩,up,⟨⟨tv,tk,tt⟩,tn⟩,vo,di⟩ [1,s.n+1,ov]).1).did],.one (dI (0:Int)),.one (dI (0:Int))]) [])
      (K (.tup [.agg [dL (((noteG ⟨⟨ws,fu⟩,up,⟨⟨tv,tk,tt⟩,tn⟩,vo,di⟩ [1,s.n+1,ov]).1).f).words,dI (((noteG ⟨⟨ws,fu⟩,up,⟨⟨tv,tk,tt⟩,tn⟩,vo,di⟩ [1,s.n+1,ov]).1).f).fuel,dB ((noteG ⟨⟨ws,fu⟩,up,⟨⟨tv,tk,tt⟩,tn⟩,vo,di⟩ [1,s.n+1,ov]).1).up,dI ((t.fst).r).version,dL ((t.fst).r).keys,dI ((t.fst).r).thr,dI (t.fst).version,dLb (zeros (List.length ((noteG ⟨⟨ws,fu⟩,up,⟨⟨tv,tk,tt⟩,tn⟩,vo,di⟩ [1,s.n+1,ov]).1).voted) false),dLb (zeros (List.length ((noteG ⟨⟨ws,fu⟩,up,⟨⟨tv,tk,tt⟩,tn⟩,vo,di⟩ [1,s.n+1,ov]).1).did) false)],.one (dI (s.n+1)),.one (dI (0:Int))]) [])))))):=by
  refine eq_s (fun c2=>?_) (fun c2=>?_)
  ·rw [if_pos c2,if_neg (by omega)] at hK; exact hK
  rw [if_neg c2] at hK
  refine ⟨hp,ne_s (fun c3=>?_) (fun c3=>⟨⟨s1,s2,s3,s4⟩,by simp,?_⟩)⟩
  ·rw [if_neg c3] at hK; exact hK
  rw [if_pos c3] at hK
  rw [l1,l2]
  refine nt_s (fun c4=>?_) (fun c4=>?_)
  ·rw [if_neg (by rw [c4]; simp)] at hK; exact hK
  ·rw [if_pos c4] at hK; exact hK
 refine lt_s (fun c1=>nt_s (fun c2=>absurd ⟨c1,c2⟩ c) (fun _=>key)) (fun _=>key)
theorem sound_q180:SoundC Tryz.prog tab n_q180 c_q180:=soundC_f ok_q180 hg_q180 (by
 intro vs bs p v bs' h hp
 unfold c_q180 at h
 split at h
 ·cases h
  exact ⟨by kernel_rfl,rfl,.inl (run_q180 _ _ _ _ _ _ _ _ _ _ _ _ _ _ _ _ _ _ _ hp.1 _ ⟨rfl,rfl⟩)⟩
 ·cases h)

def c_q169:Contract:=fun vs bs=>match vs,bs with
 | [.agg [.dat (.list .int) ws,.dat .int fu,.dat .bool up,.dat .int tv,.dat (.list .int) tk,.dat .int tt,.dat .int tn,.dat (.list .bool) vo,.dat (.list .bool) di]],[]=>some (none,.tup [.agg [dI (readG ⟨⟨ws,fu⟩,up,⟨⟨tv,tk,tt⟩,tn⟩,vo,di⟩).1.n,dI (readG ⟨⟨ws,fu⟩,up,⟨⟨tv,tk,tt⟩,tn⟩,vo,di⟩).1.version,dB (readG ⟨⟨ws,fu⟩,up,⟨⟨tv,tk,tt⟩,tn⟩,vo,di⟩).1.commit,dB (readG ⟨⟨ws,fu⟩,up,⟨⟨tv,tk,tt⟩,tn⟩,vo,di⟩).1.abort,dB (readG ⟨⟨ws,fu⟩,up,⟨⟨tv,tk,tt⟩,tn⟩,vo,di⟩).1.ended],.one (dI (readG ⟨⟨ws,fu⟩,up,⟨⟨tv,tk,tt⟩,tn⟩,vo,di⟩).2)],[])
 | _,_=>none
def Γ_q169:Ctx:=[(n_q168,c_q168),(n_q166,c_q166)]
theorem ok_q169:Ok Tryz.prog tab Γ_q169:=((ok_nil.c hg_q166 sound_q166).c hg_q168 sound_q168)
theorem q169_vc (ws:List Int) (fu:Int) (up:Bool) (tv:Int) (tk:List Int) (tt tn:Int) (vo di:List Bool) (rec:RK) (K:KK) v0 (hv0:v0=checkG ⟨⟨ws,fu⟩,up,⟨⟨tv,tk,tt⟩,tn⟩,vo,di⟩) v1 (hv1:v1=ofG ⟨ws,fu⟩):segD Γ_q169 tab fn_q169 0 K rec [.code (bodyOf fn_q169)] (initSt [.agg [dL ws,dI fu,dB up,dI tv,dL tk,dI tt,dI tn,dLb vo,dLb di]] [])=(
 br (!(eqi v0 0))
 (K (.tup [.agg [dI (0:Int),dI (0:Int),dB false,dB false,dB false],.one (dI v0)]) [])
 (K (.tup [.agg [dI v1.n,dI v1.version,dB v1.commit,dB v1.abort,dB v1.ended],.one (dI 0)]) [])):=by subst_vars; kernel_rfl

theorem run_q169 (K:KK) (hK:K (.tup [.agg [dI (readG ⟨⟨ws,fu⟩,up,⟨⟨tv,tk,tt⟩,tn⟩,vo,di⟩).1.n,dI (readG ⟨⟨ws,fu⟩,up,⟨⟨tv,tk,tt⟩,tn⟩,vo,di⟩).1.version,dB (readG ⟨⟨ws,fu⟩,up,⟨⟨tv,tk,tt⟩,tn⟩,vo,di⟩).1.commit,dB (readG ⟨⟨ws,fu⟩,up,⟨⟨tv,tk,tt⟩,tn⟩,vo,di⟩).1.abort,dB (readG ⟨⟨ws,fu⟩,up,⟨⟨tv,tk,tt⟩,tn⟩,vo,di⟩).1.ended],.one (dI (readG ⟨⟨ws,fu⟩,up,⟨⟨tv,tk,tt⟩,tn⟩,vo,di⟩).2)]) []):GD Γ_q169 fn_q169 0 K [.agg [dL ws,dI fu,dB up,dI tv,dL tk,dI tt,dI tn,dLb vo,dLb di]] []:=by
 refine ⟨1,?_⟩
 rw [goD_code,q169_vc _ _ _ _ _ _ _ _ _ _ _ _ rfl _ rfl]
 unfold readG at hK
 refine ne_s (fun h=>?_) (fun h=>?_)
 ·rw [if_neg h] at hK; exact hK
 ·rw [if_pos h] at hK; exact hK
theorem sound_q169:SoundC Tryz.prog tab n_q169 c_q169:=soundC_f ok_q169 hg_q169 (by
 intro vs bs p v bs' h hp
 unfold c_q169 at h
 split at h
 ·cases h
  exact ⟨by kernel_rfl,rfl,.inl (run_q169 _ _ _ _ _ _ _ _ _ _ ⟨rfl,rfl⟩)⟩
 ·cases h)

def c_q182:Contract:=fun vs bs=>match vs,bs with
 | [],[]=>some (none,.one (dB true),[])
 | _,_=>none
def Γ_q182:Ctx:=[(n_q124,c_q124),(n_q170,c_q170),(n_q180,c_q180),(n_q177,c_q177),(n_q178,c_q178),(n_q169,c_q169)]
theorem ok_q182:Ok Tryz.prog tab Γ_q182:=((((((ok_nil.c hg_q169 sound_q169).c hg_q178 sound_q178).c hg_q177 sound_q177).c hg_q180 sound_q180).c hg_q170 sound_q170).c hg_q124 sound_q124)

theorem run_q182 (K:KK) (hK:K (.one (dB true)) []):GD Γ_q182 fn_q182 0 K [] []:=by
 refine ⟨1,?_⟩
 have e:goD Γ_q182 tab fn_q182 0 K 1 [.code (bodyOf fn_q182)] (initSt [] [])=((len [(3:Int)]*8≤140737488355328)∧(simpleB.length≤140737488355328)∧(1≤140737488355328∧1≤140737488355328)∧K (.one (dB true)) []):=by kernel_rfl
 rw [e]
 exact ⟨by decide,by decide,by decide,hK⟩
theorem sound_q182:SoundC Tryz.prog tab n_q182 c_q182:=soundC_f ok_q182 hg_q182 (by
 intro vs bs p v bs' h hp
 unfold c_q182 at h
 split at h
 ·cases h
  exact ⟨by kernel_rfl,rfl,.inl (run_q182  _ ⟨rfl,rfl⟩)⟩
 ·cases h)

def c_q0:Contract:=fun vs bs=>match vs,bs with
 | [.one (.dat (.list .int) a),.one (.dat (.list .int) b)],[]=>some (some (Sm a),.one (dB (eqIs a b)),[])
 | _,_=>none
def Γ_q0:Ctx:=[]
theorem ok_q0:Ok Tryz.prog tab Γ_q0:=ok_nil
noncomputable def q0_L0:List It:=[.inLoop [13,12,4,0,1] (cSub fn_q0 [1,1,0,1,0,0]),.inBlock 0,.code (cSub fn_q0 [1,1,1])]
def q0_S0 (x0 x1:Int) (x2:Bool) (x3 x4:List Int):St:=⟨[(13,.one (dI x0)),(12,.one (dI x1)),(4,.one (dB x2)),(0,.one (dL x3)),(1,.one (dL x4))],[],0⟩
theorem q0_vc (a b:List Int) (rec:RK) (K:KK):segD Γ_q0 tab fn_q0 0 K rec [.code (bodyOf fn_q0)] (initSt [.one (dL a),.one (dL b)] [])=(
 br (!(eqi (len a:Int) (len b:Int)))
 (K vF [])
 (rec q0_L0 (q0_S0 0 (len a:Int) false a b))):=by kernel_rfl
theorem q0_vc0 (x0 x1:Int) (x2:Bool) (x3 x4:List Int) (rec:RK) (K:KK):segD Γ_q0 tab fn_q0 0 K rec (ent q0_L0) (q0_S0 x0 x1 x2 x3 x4)=(
 br (lti x0 x1)
 (((0:Int)≤x0∧x0<(len x3:Int)) ∧
 ((0:Int)≤x0∧x0<(len x4:Int)) ∧
 br (!(eqi (nth x3 (Int.toNat x0) (Ty.dflt Ty.int)) (nth x4 (Int.toNat x0) (Ty.dflt Ty.int))))
 (K vF [])
 (rec q0_L0 (q0_S0 (w64 (x0+1)) x1 x2 x3 x4)))
 (K vT [])):=by kernel_rfl

theorem loop_q0 (a b:List Int) (hl:a.length=b.length) (hs:Sm a) (K:KK) (hK:K (.one (dB (eqIs a b))) []):∀ (d k:Nat),k+d=a.length→a.take k=b.take k →
  goD Γ_q0 tab fn_q0 0 K (d+1) q0_L0 (q0_S0 (k:Int) (((len a):Nat):Int) false a b)
 | 0,k,hk,he=>by
  rw [goD_in (L:=q0_L0),q0_vc0 _ _ _ _ _ _ _]
  refine lt_f (by simp only [len]; omega) ?_
  rw [List.take_of_length_le (by omega),List.take_of_length_le (by omega)] at he
  rw [show eqIs a b=true from by simp [eqIs,he]] at hK
  exact hK
 | d+1,k,hk,he=>by
  unfold Sm at hs
  rw [goD_in (L:=q0_L0),q0_vc0 _ _ _ _ _ _ _]
  refine lt_t (by simp only [len]; omega) ⟨⟨by omega,by simp only [len]; omega⟩,⟨by omega,by simp only [len]; omega⟩,ne_s (fun hne=>?_) (fun heq=>?_)⟩
  ·rw [show eqIs a b=false from by simp only [eqIs,decide_eq_false_iff_not]; rintro rfl; exact hne rfl] at hK
   exact hK
  ·rw [w64_succ (by omega)]
   refine loop_q0 a b hl ‹Sm a› K hK d (k+1) (by omega) ?_
   rw [take_step (by omega) (Ty.dflt Ty.int),take_step (by omega) (Ty.dflt Ty.int),he]
   rw [toNat_nat] at heq
   rw [heq]
theorem run_q0 (a b:List Int) (hp:Sm a) (K:KK) (hK:K (.one (dB (eqIs a b))) []):GD Γ_q0 fn_q0 0 K [.one (dL a),.one (dL b)] []:=by
 refine ⟨a.length+2,?_⟩
 rw [goD_code,q0_vc _ _ _ _]
 refine ne_s (fun h=>?_) (fun h=>?_)
 ·rw [show eqIs a b=false from by simp only [eqIs,decide_eq_false_iff_not]; rintro rfl; exact h rfl] at hK
  exact hK
 ·exact loop_q0 a b (by simp only [len] at h; omega) hp K hK a.length 0 (by omega) rfl
theorem sound_q0:SoundC Tryz.prog tab n_q0 c_q0:=soundC_f ok_q0 hg_q0 (by
 intro vs bs p v bs' h hp
 unfold c_q0 at h
 split at h
 ·cases h
  exact ⟨by kernel_rfl,rfl,.inl (run_q0 _ _ hp.1 _ ⟨rfl,rfl⟩)⟩
 ·cases h)

def c_q34:Contract:=fun vs bs=>match vs,bs with
 | [.agg [.dat (.list .int) ws,.dat .int fu],.agg [.dat (.list .int) us,.dat .int fv]],[]=>some (some (Sm ws),.one (dB (sameFlash ⟨ws,fu⟩ ⟨us,fv⟩)),[])
 | _,_=>none
def Γ_q34:Ctx:=[(n_q0,c_q0)]
theorem ok_q34:Ok Tryz.prog tab Γ_q34:=(ok_nil.c hg_q0 sound_q0)
theorem q34_vc (ws:List Int) (fu:Int) (us:List Int) (fv:Int) (rec:RK) (K:KK) v0 (hv0:v0=eqIs ws us):segD Γ_q34 tab fn_q34 0 K rec [.code (bodyOf fn_q34)] (initSt [.agg [dL ws,dI fu],.agg [dL us,dI fv]] [])=(
 br (eqi fu fv)
 (List.length ws≤140737488355328 ∧
 K (.one (dB v0)) [])
 (K vF [])):=by subst_vars; kernel_rfl

theorem run_q34 (hp:Sm ws) (K:KK) (hK:K (.one (dB (sameFlash ⟨ws,fu⟩ ⟨us,fv⟩))) []):GD Γ_q34 fn_q34 0 K [.agg [dL ws,dI fu],.agg [dL us,dI fv]] []:=by
 refine ⟨1,?_⟩
 rw [goD_code,q34_vc _ _ _ _ _ _ _ rfl]
 refine eq_s (fun h=>⟨hp,?_⟩) (fun h=>?_)
 ·rw [show sameFlash ⟨ws,fu⟩ ⟨us,fv⟩=eqIs ws us from by simp [sameFlash,h]] at hK; exact hK
 ·rw [show sameFlash ⟨ws,fu⟩ ⟨us,fv⟩=false from by simp [sameFlash,h]] at hK; exact hK
theorem sound_q34:SoundC Tryz.prog tab n_q34 c_q34:=soundC_f ok_q34 hg_q34 (by
 intro vs bs p v bs' h hp
 unfold c_q34 at h
 split at h
 ·cases h
  exact ⟨by kernel_rfl,rfl,.inl (run_q34 _ _ _ _ hp.1 _ ⟨rfl,rfl⟩)⟩
 ·cases h)

def c_q120:Contract:=fun vs bs=>match vs,bs with
 | [.agg [.dat .int v,.dat (.list .int) ks,.dat .int t,.dat .int n],.agg [.dat .int v2,.dat (.list .int) ks2,.dat .int t2,.dat .int n2]],[]=>some (some (Sm ks),.one (dB (sameTrust ⟨⟨v,ks,t⟩,n⟩ ⟨⟨v2,ks2,t2⟩,n2⟩)),[])
 | _,_=>none
def Γ_q120:Ctx:=[(n_q0,c_q0)]
theorem ok_q120:Ok Tryz.prog tab Γ_q120:=(ok_nil.c hg_q0 sound_q0)
theorem q120_vc (v:Int) (ks:List Int) (t n v2:Int) (ks2:List Int) (t2 n2:Int) (rec:RK) (K:KK) v0 (hv0:v0=eqIs ks ks2):segD Γ_q120 tab fn_q120 0 K rec [.code (bodyOf fn_q120)] (initSt [.agg [dI v,dL ks,dI t,dI n],.agg [dI v2,dL ks2,dI t2,dI n2]] [])=(
 br (eqi n n2)
 (br (eqi v v2)
 (br (eqi t t2)
 (List.length ks≤140737488355328 ∧
 K (.one (dB v0)) [])
 (K vF []))
 (K vF []))
 (K vF [])):=by subst_vars; kernel_rfl

theorem run_q120 (hp:Sm ks) (K:KK) (hK:K (.one (dB (sameTrust ⟨⟨v,ks,t⟩,n⟩ ⟨⟨v2,ks2,t2⟩,n2⟩))) []):GD Γ_q120 fn_q120 0 K [.agg [dI v,dL ks,dI t,dI n],.agg [dI v2,dL ks2,dI t2,dI n2]] []:=by
 refine ⟨1,?_⟩
 rw [goD_code,q120_vc _ _ _ _ _ _ _ _ _ _ _ rfl]
 unfold sameTrust at hK
 simp only at hK
 refine br_split (fun h=>br_split (fun h2=>br_split (fun h3=>⟨hp,?_⟩) (fun h3=>?_)) (fun h2=>?_)) (fun h=>?_)
 ·rw [h,h2,h3] at hK; exact hK
 ·rw [h,h2,h3] at hK; exact hK
 ·rw [h,h2] at hK; exact hK
 ·rw [h] at hK; exact hK
theorem sound_q120:SoundC Tryz.prog tab n_q120 c_q120:=soundC_f ok_q120 hg_q120 (by
 intro vs bs p v bs' h hp
 unfold c_q120 at h
 split at h
 ·cases h
  exact ⟨by kernel_rfl,rfl,.inl (run_q120 _ _ _ _ _ _ _ _ hp.1 _ ⟨rfl,rfl⟩)⟩
 ·cases h)

def c_q164:Contract:=fun vs bs=>match vs,bs with
 | [.one (.dat (.list .bool) a),.one (.dat (.list .bool) b)],[]=>some (some (len a≤140737488355328),.one (dB (eqBs a b)),[])
 | _,_=>none
def Γ_q164:Ctx:=[]
theorem ok_q164:Ok Tryz.prog tab Γ_q164:=ok_nil
noncomputable def q164_L0:List It:=[.inLoop [13,12,4,0,1] (cSub fn_q164 [1,1,0,1,0,0]),.inBlock 0,.code (cSub fn_q164 [1,1,1])]
def q164_S0 (x0 x1:Int) (x2:Bool) (x3 x4:List Bool):St:=⟨[(13,.one (dI x0)),(12,.one (dI x1)),(4,.one (dB x2)),(0,.one (dLb x3)),(1,.one (dLb x4))],[],0⟩
theorem q164_vc (a b:List Bool) (rec:RK) (K:KK):segD Γ_q164 tab fn_q164 0 K rec [.code (bodyOf fn_q164)] (initSt [.one (dLb a),.one (dLb b)] [])=(
 br (!(eqi (len a:Int) (len b:Int)))
 (K vF [])
 (rec q164_L0 (q164_S0 0 (len a:Int) false a b))):=by kernel_rfl
theorem q164_vc0 (x0 x1:Int) (x2:Bool) (x3 x4:List Bool) (rec:RK) (K:KK):segD Γ_q164 tab fn_q164 0 K rec (ent q164_L0) (q164_S0 x0 x1 x2 x3 x4)=(
 br (lti x0 x1)
 (((0:Int)≤x0∧x0<(len x3:Int)) ∧
 ((0:Int)≤x0∧x0<(len x4:Int)) ∧
 br (!(eqb (nth x3 (Int.toNat x0) (Ty.dflt Ty.bool)) (nth x4 (Int.toNat x0) (Ty.dflt Ty.bool))))
 (K vF [])
 (rec q164_L0 (q164_S0 (w64 (x0+1)) x1 x2 x3 x4)))
 (K vT [])):=by kernel_rfl

theorem loop_q164 (a b:List Bool) (hl:a.length=b.length) (hs:a.length≤140737488355328) (K:KK) (hK:K (.one (dB (eqBs a b))) []):∀ (d k:Nat),k+d=a.length→a.take k=b.take k →
  goD Γ_q164 tab fn_q164 0 K (d+1) q164_L0 (q164_S0 (k:Int) (((len a):Nat):Int) false a b)
 | 0,k,hk,he=>by
  rw [goD_in (L:=q164_L0),q164_vc0 _ _ _ _ _ _ _]
  refine lt_f (by simp only [len]; omega) ?_
  rw [List.take_of_length_le (by omega),List.take_of_length_le (by omega)] at he
  rw [show eqBs a b=true from decide_eq_true he] at hK
  exact hK
 | d+1,k,hk,he=>by
  rw [goD_in (L:=q164_L0),q164_vc0 _ _ _ _ _ _ _]
  refine lt_t (by simp only [len]; omega) ⟨⟨by omega,by simp only [len]; omega⟩,⟨by omega,by simp only [len]; omega⟩,nt_s (fun hne=>?_) (fun heq=>?_)⟩
  ·have hne:=of_decide_eq_false hne
   rw [show eqBs a b=false from decide_eq_false (by rintro rfl; exact hne rfl)] at hK
   exact hK
  ·have heq:=of_decide_eq_true heq
   rw [w64_succ (by omega)]
   refine loop_q164 a b hl hs K hK d (k+1) (by omega) ?_
   rw [take_step (by omega) (Ty.dflt Ty.bool),take_step (by omega) (Ty.dflt Ty.bool),he]
   rw [toNat_nat] at heq
   rw [heq]
theorem run_q164 (a b:List Bool) (hp:len a≤140737488355328) (K:KK) (hK:K (.one (dB (eqBs a b))) []):GD Γ_q164 fn_q164 0 K [.one (dLb a),.one (dLb b)] []:=by
 refine ⟨a.length+2,?_⟩
 rw [goD_code,q164_vc _ _ _ _]
 refine ne_s (fun h=>?_) (fun h=>?_)
 ·rw [show eqBs a b=false from decide_eq_false (by rintro rfl; exact h rfl)] at hK
  exact hK
 ·exact loop_q164 a b (by simp only [len] at h; omega) hp K hK a.length 0 (by omega) rfl
theorem sound_q164:SoundC Tryz.prog tab n_q164 c_q164:=soundC_f ok_q164 hg_q164 (by
 intro vs bs p v bs' h hp
 unfold c_q164 at h
 split at h
 ·cases h
  exact ⟨by kernel_rfl,rfl,.inl (run_q164 _ _ hp.1 _ ⟨rfl,rfl⟩)⟩
 ·cases h)

def c_q183:Contract:=fun vs bs=>match vs,bs with
 | [.agg [.dat (.list .int) ws,.dat .int fu,.dat .bool up,.dat .int tv,.dat (.list .int) tk,.dat .int tt,.dat .int tn,.dat (.list .bool) vo,.dat (.list .bool) di],.agg [.dat (.list .int) ws2,.dat .int fu2,.dat .bool up2,.dat .int tv2,.dat (.list .int) tk2,.dat .int tt2,.dat .int tn2,.dat (.list .bool) vo2,.dat (.list .bool) di2]],[]=>some (some (Sm ws∧Sm tk∧len vo≤140737488355328∧len di≤140737488355328),.one (dB (sameGate ⟨⟨ws,fu⟩,up,⟨⟨tv,tk,tt⟩,tn⟩,vo,di⟩ ⟨⟨ws2,fu2⟩,up2,⟨⟨tv2,tk2,tt2⟩,tn2⟩,vo2,di2⟩)),[])
 | _,_=>none
def Γ_q183:Ctx:=[(n_q34,c_q34),(n_q120,c_q120),(n_q164,c_q164)]
theorem ok_q183:Ok Tryz.prog tab Γ_q183:=(((ok_nil.c hg_q164 sound_q164).c hg_q120 sound_q120).c hg_q34 sound_q34)
theorem q183_vc (ws:List Int) (fu:Int) (up:Bool) (tv:Int) (tk:List Int) (tt tn:Int) (vo di:List Bool) (ws2:List Int) (fu2:Int) (up2:Bool) (tv2:Int) (tk2:List Int) (tt2 tn2:Int) (vo2 di2:List Bool) (rec:RK) (K:KK) v0 (hv0:v0=sameFlash ⟨ws,fu⟩ ⟨ws2,fu2⟩) v1 (hv1:v1=sameTrust ⟨⟨tv,tk,tt⟩,tn⟩ ⟨⟨tv2,tk2,tt2⟩,tn2⟩) v2 (hv2:v2=eqBs vo vo2) v3 (hv3:v3=eqBs di di2):segD Γ_q183 tab fn_q183 0 K rec [.code (bodyOf fn_q183)] (initSt [.agg [dL ws,dI fu,dB up,dI tv,dL tk,dI tt,dI tn,dLb vo,dLb di],.agg [dL ws2,dI fu2,dB up2,dI tv2,dL tk2,dI tt2,dI tn2,dLb vo2,dLb di2]] [])=(
 List.length ws≤140737488355328 ∧
 br v0
 (br (eqb up up2)
 (List.length tk≤140737488355328 ∧
 br v1
 (len vo≤140737488355328 ∧
 br v2
 (len di≤140737488355328 ∧
 K (.one (dB v3)) [])
 (K vF []))
 (K vF []))
 (K vF []))
 (K vF [])):=by subst_vars; kernel_rfl

theorem run_q183 (hp:Sm ws∧Sm tk∧len vo≤140737488355328∧len di≤140737488355328) (K:KK) (hK:K (.one (dB (sameGate ⟨⟨ws,fu⟩,up,⟨⟨tv,tk,tt⟩,tn⟩,vo,di⟩ ⟨⟨ws2,fu2⟩,up2,⟨⟨tv2,tk2,tt2⟩,tn2⟩,vo2,di2⟩))) []):GD Γ_q183 fn_q183 0 K [.agg [dL ws,dI fu,dB up,dI tv,dL tk,dI tt,dI tn,dLb vo,dLb di],.agg [dL ws2,dI fu2,dB up2,dI tv2,dL tk2,dI tt2,dI tn2,dLb vo2,dLb di2]] []:=by
 refine ⟨1,?_⟩
 rw [goD_code,q183_vc _ _ _ _ _ _ _ _ _ _ _ _ _ _ _ _ _ _ _ _ _ rfl _ rfl _ rfl _ rfl]
 unfold sameGate at hK
 simp only at hK
 refine ⟨hp.1,br_split (fun h1=>br_split (fun h2=>⟨hp.2.1,br_split (fun h3=>⟨hp.2.2.1,br_split (fun h4=>⟨hp.2.2.2,?_⟩) (fun h4=>?_)⟩) (fun h3=>?_)⟩) (fun h2=>?_)) (fun h1=>?_)⟩
 ·rw [h1,h2,h3,h4] at hK; exact hK
 ·rw [h1,h2,h3,h4] at hK; exact hK
 ·rw [h1,h2,h3] at hK; exact hK
 ·rw [h1,h2] at hK; exact hK
 ·rw [h1] at hK; exact hK
theorem sound_q183:SoundC Tryz.prog tab n_q183 c_q183:=soundC_f ok_q183 hg_q183 (by
 intro vs bs p v bs' h hp
 unfold c_q183 at h
 split at h
 ·cases h
  exact ⟨by kernel_rfl,rfl,.inl (run_q183 _ _ _ _ _ _ _ _ _ _ _ _ _ _ _ _ _ _ hp.1 _ ⟨rfl,rfl⟩)⟩
 ·cases h)

def c_q81:Contract:=fun vs bs=>match vs,bs with
 | [.agg [.dat (.list .int) ws,.dat .int _]],[]=>some (some (64≤len ws∧len ws≤192∧okWords ws=true),.tup [.one (dR (recsOf ws)),.one (dI (nextI (liveS ws) (scanS ws (liveS ws)).2))],[])
 | _,_=>none
def Γ_q81:Ctx:=[(n_q77,c_q77)]
theorem ok_q81:Ok Tryz.prog tab Γ_q81:=(ok_nil.c hg_q77 sound_q77)
noncomputable def q81_L0:List It:=[.inLoop [8,7,6,3,2,1] (cSub fn_q81 [1,1,1,1,0,0,0]),.inBlock 0,.code (cSub fn_q81 [1,1,1,1,1])]
def q81_S0 (x0 x1 x2:Int) (x3 x4:List (List Int)) (x5:List Int) (x6:Int):St:=⟨[(8,.one (dI x0)),(7,.one (dI x1)),(6,.one (.own 0)),(3,.one (dI x2)),(2,.one (.own 1)),(1,.one (.ptr 2 0))],[(0,.arr (Ty.list Ty.int) x3),(1,.arr (Ty.list Ty.int) x4),(2,.box [dL x5,dI x6])],3⟩
noncomputable def q81_L1:List It:=[.inLoop [84,83,82,7,6,3,2] (cSub fn_q81 [1,1,1,1,1,0,1,0,0]),.inBlock 2,.code (cSub fn_q81 [1,1,1,1,1,1])]
def q81_S1 (x0 x1:Int) (x2:List Int) (x3 x4:Int) (x5 x6:List (List Int)):St:=⟨[(84,.one (dI x0)),(83,.one (dI x1)),(82,.one (dL x2)),(7,.one (dI x3)),(6,.one (.own 0)),(3,.one (dI x4)),(2,.one (.own 1))],[(0,.arr (Ty.list Ty.int) x5),(1,.arr (Ty.list Ty.int) x6)],2⟩
theorem q81_vc (ws:List Int) (fu:Int) (rec:RK) (K:KK) v0 (hv0:v0=liveS ws):segD Γ_q81 tab fn_q81 0 K rec [.code (bodyOf fn_q81)] (initSt [.agg [dL ws,dI fu]] [])=(
 64≤len ws ∧
 rec q81_L0 (q81_S0 (w64 (w64 ((32:Int)*((v0:Nat):Int))+32)) (w64 (w64 ((32:Int)*((v0:Nat):Int))+1)) 0 [] [] ws fu)):=by subst_vars; kernel_rfl
theorem q81_vc0 (x0 x1 x2:Int) (x3 x4:List (List Int)) (x5:List Int) (x6:Int) (rec:RK) (K:KK) v0 (hv0:v0=rec q81_L1 (q81_S1 0 (len (slc x5 (Int.toNat x1) (Int.toNat x0)):Int) (slc x5 (Int.toNat x1) (Int.toNat x0)) x1 x2 x3 x4)):segD Γ_q81 tab fn_q81 0 K rec (ent q81_L0) (q81_S0 x0 x1 x2 x3 x4 x5 x6)=(
 br (lti x1 x0)
 (((0:Int)≤x1∧x1<(len x5:Int)) ∧
 br (lei 42241 (nth x5 (Int.toNat x1) (Ty.dflt Ty.int)))
 (((0:Int)≤x1∧x1<(len x5:Int)) ∧
 br (lei (nth x5 (Int.toNat x1) (Ty.dflt Ty.int)) 42244)
 (((0:Int)≤x1∧x1<(len x5:Int)) ∧
 br (lti (w64 (w64 (x1+nth x5 (Int.toNat x1) (Ty.dflt Ty.int))-42240)) x0)
 (((0:Int)≤x1∧x1<(len x5:Int)) ∧
 ((0:Int)≤w64 (x1+1)∧w64 (x1+1)≤w64 (w64 (x1+1)+w64 (nth x5 (Int.toNat x1) (Ty.dflt Ty.int)-42240))∧w64 (w64 (x1+1)+w64 (nth x5 (Int.toNat x1) (Ty.dflt Ty.int)-42240))≤(len x5:Int)) ∧
 (0+len (slc x5 (Int.toNat (w64 (x1+1))) (Int.toNat (w64 (w64 (x1+1)+w64 (nth x5 (Int.toNat x1) (Ty.dflt Ty.int)-42240))))))*8≤140737488355328 ∧
 (len x3+len (cat [] (slc x5 (Int.toNat (w64 (x1+1))) (Int.toNat (w64 (w64 (x1+1)+w64 (nth x5 (Int.toNat x1) (Ty.dflt Ty.int)-42240)))))::[]))*24≤140737488355328 ∧
 rec q81_L0 (q81_S0 x0 (w64 (x1+w64 ((1:Int)+w64 (nth x5 (Int.toNat x1) (Ty.dflt Ty.int)-42240)))) x2 (cat x3 (cat [] (slc x5 (Int.toNat (w64 (x1+1))) (Int.toNat (w64 (w64 (x1+1)+w64 (nth x5 (Int.toNat x1) (Ty.dflt Ty.int)-42240)))))::[])) x4 x5 x6))
 (((0:Int)≤x1∧x1≤x0∧x0≤(len x5:Int)) ∧
 v0))
 (((0:Int)≤x1∧x1≤x0∧x0≤(len x5:Int)) ∧
 v0))
 (((0:Int)≤x1∧x1≤x0∧x0≤(len x5:Int)) ∧
 v0))
 (((0:Int)≤x1∧x1≤x0∧x0≤(len x5:Int)) ∧
 v0)):=by subst_vars; kernel_rfl
theorem q81_vc1 (x0 x1:Int) (x2:List Int) (x3 x4:Int) (x5 x6:List (List Int)) (rec:RK) (K:KK):segD Γ_q81 tab fn_q81 0 K rec (ent q81_L1) (q81_S1 x0 x1 x2 x3 x4 x5 x6)=(
 br (lti x0 x1)
 (((0:Int)≤x0∧x0<(len x2:Int)) ∧
 br (!(eqi (nth x2 (Int.toNat x0) (Ty.dflt Ty.int)) 65535))
 (K (.tup [.one (dR x5),.one (dI (-1))]) [])
 (rec q81_L1 (q81_S1 (w64 (x0+1)) x1 x2 x3 x4 x5 x6)))
 (K (.tup [.one (dR x5),.one (dI x3)]) [])):=by kernel_rfl

theorem clean_ref_RecordsOf (x3 x4:Int) (x5 x6:List (List Int)) (K:KK) (t:List Int) (ht:t.length≤32)
  (hK:K (.tup [.one (dR x5),.one (dI (if allClean t then x3 else -1))]) []):∀ (d k:Nat),t.length≤k+d→k≤t.length→allClean (t.take k)=true →
  goD Γ_q81 tab fn_q81 0 K (d+1) q81_L1 (q81_S1 (k:Int) (((len t):Nat):Int) t x3 x4 x5 x6)
 | 0,k,hk,hk2,he=>by
  rw [goD_in (L:=q81_L1),q81_vc1 _ _ _ _ _ _ _ _ _]
  rw [List.take_of_length_le (by omega)] at he
  rw [if_pos he] at hK
  exact lt_f (by simp only [len]; omega) hK
 | d+1,k,hk,hk2,he=>by
  rw [goD_in (L:=q81_L1),q81_vc1 _ _ _ _ _ _ _ _ _,toNat_nat]
  by_cases c:k=t.length
  ·rw [List.take_of_length_le (by omega)] at he
   rw [if_pos he] at hK
   exact lt_f (by simp only [len]; omega) hK
  refine lt_t (by simp only [len]; omega) ⟨⟨by omega,by simp only [len]; omega⟩,ne_s (fun hne=>?_) (fun heq=>?_)⟩
  ·rw [if_neg (by rw [show allClean t=false from all_false (k:=k) (by omega) (Ty.dflt Ty.int) (by simpa using hne)]; simp)] at hK
   exact hK
  ·rw [w64_succ (by omega)]
   exact clean_ref_RecordsOf x3 x4 x5 x6 K t ht hK d (k+1) (by omega) (by omega) (all_take_step (by omega) (Ty.dflt Ty.int) he (by simpa using heq))
theorem exit_ref_RecordsOf (ws:List Int) (sec:Nat) (hsec:sec≤1) (hl:32*sec+32≤ws.length) (K:KK) (k:Nat) (hk:k≤31) (acc:List (List Int)) (x2:Int) (x4:List (List Int)) (M:Nat)
  (hK:K (.tup [.one (dR acc),.one (dI (if allClean ((tailS ws sec).drop k) then 32*(sec:Int)+1+k else -1))]) []) :
  goD Γ_q81 tab fn_q81 0 K (M+33) q81_L1 (q81_S1 (0:Int) (((len (slc ws (32*sec+1+k) (32*sec+32))):Nat):Int) (slc ws (32*sec+1+k) (32*sec+32)) (((32*sec+1+k:Nat):Int)) x2 acc x4):=by
 have e:slc ws (32*sec+1+k) (32*sec+32)=(tailS ws sec).drop k:=by
  unfold tailS sectorW slc
  rw [List.drop_drop,List.drop_drop]; congr 1; omega
 rw [e]
 have ll:((tailS ws sec).drop k).length≤32:=by rw [List.length_drop,tailS_len hl]; omega
 refine clean_ref_RecordsOf _ _ _ _ K _ ll ?_ (M+32) 0 (by omega) (by omega) rfl
 rw [show ((32*sec+1+k:Nat):Int)=32*(sec:Int)+1+k by omega]
 exact hK
theorem loop_q81 (ws:List Int) (fu:Int) (sec:Nat) (hsec:sec≤1) (hl:32*sec+32≤ws.length) (hok:okWords ws=true) (x2:Int) (x4:List (List Int)) (K:KK):∀ (m k:Nat) (acc:List (List Int)),k≤31→31≤m+k→acc.length≤k →
  K (.tup [.one (dR (acc++(scanL m ((tailS ws sec).drop k)).1)),.one (dI (match (scanL m ((tailS ws sec).drop k)).2 with | some n=>32*(sec:Int)+1+k+n | none=>-1))]) [] →
  goD Γ_q81 tab fn_q81 0 K (m+34) q81_L0 (q81_S0 (((32*sec+32:Nat):Int)) (((32*sec+1+k:Nat):Int)) x2 acc x4 ws fu)
 | 0,k,acc,hk,hm,ha,hK=>by
  have:k=31:=by omega
  subst this
  rw [show 0+34=33+1 by omega,goD_in (L:=q81_L0),q81_vc0 _ _ _ _ _ _ _ _ _ _ rfl,toNat_nat]; try rw [toNat_nat]
  simp only [scanL,List.append_nil] at hK
  refine lt_f (by omega) ⟨⟨by omega,by omega,by simp only [len]; omega⟩,exit_ref_RecordsOf ws sec hsec hl K 31 (by omega) acc x2 x4 0 ?_⟩
  rw [List.drop_of_length_le (by rw [tailS_len hl]; omega)]
  simpa [allClean] using hK
 | m+1,k,acc,hk,hm,ha,hK=>by
  rw [show m+1+34=(m+34)+1 by omega,goD_in (L:=q81_L0),q81_vc0 _ _ _ _ _ _ _ _ _ _ rfl,toNat_nat]; try rw [toNat_nat]
  by_cases c:k=31
  ·subst c
   rw [List.drop_of_length_le (by rw [tailS_len hl]; omega)] at hK
   simp only [scanL,List.append_nil] at hK
   refine lt_f (by omega) ⟨⟨by omega,by omega,by simp only [len]; omega⟩,exit_ref_RecordsOf ws sec hsec hl K 31 (by omega) acc x2 x4 (m+1) ?_⟩
   rw [List.drop_of_length_le (by rw [tailS_len hl]; omega)]
   simpa [allClean] using hK
  have tl:=tailS_len hl
  have hdr:=drop_step (l:=tailS ws sec) (k:=k) (by omega) (Ty.dflt Ty.int)
  have hnx:nth (tailS ws sec) k (Ty.dflt Ty.int)=nth ws (32*sec+1+k) (Ty.dflt Ty.int):=tailS_getD ws sec k (by omega)
  rw [hnx] at hdr
  rw [hdr] at hK
  obtain ⟨x,hx⟩:∃ x,nth ws (32*sec+1+k) (Ty.dflt Ty.int)=x:=⟨_,rfl⟩
  have hxo:=getD_ok hok (32*sec+1+k)
  have hxe:ws.getD (32*sec+1+k) 0=x:=hx
  rw [hxe] at hxo
  rw [hx] at hK hdr ⊢
  simp only [scanL] at hK
  have out:headN x=0∨¬ headN x≤((tailS ws sec).drop (k+1)).length→(((0:Int)≤((32*sec+1+k:Nat):Int))∧((((32*sec+1+k:Nat):Int)≤((32*sec+32:Nat):Int))∧(((32*sec+32:Nat):Int)≤(((len ws):Nat):Int)))) ∧
    goD Γ_q81 tab fn_q81 0 K (m+34) q81_L1 (q81_S1 (0:Int) (((len (slc ws (32*sec+1+k) (32*sec+32))):Nat):Int) (slc ws (32*sec+1+k) (32*sec+32)) (((32*sec+1+k:Nat):Int)) x2 acc x4):=fun hh=>by
   refine ⟨⟨by omega,by omega,by simp only [len]; omega⟩,exit_ref_RecordsOf ws sec hsec hl K k hk acc x2 x4 (m+1) ?_⟩
   rw [hdr]
   by_cases c2:x=65535
   ·rw [if_pos c2] at hK
    have e:allClean (x::(tailS ws sec).drop (k+1))=allClean ((tailS ws sec).drop (k+1)):=by simp [allClean,c2]
    rw [e]
    cases hc:allClean ((tailS ws sec).drop (k+1))
    ·simpa [hc] using hK
    ·simpa [hc] using hK
   ·rw [if_neg c2] at hK
    have e:allClean (x::(tailS ws sec).drop (k+1))=false:=by simp [allClean,c2]
    rw [e]
    by_cases c3:headN x=0
    ·rw [if_pos c3] at hK; simpa using hK
    ·rw [if_neg c3,if_neg (hh.resolve_left c3)] at hK; simpa using hK
  have rng:((0:Int)≤((32*sec+1+k:Nat):Int))∧(((32*sec+1+k:Nat):Int)<(((len ws):Nat):Int)):=⟨by omega,by simp only [len]; omega⟩
  refine lt_t (by omega) ⟨rng,br_split (fun g1=>⟨rng,br_split (fun g2=>⟨rng,?_⟩) (fun g2=>?_)⟩) (fun g1=>?_)⟩
  case refine_2=>exact out (.inl (by rw [lei_false] at g2; unfold headN; rw [if_neg (by omega)]))
  case refine_3=>exact out (.inl (by rw [lei_false] at g1; unfold headN; rw [if_neg (by omega)]))
  rw [lei_true] at g1 g2
  obtain ⟨n,hn⟩:∃ n,headN x=n:=⟨_,rfl⟩
  have hxn:x=42240+(n:Int)∧1≤n∧n≤4:=by unfold headN at hn; rw [if_pos ⟨g1,g2⟩] at hn; omega
  obtain ⟨hxn,n1,n4⟩:=hxn
  have ld:((tailS ws sec).drop (k+1)).length=30-k:=by rw [List.length_drop,tl]; omega
  rw [w64_id (n:=((32*sec+1+k:Nat):Int)+x) (by omega) (by omega),w64_id (n:=((32*sec+1+k:Nat):Int)+x-42240) (by omega) (by omega)]
  refine lt_s (fun g3=>?_) (fun g3=>out (.inr (by rw [ld,hn]; omega)))
  rw [hn] at hK
  rw [if_neg (by omega),if_neg (by omega),if_pos (by rw [ld]; omega)] at hK
  rw [w64_id (n:=x-42240) (by omega) (by omega),show x-42240=(n:Int) by omega,w64_id (n:=((32*sec+1+k:Nat):Int)+1) (by omega) (by omega),w64_id (n:=((32*sec+1+k:Nat):Int)+1+(n:Int)) (by omega) (by omega),w64_id (n:=(1:Int)+(n:Int)) (by omega) (by omega),w64_id (n:=((32*sec+1+k:Nat):Int)+(1+(n:Int))) (by omega) (by omega)]
  rw [show Int.toNat (((32*sec+1+k:Nat):Int)+1)=32*sec+1+(k+1) by omega,show Int.toNat (((32*sec+1+k:Nat):Int)+1+(n:Int))=32*sec+1+(k+1)+n by omega,show ((32*sec+1+k:Nat):Int)+(1+(n:Int))=((32*sec+1+(k+1+n):Nat):Int) by omega]
  have es:slc ws (32*sec+1+(k+1)) (32*sec+1+(k+1)+n)=((tailS ws sec).drop (k+1)).take n:=by
   refine ext_getD (by rw [slc_len _ _ _ (by omega),List.length_take,ld]; omega) fun i hi=>?_
   rw [slc_len _ _ _ (by omega)] at hi
   rw [slc_getD _ _ _ _ (by omega)]
   have e2:∀ l:List Int,(l.take n).getD i 0=l.getD i 0:=fun l=>by simp only [List.getD_eq_getElem?_getD]; rw [List.getElem?_take_of_lt hi]
   rw [e2,drop_getD,tailS_getD _ _ _ (by omega),show 32*sec+1+(k+1+i)=32*sec+1+(k+1)+i by omega]
  rw [es]
  have ec:cat ([]:List Int) (((tailS ws sec).drop (k+1)).take n)=((tailS ws sec).drop (k+1)).take n:=rfl
  rw [ec]
  refine ⟨rng,⟨by omega,by omega,by simp only [len]; omega⟩,by simp only [len,List.length_take]; omega,by simp only [len,List.length_cons,List.length_nil]; omega,?_⟩
  refine loop_q81 ws fu sec hsec hl hok x2 x4 K m (k+1+n) _ (by omega) (by omega) (by simp only [cat,List.length_append,List.length_cons,List.length_nil]; omega) ?_
  rw [List.drop_drop] at hK
  have hK':=hK
  simp only [cat,List.append_assoc,List.cons_append,List.nil_append] at hK' ⊢
  cases hsc:(scanL m ((tailS ws sec).drop (k+1+n))).2 with
  | none=>simpa [hsc] using hK'
  | some p =>
   simp only [hsc,Option.map] at hK'
   rw [show 32*(sec:Int)+1+(k:Int)+((p+n+1:Nat):Int)=32*(sec:Int)+1+((k+1+n:Nat):Int)+(p:Int) by omega] at hK'
   exact hK'
theorem run_q81 (hp:64≤len ws∧len ws≤192∧okWords ws=true) (K:KK) (hK:K (.tup [.one (dR (recsOf ws)),.one (dI (nextI (liveS ws) (scanS ws (liveS ws)).2))]) []):GD Γ_q81 fn_q81 0 K [.agg [dL ws,dI fu]] []:=by
 obtain ⟨h1,h2,hok⟩:=hp
 have hs:=liveS_le ws
 refine ⟨32+34+1,?_⟩
 rw [goD_code,q81_vc _ _ _ _ _ rfl]
 unfold recsOf at hK
 obtain ⟨s,hss⟩:∃ s,liveS ws=s:=⟨_,rfl⟩
 rw [hss] at hK hs ⊢
 simp only [len] at h1 h2
 rw [w64_id (n:=32*(s:Int)) (by omega) (by omega),w64_id (n:=32*(s:Int)+32) (by omega) (by omega),w64_id (n:=32*(s:Int)+1) (by omega) (by omega)]
 refine ⟨h1,?_⟩
 rw [show 32*(s:Int)+32=((32*s+32:Nat):Int) by omega,show 32*(s:Int)+1=((32*s+1+0:Nat):Int) by omega]
 refine loop_q81 ws fu s hs (by omega) hok 0 [] K 32 0 [] (by omega) (by omega) (by simp) ?_
 rw [List.nil_append,List.drop_zero]
 rw [tailS_nonempty (by omega)] at hK
 cases hsc:(scanL 32 (tailS ws s)).2 with
 | none =>
  simp only [hsc,nextI] at hK
  exact hK
 | some p =>
  simp only [hsc,nextI] at hK
  simpa using hK
theorem sound_q81:SoundC Tryz.prog tab n_q81 c_q81:=soundC_f ok_q81 hg_q81 (by
 intro vs bs p v bs' h hp
 unfold c_q81 at h
 split at h
 ·cases h
  exact ⟨by kernel_rfl,rfl,.inl (run_q81 _ _ hp.1 _ ⟨rfl,rfl⟩)⟩
 ·cases h)

def c_q209:Contract:=fun vs bs=>match vs,bs with
 | [.agg [.dat (.list .int) ws,.dat .int fu,.dat .bool _,.dat .int _,.dat (.list .int) _,.dat .int _,.dat .int _,.dat (.list .bool) _,.dat (.list .bool) _]],[]=>some (some (checkLog ⟨ws,fu⟩=0),.agg [dI (ofG ⟨ws,fu⟩).n,dI (ofG ⟨ws,fu⟩).version,dB (ofG ⟨ws,fu⟩).commit,dB (ofG ⟨ws,fu⟩).abort,dB (ofG ⟨ws,fu⟩).ended],[])
 | _,_=>none
def Γ_q209:Ctx:=[(n_q81,c_q81)]
theorem ok_q209:Ok Tryz.prog tab Γ_q209:=(ok_nil.c hg_q81 sound_q81)
noncomputable def q209_L0:List It:=[.inLoop [19,18,17,5,3,2] (cSub fn_q209 [1,1,1,0,1,0,0]),.inBlock 0,.code (cSub fn_q209 [1,1,1,1])]
def q209_S0 (x0 x1:Int) (x2:List (List Int)) (x3:Int) (x4:List (List Int)) (x5 x6:Int) (x7 x8 x9:Bool):St:=⟨[(19,.one (dI x0)),(18,.one (dI x1)),(17,.one (dR x2)),(5,.one (dI x3)),(3,.one (dR x4)),(2,.one (.ptr 0 0))],[(0,.box [dI x5,dI x6,dB x7,dB x8,dB x9])],1⟩
noncomputable def q209_L1:List It:=[.inLoop [73,72,71,8,2] (cSub fn_q209 [1,1,1,1,1,1,1,1,0,1,0,0]),.inBlock 2,.code (cSub fn_q209 [1,1,1,1,1,1,1,1,1])]
def q209_S1 (x0 x1:Int) (x2:List (List Int)) (x3 x4:Int) (x5 x6 x7:Bool) (x8 x9:Int) (x10 x11 x12:Bool):St:=⟨[(73,.one (dI x0)),(72,.one (dI x1)),(71,.one (dR x2)),(8,.one (.ptr 0 0)),(2,.one (.ptr 1 0))],[(0,.box [dI x3,dI x4,dB x5,dB x6,dB x7]),(1,.box [dI x8,dI x9,dB x10,dB x11,dB x12])],2⟩
theorem q209_vc (ws:List Int) (fu:Int) (up:Bool) (tv:Int) (tk:List Int) (tt tn:Int) (vo di:List Bool) (rec:RK) (K:KK) v0 (hv0:v0=okWords ws) v1 (hv1:v1=recsOf ws):segD Γ_q209 tab fn_q209 0 K rec [.code (bodyOf fn_q209)] (initSt [.agg [dL ws,dI fu,dB up,dI tv,dL tk,dI tt,dI tn,dLb vo,dLb di]] [])=(
 (64≤len ws∧len ws≤192∧v0=true) ∧
 rec q209_L0 (q209_S0 0 (len v1:Int) v1 (-1) v1 0 0 false false false)):=by subst_vars; kernel_rfl
theorem q209_vc0 (x0 x1:Int) (x2:List (List Int)) (x3:Int) (x4:List (List Int)) (x5 x6:Int) (x7 x8 x9:Bool) (rec:RK) (K:KK) v0 (hv0:v0=rec q209_L0 (q209_S0 (w64 (x0+1)) x1 x2 x3 x4 x5 x6 x7 x8 x9)):segD Γ_q209 tab fn_q209 0 K rec (ent q209_L0) (q209_S0 x0 x1 x2 x3 x4 x5 x6 x7 x8 x9)=(
 br (lti x0 x1)
 (((0:Int)≤x0∧x0<(len x2:Int)) ∧
 br (eqi (((len (nth x2 (Int.toNat x0) (Ty.dflt (Ty.list Ty.int)))):Nat):Int) 3)
 (((0:Int)≤(0:Int)∧(0:Int)<(((len (nth x2 (Int.toNat x0) (Ty.dflt (Ty.list Ty.int)))):Nat):Int)) ∧
 br (eqi (nth (nth x2 (Int.toNat x0) (Ty.dflt (Ty.list Ty.int))) (Int.toNat 0) (Ty.dflt Ty.int)) 1)
 (((0:Int)≤(1:Int)∧(1:Int)<(((len (nth x2 (Int.toNat x0) (Ty.dflt (Ty.list Ty.int)))):Nat):Int)) ∧
 br (lei 1 (nth (nth x2 (Int.toNat x0) (Ty.dflt (Ty.list Ty.int))) (Int.toNat 1) (Ty.dflt Ty.int)))
 (((0:Int)≤(1:Int)∧(1:Int)<(((len (nth x2 (Int.toNat x0) (Ty.dflt (Ty.list Ty.int)))):Nat):Int)) ∧
 br (lei (nth (nth x2 (Int.toNat x0) (Ty.dflt (Ty.list Ty.int))) (Int.toNat 1) (Ty.dflt Ty.int)) 8)
 (rec q209_L0 (q209_S0 (w64 (x0+1)) x1 x2 x0 x4 x5 x6 x7 x8 x9))
 v0)
 v0)
 v0)
 v0)
 (br (lti x3 0)
 (K (.agg [dI (0:Int),dI (0:Int),dB false,dB false,dB false]) [])
 (((0:Int)≤x3∧x3<(len x4:Int)) ∧
 ((0:Int)≤(1:Int)∧(1:Int)<(((len (nth x4 (Int.toNat x3) (Ty.dflt (Ty.list Ty.int)))):Nat):Int)) ∧
 ((0:Int)≤x3∧x3<(len x4:Int)) ∧
 ((0:Int)≤(2:Int)∧(2:Int)<(((len (nth x4 (Int.toNat x3) (Ty.dflt (Ty.list Ty.int)))):Nat):Int)) ∧
 br (eqi (nth (nth x4 (Int.toNat x3) (Ty.dflt (Ty.list Ty.int))) (Int.toNat 1) (Ty.dflt Ty.int)) 0)
 (K (.agg [dI (nth (nth x4 (Int.toNat x3) (Ty.dflt (Ty.list Ty.int))) (Int.toNat 1) (Ty.dflt Ty.int)),dI (nth (nth x4 (Int.toNat x3) (Ty.dflt (Ty.list Ty.int))) (Int.toNat 2) (Ty.dflt Ty.int)),dB false,dB false,dB false]) [])
 (((0:Int)≤w64 (x3+1)∧w64 (x3+1)≤(len x4:Int)∧(len x4:Int)≤(len x4:Int)) ∧
 rec q209_L1 (q209_S1 0 (((len (slc x4 (Int.toNat (w64 (x3+1))) (Int.toNat (len x4:Int)))):Nat):Int) (slc x4 (Int.toNat (w64 (x3+1))) (Int.toNat (len x4:Int))) (nth (nth x4 (Int.toNat x3) (Ty.dflt (Ty.list Ty.int))) (Int.toNat 1) (Ty.dflt Ty.int)) (nth (nth x4 (Int.toNat x3) (Ty.dflt (Ty.list Ty.int))) (Int.toNat 2) (Ty.dflt Ty.int)) false false false x5 x6 x7 x8 x9))))):=by subst_vars; kernel_rfl
theorem q209_vc1 (x0 x1:Int) (x2:List (List Int)) (x3 x4:Int) (x5 x6 x7:Bool) (x8 x9:Int) (x10 x11 x12:Bool) (rec:RK) (K:KK) v0 (hv0:v0=rec q209_L1 (q209_S1 (w64 (x0+1)) x1 x2 x3 x4 (!x6) (!(!x6)) true x8 x9 x10 x11 x12)) v1 (hv1:v1=rec q209_L1 (q209_S1 (w64 (x0+1)) x1 x2 x3 x4 true (!true) true x8 x9 x10 x11 x12)) v2 (hv2:v2=rec q209_L1 (q209_S1 (w64 (x0+1)) x1 x2 x3 x4 false false false x8 x9 x10 x11 x12)) v3 (hv3:v3=rec q209_L1 (q209_S1 (w64 (x0+1)) x1 x2 x3 x4 (!x6) false false x8 x9 x10 x11 x12)) v4 (hv4:v4=rec q209_L1 (q209_S1 (w64 (x0+1)) x1 x2 x3 x4 (!x6) false true x8 x9 x10 x11 x12)) v5 (hv5:v5=rec q209_L1 (q209_S1 (w64 (x0+1)) x1 x2 x3 x4 true false true x8 x9 x10 x11 x12)) v6 (hv6:v6=rec q209_L1 (q209_S1 (w64 (x0+1)) x1 x2 x3 x4 false true true x8 x9 x10 x11 x12)) v7 (hv7:v7=rec q209_L1 (q209_S1 (w64 (x0+1)) x1 x2 x3 x4 (!x6) true true x8 x9 x10 x11 x12)) v8 (hv8:v8=rec q209_L1 (q209_S1 (w64 (x0+1)) x1 x2 x3 x4 true true true x8 x9 x10 x11 x12)) v9 (hv9:v9=rec q209_L1 (q209_S1 (w64 (x0+1)) x1 x2 x3 x4 x5 x6 x7 x8 x9 x10 x11 x12)):segD Γ_q209 tab fn_q209 0 K rec (ent q209_L1) (q209_S1 x0 x1 x2 x3 x4 x5 x6 x7 x8 x9 x10 x11 x12)=(
 br (lti x0 x1)
 (((0:Int)≤x0∧x0<(len x2:Int)) ∧
 br (eqi (((len (nth x2 (Int.toNat x0) (Ty.dflt (Ty.list Ty.int)))):Nat):Int) 2)
 (((0:Int)≤(1:Int)∧(1:Int)<(((len (nth x2 (Int.toNat x0) (Ty.dflt (Ty.list Ty.int)))):Nat):Int)) ∧
 br (eqi (nth (nth x2 (Int.toNat x0) (Ty.dflt (Ty.list Ty.int))) (Int.toNat 1) (Ty.dflt Ty.int)) x3)
 (br x5
 (br x6
 (br x7
 v8
 (((0:Int)≤(0:Int)∧(0:Int)<(((len (nth x2 (Int.toNat x0) (Ty.dflt (Ty.list Ty.int)))):Nat):Int)) ∧
 br (eqi (nth (nth x2 (Int.toNat x0) (Ty.dflt (Ty.list Ty.int))) (Int.toNat 0) (Ty.dflt Ty.int)) 4)
 v8
 (rec q209_L1 (q209_S1 (w64 (x0+1)) x1 x2 x3 x4 true true false x8 x9 x10 x11 x12))))
 (((0:Int)≤(0:Int)∧(0:Int)<(((len (nth x2 (Int.toNat x0) (Ty.dflt (Ty.list Ty.int)))):Nat):Int)) ∧
 br (eqi (nth (nth x2 (Int.toNat x0) (Ty.dflt (Ty.list Ty.int))) (Int.toNat 0) (Ty.dflt Ty.int)) 3)
 (br x7
 v1
 (((0:Int)≤(0:Int)∧(0:Int)<(((len (nth x2 (Int.toNat x0) (Ty.dflt (Ty.list Ty.int)))):Nat):Int)) ∧
 br (eqi (nth (nth x2 (Int.toNat x0) (Ty.dflt (Ty.list Ty.int))) (Int.toNat 0) (Ty.dflt Ty.int)) 4)
 v1
 (rec q209_L1 (q209_S1 (w64 (x0+1)) x1 x2 x3 x4 true (!true) false x8 x9 x10 x11 x12))))
 (br x7
 v5
 (((0:Int)≤(0:Int)∧(0:Int)<(((len (nth x2 (Int.toNat x0) (Ty.dflt (Ty.list Ty.int)))):Nat):Int)) ∧
 br (eqi (nth (nth x2 (Int.toNat x0) (Ty.dflt (Ty.list Ty.int))) (Int.toNat 0) (Ty.dflt Ty.int)) 4)
 v5
 (rec q209_L1 (q209_S1 (w64 (x0+1)) x1 x2 x3 x4 true false false x8 x9 x10 x11 x12))))))
 (((0:Int)≤(0:Int)∧(0:Int)<(((len (nth x2 (Int.toNat x0) (Ty.dflt (Ty.list Ty.int)))):Nat):Int)) ∧
 br (eqi (nth (nth x2 (Int.toNat x0) (Ty.dflt (Ty.list Ty.int))) (Int.toNat 0) (Ty.dflt Ty.int)) 2)
 (br x6
 (br x7
 v7
 (((0:Int)≤(0:Int)∧(0:Int)<(((len (nth x2 (Int.toNat x0) (Ty.dflt (Ty.list Ty.int)))):Nat):Int)) ∧
 br (eqi (nth (nth x2 (Int.toNat x0) (Ty.dflt (Ty.list Ty.int))) (Int.toNat 0) (Ty.dflt Ty.int)) 4)
 (br (!x6)
 v7
 v7)
 (rec q209_L1 (q209_S1 (w64 (x0+1)) x1 x2 x3 x4 (!x6) true false x8 x9 x10 x11 x12))))
 (((0:Int)≤(0:Int)∧(0:Int)<(((len (nth x2 (Int.toNat x0) (Ty.dflt (Ty.list Ty.int)))):Nat):Int)) ∧
 br (eqi (nth (nth x2 (Int.toNat x0) (Ty.dflt (Ty.list Ty.int))) (Int.toNat 0) (Ty.dflt Ty.int)) 3)
 (br x7
 v0
 (((0:Int)≤(0:Int)∧(0:Int)<(((len (nth x2 (Int.toNat x0) (Ty.dflt (Ty.list Ty.int)))):Nat):Int)) ∧
 br (eqi (nth (nth x2 (Int.toNat x0) (Ty.dflt (Ty.list Ty.int))) (Int.toNat 0) (Ty.dflt Ty.int)) 4)
 (br (!x6)
 v0
 (rec q209_L1 (q209_S1 (w64 (x0+1)) x1 x2 x3 x4 (!x6) (!(!x6)) (!(!x6)) x8 x9 x10 x11 x12)))
 (rec q209_L1 (q209_S1 (w64 (x0+1)) x1 x2 x3 x4 (!x6) (!(!x6)) false x8 x9 x10 x11 x12))))
 (br x7
 v4
 (((0:Int)≤(0:Int)∧(0:Int)<(((len (nth x2 (Int.toNat x0) (Ty.dflt (Ty.list Ty.int)))):Nat):Int)) ∧
 br (eqi (nth (nth x2 (Int.toNat x0) (Ty.dflt (Ty.list Ty.int))) (Int.toNat 0) (Ty.dflt Ty.int)) 4)
 (br (!x6)
 v4
 v3)
 v3))))
 (br x6
 (br x7
 v6
 (((0:Int)≤(0:Int)∧(0:Int)<(((len (nth x2 (Int.toNat x0) (Ty.dflt (Ty.list Ty.int)))):Nat):Int)) ∧
 br (eqi (nth (nth x2 (Int.toNat x0) (Ty.dflt (Ty.list Ty.int))) (Int.toNat 0) (Ty.dflt Ty.int)) 4)
 v6
 (rec q209_L1 (q209_S1 (w64 (x0+1)) x1 x2 x3 x4 false true false x8 x9 x10 x11 x12))))
 (((0:Int)≤(0:Int)∧(0:Int)<(((len (nth x2 (Int.toNat x0) (Ty.dflt (Ty.list Ty.int)))):Nat):Int)) ∧
 br (eqi (nth (nth x2 (Int.toNat x0) (Ty.dflt (Ty.list Ty.int))) (Int.toNat 0) (Ty.dflt Ty.int)) 3)
 (br x7
 (rec q209_L1 (q209_S1 (w64 (x0+1)) x1 x2 x3 x4 false (!false) true x8 x9 x10 x11 x12))
 (((0:Int)≤(0:Int)∧(0:Int)<(((len (nth x2 (Int.toNat x0) (Ty.dflt (Ty.list Ty.int)))):Nat):Int)) ∧
 br (eqi (nth (nth x2 (Int.toNat x0) (Ty.dflt (Ty.list Ty.int))) (Int.toNat 0) (Ty.dflt Ty.int)) 4)
 (rec q209_L1 (q209_S1 (w64 (x0+1)) x1 x2 x3 x4 false (!false) (!false) x8 x9 x10 x11 x12))
 (rec q209_L1 (q209_S1 (w64 (x0+1)) x1 x2 x3 x4 false (!false) false x8 x9 x10 x11 x12))))
 (br x7
 (rec q209_L1 (q209_S1 (w64 (x0+1)) x1 x2 x3 x4 false false true x8 x9 x10 x11 x12))
 (((0:Int)≤(0:Int)∧(0:Int)<(((len (nth x2 (Int.toNat x0) (Ty.dflt (Ty.list Ty.int)))):Nat):Int)) ∧
 br (eqi (nth (nth x2 (Int.toNat x0) (Ty.dflt (Ty.list Ty.int))) (Int.toNat 0) (Ty.dflt Ty.int)) 4)
 v2
 v2))))))
 v9)
 v9)
 (K (.agg [dI x3,dI x4,dB x5,dB x6,dB x7]) [])):=by subst_vars; kernel_rfl

theorem loop1_ref_GateStateOf (p:List (List Int)) (hp:p.length≤1000) (hb:∀ r∈p,¬ isBeg r) (N V':Int) (hN:N≠0) (K:KK) (x8 x9:Int) (x10 x11 x12:Bool) (q:Nat):∀ (d k:Nat) (c a e:Bool),k+d=p.length →
  K (.agg [dI ((p.drop k).foldl stepGt ⟨N,V',c,a,e⟩).n,dI ((p.drop k).foldl stepGt ⟨N,V',c,a,e⟩).version,dB ((p.drop k).foldl stepGt ⟨N,V',c,a,e⟩).commit,dB ((p.drop k).foldl stepGt ⟨N,V',c,a,e⟩).abort,dB ((p.drop k).foldl stepGt ⟨N,V',c,a,e⟩).ended]) [] →
  goD Γ_q209 tab fn_q209 0 K (q+d+1) q209_L1 (q209_S1 (k:Int) (((len p):Nat):Int) p N V' c a e x8 x9 x10 x11 x12)
 | 0,k,c,a,e,hk,hK=>by
  rw [goD_in (L:=q209_L1),q209_vc1 _ _ _ _ _ _ _ _ _ _ _ _ _ _ _ _ rfl _ rfl _ rfl _ rfl _ rfl _ rfl _ rfl _ rfl _ rfl _ rfl]
  rw [List.drop_of_length_le (by omega)] at hK
  exact lt_f (by simp only [len]; omega) hK
 | d+1,k,c,a,e,hk,hK=>by
  rw [show q+(d+1)+1=(q+d+1)+1 by omega,goD_in (L:=q209_L1),q209_vc1 _ _ _ _ _ _ _ _ _ _ _ _ _ _ _ _ rfl _ rfl _ rfl _ rfl _ rfl _ rfl _ rfl _ rfl _ rfl _ rfl,toNat_nat]
  have hbk:¬ isBeg (nth p k (Ty.dflt (Ty.list Ty.int))):=hb _ (by
   have:nth p k (Ty.dflt (Ty.list Ty.int))=p[k]'(by omega):=by simp [nth,List.getD_eq_getElem?_getD,show k<p.length by omega]
   rw [this]; exact List.getElem_mem _)
  rw [drop_step (by omega) (Ty.dflt (Ty.list Ty.int)),List.foldl_cons] at hK
  obtain ⟨r,hr⟩:∃ r,nth p k (Ty.dflt (Ty.list Ty.int))=r:=⟨_,rfl⟩
  rw [hr] at hK hbk ⊢
  rw [w64_succ (by omega),show Int.toNat (0:Int)=0 from rfl,show Int.toNat (1:Int)=1 from rfl,show nth r 0 (Ty.dflt Ty.int)=r.getD 0 0 from rfl,show nth r 1 (Ty.dflt Ty.int)=r.getD 1 0 from rfl]
  have go:∀ c' a' e',stepGt ⟨N,V',c,a,e⟩ r=⟨N,V',c',a',e'⟩→goD Γ_q209 tab fn_q209 0 K (q+d+1) q209_L1 (q209_S1 ((k+1:Nat):Int) (((len p):Nat):Int) p N V' c' a' e' x8 x9 x10 x11 x12):=fun c' a' e' h=>by
   rw [h] at hK
   exact loop1_ref_GateStateOf p hp hb N V' hN K x8 x9 x10 x11 x12 q d (k+1) c' a' e' (by omega) hK
  refine lt_t (by simp only [len]; omega) ⟨⟨by omega,by simp only [len]; omega⟩,eq_s (fun h1=>⟨⟨by omega,by omega⟩,eq_s (fun h2=>?_) (fun h2=>go _ _ _ (step_stay hbk (.inr h2)))⟩) (fun h1=>go _ _ _ (step_stay hbk (.inl (by simp only [len] at h1; omega))))⟩
  have L2:r.length=2:=by simp only [len] at h1; omega
  have c0:((0:Int)≤0)∧((0:Int)<(((len r):Nat):Int)):=⟨by omega,by omega⟩
  have st:=fun c a e=>step_two (N:=N) (V:=V') (c:=c) (a:=a) (e:=e) L2 h2 hN
  clear hK
  obtain ⟨A,hA⟩:∃ A,r.getD 0 0=A:=⟨_,rfl⟩
  simp only [hA] at st ⊢
  cases c<;>cases a<;>cases e<;>simp only [br,Bool.not_true,Bool.not_false]
  all_goals
   repeat' first
    | (exfalso; omega)
    | exact go _ _ _ (by rw [st]; simp [*])
    | (refine And.intro c0 ?_)
    | (refine eq_s (fun _=>?_) (fun _=>?_))
theorem loop0_ref_GateStateOf (l:List (List Int)) (hl:l.length≤1000) (K:KK) (hK:K (.agg [dI (stateG l).n,dI (stateG l).version,dB (stateG l).commit,dB (stateG l).abort,dB (stateG l).ended]) []):∀ (d k:Nat) (x3:Int),k+d=l.length →
  ((x3=-1∧∀ j,j<k→¬ isBeg (l.getD j []))∨∃ f:Nat,x3=f∧f<k∧isBeg (l.getD f [])∧∀ j,f<j→j<k→¬ isBeg (l.getD j [])) →
  goD Γ_q209 tab fn_q209 0 K (l.length+1+d+1) q209_L0 (q209_S0 (k:Int) (((len l):Nat):Int) l x3 l 0 0 false false false)
 | 0,k,x3,hk,hi=>by
  rw [goD_in (L:=q209_L0),q209_vc0 _ _ _ _ _ _ _ _ _ _ _ _ _ rfl]
  have hkl:k=l.length:=by omega
  subst hkl
  refine lt_f (by simp only [len]; omega) ?_
  rcases hi with ⟨h1,h2⟩ | ⟨f,h1,h2,h3,h4⟩
  ·subst h1
   refine lt_t (by omega) ?_
   have:stateG l=noState:=fold_noBeg l fun r hr=>by
    obtain ⟨j,hj,rfl⟩:=List.getElem_of_mem hr
    have:=h2 j hj
    simpa [List.getD_eq_getElem?_getD,hj] using this
   rw [this] at hK; exact hK
  ·subst h1
   have e:nth l (Int.toNat (f:Int)) (Ty.dflt (Ty.list Ty.int))=l.getD f []:=rfl
   rw [e]
   have hdec:l=l.take f++l.getD f []::l.drop (f+1):=by
    conv=>lhs; rw [← List.take_append_drop f l,drop_step h2 []]
    rfl
   have hst:=stateG_at (l.take f) (l.drop (f+1)) h3
   rw [← hdec] at hst
   rw [hst] at hK
   obtain ⟨b,hb⟩:∃ b,l.getD f []=b:=⟨_,rfl⟩
   rw [hb] at h3 hK ⊢
   obtain ⟨b1,b2,b3,b4⟩:=h3
   have hlb:((len b:Nat):Int)=3:=by simp only [len]; omega
   rw [hlb,show Int.toNat (1:Int)=1 from rfl,show Int.toNat (2:Int)=2 from rfl,show nth b 1 (Ty.dflt Ty.int)=b.getD 1 0 from rfl,show nth b 2 (Ty.dflt Ty.int)=b.getD 2 0 from rfl,w64_succ (by omega),toNat_nat,show Int.toNat ((len l:Nat):Int)=l.length from rfl,slc_drop]
   refine lt_f (by omega) ⟨⟨by omega,by simp only [len]; omega⟩,⟨by omega,by omega⟩,⟨by omega,by simp only [len]; omega⟩,⟨by omega,by omega⟩,eq_f (by omega) ⟨⟨by omega,by simp only [len]; omega,by omega⟩,?_⟩⟩
   have hdl:(l.drop (f+1)).length≤l.length:=by simp
   have:=loop1_ref_GateStateOf (l.drop (f+1)) (by omega) (fun r hr=>by
    obtain ⟨j,hj,rfl⟩:=List.getElem_of_mem hr
    have:=h4 (f+1+j) (by omega) (by simp at hj; omega)
    have hj':f+1+j<l.length:=by simp at hj; omega
    simpa [List.getD_eq_getElem?_getD,hj'] using this) (b.getD 1 0) (b.getD 2 0) (by omega) K 0 0 false false false (l.length-(l.drop (f+1)).length) (l.drop (f+1)).length 0 false false false (by omega) hK
   rw [show l.length-(l.drop (f+1)).length+(l.drop (f+1)).length+1=l.length+1 by omega] at this
   exact this
 | d+1,k,x3,hk,hi=>by
  rw [show l.length+1+(d+1)+1=(l.length+1+d+1)+1 by omega,goD_in (L:=q209_L0),q209_vc0 _ _ _ _ _ _ _ _ _ _ _ _ _ rfl,toNat_nat]
  rw [w64_succ (by omega)]
  have e:nth l k (Ty.dflt (Ty.list Ty.int))=l.getD k []:=rfl
  rw [e]
  obtain ⟨r,hr⟩:∃ r,l.getD k []=r:=⟨_,rfl⟩
  rw [hr,show Int.toNat (0:Int)=0 from rfl,show Int.toNat (1:Int)=1 from rfl,show nth r 0 (Ty.dflt Ty.int)=r.getD 0 0 from rfl,show nth r 1 (Ty.dflt Ty.int)=r.getD 1 0 from rfl]
  have no:¬ isBeg r→goD Γ_q209 tab fn_q209 0 K (l.length+1+d+1) q209_L0 (q209_S0 ((k+1:Nat):Int) (((len l):Nat):Int) l x3 l 0 0 false false false):=fun h=>by
   refine loop0_ref_GateStateOf l hl K hK d (k+1) x3 (by omega) ?_
   have hat:∀ j,j<k+1→(j<k→¬ isBeg (l.getD j []))→¬ isBeg (l.getD j []):=fun j hj g=>by
    by_cases c:j<k
    ·exact g c
    ·rw [show j=k by omega,hr]; exact h
   rcases hi with ⟨h1,h2⟩ | ⟨f,h1,h2,h3,h4⟩
   ·exact .inl ⟨h1,fun j hj=>hat j hj (h2 j)⟩
   ·exact .inr ⟨f,h1,by omega,h3,fun j g1 g2=>hat j g2 (h4 j g1)⟩
  refine lt_t (by simp only [len]; omega) ⟨⟨by omega,by simp only [len]; omega⟩,eq_s (fun h1=>⟨⟨by omega,by omega⟩,eq_s (fun h2=>⟨⟨by omega,by omega⟩,br_split (fun h3=>⟨⟨by omega,by omega⟩,br_split (fun h4=>?_) (fun h4=>no (fun g=>?_))⟩) (fun h3=>no (fun g=>?_))⟩) (fun h2=>no (fun g=>h2 g.1))⟩) (fun h1=>no (fun g=>h1 (by simp only [len]; have:=g.2.1; omega)))⟩
  ·rw [lei_true] at h3 h4
   exact loop0_ref_GateStateOf l hl K hK d (k+1) k (by omega) (.inr ⟨k,rfl,by omega,by rw [hr]; exact ⟨h2,by simp only [len] at h1; omega,h3,h4⟩,fun j g1 g2=>by omega⟩)
  ·rw [lei_false] at h4; have:=g.2.2.2; omega
  ·rw [lei_false] at h3; have:=g.2.2.1; omega
theorem run_q209 (hp:checkLog ⟨ws,fu⟩=0) (K:KK) (hK:K (.agg [dI (ofG ⟨ws,fu⟩).n,dI (ofG ⟨ws,fu⟩).version,dB (ofG ⟨ws,fu⟩).commit,dB (ofG ⟨ws,fu⟩).abort,dB (ofG ⟨ws,fu⟩).ended]) []):GD Γ_q209 fn_q209 0 K [.agg [dL ws,dI fu,dB up,dI tv,dL tk,dI tt,dI tn,dLb vo,dLb di]] []:=by
 obtain ⟨k1,k2,_⟩:=checkLog_ok hp
 obtain ⟨c1,_,_,c4⟩:=checkFlash_ok k1
 simp only at k2 c1 c4
 have hm:=(recsOf_small ws).2
 refine ⟨(recsOf ws).length+1+(recsOf ws).length+2,?_⟩
 rw [goD_code,q209_vc _ _ _ _ _ _ _ _ _ _ _ _ rfl _ rfl]
 refine ⟨⟨by simp only [len]; omega,by have:=okLen_le c1; simp only [len]; omega,c4⟩,?_⟩
 rw [ofG_W hp] at hK
 exact loop0_ref_GateStateOf (recsOf ws) (by omega) K hK (recsOf ws).length 0 (-1) (by omega) (.inl ⟨rfl,fun j hj=>by omega⟩)
theorem sound_q209:SoundC Tryz.prog tab n_q209 c_q209:=soundC_f ok_q209 hg_q209 (by
 intro vs bs p v bs' h hp
 unfold c_q209 at h
 split at h
 ·cases h
  exact ⟨by kernel_rfl,rfl,.inl (run_q209 _ _ _ _ _ _ _ _ _ hp.1 _ ⟨rfl,rfl⟩)⟩
 ·cases h)

def c_q212:Contract:=fun vs bs=>match vs,bs with
 | [.agg [.dat (.list .int) ws,.dat .int fu,.dat .bool up,.dat .int tv,.dat (.list .int) tk,.dat .int tt,.dat .int tn,.dat (.list .bool) vo,.dat (.list .bool) di],.agg [.dat .int cn,.dat .int cv,.dat .int cu,.dat (.list .target) ct,.dat (.list (.list .int)) ci],.one (.dat .int u)],[]=>some (some (checkG ⟨⟨ws,fu⟩,up,⟨⟨tv,tk,tt⟩,tn⟩,vo,di⟩=0∧ct.length≤140737488355328∧ci.length≤140737488355328),.tup [.one (dM (dueG ⟨⟨ws,fu⟩,up,⟨⟨tv,tk,tt⟩,tn⟩,vo,di⟩ ⟨cn,⟨cv,cu,ct⟩,ci⟩ u).1),.one (dI (dueG ⟨⟨ws,fu⟩,up,⟨⟨tv,tk,tt⟩,tn⟩,vo,di⟩ ⟨cn,⟨cv,cu,ct⟩,ci⟩ u).2)],[])
 | _,_=>none
def Γ_q212:Ctx:=[(n_q212,markC),(n_q209,c_q209)]
theorem ok_q212:Ok Tryz.prog tab Γ_q212:=((ok_nil.c hg_q209 sound_q209).c hg_q212 soundC_mark)
noncomputable def q212_L0:List It:=[.inLoop [113,112,111,10,9,8,7,6,4,2] (cSub fn_q212 [1,1,1,1,1,1,1,1,1,0,1,0,0]),.inBlock 1,.code (cSub fn_q212 [1,1,1,1,1,1,1,1,1,1])]
def q212_S0 (x0 x1:Int) (x2 x3:List Int) (x4 x5:Int) (x6:List Vm.Message) (x7 x8:Int) (x9 x10 x11:Bool) (x12:List Vm.Message) (x13 x14 x15:Int) (x16:List Vm.Target) (x17:List (List Int)):St:=⟨[(113,.one (dI x0)),(112,.one (dI x1)),(111,.one (dL x2)),(10,.one (.own 0)),(9,.one (dL x3)),(8,.one (.ptr 1 0)),(7,.one (dI x4)),(6,.one (.own 2)),(4,.one (.ptr 3 0)),(2,.one (dI x5))],[(0,.arr Ty.message x6),(1,.box [dI x7,dI x8,dB x9,dB x10,dB x11]),(2,.arr Ty.message x12),(3,.box [dI x13,dI x14,dI x15,.dat (Ty.list Ty.target) x16,dR x17])],4⟩
noncomputable def q212_L1:List It:=[.inLoop [113,112,111,10,9,8,7,6,4,2] (cSub fn_q212 [1,1,1,1,1,1,1,1,1,0,1,0,0]),.inBlock 1,.code (cSub fn_q212 [1,1,1,1,1,1,1,1,1,1])]
def q212_S1 (x0 x1:Int) (x2 x3:List Int) (x4 x5:Int) (x6:List Vm.Message) (x7 x8 x9 x10 x11:Int) (x12:Bool) (x13 x14:Int) (x15 x16 x17:Bool) (x18:List Vm.Message) (x19 x20 x21:Int) (x22:List Vm.Target) (x23:List (List Int)) (x24:List Int):St:=⟨[(113,.one (dI x0)),(112,.one (dI x1)),(111,.one (dL x2)),(10,.one (.ownx 0)),(9,.one (dL x3)),(8,.one (.ptr 1 0)),(7,.one (dI x4)),(6,.one (.own 2)),(4,.one (.ptr 3 0)),(2,.one (dI x5))],[(0,.arx Ty.message x6 [dI x7,dI x8,dI x9,dI x10,dI x11,.own 4,dB x12]),(1,.box [dI x13,dI x14,dB x15,dB x16,dB x17]),(2,.arr Ty.message x18),(3,.box [dI x19,dI x20,dI x21,.dat (Ty.list Ty.target) x22,dR x23]),(4,.arr Ty.int x24)],5⟩
theorem q212_vc (ws:List Int) (fu:Int) (up:Bool) (tv:Int) (tk:List Int) (tt tn:Int) (vo di:List Bool) (cn cv cu:Int) (ct:List Vm.Target) (ci:List (List Int)) (u:Int) (rec:RK) (K:KK) v0 (hv0:v0=checkLog ⟨ws,fu⟩) v1 (hv1:v1=ofG ⟨ws,fu⟩) v3 (hv3:v3=br v1.commit
 (K (.tup [.one (dM []),.one (dI 0)]) [])
 (br v1.abort
 (K (.tup [.one (dM []),.one (dI 0)]) [])
 (((0:Int)≤u∧u<(len vo:Int)) ∧
 br (nth vo (Int.toNat u) (Ty.dflt Ty.bool))
 (K (.tup [.one (dM []),.one (dI 0)]) [])
 (((0:Int)≤u∧u<(len ci:Int)) ∧
 br (lti 40 (((len (nth ci (Int.toNat u) (Ty.dflt (Ty.list Ty.int)))):Nat):Int))
 (K (.tup [.one (dM []),.one (dI 2)]) [])
 (rec q212_L0 (q212_S0 0 (((len (nth ci (Int.toNat u) (Ty.dflt (Ty.list Ty.int)))):Nat):Int) (nth ci (Int.toNat u) (Ty.dflt (Ty.list Ty.int))) (nth ci (Int.toNat u) (Ty.dflt (Ty.list Ty.int))) 0 u [] v1.n v1.version v1.commit v1.abort v1.ended [] cn cv cu ct ci)))))) v2 (hv2:v2=br v1.abort
 (((0:Int)≤u∧u<(len di:Int)) ∧
 br (!(nth di (Int.toNat u) (Ty.dflt Ty.bool)))
 (K (.tup [.one (dM (cat [] ((⟨5,u,v1.n,0,0,[],false⟩:Vm.Message)::[]))),.one (dI 0)]) [])
 v3)
 v3):segD Γ_q212 tab fn_q212 0 K rec [.code (bodyOf fn_q212)] (initSt [.agg [dL ws,dI fu,dB up,dI tv,dL tk,dI tt,dI tn,dLb vo,dLb di],.agg [dI cn,dI cv,dI cu,.dat (Ty.list Ty.target) ct,dR ci],.one (dI u)] [])=(
 v0=(0:Int) ∧
 br (!up)
 (K (.tup [.one (dM []),.one (dI 7)]) [])
 (br (eqi v1.n 0)
 (K (.tup [.one (dM []),.one (dI 12)]) [])
 (br v1.ended
 (K (.tup [.one (dM []),.one (dI 12)]) [])
 (br (lti u 0)
 (K (.tup [.one (dM []),.one (dI 5)]) [])
 (br (lei (len vo:Int) u)
 (K (.tup [.one (dM []),.one (dI 5)]) [])
 (br (!(eqi cn v1.n))
 (K (.tup [.one (dM []),.one (dI 5)]) [])
 (br (lei (len ci:Int) u)
 (K (.tup [.one (dM []),.one (dI 5)]) [])
 (br (lei (len ct:Int) u)
 (K (.tup [.one (dM []),.one (dI 5)]) [])
 (br v1.commit
 (((0:Int)≤u∧u<(len di:Int)) ∧
 br (!(nth di (Int.toNat u) (Ty.dflt Ty.bool)))
 (K (.tup [.one (dM (cat [] ((⟨4,u,v1.n,0,0,[],false⟩:Vm.Message)::[]))),.one (dI 0)]) [])
 v2)
 v2))))))))):=by subst_vars; kernel_rfl
theorem q212_vc0 (x0 x1:Int) (x2 x3:List Int) (x4 x5:Int) (x6:List Vm.Message) (x7 x8:Int) (x9 x10 x11:Bool) (x12:List Vm.Message) (x13 x14 x15:Int) (x16:List Vm.Target) (x17:List (List Int)) (rec:RK) (K:KK):segD Γ_q212 tab fn_q212 0 K rec (ent q212_L0) (q212_S0 x0 x1 x2 x3 x4 x5 x6 x7 x8 x9 x10 x11 x12 x13 x14 x15 x16 x17)=(
 br (lti x0 x1)
 (((0:Int)≤x0∧x0<(len x2:Int)) ∧
 (8:Int)≠(0:Int) ∧
 br (eqi (Int.tmod x0 8) 0)
 ((len x6+1)*72≤140737488355328 ∧
 w64 ((((len x6+1):Nat):Int)-(1:Int))=(len x6:Int) ∧
 len (nth x2 (Int.toNat x0) (Ty.dflt Ty.int)::[])*8≤140737488355328 ∧
 rec q212_L1 (q212_S1 (w64 (x0+1)) x1 x2 x3 x4 x5 x6 1 x5 x7 x0 0 false x7 x8 x9 x10 x11 x12 x13 x14 x15 x16 x17 (nth x2 (Int.toNat x0) (Ty.dflt Ty.int)::[])))
 (((0:Int)≤w64 ((len x6:Int)-(1:Int))∧w64 ((len x6:Int)-(1:Int))<(len x6:Int)) ∧
 Int.toNat (w64 ((len x6:Int)-(1:Int)))<len x6 ∧
 False))
 (((0:Int)≤x5∧x5<(len x16:Int)) ∧
 (len x6+1)*72≤140737488355328 ∧
 K (.tup [.one (dM (cat x6 ((⟨2,x5,x7,(len x3:Int),(nth x16 (Int.toNat x5) (Ty.dflt Ty.target)).image,[],false⟩:Vm.Message)::[]))),.one (dI 0)]) [])):=by kernel_rfl
theorem q212_vc1 (x0 x1:Int) (x2 x3:List Int) (x4 x5:Int) (x6:List Vm.Message) (x7 x8 x9 x10 x11:Int) (x12:Bool) (x13 x14:Int) (x15 x16 x17:Bool) (x18:List Vm.Message) (x19 x20 x21:Int) (x22:List Vm.Target) (x23:List (List Int)) (x24:List Int) (rec:RK) (K:KK):segD Γ_q212 tab fn_q212 0 K rec (ent q212_L1) (q212_S1 x0 x1 x2 x3 x4 x5 x6 x7 x8 x9 x10 x11 x12 x13 x14 x15 x16 x17 x18 x19 x20 x21 x22 x23 x24)=(
 br (lti x0 x1)
 (((0:Int)≤x0∧x0<(len x2:Int)) ∧
 (8:Int)≠(0:Int) ∧
 br (eqi (Int.tmod x0 8) 0)
 ((len x6+2)*72≤140737488355328 ∧
 w64 ((((len (cat x6 ((⟨x7,x8,x9,x10,x11,x24,x12⟩:Vm.Message)::[]))+1):Nat):Int)-(1:Int))=(((len (cat x6 ((⟨x7,x8,x9,x10,x11,x24,x12⟩:Vm.Message)::[]))):Nat):Int) ∧
 len (nth x2 (Int.toNat x0) (Ty.dflt Ty.int)::[])*8≤140737488355328 ∧
 rec q212_L1 (q212_S1 (w64 (x0+1)) x1 x2 x3 x4 x5 (cat x6 ((⟨x7,x8,x9,x10,x11,x24,x12⟩:Vm.Message)::[])) 1 x5 x13 x0 0 false x13 x14 x15 x16 x17 x18 x19 x20 x21 x22 x23 (nth x2 (Int.toNat x0) (Ty.dflt Ty.int)::[])))
 (w64 ((((len x6+1):Nat):Int)-(1:Int))=(len x6:Int) ∧
 (len x24+len (nth x2 (Int.toNat x0) (Ty.dflt Ty.int)::[]))*8≤140737488355328 ∧
 rec q212_L1 (q212_S1 (w64 (x0+1)) x1 x2 x3 x4 x5 x6 x7 x8 x9 x10 x11 x12 x13 x14 x15 x16 x17 x18 x19 x20 x21 x22 x23 (cat x24 (nth x2 (Int.toNat x0) (Ty.dflt Ty.int)::[])))))
 (((0:Int)≤x5∧x5<(len x22:Int)) ∧
 (len x6+2)*72≤140737488355328 ∧
 K (.tup [.one (dM (cat (cat x6 ((⟨x7,x8,x9,x10,x11,x24,x12⟩:Vm.Message)::[])) ((⟨2,x5,x13,(len x3:Int),(nth x22 (Int.toNat x5) (Ty.dflt Ty.target)).image,[],false⟩:Vm.Message)::[]))),.one (dI 0)]) [])):=by kernel_rfl

theorem slc_snoc {l:List Int} {lo k:Nat} (h1:lo≤k) (h2:k<l.length):cat (slc l lo k) [nth l k (Ty.dflt Ty.int)]=slc l lo (k+1):=by
 unfold slc cat
 rw [take_step h2 (Ty.dflt Ty.int),List.drop_append_of_le_length (by simp; omega)]
theorem slc_one {l:List Int} {k:Nat} (h2:k<l.length):[nth l k (Ty.dflt Ty.int)]=slc l k (k+1):=by
 rw [← slc_snoc (Nat.le_refl k) h2]
 unfold slc cat
 rw [List.drop_of_length_le (by simp; omega)]
 rfl
theorem loop1_ref_GateDue (w:List Int) (u n:Int) (hw:w.length≤40) (b:Int) (c d e:Bool) (cn cv cu:Int) (ct:List Vm.Target) (ci:List (List Int)) (hu:0≤u∧u<(ct.length:Int)) (K:KK) :
  ∀ (dd k q:Nat) (acc:List Vm.Message),k+dd=w.length→8*q<k→k≤8*q+8→acc.length≤q→K (.tup [.one (dM (acc++(piecesM u n w (6-q) (8*q)++[⟨2,u,n,(w.length:Int),(nth ct u.toNat ⟨0,0,0⟩).image,[],false⟩]))),.one (dI (0:Int))]) [] →
  goD Γ_q212 tab fn_q212 0 K (dd+1) q212_L1 (q212_S1 (k:Int) (w.length:Int) w w 0 u acc 1 u n ((8*q:Nat):Int) 0 false n b c d e [] cn cv cu ct ci (slc w (8*q) k))
 | 0,k,q,acc,hk,h1,h2,ha,hK=>by
  rw [goD_in (L:=q212_L1),q212_vc1 _ _ _ _ _ _ _ _ _ _ _ _ _ _ _ _ _ _ _ _ _ _ _ _ _ _ _]
  have hq:6-q=(5-q)+1:=by omega
  rw [hq] at hK
  simp only [piecesM,if_pos (show 8*q<w.length by omega)] at hK
  have hz:piecesM u n w (5-q) (8*q+8)=[]:=by
   cases hq2:5-q with
   | zero=>rfl
   | succ j=>simp only [piecesM,if_neg (show ¬ 8*q+8<w.length by omega)]
  have hmin:min (8*q+8) w.length=k:=by omega
  rw [hz] at hK
  unfold pieceM at hK
  rw [hmin] at hK
  refine lt_f (by omega) ⟨⟨hu.1,by simp only [len]; omega⟩,by simp only [len]; omega,?_⟩
  simp only [cat,len_eq,List.append_assoc,List.cons_append,List.nil_append] at hK ⊢
  exact hK
 | dd+1,k,q,acc,hk,h1,h2,ha,hK=>by
  rw [goD_in (L:=q212_L1),q212_vc1 _ _ _ _ _ _ _ _ _ _ _ _ _ _ _ _ _ _ _ _ _ _ _ _ _ _ _,toNat_nat]
  have hq:6-q=(5-q)+1:=by omega
  have hw1:∀ x:Nat,x≤100→w64 (((x+1:Nat):Int)-1)=(x:Int):=fun x hx=>by rw [w64_id (by omega) (by omega)]; omega
  refine lt_t (by omega) ⟨⟨by omega,by simp only [len]; omega⟩,by decide,eq_s (fun h8=>?_) (fun h8=>?_)⟩
  ·have h8:Int.tmod (k:Int) 8=0:=h8
   have hkq:k=8*q+8:=by
    have:((k % 8:Nat):Int)=0:=by rw [← h8]; rfl
    omega
   refine ⟨by simp only [len]; omega,by simp only [len,cat,List.length_append,List.length_cons,List.length_nil]; exact hw1 _ (by omega),by simp only [len,List.length_cons,List.length_nil]; omega,?_⟩
   rw [w64_succ (by omega),slc_one (show k<w.length by omega)]
   have e8:((k:Nat):Int)=((8*(q+1):Nat):Int):=by omega
   have hk1:k=8*(q+1):=by omega
   rw [hq] at hK
   simp only [piecesM,if_pos (show 8*q<w.length by omega)] at hK
   unfold pieceM at hK
   have hmin:min (8*q+8) w.length=k:=by omega
   rw [hmin] at hK
   have key:=loop1_ref_GateDue w u n hw b c d e cn cv cu ct ci hu K dd (k+1) (q+1) (cat acc [⟨1,u,n,((8*q:Nat):Int),0,slc w (8*q) k,false⟩]) (by omega) (by omega) (by omega) (by simp [cat]; omega) (by
    rw [show 6-(q+1)=5-q by omega,show 8*(q+1)=8*q+8 by omega]
    simp only [cat,List.append_assoc,List.cons_append,List.nil_append] at hK ⊢
    exact hK)
   rw [← hk1] at key
   exact key
  ·have hkq:k<8*q+8:=by
    apply Nat.lt_of_not_le
    intro hle
    have hk8:k=8*(q+1):=by omega
    exact h8 (by rw [hk8]; show ((8*(q+1) % 8:Nat):Int)=0; omega)
   refine ⟨by simp only [len]; exact hw1 _ (by omega),by simp only [len,slc,List.length_drop,List.length_take,List.length_cons,List.length_nil]; omega,?_⟩
   rw [w64_succ (by omega),slc_snoc (by omega) (by omega)]
   exact loop1_ref_GateDue w u n hw b c d e cn cv cu ct ci hu K dd (k+1) q acc (by omega) (by omega) (by omega) ha hK
theorem loop_q212 (w:List Int) (u n:Int) (hw:w.length≤40) (b:Int) (c d e:Bool) (cn cv cu:Int) (ct:List Vm.Target) (ci:List (List Int)) (hu:0≤u∧u<(ct.length:Int)) (K:KK)
  (hK:K (.tup [.one (dM (piecesM u n w 6 0++[⟨2,u,n,(w.length:Int),(nth ct u.toNat ⟨0,0,0⟩).image,[],false⟩])),.one (dI (0:Int))]) []) :
  goD Γ_q212 tab fn_q212 0 K (w.length+1) q212_L0 (q212_S0 0 (w.length:Int) w w 0 u [] n b c d e [] cn cv cu ct ci):=by
 rw [goD_in (L:=q212_L0),q212_vc0 _ _ _ _ _ _ _ _ _ _ _ _ _ _ _ _ _ _ _ _]
 by_cases hz:w.length=0
 ·rw [show piecesM u n w 6 0=[] by simp only [piecesM,if_neg (show ¬ 0<w.length by omega)]] at hK
  exact lt_f (by omega) ⟨⟨hu.1,by simp only [len]; omega⟩,by simp only [len,List.length_nil]; omega,hK⟩
 ·obtain ⟨dd,hd⟩:∃ dd,w.length=dd+1:=⟨w.length-1,by omega⟩
  refine lt_t (by omega) ⟨⟨by omega,by simp only [len]; omega⟩,by decide,eq_t rfl ⟨by simp only [len,List.length_nil]; omega,by decide,by simp only [len,List.length_cons,List.length_nil]; omega,?_⟩⟩
  have key:=loop1_ref_GateDue w u n hw b c d e cn cv cu ct ci hu K dd 1 0 [] (by omega) (by omega) (by omega) (by simp) (by rw [List.nil_append]; exact hK)
  rw [← slc_one (k:=0) (by omega),← hd] at key
  have e1:w64 (0+1)=((1:Nat):Int):=by decide
  have e0:Int.toNat 0=0:=rfl
  rw [e1,e0]
  exact key
theorem run_q212 (hp:checkG ⟨⟨ws,fu⟩,up,⟨⟨tv,tk,tt⟩,tn⟩,vo,di⟩=0∧ct.length≤140737488355328∧ci.length≤140737488355328) (K:KK) (hK:K (.tup [.one (dM (dueG ⟨⟨ws,fu⟩,up,⟨⟨tv,tk,tt⟩,tn⟩,vo,di⟩ ⟨cn,⟨cv,cu,ct⟩,ci⟩ u).1),.one (dI (dueG ⟨⟨ws,fu⟩,up,⟨⟨tv,tk,tt⟩,tn⟩,vo,di⟩ ⟨cn,⟨cv,cu,ct⟩,ci⟩ u).2)]) []):GD Γ_q212 fn_q212 0 K [.agg [dL ws,dI fu,dB up,dI tv,dL tk,dI tt,dI tn,dLb vo,dLb di],.agg [dI cn,dI cv,dI cu,.dat (.list .target) ct,dR ci],.one (dI u)] []:=by
 obtain ⟨hc,hct,hci⟩:=hp
 have hc:checkG ⟨⟨ws,fu⟩,up,⟨⟨tv,tk,tt⟩,tn⟩,vo,di⟩=0:=hc
 obtain ⟨k0,v1,v2,v3,_⟩:=checkG_ok hc
 simp only at k0 v1 v2 v3
 unfold dueG dueE duesG upG at hK
 simp only [hc,if_true] at hK
 have lv:((len vo:Nat):Int)=(vo.length:Int):=rfl
 have ld:((len di:Nat):Int)=(di.length:Int):=rfl
 have lc:((len ci:Nat):Int)=(ci.length:Int):=rfl
 have lt:((len ct:Nat):Int)=(ct.length:Int):=rfl
 obtain ⟨s,hs⟩:∃ s,ofG ⟨ws,fu⟩=s:=⟨_,rfl⟩
 rw [hs] at hK
 refine ⟨(nth ci (Int.toNat u) []).length+1+1,?_⟩
 rw [goD_code,q212_vc _ _ _ _ _ _ _ _ _ _ _ _ _ _ _ _ _ _ rfl _ rfl _ rfl _ rfl,hs,lv,ld,lc,lt]
 refine ⟨k0,nt_s (fun h=>?_) (fun h=>?_)⟩
 ·subst h
  exact hK
 subst h
 simp only [if_true] at hK
 by_cases c1:s.n=0∨s.ended=true
 ·rw [if_pos c1,if_neg (by decide)] at hK
  exact eq_s (fun _=>hK) (fun q=>br_t (c1.resolve_left q) hK)
 rw [if_neg c1] at hK
 simp only [not_or,Bool.not_eq_true] at c1
 refine eq_f c1.1 (br_f c1.2 ?_)
 by_cases c2:u<0∨(vo.length:Int)≤u∨cn≠s.n∨(ci.length:Int)≤u∨(ct.length:Int)≤u
 ·rw [if_pos c2,if_neg (by decide)] at hK
  exact lt_s (fun _=>hK) (fun q1=>br_split (fun _=>hK) (fun q2=>ne_s (fun _=>hK) (fun q3=>br_split (fun _=>hK) (fun q4=>br_t (lei_true.2 (by rw [lei_false] at q2 q4; omega)) hK))))
 rw [if_neg c2,if_pos rfl] at hK
 refine lt_f (by omega) (br_f (lei_false.2 (by omega)) (ne_f (by omega) (br_f (lei_false.2 (by omega)) (br_f (lei_false.2 (by omega)) ?_))))
 have bd:(0:Int)≤u∧u<(di.length:Int):=⟨by omega,by omega⟩
 have bv:(0:Int)≤u∧u<(vo.length:Int):=⟨by omega,by omega⟩
 have bc:(0:Int)≤u∧u<(ci.length:Int):=⟨by omega,by omega⟩
 by_cases hd:s.commit=true∨s.abort=true
 ·rw [if_pos hd] at hK
  refine br_split (fun d1=>⟨bd,nt_s (fun q=>?_) (fun q=>?_)⟩) (fun d1=>br_split (fun d2=>⟨bd,nt_s (fun q=>?_) (fun q=>?_)⟩) (fun d2=>?_))
  ·rw [if_neg (by exact Bool.eq_false_iff.1 q)] at hK
   unfold decisionM kindG at hK
   rw [if_pos ⟨d1,rfl⟩] at hK
   exact hK
  ·rw [if_pos (by exact q)] at hK
   exact br_split (fun _=>⟨bd,nt_f q (br_t d1 hK)⟩) (fun _=>br_t d1 hK)
  ·rw [if_neg (by exact Bool.eq_false_iff.1 q)] at hK
   unfold decisionM kindG at hK
   rw [if_neg (by rw [d1]; simp)] at hK
   exact hK
  ·rw [if_pos (by exact q)] at hK
   exact br_f d1 (br_t d2 hK)
  ·rw [d1,d2] at hd
   simp at hd
 rw [if_neg hd] at hK
 simp only [not_or,Bool.not_eq_true] at hd
 refine br_f hd.1 (br_f hd.2 (br_f hd.1 (br_f hd.2 ⟨bv,br_split (fun q=>?_) (fun q=>⟨bc,?_⟩)⟩)))
 ·rw [if_pos (by exact q)] at hK; exact hK
 rw [if_neg (by exact Bool.eq_false_iff.1 q)] at hK
 unfold imageM at hK
 simp only at hK
 obtain ⟨w,hw⟩:∃ w,nth ci (Int.toNat u) (Ty.dflt (Ty.list Ty.int))=w:=⟨_,rfl⟩
 have hw':nth ci (Int.toNat u) []=w:=hw
 rw [hw,hw']
 rw [hw'] at hK
 have lw:((len w:Nat):Int)=(w.length:Int):=rfl
 rw [lw]
 by_cases c3:40<w.length
 ·rw [if_pos c3] at hK
  exact lt_t (by omega) hK
 ·rw [if_neg c3] at hK
  exact lt_f (by omega) (loop_q212 w u s.n (by omega) s.version s.commit s.abort s.ended cn cv cu ct ci ⟨by omega,by omega⟩ K hK)
theorem sound_q212:SoundC Tryz.prog tab n_q212 c_q212:=soundC_f ok_q212 hg_q212 (by
 intro vs bs p v bs' h hp
 unfold c_q212 at h
 split at h
 ·cases h
  exact ⟨by kernel_rfl,rfl,.inl (run_q212 _ _ _ _ _ _ _ _ _ _ _ _ _ _ _ hp.1 _ ⟨rfl,rfl⟩)⟩
 ·cases h)

def c_q149:Contract:=fun vs bs=>match vs,bs with
 | [.agg [.dat .int mk,.dat .int mu,.dat .int mn,.dat .int ma,.dat .int mi,.dat (.list .int) mw,.dat .bool my],.agg [.dat .int qk,.dat .int qu,.dat .int qn,.dat .int qa,.dat .int qi,.dat (.list .int) qw,.dat .bool qy]],[]=>some (some (Sm mw),.one (dB (sameMsg ⟨mk,mu,mn,ma,mi,mw,my⟩ ⟨qk,qu,qn,qa,qi,qw,qy⟩)),[])
 | _,_=>none
def Γ_q149:Ctx:=[(n_q0,c_q0)]
theorem ok_q149:Ok Tryz.prog tab Γ_q149:=(ok_nil.c hg_q0 sound_q0)
theorem q149_vc (mk mu mn ma mi:Int) (mw:List Int) (my:Bool) (qk qu qn qa qi:Int) (qw:List Int) (qy:Bool) (rec:RK) (K:KK) v0 (hv0:v0=eqIs mw qw):segD Γ_q149 tab fn_q149 0 K rec [.code (bodyOf fn_q149)] (initSt [.agg [dI mk,dI mu,dI mn,dI ma,dI mi,dL mw,dB my],.agg [dI qk,dI qu,dI qn,dI qa,dI qi,dL qw,dB qy]] [])=(
 br (eqi mk qk)
 (br (eqi mu qu)
 (br (eqi mn qn)
 (br (eqi ma qa)
 (br (eqi mi qi)
 (br (eqb my qy)
 (List.length mw≤140737488355328 ∧
 K (.one (dB v0)) [])
 (K vF []))
 (K vF []))
 (K vF []))
 (K vF []))
 (K vF []))
 (K vF [])):=by subst_vars; kernel_rfl

theorem run_q149 (hp:Sm mw) (K:KK) (hK:K (.one (dB (sameMsg ⟨mk,mu,mn,ma,mi,mw,my⟩ ⟨qk,qu,qn,qa,qi,qw,qy⟩))) []):GD Γ_q149 fn_q149 0 K [.agg [dI mk,dI mu,dI mn,dI ma,dI mi,dL mw,dB my],.agg [dI qk,dI qu,dI qn,dI qa,dI qi,dL qw,dB qy]] []:=by
 refine ⟨1,?_⟩
 rw [goD_code,q149_vc _ _ _ _ _ _ _ _ _ _ _ _ _ _ _ _ _ rfl]
 unfold sameMsg at hK
 simp only at hK
 refine br_split (fun h1=>br_split (fun h2=>br_split (fun h3=>br_split (fun h4=>br_split (fun h5=>br_split (fun h6=>⟨hp,?_⟩) (fun h6=>?_)) (fun h5=>?_)) (fun h4=>?_)) (fun h3=>?_)) (fun h2=>?_)) (fun h1=>?_)
 ·rw [h1,h2,h3,h4,h5,h6] at hK; exact hK
 ·rw [h1,h2,h3,h4,h5,h6] at hK; exact hK
 ·rw [h1,h2,h3,h4,h5] at hK; exact hK
 ·rw [h1,h2,h3,h4] at hK; exact hK
 ·rw [h1,h2,h3] at hK; exact hK
 ·rw [h1,h2] at hK; exact hK
 ·rw [h1] at hK; exact hK
theorem sound_q149:SoundC Tryz.prog tab n_q149 c_q149:=soundC_f ok_q149 hg_q149 (by
 intro vs bs p v bs' h hp
 unfold c_q149 at h
 split at h
 ·cases h
  exact ⟨by kernel_rfl,rfl,.inl (run_q149 _ _ _ _ _ _ _ _ _ _ _ _ _ _ hp.1 _ ⟨rfl,rfl⟩)⟩
 ·cases h)

def c_q150:Contract:=fun vs bs=>match vs,bs with
 | [.one (.dat (.list .message) a),.one (.dat (.list .message) b),.one (.fn f [])],[]=>(match Nat.beq f n_q149 with | true=>some (some (a.length≤140737488355328∧smM a=true),.one (dB (sameMsgs a b)),[]) | false=>none)
 | _,_=>none
def Γ_q150:Ctx:=[(n_q149,c_q149)]
theorem ok_q150:Ok Tryz.prog tab Γ_q150:=(ok_nil.c hg_q149 sound_q149)
noncomputable def q150_0_L0:List It:=[.inLoop [17,16,15,6,1,2] (cSub fn_q150 [1,1,0,1,0,0]),.inBlock 0,.code (cSub fn_q150 [1,1,1])]
def q150_0_S0 (x0 x1:Int) (x2:List Vm.Message) (x3:Bool) (x4:List Vm.Message):St:=⟨[(17,.one (dI x0)),(16,.one (dI x1)),(15,.one (dM x2)),(6,.one (dB x3)),(1,.one (dM x4)),(2,.one (.fn n_q149 []))],[],0⟩
theorem q150_0_vc (a b:List Message) (rec:RK) (K:KK):segD Γ_q150 tab fn_q150 0 K rec [.code (bodyOf fn_q150)] (initSt [.one (dM a),.one (dM b),.one (.fn n_q149 [])] [])=(
 br (!(eqi (len a:Int) (len b:Int)))
 (K vF [])
 (rec q150_0_L0 (q150_0_S0 0 (len a:Int) a false b))):=by kernel_rfl
theorem q150_0_vc0 (x0 x1:Int) (x2:List Vm.Message) (x3:Bool) (x4:List Vm.Message) (rec:RK) (K:KK) v0 (hv0:v0=sameMsg ⟨(nth x2 (Int.toNat x0) (Ty.dflt Ty.message)).kind,(nth x2 (Int.toNat x0) (Ty.dflt Ty.message)).unit,(nth x2 (Int.toNat x0) (Ty.dflt Ty.message)).n,(nth x2 (Int.toNat x0) (Ty.dflt Ty.message)).at_,(nth x2 (Int.toNat x0) (Ty.dflt Ty.message)).image,(nth x2 (Int.toNat x0) (Ty.dflt Ty.message)).words,(nth x2 (Int.toNat x0) (Ty.dflt Ty.message)).yes⟩ ⟨(nth x4 (Int.toNat x0) (Ty.dflt Ty.message)).kind,(nth x4 (Int.toNat x0) (Ty.dflt Ty.message)).unit,(nth x4 (Int.toNat x0) (Ty.dflt Ty.message)).n,(nth x4 (Int.toNat x0) (Ty.dflt Ty.message)).at_,(nth x4 (Int.toNat x0) (Ty.dflt Ty.message)).image,(nth x4 (Int.toNat x0) (Ty.dflt Ty.message)).words,(nth x4 (Int.toNat x0) (Ty.dflt Ty.message)).yes⟩):segD Γ_q150 tab fn_q150 0 K rec (ent q150_0_L0) (q150_0_S0 x0 x1 x2 x3 x4)=(
 br (lti x0 x1)
 (((0:Int)≤x0∧x0<(len x2:Int)) ∧
 ((0:Int)≤x0∧x0<(len x4:Int)) ∧
 List.length (nth x2 (Int.toNat x0) (Ty.dflt Ty.message)).words≤140737488355328 ∧
 br (!v0)
 (K vF [])
 (rec q150_0_L0 (q150_0_S0 (w64 (x0+1)) x1 x2 x3 x4)))
 (K vT [])):=by subst_vars; kernel_rfl

theorem loop_q150_0 (a b:List Vm.Message) (hl:a.length=b.length) (hs:a.length≤140737488355328) (hr:smM a=true) (K:KK):∀ (d k:Nat),k+d=a.length→K (.one (dB (sameMsgs (a.drop k) (b.drop k)))) [] →
  goD Γ_q150 tab fn_q150 0 K (d+1) q150_0_L0 (q150_0_S0 (k:Int) (((len a):Nat):Int) a false b)
 | 0,k,hk,hK=>by
  rw [goD_in (L:=q150_0_L0),q150_0_vc0 _ _ _ _ _ _ _ _ rfl]
  refine lt_f (by simp only [len]; omega) ?_
  rw [List.drop_of_length_le (by omega),List.drop_of_length_le (by omega)] at hK
  exact hK
 | d+1,k,hk,hK=>by
  rw [goD_in (L:=q150_0_L0),q150_0_vc0 _ _ _ _ _ _ _ _ rfl,toNat_nat]
  have hm:nth a k (Ty.dflt .message)∈a:=by
   have:k<a.length:=by omega
   simp [nth,List.getD_eq_getElem?_getD,this]
  rw [drop_step (l:=a) (by omega) (Ty.dflt .message),drop_step (l:=b) (by omega) (Ty.dflt .message)] at hK
  simp only [sameMsgs] at hK
  refine lt_t (by simp only [len]; omega) ⟨⟨by omega,by simp only [len]; omega⟩,⟨by omega,by simp only [len]; omega⟩,by simpa using List.all_eq_true.1 hr _ hm,nt_s (fun hne=>?_) (fun heq=>?_)⟩
  ·rw [show sameMsg (nth a k (Ty.dflt .message)) (nth b k (Ty.dflt .message))=false from hne] at hK
   exact hK
  ·rw [w64_succ (by omega)]
   rw [show sameMsg (nth a k (Ty.dflt .message)) (nth b k (Ty.dflt .message))=true from heq,Bool.true_and] at hK
   exact loop_q150_0 a b hl hs hr K d (k+1) (by omega) hK
theorem run_q150_0 (b:List Vm.Message) (hp:a.length≤140737488355328∧smM a=true) (K:KK) (hK:K (.one (dB (sameMsgs a b))) []):GD Γ_q150 fn_q150 0 K [.one (dM a),.one (dM b),.one (.fn n_q149 [])] []:=by
 refine ⟨a.length+2,?_⟩
 rw [goD_code,q150_0_vc _ _ _ _]
 refine ne_s (fun h=>?_) (fun h=>?_)
 ·rw [sameMsgs_len a b (by simp only [len] at h; omega)] at hK
  exact hK
 ·exact loop_q150_0 a b (by simp only [len] at h; omega) hp.1 hp.2 K a.length 0 (by omega) hK
theorem sound_q150:SoundC Tryz.prog tab n_q150 c_q150:=soundC_f ok_q150 hg_q150 (by
 intro vs bs p v bs' h hp
 unfold c_q150 at h
 split at h
 ·split at h
  ·rename_i hfn
   have hfn:=Nat.eq_of_beq_eq_true hfn
   subst hfn
   cases h
   exact ⟨by kernel_rfl,rfl,.inl (run_q150_0 _ _ hp.1 _ ⟨rfl,rfl⟩)⟩
  ·cases h
 ·cases h)

def c_q151:Contract:=fun vs bs=>match vs,bs with
 | [.one (.dat (.list .message) a),.one (.dat (.list .message) b)],[]=>some (some (a.length≤140737488355328∧smM a=true),.one (dB (sameMsgs a b)),[])
 | _,_=>none
def Γ_q151:Ctx:=[(n_q150,c_q150),(n_q149,c_q149)]
theorem ok_q151:Ok Tryz.prog tab Γ_q151:=((ok_nil.c hg_q149 sound_q149).c hg_q150 sound_q150)
theorem q151_vc (a b:List Message) (rec:RK) (K:KK) v0 (hv0:v0=smM a) v1 (hv1:v1=sameMsgs a b):segD Γ_q151 tab fn_q151 0 K rec [.code (bodyOf fn_q151)] (initSt [.one (dM a),.one (dM b)] [])=(
 (List.length a≤140737488355328∧v0=true) ∧
 K (.one (dB v1)) []):=by subst_vars; kernel_rfl

theorem run_q151 (b:List Vm.Message) (hp:a.length≤140737488355328∧smM a=true) (K:KK) (hK:K (.one (dB (sameMsgs a b))) []):GD Γ_q151 fn_q151 0 K [.one (dM a),.one (dM b)] []:=by
 refine ⟨1,?_⟩
 rw [goD_code,q151_vc _ _ _ _ _ rfl _ rfl]
 exact ⟨hp,hK⟩
theorem sound_q151:SoundC Tryz.prog tab n_q151 c_q151:=soundC_f ok_q151 hg_q151 (by
 intro vs bs p v bs' h hp
 unfold c_q151 at h
 split at h
 ·cases h
  exact ⟨by kernel_rfl,rfl,.inl (run_q151 _ _ hp.1 _ ⟨rfl,rfl⟩)⟩
 ·cases h)

def c_q206:Contract:=fun vs bs=>match vs,bs with
 | [.agg [.dat (.list .int) ws,.dat .int fu,.dat .bool up,.dat .int tv,.dat (.list .int) tk,.dat .int tt,.dat .int tn,.dat (.list .bool) vo,.dat (.list .bool) di]],[]=>some (some (len ws*8≤140737488355328∧len tk*8≤140737488355328∧len vo≤140737488355328∧len di≤140737488355328),.agg [dL ws,dI fu,dB up,dI tv,.own 0,dI tt,dI tn,.own 1,.own 2],[.arr .int tk,.arr .bool vo,.arr .bool di])
 | _,_=>none
def Γ_q206:Ctx:=[(n_q187,c_q187)]
theorem ok_q206:Ok Tryz.prog tab Γ_q206:=(ok_nil.c hg_q187 sound_q187)
theorem q206_vc (ws:List Int) (fu:Int) (up:Bool) (tv:Int) (tk:List Int) (tt tn:Int) (vo di:List Bool) (rec:RK) (K:KK):segO Γ_q206 tab fn_q206 0 K rec [.code (bodyOf fn_q206)] (initSt [.agg [dL ws,dI fu,dB up,dI tv,dL tk,dI tt,dI tn,dLb vo,dLb di]] [])=(
 len ws*8≤140737488355328 ∧
 (0+len tk)*8≤140737488355328 ∧
 (0+len vo)*1≤140737488355328 ∧
 (0+len di)*1≤140737488355328 ∧
 K (.agg [dL ws,dI fu,dB up,dI tv,.own 0,dI tt,dI tn,.own 1,.own 2]) [.arr Ty.int (cat [] tk),.arr Ty.bool (cat [] vo),.arr Ty.bool (cat [] di)]):=by kernel_rfl

theorem run_q206 (hp:len ws*8≤140737488355328∧len tk*8≤140737488355328∧len vo≤140737488355328∧len di≤140737488355328) (K:KK) (hK:K (.agg [dL ws,dI fu,dB up,dI tv,.own 0,dI tt,dI tn,.own 1,.own 2]) [.arr .int tk,.arr .bool vo,.arr .bool di]):GO Γ_q206 fn_q206 0 K [.agg [dL ws,dI fu,dB up,dI tv,dL tk,dI tt,dI tn,dLb vo,dLb di]] []:=by
 refine ⟨1,?_⟩
 rw [goO_code,q206_vc _ _ _ _ _ _ _ _ _ _ _]
 exact ⟨hp.1,by omega,by omega,by omega,hK⟩
theorem sound_q206:SoundC Tryz.prog tab n_q206 c_q206:=soundC_f ok_q206 hg_q206 (by
 intro vs bs p v bs' h hp
 unfold c_q206 at h
 split at h
 ·cases h
  exact ⟨by kernel_rfl,rfl,.inr (.inl (run_q206 _ _ _ _ _ _ _ _ _ hp.1 _ ⟨rfl,rfl⟩))⟩
 ·cases h)

def c_q80:Contract:=fun vs bs=>match vs,bs with
 | [.one (.dat (.list .int) l)],[]=>some (some (Sm l),.one (dI (checkRec l)),[])
 | _,_=>none
def Γ_q80:Ctx:=[(n_q19,c_q19)]
theorem ok_q80:Ok Tryz.prog tab Γ_q80:=(ok_nil.c hg_q19 sound_q19)
theorem q80_vc (l:List Int) (rec:RK) (K:KK) v0 (hv0:v0=okWords l):segD Γ_q80 tab fn_q80 0 K rec [.code (bodyOf fn_q80)] (initSt [.one (dL l)] [])=(
 br (lti (len l:Int) 1)
 (K (.one (dI 2)) [])
 (br (lti 4 (len l:Int))
 (K (.one (dI 2)) [])
 (List.length l≤140737488355328 ∧
 br (!v0)
 (K (.one (dI 3)) [])
 (K (.one (dI 0)) [])))):=by subst_vars; kernel_rfl

theorem run_q80 (l:List Int) (hp:Sm l) (K:KK) (hK:K (.one (dI (checkRec l))) []):GD Γ_q80 fn_q80 0 K [.one (dL l)] []:=by
 refine ⟨1,?_⟩
 rw [goD_code,q80_vc _ _ _ _ rfl]
 unfold checkRec at hK
 refine lt_s (fun h=>?_) (fun h=>lt_s (fun h2=>?_) (fun h2=>⟨hp,nt_s (fun h3=>?_) (fun h3=>?_)⟩))
 ·rw [if_neg (by simp only [len] at h; omega)] at hK; exact hK
 ·rw [if_neg (by simp only [len] at h2; omega)] at hK; exact hK
 ·rw [if_pos (by simp only [len] at h h2; omega),if_neg (by rw [h3]; simp)] at hK; exact hK
 ·rw [if_pos (by simp only [len] at h h2; omega),if_pos h3] at hK; exact hK
theorem sound_q80:SoundC Tryz.prog tab n_q80 c_q80:=soundC_f ok_q80 hg_q80 (by
 intro vs bs p v bs' h hp
 unfold c_q80 at h
 split at h
 ·cases h
  exact ⟨by kernel_rfl,rfl,.inl (run_q80 _ hp.1 _ ⟨rfl,rfl⟩)⟩
 ·cases h)

def c_q36:Contract:=fun vs bs=>match vs,bs with
 | [.one (.dat .int at_),.one (.dat (.list .int) l)],[]=>some (some (0≤at_∧at_≤1000∧len l≤1000),.one (.own 0),[.arr .change (burnCh at_ l)])
 | _,_=>none
def Γ_q36:Ctx:=[]
theorem ok_q36:Ok Tryz.prog tab Γ_q36:=ok_nil
noncomputable def q36_L0:List It:=[.inLoop [10,9,8,5,4,0] (cSub fn_q36 [1,1,0,1,0,0]),.inBlock 0,.code (cSub fn_q36 [1,1,1])]
def q36_S0 (x0 x1:Int) (x2:List Int) (x3:Int) (x4 x5:List Change):St:=⟨[(10,.one (dI x0)),(9,.one (dI x1)),(8,.one (dL x2)),(5,.one (.own 0)),(4,.one (.own 1)),(0,.one (dI x3))],[(0,.arr Ty.change x4),(1,.arr Ty.change x5)],2⟩
theorem q36_vc (at_:Int) (l:List Int) (rec:RK) (K:KK):segO Γ_q36 tab fn_q36 0 K rec [.code (bodyOf fn_q36)] (initSt [.one (dI at_),.one (dL l)] [])=(
 rec q36_L0 (q36_S0 0 (len l:Int) l at_ [] [])):=by kernel_rfl
theorem q36_vc0 (x0 x1:Int) (x2:List Int) (x3:Int) (x4 x5:List Change) (rec:RK) (K:KK):segO Γ_q36 tab fn_q36 0 K rec (ent q36_L0) (q36_S0 x0 x1 x2 x3 x4 x5)=(
 br (lti x0 x1)
 (((0:Int)≤x0∧x0<(len x2:Int)) ∧
 (len x4+len ((⟨w64 (x3+x0),some (nth x2 (Int.toNat x0) (Ty.dflt Ty.int))⟩:Change)::[]))*16≤140737488355328 ∧
 rec q36_L0 (q36_S0 (w64 (x0+1)) x1 x2 x3 (cat x4 ((⟨w64 (x3+x0),some (nth x2 (Int.toNat x0) (Ty.dflt Ty.int))⟩:Change)::[])) x5))
 (K (.one (.own 0)) [.arr Ty.change x4])):=by kernel_rfl

theorem loop_q36 (at_:Int) (l:List Int) (h0:0≤at_) (h1:at_≤1000) (h2:l.length≤1000) (K:KK) (hK:K (.one (.own 0)) [.arr .change (burnCh at_ l)]):∀ (d k:Nat),k+d=l.length →
  goO Γ_q36 tab fn_q36 0 K (d+1) q36_L0 (q36_S0 (k:Int) (((len l):Nat):Int) l at_ (burnCh at_ (l.take k)) [])
 | 0,k,hk=>by
  rw [goO_in (L:=q36_L0),q36_vc0 _ _ _ _ _ _ _ _]
  rw [List.take_of_length_le (by omega)]
  exact lt_f (by simp only [len]; omega) hK
 | d+1,k,hk=>by
  rw [goO_in (L:=q36_L0),q36_vc0 _ _ _ _ _ _ _ _]
  refine lt_t (by simp only [len]; omega) ⟨⟨by omega,by simp only [len]; omega⟩,?_,?_⟩
  ·simp only [len,burnCh_len,List.length_cons,List.length_nil,List.length_take]; omega
  ·rw [w64_id (n:=at_+(k:Int)) (by omega) (by omega),w64_succ (by omega),toNat_nat]
   have:=loop_q36 at_ l h0 h1 h2 K hK d (k+1) (by omega)
   rw [take_step (by omega) (Ty.dflt Ty.int),burnCh_append] at this
   rw [show ((l.take k).length:Int)=(k:Int) by simp; omega] at this
   exact this
theorem run_q36 (l:List Int) (hp:0≤at_∧at_≤1000∧len l≤1000) (K:KK) (hK:K (.one (.own 0)) [.arr .change (burnCh at_ l)]):GO Γ_q36 fn_q36 0 K [.one (dI at_),.one (dL l)] []:=by
 refine ⟨l.length+2,?_⟩
 rw [goO_code,q36_vc _ _ _ _]
 exact loop_q36 at_ l hp.1 hp.2.1 hp.2.2 K hK l.length 0 (by omega)
theorem sound_q36:SoundC Tryz.prog tab n_q36 c_q36:=soundC_f ok_q36 hg_q36 (by
 intro vs bs p v bs' h hp
 unfold c_q36 at h
 split at h
 ·cases h
  exact ⟨by kernel_rfl,rfl,.inr (.inl (run_q36 _ _ hp.1 _ ⟨rfl,rfl⟩))⟩
 ·cases h)

def c_q35:Contract:=fun vs bs=>match vs,bs with
 | [.one (.dat .int sector)],[]=>some (some (0≤sector∧sector≤10),.one (.own 0),[.arr .change (wipeCh sector)])
 | _,_=>none
def Γ_q35:Ctx:=[]
theorem ok_q35:Ok Tryz.prog tab Γ_q35:=ok_nil
noncomputable def q35_L0:List It:=[.inLoop [5,3,2,0] (cSub fn_q35 [1,1,0,1,0,0]),.inBlock 0,.code (cSub fn_q35 [1,1,1])]
def q35_S0 (x0 x1:Int) (x2 x3:List Change):St:=⟨[(5,.one (dI x0)),(3,.one (.own 0)),(2,.one (.own 1)),(0,.one (dI x1))],[(0,.arr Ty.change x2),(1,.arr Ty.change x3)],2⟩
theorem q35_vc (sector:Int) (rec:RK) (K:KK):segO Γ_q35 tab fn_q35 0 K rec [.code (bodyOf fn_q35)] (initSt [.one (dI sector)] [])=(
 rec q35_L0 (q35_S0 0 sector [] [])):=by kernel_rfl
theorem q35_vc0 (x0 x1:Int) (x2 x3:List Change) (rec:RK) (K:KK):segO Γ_q35 tab fn_q35 0 K rec (ent q35_L0) (q35_S0 x0 x1 x2 x3)=(
 br (lti x0 32)
 ((len x2+len ((⟨w64 (w64 ((32:Int)*x1)+x0),none⟩:Change)::[]))*16≤140737488355328 ∧
 rec q35_L0 (q35_S0 (w64 (x0+1)) x1 (cat x2 ((⟨w64 (w64 ((32:Int)*x1)+x0),none⟩:Change)::[])) x3))
 (K (.one (.own 0)) [.arr Ty.change x2])):=by kernel_rfl

theorem wipe_snoc (a:Int):∀ n:Nat,wipeFrom a (n+1)=wipeFrom a n++[⟨a+n,none⟩]:=by
 intro n
 induction n generalizing a with
 | zero=>simp [wipeFrom]
 | succ n ih =>
  rw [wipeFrom,ih (a+1)]
  simp only [wipeFrom,List.cons_append]
  rw [show a+1+(n:Int)=a+((n+1:Nat):Int) by omega]
theorem loop_q35 (sector:Int) (h0:0≤sector) (h1:sector≤10) (K:KK) (hK:K (.one (.own 0)) [.arr .change (wipeCh sector)]):∀ (d k:Nat),k+d=32 →
  goO Γ_q35 tab fn_q35 0 K (d+1) q35_L0 (q35_S0 (k:Int) sector (wipeFrom (32*sector) k) [])
 | 0,k,hk=>by
  rw [goO_in (L:=q35_L0),q35_vc0 _ _ _ _ _ _]
  have:k=32:=by omega
  subst this
  exact lt_f (by omega) hK
 | d+1,k,hk=>by
  rw [goO_in (L:=q35_L0),q35_vc0 _ _ _ _ _ _]
  refine lt_t (by omega) ⟨?_,?_⟩
  ·simp only [len,wipeFrom_len,List.length_cons,List.length_nil]; omega
  ·rw [w64_id (n:=32*sector) (by omega) (by omega),w64_id (n:=32*sector+(k:Int)) (by omega) (by omega),w64_succ (by omega)]
   have:=loop_q35 sector h0 h1 K hK d (k+1) (by omega)
   rw [wipe_snoc] at this
   exact this
theorem run_q35 (hp:0≤sector∧sector≤10) (K:KK) (hK:K (.one (.own 0)) [.arr .change (wipeCh sector)]):GO Γ_q35 fn_q35 0 K [.one (dI sector)] []:=by
 refine ⟨34,?_⟩
 rw [goO_code,q35_vc _ _ _]
 exact loop_q35 sector hp.1 hp.2 K hK 32 0 rfl
theorem sound_q35:SoundC Tryz.prog tab n_q35 c_q35:=soundC_f ok_q35 hg_q35 (by
 intro vs bs p v bs' h hp
 unfold c_q35 at h
 split at h
 ·cases h
  exact ⟨by kernel_rfl,rfl,.inr (.inl (run_q35 _ hp.1 _ ⟨rfl,rfl⟩))⟩
 ·cases h)

def c_q75:Contract:=fun vs bs=>match vs,bs with
 | [.one (.dat (.list (.list .change)) xs)],[]=>some (some (xs.length≤10∧(joinCh xs).length≤1000),.one (.own 0),[.arr .change (joinCh xs)])
 | _,_=>none
def Γ_q75:Ctx:=[(n_q74,c_q74)]
theorem ok_q75:Ok Tryz.prog tab Γ_q75:=(ok_nil.c hg_q74 sound_q74)
noncomputable def q75_L0:List It:=[.inLoop [11,10,9,3,2,0] (cSub fn_q75 [1,1,0,1,0,0]),.inBlock 0,.code (cSub fn_q75 [1,1,1])]
def q75_S0 (x0 x1:Int) (x2:List (List Change)) (x3:Int) (x4:List (List Change)) (x5:List Change):St:=⟨[(11,.one (dI x0)),(10,.one (dI x1)),(9,.one (.dat (Ty.list (Ty.list Ty.change)) x2)),(3,.one (dI x3)),(2,.one (.own 0)),(0,.one (.dat (Ty.list (Ty.list Ty.change)) x4))],[(0,.arr Ty.change x5)],1⟩
noncomputable def q75_L1:List It:=[.inLoop [27,26,25,6,2] (cSub fn_q75 [1,1,1,1,0,1,0,0]),.inBlock 2,.code (cSub fn_q75 [1,1,1,1,1])]
def q75_S1 (x0 x1:Int) (x2:List (List Change)) (x3 x4:List Change):St:=⟨[(27,.one (dI x0)),(26,.one (dI x1)),(25,.one (.dat (Ty.list (Ty.list Ty.change)) x2)),(6,.one (.own 0)),(2,.one (.own 1))],[(0,.arr Ty.change x3),(1,.arr Ty.change x4)],2⟩
theorem q75_vc (xs:List (List Change)) (rec:RK) (K:KK):segO Γ_q75 tab fn_q75 0 K rec [.code (bodyOf fn_q75)] (initSt [.one (.dat (Ty.list (Ty.list Ty.change)) xs)] [])=(
 rec q75_L0 (q75_S0 0 (len xs:Int) xs 0 xs [])):=by kernel_rfl
theorem q75_vc0 (x0 x1:Int) (x2:List (List Change)) (x3:Int) (x4:List (List Change)) (x5:List Change) (rec:RK) (K:KK):segO Γ_q75 tab fn_q75 0 K rec (ent q75_L0) (q75_S0 x0 x1 x2 x3 x4 x5)=(
 br (lti x0 x1)
 (((0:Int)≤x0∧x0<(len x2:Int)) ∧
 br (lti (w64 (x3+(((len (nth x2 (Int.toNat x0) (Ty.dflt (Ty.list Ty.change)))):Nat):Int))) 0)
 (False)
 (rec q75_L0 (q75_S0 (w64 (x0+1)) x1 x2 (w64 (x3+(((len (nth x2 (Int.toNat x0) (Ty.dflt (Ty.list Ty.change)))):Nat):Int))) x4 x5)))
 (((0:Int)≤x3∧x3≤100000) ∧
 rec q75_L1 (q75_S1 0 (len x4:Int) x4 [] x5))):=by kernel_rfl
theorem q75_vc1 (x0 x1:Int) (x2:List (List Change)) (x3 x4:List Change) (rec:RK) (K:KK):segO Γ_q75 tab fn_q75 0 K rec (ent q75_L1) (q75_S1 x0 x1 x2 x3 x4)=(
 br (lti x0 x1)
 (((0:Int)≤x0∧x0<(len x2:Int)) ∧
 (len x3+len (nth x2 (Int.toNat x0) (Ty.dflt (Ty.list Ty.change))))*16≤140737488355328 ∧
 rec q75_L1 (q75_S1 (w64 (x0+1)) x1 x2 (cat x3 (nth x2 (Int.toNat x0) (Ty.dflt (Ty.list Ty.change)))) x4))
 (K (.one (.own 0)) [.arr Ty.change x3])):=by kernel_rfl

theorem joinCh_take {xs:List (List Change)} {k:Nat} (h:k<xs.length):joinCh (xs.take (k+1))=joinCh (xs.take k)++nth xs k []:=by
 rw [take_step h []]
 have:∀ (a:List (List Change)) (x:List Change),joinCh (a++[x])=joinCh a++x:=fun a x=>by
  induction a with
  | nil=>simp [joinCh]
  | cons y a ih=>simp [joinCh,ih]
 exact this _ _
theorem joinCh_le (xs:List (List Change)) (k:Nat):(joinCh (xs.take k)).length≤(joinCh xs).length:=by
 induction xs generalizing k with
 | nil=>simp
 | cons x xs ih =>
  cases k with
  | zero=>simp [joinCh]
  | succ k=>simp only [List.take_succ_cons,joinCh,List.length_append]; have:=ih k; omega
theorem loop1_Concat (xs:List (List Change)) (h1:xs.length≤10) (h2:(joinCh xs).length≤1000) (K:KK) (hK:K (.one (.own 0)) [.arr .change (joinCh xs)]) (y:List Change):∀ (d k:Nat),k+d=xs.length →
  goO Γ_q75 tab fn_q75 0 K (d+1) q75_L1 (q75_S1 (k:Int) (((len xs):Nat):Int) xs (joinCh (xs.take k)) y)
 | 0,k,hk=>by
  rw [goO_in (L:=q75_L1),q75_vc1 _ _ _ _ _ _ _,List.take_of_length_le (by omega)]
  exact lt_f (by simp only [len]; omega) hK
 | d+1,k,hk=>by
  rw [goO_in (L:=q75_L1),q75_vc1 _ _ _ _ _ _ _,toNat_nat]
  have hj:=joinCh_take (xs:=xs) (k:=k) (by omega)
  have hl:=joinCh_le xs (k+1)
  have e:nth xs k (Ty.dflt (Ty.list Ty.change))=nth xs k []:=rfl
  rw [e]
  rw [hj,List.length_append] at hl
  refine lt_t (by simp only [len]; omega) ⟨⟨by omega,by simp only [len]; omega⟩,by simp only [len]; omega,?_⟩
  rw [w64_succ (by omega),show cat (joinCh (xs.take k)) (nth xs k [])=joinCh (xs.take (k+1)) from hj.symm]
  exact loop1_Concat xs h1 h2 K hK y d (k+1) (by omega)
theorem loop0_Concat (xs:List (List Change)) (h1:xs.length≤10) (h2:(joinCh xs).length≤1000) (K:KK) (hK:K (.one (.own 0)) [.arr .change (joinCh xs)]):∀ (d k:Nat),k+d=xs.length →
  goO Γ_q75 tab fn_q75 0 K (d+1+(xs.length+1)) q75_L0 (q75_S0 (k:Int) (((len xs):Nat):Int) xs (((joinCh (xs.take k)).length:Nat):Int) xs [])
 | 0,k,hk=>by
  rw [show 0+1+(xs.length+1)=(xs.length+1)+1 by omega,goO_in (L:=q75_L0),q75_vc0 _ _ _ _ _ _ _ _,List.take_of_length_le (by omega)]
  exact lt_f (by simp only [len]; omega) ⟨⟨by omega,by omega⟩,loop1_Concat xs h1 h2 K hK [] xs.length 0 (by omega)⟩
 | d+1,k,hk=>by
  rw [show d+1+1+(xs.length+1)=(d+1+(xs.length+1))+1 by omega,goO_in (L:=q75_L0),q75_vc0 _ _ _ _ _ _ _ _,toNat_nat]
  have hj:=joinCh_take (xs:=xs) (k:=k) (by omega)
  have hl:=joinCh_le xs (k+1)
  have e:nth xs k (Ty.dflt (Ty.list Ty.change))=nth xs k []:=rfl
  rw [e]
  have hj2:=congrArg List.length hj
  rw [List.length_append] at hj2
  rw [w64_succ (by omega),w64_id (n:=(((joinCh (xs.take k)).length:Nat):Int)+_) (by simp only [len]; omega) (by simp only [len]; omega)]
  refine lt_t (by simp only [len]; omega) ⟨⟨by omega,by simp only [len]; omega⟩,lt_f (by simp only [len]; omega) ?_⟩
  rw [show (((joinCh (xs.take k)).length:Nat):Int)+(((len (nth xs k [])):Nat):Int)=(((joinCh (xs.take (k+1))).length:Nat):Int) by simp only [len]; omega]
  exact loop0_Concat xs h1 h2 K hK d (k+1) (by omega)
theorem run_q75 (hp:xs.length≤10∧(joinCh xs).length≤1000) (K:KK) (hK:K (.one (.own 0)) [.arr .change (joinCh xs)]):GO Γ_q75 fn_q75 0 K [.one (.dat (.list (.list .change)) xs)] []:=by
 refine ⟨xs.length+1+(xs.length+1)+1,?_⟩
 rw [goO_code,q75_vc _ _ _]
 exact loop0_Concat xs hp.1 hp.2 K hK xs.length 0 (by omega)
theorem sound_q75:SoundC Tryz.prog tab n_q75 c_q75:=soundC_f ok_q75 hg_q75 (by
 intro vs bs p v bs' h hp
 unfold c_q75 at h
 split at h
 ·cases h
  exact ⟨by kernel_rfl,rfl,.inr (.inl (run_q75 _ hp.1 _ ⟨rfl,rfl⟩))⟩
 ·cases h)

def c_q32:Contract:=fun vs bs=>match vs,bs with
 | [.agg [.dat (.list .int) ws,.dat .int fu]],[]=>some (some (len ws*8≤140737488355328),.agg [.own 0,dI fu],[.arr .int ws])
 | _,_=>none
def Γ_q32:Ctx:=[]
theorem ok_q32:Ok Tryz.prog tab Γ_q32:=ok_nil
theorem q32_vc (ws:List Int) (fu:Int) (rec:RK) (K:KK):segO Γ_q32 tab fn_q32 0 K rec [.code (bodyOf fn_q32)] (initSt [.agg [dL ws,dI fu]] [])=(
 (0+len ws)*8≤140737488355328 ∧
 K (.agg [.own 0,dI fu]) [.arr Ty.int (cat [] ws)]):=by kernel_rfl

theorem run_q32 (hp:len ws*8≤140737488355328) (K:KK) (hK:K (.agg [.own 0,dI fu]) [.arr .int ws]):GO Γ_q32 fn_q32 0 K [.agg [dL ws,dI fu]] []:=by
 refine ⟨1,?_⟩
 rw [goO_code,q32_vc _ _ _ _]
 exact ⟨by omega,hK⟩
theorem sound_q32:SoundC Tryz.prog tab n_q32 c_q32:=soundC_f ok_q32 hg_q32 (by
 intro vs bs p v bs' h hp
 unfold c_q32 at h
 split at h
 ·cases h
  exact ⟨by kernel_rfl,rfl,.inr (.inl (run_q32 _ _ hp.1 _ ⟨rfl,rfl⟩))⟩
 ·cases h)

def c_q37:Contract:=fun vs bs=>match vs,bs with
 | [.agg [.dat (.list .int) ws,.dat .int fu],.one (.dat (.list .change) cs)],[]=>some (some (len ws≤192∧-1≤fu∧fu≤100000∧len cs≤1000∧inPlaces ws.length cs=true),.tup [.agg [dL (power (doCh ⟨ws,fu⟩ cs)).1.words,dI (power (doCh ⟨ws,fu⟩ cs)).1.fuel],.one (dI (power (doCh ⟨ws,fu⟩ cs)).2)],[])
 | _,_=>none
def Γ_q37:Ctx:=[(n_q32,c_q32)]
theorem ok_q37:Ok Tryz.prog tab Γ_q37:=(ok_nil.c hg_q32 sound_q32)
noncomputable def q37_L0:List It:=[.inLoop [31,30,29,6,5,4,2] (cSub fn_q37 [1,1,1,1,0,1,0,0]),.inBlock 0,.code (cSub fn_q37 [1,1,1,1,1])]
def q37_S0 (x0 x1:Int) (x2:List Change) (x3 x4 x5 x6:Int) (x7 x8:List Int):St:=⟨[(31,.one (dI x0)),(30,.one (dI x1)),(29,.one (.dat (Ty.list Ty.change) x2)),(6,.one (dI x3)),(5,.one (dI x4)),(4,.one (.ptr 0 0)),(2,.one (.ptr 1 0))],[(0,.box [.own 2,dI x5]),(1,.box [.own 3,dI x6]),(2,.arr Ty.int x7),(3,.arr Ty.int x8)],4⟩
theorem q37_vc (ws:List Int) (fu:Int) (cs:List Change) (rec:RK) (K:KK):segD Γ_q37 tab fn_q37 0 K rec [.code (bodyOf fn_q37)] (initSt [.agg [dL ws,dI fu],.one (.dat (Ty.list Ty.change) cs)] [])=(
 len ws*8≤140737488355328 ∧
 br (lei 0 fu)
 (br (lti fu (len cs:Int))
 (((0:Int)≤(0:Int)∧(0:Int)≤fu∧fu≤(len cs:Int)) ∧
 rec q37_L0 (q37_S0 0 (len (slc cs (Int.toNat 0) (Int.toNat fu)):Int) (slc cs (Int.toNat 0) (Int.toNat fu)) 7 0 0 (w64 (fu-(len (slc cs (Int.toNat 0) (Int.toNat fu)):Int))) [] ws))
 (rec q37_L0 (q37_S0 0 (len cs:Int) cs 0 0 0 (w64 (fu-(len cs:Int))) [] ws)))
 (rec q37_L0 (q37_S0 0 (len cs:Int) cs 0 0 0 fu [] ws))):=by kernel_rfl
theorem q37_vc0 (x0 x1:Int) (x2:List Change) (x3 x4 x5 x6:Int) (x7 x8:List Int) (rec:RK) (K:KK):segD Γ_q37 tab fn_q37 0 K rec (ent q37_L0) (q37_S0 x0 x1 x2 x3 x4 x5 x6 x7 x8)=(
 br (lti x0 x1)
 (((0:Int)≤x0∧x0<(len x2:Int)) ∧
 ((0:Int)≤(nth x2 (Int.toNat x0) (Ty.dflt Ty.change)).at_∧(nth x2 (Int.toNat x0) (Ty.dflt Ty.change)).at_<(len x8:Int)) ∧
 Int.toNat (nth x2 (Int.toNat x0) (Ty.dflt Ty.change)).at_<len x8 ∧
 ((0:Int)≤(nth x2 (Int.toNat x0) (Ty.dflt Ty.change)).at_∧(nth x2 (Int.toNat x0) (Ty.dflt Ty.change)).at_<(len x8:Int)) ∧
 Int.toNat (nth x2 (Int.toNat x0) (Ty.dflt Ty.change)).at_<len x8 ∧
 rec q37_L0 (q37_S0 (w64 (x0+1)) x1 x2 x3 x4 x5 x6 x7 (setAt x8 (Int.toNat (nth x2 (Int.toNat x0) (Ty.dflt Ty.change)).at_) (fnwApp (nth x2 (Int.toNat x0) (Ty.dflt Ty.change)).word (nth x8 (Int.toNat (nth x2 (Int.toNat x0) (Ty.dflt Ty.change)).at_) (Ty.dflt Ty.int))))))
 (K (.tup [.agg [dL x8,dI x6],.one (dI x3)]) [])):=by kernel_rfl

theorem run_q37 (hp:len ws≤192∧-1≤fu∧fu≤100000∧len cs≤1000∧inPlaces ws.length cs=true) (K:KK) (hK:K (.tup [.agg [dL (power (doCh ⟨ws,fu⟩ cs)).1.words,dI (power (doCh ⟨ws,fu⟩ cs)).1.fuel],.one (dI (power (doCh ⟨ws,fu⟩ cs)).2)]) []):GD Γ_q37 fn_q37 0 K [.agg [dL ws,dI fu],.one (.dat (.list .change) cs)] []:=by
 obtain ⟨h1,h2,h3,h4,h5⟩:=hp
 refine ⟨cs.length+2,?_⟩
 rw [goD_code,q37_vc _ _ _ _ _]
 simp only [len] at h1 h4 ⊢
 have sub:∀ k,inPlaces ws.length (cs.take k)=true:=fun k=>List.all_eq_true.2 fun c hc=>List.all_eq_true.1 h5 c (List.mem_of_mem_take hc)
 have more:∀ (cs':List Change) (e f:Int),cs'.length≤cs.length→inPlaces ws.length cs'=true→K (.tup [.agg [dL (applyCh ws cs'),dI f],.one (dI e)]) [] →
   goD Γ_q37 tab fn_q37 0 K (cs.length+1) q37_L0 (q37_S0 0 (((List.length cs'):Nat):Int) cs' e 0 0 f [] ws):=fun cs' e f hl hi hk=>by
  have key:∀ (d k:Nat) (ws:List Int),k+d ≥ cs'.length→inPlaces ws.length cs'=true→K (.tup [.agg [dL (applyCh ws (cs'.drop k)),dI f],.one (dI e)]) []→k≤cs'.length →
    goD Γ_q37 tab fn_q37 0 K (d+1) q37_L0 (q37_S0 (k:Int) (((List.length cs'):Nat):Int) cs' e 0 0 f [] ws):=by
   intro d
   induction d with
   | zero =>
    intro k ws hk hi hK hle
    rw [goD_in (L:=q37_L0),q37_vc0 _ _ _ _ _ _ _ _ _ _ _]
    rw [List.drop_of_length_le (by omega)] at hK
    exact lt_f (by omega) hK
   | succ d ih =>
    intro k ws hk hi hK hle
    by_cases c:k=cs'.length
    ·subst c
     rw [goD_in (L:=q37_L0),q37_vc0 _ _ _ _ _ _ _ _ _ _ _]
     rw [List.drop_of_length_le (Nat.le_refl _)] at hK
     exact lt_f (by omega) hK
    ·rw [goD_in (L:=q37_L0),q37_vc0 _ _ _ _ _ _ _ _ _ _ _]
     rw [toNat_nat]
     have hm:nth cs' k (Ty.dflt Ty.change)∈cs':=by
      have:k<cs'.length:=by omega
      simp [nth,List.getD_eq_getElem?_getD,this]
     have hpl:=List.all_eq_true.1 hi _ hm
     simp only [Bool.and_eq_true,decide_eq_true_eq] at hpl
     refine lt_t (by omega) ⟨⟨by omega,by simp only [len]; omega⟩,⟨hpl.1,hpl.2⟩,by simp only [len]; omega,⟨hpl.1,hpl.2⟩,by simp only [len]; omega,?_⟩
     rw [w64_succ (by omega)]
     refine ih (k+1) _ (by omega) (by simpa [setAt] using hi) ?_ (by omega)
     rw [drop_step (by omega) (Ty.dflt Ty.change),applyCh_cons] at hK
     exact hK
  exact key cs.length 0 ws (by omega) hi hk (by omega)
 unfold power doCh at hK
 refine ⟨by omega,br_split (fun h=>?_) (fun h=>?_)⟩
 ·rw [lei_true] at h
  simp only [if_neg (show ¬ fu<0 by omega)] at hK
  refine lt_s (fun h6=>⟨⟨by omega,h,by omega⟩,?_⟩) (fun h6=>?_)
  ·rw [if_neg (by omega)] at hK
   have es:slc cs (Int.toNat 0) (Int.toNat fu)=cs.take fu.toNat:=slc_take _ _
   have el:(cs.take fu.toNat).length=fu.toNat:=by simp; omega
   rw [es,el,w64_id (by omega) (by omega),show fu-((fu.toNat:Nat):Int)=0 by omega]
   have:=more (cs.take fu.toNat) 7 0 (by simp; omega) (sub _) hK
   rw [el] at this
   exact this
  ·rw [if_pos (by omega)] at hK
   rw [w64_id (by omega) (by omega)]
   exact more cs 0 _ (Nat.le_refl _) h5 hK
 ·rw [lei_false] at h
  rw [if_pos h] at hK
  exact more cs 0 fu (Nat.le_refl _) h5 hK
theorem sound_q37:SoundC Tryz.prog tab n_q37 c_q37:=soundC_f ok_q37 hg_q37 (by
 intro vs bs p v bs' h hp
 unfold c_q37 at h
 split at h
 ·cases h
  exact ⟨by kernel_rfl,rfl,.inl (run_q37 _ _ _ hp.1 _ ⟨rfl,rfl⟩)⟩
 ·cases h)
end Go.Proofs.YtlbppjmekiemiacGreatDoor
