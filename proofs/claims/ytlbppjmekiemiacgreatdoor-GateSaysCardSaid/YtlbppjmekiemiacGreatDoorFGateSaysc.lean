/- What the functions of GateSays compute (part 3 of 3). No condition. -/
import Derived.Test.YtlbppjmekiemiacGreatDoorFGateSaysb
import Derived.KernelRfl
namespace Go.Proofs.YtlbppjmekiemiacGreatDoor
open Vm
def c_ref_Turned_1 : Contract := fun vs bs => match vs, bs with
  | [.one (.dat .int e)], [] => some (none, .tup [.agg [.dat .int 0, .dat (.list .int) [], .dat .int 0, .dat .int 0], .one (.dat .int e)], [])
  | _, _ => none
def Γ_ref_Turned_1 : Ctx := []
theorem ok_ref_Turned_1 : Ok Tryz.prog tab Γ_ref_Turned_1 := ok_nil
theorem ref_Turned_1_vc (e : Int) (rec : RK) (K : KK) : segD Γ_ref_Turned_1 tab fn_ref_Turned_1 0 K rec [.code (bodyOf fn_ref_Turned_1)] (initSt [.one (dI e)] []) = (
 K (.tup [.agg [dI (0 : Int), dL [], dI (0 : Int), dI (0 : Int)], .one (dI e)]) []) := by kernel_rfl
theorem ref_Turned_1_w (m : Nat) (K : KK) (st : St) : goD Γ_ref_Turned_1 tab fn_ref_Turned_1 0 K (m + 1) [.code (bodyOf fn_ref_Turned_1)] st = segD Γ_ref_Turned_1 tab fn_ref_Turned_1 0 K (goD Γ_ref_Turned_1 tab fn_ref_Turned_1 0 K m) [.code (bodyOf fn_ref_Turned_1)] st := rfl

set_option maxHeartbeats 4000000 in
theorem run_ref_Turned_1 (e : Int) (K : KK) (hK : K (.tup [.agg [dI 0, dL [], dI 0, dI 0], .one (dI e)]) []) : ∃ m, goD Γ_ref_Turned_1 tab fn_ref_Turned_1 0 K m [.code (bodyOf fn_ref_Turned_1)] (initSt [.one (dI e)] []) := by
  refine ⟨1, ?_⟩
  rw [ref_Turned_1_w, ref_Turned_1_vc _ _ _]
  exact hK
theorem sound_ref_Turned_1 : SoundC Tryz.prog tab n_ref_Turned_1 c_ref_Turned_1 := soundC_of ok_ref_Turned_1 hf_ref_Turned_1 hB_ref_Turned_1 (by
  intro vs bs p v bs' h hp
  unfold c_ref_Turned_1 at h
  split at h
  · cases h
    exact ⟨by kernel_rfl, rfl, .inl (run_ref_Turned_1 _ _ ⟨rfl, rfl⟩)⟩
  · cases h)

def c_ref_CheckBook : Contract := fun vs bs => match vs, bs with
  | [.agg [.dat (.list .str) l]], [] => some (none, .one (.dat .int (checkBook l)), [])
  | _, _ => none
def Γ_ref_CheckBook : Ctx := [(n_slices_Index_Lstring, c_slices_Index_Lstring)]
theorem ok_ref_CheckBook : Ok Tryz.prog tab Γ_ref_CheckBook := (ok_nil.consC hf_slices_Index_Lstring hB_slices_Index_Lstring sound_slices_Index_Lstring)
noncomputable def ref_CheckBook_L0 : List It := [.inLoop [12, 11, 10, 2, 1] (Code.sub (bodyOf fn_ref_CheckBook) [1, 1, 0, 1, 0, 0]), .inBlock 0, .code (Code.sub (bodyOf fn_ref_CheckBook) [1, 1, 1])]
def ref_CheckBook_S0 (x0 : Int) (x1 : Int) (x2 : (List (List UInt8))) (x3 : Int) (x4 : (List (List UInt8))) : St := ⟨[(12, .one (dI x0)), (11, .one (dI x1)), (10, .one (.dat (Ty.list Ty.str) x2)), (2, .one (dI x3)), (1, .one (.ptr 0 0))], [(0, .box [.dat (Ty.list Ty.str) x4])], 1⟩
theorem ref_CheckBook_vc (l : List (List UInt8)) (rec : RK) (K : KK) : segD Γ_ref_CheckBook tab fn_ref_CheckBook 0 K rec [.code (bodyOf fn_ref_CheckBook)] (initSt [.agg [.dat (Ty.list Ty.str) l]] []) = (
 br (lti (60 : Int) (((len l) : Nat) : Int))
 (K (.one (dI (2 : Int))) [])
 (rec ref_CheckBook_L0 (ref_CheckBook_S0 (0 : Int) (((len l) : Nat) : Int) l (0 : Int) l))) := by kernel_rfl
theorem ref_CheckBook_w (m : Nat) (K : KK) (st : St) : goD Γ_ref_CheckBook tab fn_ref_CheckBook 0 K (m + 1) [.code (bodyOf fn_ref_CheckBook)] st = segD Γ_ref_CheckBook tab fn_ref_CheckBook 0 K (goD Γ_ref_CheckBook tab fn_ref_CheckBook 0 K m) [.code (bodyOf fn_ref_CheckBook)] st := rfl
theorem ref_CheckBook_vc0 (x0 : Int) (x1 : Int) (x2 : (List (List UInt8))) (x3 : Int) (x4 : (List (List UInt8))) (rec : RK) (K : KK) v0 (hv0 : v0 = (indexS (nth x2 (Int.toNat x0) (Ty.dflt Ty.str)) x4)) : segD Γ_ref_CheckBook tab fn_ref_CheckBook 0 K rec (.code (Code.sub (bodyOf fn_ref_CheckBook) [1, 1, 0, 1, 0, 0]) :: ref_CheckBook_L0) (ref_CheckBook_S0 x0 x1 x2 x3 x4) = (
 br (lti x0 x1)
 ((((0 : Int) ≤ x0) ∧ (x0 < (((len x2) : Nat) : Int))) ∧
 (br (lti (2000 : Int) (((len (nth x2 (Int.toNat x0) (Ty.dflt Ty.str))) : Nat) : Int))
 (K (.one (dI (2 : Int))) [])
 (((List.length x4) ≤ 140737488355328) ∧
 (br (lti v0 x0)
 (K (.one (dI (6 : Int))) [])
 (rec ref_CheckBook_L0 (ref_CheckBook_S0 (w64 (x0 + (1 : Int))) x1 x2 x3 x4))))))
 (K (.one (dI (0 : Int))) [])) := by subst_vars; kernel_rfl
theorem ref_CheckBook_w0 (m : Nat) (K : KK) (st : St) : goD Γ_ref_CheckBook tab fn_ref_CheckBook 0 K (m + 1) ref_CheckBook_L0 st = segD Γ_ref_CheckBook tab fn_ref_CheckBook 0 K (goD Γ_ref_CheckBook tab fn_ref_CheckBook 0 K m) (.code (Code.sub (bodyOf fn_ref_CheckBook) [1, 1, 0, 1, 0, 0]) :: ref_CheckBook_L0) st := rfl

theorem loop_ref_CheckBook (l : List (List UInt8)) (hl : l.length ≤ 60) (K : KK) : ∀ (d k : Nat), k + d = l.length → K (.one (dI (bookFrom (l.take k) (l.drop k)))) [] →
    goD Γ_ref_CheckBook tab fn_ref_CheckBook 0 K (d + 1) ref_CheckBook_L0 (ref_CheckBook_S0 (k : Int) (((len l) : Nat) : Int) l 0 l)
  | 0, k, hk, hK => by
    rw [ref_CheckBook_w0, ref_CheckBook_vc0 _ _ _ _ _ _ _ _ rfl]
    rw [List.drop_of_length_le (by omega)] at hK
    exact lt_f (by simp only [len]; omega) hK
  | d + 1, k, hk, hK => by
    rw [ref_CheckBook_w0, ref_CheckBook_vc0 _ _ _ _ _ _ _ _ rfl, toNat_nat]
    have hi := indexS_take (l := l) (k := k) (by omega) (rfl : nth l k (Ty.dflt Ty.str) = nth l k (Ty.dflt Ty.str))
    rw [drop_step (by omega) (Ty.dflt Ty.str)] at hK
    simp only [bookFrom] at hK
    refine lt_t (by simp only [len]; omega) ⟨⟨by omega, by simp only [len]; omega⟩, lt_s (fun h => ?_) (fun h => ⟨by omega, br_split (fun h2 => ?_) (fun h2 => ?_)⟩)⟩
    · rw [if_pos (by simp only [len] at h; omega)] at hK; exact hK
    · rw [if_neg (by simp only [len] at h; omega), if_pos (by rw [← hi]; exact h2)] at hK; exact hK
    · rw [if_neg (by simp only [len] at h; omega), if_neg (by rw [← hi, h2]; simp)] at hK
      rw [w64_succ (by omega)]
      rw [← take_step (by omega) (Ty.dflt Ty.str)] at hK
      exact loop_ref_CheckBook l hl K d (k + 1) (by omega) hK
set_option maxHeartbeats 4000000 in
theorem run_ref_CheckBook (l : List (List UInt8)) (K : KK) (hK : K (.one (dI (checkBook l))) []) : ∃ m, goD Γ_ref_CheckBook tab fn_ref_CheckBook 0 K m [.code (bodyOf fn_ref_CheckBook)] (initSt [.agg [.dat (.list .str) l]] []) := by
  refine ⟨l.length + 2, ?_⟩
  rw [ref_CheckBook_w, ref_CheckBook_vc _ _ _]
  unfold checkBook at hK
  refine lt_s (fun h => ?_) (fun h => ?_)
  · rw [if_pos (by simp only [len] at h; omega)] at hK; exact hK
  · rw [if_neg (by simp only [len] at h; omega)] at hK
    exact loop_ref_CheckBook l (by simp only [len] at h; omega) K l.length 0 (by omega) hK
theorem sound_ref_CheckBook : SoundC Tryz.prog tab n_ref_CheckBook c_ref_CheckBook := soundC_of ok_ref_CheckBook hf_ref_CheckBook hB_ref_CheckBook (by
  intro vs bs p v bs' h hp
  unfold c_ref_CheckBook at h
  split at h
  · cases h
    exact ⟨by kernel_rfl, rfl, .inl (run_ref_CheckBook _ _ ⟨rfl, rfl⟩)⟩
  · cases h)

def c_ref_spaced : Contract := fun vs bs => match vs, bs with
  | [.one (.dat (.list .int) l)], [] => some (some (len l ≤ 1000 ∧ nums l = true), .one (.dat .str (listT l)), [])
  | _, _ => none
def Γ_ref_spaced : Ctx := [(n_strconv_Itoa, c_strconv_Itoa)]
theorem ok_ref_spaced : Ok Tryz.prog tab Γ_ref_spaced := (ok_nil.consC hf_strconv_Itoa hB_strconv_Itoa sound_strconv_Itoa)
noncomputable def ref_spaced_L0 : List It := [.inLoop [8, 7, 6, 3, 2] (Code.sub (bodyOf fn_ref_spaced) [1, 1, 0, 1, 0, 0]), .inBlock 0, .code (Code.sub (bodyOf fn_ref_spaced) [1, 1, 1])]
def ref_spaced_S0 (x0 : Int) (x1 : Int) (x2 : (List Int)) (x3 : (List UInt8)) (x4 : (List UInt8)) : St := ⟨[(8, .one (dI x0)), (7, .one (dI x1)), (6, .one (dL x2)), (3, .one (.dat Ty.str x3)), (2, .one (.dat Ty.str x4))], [], 0⟩
theorem ref_spaced_vc (l : List Int) (rec : RK) (K : KK) : segD Γ_ref_spaced tab fn_ref_spaced 0 K rec [.code (bodyOf fn_ref_spaced)] (initSt [.one (dL l)] []) = (
 rec ref_spaced_L0 (ref_spaced_S0 (0 : Int) (((len l) : Nat) : Int) l [] [])) := by kernel_rfl
theorem ref_spaced_w (m : Nat) (K : KK) (st : St) : goD Γ_ref_spaced tab fn_ref_spaced 0 K (m + 1) [.code (bodyOf fn_ref_spaced)] st = segD Γ_ref_spaced tab fn_ref_spaced 0 K (goD Γ_ref_spaced tab fn_ref_spaced 0 K m) [.code (bodyOf fn_ref_spaced)] st := rfl
theorem ref_spaced_vc0 (x0 : Int) (x1 : Int) (x2 : (List Int)) (x3 : (List UInt8)) (x4 : (List UInt8)) (rec : RK) (K : KK) v0 (hv0 : v0 = (numT (nth x2 (Int.toNat x0) (Ty.dflt Ty.int)))) : segD Γ_ref_spaced tab fn_ref_spaced 0 K rec (.code (Code.sub (bodyOf fn_ref_spaced) [1, 1, 0, 1, 0, 0]) :: ref_spaced_L0) (ref_spaced_S0 x0 x1 x2 x3 x4) = (
 br (lti x0 x1)
 ((((0 : Int) ≤ x0) ∧ (x0 < (((len x2) : Nat) : Int))) ∧
 (br (lti (0 : Int) x0)
 ((((len x3) + (len ((32 : UInt8) :: []))) ≤ 140737488355328) ∧
 ((((0 : Int) ≤ (nth x2 (Int.toNat x0) (Ty.dflt Ty.int))) ∧ ((nth x2 (Int.toNat x0) (Ty.dflt Ty.int)) ≤ (9223372036854775807 : Int))) ∧
 ((((len (cat x3 ((32 : UInt8) :: []))) + (len v0)) ≤ 140737488355328) ∧
 (rec ref_spaced_L0 (ref_spaced_S0 (w64 (x0 + (1 : Int))) x1 x2 (cat (cat x3 ((32 : UInt8) :: [])) v0) x4)))))
 ((((0 : Int) ≤ (nth x2 (Int.toNat x0) (Ty.dflt Ty.int))) ∧ ((nth x2 (Int.toNat x0) (Ty.dflt Ty.int)) ≤ (9223372036854775807 : Int))) ∧
 ((((len x3) + (len v0)) ≤ 140737488355328) ∧
 (rec ref_spaced_L0 (ref_spaced_S0 (w64 (x0 + (1 : Int))) x1 x2 (cat x3 v0) x4))))))
 (K (.one (.dat Ty.str x3)) [])) := by subst_vars; kernel_rfl
theorem ref_spaced_w0 (m : Nat) (K : KK) (st : St) : goD Γ_ref_spaced tab fn_ref_spaced 0 K (m + 1) ref_spaced_L0 st = segD Γ_ref_spaced tab fn_ref_spaced 0 K (goD Γ_ref_spaced tab fn_ref_spaced 0 K m) (.code (Code.sub (bodyOf fn_ref_spaced) [1, 1, 0, 1, 0, 0]) :: ref_spaced_L0) st := rfl

theorem loop_ref_spaced (l : List Int) (hl : l.length ≤ 1000) (hn : nums l = true) (K : KK) (hK : K (.one (.dat .str (listT l))) []) (y : List UInt8) : ∀ (d k : Nat), k + d = l.length →
    goD Γ_ref_spaced tab fn_ref_spaced 0 K (d + 1) ref_spaced_L0 (ref_spaced_S0 (k : Int) (((len l) : Nat) : Int) l (listT (l.take k)) y)
  | 0, k, hk => by
    rw [ref_spaced_w0, ref_spaced_vc0 _ _ _ _ _ _ _ _ rfl, List.take_of_length_le (by omega)]
    exact lt_f (by simp only [len]; omega) hK
  | d + 1, k, hk => by
    rw [ref_spaced_w0, ref_spaced_vc0 _ _ _ _ _ _ _ _ rfl, toNat_nat]
    have hm : nth l k (Ty.dflt Ty.int) ∈ l := by
      have : k < l.length := by omega
      simp [nth, List.getD_eq_getElem?_getD, this]
    have ht := take_step (l := l) (k := k) (by omega) (Ty.dflt Ty.int)
    have h0 := listT_len (l.take k)
    have hlk : (l.take k).length = k := by rw [List.length_take]; omega
    obtain ⟨x, hx⟩ : ∃ x, nth l k (Ty.dflt Ty.int) = x := ⟨_, rfl⟩
    rw [hx] at hm ht ⊢
    have h1 := List.all_eq_true.1 hn _ hm
    have h2 := numT_len x
    simp only [Bool.and_eq_true, decide_eq_true_eq] at h1
    have ek : w64 ((k : Int) + 1) = ((k + 1 : Nat) : Int) := w64_succ (by omega)
    rw [ek]
    refine lt_t (by simp only [len]; omega) ⟨⟨by omega, by simp only [len]; omega⟩, lt_s (fun h3 => ?_) (fun h3 => ?_)⟩
    · refine ⟨by simp only [len, List.length_cons, List.length_nil]; omega, h1, by simp only [len, cat, List.length_append, List.length_cons, List.length_nil]; omega, ?_⟩
      rw [show cat (cat (listT (l.take k)) [32]) (numT x) = listT (l.take (k + 1)) from by rw [ht, listT_snoc (by intro e; rw [e] at hlk; simp at hlk; omega)]; rfl]
      exact loop_ref_spaced l hl hn K hK y d (k + 1) (by omega)
    · have : k = 0 := by omega
      subst this
      refine ⟨h1, by simp only [len]; omega, ?_⟩
      rw [show cat (listT (l.take 0)) (numT x) = listT (l.take (0 + 1)) from by rw [ht]; rfl]
      exact loop_ref_spaced l hl hn K hK y d (0 + 1) (by omega)
set_option maxHeartbeats 4000000 in
theorem run_ref_spaced (l : List Int) (hp : len l ≤ 1000 ∧ nums l = true) (K : KK) (hK : K (.one (.dat .str (listT l))) []) : ∃ m, goD Γ_ref_spaced tab fn_ref_spaced 0 K m [.code (bodyOf fn_ref_spaced)] (initSt [.one (dL l)] []) := by
  refine ⟨l.length + 2, ?_⟩
  rw [ref_spaced_w, ref_spaced_vc _ _ _]
  exact loop_ref_spaced l hp.1 hp.2 K hK [] l.length 0 (by omega)
theorem sound_ref_spaced : SoundC Tryz.prog tab n_ref_spaced c_ref_spaced := soundC_of ok_ref_spaced hf_ref_spaced hB_ref_spaced (by
  intro vs bs p v bs' h hp
  unfold c_ref_spaced at h
  split at h
  · cases h
    exact ⟨by kernel_rfl, rfl, .inl (run_ref_spaced _ hp.1 _ ⟨rfl, rfl⟩)⟩
  · cases h)

def c_ref_RootText : Contract := fun vs bs => match vs, bs with
  | [.agg [.dat .int v, .dat (.list .int) ks, .dat .int t]], [] => some (some (checkRoot v ks t = 0), .one (.dat .str (rootText v ks t)), [])
  | _, _ => none
def Γ_ref_RootText : Ctx := [(n_ref_spaced, c_ref_spaced)]
theorem ok_ref_RootText : Ok Tryz.prog tab Γ_ref_RootText := (ok_nil.consC hf_ref_spaced hB_ref_spaced sound_ref_spaced)
theorem ref_RootText_vc (v : Int) (ks : List Int) (t : Int) (rec : RK) (K : KK) v0 (hv0 : v0 = (nums (v :: (t :: [])))) v1 (hv1 : v1 = (listT (v :: (t :: [])))) v2 (hv2 : v2 = (nums ks)) v3 (hv3 : v3 = (listT ks)) : segD Γ_ref_RootText tab fn_ref_RootText 0 K rec [.code (bodyOf fn_ref_RootText)] (initSt [.agg [dI v, dL ks, dI t]] []) = (
 (((len (v :: (t :: []))) ≤ 1000) ∧ (v0 = true)) ∧
 ((((len ((114 : UInt8) :: ((111 : UInt8) :: ((111 : UInt8) :: ((116 : UInt8) :: ((32 : UInt8) :: [])))))) + (len v1)) ≤ 140737488355328) ∧
 ((((len (cat ((114 : UInt8) :: ((111 : UInt8) :: ((111 : UInt8) :: ((116 : UInt8) :: ((32 : UInt8) :: []))))) v1)) + (len ((32 : UInt8) :: ((111 : UInt8) :: ((102 : UInt8) :: ((32 : UInt8) :: [])))))) ≤ 140737488355328) ∧
 ((((len ks) ≤ 1000) ∧ (v2 = true)) ∧
 ((((len (cat (cat ((114 : UInt8) :: ((111 : UInt8) :: ((111 : UInt8) :: ((116 : UInt8) :: ((32 : UInt8) :: []))))) v1) ((32 : UInt8) :: ((111 : UInt8) :: ((102 : UInt8) :: ((32 : UInt8) :: [])))))) + (len v3)) ≤ 140737488355328) ∧
 (K (.one (.dat Ty.str (cat (cat (cat ((114 : UInt8) :: ((111 : UInt8) :: ((111 : UInt8) :: ((116 : UInt8) :: ((32 : UInt8) :: []))))) v1) ((32 : UInt8) :: ((111 : UInt8) :: ((102 : UInt8) :: ((32 : UInt8) :: []))))) v3))) [])))))) := by subst_vars; kernel_rfl
theorem ref_RootText_w (m : Nat) (K : KK) (st : St) : goD Γ_ref_RootText tab fn_ref_RootText 0 K (m + 1) [.code (bodyOf fn_ref_RootText)] st = segD Γ_ref_RootText tab fn_ref_RootText 0 K (goD Γ_ref_RootText tab fn_ref_RootText 0 K m) [.code (bodyOf fn_ref_RootText)] st := rfl

set_option maxHeartbeats 4000000 in
theorem run_ref_RootText (v : Int) (ks : List Int) (t : Int) (hp : checkRoot v ks t = 0) (K : KK) (hK : K (.one (.dat .str (rootText v ks t))) []) : ∃ m, goD Γ_ref_RootText tab fn_ref_RootText 0 K m [.code (bodyOf fn_ref_RootText)] (initSt [.agg [dI v, dL ks, dI t]] []) := by
  refine ⟨1, ?_⟩
  rw [ref_RootText_w, ref_RootText_vc _ _ _ _ _ _ rfl _ rfl _ rfl _ rfl]
  obtain ⟨h1, h2, h3, h4, h5, h6⟩ := checkRoot_ok hp
  have n1 := listT_len [v, t]
  have n3 := listT_len ks
  simp only [List.length_cons, List.length_nil] at n1
  refine ⟨⟨by simp only [len, List.length_cons, List.length_nil]; omega, by simp only [nums, List.all_cons, List.all_nil, Bool.and_true, Bool.and_eq_true, decide_eq_true_eq]; omega⟩, by simp only [len, List.length_cons, List.length_nil]; omega, by simp only [len, cat, List.length_append, List.length_cons, List.length_nil]; omega, ⟨by simp only [len]; omega, h6⟩, by simp only [len, cat, List.length_append, List.length_cons, List.length_nil]; omega, ?_⟩
  rw [listT_two]
  simpa [cat, rootText] using hK
theorem sound_ref_RootText : SoundC Tryz.prog tab n_ref_RootText c_ref_RootText := soundC_of ok_ref_RootText hf_ref_RootText hB_ref_RootText (by
  intro vs bs p v bs' h hp
  unfold c_ref_RootText at h
  split at h
  · cases h
    exact ⟨by kernel_rfl, rfl, .inl (run_ref_RootText _ _ _ hp.1 _ ⟨rfl, rfl⟩)⟩
  · cases h)

def c_ref_NameOf : Contract := fun vs bs => match vs, bs with
  | [.agg [.dat (.list .str) l], .one (.dat .str s)], [] => some (some (l.length ≤ 60), .one (.dat .int (indexS s l + 1)), [])
  | _, _ => none
def Γ_ref_NameOf : Ctx := []
theorem ok_ref_NameOf : Ok Tryz.prog tab Γ_ref_NameOf := ok_nil
noncomputable def ref_NameOf_L0 : List It := [.inLoop [10, 9, 8, 4, 1] (Code.sub (bodyOf fn_ref_NameOf) [1, 0, 1, 0, 0]), .inBlock 0, .code (Code.sub (bodyOf fn_ref_NameOf) [1, 1])]
def ref_NameOf_S0 (x0 : Int) (x1 : Int) (x2 : (List (List UInt8))) (x3 : Int) (x4 : (List UInt8)) : St := ⟨[(10, .one (dI x0)), (9, .one (dI x1)), (8, .one (.dat (Ty.list Ty.str) x2)), (4, .one (dI x3)), (1, .one (.dat Ty.str x4))], [], 0⟩
theorem ref_NameOf_vc (l : List (List UInt8)) (s : List UInt8) (rec : RK) (K : KK) : segD Γ_ref_NameOf tab fn_ref_NameOf 0 K rec [.code (bodyOf fn_ref_NameOf)] (initSt [.agg [.dat (Ty.list Ty.str) l], .one (.dat Ty.str s)] []) = (
 rec ref_NameOf_L0 (ref_NameOf_S0 (0 : Int) (((len l) : Nat) : Int) l (0 : Int) s)) := by kernel_rfl
theorem ref_NameOf_w (m : Nat) (K : KK) (st : St) : goD Γ_ref_NameOf tab fn_ref_NameOf 0 K (m + 1) [.code (bodyOf fn_ref_NameOf)] st = segD Γ_ref_NameOf tab fn_ref_NameOf 0 K (goD Γ_ref_NameOf tab fn_ref_NameOf 0 K m) [.code (bodyOf fn_ref_NameOf)] st := rfl
theorem ref_NameOf_vc0 (x0 : Int) (x1 : Int) (x2 : (List (List UInt8))) (x3 : Int) (x4 : (List UInt8)) (rec : RK) (K : KK) : segD Γ_ref_NameOf tab fn_ref_NameOf 0 K rec (.code (Code.sub (bodyOf fn_ref_NameOf) [1, 0, 1, 0, 0]) :: ref_NameOf_L0) (ref_NameOf_S0 x0 x1 x2 x3 x4) = (
 br (lti x0 x1)
 ((((0 : Int) ≤ x0) ∧ (x0 < (((len x2) : Nat) : Int))) ∧
 (br (eqs (nth x2 (Int.toNat x0) (Ty.dflt Ty.str)) x4)
 (K (.one (dI (w64 (x0 + (1 : Int))))) [])
 (rec ref_NameOf_L0 (ref_NameOf_S0 (w64 (x0 + (1 : Int))) x1 x2 x3 x4))))
 (K (.one (dI (0 : Int))) [])) := by kernel_rfl
theorem ref_NameOf_w0 (m : Nat) (K : KK) (st : St) : goD Γ_ref_NameOf tab fn_ref_NameOf 0 K (m + 1) ref_NameOf_L0 st = segD Γ_ref_NameOf tab fn_ref_NameOf 0 K (goD Γ_ref_NameOf tab fn_ref_NameOf 0 K m) (.code (Code.sub (bodyOf fn_ref_NameOf) [1, 0, 1, 0, 0]) :: ref_NameOf_L0) st := rfl

theorem loop_ref_NameOf (l : List (List UInt8)) (s : List UInt8) (hl : l.length ≤ 60) (K : KK) : ∀ (d k : Nat), k + d = l.length → K (.one (dI (indexFrom k s (l.drop k) + 1))) [] →
    goD Γ_ref_NameOf tab fn_ref_NameOf 0 K (d + 1) ref_NameOf_L0 (ref_NameOf_S0 (k : Int) (((len l) : Nat) : Int) l 0 s)
  | 0, k, hk, hK => by
    rw [ref_NameOf_w0, ref_NameOf_vc0 _ _ _ _ _ _ _]
    rw [List.drop_of_length_le (by omega)] at hK
    exact lt_f (by simp only [len]; omega) hK
  | d + 1, k, hk, hK => by
    rw [ref_NameOf_w0, ref_NameOf_vc0 _ _ _ _ _ _ _, toNat_nat, w64_succ (by omega)]
    rw [drop_step (by omega) (Ty.dflt Ty.str)] at hK
    simp only [indexFrom] at hK
    refine lt_t (by simp only [len]; omega) ⟨⟨by omega, by simp only [len]; omega⟩, br_split (fun h => ?_) (fun h => ?_)⟩
    · rw [eqs_true] at h
      rw [if_pos h] at hK; exact hK
    · rw [eqs_false] at h
      rw [if_neg h] at hK
      exact loop_ref_NameOf l s hl K d (k + 1) (by omega) hK
set_option maxHeartbeats 4000000 in
theorem run_ref_NameOf (l : List (List UInt8)) (s : List UInt8) (hp : l.length ≤ 60) (K : KK) (hK : K (.one (dI (indexS s l + 1))) []) : ∃ m, goD Γ_ref_NameOf tab fn_ref_NameOf 0 K m [.code (bodyOf fn_ref_NameOf)] (initSt [.agg [.dat (.list .str) l], .one (.dat .str s)] []) := by
  refine ⟨l.length + 2, ?_⟩
  rw [ref_NameOf_w, ref_NameOf_vc _ _ _ _]
  exact loop_ref_NameOf l s hp K l.length 0 (by omega) hK
theorem sound_ref_NameOf : SoundC Tryz.prog tab n_ref_NameOf c_ref_NameOf := soundC_of ok_ref_NameOf hf_ref_NameOf hB_ref_NameOf (by
  intro vs bs p v bs' h hp
  unfold c_ref_NameOf at h
  split at h
  · cases h
    exact ⟨by kernel_rfl, rfl, .inl (run_ref_NameOf _ _ hp.1 _ ⟨rfl, rfl⟩)⟩
  · cases h)

def c_ref_CheckSigned : Contract := fun vs bs => match vs, bs with
  | [.one (.dat (.list .signed) l)], [] => some (none, .one (.dat .int (checkSigned l)), [])
  | _, _ => none
def Γ_ref_CheckSigned : Ctx := []
theorem ok_ref_CheckSigned : Ok Tryz.prog tab Γ_ref_CheckSigned := ok_nil
noncomputable def ref_CheckSigned_L0 : List It := [.inLoop [10, 9, 8, 2] (Code.sub (bodyOf fn_ref_CheckSigned) [1, 1, 0, 1, 0, 0]), .inBlock 0, .code (Code.sub (bodyOf fn_ref_CheckSigned) [1, 1, 1])]
def ref_CheckSigned_S0 (x0 : Int) (x1 : Int) (x2 : (List Vm.Signed)) (x3 : Int) : St := ⟨[(10, .one (dI x0)), (9, .one (dI x1)), (8, .one (.dat (Ty.list Ty.signed) x2)), (2, .one (dI x3))], [], 0⟩
theorem ref_CheckSigned_vc (l : List Signed) (rec : RK) (K : KK) : segD Γ_ref_CheckSigned tab fn_ref_CheckSigned 0 K rec [.code (bodyOf fn_ref_CheckSigned)] (initSt [.one (.dat (Ty.list Ty.signed) l)] []) = (
 br (lti (360 : Int) (((len l) : Nat) : Int))
 (K (.one (dI (2 : Int))) [])
 (rec ref_CheckSigned_L0 (ref_CheckSigned_S0 (0 : Int) (((len l) : Nat) : Int) l (0 : Int)))) := by kernel_rfl
theorem ref_CheckSigned_w (m : Nat) (K : KK) (st : St) : goD Γ_ref_CheckSigned tab fn_ref_CheckSigned 0 K (m + 1) [.code (bodyOf fn_ref_CheckSigned)] st = segD Γ_ref_CheckSigned tab fn_ref_CheckSigned 0 K (goD Γ_ref_CheckSigned tab fn_ref_CheckSigned 0 K m) [.code (bodyOf fn_ref_CheckSigned)] st := rfl
theorem ref_CheckSigned_vc0 (x0 : Int) (x1 : Int) (x2 : (List Vm.Signed)) (x3 : Int) (rec : RK) (K : KK) : segD Γ_ref_CheckSigned tab fn_ref_CheckSigned 0 K rec (.code (Code.sub (bodyOf fn_ref_CheckSigned) [1, 1, 0, 1, 0, 0]) :: ref_CheckSigned_L0) (ref_CheckSigned_S0 x0 x1 x2 x3) = (
 br (lti x0 x1)
 ((((0 : Int) ≤ x0) ∧ (x0 < (((len x2) : Nat) : Int))) ∧
 (br (lti ((nth x2 (Int.toNat x0) (Ty.dflt Ty.signed))).key (1 : Int))
 (K (.one (dI (3 : Int))) [])
 (br (lti (50 : Int) ((nth x2 (Int.toNat x0) (Ty.dflt Ty.signed))).key)
 (K (.one (dI (3 : Int))) [])
 (br (lti ((nth x2 (Int.toNat x0) (Ty.dflt Ty.signed))).name (1 : Int))
 (K (.one (dI (3 : Int))) [])
 (br (lti (60 : Int) ((nth x2 (Int.toNat x0) (Ty.dflt Ty.signed))).name)
 (K (.one (dI (3 : Int))) [])
 (rec ref_CheckSigned_L0 (ref_CheckSigned_S0 (w64 (x0 + (1 : Int))) x1 x2 x3)))))))
 (K (.one (dI (0 : Int))) [])) := by kernel_rfl
theorem ref_CheckSigned_w0 (m : Nat) (K : KK) (st : St) : goD Γ_ref_CheckSigned tab fn_ref_CheckSigned 0 K (m + 1) ref_CheckSigned_L0 st = segD Γ_ref_CheckSigned tab fn_ref_CheckSigned 0 K (goD Γ_ref_CheckSigned tab fn_ref_CheckSigned 0 K m) (.code (Code.sub (bodyOf fn_ref_CheckSigned) [1, 1, 0, 1, 0, 0]) :: ref_CheckSigned_L0) st := rfl

theorem loop_ref_CheckSigned (l : List Vm.Signed) (hl : l.length ≤ 360) (K : KK) (x3 : Int) : ∀ (d k : Nat), k + d = l.length → K (.one (dI (if (l.drop k).all okSigned then 0 else 3))) [] →
    goD Γ_ref_CheckSigned tab fn_ref_CheckSigned 0 K (d + 1) ref_CheckSigned_L0 (ref_CheckSigned_S0 (k : Int) (((len l) : Nat) : Int) l x3)
  | 0, k, hk, hK => by
    rw [ref_CheckSigned_w0, ref_CheckSigned_vc0 _ _ _ _ _ _]
    rw [List.drop_of_length_le (by omega)] at hK
    exact lt_f (by simp only [len]; omega) hK
  | d + 1, k, hk, hK => by
    rw [ref_CheckSigned_w0, ref_CheckSigned_vc0 _ _ _ _ _ _, toNat_nat]
    rw [drop_step (by omega) (Ty.dflt Ty.signed)] at hK
    obtain ⟨x, hx⟩ : ∃ x, nth l k (Ty.dflt Ty.signed) = x := ⟨_, rfl⟩
    rw [hx] at hK ⊢
    rw [List.all_cons] at hK
    have bad : ¬ (1 ≤ x.key ∧ x.key ≤ 50 ∧ 1 ≤ x.name ∧ x.name ≤ 60) → K (.one (dI 3)) [] := fun h => by
      rw [show okSigned x = false from by
        cases hc : okSigned x
        · rfl
        · simp only [okSigned, Bool.and_eq_true, decide_eq_true_eq] at hc; exact absurd hc (by omega)] at hK
      exact hK
    rw [w64_succ (by omega)]
    refine lt_t (by simp only [len]; omega) ⟨⟨by omega, by simp only [len]; omega⟩, lt_s (fun h => bad (by omega)) (fun h => lt_s (fun h2 => bad (by omega)) (fun h2 => lt_s (fun h3 => bad (by omega)) (fun h3 => lt_s (fun h4 => bad (by omega)) (fun h4 => ?_))))⟩
    rw [show okSigned x = true from by simp only [okSigned, Bool.and_eq_true, decide_eq_true_eq]; omega, Bool.true_and] at hK
    exact loop_ref_CheckSigned l hl K x3 d (k + 1) (by omega) hK
set_option maxHeartbeats 4000000 in
theorem run_ref_CheckSigned (l : List Vm.Signed) (K : KK) (hK : K (.one (dI (checkSigned l))) []) : ∃ m, goD Γ_ref_CheckSigned tab fn_ref_CheckSigned 0 K m [.code (bodyOf fn_ref_CheckSigned)] (initSt [.one (.dat (.list .signed) l)] []) := by
  refine ⟨l.length + 2, ?_⟩
  rw [ref_CheckSigned_w, ref_CheckSigned_vc _ _ _]
  unfold checkSigned at hK
  refine lt_s (fun h => ?_) (fun h => ?_)
  · rw [if_pos (by simp only [len] at h; omega)] at hK; exact hK
  · rw [if_neg (by simp only [len] at h; omega)] at hK
    exact loop_ref_CheckSigned l (by simp only [len] at h; omega) K 0 l.length 0 (by omega) hK
theorem sound_ref_CheckSigned : SoundC Tryz.prog tab n_ref_CheckSigned c_ref_CheckSigned := soundC_of ok_ref_CheckSigned hf_ref_CheckSigned hB_ref_CheckSigned (by
  intro vs bs p v bs' h hp
  unfold c_ref_CheckSigned at h
  split at h
  · cases h
    exact ⟨by kernel_rfl, rfl, .inl (run_ref_CheckSigned _ _ ⟨rfl, rfl⟩)⟩
  · cases h)

def c_ref_Counted : Contract := fun vs bs => match vs, bs with
  | [.one (.dat (.list .signed) l), .agg [.dat .int v, .dat (.list .int) ks, .dat .int t], .one (.dat (.list .int) sg), .one (.dat .int n)], [] => some (none, .tup [.one (.dat .int (countT l ⟨v, ks, t⟩ sg n).1), .one (.dat .int (countT l ⟨v, ks, t⟩ sg n).2)], [])
  | _, _ => none
def Γ_ref_Counted : Ctx := [(n_ref_CheckSigned, c_ref_CheckSigned), (n_ref_CheckRoot, c_ref_CheckRoot)]
theorem ok_ref_Counted : Ok Tryz.prog tab Γ_ref_Counted := ((ok_nil.consC hf_ref_CheckRoot hB_ref_CheckRoot sound_ref_CheckRoot).consC hf_ref_CheckSigned hB_ref_CheckSigned sound_ref_CheckSigned)
noncomputable def ref_Counted_L0 : List It := [.inLoop [37, 36, 35, 12, 9, 8, 5, 2, 3] (Code.sub (bodyOf fn_ref_Counted) [1, 1, 1, 1, 1, 0, 1, 0, 0]), .inBlock 0, .code (Code.sub (bodyOf fn_ref_Counted) [1, 1, 1, 1, 1, 1])]
def ref_Counted_S0 (x0 : Int) (x1 : Int) (x2 : (List Vm.Signed)) (x3 : Int) (x4 : Int) (x5 : (List Int)) (x6 : Int) (x7 : (List Int)) (x8 : Int) (x9 : (List Int)) (x10 : Int) : St := ⟨[(37, .one (dI x0)), (36, .one (dI x1)), (35, .one (.dat (Ty.list Ty.signed) x2)), (12, .one (.mp 0)), (9, .one (dI x3)), (8, .one (dI x4)), (5, .one (.ptr 1 0)), (2, .one (dL x5)), (3, .one (dI x6))], [(0, .set x7), (1, .box [dI x8, dL x9, dI x10])], 2⟩
noncomputable def ref_Counted_L1 : List It := [.inLoop [52, 51, 50, 15, 12, 9, 8, 5] (Code.sub (bodyOf fn_ref_Counted) [1, 1, 1, 1, 1, 1, 1, 0, 1, 0, 0]), .inBlock 2, .code (Code.sub (bodyOf fn_ref_Counted) [1, 1, 1, 1, 1, 1, 1, 1])]
def ref_Counted_S1 (x0 : Int) (x1 : Int) (x2 : (List Int)) (x3 : Int) (x4 : Int) (x5 : (List Int)) (x6 : (List Int)) (x7 : Int) (x8 : (List Int)) (x9 : Int) : St := ⟨[(52, .one (dI x0)), (51, .one (dI x1)), (50, .one (dL x2)), (15, .one (.mp 0)), (12, .one (.mp 1)), (9, .one (dI x3)), (8, .one (dI x4)), (5, .one (.ptr 2 0))], [(0, .set x5), (1, .set x6), (2, .box [dI x7, dL x8, dI x9])], 3⟩
noncomputable def ref_Counted_L2 : List It := [.inLoop [62, 61, 60, 18, 15, 12, 9, 8] (Code.sub (bodyOf fn_ref_Counted) [1, 1, 1, 1, 1, 1, 1, 1, 1, 0, 1, 0, 0]), .inBlock 4, .code (Code.sub (bodyOf fn_ref_Counted) [1, 1, 1, 1, 1, 1, 1, 1, 1, 1])]
def ref_Counted_S2 (x0 : Int) (x1 : Int) (x2 : (List Int)) (x3 : Int) (x4 : Int) (x5 : Int) (x6 : (List Int)) (x7 : (List Int)) : St := ⟨[(62, .one (dI x0)), (61, .one (dI x1)), (60, .one (dL x2)), (18, .one (dI x3)), (15, .one (.mp 0)), (12, .one (.mp 1)), (9, .one (dI x4)), (8, .one (dI x5))], [(0, .set x6), (1, .set x7)], 2⟩
theorem ref_Counted_vc (l : List Signed) (v : Int) (ks : List Int) (t : Int) (sg : List Int) (n : Int) (rec : RK) (K : KK) v0 (hv0 : v0 = (checkSigned l)) v1 (hv1 : v1 = (checkRoot v ks t)) : segD Γ_ref_Counted tab fn_ref_Counted 0 K rec [.code (bodyOf fn_ref_Counted)] (initSt [.one (.dat (Ty.list Ty.signed) l), .agg [dI v, dL ks, dI t], .one (dL sg), .one (dI n)] []) = (
 br (!(eqi v0 (0 : Int)))
 (K (.tup [.one (dI (0 : Int)), .one (dI v0)]) [])
 (br (!(eqi v1 (0 : Int)))
 (K (.tup [.one (dI (0 : Int)), .one (dI v1)]) [])
 (br (lti (50 : Int) (((len sg) : Nat) : Int))
 (K (.tup [.one (dI (0 : Int)), .one (dI (2 : Int))]) [])
 (rec ref_Counted_L0 (ref_Counted_S0 (0 : Int) (((len l) : Nat) : Int) l (0 : Int) (0 : Int) sg n [] v ks t))))) := by subst_vars; kernel_rfl
theorem ref_Counted_w (m : Nat) (K : KK) (st : St) : goD Γ_ref_Counted tab fn_ref_Counted 0 K (m + 1) [.code (bodyOf fn_ref_Counted)] st = segD Γ_ref_Counted tab fn_ref_Counted 0 K (goD Γ_ref_Counted tab fn_ref_Counted 0 K m) [.code (bodyOf fn_ref_Counted)] st := rfl
theorem ref_Counted_vc0 (x0 : Int) (x1 : Int) (x2 : (List Vm.Signed)) (x3 : Int) (x4 : Int) (x5 : (List Int)) (x6 : Int) (x7 : (List Int)) (x8 : Int) (x9 : (List Int)) (x10 : Int) (rec : RK) (K : KK) v0 (hv0 : v0 = (insK ((nth x2 (Int.toNat x0) (Ty.dflt Ty.signed))).key x7)) : segD Γ_ref_Counted tab fn_ref_Counted 0 K rec (.code (Code.sub (bodyOf fn_ref_Counted) [1, 1, 1, 1, 1, 0, 1, 0, 0]) :: ref_Counted_L0) (ref_Counted_S0 x0 x1 x2 x3 x4 x5 x6 x7 x8 x9 x10) = (
 br (lti x0 x1)
 ((((0 : Int) ≤ x0) ∧ (x0 < (((len x2) : Nat) : Int))) ∧
 (br (eqi ((nth x2 (Int.toNat x0) (Ty.dflt Ty.signed))).name x6)
 (rec ref_Counted_L0 (ref_Counted_S0 (w64 (x0 + (1 : Int))) x1 x2 x3 x4 x5 x6 v0 x8 x9 x10))
 (rec ref_Counted_L0 (ref_Counted_S0 (w64 (x0 + (1 : Int))) x1 x2 x3 x4 x5 x6 x7 x8 x9 x10))))
 (rec ref_Counted_L1 (ref_Counted_S1 (0 : Int) (((len x5) : Nat) : Int) x5 x3 x4 [] x7 x8 x9 x10))) := by subst_vars; kernel_rfl
theorem ref_Counted_w0 (m : Nat) (K : KK) (st : St) : goD Γ_ref_Counted tab fn_ref_Counted 0 K (m + 1) ref_Counted_L0 st = segD Γ_ref_Counted tab fn_ref_Counted 0 K (goD Γ_ref_Counted tab fn_ref_Counted 0 K m) (.code (Code.sub (bodyOf fn_ref_Counted) [1, 1, 1, 1, 1, 0, 1, 0, 0]) :: ref_Counted_L0) st := rfl
theorem ref_Counted_vc1 (x0 : Int) (x1 : Int) (x2 : (List Int)) (x3 : Int) (x4 : Int) (x5 : (List Int)) (x6 : (List Int)) (x7 : Int) (x8 : (List Int)) (x9 : Int) (rec : RK) (K : KK) v0 (hv0 : v0 = (insK (nth x2 (Int.toNat x0) (Ty.dflt Ty.int)) x5)) : segD Γ_ref_Counted tab fn_ref_Counted 0 K rec (.code (Code.sub (bodyOf fn_ref_Counted) [1, 1, 1, 1, 1, 1, 1, 0, 1, 0, 0]) :: ref_Counted_L1) (ref_Counted_S1 x0 x1 x2 x3 x4 x5 x6 x7 x8 x9) = (
 br (lti x0 x1)
 ((((0 : Int) ≤ x0) ∧ (x0 < (((len x2) : Nat) : Int))) ∧
 (rec ref_Counted_L1 (ref_Counted_S1 (w64 (x0 + (1 : Int))) x1 x2 x3 x4 v0 x6 x7 x8 x9)))
 (rec ref_Counted_L2 (ref_Counted_S2 (0 : Int) (((len x8) : Nat) : Int) x8 (0 : Int) x3 x4 x5 x6))) := by subst_vars; kernel_rfl
theorem ref_Counted_w1 (m : Nat) (K : KK) (st : St) : goD Γ_ref_Counted tab fn_ref_Counted 0 K (m + 1) ref_Counted_L1 st = segD Γ_ref_Counted tab fn_ref_Counted 0 K (goD Γ_ref_Counted tab fn_ref_Counted 0 K m) (.code (Code.sub (bodyOf fn_ref_Counted) [1, 1, 1, 1, 1, 1, 1, 0, 1, 0, 0]) :: ref_Counted_L1) st := rfl
theorem ref_Counted_vc2 (x0 : Int) (x1 : Int) (x2 : (List Int)) (x3 : Int) (x4 : Int) (x5 : Int) (x6 : (List Int)) (x7 : (List Int)) (rec : RK) (K : KK) v0 (hv0 : v0 = (hasK (nth x2 (Int.toNat x0) (Ty.dflt Ty.int)) x7)) v1 (hv1 : v1 = (hasK (nth x2 (Int.toNat x0) (Ty.dflt Ty.int)) x6)) v2 (hv2 : v2 = (rec ref_Counted_L2 (ref_Counted_S2 (w64 (x0 + (1 : Int))) x1 x2 x3 x4 x5 x6 x7))) : segD Γ_ref_Counted tab fn_ref_Counted 0 K rec (.code (Code.sub (bodyOf fn_ref_Counted) [1, 1, 1, 1, 1, 1, 1, 1, 1, 0, 1, 0, 0]) :: ref_Counted_L2) (ref_Counted_S2 x0 x1 x2 x3 x4 x5 x6 x7) = (
 br (lti x0 x1)
 ((((0 : Int) ≤ x0) ∧ (x0 < (((len x2) : Nat) : Int))) ∧
 (br v0
 (br v1
 (rec ref_Counted_L2 (ref_Counted_S2 (w64 (x0 + (1 : Int))) x1 x2 (w64 (x3 + (1 : Int))) x4 x5 x6 x7))
 v2)
 v2))
 (K (.tup [.one (dI x3), .one (dI (0 : Int))]) [])) := by subst_vars; kernel_rfl
theorem ref_Counted_w2 (m : Nat) (K : KK) (st : St) : goD Γ_ref_Counted tab fn_ref_Counted 0 K (m + 1) ref_Counted_L2 st = segD Γ_ref_Counted tab fn_ref_Counted 0 K (goD Γ_ref_Counted tab fn_ref_Counted 0 K m) (.code (Code.sub (bodyOf fn_ref_Counted) [1, 1, 1, 1, 1, 1, 1, 1, 1, 0, 1, 0, 0]) :: ref_Counted_L2) st := rfl

theorem hasK_ins (x k : Int) (ks : List Int) : hasK x (insK k ks) = (decide (k = x) || hasK x ks) := by
  unfold insK
  by_cases h : hasK k ks = true
  · rw [h]
    simp only
    by_cases c : k = x
    · subst c; rw [h]; simp
    · simp [c]
  · rw [(Bool.not_eq_true _).mp h]
    simp only [hasK]
    by_cases c : k = x
    · subst c; simp
    · simp [c]; exact fun e => absurd e.symm c
theorem hasI_snoc (x y : Int) (l : List Int) : hasI x (l ++ [y]) = (decide (y = x) || hasI x l) := by
  simp only [hasI, List.any_append, List.any_cons, List.any_nil, Bool.or_false]; exact Bool.or_comm _ _
theorem loop2_ref_Counted (l : List Vm.Signed) (ks sg : List Int) (n : Int) (hk6 : ks.length ≤ 6) (S H : List Int) (hS : ∀ x, hasK x S = hasI x sg) (hH : ∀ x, hasK x H = hasSig x n l) (K : KK) (x4 x5 : Int) : ∀ (d k c : Nat), k + d = ks.length → c ≤ k → K (.tup [.one (dI ((c + countN l sg n (ks.drop k) : Nat) : Int)), .one (dI 0)]) [] →
    goD Γ_ref_Counted tab fn_ref_Counted 0 K (d + 1) ref_Counted_L2 (ref_Counted_S2 (k : Int) (((len ks) : Nat) : Int) ks (c : Int) x4 x5 S H)
  | 0, k, c, hk, hc, hK => by
    rw [ref_Counted_w2, ref_Counted_vc2 _ _ _ _ _ _ _ _ _ _ _ rfl _ rfl _ rfl]
    rw [List.drop_of_length_le (by omega)] at hK
    exact lt_f (by simp only [len]; omega) hK
  | d + 1, k, c, hk, hc, hK => by
    rw [ref_Counted_w2, ref_Counted_vc2 _ _ _ _ _ _ _ _ _ _ _ rfl _ rfl _ rfl, toNat_nat]
    rw [drop_step (by omega) (Ty.dflt Ty.int), countN_cons] at hK
    obtain ⟨x, hx⟩ : ∃ x, nth ks k (Ty.dflt Ty.int) = x := ⟨_, rfl⟩
    rw [hx] at hK ⊢
    rw [w64_succ (k := k) (by omega), w64_succ (k := c) (by omega)]
    have no : signs l sg n x = false → K (.tup [.one (dI ((c + countN l sg n (ks.drop (k + 1)) : Nat) : Int)), .one (dI 0)]) [] := fun h => by
      rw [if_neg (by rw [h]; simp), Nat.zero_add] at hK; exact hK
    rw [hH x, hS x]
    refine lt_t (by simp only [len]; omega) ⟨⟨by omega, by simp only [len]; omega⟩, br_split (fun h => br_split (fun h2 => ?_) (fun h2 => ?_)) (fun h => ?_)⟩
    · rw [if_pos (show signs l sg n x = true from by simp [signs, h, h2])] at hK
      exact loop2_ref_Counted l ks sg n hk6 S H hS hH K x4 x5 d (k + 1) (c + 1) (by omega) (by omega) (by rw [show c + 1 + countN l sg n (ks.drop (k + 1)) = c + (1 + countN l sg n (ks.drop (k + 1))) by omega]; exact hK)
    · exact loop2_ref_Counted l ks sg n hk6 S H hS hH K x4 x5 d (k + 1) c (by omega) (by omega) (no (by simp [signs, h2]))
    · exact loop2_ref_Counted l ks sg n hk6 S H hS hH K x4 x5 d (k + 1) c (by omega) (by omega) (no (by simp [signs, h]))
theorem loop1_ref_Counted (l : List Vm.Signed) (v : Int) (ks : List Int) (t : Int) (sg : List Int) (n : Int) (hk6 : ks.length ≤ 6) (hs : sg.length ≤ 50) (H : List Int) (hH : ∀ x, hasK x H = hasSig x n l) (K : KK) (x4 x5 : Int) (hK : K (.tup [.one (dI ((countN l sg n ks : Nat) : Int)), .one (dI 0)]) []) : ∀ (d k : Nat) (S : List Int), k + d = sg.length → (∀ x, hasK x S = hasI x (sg.take k)) →
    goD Γ_ref_Counted tab fn_ref_Counted 0 K (ks.length + 1 + d + 1) ref_Counted_L1 (ref_Counted_S1 (k : Int) (((len sg) : Nat) : Int) sg x4 x5 S H v ks t)
  | 0, k, S, hk, hS => by
    rw [ref_Counted_w1, ref_Counted_vc1 _ _ _ _ _ _ _ _ _ _ _ _ _ rfl]
    rw [List.take_of_length_le (by omega)] at hS
    exact lt_f (by simp only [len]; omega) (loop2_ref_Counted l ks sg n hk6 S H hS hH K x4 x5 ks.length 0 0 (by omega) (by omega) (by rw [Nat.zero_add]; exact hK))
  | d + 1, k, S, hk, hS => by
    rw [show ks.length + 1 + (d + 1) + 1 = (ks.length + 1 + d + 1) + 1 by omega, ref_Counted_w1, ref_Counted_vc1 _ _ _ _ _ _ _ _ _ _ _ _ _ rfl, toNat_nat]
    rw [w64_succ (k := k) (by omega)]
    refine lt_t (by simp only [len]; omega) ⟨⟨by omega, by simp only [len]; omega⟩, ?_⟩
    exact loop1_ref_Counted l v ks t sg n hk6 hs H hH K x4 x5 hK d (k + 1) _ (by omega) (fun x => by rw [hasK_ins, take_step (by omega) (Ty.dflt Ty.int), hasI_snoc, hS x])
theorem loop_ref_Counted (l : List Vm.Signed) (v : Int) (ks : List Int) (t : Int) (sg : List Int) (n : Int) (hk6 : ks.length ≤ 6) (hl : l.length ≤ 360) (hs : sg.length ≤ 50) (K : KK) (x4 x5 : Int) (hK : K (.tup [.one (dI ((countN l sg n ks : Nat) : Int)), .one (dI 0)]) []) : ∀ (d k : Nat) (H : List Int), k + d = l.length → (∀ x, hasK x H = hasSig x n (l.take k)) →
    goD Γ_ref_Counted tab fn_ref_Counted 0 K (ks.length + 1 + sg.length + 1 + d + 1) ref_Counted_L0 (ref_Counted_S0 (k : Int) (((len l) : Nat) : Int) l x4 x5 sg n H v ks t)
  | 0, k, H, hk, hH => by
    rw [ref_Counted_w0, ref_Counted_vc0 _ _ _ _ _ _ _ _ _ _ _ _ _ _ rfl]
    rw [List.take_of_length_le (by omega)] at hH
    exact lt_f (by simp only [len]; omega) (loop1_ref_Counted l v ks t sg n hk6 hs H hH K x4 x5 hK sg.length 0 [] (by omega) (fun x => rfl))
  | d + 1, k, H, hk, hH => by
    rw [show ks.length + 1 + sg.length + 1 + (d + 1) + 1 = (ks.length + 1 + sg.length + 1 + d + 1) + 1 by omega, ref_Counted_w0, ref_Counted_vc0 _ _ _ _ _ _ _ _ _ _ _ _ _ _ rfl, toNat_nat]
    rw [w64_succ (k := k) (by omega)]
    have ht : ∀ x, hasSig x n (l.take (k + 1)) = (hasSig x n (l.take k) || isSig x n (nth l k (Ty.dflt Ty.signed))) := fun x => by
      rw [take_step (by omega) (Ty.dflt Ty.signed), hasSig_append]; simp [hasSig]
    obtain ⟨y, hy⟩ : ∃ y, nth l k (Ty.dflt Ty.signed) = y := ⟨_, rfl⟩
    rw [hy] at ht ⊢
    refine lt_t (by simp only [len]; omega) ⟨⟨by omega, by simp only [len]; omega⟩, eq_s (fun h => ?_) (fun h => ?_)⟩
    · refine loop_ref_Counted l v ks t sg n hk6 hl hs K x4 x5 hK d (k + 1) _ (by omega) (fun x => ?_)
      rw [hasK_ins, ht x, hH x, Bool.or_comm]
      congr 1
      simp only [isSig, eqi, h, Bool.and_true, decide_true]
      by_cases c : y.key = x
      · simp [c]
      · simp [c, Ne.symm c]
    · refine loop_ref_Counted l v ks t sg n hk6 hl hs K x4 x5 hK d (k + 1) _ (by omega) (fun x => ?_)
      rw [ht x, hH x]
      have : isSig x n y = false := by
        simp only [isSig, eqi, Bool.and_true, Bool.and_eq_false_iff, decide_eq_false_iff_not]
        exact .inr (fun e => h e.symm)
      rw [this, Bool.or_false]
set_option maxHeartbeats 4000000 in
theorem run_ref_Counted (l : List Vm.Signed) (v : Int) (ks : List Int) (t : Int) (sg : List Int) (n : Int) (K : KK) (hK : K (.tup [.one (dI (countT l ⟨v, ks, t⟩ sg n).1), .one (dI (countT l ⟨v, ks, t⟩ sg n).2)]) []) : ∃ m, goD Γ_ref_Counted tab fn_ref_Counted 0 K m [.code (bodyOf fn_ref_Counted)] (initSt [.one (.dat (.list .signed) l), .agg [dI v, dL ks, dI t], .one (dL sg), .one (dI n)] []) := by
  refine ⟨ks.length + 1 + sg.length + 1 + l.length + 2, ?_⟩
  rw [ref_Counted_w, ref_Counted_vc _ _ _ _ _ _ _ _ _ rfl _ rfl]
  unfold countT at hK
  simp only at hK
  refine ne_s (fun h => ?_) (fun h => ne_s (fun h2 => ?_) (fun h2 => lt_s (fun h3 => ?_) (fun h3 => ?_)))
  · rw [if_neg h] at hK; exact hK
  · rw [if_pos h, if_neg h2] at hK; exact hK
  · rw [if_pos h, if_pos h2, if_pos (by simp only [len] at h3; omega)] at hK; exact hK
  · rw [if_pos h, if_pos h2, if_neg (by simp only [len] at h3; omega)] at hK
    exact loop_ref_Counted l v ks t sg n (checkRoot_ok h2).2.2.2.2.1 (checkSigned_ok h).1 (by simp only [len] at h3; omega) K 0 0 hK l.length 0 [] (by omega) (fun x => rfl)
theorem sound_ref_Counted : SoundC Tryz.prog tab n_ref_Counted c_ref_Counted := soundC_of ok_ref_Counted hf_ref_Counted hB_ref_Counted (by
  intro vs bs p v bs' h hp
  unfold c_ref_Counted at h
  split at h
  · cases h
    exact ⟨by kernel_rfl, rfl, .inl (run_ref_Counted _ _ _ _ _ _ _ ⟨rfl, rfl⟩)⟩
  · cases h)

def c_ref_Turned : Contract := fun vs bs => match vs, bs with
  | [.agg [.dat (.list .str) b], .one (.dat (.list .signed) l), .agg [.dat .int v, .dat (.list .int) ks, .dat .int t, .dat .int n], .agg [.dat .int nv, .dat (.list .int) nk, .dat .int nt], .one (.dat (.list .int) sg)], [] => some (none, .tup [.agg [.dat .int (turnT b l ⟨⟨v, ks, t⟩, n⟩ ⟨nv, nk, nt⟩ sg).1.r.version, .dat (.list .int) (turnT b l ⟨⟨v, ks, t⟩, n⟩ ⟨nv, nk, nt⟩ sg).1.r.keys, .dat .int (turnT b l ⟨⟨v, ks, t⟩, n⟩ ⟨nv, nk, nt⟩ sg).1.r.thr, .dat .int (turnT b l ⟨⟨v, ks, t⟩, n⟩ ⟨nv, nk, nt⟩ sg).1.version], .one (.dat .int (turnT b l ⟨⟨v, ks, t⟩, n⟩ ⟨nv, nk, nt⟩ sg).2)], [])
  | _, _ => none
def Γ_ref_Turned : Ctx := [(n_ref_Turned_1, c_ref_Turned_1), (n_ref_CheckTrust, c_ref_CheckTrust), (n_ref_CheckRoot, c_ref_CheckRoot), (n_ref_CheckBook, c_ref_CheckBook), (n_ref_RootText, c_ref_RootText), (n_ref_NameOf, c_ref_NameOf), (n_ref_Counted, c_ref_Counted)]
theorem ok_ref_Turned : Ok Tryz.prog tab Γ_ref_Turned := (((((((ok_nil.consC hf_ref_Counted hB_ref_Counted sound_ref_Counted).consC hf_ref_NameOf hB_ref_NameOf sound_ref_NameOf).consC hf_ref_RootText hB_ref_RootText sound_ref_RootText).consC hf_ref_CheckBook hB_ref_CheckBook sound_ref_CheckBook).consC hf_ref_CheckRoot hB_ref_CheckRoot sound_ref_CheckRoot).consC hf_ref_CheckTrust hB_ref_CheckTrust sound_ref_CheckTrust).consC hf_ref_Turned_1 hB_ref_Turned_1 sound_ref_Turned_1)
noncomputable def ref_Turned_L0 : List It := [.inLoop [68, 67, 66, 16, 12, 11, 10, 8, 7, 1, 4] (Code.sub (bodyOf fn_ref_Turned) [1, 1, 1, 1, 1, 1, 1, 0, 1, 0, 0]), .inBlock 0, .code (Code.sub (bodyOf fn_ref_Turned) [1, 1, 1, 1, 1, 1, 1, 1])]
def ref_Turned_S0 (x0 : Int) (x1 : Int) (x2 : Int) (x3 : Int) (x4 : (List Vm.Signed)) (x5 : (List Int)) (x6 : (List Vm.Root)) (x7 : Int) (x8 : Int) (x9 : Int) (x10 : Int) (x11 : (List Int)) (x12 : Int) (x13 : Int) (x14 : (List Int)) (x15 : Int) (x16 : Int) (x17 : (List Int)) : St := ⟨[(68, .one (dI x0)), (67, .one (dI x1)), (66, .one (.own 0)), (16, .one (dI x2)), (12, .one (.fn n_ref_Turned_1 [])), (11, .one (dI x3)), (10, .one (.ptr 1 0)), (8, .one (.ptr 2 0)), (7, .one (.ptr 3 0)), (1, .one (.dat (Ty.list Ty.signed) x4)), (4, .one (dL x5))], [(0, .arr Ty.root x6), (1, .box [dI x7, .own 4, dI x8, dI x9]), (2, .box [dI x10, dL x11, dI x12]), (3, .box [dI x13, dL x14, dI x15, dI x16]), (4, .arr Ty.int x17)], 5⟩
theorem ref_Turned_vc (b : List (List UInt8)) (l : List Signed) (v : Int) (ks : List Int) (t : Int) (n : Int) (nv : Int) (nk : List Int) (nt : Int) (sg : List Int) (rec : RK) (K : KK) v0 (hv0 : v0 = (checkTrust ⟨⟨v, ks, t⟩, n⟩)) v1 (hv1 : v1 = (checkRoot nv nk nt)) v2 (hv2 : v2 = (checkBook b)) v3 (hv3 : v3 = (rootText nv nk nt)) v4 (hv4 : v4 = (indexS v3 b)) : segD Γ_ref_Turned tab fn_ref_Turned 0 K rec [.code (bodyOf fn_ref_Turned)] (initSt [.agg [.dat (Ty.list Ty.str) b], .one (.dat (Ty.list Ty.signed) l), .agg [dI v, dL ks, dI t, dI n], .agg [dI nv, dL nk, dI nt], .one (dL sg)] []) = (
 br (!(eqi v0 (0 : Int)))
 (K (.tup [.agg [dI (0 : Int), dL [], dI (0 : Int), dI (0 : Int)], .one (dI v0)]) [])
 (br (!(eqi v1 (0 : Int)))
 (K (.tup [.agg [dI (0 : Int), dL [], dI (0 : Int), dI (0 : Int)], .one (dI v1)]) [])
 (br (!(eqi v2 (0 : Int)))
 (K (.tup [.agg [dI (0 : Int), dL [], dI (0 : Int), dI (0 : Int)], .one (dI v2)]) [])
 (br (!(eqi (w64 (nv - (1 : Int))) v))
 (K (.tup [.agg [dI (0 : Int), dL [], dI (0 : Int), dI (0 : Int)], .one (dI (10 : Int))]) [])
 ((v1 = (0 : Int)) ∧
 (((List.length b) ≤ 60) ∧
 (rec ref_Turned_L0 (ref_Turned_S0 (0 : Int) (((len ((⟨v, ks, t⟩ : Vm.Root) :: ((⟨nv, nk, nt⟩ : Vm.Root) :: []))) : Nat) : Int) (v4 + (1 : Int)) (0 : Int) l sg ((⟨v, ks, t⟩ : Vm.Root) :: ((⟨nv, nk, nt⟩ : Vm.Root) :: [])) (0 : Int) (0 : Int) (0 : Int) nv nk nt v ks t n [])))))))) := by subst_vars; kernel_rfl
theorem ref_Turned_w (m : Nat) (K : KK) (st : St) : goD Γ_ref_Turned tab fn_ref_Turned 0 K (m + 1) [.code (bodyOf fn_ref_Turned)] st = segD Γ_ref_Turned tab fn_ref_Turned 0 K (goD Γ_ref_Turned tab fn_ref_Turned 0 K m) [.code (bodyOf fn_ref_Turned)] st := rfl
theorem ref_Turned_vc0 (x0 : Int) (x1 : Int) (x2 : Int) (x3 : Int) (x4 : (List Vm.Signed)) (x5 : (List Int)) (x6 : (List Vm.Root)) (x7 : Int) (x8 : Int) (x9 : Int) (x10 : Int) (x11 : (List Int)) (x12 : Int) (x13 : Int) (x14 : (List Int)) (x15 : Int) (x16 : Int) (x17 : (List Int)) (rec : RK) (K : KK) v0 (hv0 : v0 = (countT x4 ⟨((nth x6 (Int.toNat x0) (Ty.dflt Ty.root))).version, ((nth x6 (Int.toNat x0) (Ty.dflt Ty.root))).keys, ((nth x6 (Int.toNat x0) (Ty.dflt Ty.root))).thr⟩ x5 x2)) : segD Γ_ref_Turned tab fn_ref_Turned 0 K rec (.code (Code.sub (bodyOf fn_ref_Turned) [1, 1, 1, 1, 1, 1, 1, 0, 1, 0, 0]) :: ref_Turned_L0) (ref_Turned_S0 x0 x1 x2 x3 x4 x5 x6 x7 x8 x9 x10 x11 x12 x13 x14 x15 x16 x17) = (
 br (lti x0 x1)
 ((((0 : Int) ≤ x0) ∧ (x0 < (((len x6) : Nat) : Int))) ∧
 (((Int.toNat x0) < (len x6)) ∧
 (br (!(eqi v0.snd (0 : Int)))
 (K (.tup [.agg [dI (0 : Int), dL [], dI (0 : Int), dI (0 : Int)], .one (dI v0.snd)]) [])
 (br (lti v0.fst ((nth x6 (Int.toNat x0) (Ty.dflt Ty.root))).thr)
 (K (.tup [.agg [dI (0 : Int), dL [], dI (0 : Int), dI (0 : Int)], .one (dI (9 : Int))]) [])
 (rec ref_Turned_L0 (ref_Turned_S0 (w64 (x0 + (1 : Int))) x1 x2 x3 x4 x5 x6 x7 x8 x9 x10 x11 x12 x13 x14 x15 x16 x17))))))
 (K (.tup [.agg [dI x10, dL x11, dI x12, dI x16], .one (dI (0 : Int))]) [])) := by subst_vars; kernel_rfl
theorem ref_Turned_w0 (m : Nat) (K : KK) (st : St) : goD Γ_ref_Turned tab fn_ref_Turned 0 K (m + 1) ref_Turned_L0 st = segD Γ_ref_Turned tab fn_ref_Turned 0 K (goD Γ_ref_Turned tab fn_ref_Turned 0 K m) (.code (Code.sub (bodyOf fn_ref_Turned) [1, 1, 1, 1, 1, 1, 1, 0, 1, 0, 0]) :: ref_Turned_L0) st := rfl

theorem loop_ref_Turned (l : List Vm.Signed) (sg : List Int) (name : Int) (x3 x7 x8 x9 nv : Int) (nk : List Int) (nt v : Int) (ks : List Int) (t n : Int) (x17 : List Int) (K : KK)
    (hK : ∀ e, (if enough l ⟨v, ks, t⟩ sg name = 0 then enough l ⟨nv, nk, nt⟩ sg name else enough l ⟨v, ks, t⟩ sg name) = e → K (.tup [.agg [dI (if e = 0 then nv else 0), dL (if e = 0 then nk else []), dI (if e = 0 then nt else 0), dI (if e = 0 then n else 0)], .one (dI e)]) []) :
    goD Γ_ref_Turned tab fn_ref_Turned 0 K 3 ref_Turned_L0 (ref_Turned_S0 0 (((len ((⟨v, ks, t⟩ : Vm.Root) :: ((⟨nv, nk, nt⟩ : Vm.Root) :: []))) : Nat) : Int) name x3 l sg [⟨v, ks, t⟩, ⟨nv, nk, nt⟩] x7 x8 x9 nv nk nt v ks t n x17) := by
  have one : ∀ (r : Vm.Root) (p q s : Prop), (enough l r sg name ≠ 0 → (countT l r sg name).2 ≠ 0 → enough l r sg name = (countT l r sg name).2 → p) → (enough l r sg name = 9 → q) → (enough l r sg name = 0 → s) → br (!(eqi (countT l r sg name).2 0)) p (br (lti (countT l r sg name).1 r.thr) q s) := fun r p q s h1 h2 h3 => by
    refine ne_s (fun h => ?_) (fun h => lt_s (fun g => ?_) (fun g => ?_))
    · have e : enough l r sg name = (countT l r sg name).2 := if_neg h
      exact h1 (by rw [e]; exact h) h e
    · exact h2 (by unfold enough; rw [if_pos h, if_pos g])
    · exact h3 (by unfold enough; rw [if_pos h, if_neg (by omega)])
  rw [ref_Turned_w0, ref_Turned_vc0 _ _ _ _ _ _ _ _ _ _ _ _ _ _ _ _ _ _ _ _ _ rfl]
  refine lt_t (by simp [len]) ⟨⟨by simp, by simp [len]⟩, by simp [len], ?_⟩
  refine one ⟨v, ks, t⟩ _ _ _ (fun h h1 h2 => ?_) (fun h => ?_) (fun h => ?_)
  · have := hK _ (if_neg h)
    rw [if_neg h, if_neg h, if_neg h, if_neg h, h2] at this; exact this
  · have := hK 9 (by rw [h]; rfl); exact this
  have e1 : w64 ((0 : Int) + 1) = 1 := by decide
  rw [e1]
  rw [ref_Turned_w0, ref_Turned_vc0 _ _ _ _ _ _ _ _ _ _ _ _ _ _ _ _ _ _ _ _ _ rfl]
  refine lt_t (by simp [len]) ⟨⟨by simp, by simp [len]⟩, by simp [len], ?_⟩
  refine one ⟨nv, nk, nt⟩ _ _ _ (fun g h1 h2 => ?_) (fun g => ?_) (fun g => ?_)
  · have := hK _ (if_pos h)
    rw [if_neg g, if_neg g, if_neg g, if_neg g, h2] at this; exact this
  · have := hK 9 (by rw [if_pos h, g]); exact this
  have e2 : w64 ((1 : Int) + 1) = 2 := by decide
  rw [e2]
  rw [ref_Turned_w0, ref_Turned_vc0 _ _ _ _ _ _ _ _ _ _ _ _ _ _ _ _ _ _ _ _ _ rfl]
  refine lt_f (by simp [len]) ?_
  have := hK 0 (by rw [if_pos h, g]); exact this
set_option maxHeartbeats 4000000 in
theorem run_ref_Turned (b : List (List UInt8)) (l : List Vm.Signed) (v : Int) (ks : List Int) (t n nv : Int) (nk : List Int) (nt : Int) (sg : List Int) (K : KK) (hK : K (.tup [.agg [dI (turnT b l ⟨⟨v, ks, t⟩, n⟩ ⟨nv, nk, nt⟩ sg).1.r.version, dL (turnT b l ⟨⟨v, ks, t⟩, n⟩ ⟨nv, nk, nt⟩ sg).1.r.keys, dI (turnT b l ⟨⟨v, ks, t⟩, n⟩ ⟨nv, nk, nt⟩ sg).1.r.thr, dI (turnT b l ⟨⟨v, ks, t⟩, n⟩ ⟨nv, nk, nt⟩ sg).1.version], .one (dI (turnT b l ⟨⟨v, ks, t⟩, n⟩ ⟨nv, nk, nt⟩ sg).2)]) []) : ∃ m, goD Γ_ref_Turned tab fn_ref_Turned 0 K m [.code (bodyOf fn_ref_Turned)] (initSt [.agg [.dat (.list .str) b], .one (.dat (.list .signed) l), .agg [dI v, dL ks, dI t, dI n], .agg [dI nv, dL nk, dI nt], .one (dL sg)] []) := by
  refine ⟨4, ?_⟩
  rw [ref_Turned_w, ref_Turned_vc _ _ _ _ _ _ _ _ _ _ _ _ _ rfl _ rfl _ rfl _ rfl _ rfl]
  have bad : ∀ e : Int, e ≠ 0 → turnE b l ⟨⟨v, ks, t⟩, n⟩ ⟨nv, nk, nt⟩ sg = e → K (.tup [.agg [dI 0, dL [], dI 0, dI 0], .one (dI e)]) [] := fun e he h => by
    rw [show turnT b l ⟨⟨v, ks, t⟩, n⟩ ⟨nv, nk, nt⟩ sg = (noTrust, e) from by unfold turnT; rw [if_neg (by rw [h]; exact he), h]] at hK
    exact hK
  refine ne_s (fun h => bad _ h (if_neg h)) (fun h => ?_)
  have E1 : turnE b l ⟨⟨v, ks, t⟩, n⟩ ⟨nv, nk, nt⟩ sg = _ := if_pos h
  refine ne_s (fun h2 => bad _ h2 (E1.trans (if_neg h2))) (fun h2 => ?_)
  have E2 := E1.trans (if_pos h2)
  refine ne_s (fun h3 => bad _ h3 (E2.trans (if_neg h3))) (fun h3 => ?_)
  have E3 := E2.trans (if_pos h3)
  obtain ⟨r1, r2, _⟩ := checkRoot_ok h2
  rw [w64_id (by omega) (by omega)]
  refine ne_s (fun h4 => bad _ (by decide) (E3.trans (if_neg (by simp only; omega)))) (fun h4 => ?_)
  have E4 := E3.trans (if_pos (by simp only; omega))
  refine ⟨h2, checkBook_ok h3, ?_⟩
  refine loop_ref_Turned l sg _ 0 0 0 0 nv nk nt v ks t n [] K (fun e he => ?_)
  have E5 := E4.trans he
  by_cases c : e = 0
  · subst c
    rw [show turnT b l ⟨⟨v, ks, t⟩, n⟩ ⟨nv, nk, nt⟩ sg = (⟨⟨nv, nk, nt⟩, n⟩, 0) from by unfold turnT; rw [if_pos E5]] at hK
    exact hK
  · rw [if_neg c, if_neg c, if_neg c, if_neg c]; exact bad e c E5
theorem sound_ref_Turned : SoundC Tryz.prog tab n_ref_Turned c_ref_Turned := soundC_of ok_ref_Turned hf_ref_Turned hB_ref_Turned (by
  intro vs bs p v bs' h hp
  unfold c_ref_Turned at h
  split at h
  · cases h
    exact ⟨by kernel_rfl, rfl, .inl (run_ref_Turned _ _ _ _ _ _ _ _ _ _ _ ⟨rfl, rfl⟩)⟩
  · cases h)

def c_ref_CheckRelease : Contract := fun vs bs => match vs, bs with
  | [.agg [.dat .int v, .dat .int u, .dat (.list .target) ts]], [] => some (none, .one (.dat .int (checkRelease v u ts)), [])
  | _, _ => none
def Γ_ref_CheckRelease : Ctx := []
theorem ok_ref_CheckRelease : Ok Tryz.prog tab Γ_ref_CheckRelease := ok_nil
noncomputable def ref_CheckRelease_L0 : List It := [.inLoop [36, 35, 34, 2] (Code.sub (bodyOf fn_ref_CheckRelease) [1, 1, 1, 0, 1, 0, 0]), .inBlock 0, .code (Code.sub (bodyOf fn_ref_CheckRelease) [1, 1, 1, 1])]
def ref_CheckRelease_S0 (x0 : Int) (x1 : Int) (x2 : (List Vm.Target)) (x3 : Int) : St := ⟨[(36, .one (dI x0)), (35, .one (dI x1)), (34, .one (.dat (Ty.list Ty.target) x2)), (2, .one (dI x3))], [], 0⟩
theorem ref_CheckRelease_vc (v : Int) (u : Int) (ts : List Vm.Target) (rec : RK) (K : KK) : segD Γ_ref_CheckRelease tab fn_ref_CheckRelease 0 K rec [.code (bodyOf fn_ref_CheckRelease)] (initSt [.agg [dI v, dI u, .dat (Ty.list Ty.target) ts]] []) = (
 br (lti v (1 : Int))
 (K (.one (dI (3 : Int))) [])
 (br (lti (1000 : Int) v)
 (K (.one (dI (3 : Int))) [])
 (br (lti u (0 : Int))
 (K (.one (dI (3 : Int))) [])
 (br (lti (100000 : Int) u)
 (K (.one (dI (3 : Int))) [])
 (br (lti (((len ts) : Nat) : Int) (1 : Int))
 (K (.one (dI (2 : Int))) [])
 (br (lti (4 : Int) (((len ts) : Nat) : Int))
 (K (.one (dI (2 : Int))) [])
 (rec ref_CheckRelease_L0 (ref_CheckRelease_S0 (0 : Int) (((len ts) : Nat) : Int) ts (0 : Int))))))))) := by kernel_rfl
theorem ref_CheckRelease_w (m : Nat) (K : KK) (st : St) : goD Γ_ref_CheckRelease tab fn_ref_CheckRelease 0 K (m + 1) [.code (bodyOf fn_ref_CheckRelease)] st = segD Γ_ref_CheckRelease tab fn_ref_CheckRelease 0 K (goD Γ_ref_CheckRelease tab fn_ref_CheckRelease 0 K m) [.code (bodyOf fn_ref_CheckRelease)] st := rfl
theorem ref_CheckRelease_vc0 (x0 : Int) (x1 : Int) (x2 : (List Vm.Target)) (x3 : Int) (rec : RK) (K : KK) : segD Γ_ref_CheckRelease tab fn_ref_CheckRelease 0 K rec (.code (Code.sub (bodyOf fn_ref_CheckRelease) [1, 1, 1, 0, 1, 0, 0]) :: ref_CheckRelease_L0) (ref_CheckRelease_S0 x0 x1 x2 x3) = (
 br (lti x0 x1)
 ((((0 : Int) ≤ x0) ∧ (x0 < (((len x2) : Nat) : Int))) ∧
 (br (!(eqi ((nth x2 (Int.toNat x0) (Ty.dflt Ty.target))).unit x0))
 (K (.one (dI (3 : Int))) [])
 (br (lti ((nth x2 (Int.toNat x0) (Ty.dflt Ty.target))).image (1 : Int))
 (K (.one (dI (3 : Int))) [])
 (br (lti (60 : Int) ((nth x2 (Int.toNat x0) (Ty.dflt Ty.target))).image)
 (K (.one (dI (3 : Int))) [])
 (br (lti ((nth x2 (Int.toNat x0) (Ty.dflt Ty.target))).long (1 : Int))
 (K (.one (dI (3 : Int))) [])
 (br (lti (40 : Int) ((nth x2 (Int.toNat x0) (Ty.dflt Ty.target))).long)
 (K (.one (dI (3 : Int))) [])
 (rec ref_CheckRelease_L0 (ref_CheckRelease_S0 (w64 (x0 + (1 : Int))) x1 x2 x3))))))))
 (K (.one (dI (0 : Int))) [])) := by kernel_rfl
theorem ref_CheckRelease_w0 (m : Nat) (K : KK) (st : St) : goD Γ_ref_CheckRelease tab fn_ref_CheckRelease 0 K (m + 1) ref_CheckRelease_L0 st = segD Γ_ref_CheckRelease tab fn_ref_CheckRelease 0 K (goD Γ_ref_CheckRelease tab fn_ref_CheckRelease 0 K m) (.code (Code.sub (bodyOf fn_ref_CheckRelease) [1, 1, 1, 0, 1, 0, 0]) :: ref_CheckRelease_L0) st := rfl

theorem loop_ref_CheckRelease (ts : List Vm.Target) (hl : ts.length ≤ 4) (K : KK) : ∀ (d k : Nat), k + d = ts.length → K (.one (dI (if okTargets (k : Int) (ts.drop k) then 0 else 3))) [] →
    goD Γ_ref_CheckRelease tab fn_ref_CheckRelease 0 K (d + 1) ref_CheckRelease_L0 (ref_CheckRelease_S0 (k : Int) (((len ts) : Nat) : Int) ts 0)
  | 0, k, hk, hK => by
    rw [ref_CheckRelease_w0, ref_CheckRelease_vc0 _ _ _ _ _ _]
    rw [List.drop_of_length_le (by omega)] at hK
    exact lt_f (by simp only [len]; omega) hK
  | d + 1, k, hk, hK => by
    rw [ref_CheckRelease_w0, ref_CheckRelease_vc0 _ _ _ _ _ _, toNat_nat]
    rw [drop_step (by omega) (Ty.dflt Ty.target)] at hK
    obtain ⟨x, hx⟩ : ∃ x, nth ts k (Ty.dflt Ty.target) = x := ⟨_, rfl⟩
    rw [hx] at hK ⊢
    have three : okTarget (k : Int) x = false → K (.one (dI 3)) [] := fun h => by rw [show okTargets (k : Int) (x :: ts.drop (k + 1)) = false from by simp [okTargets, h]] at hK; exact hK
    have hot : okTarget (k : Int) x = true ↔ (x.unit = k ∧ 1 ≤ x.image ∧ x.image ≤ 60 ∧ 1 ≤ x.long ∧ x.long ≤ 40) := by
      simp only [okTarget, Bool.and_eq_true, decide_eq_true_eq]; omega
    have bad : ¬ (x.unit = k ∧ 1 ≤ x.image ∧ x.image ≤ 60 ∧ 1 ≤ x.long ∧ x.long ≤ 40) → K (.one (dI 3)) [] := fun h => three (by
      cases hc : okTarget (k : Int) x
      · rfl
      · exact absurd (hot.1 hc) h)
    refine lt_t (by simp only [len]; omega) ⟨⟨by omega, by simp only [len]; omega⟩, ne_s (fun h => bad (by omega)) (fun h => lt_s (fun h2 => bad (by omega)) (fun h2 => lt_s (fun h3 => bad (by omega)) (fun h3 => lt_s (fun h4 => bad (by omega)) (fun h4 => lt_s (fun h5 => bad (by omega)) (fun h5 => ?_)))))⟩
    rw [w64_succ (by omega)]
    rw [show okTargets (k : Int) (x :: ts.drop (k + 1)) = okTargets ((k : Int) + 1) (ts.drop (k + 1)) from by simp only [okTargets, hot.2 (show _ by omega), Bool.true_and]] at hK
    exact loop_ref_CheckRelease ts hl K d (k + 1) (by omega) (by rw [show ((k + 1 : Nat) : Int) = (k : Int) + 1 by omega]; exact hK)
set_option maxHeartbeats 4000000 in
theorem run_ref_CheckRelease (v u : Int) (ts : List Vm.Target) (K : KK) (hK : K (.one (dI (checkRelease v u ts))) []) : ∃ m, goD Γ_ref_CheckRelease tab fn_ref_CheckRelease 0 K m [.code (bodyOf fn_ref_CheckRelease)] (initSt [.agg [dI v, dI u, .dat (.list .target) ts]] []) := by
  refine ⟨ts.length + 2, ?_⟩
  rw [ref_CheckRelease_w, ref_CheckRelease_vc _ _ _ _ _]
  unfold checkRelease at hK
  refine lt_s (fun h => ?_) (fun h => lt_s (fun h2 => ?_) (fun h2 => lt_s (fun h3 => ?_) (fun h3 => lt_s (fun h4 => ?_) (fun h4 => lt_s (fun h5 => ?_) (fun h5 => lt_s (fun h6 => ?_) (fun h6 => ?_))))))
  · rw [if_pos (by omega)] at hK; exact hK
  · rw [if_pos (by omega)] at hK; exact hK
  · rw [if_pos (by omega)] at hK; exact hK
  · rw [if_pos (by omega)] at hK; exact hK
  · rw [if_neg (by omega), if_pos (by simp only [len] at h5; omega)] at hK; exact hK
  · rw [if_neg (by omega), if_pos (by simp only [len] at h6; omega)] at hK; exact hK
  · rw [if_neg (by omega), if_neg (by simp only [len] at h5 h6; omega)] at hK
    exact loop_ref_CheckRelease ts (by simp only [len] at h6; omega) K ts.length 0 (by omega) hK
theorem sound_ref_CheckRelease : SoundC Tryz.prog tab n_ref_CheckRelease c_ref_CheckRelease := soundC_of ok_ref_CheckRelease hf_ref_CheckRelease hB_ref_CheckRelease (by
  intro vs bs p v bs' h hp
  unfold c_ref_CheckRelease at h
  split at h
  · cases h
    exact ⟨by kernel_rfl, rfl, .inl (run_ref_CheckRelease _ _ _ _ ⟨rfl, rfl⟩)⟩
  · cases h)

def c_ref_ReleaseText : Contract := fun vs bs => match vs, bs with
  | [.agg [.dat .int v, .dat .int u, .dat (.list .target) ts]], [] => some (some (checkRelease v u ts = 0), .one (.dat .str (releaseText v u ts)), [])
  | _, _ => none
def Γ_ref_ReleaseText : Ctx := [(n_ref_spaced, c_ref_spaced), (n_strings_Join, c_strings_Join)]
theorem ok_ref_ReleaseText : Ok Tryz.prog tab Γ_ref_ReleaseText := ((ok_nil.consC hf_strings_Join hB_strings_Join sound_strings_Join).consC hf_ref_spaced hB_ref_spaced sound_ref_spaced)
noncomputable def ref_ReleaseText_L0 : List It := [.inLoop [21, 20, 19, 3, 2] (Code.sub (bodyOf fn_ref_ReleaseText) [1, 1, 0, 1, 0, 0]), .inBlock 0, .code (Code.sub (bodyOf fn_ref_ReleaseText) [1, 1, 1])]
def ref_ReleaseText_S0 (x0 : Int) (x1 : Int) (x2 : (List Vm.Target)) (x3 : (List UInt8)) (x4 : (List (List UInt8))) : St := ⟨[(21, .one (dI x0)), (20, .one (dI x1)), (19, .one (.dat (Ty.list Ty.target) x2)), (3, .one (.own 0)), (2, .one (.dat Ty.str x3))], [(0, .arr Ty.str x4)], 1⟩
theorem ref_ReleaseText_vc (v : Int) (u : Int) (ts : List Vm.Target) (rec : RK) (K : KK) v0 (hv0 : v0 = (nums (v :: []))) v1 (hv1 : v1 = (listT (v :: []))) v2 (hv2 : v2 = (nums (u :: []))) v3 (hv3 : v3 = (listT (u :: []))) : segD Γ_ref_ReleaseText tab fn_ref_ReleaseText 0 K rec [.code (bodyOf fn_ref_ReleaseText)] (initSt [.agg [dI v, dI u, .dat (Ty.list Ty.target) ts]] []) = (
 (((len (v :: [])) ≤ 1000) ∧ (v0 = true)) ∧
 ((((len ((114 : UInt8) :: ((101 : UInt8) :: ((108 : UInt8) :: ((101 : UInt8) :: ((97 : UInt8) :: ((115 : UInt8) :: ((101 : UInt8) :: ((32 : UInt8) :: []))))))))) + (len v1)) ≤ 140737488355328) ∧
 ((((len (cat ((114 : UInt8) :: ((101 : UInt8) :: ((108 : UInt8) :: ((101 : UInt8) :: ((97 : UInt8) :: ((115 : UInt8) :: ((101 : UInt8) :: ((32 : UInt8) :: [])))))))) v1)) + (len ((32 : UInt8) :: ((117 : UInt8) :: ((110 : UInt8) :: ((116 : UInt8) :: ((105 : UInt8) :: ((108 : UInt8) :: ((32 : UInt8) :: []))))))))) ≤ 140737488355328) ∧
 ((((len (u :: [])) ≤ 1000) ∧ (v2 = true)) ∧
 ((((len (cat (cat ((114 : UInt8) :: ((101 : UInt8) :: ((108 : UInt8) :: ((101 : UInt8) :: ((97 : UInt8) :: ((115 : UInt8) :: ((101 : UInt8) :: ((32 : UInt8) :: [])))))))) v1) ((32 : UInt8) :: ((117 : UInt8) :: ((110 : UInt8) :: ((116 : UInt8) :: ((105 : UInt8) :: ((108 : UInt8) :: ((32 : UInt8) :: []))))))))) + (len v3)) ≤ 140737488355328) ∧
 (rec ref_ReleaseText_L0 (ref_ReleaseText_S0 (0 : Int) (((len ts) : Nat) : Int) ts [] ((cat (cat (cat ((114 : UInt8) :: ((101 : UInt8) :: ((108 : UInt8) :: ((101 : UInt8) :: ((97 : UInt8) :: ((115 : UInt8) :: ((101 : UInt8) :: ((32 : UInt8) :: [])))))))) v1) ((32 : UInt8) :: ((117 : UInt8) :: ((110 : UInt8) :: ((116 : UInt8) :: ((105 : UInt8) :: ((108 : UInt8) :: ((32 : UInt8) :: [])))))))) v3) :: [])))))))) := by subst_vars; kernel_rfl
theorem ref_ReleaseText_w (m : Nat) (K : KK) (st : St) : goD Γ_ref_ReleaseText tab fn_ref_ReleaseText 0 K (m + 1) [.code (bodyOf fn_ref_ReleaseText)] st = segD Γ_ref_ReleaseText tab fn_ref_ReleaseText 0 K (goD Γ_ref_ReleaseText tab fn_ref_ReleaseText 0 K m) [.code (bodyOf fn_ref_ReleaseText)] st := rfl
theorem ref_ReleaseText_vc0 (x0 : Int) (x1 : Int) (x2 : (List Vm.Target)) (x3 : (List UInt8)) (x4 : (List (List UInt8))) (rec : RK) (K : KK) v0 (hv0 : v0 = (nums (((nth x2 (Int.toNat x0) (Ty.dflt Ty.target))).unit :: (((nth x2 (Int.toNat x0) (Ty.dflt Ty.target))).image :: (((nth x2 (Int.toNat x0) (Ty.dflt Ty.target))).long :: []))))) v1 (hv1 : v1 = (listT (((nth x2 (Int.toNat x0) (Ty.dflt Ty.target))).unit :: (((nth x2 (Int.toNat x0) (Ty.dflt Ty.target))).image :: (((nth x2 (Int.toNat x0) (Ty.dflt Ty.target))).long :: []))))) v2 (hv2 : v2 = (joinT ((59 : UInt8) :: ((32 : UInt8) :: [])) x4)) : segD Γ_ref_ReleaseText tab fn_ref_ReleaseText 0 K rec (.code (Code.sub (bodyOf fn_ref_ReleaseText) [1, 1, 0, 1, 0, 0]) :: ref_ReleaseText_L0) (ref_ReleaseText_S0 x0 x1 x2 x3 x4) = (
 br (lti x0 x1)
 ((((0 : Int) ≤ x0) ∧ (x0 < (((len x2) : Nat) : Int))) ∧
 ((((len (((nth x2 (Int.toNat x0) (Ty.dflt Ty.target))).unit :: (((nth x2 (Int.toNat x0) (Ty.dflt Ty.target))).image :: (((nth x2 (Int.toNat x0) (Ty.dflt Ty.target))).long :: [])))) ≤ 1000) ∧ (v0 = true)) ∧
 (((((len x4) + (len (v1 :: []))) * 16) ≤ 140737488355328) ∧
 (rec ref_ReleaseText_L0 (ref_ReleaseText_S0 (w64 (x0 + (1 : Int))) x1 x2 x3 (cat x4 (v1 :: [])))))))
 ((((List.length x4) ≤ 140737488355328) ∧ ((List.length v2) ≤ 140737488355328)) ∧
 (K (.one (.dat Ty.str v2)) []))) := by subst_vars; kernel_rfl
theorem ref_ReleaseText_w0 (m : Nat) (K : KK) (st : St) : goD Γ_ref_ReleaseText tab fn_ref_ReleaseText 0 K (m + 1) ref_ReleaseText_L0 st = segD Γ_ref_ReleaseText tab fn_ref_ReleaseText 0 K (goD Γ_ref_ReleaseText tab fn_ref_ReleaseText 0 K m) (.code (Code.sub (bodyOf fn_ref_ReleaseText) [1, 1, 0, 1, 0, 0]) :: ref_ReleaseText_L0) st := rfl

theorem loop_ref_ReleaseText (ts : List Vm.Target) (hl : ts.length ≤ 4) (hn : ∀ t ∈ ts, 0 ≤ t.unit ∧ t.unit ≤ 1000 ∧ 0 ≤ t.image ∧ t.image ≤ 1000 ∧ 0 ≤ t.long ∧ t.long ≤ 1000) (K : KK) (pre : List UInt8) (hp : pre.length ≤ 1000) (x3 : List UInt8) (hK : K (.one (.dat .str (pre ++ targetsT ts))) []) : ∀ (d k : Nat), k + d = ts.length →
    goD Γ_ref_ReleaseText tab fn_ref_ReleaseText 0 K (d + 1) ref_ReleaseText_L0 (ref_ReleaseText_S0 (k : Int) (((len ts) : Nat) : Int) ts x3 (pre :: (ts.take k).map fun t => listT [t.unit, t.image, t.long]))
  | 0, k, hk => by
    rw [ref_ReleaseText_w0, ref_ReleaseText_vc0 _ _ _ _ _ _ _ _ rfl _ rfl _ rfl, List.take_of_length_le (by omega), release_join]
    have hq := joinT_len [59, 32] 1000 (pre :: ts.map fun t => listT [t.unit, t.image, t.long]) (fun x hx => by
      rcases List.mem_cons.1 hx with rfl | hx
      · exact hp
      · obtain ⟨t, _, rfl⟩ := List.mem_map.1 hx
        have := listT_len [t.unit, t.image, t.long]
        simp only [List.length_cons, List.length_nil] at this; omega)
    rw [release_join] at hq
    simp only [List.length_cons, List.length_map, List.length_nil] at hq
    exact lt_f (by simp only [len]; omega) ⟨⟨by simp only [List.length_cons, List.length_map]; omega, by omega⟩, hK⟩
  | d + 1, k, hk => by
    rw [ref_ReleaseText_w0, ref_ReleaseText_vc0 _ _ _ _ _ _ _ _ rfl _ rfl _ rfl, toNat_nat]
    have ht := take_step (l := ts) (k := k) (by omega) (Ty.dflt Ty.target)
    have hm : nth ts k (Ty.dflt Ty.target) ∈ ts := by
      have : k < ts.length := by omega
      simp [nth, List.getD_eq_getElem?_getD, this]
    have hx := hn _ hm
    obtain ⟨x, hxe⟩ : ∃ x, nth ts k (Ty.dflt Ty.target) = x := ⟨_, rfl⟩
    rw [hxe] at hx ht ⊢
    have ek : w64 ((k : Int) + 1) = ((k + 1 : Nat) : Int) := w64_succ (by omega)
    rw [ek]
    refine lt_t (by simp only [len]; omega) ⟨⟨by omega, by simp only [len]; omega⟩, ⟨by simp [len], ?_⟩, by simp only [len, List.length_cons, List.length_map, List.length_take, List.length_nil]; omega, ?_⟩
    · simp only [nums, List.all_cons, List.all_nil, Bool.and_true, Bool.and_eq_true, decide_eq_true_eq]; omega
    · rw [show cat (pre :: (ts.take k).map fun t => listT [t.unit, t.image, t.long]) [listT [x.unit, x.image, x.long]] = pre :: (ts.take (k + 1)).map fun t => listT [t.unit, t.image, t.long] from by rw [ht]; simp [cat]]
      exact loop_ref_ReleaseText ts hl hn K pre hp x3 hK d (k + 1) (by omega)
set_option maxHeartbeats 4000000 in
theorem run_ref_ReleaseText (v u : Int) (ts : List Vm.Target) (hp : checkRelease v u ts = 0) (K : KK) (hK : K (.one (.dat .str (releaseText v u ts))) []) : ∃ m, goD Γ_ref_ReleaseText tab fn_ref_ReleaseText 0 K m [.code (bodyOf fn_ref_ReleaseText)] (initSt [.agg [dI v, dI u, .dat (.list .target) ts]] []) := by
  refine ⟨ts.length + 2, ?_⟩
  rw [ref_ReleaseText_w, ref_ReleaseText_vc _ _ _ _ _ _ rfl _ rfl _ rfl _ rfl]
  obtain ⟨h1, h2, h3, h4, h5, h6, h7⟩ := checkRelease_ok hp
  have n1 := numT_len v
  have n2 := numT_len u
  rw [listT_one, listT_one]
  refine ⟨⟨by simp [len], by simp only [nums, List.all_cons, List.all_nil, Bool.and_true, Bool.and_eq_true, decide_eq_true_eq]; omega⟩, by simp only [len, List.length_cons, List.length_nil]; omega, by simp only [len, cat, List.length_append, List.length_cons, List.length_nil]; omega, ⟨by simp [len], by simp only [nums, List.all_cons, List.all_nil, Bool.and_true, Bool.and_eq_true, decide_eq_true_eq]; omega⟩, by simp only [len, cat, List.length_append, List.length_cons, List.length_nil]; omega, ?_⟩
  exact loop_ref_ReleaseText ts h6 h7 K ([114, 101, 108, 101, 97, 115, 101, 32] ++ numT v ++ [32, 117, 110, 116, 105, 108, 32] ++ numT u) (by simp only [List.length_append, List.length_cons, List.length_nil]; omega) [] hK ts.length 0 (by omega)
theorem sound_ref_ReleaseText : SoundC Tryz.prog tab n_ref_ReleaseText c_ref_ReleaseText := soundC_of ok_ref_ReleaseText hf_ref_ReleaseText hB_ref_ReleaseText (by
  intro vs bs p v bs' h hp
  unfold c_ref_ReleaseText at h
  split at h
  · cases h
    exact ⟨by kernel_rfl, rfl, .inl (run_ref_ReleaseText _ _ _ hp.1 _ ⟨rfl, rfl⟩)⟩
  · cases h)

def c_ref_CheckImage : Contract := fun vs bs => match vs, bs with
  | [.one (.dat (.list .int) l)], [] => some (none, .one (.dat .int (checkImage l)), [])
  | _, _ => none
def Γ_ref_CheckImage : Ctx := [(n_ref_allWords, c_ref_allWords)]
theorem ok_ref_CheckImage : Ok Tryz.prog tab Γ_ref_CheckImage := (ok_nil.consC hf_ref_allWords hB_ref_allWords sound_ref_allWords)
theorem ref_CheckImage_vc (l : List Int) (rec : RK) (K : KK) v0 (hv0 : v0 = (okWords l)) : segD Γ_ref_CheckImage tab fn_ref_CheckImage 0 K rec [.code (bodyOf fn_ref_CheckImage)] (initSt [.one (dL l)] []) = (
 br (lti (((len l) : Nat) : Int) (1 : Int))
 (K (.one (dI (2 : Int))) [])
 (br (lti (40 : Int) (((len l) : Nat) : Int))
 (K (.one (dI (2 : Int))) [])
 (((List.length l) ≤ 140737488355328) ∧
 (br (!v0)
 (K (.one (dI (3 : Int))) [])
 (K (.one (dI (0 : Int))) []))))) := by subst_vars; kernel_rfl
theorem ref_CheckImage_w (m : Nat) (K : KK) (st : St) : goD Γ_ref_CheckImage tab fn_ref_CheckImage 0 K (m + 1) [.code (bodyOf fn_ref_CheckImage)] st = segD Γ_ref_CheckImage tab fn_ref_CheckImage 0 K (goD Γ_ref_CheckImage tab fn_ref_CheckImage 0 K m) [.code (bodyOf fn_ref_CheckImage)] st := rfl

set_option maxHeartbeats 4000000 in
theorem run_ref_CheckImage (l : List Int) (K : KK) (hK : K (.one (dI (checkImage l))) []) : ∃ m, goD Γ_ref_CheckImage tab fn_ref_CheckImage 0 K m [.code (bodyOf fn_ref_CheckImage)] (initSt [.one (dL l)] []) := by
  refine ⟨1, ?_⟩
  rw [ref_CheckImage_w, ref_CheckImage_vc _ _ _ _ rfl]
  unfold checkImage at hK
  refine lt_s (fun h => ?_) (fun h => lt_s (fun h2 => ?_) (fun h2 => ⟨by simp only [len] at h2; omega, nt_s (fun h3 => ?_) (fun h3 => ?_)⟩))
  · rw [if_pos (by simp only [len] at h; omega)] at hK; exact hK
  · rw [if_pos (by simp only [len] at h2; omega)] at hK; exact hK
  · rw [if_neg (by simp only [len] at h h2; omega), if_neg (by rw [h3]; simp)] at hK; exact hK
  · rw [if_neg (by simp only [len] at h h2; omega), if_pos h3] at hK; exact hK
theorem sound_ref_CheckImage : SoundC Tryz.prog tab n_ref_CheckImage c_ref_CheckImage := soundC_of ok_ref_CheckImage hf_ref_CheckImage hB_ref_CheckImage (by
  intro vs bs p v bs' h hp
  unfold c_ref_CheckImage at h
  split at h
  · cases h
    exact ⟨by kernel_rfl, rfl, .inl (run_ref_CheckImage _ _ ⟨rfl, rfl⟩)⟩
  · cases h)

def c_ref_ImageText : Contract := fun vs bs => match vs, bs with
  | [.one (.dat (.list .int) l)], [] => some (some (checkImage l = 0), .one (.dat .str (imageText l)), [])
  | _, _ => none
def Γ_ref_ImageText : Ctx := [(n_ref_spaced, c_ref_spaced)]
theorem ok_ref_ImageText : Ok Tryz.prog tab Γ_ref_ImageText := (ok_nil.consC hf_ref_spaced hB_ref_spaced sound_ref_spaced)
theorem ref_ImageText_vc (l : List Int) (rec : RK) (K : KK) v0 (hv0 : v0 = (nums l)) v1 (hv1 : v1 = (listT l)) : segD Γ_ref_ImageText tab fn_ref_ImageText 0 K rec [.code (bodyOf fn_ref_ImageText)] (initSt [.one (dL l)] []) = (
 (((len l) ≤ 1000) ∧ (v0 = true)) ∧
 ((((len ((105 : UInt8) :: ((109 : UInt8) :: ((97 : UInt8) :: ((103 : UInt8) :: ((101 : UInt8) :: ((32 : UInt8) :: []))))))) + (len v1)) ≤ 140737488355328) ∧
 (K (.one (.dat Ty.str (cat ((105 : UInt8) :: ((109 : UInt8) :: ((97 : UInt8) :: ((103 : UInt8) :: ((101 : UInt8) :: ((32 : UInt8) :: [])))))) v1))) []))) := by subst_vars; kernel_rfl
theorem ref_ImageText_w (m : Nat) (K : KK) (st : St) : goD Γ_ref_ImageText tab fn_ref_ImageText 0 K (m + 1) [.code (bodyOf fn_ref_ImageText)] st = segD Γ_ref_ImageText tab fn_ref_ImageText 0 K (goD Γ_ref_ImageText tab fn_ref_ImageText 0 K m) [.code (bodyOf fn_ref_ImageText)] st := rfl

set_option maxHeartbeats 4000000 in
theorem run_ref_ImageText (l : List Int) (hp : checkImage l = 0) (K : KK) (hK : K (.one (.dat .str (imageText l))) []) : ∃ m, goD Γ_ref_ImageText tab fn_ref_ImageText 0 K m [.code (bodyOf fn_ref_ImageText)] (initSt [.one (dL l)] []) := by
  refine ⟨1, ?_⟩
  rw [ref_ImageText_w, ref_ImageText_vc _ _ _ _ rfl _ rfl]
  obtain ⟨h1, h2, h3⟩ := checkImage_ok hp
  have n1 := listT_len l
  exact ⟨⟨by simp only [len]; omega, nums_of_words h3⟩, by simp only [len, List.length_cons, List.length_nil]; omega, hK⟩
theorem sound_ref_ImageText : SoundC Tryz.prog tab n_ref_ImageText c_ref_ImageText := soundC_of ok_ref_ImageText hf_ref_ImageText hB_ref_ImageText (by
  intro vs bs p v bs' h hp
  unfold c_ref_ImageText at h
  split at h
  · cases h
    exact ⟨by kernel_rfl, rfl, .inl (run_ref_ImageText _ hp.1 _ ⟨rfl, rfl⟩)⟩
  · cases h)

def c_ref_Taken : Contract := fun vs bs => match vs, bs with
  | [.agg [.dat (.list .str) b], .one (.dat (.list .signed) l), .agg [.dat .int v, .dat (.list .int) ks, .dat .int t, .dat .int n], .agg [.dat (.list .root) rs, .dat (.list (.list .int)) rg, .dat .int ov, .dat .int ou, .dat (.list .target) ts, .dat (.list .int) sg, .dat (.list (.list .int)) im], .one (.dat .int now), .one (.dat .int units)], [] => some (none, .tup [.agg [.dat .int (takeT b l ⟨⟨v, ks, t⟩, n⟩ ⟨rs, rg, ⟨ov, ou, ts⟩, sg, im⟩ now units).1.r.version, .dat (.list .int) (takeT b l ⟨⟨v, ks, t⟩, n⟩ ⟨rs, rg, ⟨ov, ou, ts⟩, sg, im⟩ now units).1.r.keys, .dat .int (takeT b l ⟨⟨v, ks, t⟩, n⟩ ⟨rs, rg, ⟨ov, ou, ts⟩, sg, im⟩ now units).1.r.thr, .dat .int (takeT b l ⟨⟨v, ks, t⟩, n⟩ ⟨rs, rg, ⟨ov, ou, ts⟩, sg, im⟩ now units).1.version], .one (.dat .int (takeT b l ⟨⟨v, ks, t⟩, n⟩ ⟨rs, rg, ⟨ov, ou, ts⟩, sg, im⟩ now units).2)], [])
  | _, _ => none
def Γ_ref_Taken : Ctx := [(n_ref_Taken_1, c_ref_Taken_1), (n_ref_CheckTrust, c_ref_CheckTrust), (n_ref_Turned, c_ref_Turned), (n_ref_CheckRelease, c_ref_CheckRelease), (n_ref_CheckBook, c_ref_CheckBook), (n_ref_ReleaseText, c_ref_ReleaseText), (n_ref_NameOf, c_ref_NameOf), (n_ref_Counted, c_ref_Counted), (n_ref_CheckImage, c_ref_CheckImage), (n_ref_ImageText, c_ref_ImageText)]
theorem ok_ref_Taken : Ok Tryz.prog tab Γ_ref_Taken := ((((((((((ok_nil.consC hf_ref_ImageText hB_ref_ImageText sound_ref_ImageText).consC hf_ref_CheckImage hB_ref_CheckImage sound_ref_CheckImage).consC hf_ref_Counted hB_ref_Counted sound_ref_Counted).consC hf_ref_NameOf hB_ref_NameOf sound_ref_NameOf).consC hf_ref_ReleaseText hB_ref_ReleaseText sound_ref_ReleaseText).consC hf_ref_CheckBook hB_ref_CheckBook sound_ref_CheckBook).consC hf_ref_CheckRelease hB_ref_CheckRelease sound_ref_CheckRelease).consC hf_ref_Turned hB_ref_Turned sound_ref_Turned).consC hf_ref_CheckTrust hB_ref_CheckTrust sound_ref_CheckTrust).consC hf_ref_Taken_1 hB_ref_Taken_1 sound_ref_Taken_1)
noncomputable def ref_Taken_L0 : List It := [.inLoop [55, 54, 14, 13, 12, 9, 8, 6, 1, 4, 5] (Code.sub (bodyOf fn_ref_Taken) [1, 1, 1, 1, 0, 1, 0, 0]), .inBlock 0, .code (Code.sub (bodyOf fn_ref_Taken) [1, 1, 1, 1, 1])]
def ref_Taken_S0 (x0 : Int) (x1 : Int) (x2 : Int) (x3 : (List Vm.Signed)) (x4 : Int) (x5 : Int) (x6 : Int) (x7 : Int) (x8 : Int) (x9 : (List Vm.Root)) (x10 : (List (List Int))) (x11 : Int) (x12 : Int) (x13 : (List Vm.Target)) (x14 : (List Int)) (x15 : (List (List Int))) (x16 : Int) (x17 : (List Int)) (x18 : Int) (x19 : Int) (x20 : (List (List UInt8))) (x21 : (List Int)) : St := ⟨[(55, .one (dI x0)), (54, .one (dI x1)), (14, .one (.fn n_ref_Taken_1 [])), (13, .one (dI x2)), (12, .one (.ptr 0 0)), (9, .one (.ptr 1 0)), (8, .one (.ptr 2 0)), (6, .one (.ptr 3 0)), (1, .one (.dat (Ty.list Ty.signed) x3)), (4, .one (dI x4)), (5, .one (dI x5))], [(0, .box [dI x6, .own 4, dI x7, dI x8]), (1, .box [.dat (Ty.list Ty.root) x9, dR x10, dI x11, dI x12, .dat (Ty.list Ty.target) x13, dL x14, dR x15]), (2, .box [dI x16, dL x17, dI x18, dI x19]), (3, .box [.dat (Ty.list Ty.str) x20]), (4, .arr Ty.int x21)], 5⟩
noncomputable def ref_Taken_L1 : List It := [.inLoop [173, 172, 171, 14, 13, 12, 9, 8, 6] (Code.sub (bodyOf fn_ref_Taken) [1, 1, 1, 1, 1, 1, 1, 1, 1, 1, 1, 1, 1, 0, 1, 0, 0]), .inBlock 2, .code (Code.sub (bodyOf fn_ref_Taken) [1, 1, 1, 1, 1, 1, 1, 1, 1, 1, 1, 1, 1, 1])]
def ref_Taken_S1 (x0 : Int) (x1 : Int) (x2 : (List Vm.Target)) (x3 : Int) (x4 : Int) (x5 : Int) (x6 : Int) (x7 : (List Vm.Root)) (x8 : (List (List Int))) (x9 : Int) (x10 : Int) (x11 : (List Vm.Target)) (x12 : (List Int)) (x13 : (List (List Int))) (x14 : Int) (x15 : (List Int)) (x16 : Int) (x17 : Int) (x18 : (List (List UInt8))) (x19 : (List Int)) : St := ⟨[(173, .one (dI x0)), (172, .one (dI x1)), (171, .one (.dat (Ty.list Ty.target) x2)), (14, .one (.fn n_ref_Taken_1 [])), (13, .one (dI x3)), (12, .one (.ptr 0 0)), (9, .one (.ptr 1 0)), (8, .one (.ptr 2 0)), (6, .one (.ptr 3 0))], [(0, .box [dI x4, .own 4, dI x5, dI x6]), (1, .box [.dat (Ty.list Ty.root) x7, dR x8, dI x9, dI x10, .dat (Ty.list Ty.target) x11, dL x12, dR x13]), (2, .box [dI x14, dL x15, dI x16, dI x17]), (3, .box [.dat (Ty.list Ty.str) x18]), (4, .arr Ty.int x19)], 5⟩
theorem ref_Taken_vc (b : List (List UInt8)) (l : List Signed) (v : Int) (ks : List Int) (t : Int) (n : Int) (rs : List Root) (rg : List (List Int)) (ov : Int) (ou : Int) (ts : List Vm.Target) (sg : List Int) (im : List (List Int)) (now : Int) (units : Int) (rec : RK) (K : KK) v0 (hv0 : v0 = (checkTrust ⟨⟨v, ks, t⟩, n⟩)) v1 (hv1 : v1 = (K (.tup [.agg [dI (0 : Int), dL [], dI (0 : Int), dI (0 : Int)], .one (dI (2 : Int))]) [])) : segD Γ_ref_Taken tab fn_ref_Taken 0 K rec [.code (bodyOf fn_ref_Taken)] (initSt [.agg [.dat (Ty.list Ty.str) b], .one (.dat (Ty.list Ty.signed) l), .agg [dI v, dL ks, dI t, dI n], .agg [.dat (Ty.list Ty.root) rs, dR rg, dI ov, dI ou, .dat (Ty.list Ty.target) ts, dL sg, dR im], .one (dI now), .one (dI units)] []) = (
 br (!(eqi v0 (0 : Int)))
 (K (.tup [.agg [dI (0 : Int), dL [], dI (0 : Int), dI (0 : Int)], .one (dI v0)]) [])
 (br (lti (6 : Int) (((len rs) : Nat) : Int))
 v1
 (br (!(eqi (((len rg) : Nat) : Int) (((len rs) : Nat) : Int)))
 v1
 (rec ref_Taken_L0 (ref_Taken_S0 (0 : Int) (((len rs) : Nat) : Int) (0 : Int) l now units (0 : Int) (0 : Int) (0 : Int) rs rg ov ou ts sg im v ks t n b []))))) := by subst_vars; kernel_rfl
theorem ref_Taken_w (m : Nat) (K : KK) (st : St) : goD Γ_ref_Taken tab fn_ref_Taken 0 K (m + 1) [.code (bodyOf fn_ref_Taken)] st = segD Γ_ref_Taken tab fn_ref_Taken 0 K (goD Γ_ref_Taken tab fn_ref_Taken 0 K m) [.code (bodyOf fn_ref_Taken)] st := rfl
theorem ref_Taken_vc0 (x0 : Int) (x1 : Int) (x2 : Int) (x3 : (List Vm.Signed)) (x4 : Int) (x5 : Int) (x6 : Int) (x7 : Int) (x8 : Int) (x9 : (List Vm.Root)) (x10 : (List (List Int))) (x11 : Int) (x12 : Int) (x13 : (List Vm.Target)) (x14 : (List Int)) (x15 : (List (List Int))) (x16 : Int) (x17 : (List Int)) (x18 : Int) (x19 : Int) (x20 : (List (List UInt8))) (x21 : (List Int)) (rec : RK) (K : KK) v0 (hv0 : v0 = (turnT x20 x3 ⟨⟨x16, x17, x18⟩, x19⟩ ⟨((nth x9 (Int.toNat x0) (Ty.dflt Ty.root))).version, ((nth x9 (Int.toNat x0) (Ty.dflt Ty.root))).keys, ((nth x9 (Int.toNat x0) (Ty.dflt Ty.root))).thr⟩ (nth x10 (Int.toNat x0) (Ty.dflt (Ty.list Ty.int))))) v1 (hv1 : v1 = (checkRelease x11 x12 x13)) v2 (hv2 : v2 = (checkBook x20)) v3 (hv3 : v3 = (releaseText x11 x12 x13)) v4 (hv4 : v4 = (indexS v3 x20)) v5 (hv5 : v5 = (countT x3 ⟨x16, x17, x18⟩ x14 (v4 + (1 : Int)))) v6 (hv6 : v6 = (K (.tup [.agg [dI (0 : Int), dL [], dI (0 : Int), dI (0 : Int)], .one (dI (4 : Int))]) [])) : segD Γ_ref_Taken tab fn_ref_Taken 0 K rec (.code (Code.sub (bodyOf fn_ref_Taken) [1, 1, 1, 1, 0, 1, 0, 0]) :: ref_Taken_L0) (ref_Taken_S0 x0 x1 x2 x3 x4 x5 x6 x7 x8 x9 x10 x11 x12 x13 x14 x15 x16 x17 x18 x19 x20 x21) = (
 br (lti x0 x1)
 ((((0 : Int) ≤ x0) ∧ (x0 < (((len x9) : Nat) : Int))) ∧
 ((((0 : Int) ≤ x0) ∧ (x0 < (((len x10) : Nat) : Int))) ∧
 (br (!(eqi v0.snd (0 : Int)))
 (K (.tup [.agg [dI (0 : Int), dL [], dI (0 : Int), dI (0 : Int)], .one (dI v0.snd)]) [])
 (rec ref_Taken_L0 (ref_Taken_S0 (w64 (x0 + (1 : Int))) x1 x2 x3 x4 x5 x6 x7 x8 x9 x10 x11 x12 x13 x14 x15 v0.fst.r.version v0.fst.r.keys v0.fst.r.thr v0.fst.version x20 x21)))))
 (br (!(eqi v1 (0 : Int)))
 (K (.tup [.agg [dI (0 : Int), dL [], dI (0 : Int), dI (0 : Int)], .one (dI v1)]) [])
 (br (!(eqi v2 (0 : Int)))
 (K (.tup [.agg [dI (0 : Int), dL [], dI (0 : Int), dI (0 : Int)], .one (dI v2)]) [])
 ((v1 = (0 : Int)) ∧
 (((List.length x20) ≤ 60) ∧
 (br (!(eqi v5.snd (0 : Int)))
 (K (.tup [.agg [dI (0 : Int), dL [], dI (0 : Int), dI (0 : Int)], .one (dI v5.snd)]) [])
 (br (lti v5.fst x18)
 (K (.tup [.agg [dI (0 : Int), dL [], dI (0 : Int), dI (0 : Int)], .one (dI (9 : Int))]) [])
 (br (lei x11 x19)
 (K (.tup [.agg [dI (0 : Int), dL [], dI (0 : Int), dI (0 : Int)], .one (dI (10 : Int))]) [])
 (br (lti x12 x4)
 (K (.tup [.agg [dI (0 : Int), dL [], dI (0 : Int), dI (0 : Int)], .one (dI (11 : Int))]) [])
 (br (!(eqi (((len x13) : Nat) : Int) x5))
 v6
 (br (!(eqi (((len x15) : Nat) : Int) x5))
 v6
 (rec ref_Taken_L1 (ref_Taken_S1 (0 : Int) (((len x13) : Nat) : Int) x13 x2 x6 x7 x8 x9 x10 x11 x12 x13 x14 x15 x16 x17 x18 x19 x20 x21))))))))))))) := by subst_vars; kernel_rfl
theorem ref_Taken_w0 (m : Nat) (K : KK) (st : St) : goD Γ_ref_Taken tab fn_ref_Taken 0 K (m + 1) ref_Taken_L0 st = segD Γ_ref_Taken tab fn_ref_Taken 0 K (goD Γ_ref_Taken tab fn_ref_Taken 0 K m) (.code (Code.sub (bodyOf fn_ref_Taken) [1, 1, 1, 1, 0, 1, 0, 0]) :: ref_Taken_L0) st := rfl
theorem ref_Taken_vc1 (x0 : Int) (x1 : Int) (x2 : (List Vm.Target)) (x3 : Int) (x4 : Int) (x5 : Int) (x6 : Int) (x7 : (List Vm.Root)) (x8 : (List (List Int))) (x9 : Int) (x10 : Int) (x11 : (List Vm.Target)) (x12 : (List Int)) (x13 : (List (List Int))) (x14 : Int) (x15 : (List Int)) (x16 : Int) (x17 : Int) (x18 : (List (List UInt8))) (x19 : (List Int)) (rec : RK) (K : KK) v0 (hv0 : v0 = (checkImage (nth x13 (Int.toNat x0) (Ty.dflt (Ty.list Ty.int))))) v1 (hv1 : v1 = (imageText (nth x13 (Int.toNat x0) (Ty.dflt (Ty.list Ty.int))))) v2 (hv2 : v2 = (indexS v1 x18)) v3 (hv3 : v3 = (K (.tup [.agg [dI (0 : Int), dL [], dI (0 : Int), dI (0 : Int)], .one (dI (5 : Int))]) [])) : segD Γ_ref_Taken tab fn_ref_Taken 0 K rec (.code (Code.sub (bodyOf fn_ref_Taken) [1, 1, 1, 1, 1, 1, 1, 1, 1, 1, 1, 1, 1, 0, 1, 0, 0]) :: ref_Taken_L1) (ref_Taken_S1 x0 x1 x2 x3 x4 x5 x6 x7 x8 x9 x10 x11 x12 x13 x14 x15 x16 x17 x18 x19) = (
 br (lti x0 x1)
 ((((0 : Int) ≤ x0) ∧ (x0 < (((len x2) : Nat) : Int))) ∧
 ((((0 : Int) ≤ x0) ∧ (x0 < (((len x13) : Nat) : Int))) ∧
 (br (!(eqi v0 (0 : Int)))
 v3
 (br (!(eqi (((len (nth x13 (Int.toNat x0) (Ty.dflt (Ty.list Ty.int)))) : Nat) : Int) ((nth x2 (Int.toNat x0) (Ty.dflt Ty.target))).long))
 v3
 ((v0 = (0 : Int)) ∧
 (((List.length x18) ≤ 60) ∧
 (br (!(eqi (v2 + (1 : Int)) ((nth x2 (Int.toNat x0) (Ty.dflt Ty.target))).image))
 v3
 (rec ref_Taken_L1 (ref_Taken_S1 (w64 (x0 + (1 : Int))) x1 x2 x3 x4 x5 x6 x7 x8 x9 x10 x11 x12 x13 x14 x15 x16 x17 x18 x19)))))))))
 (K (.tup [.agg [dI x14, dL x15, dI x16, dI x9], .one (dI (0 : Int))]) [])) := by subst_vars; kernel_rfl
theorem ref_Taken_w1 (m : Nat) (K : KK) (st : St) : goD Γ_ref_Taken tab fn_ref_Taken 0 K (m + 1) ref_Taken_L1 st = segD Γ_ref_Taken tab fn_ref_Taken 0 K (goD Γ_ref_Taken tab fn_ref_Taken 0 K m) (.code (Code.sub (bodyOf fn_ref_Taken) [1, 1, 1, 1, 1, 1, 1, 1, 1, 1, 1, 1, 1, 0, 1, 0, 0]) :: ref_Taken_L1) st := rfl

theorem loop1_ref_Taken (b : List (List UInt8)) (hb : b.length ≤ 60) (hb0 : checkBook b = 0) (ts : List Vm.Target) (im : List (List Int)) (hl : ts.length ≤ 4) (hi : im.length = ts.length) (K : KK) (x3 x4 x5 x6 : Int) (rs : List Vm.Root) (rg : List (List Int)) (ov ou : Int) (sg : List Int) (v : Int) (ks : List Int) (t n : Int) (x19 : List Int) : ∀ (d k : Nat), k + d = ts.length →
    (okImages b (ts.drop k) (im.drop k) = true → K (.tup [.agg [dI v, dL ks, dI t, dI ov], .one (dI 0)]) []) →
    (okImages b (ts.drop k) (im.drop k) = false → K (.tup [.agg [dI 0, dL [], dI 0, dI 0], .one (dI 5)]) []) →
    goD Γ_ref_Taken tab fn_ref_Taken 0 K (d + 1) ref_Taken_L1 (ref_Taken_S1 (k : Int) (((len ts) : Nat) : Int) ts x3 x4 x5 x6 rs rg ov ou ts sg im v ks t n b x19)
  | 0, k, hk', hT, hF => by
    rw [ref_Taken_w1, ref_Taken_vc1 _ _ _ _ _ _ _ _ _ _ _ _ _ _ _ _ _ _ _ _ _ _ _ rfl _ rfl _ rfl _ rfl]
    rw [List.drop_of_length_le (by omega)] at hT
    exact lt_f (by simp only [len]; omega) (hT rfl)
  | d + 1, k, hk', hT, hF => by
    rw [ref_Taken_w1, ref_Taken_vc1 _ _ _ _ _ _ _ _ _ _ _ _ _ _ _ _ _ _ _ _ _ _ _ rfl _ rfl _ rfl _ rfl, toNat_nat]
    rw [drop_step (l := ts) (by omega) (Ty.dflt Ty.target), drop_step (l := im) (by omega) (Ty.dflt (Ty.list Ty.int))] at hT hF
    obtain ⟨x, hx⟩ : ∃ x, nth ts k (Ty.dflt Ty.target) = x := ⟨_, rfl⟩
    obtain ⟨w, hw⟩ : ∃ w, nth im k (Ty.dflt (Ty.list Ty.int)) = w := ⟨_, rfl⟩
    rw [hx, hw] at hT hF ⊢
    simp only [okImages, List.headD_cons, List.tail_cons] at hT hF
    have five : okImage b x w = false → K (.tup [.agg [dI 0, dL [], dI 0, dI 0], .one (dI 5)]) [] := fun h => hF (by rw [h]; rfl)
    have ek : w64 ((k : Int) + 1) = ((k + 1 : Nat) : Int) := w64_succ (by omega)
    rw [ek]
    refine lt_t (by simp only [len]; omega) ⟨⟨by omega, by simp only [len]; omega⟩, ⟨by omega, by simp only [len]; omega⟩, ne_s (fun h => five ?_) (fun h => ?_)⟩
    · have : (imageName b w).2 = checkImage w := by unfold imageName; rw [if_neg h]
      simp [okImage, this, h]
    have e1 : imageName b w = (indexS (imageText w) b + 1, 0) := by unfold imageName; rw [if_pos h]; exact if_pos hb0
    refine ne_s (fun h2 => five ?_) (fun h2 => ⟨h, hb, ne_s (fun h3 => five ?_) (fun h3 => ?_)⟩)
    · simp only [okImage, Bool.and_eq_false_iff, decide_eq_false_iff_not]; exact .inr h2
    · simp [okImage, e1, h3]
    · have ok : okImage b x w = true := by
        simp only [okImage, e1, Bool.and_eq_true, decide_eq_true_eq]; exact ⟨⟨trivial, h3⟩, h2⟩
      rw [ok] at hT hF
      exact loop1_ref_Taken b hb hb0 ts im hl hi K x3 x4 x5 x6 rs rg ov ou sg v ks t n x19 d (k + 1) (by omega) (fun g => hT (by rw [g]; rfl)) (fun g => hF (by rw [g]; rfl))
theorem loop_ref_Taken (b : List (List UInt8)) (l : List Vm.Signed) (rs : List Vm.Root) (rg : List (List Int)) (ov ou : Int) (ts : List Vm.Target) (sg : List Int) (im : List (List Int)) (now units : Int) (hr : rs.length ≤ 6) (hg : rg.length = rs.length) (K : KK) (x2 x6 x7 x8 : Int) (x21 : List Int) : ∀ (d k : Nat) (v : Int) (ks : List Int) (t n : Int), k + d = rs.length →
    K (.tup [.agg [dI (takeEnd b l ⟨rs, rg, ⟨ov, ou, ts⟩, sg, im⟩ now units (rootsT b l ⟨⟨v, ks, t⟩, n⟩ (rs.drop k) (rg.drop k))).1.r.version, dL (takeEnd b l ⟨rs, rg, ⟨ov, ou, ts⟩, sg, im⟩ now units (rootsT b l ⟨⟨v, ks, t⟩, n⟩ (rs.drop k) (rg.drop k))).1.r.keys, dI (takeEnd b l ⟨rs, rg, ⟨ov, ou, ts⟩, sg, im⟩ now units (rootsT b l ⟨⟨v, ks, t⟩, n⟩ (rs.drop k) (rg.drop k))).1.r.thr, dI (takeEnd b l ⟨rs, rg, ⟨ov, ou, ts⟩, sg, im⟩ now units (rootsT b l ⟨⟨v, ks, t⟩, n⟩ (rs.drop k) (rg.drop k))).1.version], .one (dI (takeEnd b l ⟨rs, rg, ⟨ov, ou, ts⟩, sg, im⟩ now units (rootsT b l ⟨⟨v, ks, t⟩, n⟩ (rs.drop k) (rg.drop k))).2)]) [] →
    goD Γ_ref_Taken tab fn_ref_Taken 0 K ((ts.length + 1) + d + 1) ref_Taken_L0 (ref_Taken_S0 (k : Int) (((len rs) : Nat) : Int) x2 l now units x6 x7 x8 rs rg ov ou ts sg im v ks t n b x21)
  | 0, k, v, ks, t, n, hk, hK => by
    rw [ref_Taken_w0, ref_Taken_vc0 _ _ _ _ _ _ _ _ _ _ _ _ _ _ _ _ _ _ _ _ _ _ _ _ _ rfl _ rfl _ rfl _ rfl _ rfl _ rfl _ rfl]
    rw [List.drop_of_length_le (by omega)] at hK
    refine lt_f (by simp only [len]; omega) ?_
    have e0 : takeEnd b l ⟨rs, rg, ⟨ov, ou, ts⟩, sg, im⟩ now units (rootsT b l ⟨⟨v, ks, t⟩, n⟩ [] (rg.drop k)) = if relE b l ⟨⟨v, ks, t⟩, n⟩ ⟨rs, rg, ⟨ov, ou, ts⟩, sg, im⟩ now units = 0 then (⟨⟨v, ks, t⟩, ov⟩, 0) else (noTrust, relE b l ⟨⟨v, ks, t⟩, n⟩ ⟨rs, rg, ⟨ov, ou, ts⟩, sg, im⟩ now units) := rfl
    rw [e0] at hK
    have bad : ∀ e : Int, e ≠ 0 → relE b l ⟨⟨v, ks, t⟩, n⟩ ⟨rs, rg, ⟨ov, ou, ts⟩, sg, im⟩ now units = e → K (.tup [.agg [dI 0, dL [], dI 0, dI 0], .one (dI e)]) [] := fun e he h => by
      rw [if_neg (by rw [h]; exact he), h] at hK; exact hK
    have good : relE b l ⟨⟨v, ks, t⟩, n⟩ ⟨rs, rg, ⟨ov, ou, ts⟩, sg, im⟩ now units = 0 → K (.tup [.agg [dI v, dL ks, dI t, dI ov], .one (dI 0)]) [] := fun h => by
      rw [if_pos h] at hK; exact hK
    clear hK e0
    refine ne_s (fun h2 => bad _ h2 (if_neg h2)) (fun c2 => ?_)
    have E2 : relE b l ⟨⟨v, ks, t⟩, n⟩ ⟨rs, rg, ⟨ov, ou, ts⟩, sg, im⟩ now units = _ := if_pos c2
    refine ne_s (fun h3 => bad _ h3 (E2.trans (if_neg h3))) (fun c3 => ⟨c2, checkBook_ok c3, ?_⟩)
    have E3 := E2.trans (if_pos c3)
    obtain ⟨q1, q2, q3, q4, q5, q6, _⟩ := checkRelease_ok c2
    refine ne_s (fun g => ?_) (fun g => lt_s (fun g2 => ?_) (fun g2 => ?_))
    · have e : enough l ⟨v, ks, t⟩ sg (indexS (releaseText ov ou ts) b + 1) = (countT l ⟨v, ks, t⟩ sg (indexS (releaseText ov ou ts) b + 1)).2 := if_neg g
      exact bad _ g ((E3.trans (if_neg (by rw [e]; exact g))).trans e)
    · have e : enough l ⟨v, ks, t⟩ sg (indexS (releaseText ov ou ts) b + 1) = 9 := by unfold enough; rw [if_pos g, if_pos g2]
      exact bad _ (by decide) ((E3.trans (if_neg (by rw [e]; decide))).trans e)
    have e : enough l ⟨v, ks, t⟩ sg (indexS (releaseText ov ou ts) b + 1) = 0 := by unfold enough; rw [if_pos g, if_neg (by simp only; omega)]
    have E4 := E3.trans (if_pos e)
    simp only at E4
    refine br_split (fun h5 => ?_) (fun h5 => ?_)
    · rw [lei_true] at h5
      exact bad _ (by decide) (E4.trans (if_pos h5))
    rw [lei_false] at h5
    have E5 := E4.trans (if_neg (by omega))
    refine lt_s (fun h6 => bad _ (by decide) (E5.trans (if_pos h6))) (fun h6 => ?_)
    have E6 := E5.trans (if_neg (by omega))
    refine ne_s (fun h7 => bad _ (by decide) (E6.trans (if_pos (.inl h7)))) (fun h7 => ne_s (fun h8 => bad _ (by decide) (E6.trans (if_pos (.inr h8)))) (fun h8 => ?_))
    have E7 := E6.trans (if_neg (by simp only [len] at h7 h8; omega))
    exact loop1_ref_Taken b (checkBook_ok c3) c3 ts im q6 (by simp only [len] at h7 h8; omega) K x2 x6 x7 x8 rs rg ov ou sg v ks t n x21 ts.length 0 (by omega) (fun g => good (E7.trans (if_pos g))) (fun g => bad 5 (by decide) (E7.trans (if_neg (by rw [show okImages b ts im = false from g]; simp))))
  | d + 1, k, v, ks, t, n, hk, hK => by
    rw [show ts.length + 1 + (d + 1) + 1 = (ts.length + 1 + d + 1) + 1 by omega, ref_Taken_w0, ref_Taken_vc0 _ _ _ _ _ _ _ _ _ _ _ _ _ _ _ _ _ _ _ _ _ _ _ _ _ rfl _ rfl _ rfl _ rfl _ rfl _ rfl _ rfl, toNat_nat]
    rw [drop_step (l := rs) (by omega) (Ty.dflt Ty.root), drop_step (l := rg) (by omega) (Ty.dflt (Ty.list Ty.int))] at hK
    obtain ⟨x, hx⟩ : ∃ x, nth rs k (Ty.dflt Ty.root) = x := ⟨_, rfl⟩
    obtain ⟨w, hw⟩ : ∃ w, nth rg k (Ty.dflt (Ty.list Ty.int)) = w := ⟨_, rfl⟩
    rw [hx, hw] at hK ⊢
    have ek : w64 ((k : Int) + 1) = ((k + 1 : Nat) : Int) := w64_succ (by omega)
    rw [ek]
    have ex : (⟨x.version, x.keys, x.thr⟩ : Vm.Root) = x := rfl
    rw [ex]
    refine lt_t (by simp only [len]; omega) ⟨⟨by omega, by simp only [len]; omega⟩, ⟨by omega, by simp only [len]; omega⟩, ne_s (fun h => ?_) (fun h => ?_)⟩
    · rw [show rootsT b l ⟨⟨v, ks, t⟩, n⟩ (x :: rs.drop (k + 1)) (w :: rg.drop (k + 1)) = (noTrust, (turnT b l ⟨⟨v, ks, t⟩, n⟩ x w).2) from if_neg h] at hK
      have e : takeEnd b l ⟨rs, rg, ⟨ov, ou, ts⟩, sg, im⟩ now units (noTrust, (turnT b l ⟨⟨v, ks, t⟩, n⟩ x w).2) = (noTrust, (turnT b l ⟨⟨v, ks, t⟩, n⟩ x w).2) := if_neg h
      rw [e] at hK; exact hK
    · rw [show rootsT b l ⟨⟨v, ks, t⟩, n⟩ (x :: rs.drop (k + 1)) (w :: rg.drop (k + 1)) = rootsT b l (turnT b l ⟨⟨v, ks, t⟩, n⟩ x w).1 (rs.drop (k + 1)) (rg.drop (k + 1)) from if_pos h] at hK
      exact loop_ref_Taken b l rs rg ov ou ts sg im now units hr hg K x2 x6 x7 x8 x21 d (k + 1) _ _ _ _ (by omega) hK
set_option maxHeartbeats 4000000 in
theorem run_ref_Taken (b : List (List UInt8)) (l : List Vm.Signed) (v : Int) (ks : List Int) (t n : Int) (rs : List Vm.Root) (rg : List (List Int)) (ov ou : Int) (ts : List Vm.Target) (sg : List Int) (im : List (List Int)) (now units : Int) (K : KK) (hK : K (.tup [.agg [dI (takeT b l ⟨⟨v, ks, t⟩, n⟩ ⟨rs, rg, ⟨ov, ou, ts⟩, sg, im⟩ now units).1.r.version, dL (takeT b l ⟨⟨v, ks, t⟩, n⟩ ⟨rs, rg, ⟨ov, ou, ts⟩, sg, im⟩ now units).1.r.keys, dI (takeT b l ⟨⟨v, ks, t⟩, n⟩ ⟨rs, rg, ⟨ov, ou, ts⟩, sg, im⟩ now units).1.r.thr, dI (takeT b l ⟨⟨v, ks, t⟩, n⟩ ⟨rs, rg, ⟨ov, ou, ts⟩, sg, im⟩ now units).1.version], .one (dI (takeT b l ⟨⟨v, ks, t⟩, n⟩ ⟨rs, rg, ⟨ov, ou, ts⟩, sg, im⟩ now units).2)]) []) : ∃ m, goD Γ_ref_Taken tab fn_ref_Taken 0 K m [.code (bodyOf fn_ref_Taken)] (initSt [.agg [.dat (.list .str) b], .one (.dat (.list .signed) l), .agg [dI v, dL ks, dI t, dI n], .agg [.dat (.list .root) rs, dR rg, dI ov, dI ou, .dat (.list .target) ts, dL sg, dR im], .one (dI now), .one (dI units)] []) := by
  refine ⟨ts.length + 1 + rs.length + 1 + 1, ?_⟩
  rw [ref_Taken_w, ref_Taken_vc _ _ _ _ _ _ _ _ _ _ _ _ _ _ _ _ _ _ rfl _ rfl]
  unfold takeT at hK
  simp only at hK
  refine ne_s (fun h => ?_) (fun h => lt_s (fun h2 => ?_) (fun h2 => ne_s (fun h3 => ?_) (fun h3 => ?_)))
  · rw [if_neg h] at hK; exact hK
  · rw [if_pos h, if_pos (.inl (by simp only [len] at h2; omega))] at hK; exact hK
  · rw [if_pos h, if_pos (.inr (by simp only [len] at h3; omega))] at hK; exact hK
  · rw [if_pos h, if_neg (by simp only [len] at h2 h3; omega)] at hK
    exact loop_ref_Taken b l rs rg ov ou ts sg im now units (by simp only [len] at h2; omega) (by simp only [len] at h3; omega) K 0 0 0 0 [] rs.length 0 v ks t n (by omega) hK
theorem sound_ref_Taken : SoundC Tryz.prog tab n_ref_Taken c_ref_Taken := soundC_of ok_ref_Taken hf_ref_Taken hB_ref_Taken (by
  intro vs bs p v bs' h hp
  unfold c_ref_Taken at h
  split at h
  · cases h
    exact ⟨by kernel_rfl, rfl, .inl (run_ref_Taken _ _ _ _ _ _ _ _ _ _ _ _ _ _ _ _ ⟨rfl, rfl⟩)⟩
  · cases h)

def c_ref_OwnGate : Contract := fun vs bs => match vs, bs with
  | [.agg [.dat (.list .int) ws, .dat .int fu, .dat .bool up, .dat .int tv, .dat (.list .int) tk, .dat .int tt, .dat .int tn, .dat (.list .bool) vo, .dat (.list .bool) di]], [] => some (some (len ws * 8 ≤ 140737488355328 ∧ len tk * 8 ≤ 140737488355328 ∧ len vo ≤ 140737488355328 ∧ len di ≤ 140737488355328), .agg [.dat (.list .int) ws, .dat .int fu, .dat .bool up, .dat .int tv, .own 0, .dat .int tt, .dat .int tn, .own 1, .own 2], [.arr .int tk, .arr .bool vo, .arr .bool di])
  | _, _ => none
def Γ_ref_OwnGate : Ctx := [(n_ref_OwnFlash_d, c_ref_OwnFlash_d)]
theorem ok_ref_OwnGate : Ok Tryz.prog tab Γ_ref_OwnGate := (ok_nil.consC hf_ref_OwnFlash_d hB_ref_OwnFlash_d sound_ref_OwnFlash_d)
theorem ref_OwnGate_vc (ws : List Int) (fu : Int) (up : Bool) (tv : Int) (tk : List Int) (tt : Int) (tn : Int) (vo : List Bool) (di : List Bool) (rec : RK) (K : KK) : segO Γ_ref_OwnGate tab fn_ref_OwnGate 0 K rec [.code (bodyOf fn_ref_OwnGate)] (initSt [.agg [dL ws, dI fu, dB up, dI tv, dL tk, dI tt, dI tn, dLb vo, dLb di]] []) = (
 (((len ws) * 8) ≤ 140737488355328) ∧
 ((((0 + (len tk)) * 8) ≤ 140737488355328) ∧
 ((((0 + (len vo)) * 1) ≤ 140737488355328) ∧
 ((((0 + (len di)) * 1) ≤ 140737488355328) ∧
 (K (.agg [dL ws, dI fu, dB up, dI tv, .own 0, dI tt, dI tn, .own 1, .own 2]) [.arr Ty.int (cat [] tk), .arr Ty.bool (cat [] vo), .arr Ty.bool (cat [] di)]))))) := by kernel_rfl
theorem ref_OwnGate_w (m : Nat) (K : KK) (st : St) : goO Γ_ref_OwnGate tab fn_ref_OwnGate 0 K (m + 1) [.code (bodyOf fn_ref_OwnGate)] st = segO Γ_ref_OwnGate tab fn_ref_OwnGate 0 K (goO Γ_ref_OwnGate tab fn_ref_OwnGate 0 K m) [.code (bodyOf fn_ref_OwnGate)] st := rfl

set_option maxHeartbeats 4000000 in
theorem run_ref_OwnGate (ws : List Int) (fu : Int) (up : Bool) (tv : Int) (tk : List Int) (tt tn : Int) (vo di : List Bool) (hp : len ws * 8 ≤ 140737488355328 ∧ len tk * 8 ≤ 140737488355328 ∧ len vo ≤ 140737488355328 ∧ len di ≤ 140737488355328) (K : KK) (hK : K (.agg [dL ws, dI fu, dB up, dI tv, .own 0, dI tt, dI tn, .own 1, .own 2]) [.arr .int tk, .arr .bool vo, .arr .bool di]) : ∃ m, goO Γ_ref_OwnGate tab fn_ref_OwnGate 0 K m [.code (bodyOf fn_ref_OwnGate)] (initSt [.agg [dL ws, dI fu, dB up, dI tv, dL tk, dI tt, dI tn, dLb vo, dLb di]] []) := by
  refine ⟨1, ?_⟩
  rw [ref_OwnGate_w, ref_OwnGate_vc _ _ _ _ _ _ _ _ _ _ _]
  exact ⟨hp.1, by omega, by omega, by omega, hK⟩
theorem sound_ref_OwnGate : SoundC Tryz.prog tab n_ref_OwnGate c_ref_OwnGate := soundC_of ok_ref_OwnGate hf_ref_OwnGate hB_ref_OwnGate (by
  intro vs bs p v bs' h hp
  unfold c_ref_OwnGate at h
  split at h
  · cases h
    exact ⟨by kernel_rfl, rfl, .inr (.inl (run_ref_OwnGate _ _ _ _ _ _ _ _ _ hp.1 _ ⟨rfl, rfl⟩))⟩
  · cases h)

def c_ref_checkRecord : Contract := fun vs bs => match vs, bs with
  | [.one (.dat (.list .int) l)], [] => some (some (Sm l), .one (.dat .int (checkRec l)), [])
  | _, _ => none
def Γ_ref_checkRecord : Ctx := [(n_ref_allWords, c_ref_allWords)]
theorem ok_ref_checkRecord : Ok Tryz.prog tab Γ_ref_checkRecord := (ok_nil.consC hf_ref_allWords hB_ref_allWords sound_ref_allWords)
theorem ref_checkRecord_vc (l : List Int) (rec : RK) (K : KK) v0 (hv0 : v0 = (okWords l)) : segD Γ_ref_checkRecord tab fn_ref_checkRecord 0 K rec [.code (bodyOf fn_ref_checkRecord)] (initSt [.one (dL l)] []) = (
 br (lti (((len l) : Nat) : Int) (1 : Int))
 (K (.one (dI (2 : Int))) [])
 (br (lti (4 : Int) (((len l) : Nat) : Int))
 (K (.one (dI (2 : Int))) [])
 (((List.length l) ≤ 140737488355328) ∧
 (br (!v0)
 (K (.one (dI (3 : Int))) [])
 (K (.one (dI (0 : Int))) []))))) := by subst_vars; kernel_rfl
theorem ref_checkRecord_w (m : Nat) (K : KK) (st : St) : goD Γ_ref_checkRecord tab fn_ref_checkRecord 0 K (m + 1) [.code (bodyOf fn_ref_checkRecord)] st = segD Γ_ref_checkRecord tab fn_ref_checkRecord 0 K (goD Γ_ref_checkRecord tab fn_ref_checkRecord 0 K m) [.code (bodyOf fn_ref_checkRecord)] st := rfl

set_option maxHeartbeats 4000000 in
theorem run_ref_checkRecord (l : List Int) (hp : Sm l) (K : KK) (hK : K (.one (dI (checkRec l))) []) : ∃ m, goD Γ_ref_checkRecord tab fn_ref_checkRecord 0 K m [.code (bodyOf fn_ref_checkRecord)] (initSt [.one (dL l)] []) := by
  refine ⟨1, ?_⟩
  rw [ref_checkRecord_w, ref_checkRecord_vc _ _ _ _ rfl]
  unfold checkRec at hK
  refine lt_s (fun h => ?_) (fun h => lt_s (fun h2 => ?_) (fun h2 => ⟨hp, nt_s (fun h3 => ?_) (fun h3 => ?_)⟩))
  · rw [if_neg (by simp only [len] at h; omega)] at hK; exact hK
  · rw [if_neg (by simp only [len] at h2; omega)] at hK; exact hK
  · rw [if_pos (by simp only [len] at h h2; omega), if_neg (by rw [h3]; simp)] at hK; exact hK
  · rw [if_pos (by simp only [len] at h h2; omega), if_pos h3] at hK; exact hK
theorem sound_ref_checkRecord : SoundC Tryz.prog tab n_ref_checkRecord c_ref_checkRecord := soundC_of ok_ref_checkRecord hf_ref_checkRecord hB_ref_checkRecord (by
  intro vs bs p v bs' h hp
  unfold c_ref_checkRecord at h
  split at h
  · cases h
    exact ⟨by kernel_rfl, rfl, .inl (run_ref_checkRecord _ hp.1 _ ⟨rfl, rfl⟩)⟩
  · cases h)

def c_ref_programs : Contract := fun vs bs => match vs, bs with
  | [.one (.dat .int at_), .one (.dat (.list .int) l)], [] => some (some (0 ≤ at_ ∧ at_ ≤ 1000 ∧ len l ≤ 1000), .one (.own 0), [.arr .change (burnCh at_ l)])
  | _, _ => none
def Γ_ref_programs : Ctx := []
theorem ok_ref_programs : Ok Tryz.prog tab Γ_ref_programs := ok_nil
noncomputable def ref_programs_L0 : List It := [.inLoop [10, 9, 8, 5, 4, 0] (Code.sub (bodyOf fn_ref_programs) [1, 1, 0, 1, 0, 0]), .inBlock 0, .code (Code.sub (bodyOf fn_ref_programs) [1, 1, 1])]
def ref_programs_S0 (x0 : Int) (x1 : Int) (x2 : (List Int)) (x3 : Int) (x4 : (List Change)) (x5 : (List Change)) : St := ⟨[(10, .one (dI x0)), (9, .one (dI x1)), (8, .one (dL x2)), (5, .one (.own 0)), (4, .one (.own 1)), (0, .one (dI x3))], [(0, .arr Ty.change x4), (1, .arr Ty.change x5)], 2⟩
theorem ref_programs_vc (at_ : Int) (l : List Int) (rec : RK) (K : KK) : segO Γ_ref_programs tab fn_ref_programs 0 K rec [.code (bodyOf fn_ref_programs)] (initSt [.one (dI at_), .one (dL l)] []) = (
 rec ref_programs_L0 (ref_programs_S0 (0 : Int) (((len l) : Nat) : Int) l at_ [] [])) := by kernel_rfl
theorem ref_programs_w (m : Nat) (K : KK) (st : St) : goO Γ_ref_programs tab fn_ref_programs 0 K (m + 1) [.code (bodyOf fn_ref_programs)] st = segO Γ_ref_programs tab fn_ref_programs 0 K (goO Γ_ref_programs tab fn_ref_programs 0 K m) [.code (bodyOf fn_ref_programs)] st := rfl
theorem ref_programs_vc0 (x0 : Int) (x1 : Int) (x2 : (List Int)) (x3 : Int) (x4 : (List Change)) (x5 : (List Change)) (rec : RK) (K : KK) : segO Γ_ref_programs tab fn_ref_programs 0 K rec (.code (Code.sub (bodyOf fn_ref_programs) [1, 1, 0, 1, 0, 0]) :: ref_programs_L0) (ref_programs_S0 x0 x1 x2 x3 x4 x5) = (
 br (lti x0 x1)
 ((((0 : Int) ≤ x0) ∧ (x0 < (((len x2) : Nat) : Int))) ∧
 (((((len x4) + (len ((⟨(w64 (x3 + x0)), (some (nth x2 (Int.toNat x0) (Ty.dflt Ty.int)))⟩ : Change) :: []))) * 16) ≤ 140737488355328) ∧
 (rec ref_programs_L0 (ref_programs_S0 (w64 (x0 + (1 : Int))) x1 x2 x3 (cat x4 ((⟨(w64 (x3 + x0)), (some (nth x2 (Int.toNat x0) (Ty.dflt Ty.int)))⟩ : Change) :: [])) x5))))
 (K (.one (.own 0)) [.arr Ty.change x4])) := by kernel_rfl
theorem ref_programs_w0 (m : Nat) (K : KK) (st : St) : goO Γ_ref_programs tab fn_ref_programs 0 K (m + 1) ref_programs_L0 st = segO Γ_ref_programs tab fn_ref_programs 0 K (goO Γ_ref_programs tab fn_ref_programs 0 K m) (.code (Code.sub (bodyOf fn_ref_programs) [1, 1, 0, 1, 0, 0]) :: ref_programs_L0) st := rfl

theorem loop_ref_programs (at_ : Int) (l : List Int) (h0 : 0 ≤ at_) (h1 : at_ ≤ 1000) (h2 : l.length ≤ 1000) (K : KK) (hK : K (.one (.own 0)) [.arr .change (burnCh at_ l)]) : ∀ (d k : Nat), k + d = l.length →
    goO Γ_ref_programs tab fn_ref_programs 0 K (d + 1) ref_programs_L0 (ref_programs_S0 (k : Int) (((len l) : Nat) : Int) l at_ (burnCh at_ (l.take k)) [])
  | 0, k, hk => by
    rw [ref_programs_w0, ref_programs_vc0 _ _ _ _ _ _ _ _]
    rw [List.take_of_length_le (by omega)]
    exact lt_f (by simp only [len]; omega) hK
  | d + 1, k, hk => by
    rw [ref_programs_w0, ref_programs_vc0 _ _ _ _ _ _ _ _]
    refine lt_t (by simp only [len]; omega) ⟨⟨by omega, by simp only [len]; omega⟩, ?_, ?_⟩
    · simp only [len, burnCh_len, List.length_cons, List.length_nil, List.length_take]; omega
    · rw [w64_id (n := at_ + (k : Int)) (by omega) (by omega), w64_succ (by omega), toNat_nat]
      have := loop_ref_programs at_ l h0 h1 h2 K hK d (k + 1) (by omega)
      rw [take_step (by omega) (Ty.dflt Ty.int), burnCh_append] at this
      rw [show ((l.take k).length : Int) = (k : Int) by simp; omega] at this
      exact this
set_option maxHeartbeats 4000000 in
theorem run_ref_programs (at_ : Int) (l : List Int) (hp : 0 ≤ at_ ∧ at_ ≤ 1000 ∧ len l ≤ 1000) (K : KK) (hK : K (.one (.own 0)) [.arr .change (burnCh at_ l)]) : ∃ m, goO Γ_ref_programs tab fn_ref_programs 0 K m [.code (bodyOf fn_ref_programs)] (initSt [.one (dI at_), .one (dL l)] []) := by
  refine ⟨l.length + 2, ?_⟩
  rw [ref_programs_w, ref_programs_vc _ _ _ _]
  exact loop_ref_programs at_ l hp.1 hp.2.1 hp.2.2 K hK l.length 0 (by omega)
theorem sound_ref_programs : SoundC Tryz.prog tab n_ref_programs c_ref_programs := soundC_of ok_ref_programs hf_ref_programs hB_ref_programs (by
  intro vs bs p v bs' h hp
  unfold c_ref_programs at h
  split at h
  · cases h
    exact ⟨by kernel_rfl, rfl, .inr (.inl (run_ref_programs _ _ hp.1 _ ⟨rfl, rfl⟩))⟩
  · cases h)

def c_ref_erases : Contract := fun vs bs => match vs, bs with
  | [.one (.dat .int sector)], [] => some (some (0 ≤ sector ∧ sector ≤ 10), .one (.own 0), [.arr .change (wipeCh sector)])
  | _, _ => none
def Γ_ref_erases : Ctx := []
theorem ok_ref_erases : Ok Tryz.prog tab Γ_ref_erases := ok_nil
noncomputable def ref_erases_L0 : List It := [.inLoop [5, 3, 2, 0] (Code.sub (bodyOf fn_ref_erases) [1, 1, 0, 1, 0, 0]), .inBlock 0, .code (Code.sub (bodyOf fn_ref_erases) [1, 1, 1])]
def ref_erases_S0 (x0 : Int) (x1 : Int) (x2 : (List Change)) (x3 : (List Change)) : St := ⟨[(5, .one (dI x0)), (3, .one (.own 0)), (2, .one (.own 1)), (0, .one (dI x1))], [(0, .arr Ty.change x2), (1, .arr Ty.change x3)], 2⟩
theorem ref_erases_vc (sector : Int) (rec : RK) (K : KK) : segO Γ_ref_erases tab fn_ref_erases 0 K rec [.code (bodyOf fn_ref_erases)] (initSt [.one (dI sector)] []) = (
 rec ref_erases_L0 (ref_erases_S0 (0 : Int) sector [] [])) := by kernel_rfl
theorem ref_erases_w (m : Nat) (K : KK) (st : St) : goO Γ_ref_erases tab fn_ref_erases 0 K (m + 1) [.code (bodyOf fn_ref_erases)] st = segO Γ_ref_erases tab fn_ref_erases 0 K (goO Γ_ref_erases tab fn_ref_erases 0 K m) [.code (bodyOf fn_ref_erases)] st := rfl
theorem ref_erases_vc0 (x0 : Int) (x1 : Int) (x2 : (List Change)) (x3 : (List Change)) (rec : RK) (K : KK) : segO Γ_ref_erases tab fn_ref_erases 0 K rec (.code (Code.sub (bodyOf fn_ref_erases) [1, 1, 0, 1, 0, 0]) :: ref_erases_L0) (ref_erases_S0 x0 x1 x2 x3) = (
 br (lti x0 (32 : Int))
 (((((len x2) + (len ((⟨(w64 ((w64 ((32 : Int) * x1)) + x0)), none⟩ : Change) :: []))) * 16) ≤ 140737488355328) ∧
 (rec ref_erases_L0 (ref_erases_S0 (w64 (x0 + (1 : Int))) x1 (cat x2 ((⟨(w64 ((w64 ((32 : Int) * x1)) + x0)), none⟩ : Change) :: [])) x3)))
 (K (.one (.own 0)) [.arr Ty.change x2])) := by kernel_rfl
theorem ref_erases_w0 (m : Nat) (K : KK) (st : St) : goO Γ_ref_erases tab fn_ref_erases 0 K (m + 1) ref_erases_L0 st = segO Γ_ref_erases tab fn_ref_erases 0 K (goO Γ_ref_erases tab fn_ref_erases 0 K m) (.code (Code.sub (bodyOf fn_ref_erases) [1, 1, 0, 1, 0, 0]) :: ref_erases_L0) st := rfl

theorem wipe_snoc (a : Int) : ∀ n : Nat, wipeFrom a (n + 1) = wipeFrom a n ++ [⟨a + n, none⟩] := by
  intro n
  induction n generalizing a with
  | zero => simp [wipeFrom]
  | succ n ih =>
    rw [wipeFrom, ih (a + 1)]
    simp only [wipeFrom, List.cons_append]
    rw [show a + 1 + (n : Int) = a + ((n + 1 : Nat) : Int) by omega]
theorem loop_ref_erases (sector : Int) (h0 : 0 ≤ sector) (h1 : sector ≤ 10) (K : KK) (hK : K (.one (.own 0)) [.arr .change (wipeCh sector)]) : ∀ (d k : Nat), k + d = 32 →
    goO Γ_ref_erases tab fn_ref_erases 0 K (d + 1) ref_erases_L0 (ref_erases_S0 (k : Int) sector (wipeFrom (32 * sector) k) [])
  | 0, k, hk => by
    rw [ref_erases_w0, ref_erases_vc0 _ _ _ _ _ _]
    have : k = 32 := by omega
    subst this
    exact lt_f (by omega) hK
  | d + 1, k, hk => by
    rw [ref_erases_w0, ref_erases_vc0 _ _ _ _ _ _]
    refine lt_t (by omega) ⟨?_, ?_⟩
    · simp only [len, wipeFrom_len, List.length_cons, List.length_nil]; omega
    · rw [w64_id (n := 32 * sector) (by omega) (by omega), w64_id (n := 32 * sector + (k : Int)) (by omega) (by omega), w64_succ (by omega)]
      have := loop_ref_erases sector h0 h1 K hK d (k + 1) (by omega)
      rw [wipe_snoc] at this
      exact this
set_option maxHeartbeats 4000000 in
theorem run_ref_erases (sector : Int) (hp : 0 ≤ sector ∧ sector ≤ 10) (K : KK) (hK : K (.one (.own 0)) [.arr .change (wipeCh sector)]) : ∃ m, goO Γ_ref_erases tab fn_ref_erases 0 K m [.code (bodyOf fn_ref_erases)] (initSt [.one (dI sector)] []) := by
  refine ⟨34, ?_⟩
  rw [ref_erases_w, ref_erases_vc _ _ _]
  exact loop_ref_erases sector hp.1 hp.2 K hK 32 0 rfl
theorem sound_ref_erases : SoundC Tryz.prog tab n_ref_erases c_ref_erases := soundC_of ok_ref_erases hf_ref_erases hB_ref_erases (by
  intro vs bs p v bs' h hp
  unfold c_ref_erases at h
  split at h
  · cases h
    exact ⟨by kernel_rfl, rfl, .inr (.inl (run_ref_erases _ hp.1 _ ⟨rfl, rfl⟩))⟩
  · cases h)

def c_slices_Concat_Lref_change : Contract := fun vs bs => match vs, bs with
  | [.one (.dat (.list (.list .change)) xs)], [] => some (some (xs.length ≤ 10 ∧ (joinCh xs).length ≤ 1000), .one (.own 0), [.arr .change (joinCh xs)])
  | _, _ => none
def Γ_slices_Concat_Lref_change : Ctx := [(n_slices_Grow_Lref_change, c_slices_Grow_Lref_change)]
theorem ok_slices_Concat_Lref_change : Ok Tryz.prog tab Γ_slices_Concat_Lref_change := (ok_nil.consC hf_slices_Grow_Lref_change hB_slices_Grow_Lref_change sound_slices_Grow_Lref_change)
noncomputable def slices_Concat_Lref_change_L0 : List It := [.inLoop [11, 10, 9, 3, 2, 0] (Code.sub (bodyOf fn_slices_Concat_Lref_change) [1, 1, 0, 1, 0, 0]), .inBlock 0, .code (Code.sub (bodyOf fn_slices_Concat_Lref_change) [1, 1, 1])]
def slices_Concat_Lref_change_S0 (x0 : Int) (x1 : Int) (x2 : (List (List Change))) (x3 : Int) (x4 : (List (List Change))) (x5 : (List Change)) : St := ⟨[(11, .one (dI x0)), (10, .one (dI x1)), (9, .one (.dat (Ty.list (Ty.list Ty.change)) x2)), (3, .one (dI x3)), (2, .one (.own 0)), (0, .one (.dat (Ty.list (Ty.list Ty.change)) x4))], [(0, .arr Ty.change x5)], 1⟩
noncomputable def slices_Concat_Lref_change_L1 : List It := [.inLoop [27, 26, 25, 6, 2] (Code.sub (bodyOf fn_slices_Concat_Lref_change) [1, 1, 1, 1, 0, 1, 0, 0]), .inBlock 2, .code (Code.sub (bodyOf fn_slices_Concat_Lref_change) [1, 1, 1, 1, 1])]
def slices_Concat_Lref_change_S1 (x0 : Int) (x1 : Int) (x2 : (List (List Change))) (x3 : (List Change)) (x4 : (List Change)) : St := ⟨[(27, .one (dI x0)), (26, .one (dI x1)), (25, .one (.dat (Ty.list (Ty.list Ty.change)) x2)), (6, .one (.own 0)), (2, .one (.own 1))], [(0, .arr Ty.change x3), (1, .arr Ty.change x4)], 2⟩
theorem slices_Concat_Lref_change_vc (xs : List (List Change)) (rec : RK) (K : KK) : segO Γ_slices_Concat_Lref_change tab fn_slices_Concat_Lref_change 0 K rec [.code (bodyOf fn_slices_Concat_Lref_change)] (initSt [.one (.dat (Ty.list (Ty.list Ty.change)) xs)] []) = (
 rec slices_Concat_Lref_change_L0 (slices_Concat_Lref_change_S0 (0 : Int) (((len xs) : Nat) : Int) xs (0 : Int) xs [])) := by kernel_rfl
theorem slices_Concat_Lref_change_w (m : Nat) (K : KK) (st : St) : goO Γ_slices_Concat_Lref_change tab fn_slices_Concat_Lref_change 0 K (m + 1) [.code (bodyOf fn_slices_Concat_Lref_change)] st = segO Γ_slices_Concat_Lref_change tab fn_slices_Concat_Lref_change 0 K (goO Γ_slices_Concat_Lref_change tab fn_slices_Concat_Lref_change 0 K m) [.code (bodyOf fn_slices_Concat_Lref_change)] st := rfl
theorem slices_Concat_Lref_change_vc0 (x0 : Int) (x1 : Int) (x2 : (List (List Change))) (x3 : Int) (x4 : (List (List Change))) (x5 : (List Change)) (rec : RK) (K : KK) : segO Γ_slices_Concat_Lref_change tab fn_slices_Concat_Lref_change 0 K rec (.code (Code.sub (bodyOf fn_slices_Concat_Lref_change) [1, 1, 0, 1, 0, 0]) :: slices_Concat_Lref_change_L0) (slices_Concat_Lref_change_S0 x0 x1 x2 x3 x4 x5) = (
 br (lti x0 x1)
 ((((0 : Int) ≤ x0) ∧ (x0 < (((len x2) : Nat) : Int))) ∧
 (br (lti (w64 (x3 + (((len (nth x2 (Int.toNat x0) (Ty.dflt (Ty.list Ty.change)))) : Nat) : Int))) (0 : Int))
 (False)
 (rec slices_Concat_Lref_change_L0 (slices_Concat_Lref_change_S0 (w64 (x0 + (1 : Int))) x1 x2 (w64 (x3 + (((len (nth x2 (Int.toNat x0) (Ty.dflt (Ty.list Ty.change)))) : Nat) : Int))) x4 x5))))
 ((((0 : Int) ≤ x3) ∧ (x3 ≤ (100000 : Int))) ∧
 (rec slices_Concat_Lref_change_L1 (slices_Concat_Lref_change_S1 (0 : Int) (((len x4) : Nat) : Int) x4 [] x5)))) := by kernel_rfl
theorem slices_Concat_Lref_change_w0 (m : Nat) (K : KK) (st : St) : goO Γ_slices_Concat_Lref_change tab fn_slices_Concat_Lref_change 0 K (m + 1) slices_Concat_Lref_change_L0 st = segO Γ_slices_Concat_Lref_change tab fn_slices_Concat_Lref_change 0 K (goO Γ_slices_Concat_Lref_change tab fn_slices_Concat_Lref_change 0 K m) (.code (Code.sub (bodyOf fn_slices_Concat_Lref_change) [1, 1, 0, 1, 0, 0]) :: slices_Concat_Lref_change_L0) st := rfl
theorem slices_Concat_Lref_change_vc1 (x0 : Int) (x1 : Int) (x2 : (List (List Change))) (x3 : (List Change)) (x4 : (List Change)) (rec : RK) (K : KK) : segO Γ_slices_Concat_Lref_change tab fn_slices_Concat_Lref_change 0 K rec (.code (Code.sub (bodyOf fn_slices_Concat_Lref_change) [1, 1, 1, 1, 0, 1, 0, 0]) :: slices_Concat_Lref_change_L1) (slices_Concat_Lref_change_S1 x0 x1 x2 x3 x4) = (
 br (lti x0 x1)
 ((((0 : Int) ≤ x0) ∧ (x0 < (((len x2) : Nat) : Int))) ∧
 (((((len x3) + (len (nth x2 (Int.toNat x0) (Ty.dflt (Ty.list Ty.change))))) * 16) ≤ 140737488355328) ∧
 (rec slices_Concat_Lref_change_L1 (slices_Concat_Lref_change_S1 (w64 (x0 + (1 : Int))) x1 x2 (cat x3 (nth x2 (Int.toNat x0) (Ty.dflt (Ty.list Ty.change)))) x4))))
 (K (.one (.own 0)) [.arr Ty.change x3])) := by kernel_rfl
theorem slices_Concat_Lref_change_w1 (m : Nat) (K : KK) (st : St) : goO Γ_slices_Concat_Lref_change tab fn_slices_Concat_Lref_change 0 K (m + 1) slices_Concat_Lref_change_L1 st = segO Γ_slices_Concat_Lref_change tab fn_slices_Concat_Lref_change 0 K (goO Γ_slices_Concat_Lref_change tab fn_slices_Concat_Lref_change 0 K m) (.code (Code.sub (bodyOf fn_slices_Concat_Lref_change) [1, 1, 1, 1, 0, 1, 0, 0]) :: slices_Concat_Lref_change_L1) st := rfl

theorem joinCh_take {xs : List (List Change)} {k : Nat} (h : k < xs.length) : joinCh (xs.take (k + 1)) = joinCh (xs.take k) ++ nth xs k [] := by
  rw [take_step h []]
  have : ∀ (a : List (List Change)) (x : List Change), joinCh (a ++ [x]) = joinCh a ++ x := fun a x => by
    induction a with
    | nil => simp [joinCh]
    | cons y a ih => simp [joinCh, ih]
  exact this _ _
theorem joinCh_le (xs : List (List Change)) (k : Nat) : (joinCh (xs.take k)).length ≤ (joinCh xs).length := by
  induction xs generalizing k with
  | nil => simp
  | cons x xs ih =>
    cases k with
    | zero => simp [joinCh]
    | succ k => simp only [List.take_succ_cons, joinCh, List.length_append]; have := ih k; omega
theorem loop1_Concat (xs : List (List Change)) (h1 : xs.length ≤ 10) (h2 : (joinCh xs).length ≤ 1000) (K : KK) (hK : K (.one (.own 0)) [.arr .change (joinCh xs)]) (y : List Change) : ∀ (d k : Nat), k + d = xs.length →
    goO Γ_slices_Concat_Lref_change tab fn_slices_Concat_Lref_change 0 K (d + 1) slices_Concat_Lref_change_L1 (slices_Concat_Lref_change_S1 (k : Int) (((len xs) : Nat) : Int) xs (joinCh (xs.take k)) y)
  | 0, k, hk => by
    rw [slices_Concat_Lref_change_w1, slices_Concat_Lref_change_vc1 _ _ _ _ _ _ _, List.take_of_length_le (by omega)]
    exact lt_f (by simp only [len]; omega) hK
  | d + 1, k, hk => by
    rw [slices_Concat_Lref_change_w1, slices_Concat_Lref_change_vc1 _ _ _ _ _ _ _, toNat_nat]
    have hj := joinCh_take (xs := xs) (k := k) (by omega)
    have hl := joinCh_le xs (k + 1)
    have e : nth xs k (Ty.dflt (Ty.list Ty.change)) = nth xs k [] := rfl
    rw [e]
    rw [hj, List.length_append] at hl
    refine lt_t (by simp only [len]; omega) ⟨⟨by omega, by simp only [len]; omega⟩, by simp only [len]; omega, ?_⟩
    rw [w64_succ (by omega), show cat (joinCh (xs.take k)) (nth xs k []) = joinCh (xs.take (k + 1)) from hj.symm]
    exact loop1_Concat xs h1 h2 K hK y d (k + 1) (by omega)
theorem loop0_Concat (xs : List (List Change)) (h1 : xs.length ≤ 10) (h2 : (joinCh xs).length ≤ 1000) (K : KK) (hK : K (.one (.own 0)) [.arr .change (joinCh xs)]) : ∀ (d k : Nat), k + d = xs.length →
    goO Γ_slices_Concat_Lref_change tab fn_slices_Concat_Lref_change 0 K (d + 1 + (xs.length + 1)) slices_Concat_Lref_change_L0 (slices_Concat_Lref_change_S0 (k : Int) (((len xs) : Nat) : Int) xs (((joinCh (xs.take k)).length : Nat) : Int) xs [])
  | 0, k, hk => by
    rw [show 0 + 1 + (xs.length + 1) = (xs.length + 1) + 1 by omega, slices_Concat_Lref_change_w0, slices_Concat_Lref_change_vc0 _ _ _ _ _ _ _ _, List.take_of_length_le (by omega)]
    exact lt_f (by simp only [len]; omega) ⟨⟨by omega, by omega⟩, loop1_Concat xs h1 h2 K hK [] xs.length 0 (by omega)⟩
  | d + 1, k, hk => by
    rw [show d + 1 + 1 + (xs.length + 1) = (d + 1 + (xs.length + 1)) + 1 by omega, slices_Concat_Lref_change_w0, slices_Concat_Lref_change_vc0 _ _ _ _ _ _ _ _, toNat_nat]
    have hj := joinCh_take (xs := xs) (k := k) (by omega)
    have hl := joinCh_le xs (k + 1)
    have e : nth xs k (Ty.dflt (Ty.list Ty.change)) = nth xs k [] := rfl
    rw [e]
    have hj2 := congrArg List.length hj
    rw [List.length_append] at hj2
    rw [w64_succ (by omega), w64_id (n := (((joinCh (xs.take k)).length : Nat) : Int) + _) (by simp only [len]; omega) (by simp only [len]; omega)]
    refine lt_t (by simp only [len]; omega) ⟨⟨by omega, by simp only [len]; omega⟩, lt_f (by simp only [len]; omega) ?_⟩
    rw [show (((joinCh (xs.take k)).length : Nat) : Int) + (((len (nth xs k [])) : Nat) : Int) = (((joinCh (xs.take (k + 1))).length : Nat) : Int) by simp only [len]; omega]
    exact loop0_Concat xs h1 h2 K hK d (k + 1) (by omega)
set_option maxHeartbeats 4000000 in
theorem run_slices_Concat_Lref_change (xs : List (List Change)) (hp : xs.length ≤ 10 ∧ (joinCh xs).length ≤ 1000) (K : KK) (hK : K (.one (.own 0)) [.arr .change (joinCh xs)]) : ∃ m, goO Γ_slices_Concat_Lref_change tab fn_slices_Concat_Lref_change 0 K m [.code (bodyOf fn_slices_Concat_Lref_change)] (initSt [.one (.dat (.list (.list .change)) xs)] []) := by
  refine ⟨xs.length + 1 + (xs.length + 1) + 1, ?_⟩
  rw [slices_Concat_Lref_change_w, slices_Concat_Lref_change_vc _ _ _]
  exact loop0_Concat xs hp.1 hp.2 K hK xs.length 0 (by omega)
theorem sound_slices_Concat_Lref_change : SoundC Tryz.prog tab n_slices_Concat_Lref_change c_slices_Concat_Lref_change := soundC_of ok_slices_Concat_Lref_change hf_slices_Concat_Lref_change hB_slices_Concat_Lref_change (by
  intro vs bs p v bs' h hp
  unfold c_slices_Concat_Lref_change at h
  split at h
  · cases h
    exact ⟨by kernel_rfl, rfl, .inr (.inl (run_slices_Concat_Lref_change _ hp.1 _ ⟨rfl, rfl⟩))⟩
  · cases h)

def c_ref_OwnFlash : Contract := fun vs bs => match vs, bs with
  | [.agg [.dat (.list .int) ws, .dat .int fu]], [] => some (some (len ws * 8 ≤ 140737488355328), .agg [.own 0, .dat .int fu], [.arr .int ws])
  | _, _ => none
def Γ_ref_OwnFlash : Ctx := []
theorem ok_ref_OwnFlash : Ok Tryz.prog tab Γ_ref_OwnFlash := ok_nil
theorem ref_OwnFlash_vc (ws : List Int) (fu : Int) (rec : RK) (K : KK) : segO Γ_ref_OwnFlash tab fn_ref_OwnFlash 0 K rec [.code (bodyOf fn_ref_OwnFlash)] (initSt [.agg [dL ws, dI fu]] []) = (
 (((0 + (len ws)) * 8) ≤ 140737488355328) ∧
 (K (.agg [.own 0, dI fu]) [.arr Ty.int (cat [] ws)])) := by kernel_rfl
theorem ref_OwnFlash_w (m : Nat) (K : KK) (st : St) : goO Γ_ref_OwnFlash tab fn_ref_OwnFlash 0 K (m + 1) [.code (bodyOf fn_ref_OwnFlash)] st = segO Γ_ref_OwnFlash tab fn_ref_OwnFlash 0 K (goO Γ_ref_OwnFlash tab fn_ref_OwnFlash 0 K m) [.code (bodyOf fn_ref_OwnFlash)] st := rfl

set_option maxHeartbeats 4000000 in
theorem run_ref_OwnFlash (ws : List Int) (fu : Int) (hp : len ws * 8 ≤ 140737488355328) (K : KK) (hK : K (.agg [.own 0, dI fu]) [.arr .int ws]) : ∃ m, goO Γ_ref_OwnFlash tab fn_ref_OwnFlash 0 K m [.code (bodyOf fn_ref_OwnFlash)] (initSt [.agg [dL ws, dI fu]] []) := by
  refine ⟨1, ?_⟩
  rw [ref_OwnFlash_w, ref_OwnFlash_vc _ _ _ _]
  exact ⟨by omega, hK⟩
theorem sound_ref_OwnFlash : SoundC Tryz.prog tab n_ref_OwnFlash c_ref_OwnFlash := soundC_of ok_ref_OwnFlash hf_ref_OwnFlash hB_ref_OwnFlash (by
  intro vs bs p v bs' h hp
  unfold c_ref_OwnFlash at h
  split at h
  · cases h
    exact ⟨by kernel_rfl, rfl, .inr (.inl (run_ref_OwnFlash _ _ hp.1 _ ⟨rfl, rfl⟩))⟩
  · cases h)

def c_ref_Changed : Contract := fun vs bs => match vs, bs with
  | [.agg [.dat (.list .int) ws, .dat .int fu], .one (.dat (.list .change) cs)], [] => some (some (len ws ≤ 192 ∧ -1 ≤ fu ∧ fu ≤ 100000 ∧ len cs ≤ 1000 ∧ inPlaces ws.length cs = true), .tup [.agg [.dat (.list .int) (power (doCh ⟨ws, fu⟩ cs)).1.words, .dat .int (power (doCh ⟨ws, fu⟩ cs)).1.fuel], .one (.dat .int (power (doCh ⟨ws, fu⟩ cs)).2)], [])
  | _, _ => none
def Γ_ref_Changed : Ctx := [(n_ref_OwnFlash, c_ref_OwnFlash)]
theorem ok_ref_Changed : Ok Tryz.prog tab Γ_ref_Changed := (ok_nil.consC hf_ref_OwnFlash hB_ref_OwnFlash sound_ref_OwnFlash)
noncomputable def ref_Changed_L0 : List It := [.inLoop [31, 30, 29, 6, 5, 4, 2] (Code.sub (bodyOf fn_ref_Changed) [1, 1, 1, 1, 0, 1, 0, 0]), .inBlock 0, .code (Code.sub (bodyOf fn_ref_Changed) [1, 1, 1, 1, 1])]
def ref_Changed_S0 (x0 : Int) (x1 : Int) (x2 : (List Change)) (x3 : Int) (x4 : Int) (x5 : Int) (x6 : Int) (x7 : (List Int)) (x8 : (List Int)) : St := ⟨[(31, .one (dI x0)), (30, .one (dI x1)), (29, .one (.dat (Ty.list Ty.change) x2)), (6, .one (dI x3)), (5, .one (dI x4)), (4, .one (.ptr 0 0)), (2, .one (.ptr 1 0))], [(0, .box [.own 2, dI x5]), (1, .box [.own 3, dI x6]), (2, .arr Ty.int x7), (3, .arr Ty.int x8)], 4⟩
theorem ref_Changed_vc (ws : List Int) (fu : Int) (cs : List Change) (rec : RK) (K : KK) : segD Γ_ref_Changed tab fn_ref_Changed 0 K rec [.code (bodyOf fn_ref_Changed)] (initSt [.agg [dL ws, dI fu], .one (.dat (Ty.list Ty.change) cs)] []) = (
 (((len ws) * 8) ≤ 140737488355328) ∧
 (br (lei (0 : Int) fu)
 (br (lti fu (((len cs) : Nat) : Int))
 ((((0 : Int) ≤ (0 : Int)) ∧ (((0 : Int) ≤ fu) ∧ (fu ≤ (((len cs) : Nat) : Int)))) ∧
 (rec ref_Changed_L0 (ref_Changed_S0 (0 : Int) (((len (slc cs (Int.toNat (0 : Int)) (Int.toNat fu))) : Nat) : Int) (slc cs (Int.toNat (0 : Int)) (Int.toNat fu)) (7 : Int) (0 : Int) (0 : Int) (w64 (fu - (((len (slc cs (Int.toNat (0 : Int)) (Int.toNat fu))) : Nat) : Int))) [] ws)))
 (rec ref_Changed_L0 (ref_Changed_S0 (0 : Int) (((len cs) : Nat) : Int) cs (0 : Int) (0 : Int) (0 : Int) (w64 (fu - (((len cs) : Nat) : Int))) [] ws)))
 (rec ref_Changed_L0 (ref_Changed_S0 (0 : Int) (((len cs) : Nat) : Int) cs (0 : Int) (0 : Int) (0 : Int) fu [] ws)))) := by kernel_rfl
theorem ref_Changed_w (m : Nat) (K : KK) (st : St) : goD Γ_ref_Changed tab fn_ref_Changed 0 K (m + 1) [.code (bodyOf fn_ref_Changed)] st = segD Γ_ref_Changed tab fn_ref_Changed 0 K (goD Γ_ref_Changed tab fn_ref_Changed 0 K m) [.code (bodyOf fn_ref_Changed)] st := rfl
theorem ref_Changed_vc0 (x0 : Int) (x1 : Int) (x2 : (List Change)) (x3 : Int) (x4 : Int) (x5 : Int) (x6 : Int) (x7 : (List Int)) (x8 : (List Int)) (rec : RK) (K : KK) : segD Γ_ref_Changed tab fn_ref_Changed 0 K rec (.code (Code.sub (bodyOf fn_ref_Changed) [1, 1, 1, 1, 0, 1, 0, 0]) :: ref_Changed_L0) (ref_Changed_S0 x0 x1 x2 x3 x4 x5 x6 x7 x8) = (
 br (lti x0 x1)
 ((((0 : Int) ≤ x0) ∧ (x0 < (((len x2) : Nat) : Int))) ∧
 ((((0 : Int) ≤ ((nth x2 (Int.toNat x0) (Ty.dflt Ty.change))).at_) ∧ (((nth x2 (Int.toNat x0) (Ty.dflt Ty.change))).at_ < (((len x8) : Nat) : Int))) ∧
 (((Int.toNat ((nth x2 (Int.toNat x0) (Ty.dflt Ty.change))).at_) < (len x8)) ∧
 ((((0 : Int) ≤ ((nth x2 (Int.toNat x0) (Ty.dflt Ty.change))).at_) ∧ (((nth x2 (Int.toNat x0) (Ty.dflt Ty.change))).at_ < (((len x8) : Nat) : Int))) ∧
 (((Int.toNat ((nth x2 (Int.toNat x0) (Ty.dflt Ty.change))).at_) < (len x8)) ∧
 (rec ref_Changed_L0 (ref_Changed_S0 (w64 (x0 + (1 : Int))) x1 x2 x3 x4 x5 x6 x7 (setAt x8 (Int.toNat ((nth x2 (Int.toNat x0) (Ty.dflt Ty.change))).at_) (fnwApp ((nth x2 (Int.toNat x0) (Ty.dflt Ty.change))).word (nth x8 (Int.toNat ((nth x2 (Int.toNat x0) (Ty.dflt Ty.change))).at_) (Ty.dflt Ty.int)))))))))))
 (K (.tup [.agg [dL x8, dI x6], .one (dI x3)]) [])) := by kernel_rfl
theorem ref_Changed_w0 (m : Nat) (K : KK) (st : St) : goD Γ_ref_Changed tab fn_ref_Changed 0 K (m + 1) ref_Changed_L0 st = segD Γ_ref_Changed tab fn_ref_Changed 0 K (goD Γ_ref_Changed tab fn_ref_Changed 0 K m) (.code (Code.sub (bodyOf fn_ref_Changed) [1, 1, 1, 1, 0, 1, 0, 0]) :: ref_Changed_L0) st := rfl

set_option maxHeartbeats 4000000 in
theorem run_ref_Changed (ws : List Int) (fu : Int) (cs : List Change) (hp : len ws ≤ 192 ∧ -1 ≤ fu ∧ fu ≤ 100000 ∧ len cs ≤ 1000 ∧ inPlaces ws.length cs = true) (K : KK) (hK : K (.tup [.agg [dL (power (doCh ⟨ws, fu⟩ cs)).1.words, dI (power (doCh ⟨ws, fu⟩ cs)).1.fuel], .one (dI (power (doCh ⟨ws, fu⟩ cs)).2)]) []) : ∃ m, goD Γ_ref_Changed tab fn_ref_Changed 0 K m [.code (bodyOf fn_ref_Changed)] (initSt [.agg [dL ws, dI fu], .one (.dat (.list .change) cs)] []) := by
  obtain ⟨h1, h2, h3, h4, h5⟩ := hp
  refine ⟨cs.length + 2, ?_⟩
  rw [ref_Changed_w, ref_Changed_vc _ _ _ _ _]
  simp only [len] at h1 h4 ⊢
  have sub : ∀ k, inPlaces ws.length (cs.take k) = true := fun k => List.all_eq_true.2 fun c hc => List.all_eq_true.1 h5 c (List.mem_of_mem_take hc)
  have more : ∀ (cs' : List Change) (e f : Int), cs'.length ≤ cs.length → inPlaces ws.length cs' = true → K (.tup [.agg [dL (applyCh ws cs'), dI f], .one (dI e)]) [] →
      goD Γ_ref_Changed tab fn_ref_Changed 0 K (cs.length + 1) ref_Changed_L0 (ref_Changed_S0 0 (((List.length cs') : Nat) : Int) cs' e 0 0 f [] ws) := fun cs' e f hl hi hk => by
    have key : ∀ (d k : Nat) (ws : List Int), k + d ≥ cs'.length → inPlaces ws.length cs' = true → K (.tup [.agg [dL (applyCh ws (cs'.drop k)), dI f], .one (dI e)]) [] → k ≤ cs'.length →
        goD Γ_ref_Changed tab fn_ref_Changed 0 K (d + 1) ref_Changed_L0 (ref_Changed_S0 (k : Int) (((List.length cs') : Nat) : Int) cs' e 0 0 f [] ws) := by
      intro d
      induction d with
      | zero =>
        intro k ws hk hi hK hle
        rw [ref_Changed_w0, ref_Changed_vc0 _ _ _ _ _ _ _ _ _ _ _]
        rw [List.drop_of_length_le (by omega)] at hK
        exact lt_f (by omega) hK
      | succ d ih =>
        intro k ws hk hi hK hle
        by_cases c : k = cs'.length
        · subst c
          rw [ref_Changed_w0, ref_Changed_vc0 _ _ _ _ _ _ _ _ _ _ _]
          rw [List.drop_of_length_le (Nat.le_refl _)] at hK
          exact lt_f (by omega) hK
        · rw [ref_Changed_w0, ref_Changed_vc0 _ _ _ _ _ _ _ _ _ _ _]
          rw [toNat_nat]
          have hm : nth cs' k (Ty.dflt Ty.change) ∈ cs' := by
            have : k < cs'.length := by omega
            simp [nth, List.getD_eq_getElem?_getD, this]
          have hpl := List.all_eq_true.1 hi _ hm
          simp only [Bool.and_eq_true, decide_eq_true_eq] at hpl
          refine lt_t (by omega) ⟨⟨by omega, by simp only [len]; omega⟩, ⟨hpl.1, hpl.2⟩, by simp only [len]; omega, ⟨hpl.1, hpl.2⟩, by simp only [len]; omega, ?_⟩
          rw [w64_succ (by omega)]
          refine ih (k + 1) _ (by omega) (by simpa [setAt] using hi) ?_ (by omega)
          rw [drop_step (by omega) (Ty.dflt Ty.change), applyCh_cons] at hK
          exact hK
    exact key cs.length 0 ws (by omega) hi hk (by omega)
  unfold power doCh at hK
  refine ⟨by omega, br_split (fun h => ?_) (fun h => ?_)⟩
  · rw [lei_true] at h
    simp only [if_neg (show ¬ fu < 0 by omega)] at hK
    refine lt_s (fun h6 => ⟨⟨by omega, h, by omega⟩, ?_⟩) (fun h6 => ?_)
    · rw [if_neg (by omega)] at hK
      have es : slc cs (Int.toNat 0) (Int.toNat fu) = cs.take fu.toNat := slc_take _ _
      have el : (cs.take fu.toNat).length = fu.toNat := by simp; omega
      rw [es, el, w64_id (by omega) (by omega), show fu - ((fu.toNat : Nat) : Int) = 0 by omega]
      have := more (cs.take fu.toNat) 7 0 (by simp; omega) (sub _) hK
      rw [el] at this
      exact this
    · rw [if_pos (by omega)] at hK
      rw [w64_id (by omega) (by omega)]
      exact more cs 0 _ (Nat.le_refl _) h5 hK
  · rw [lei_false] at h
    rw [if_pos h] at hK
    exact more cs 0 fu (Nat.le_refl _) h5 hK
theorem sound_ref_Changed : SoundC Tryz.prog tab n_ref_Changed c_ref_Changed := soundC_of ok_ref_Changed hf_ref_Changed hB_ref_Changed (by
  intro vs bs p v bs' h hp
  unfold c_ref_Changed at h
  split at h
  · cases h
    exact ⟨by kernel_rfl, rfl, .inl (run_ref_Changed _ _ _ hp.1 _ ⟨rfl, rfl⟩)⟩
  · cases h)

def c_ref_Appended : Contract := fun vs bs => match vs, bs with
  | [.agg [.dat (.list .int) ws, .dat .int fu], .one (.dat (.list .int) r), .one (.dat (.list (.list .int)) keep)], [] => some (some (checkLog ⟨ws, fu⟩ = 0 ∧ Sm r ∧ len keep * 24 ≤ 140737488351232 ∧ smR keep = true), .tup [.agg [.dat (.list .int) (appendF ⟨ws, fu⟩ r keep).1.words, .dat .int (appendF ⟨ws, fu⟩ r keep).1.fuel], .one (.dat .int (appendF ⟨ws, fu⟩ r keep).2)], [])
  | _, _ => none
def Γ_ref_Appended : Ctx := [(n_ref_checkRecord, c_ref_checkRecord), (n_ref_counts, c_ref_counts), (n_ref_RecordsOf, (weakC c_ref_RecordsOf)), (n_ref_programs, c_ref_programs), (n_ref_erases, c_ref_erases), (n_slices_Concat_Lref_change, c_slices_Concat_Lref_change), (n_ref_Changed, c_ref_Changed)]
theorem ok_ref_Appended : Ok Tryz.prog tab Γ_ref_Appended := (((((((ok_nil.consC hf_ref_Changed hB_ref_Changed sound_ref_Changed).consC hf_slices_Concat_Lref_change hB_slices_Concat_Lref_change sound_slices_Concat_Lref_change).consC hf_ref_erases hB_ref_erases sound_ref_erases).consC hf_ref_programs hB_ref_programs sound_ref_programs).consC hf_ref_RecordsOf hB_ref_RecordsOf (soundC_weak sound_ref_RecordsOf)).consC hf_ref_counts hB_ref_counts sound_ref_counts).consC hf_ref_checkRecord hB_ref_checkRecord sound_ref_checkRecord)
noncomputable def ref_Appended_L0 : List It := [.inLoop [10, 9, 7, 6, 3, 1, 2] (Code.sub (bodyOf fn_ref_Appended) [1, 1, 1, 0, 1, 0, 0]), .inBlock 0, .code (Code.sub (bodyOf fn_ref_Appended) [1, 1, 1, 1])]
def ref_Appended_S0 (x0 : Int) (x1 : Int) (x2 : (List Int)) (x3 : (List (List Int))) (x4 : (List Int)) (x5 : Int) (x6 : (List Int)) (x7 : Int) (x8 : (List Int)) : St := ⟨[(10, .one (dI x0)), (9, .one (.own 0)), (7, .one (dI x1)), (6, .one (.ptr 1 0)), (3, .one (.ptr 2 0)), (1, .one (dL x2)), (2, .one (dR x3))], [(0, .arr Ty.int x4), (1, .box [.own 3, dI x5]), (2, .box [dL x6, dI x7]), (3, .arr Ty.int x8)], 4⟩
theorem ref_Appended_vc (ws : List Int) (fu : Int) (r : List Int) (keep : List (List Int)) (rec : RK) (K : KK) v0 (hv0 : v0 = (checkRec r)) : segD Γ_ref_Appended tab fn_ref_Appended 0 K rec [.code (bodyOf fn_ref_Appended)] (initSt [.agg [dL ws, dI fu], .one (dL r), .one (dR keep)] []) = (
 ((List.length r) ≤ 140737488355328) ∧
 (br (!(eqi v0 (0 : Int)))
 (K (.tup [.agg [dL [], dI (0 : Int)], .one (dI v0)]) [])
 (rec ref_Appended_L0 (ref_Appended_S0 (0 : Int) (0 : Int) r keep [] (0 : Int) ws fu [])))) := by subst_vars; kernel_rfl
theorem ref_Appended_w (m : Nat) (K : KK) (st : St) : goD Γ_ref_Appended tab fn_ref_Appended 0 K (m + 1) [.code (bodyOf fn_ref_Appended)] st = segD Γ_ref_Appended tab fn_ref_Appended 0 K (goD Γ_ref_Appended tab fn_ref_Appended 0 K m) [.code (bodyOf fn_ref_Appended)] st := rfl
theorem ref_Appended_vc0 (x0 : Int) (x1 : Int) (x2 : (List Int)) (x3 : (List (List Int))) (x4 : (List Int)) (x5 : Int) (x6 : (List Int)) (x7 : Int) (x8 : (List Int)) (rec : RK) (K : KK) v0 (hv0 : v0 = (checkRec (nth x3 (Int.toNat x0) (Ty.dflt (Ty.list Ty.int))))) v1 (hv1 : v1 = (checkRec x2)) v2 (hv2 : v2 = (okWords x6)) v3 (hv3 : v3 = (liveS x6)) v4 (hv4 : v4 = (scanS x6 v3)) v5 (hv5 : v5 = (nextI v3 v4.snd)) v6 (hv6 : v6 = (burnCh (w64 (v5 + (1 : Int))) x2)) v7 (hv7 : v7 = (burnCh v5 ((w64 ((42240 : Int) + (((len x2) : Nat) : Int))) :: []))) v8 (hv8 : v8 = (inPlaces (List.length x6) (cat v6 v7))) v9 (hv9 : v9 = (doCh (⟨x6, x7⟩ : Flash) (cat v6 v7))) v10 (hv10 : v10 = (powerE v9.snd)) v11 (hv11 : v11 = (liveG x6)) v12 (hv12 : v12 = (wipeCh (w64 ((1 : Int) - ((v3 : Nat) : Int))))) v13 (hv13 : v13 = (burnCh (w64 ((w64 ((32 : Int) * (w64 ((1 : Int) - ((v3 : Nat) : Int))))) + (1 : Int))) x4)) v14 (hv14 : v14 = (burnCh (w64 ((32 : Int) * (w64 ((1 : Int) - ((v3 : Nat) : Int))))) ((w64 (v11 + (1 : Int))) :: []))) v15 (hv15 : v15 = (joinCh (v12 :: (v13 :: (v14 :: []))))) v16 (hv16 : v16 = (inPlaces (List.length x6) v15)) v17 (hv17 : v17 = (doCh (⟨x6, x7⟩ : Flash) v15)) v18 (hv18 : v18 = (powerE v17.snd)) v19 (hv19 : v19 = (br (eqi v11 (60000 : Int))
 (K (.tup [.agg [dL [], dI (0 : Int)], .one (dI (8 : Int))]) [])
 ((((0 : Int) ≤ (w64 ((1 : Int) - ((v3 : Nat) : Int)))) ∧ ((w64 ((1 : Int) - ((v3 : Nat) : Int))) ≤ (10 : Int))) ∧
 ((((0 : Int) ≤ (w64 ((w64 ((32 : Int) * (w64 ((1 : Int) - ((v3 : Nat) : Int))))) + (1 : Int)))) ∧ (((w64 ((w64 ((32 : Int) * (w64 ((1 : Int) - ((v3 : Nat) : Int))))) + (1 : Int))) ≤ (1000 : Int)) ∧ ((len x4) ≤ 1000))) ∧
 ((((0 : Int) ≤ (w64 ((32 : Int) * (w64 ((1 : Int) - ((v3 : Nat) : Int)))))) ∧ (((w64 ((32 : Int) * (w64 ((1 : Int) - ((v3 : Nat) : Int))))) ≤ (1000 : Int)) ∧ ((len ((w64 (v11 + (1 : Int))) :: [])) ≤ 1000))) ∧
 ((((List.length (v12 :: (v13 :: (v14 :: [])))) ≤ 10) ∧ ((List.length v15) ≤ 1000)) ∧
 ((((len x6) ≤ 192) ∧ (((-(1 : Int)) ≤ x7) ∧ ((x7 ≤ (100000 : Int)) ∧ (((len v15) ≤ 1000) ∧ (v16 = true))))) ∧
 (K (.tup [.agg [dL v17.fst.words, dI v17.fst.fuel], .one (dI v18)]) [])))))))) v20 (hv20 : v20 = (K (.tup [.agg [dL [], dI (0 : Int)], .one (dI (8 : Int))]) [])) : segD Γ_ref_Appended tab fn_ref_Appended 0 K rec (.code (Code.sub (bodyOf fn_ref_Appended) [1, 1, 1, 0, 1, 0, 0]) :: ref_Appended_L0) (ref_Appended_S0 x0 x1 x2 x3 x4 x5 x6 x7 x8) = (
 br (lei x0 (((len x3) : Nat) : Int))
 (br (lti x0 (((len x3) : Nat) : Int))
 ((((0 : Int) ≤ x0) ∧ (x0 < (((len x3) : Nat) : Int))) ∧
 (((List.length (nth x3 (Int.toNat x0) (Ty.dflt (Ty.list Ty.int)))) ≤ 140737488355328) ∧
 (br (!(eqi v0 (0 : Int)))
 (K (.tup [.agg [dL [], dI (0 : Int)], .one (dI v0)]) [])
 (((((len x4) + (len ((w64 ((42240 : Int) + (((len (nth x3 (Int.toNat x0) (Ty.dflt (Ty.list Ty.int)))) : Nat) : Int))) :: []))) * 8) ≤ 140737488355328) ∧
 (((((len (cat x4 ((w64 ((42240 : Int) + (((len (nth x3 (Int.toNat x0) (Ty.dflt (Ty.list Ty.int)))) : Nat) : Int))) :: []))) + (len (nth x3 (Int.toNat x0) (Ty.dflt (Ty.list Ty.int))))) * 8) ≤ 140737488355328) ∧
 (br (lti (31 : Int) (((len (cat (cat x4 ((w64 ((42240 : Int) + (((len (nth x3 (Int.toNat x0) (Ty.dflt (Ty.list Ty.int)))) : Nat) : Int))) :: [])) (nth x3 (Int.toNat x0) (Ty.dflt (Ty.list Ty.int))))) : Nat) : Int))
 v20
 (rec ref_Appended_L0 (ref_Appended_S0 (w64 (x0 + (1 : Int))) x1 x2 x3 (cat (cat x4 ((w64 ((42240 : Int) + (((len (nth x3 (Int.toNat x0) (Ty.dflt (Ty.list Ty.int)))) : Nat) : Int))) :: [])) (nth x3 (Int.toNat x0) (Ty.dflt (Ty.list Ty.int)))) x5 x6 x7 x8))))))))
 (((List.length x2) ≤ 140737488355328) ∧
 (br (!(eqi v1 (0 : Int)))
 (K (.tup [.agg [dL [], dI (0 : Int)], .one (dI v1)]) [])
 (((((len x4) + (len ((w64 ((42240 : Int) + (((len x2) : Nat) : Int))) :: []))) * 8) ≤ 140737488355328) ∧
 (((((len (cat x4 ((w64 ((42240 : Int) + (((len x2) : Nat) : Int))) :: []))) + (len x2)) * 8) ≤ 140737488355328) ∧
 (br (lti (31 : Int) (((len (cat (cat x4 ((w64 ((42240 : Int) + (((len x2) : Nat) : Int))) :: [])) x2)) : Nat) : Int))
 v20
 (rec ref_Appended_L0 (ref_Appended_S0 (w64 (x0 + (1 : Int))) x1 x2 x3 (cat (cat x4 ((w64 ((42240 : Int) + (((len x2) : Nat) : Int))) :: [])) x2) x5 x6 x7 x8))))))))
 ((64 ≤ (len x6)) ∧
 (((64 ≤ (len x6)) ∧ (((len x6) ≤ 192) ∧ (v2 = true))) ∧
 (br (lei (0 : Int) v5)
 (br (lei (w64 ((w64 (v5 + (1 : Int))) + (((len x2) : Nat) : Int))) (w64 ((w64 ((32 : Int) * ((v3 : Nat) : Int))) + (32 : Int))))
 ((((0 : Int) ≤ (w64 (v5 + (1 : Int)))) ∧ (((w64 (v5 + (1 : Int))) ≤ (1000 : Int)) ∧ ((len x2) ≤ 1000))) ∧
 ((((0 : Int) ≤ v5) ∧ ((v5 ≤ (1000 : Int)) ∧ ((len ((w64 ((42240 : Int) + (((len x2) : Nat) : Int))) :: [])) ≤ 1000))) ∧
 (((((len v6) + (len v7)) * 16) ≤ 140737488355328) ∧
 ((((len x6) ≤ 192) ∧ (((-(1 : Int)) ≤ x7) ∧ ((x7 ≤ (100000 : Int)) ∧ (((len (cat v6 v7)) ≤ 1000) ∧ (v8 = true))))) ∧
 (K (.tup [.agg [dL v9.fst.words, dI v9.fst.fuel], .one (dI v10)]) [])))))
 v19)
 v19)))) := by subst_vars; kernel_rfl
theorem ref_Appended_w0 (m : Nat) (K : KK) (st : St) : goD Γ_ref_Appended tab fn_ref_Appended 0 K (m + 1) ref_Appended_L0 st = segD Γ_ref_Appended tab fn_ref_Appended 0 K (goD Γ_ref_Appended tab fn_ref_Appended 0 K m) (.code (Code.sub (bodyOf fn_ref_Appended) [1, 1, 1, 0, 1, 0, 0]) :: ref_Appended_L0) st := rfl

theorem nth_snoc (keep : List (List Int)) (r : List Int) (k : Nat) (d : List Int) (h : k ≤ keep.length) : nth (keep ++ [r]) k d = if k < keep.length then nth keep k d else r := by
  unfold nth
  simp only [List.getD_eq_getElem?_getD]
  by_cases c : k < keep.length
  · rw [if_pos c, List.getElem?_append_left c]
  · have : k = keep.length := by omega
    subst this
    rw [if_neg c]; simp
theorem loop_ref_Appended (ws r : List Int) (fu : Int) (keep : List (List Int)) (hl : keep.length ≤ 5864062014806) (hs : smR keep = true) (hr : r.length ≤ 140737488355328) (K : KK)
    (hbad : ∀ e, e ≠ 0 → gather 0 (keep ++ [r]) = e → K (.tup [.agg [dL [], dI 0], .one (dI e)]) [])
    (hend : ∀ M, gather 0 (keep ++ [r]) = 0 → (allW (keep ++ [r])).length ≤ 31 → goD Γ_ref_Appended tab fn_ref_Appended 0 K (M + 1) ref_Appended_L0 (ref_Appended_S0 (((keep.length + 1 : Nat) : Int)) 0 r keep (allW (keep ++ [r])) 0 ws fu [])) :
    ∀ (d k : Nat), keep.length + 1 ≤ k + d → k ≤ keep.length + 1 → (allW ((keep ++ [r]).take k)).length ≤ 31 → gather 0 (keep ++ [r]) = gather (allW ((keep ++ [r]).take k)).length ((keep ++ [r]).drop k) →
    goD Γ_ref_Appended tab fn_ref_Appended 0 K (d + 1) ref_Appended_L0 (ref_Appended_S0 (k : Int) 0 r keep (allW ((keep ++ [r]).take k)) 0 ws fu [])
  | 0, k, hk, hk2, ha, hg => by
    have : k = keep.length + 1 := by omega
    subst this
    rw [List.take_of_length_le (by simp)] at ha hg ⊢
    rw [List.drop_of_length_le (by simp)] at hg
    exact hend 0 hg ha
  | d + 1, k, hk, hk2, ha, hg => by
    by_cases c : k = keep.length + 1
    · subst c
      rw [List.take_of_length_le (by simp)] at ha hg ⊢
      rw [List.drop_of_length_le (by simp)] at hg
      exact hend (d + 1) hg ha
    have hlen : (keep ++ [r]).length = keep.length + 1 := by simp
    have ht := take_step (l := keep ++ [r]) (k := k) (by omega) (Ty.dflt (.list .int))
    rw [drop_step (by omega) (Ty.dflt (.list .int))] at hg
    have hn := nth_snoc keep r k (Ty.dflt (.list .int)) (by omega)
    obtain ⟨x, hx⟩ : ∃ x, nth (keep ++ [r]) k (Ty.dflt (.list .int)) = x := ⟨_, rfl⟩
    rw [hx] at ht hg hn
    simp only [gather] at hg
    have ek : w64 ((k : Int) + 1) = ((k + 1 : Nat) : Int) := w64_succ (by omega)
    -- one round, whichever record it is
    have body : ((checkRec x ≠ 0 → K (.tup [.agg [dL [], dI 0], .one (dI (checkRec x))]) [])) ∧ (checkRec x = 0 →
        ((((len (allW ((keep ++ [r]).take k))) + (len ((w64 ((42240 : Int) + (((len x) : Nat) : Int))) :: []))) * 8) ≤ 140737488355328) ∧
        ((((len (cat (allW ((keep ++ [r]).take k)) ((w64 ((42240 : Int) + (((len x) : Nat) : Int))) :: []))) + (len x)) * 8) ≤ 140737488355328) ∧
        (br (lti (31 : Int) (((len (cat (cat (allW ((keep ++ [r]).take k)) ((w64 ((42240 : Int) + (((len x) : Nat) : Int))) :: [])) x)) : Nat) : Int))
           (K (.tup [.agg [dL [], dI (0 : Int)], .one (dI (8 : Int))]) [])
           (goD Γ_ref_Appended tab fn_ref_Appended 0 K (d + 1) ref_Appended_L0 (ref_Appended_S0 (w64 ((k : Int) + (1 : Int))) 0 r keep (cat (cat (allW ((keep ++ [r]).take k)) ((w64 ((42240 : Int) + (((len x) : Nat) : Int))) :: [])) x) 0 ws fu [])))) := by
      refine ⟨fun h1 => ?_, fun h1 => ?_⟩
      · rw [if_neg h1] at hg
        exact hbad _ h1 hg
      · rw [if_pos h1] at hg
        obtain ⟨r1, r2, r3⟩ := checkRec_ok h1
        have ew : w64 (42240 + (((len x) : Nat) : Int)) = 42240 + (x.length : Int) := w64_id (by simp only [len]; omega) (by simp only [len]; omega)
        rw [ew, ek]
        have e : cat (cat (allW ((keep ++ [r]).take k)) [42240 + (x.length : Int)]) x = allW ((keep ++ [r]).take (k + 1)) := by rw [ht, allW_snoc]; simp [cat, recW]
        have el : (allW ((keep ++ [r]).take (k + 1))).length = (allW ((keep ++ [r]).take k)).length + 1 + x.length := by rw [ht, allW_snoc, List.length_append, recW_len]; omega
        rw [e]
        refine ⟨by simp only [len, List.length_cons, List.length_nil]; omega, by simp only [len, cat, List.length_append, List.length_cons, List.length_nil]; omega, lt_s (fun h2 => ?_) (fun h2 => ?_)⟩
        · simp only [len] at h2
          rw [if_neg (by omega)] at hg
          exact hbad 8 (by decide) hg
        · simp only [len] at h2
          rw [if_pos (by omega)] at hg
          exact loop_ref_Appended ws r fu keep hl hs hr K hbad hend d (k + 1) (by omega) (by omega) (by omega) (by rw [hg, el])
    rw [ref_Appended_w0, ref_Appended_vc0 _ _ _ _ _ _ _ _ _ _ _ _ rfl _ rfl _ rfl _ rfl _ rfl _ rfl _ rfl _ rfl _ rfl _ rfl _ rfl _ rfl _ rfl _ rfl _ rfl _ rfl _ rfl _ rfl _ rfl _ rfl _ rfl, toNat_nat]
    refine br_t (lei_true.2 (by simp only [len]; omega)) (lt_s (fun h0 => ?_) (fun h0 => ?_))
    · simp only [len] at h0
      rw [if_pos (by omega)] at hn
      have hm : nth keep k (Ty.dflt (.list .int)) ∈ keep := by
        have : k < keep.length := by omega
        simp [nth, List.getD_eq_getElem?_getD, this]
      have hsm := List.all_eq_true.1 hs _ hm
      simp only [decide_eq_true_eq] at hsm
      rw [← hn] at hsm ⊢
      exact ⟨⟨by omega, by simp only [len]; omega⟩, hsm, ne_s body.1 body.2⟩
    · simp only [len] at h0
      rw [if_neg (by omega)] at hn
      rw [← hn] at hr body hbad hend ⊢
      exact ⟨hr, ne_s body.1 body.2⟩
set_option maxHeartbeats 4000000 in
theorem run_ref_Appended (ws : List Int) (fu : Int) (r : List Int) (keep : List (List Int)) (hp : checkLog ⟨ws, fu⟩ = 0 ∧ Sm r ∧ len keep * 24 ≤ 140737488351232 ∧ smR keep = true) (K : KK) (hK : K (.tup [.agg [dL (appendF ⟨ws, fu⟩ r keep).1.words, dI (appendF ⟨ws, fu⟩ r keep).1.fuel], .one (dI (appendF ⟨ws, fu⟩ r keep).2)]) []) : ∃ m, goD Γ_ref_Appended tab fn_ref_Appended 0 K m [.code (bodyOf fn_ref_Appended)] (initSt [.agg [dL ws, dI fu], .one (dL r), .one (dR keep)] []) := by
  obtain ⟨hc, hr, hk1, hk2⟩ := hp
  have hk3 : keep.length * 24 ≤ 140737488351232 := hk1
  unfold Sm at hr
  refine ⟨keep.length + 1 + 1 + 1, ?_⟩
  rw [ref_Appended_w, ref_Appended_vc _ _ _ _ _ _ _ rfl]
  unfold appendF appendE at hK
  rw [if_pos hc] at hK
  refine ⟨hr, ne_s (fun h2 => ?_) (fun h2 => ?_)⟩
  · rw [if_neg h2, if_neg h2] at hK; exact hK
  rw [if_pos h2] at hK
  obtain ⟨k1, k2, k3, k4⟩ := checkLog_ok hc
  obtain ⟨c1, c2, c3, c4⟩ := checkFlash_ok k1
  obtain ⟨c5, c6⟩ := okLen_le c1
  simp only at k2 k3 k4 c2 c3 c4 c5 c6
  obtain ⟨r1, r2, r3⟩ := checkRec_ok h2
  have e0 : allW ((keep ++ [r]).take 0) = [] := by simp [allW]
  have l0 : (allW ((keep ++ [r]).take 0)).length = 0 := by rw [e0]; rfl
  refine loop_ref_Appended ws r fu keep (by omega) hk2 hr K (fun e he hg => ?_) (fun M hg hal => ?_) (keep.length + 1) 0 (by omega) (by omega) (by omega) (by rw [l0, List.drop_zero])
  · rw [hg, if_neg he] at hK; exact hK
  obtain ⟨rs, hrs⟩ : ∃ rs, keep ++ [r] = rs := ⟨_, rfl⟩
  simp only [hrs] at hg hal hK ⊢
  rw [hg, if_pos rfl] at hK
  rw [ref_Appended_w0, ref_Appended_vc0 _ _ _ _ _ _ _ _ _ _ _ _ rfl _ rfl _ rfl _ rfl _ rfl _ rfl _ rfl _ rfl _ rfl _ rfl _ rfl _ rfl _ rfl _ rfl _ rfl _ rfl _ rfl _ rfl _ rfl _ rfl _ rfl]
  unfold appendCh at hK
  simp only [hrs] at hK
  have hls := liveS_le ws
  have hgr := genOf_range c4 (liveS ws)
  have hg1 : liveG ws = genOf ws (liveS ws) := rfl
  obtain ⟨s, hs⟩ : ∃ s, liveS ws = s := ⟨_, rfl⟩
  rw [hs] at hK hls ⊢
  obtain ⟨g, hgg⟩ : ∃ g, liveG ws = g := ⟨_, rfl⟩
  rw [hgg] at hK hg1 k3 k4 ⊢
  have ew : w64 (42240 + (((len r) : Nat) : Int)) = 42240 + (r.length : Int) := w64_id (by simp only [len]; omega) (by simp only [len]; omega)
  rw [ew, w64_id (n := 32 * (s : Int)) (by omega) (by omega), w64_id (n := 32 * (s : Int) + 32) (by omega) (by omega), w64_id (n := 1 - (s : Int)) (by omega) (by omega), w64_id (n := 32 * (1 - (s : Int))) (by omega) (by omega), w64_id (n := 32 * (1 - (s : Int)) + 1) (by omega) (by omega), w64_id (n := g + 1) (by omega) (by omega)]
  have ho : 1 - (s : Int) = ((1 - s : Nat) : Int) := by omega
  rw [ho]
  have ej : joinCh [wipeCh ((1 - s : Nat) : Int), burnCh (32 * ((1 - s : Nat) : Int) + 1) (allW rs), burnCh (32 * ((1 - s : Nat) : Int)) [g + 1]] = thereCh (1 - s) rs (g + 1) := by simp [joinCh, thereCh]
  rw [ej]
  have lth : (thereCh (1 - s) rs (g + 1)).length ≤ 64 := by
    unfold thereCh wipeCh
    rw [List.length_append, List.length_append, wipeFrom_len, burnCh_len, burnCh_len, List.length_singleton]; omega
  have inth : inPlaces ws.length (thereCh (1 - s) rs (g + 1)) = true := by
    have a1 := wipe_in ws.length 32 (32 * ((1 - s : Nat) : Int)) (by omega) (by omega)
    have a2 := burn_in ws.length (allW rs) (32 * ((1 - s : Nat) : Int) + 1) (by omega) (by omega)
    have a3 := burn_in ws.length [g + 1] (32 * ((1 - s : Nat) : Int)) (by omega) (by simp only [List.length_cons, List.length_nil]; omega)
    unfold inPlaces thereCh wipeCh at *
    rw [List.all_append, List.all_append, a1, a2, a3]; rfl
  refine br_f (lei_false.2 (by simp only [len]; omega)) ⟨k2, ⟨k2, c6, c4⟩, ?_⟩
  have there := fun (hK : K (.tup [.agg [dL (power (doCh ⟨ws, fu⟩ (thereCh (1 - s) rs (g + 1)))).1.words, dI (power (doCh ⟨ws, fu⟩ (thereCh (1 - s) rs (g + 1)))).1.fuel], .one (dI (power (doCh ⟨ws, fu⟩ (thereCh (1 - s) rs (g + 1)))).2)]) []) =>
    show (((0 : Int) ≤ ((1 - s : Nat) : Int)) ∧ (((1 - s : Nat) : Int) ≤ (10 : Int))) ∧ ((((0 : Int) ≤ (32 * ((1 - s : Nat) : Int) + 1)) ∧ (((32 * ((1 - s : Nat) : Int) + 1) ≤ (1000 : Int)) ∧ ((len (allW rs)) ≤ 1000))) ∧
      ((((0 : Int) ≤ (32 * ((1 - s : Nat) : Int))) ∧ (((32 * ((1 - s : Nat) : Int)) ≤ (1000 : Int)) ∧ ((len [g + 1]) ≤ 1000))) ∧
      ((((List.length [wipeCh ((1 - s : Nat) : Int), burnCh (32 * ((1 - s : Nat) : Int) + 1) (allW rs), burnCh (32 * ((1 - s : Nat) : Int)) [g + 1]]) ≤ 10) ∧ ((List.length (thereCh (1 - s) rs (g + 1))) ≤ 1000)) ∧
      ((((len ws) ≤ 192) ∧ (((-(1 : Int)) ≤ fu) ∧ ((fu ≤ (100000 : Int)) ∧ (((len (thereCh (1 - s) rs (g + 1))) ≤ 1000) ∧ (inPlaces ws.length (thereCh (1 - s) rs (g + 1)) = true))))) ∧
      (K (.tup [.agg [dL (doCh ⟨ws, fu⟩ (thereCh (1 - s) rs (g + 1))).1.words, dI (doCh ⟨ws, fu⟩ (thereCh (1 - s) rs (g + 1))).1.fuel], .one (dI (powerE (doCh ⟨ws, fu⟩ (thereCh (1 - s) rs (g + 1))).2))]) []))))) from
    ⟨by omega, ⟨by omega, by omega, by simp only [len]; omega⟩, ⟨by omega, by omega, by simp [len]⟩, ⟨by simp only [List.length_cons, List.length_nil]; omega, by omega⟩, ⟨c6, c2, c3, by simp only [len]; omega, inth⟩, hK⟩
  cases hsc : (scanS ws s).2 with
  | none =>
    rw [hsc] at hK
    simp only [room, Bool.false_eq_true, if_false] at hK
    simp only [nextI]
    refine br_f (lei_false.2 (by omega)) (eq_s (fun h5 => ?_) (fun h5 => ?_))
    · rw [if_pos h5] at hK; exact hK
    · rw [if_neg h5] at hK
      exact there hK
  | some a =>
    have ha := scanS_le (by omega) hsc
    rw [hsc] at hK
    simp only [nextI]
    rw [w64_id (n := 32 * (s : Int) + 1 + a + 1) (by omega) (by omega), w64_id (n := 32 * (s : Int) + 1 + a + 1 + (((len r) : Nat) : Int)) (by simp only [len]; omega) (by simp only [len]; omega)]
    refine br_t (lei_true.2 (by omega)) (br_split (fun h5 => ?_) (fun h5 => ?_))
    · rw [lei_true] at h5
      simp only [len] at h5
      rw [if_pos (show room r.length (some a) = true from by simp only [room, decide_eq_true_eq]; omega)] at hK
      simp only [Option.getD_some, hereCh] at hK
      rw [show ((32 * s + 1 + a : Nat) : Int) = 32 * (s : Int) + 1 + a by omega] at hK
      have a1 := burn_in ws.length r (32 * (s : Int) + 1 + a + 1) (by omega) (by omega)
      have a2 := burn_in ws.length [42240 + (r.length : Int)] (32 * (s : Int) + 1 + a) (by omega) (by simp only [List.length_cons, List.length_nil]; omega)
      refine ⟨⟨by omega, by omega, by simp only [len]; omega⟩, ⟨by omega, by omega, by simp [len]⟩, by simp only [len, burnCh_len, List.length_cons, List.length_nil]; omega, ⟨c6, c2, c3, by simp only [len, cat, List.length_append, burnCh_len, List.length_cons, List.length_nil]; omega, ?_⟩, hK⟩
      unfold inPlaces at *
      rw [show cat (burnCh (32 * (s : Int) + 1 + a + 1) r) (burnCh (32 * (s : Int) + 1 + a) [42240 + (r.length : Int)]) = burnCh (32 * (s : Int) + 1 + a + 1) r ++ burnCh (32 * (s : Int) + 1 + a) [42240 + (r.length : Int)] from rfl, List.all_append, a1, a2]; rfl
    · rw [lei_false] at h5
      simp only [len] at h5
      rw [if_neg (show ¬ room r.length (some a) = true from by simp only [room, decide_eq_true_eq]; omega)] at hK
      refine eq_s (fun h6 => ?_) (fun h6 => ?_)
      · rw [if_pos h6] at hK; exact hK
      · rw [if_neg h6] at hK
        exact there hK
theorem sound_ref_Appended : SoundC Tryz.prog tab n_ref_Appended c_ref_Appended := soundC_of ok_ref_Appended hf_ref_Appended hB_ref_Appended (by
  intro vs bs p v bs' h hp
  unfold c_ref_Appended at h
  split at h
  · cases h
    exact ⟨by kernel_rfl, rfl, .inl (run_ref_Appended _ _ _ _ hp.1 _ ⟨rfl, rfl⟩)⟩
  · cases h)

def c_ref_noted : Contract := fun vs bs => match vs, bs with
  | [.one (.ptr 0 0), .one (.dat (.list .int) r)], [.box [.dat (.list .int) ws, .dat .int fu, .dat .bool up, .dat .int tv, .own 1, .dat .int tt, .dat .int tn, .own 2, .own 3], .arr .int tk, .arr .bool vo, .arr .bool di] => some (some (checkLog ⟨ws, fu⟩ = 0 ∧ Sm r ∧ len vo ≤ 1000 ∧ len di ≤ 1000), .one (.dat .bool (noteG ⟨⟨ws, fu⟩, up, ⟨⟨tv, tk, tt⟩, tn⟩, vo, di⟩ r).2), [.box [.dat (.list .int) (noteG ⟨⟨ws, fu⟩, up, ⟨⟨tv, tk, tt⟩, tn⟩, vo, di⟩ r).1.f.words, .dat .int (noteG ⟨⟨ws, fu⟩, up, ⟨⟨tv, tk, tt⟩, tn⟩, vo, di⟩ r).1.f.fuel, .dat .bool (noteG ⟨⟨ws, fu⟩, up, ⟨⟨tv, tk, tt⟩, tn⟩, vo, di⟩ r).1.up, .dat .int (noteG ⟨⟨ws, fu⟩, up, ⟨⟨tv, tk, tt⟩, tn⟩, vo, di⟩ r).1.t.r.version, .own 4, .dat .int (noteG ⟨⟨ws, fu⟩, up, ⟨⟨tv, tk, tt⟩, tn⟩, vo, di⟩ r).1.t.r.thr, .dat .int (noteG ⟨⟨ws, fu⟩, up, ⟨⟨tv, tk, tt⟩, tn⟩, vo, di⟩ r).1.t.version, .own 5, .own 6], .dead, .dead, .dead, .arr .int (noteG ⟨⟨ws, fu⟩, up, ⟨⟨tv, tk, tt⟩, tn⟩, vo, di⟩ r).1.t.r.keys, .arr .bool (noteG ⟨⟨ws, fu⟩, up, ⟨⟨tv, tk, tt⟩, tn⟩, vo, di⟩ r).1.voted, .arr .bool (noteG ⟨⟨ws, fu⟩, up, ⟨⟨tv, tk, tt⟩, tn⟩, vo, di⟩ r).1.did])
  | _, _ => none
def Γ_ref_noted : Ctx := [(n_ref_GateStateOf, c_ref_GateStateOf), (n_ref_Appended, c_ref_Appended)]
theorem ok_ref_noted : Ok Tryz.prog tab Γ_ref_noted := ((ok_nil.consC hf_ref_Appended hB_ref_Appended sound_ref_Appended).consC hf_ref_GateStateOf hB_ref_GateStateOf sound_ref_GateStateOf)
noncomputable def ref_noted_L0 : List It := [.inLoop [32, 31, 30, 6, 5, 4, 0, 1] (Code.sub (bodyOf fn_ref_noted) [1, 1, 1, 1, 0, 1, 0, 0]), .inBlock 0, .code (Code.sub (bodyOf fn_ref_noted) [1, 1, 1, 1, 1])]
def ref_noted_S0 (x0 : Int) (x1 : Int) (x2 : Bool) (x3 : (List Int)) (x4 : (List Int)) (x5 : Int) (x6 : Bool) (x7 : Int) (x8 : Int) (x9 : Int) (x10 : (List Bool)) (x11 : (List (List Int))) (x12 : Int) (x13 : Int) (x14 : Bool) (x15 : Bool) (x16 : Bool) (x17 : (List Int)) (x18 : (List Bool)) (x19 : (List Bool)) : St := ⟨[(32, .one (dI x0)), (31, .one (dI x1)), (30, .one (.own 4)), (6, .one (.own 5)), (5, .one (.ptr 6 0)), (4, .one (dB x2)), (0, .one (.ptr 0 0)), (1, .one (dL x3))], [(0, .box [dL x4, dI x5, dB x6, dI x7, .own 7, dI x8, dI x9, .own 8, .own 9]), (1, .dead), (2, .dead), (3, .dead), (4, .arr Ty.bool x10), (5, .arr (Ty.list Ty.int) x11), (6, .box [dI x12, dI x13, dB x14, dB x15, dB x16]), (7, .arr Ty.int x17), (8, .arr Ty.bool x18), (9, .arr Ty.bool x19)], 10⟩
theorem ref_noted_vc (ws : List Int) (fu : Int) (up : Bool) (tv : Int) (tk : List Int) (tt : Int) (tn : Int) (vo : List Bool) (di : List Bool) (r : List Int) (rec : RK) (K : KK) v0 (hv0 : v0 = (checkLog ⟨ws, fu⟩)) v1 (hv1 : v1 = (ofG ⟨ws, fu⟩)) : segO Γ_ref_noted tab fn_ref_noted 4 K rec [.code (bodyOf fn_ref_noted)] (initN [.one (.ptr 0 0), .one (dL r)] [.box [dL ws, dI fu, dB up, dI tv, .own 1, dI tt, dI tn, .own 2, .own 3], .arr Ty.int tk, .arr Ty.bool vo, .arr Ty.bool di]) = (
 (v0 = (0 : Int)) ∧
 (br (!(eqi v1.n (0 : Int)))
 (rec ref_noted_L0 (ref_noted_S0 (0 : Int) (((len (v1.commit :: (v1.abort :: (v1.ended :: [])))) : Nat) : Int) false r ws fu up tv tt tn (v1.commit :: (v1.abort :: (v1.ended :: []))) (((1 : Int) :: (v1.n :: (v1.version :: []))) :: []) v1.n v1.version v1.commit v1.abort v1.ended tk vo di))
 (rec ref_noted_L0 (ref_noted_S0 (0 : Int) (((len (v1.commit :: (v1.abort :: (v1.ended :: [])))) : Nat) : Int) false r ws fu up tv tt tn (v1.commit :: (v1.abort :: (v1.ended :: []))) [] v1.n v1.version v1.commit v1.abort v1.ended tk vo di)))) := by subst_vars; kernel_rfl
theorem ref_noted_w (m : Nat) (K : KK) (st : St) : goO Γ_ref_noted tab fn_ref_noted 4 K (m + 1) [.code (bodyOf fn_ref_noted)] st = segO Γ_ref_noted tab fn_ref_noted 4 K (goO Γ_ref_noted tab fn_ref_noted 4 K m) [.code (bodyOf fn_ref_noted)] st := rfl
theorem ref_noted_vc0 (x0 : Int) (x1 : Int) (x2 : Bool) (x3 : (List Int)) (x4 : (List Int)) (x5 : Int) (x6 : Bool) (x7 : Int) (x8 : Int) (x9 : Int) (x10 : (List Bool)) (x11 : (List (List Int))) (x12 : Int) (x13 : Int) (x14 : Bool) (x15 : Bool) (x16 : Bool) (x17 : (List Int)) (x18 : (List Bool)) (x19 : (List Bool)) (rec : RK) (K : KK) v0 (hv0 : v0 = (checkLog ⟨x4, x5⟩)) v1 (hv1 : v1 = (smR x11)) v2 (hv2 : v2 = (appendF ⟨x4, x5⟩ x3 x11)) v3 (hv3 : v3 = (br (eqi v2.snd (7 : Int))
 ((((0 : Int) ≤ (((len x18) : Nat) : Int)) ∧ ((((((len x18) : Nat) : Int) * ((1 : Nat) : Int)) ≤ (140737488355328 : Int)) ∧ ((((len x18) : Nat) : Int) ≤ (140737488355328 : Int)))) ∧
 ((((0 : Int) ≤ (((len x19) : Nat) : Int)) ∧ ((((((len x19) : Nat) : Int) * ((1 : Nat) : Int)) ≤ (140737488355328 : Int)) ∧ ((((len x19) : Nat) : Int) ≤ (140737488355328 : Int)))) ∧
 (K (.one (dB (eqi v2.snd (0 : Int)))) [.box [dL v2.fst.words, dI v2.fst.fuel, dB false, dI x7, .own 4, dI x8, dI x9, .own 5, .own 6], .dead, .dead, .dead, .arr Ty.int x17, .arr Ty.bool (zeros (Int.toNat (((len x18) : Nat) : Int)) (Ty.dflt Ty.bool)), .arr Ty.bool (zeros (Int.toNat (((len x19) : Nat) : Int)) (Ty.dflt Ty.bool))])))
 (K (.one (dB (eqi v2.snd (0 : Int)))) [.box [dL v2.fst.words, dI v2.fst.fuel, dB x6, dI x7, .own 4, dI x8, dI x9, .own 5, .own 6], .dead, .dead, .dead, .arr Ty.int x17, .arr Ty.bool x18, .arr Ty.bool x19]))) : segO Γ_ref_noted tab fn_ref_noted 4 K rec (.code (Code.sub (bodyOf fn_ref_noted) [1, 1, 1, 1, 0, 1, 0, 0]) :: ref_noted_L0) (ref_noted_S0 x0 x1 x2 x3 x4 x5 x6 x7 x8 x9 x10 x11 x12 x13 x14 x15 x16 x17 x18 x19) = (
 br (lti x0 x1)
 ((((0 : Int) ≤ x0) ∧ (x0 < (((len x10) : Nat) : Int))) ∧
 (((Int.toNat x0) < (len x10)) ∧
 (br (nth x10 (Int.toNat x0) (Ty.dflt Ty.bool))
 (((((len x11) + (len (((w64 (x0 + (2 : Int))) :: (x12 :: [])) :: []))) * 24) ≤ 140737488355328) ∧
 (rec ref_noted_L0 (ref_noted_S0 (w64 (x0 + (1 : Int))) x1 x2 x3 x4 x5 x6 x7 x8 x9 x10 (cat x11 (((w64 (x0 + (2 : Int))) :: (x12 :: [])) :: [])) x12 x13 x14 x15 x16 x17 x18 x19)))
 (rec ref_noted_L0 (ref_noted_S0 (w64 (x0 + (1 : Int))) x1 x2 x3 x4 x5 x6 x7 x8 x9 x10 x11 x12 x13 x14 x15 x16 x17 x18 x19)))))
 (((v0 = (0 : Int)) ∧ (((List.length x3) ≤ 140737488355328) ∧ ((((len x11) * 24) ≤ 140737488351232) ∧ (v1 = true)))) ∧
 (br (eqi v2.snd (0 : Int))
 v3
 (br (eqi v2.snd (7 : Int))
 v3
 (br (eqi v2.snd (7 : Int))
 ((((0 : Int) ≤ (((len x18) : Nat) : Int)) ∧ ((((((len x18) : Nat) : Int) * ((1 : Nat) : Int)) ≤ (140737488355328 : Int)) ∧ ((((len x18) : Nat) : Int) ≤ (140737488355328 : Int)))) ∧
 ((((0 : Int) ≤ (((len x19) : Nat) : Int)) ∧ ((((((len x19) : Nat) : Int) * ((1 : Nat) : Int)) ≤ (140737488355328 : Int)) ∧ ((((len x19) : Nat) : Int) ≤ (140737488355328 : Int)))) ∧
 (K (.one (dB (eqi v2.snd (0 : Int)))) [.box [dL x4, dI x5, dB false, dI x7, .own 4, dI x8, dI x9, .own 5, .own 6], .dead, .dead, .dead, .arr Ty.int x17, .arr Ty.bool (zeros (Int.toNat (((len x18) : Nat) : Int)) (Ty.dflt Ty.bool)), .arr Ty.bool (zeros (Int.toNat (((len x19) : Nat) : Int)) (Ty.dflt Ty.bool))])))
 (K (.one (dB (eqi v2.snd (0 : Int)))) [.box [dL x4, dI x5, dB x6, dI x7, .own 4, dI x8, dI x9, .own 5, .own 6], .dead, .dead, .dead, .arr Ty.int x17, .arr Ty.bool x18, .arr Ty.bool x19])))))) := by subst_vars; kernel_rfl
theorem ref_noted_w0 (m : Nat) (K : KK) (st : St) : goO Γ_ref_noted tab fn_ref_noted 4 K (m + 1) ref_noted_L0 st = segO Γ_ref_noted tab fn_ref_noted 4 K (goO Γ_ref_noted tab fn_ref_noted 4 K m) (.code (Code.sub (bodyOf fn_ref_noted) [1, 1, 1, 1, 0, 1, 0, 0]) :: ref_noted_L0) st := rfl

theorem step_ref_noted (m : Nat) (K : KK) (r ws : List Int) (fu : Int) (up : Bool) (tv tt tn : Int) (fl : List Bool) (hf : fl.length = 3) (n v : Int) (c a e : Bool) (tk : List Int) (vo di : List Bool) (k : Nat) (hk : k < 3) (keep : List (List Int)) (hl : keep.length ≤ 10)
    (h : goO Γ_ref_noted tab fn_ref_noted 4 K m ref_noted_L0 (ref_noted_S0 ((k + 1 : Nat) : Int) 3 false r ws fu up tv tt tn fl (keep ++ if nth fl k false = true then [[(k : Int) + 2, n]] else []) n v c a e tk vo di)) :
    goO Γ_ref_noted tab fn_ref_noted 4 K (m + 1) ref_noted_L0 (ref_noted_S0 (k : Int) 3 false r ws fu up tv tt tn fl keep n v c a e tk vo di) := by
  rw [ref_noted_w0, ref_noted_vc0 _ _ _ _ _ _ _ _ _ _ _ _ _ _ _ _ _ _ _ _ _ _ _ rfl _ rfl _ rfl _ rfl, toNat_nat]
  rw [w64_succ (by omega), w64_id (n := (k : Int) + 2) (by omega) (by omega)]
  have e0 : nth fl k (Ty.dflt Ty.bool) = nth fl k false := rfl
  rw [e0]
  refine lt_t (by omega) ⟨⟨by omega, by simp only [len]; omega⟩, by simp only [len]; omega, br_split (fun hb => ⟨by simp only [len, List.length_cons, List.length_nil]; omega, ?_⟩) (fun hb => ?_)⟩
  · rw [if_pos hb] at h; exact h
  · rw [if_neg (by rw [hb]; simp), List.append_nil] at h; exact h
set_option maxHeartbeats 4000000 in
theorem run_ref_noted (ws : List Int) (fu : Int) (up : Bool) (tv : Int) (tk : List Int) (tt tn : Int) (vo di : List Bool) (r : List Int) (hp : checkLog ⟨ws, fu⟩ = 0 ∧ Sm r ∧ len vo ≤ 1000 ∧ len di ≤ 1000) (K : KK) (hK : K (.one (dB (noteG ⟨⟨ws, fu⟩, up, ⟨⟨tv, tk, tt⟩, tn⟩, vo, di⟩ r).2)) [.box [dL (noteG ⟨⟨ws, fu⟩, up, ⟨⟨tv, tk, tt⟩, tn⟩, vo, di⟩ r).1.f.words, dI (noteG ⟨⟨ws, fu⟩, up, ⟨⟨tv, tk, tt⟩, tn⟩, vo, di⟩ r).1.f.fuel, dB (noteG ⟨⟨ws, fu⟩, up, ⟨⟨tv, tk, tt⟩, tn⟩, vo, di⟩ r).1.up, dI (noteG ⟨⟨ws, fu⟩, up, ⟨⟨tv, tk, tt⟩, tn⟩, vo, di⟩ r).1.t.r.version, .own 4, dI (noteG ⟨⟨ws, fu⟩, up, ⟨⟨tv, tk, tt⟩, tn⟩, vo, di⟩ r).1.t.r.thr, dI (noteG ⟨⟨ws, fu⟩, up, ⟨⟨tv, tk, tt⟩, tn⟩, vo, di⟩ r).1.t.version, .own 5, .own 6], .dead, .dead, .dead, .arr .int (noteG ⟨⟨ws, fu⟩, up, ⟨⟨tv, tk, tt⟩, tn⟩, vo, di⟩ r).1.t.r.keys, .arr .bool (noteG ⟨⟨ws, fu⟩, up, ⟨⟨tv, tk, tt⟩, tn⟩, vo, di⟩ r).1.voted, .arr .bool (noteG ⟨⟨ws, fu⟩, up, ⟨⟨tv, tk, tt⟩, tn⟩, vo, di⟩ r).1.did]) : ∃ m, goO Γ_ref_noted tab fn_ref_noted 4 K m [.code (bodyOf fn_ref_noted)] (initN [.one (.ptr 0 0), .one (dL r)] [.box [dL ws, dI fu, dB up, dI tv, .own 1, dI tt, dI tn, .own 2, .own 3], .arr .int tk, .arr .bool vo, .arr .bool di]) := by
  obtain ⟨p1, p2, p3, p4⟩ := hp
  refine ⟨5, ?_⟩
  rw [ref_noted_w, ref_noted_vc _ _ _ _ _ _ _ _ _ _ _ _ _ rfl _ rfl]
  have ho := ofG_ok ⟨ws, fu⟩
  obtain ⟨k1, k2⟩ := keepG_sm (ofG ⟨ws, fu⟩)
  obtain ⟨o1, o2, o3, o4, o5, o6, o7⟩ := ho
  obtain ⟨s, hs⟩ : ∃ s, ofG ⟨ws, fu⟩ = s := ⟨_, rfl⟩
  unfold noteG changeG at hK
  simp only at hK
  rw [hs] at hK k1 k2 o1 o2 o3 o4 o5 o6 o7 ⊢
  have hend : goO Γ_ref_noted tab fn_ref_noted 4 K 1 ref_noted_L0 (ref_noted_S0 ((3 : Nat) : Int) 3 false r ws fu up tv tt tn [s.commit, s.abort, s.ended] (keepG s) s.n s.version s.commit s.abort s.ended tk vo di) := by
    rw [ref_noted_w0, ref_noted_vc0 _ _ _ _ _ _ _ _ _ _ _ _ _ _ _ _ _ _ _ _ _ _ _ rfl _ rfl _ rfl _ rfl]
    refine lt_f (by omega) ⟨⟨p1, p2, by simp only [len]; omega, k1⟩, ?_⟩
    obtain ⟨A, hA⟩ : ∃ A, appendF ⟨ws, fu⟩ r (keepG s) = A := ⟨_, rfl⟩
    rw [hA] at hK ⊢
    have lv : ((0 : Int) ≤ (((len vo) : Nat) : Int)) ∧ ((((((len vo) : Nat) : Int) * ((1 : Nat) : Int)) ≤ (140737488355328 : Int)) ∧ ((((len vo) : Nat) : Int) ≤ (140737488355328 : Int))) := ⟨by omega, by omega, by omega⟩
    have ld : ((0 : Int) ≤ (((len di) : Nat) : Int)) ∧ ((((((len di) : Nat) : Int) * ((1 : Nat) : Int)) ≤ (140737488355328 : Int)) ∧ ((((len di) : Nat) : Int) ≤ (140737488355328 : Int))) := ⟨by omega, by omega, by omega⟩
    by_cases h0 : A.2 = 0
    · rw [if_pos h0] at hK
      rw [h0]
      exact hK
    · rw [if_neg h0] at hK
      refine eq_f h0 ?_
      rw [show eqi A.2 0 = false from eqi_false.2 h0]
      by_cases h7 : A.2 = 7
      · rw [if_pos h7] at hK
        rw [h7]
        exact ⟨lv, ld, hK⟩
      · rw [if_neg h7] at hK
        exact eq_f h7 (eq_f h7 hK)
  have hall : ∀ keep0, keep0.length ≤ 5 → ((keep0 ++ if s.commit = true then [[(2 : Int), s.n]] else []) ++ if s.abort = true then [[(3 : Int), s.n]] else []) ++ (if s.ended = true then [[(4 : Int), s.n]] else []) = keepG s →
      goO Γ_ref_noted tab fn_ref_noted 4 K 4 ref_noted_L0 (ref_noted_S0 (0 : Int) 3 false r ws fu up tv tt tn [s.commit, s.abort, s.ended] keep0 s.n s.version s.commit s.abort s.ended tk vo di) := fun keep0 hl hk => by
    rw [← hk] at hend
    refine step_ref_noted 3 K r ws fu up tv tt tn _ rfl _ _ _ _ _ _ _ _ 0 (by omega) _ (by omega) ?_
    refine step_ref_noted 2 K r ws fu up tv tt tn _ rfl _ _ _ _ _ _ _ _ 1 (by omega) _ (by rw [List.length_append]; split <;> simp <;> omega) ?_
    refine step_ref_noted 1 K r ws fu up tv tt tn _ rfl _ _ _ _ _ _ _ _ 2 (by omega) _ (by rw [List.length_append, List.length_append]; split <;> split <;> simp <;> omega) ?_
    exact hend
  have e3 : (((len (s.commit :: (s.abort :: (s.ended :: [])))) : Nat) : Int) = 3 := rfl
  rw [e3]
  refine ⟨p1, ne_s (fun h => hall _ (by simp) ?_) (fun h => hall _ (by simp) ?_)⟩
  · unfold keepG
    rw [if_neg h]
  · have z := o7 h
    rw [z]; rfl
theorem sound_ref_noted : SoundC Tryz.prog tab n_ref_noted c_ref_noted := soundC_of ok_ref_noted hf_ref_noted hB_ref_noted (by
  intro vs bs p v bs' h hp
  unfold c_ref_noted at h
  split at h
  · cases h
    exact ⟨by kernel_rfl, rfl, .inr (.inr (run_ref_noted _ _ _ _ _ _ _ _ _ _ hp.1 _ ⟨rfl, rfl⟩))⟩
  · cases h)

def c_ref_GateBegins : Contract := fun vs bs => match vs, bs with
  | [.agg [.dat (.list .str) b], .one (.dat (.list .signed) l), .agg [.dat (.list .int) ws, .dat .int fu, .dat .bool up, .dat .int tv, .dat (.list .int) tk, .dat .int tt, .dat .int tn, .dat (.list .bool) vo, .dat (.list .bool) di], .agg [.dat (.list .root) rs, .dat (.list (.list .int)) rg, .dat .int ov, .dat .int ou, .dat (.list .target) ts, .dat (.list .int) sg, .dat (.list (.list .int)) im], .one (.dat .int now)], [] => some (some (checkG ⟨⟨ws, fu⟩, up, ⟨⟨tv, tk, tt⟩, tn⟩, vo, di⟩ = 0), .tup [.agg [.dat (.list .int) (beginG b l ⟨⟨ws, fu⟩, up, ⟨⟨tv, tk, tt⟩, tn⟩, vo, di⟩ ⟨rs, rg, ⟨ov, ou, ts⟩, sg, im⟩ now).1.f.words, .dat .int (beginG b l ⟨⟨ws, fu⟩, up, ⟨⟨tv, tk, tt⟩, tn⟩, vo, di⟩ ⟨rs, rg, ⟨ov, ou, ts⟩, sg, im⟩ now).1.f.fuel, .dat .bool (beginG b l ⟨⟨ws, fu⟩, up, ⟨⟨tv, tk, tt⟩, tn⟩, vo, di⟩ ⟨rs, rg, ⟨ov, ou, ts⟩, sg, im⟩ now).1.up, .dat .int (beginG b l ⟨⟨ws, fu⟩, up, ⟨⟨tv, tk, tt⟩, tn⟩, vo, di⟩ ⟨rs, rg, ⟨ov, ou, ts⟩, sg, im⟩ now).1.t.r.version, .dat (.list .int) (beginG b l ⟨⟨ws, fu⟩, up, ⟨⟨tv, tk, tt⟩, tn⟩, vo, di⟩ ⟨rs, rg, ⟨ov, ou, ts⟩, sg, im⟩ now).1.t.r.keys, .dat .int (beginG b l ⟨⟨ws, fu⟩, up, ⟨⟨tv, tk, tt⟩, tn⟩, vo, di⟩ ⟨rs, rg, ⟨ov, ou, ts⟩, sg, im⟩ now).1.t.r.thr, .dat .int (beginG b l ⟨⟨ws, fu⟩, up, ⟨⟨tv, tk, tt⟩, tn⟩, vo, di⟩ ⟨rs, rg, ⟨ov, ou, ts⟩, sg, im⟩ now).1.t.version, .dat (.list .bool) (beginG b l ⟨⟨ws, fu⟩, up, ⟨⟨tv, tk, tt⟩, tn⟩, vo, di⟩ ⟨rs, rg, ⟨ov, ou, ts⟩, sg, im⟩ now).1.voted, .dat (.list .bool) (beginG b l ⟨⟨ws, fu⟩, up, ⟨⟨tv, tk, tt⟩, tn⟩, vo, di⟩ ⟨rs, rg, ⟨ov, ou, ts⟩, sg, im⟩ now).1.did], .one (.dat .int (beginG b l ⟨⟨ws, fu⟩, up, ⟨⟨tv, tk, tt⟩, tn⟩, vo, di⟩ ⟨rs, rg, ⟨ov, ou, ts⟩, sg, im⟩ now).2.1), .one (.dat .int (beginG b l ⟨⟨ws, fu⟩, up, ⟨⟨tv, tk, tt⟩, tn⟩, vo, di⟩ ⟨rs, rg, ⟨ov, ou, ts⟩, sg, im⟩ now).2.2)], [])
  | _, _ => none
def Γ_ref_GateBegins : Ctx := [(n_ref_GateStateOf, c_ref_GateStateOf), (n_ref_Taken, c_ref_Taken), (n_ref_OwnGate, c_ref_OwnGate), (n_ref_noted, c_ref_noted)]
theorem ok_ref_GateBegins : Ok Tryz.prog tab Γ_ref_GateBegins := ((((ok_nil.consC hf_ref_noted hB_ref_noted sound_ref_noted).consC hf_ref_OwnGate hB_ref_OwnGate sound_ref_OwnGate).consC hf_ref_Taken hB_ref_Taken sound_ref_Taken).consC hf_ref_GateStateOf hB_ref_GateStateOf sound_ref_GateStateOf)
theorem ref_GateBegins_vc (b : List (List UInt8)) (l : List Signed) (ws : List Int) (fu : Int) (up : Bool) (tv : Int) (tk : List Int) (tt : Int) (tn : Int) (vo : List Bool) (di : List Bool) (rs : List Root) (rg : List (List Int)) (ov : Int) (ou : Int) (ts : List Vm.Target) (sg : List Int) (im : List (List Int)) (now : Int) (rec : RK) (K : KK) v0 (hv0 : v0 = (checkLog ⟨ws, fu⟩)) v1 (hv1 : v1 = (ofG ⟨ws, fu⟩)) v2 (hv2 : v2 = (takeT b l ⟨⟨tv, tk, tt⟩, tn⟩ ⟨rs, rg, ⟨ov, ou, ts⟩, sg, im⟩ now (((len vo) : Nat) : Int))) v3 (hv3 : v3 = (noteG ⟨⟨ws, fu⟩, up, ⟨⟨tv, tk, tt⟩, tn⟩, vo, di⟩ ((1 : Int) :: ((w64 (v1.n + (1 : Int))) :: (ov :: []))))) v4 (hv4 : v4 = (br (eqi v1.n (8 : Int))
 (K (.tup [.agg [dL [], dI (0 : Int), dB false, dI (0 : Int), dL [], dI (0 : Int), dI (0 : Int), dLb [], dLb []], .one (dI (0 : Int)), .one (dI (8 : Int))]) [])
 (br (!(eqi v2.snd (0 : Int)))
 (K (.tup [.agg [dL [], dI (0 : Int), dB false, dI (0 : Int), dL [], dI (0 : Int), dI (0 : Int), dLb [], dLb []], .one (dI (0 : Int)), .one (dI v2.snd)]) [])
 (((((len ws) * 8) ≤ 140737488355328) ∧ ((((len tk) * 8) ≤ 140737488355328) ∧ (((len vo) ≤ 140737488355328) ∧ ((len di) ≤ 140737488355328)))) ∧
 (((v0 = (0 : Int)) ∧ (((List.length ((1 : Int) :: ((w64 (v1.n + (1 : Int))) :: (ov :: [])))) ≤ 140737488355328) ∧ (((len vo) ≤ 1000) ∧ ((len di) ≤ 1000)))) ∧
 (br (!v3.snd)
 (K (.tup [.agg [dL v3.fst.f.words, dI v3.fst.f.fuel, dB v3.fst.up, dI v3.fst.t.r.version, dL v3.fst.t.r.keys, dI v3.fst.t.r.thr, dI v3.fst.t.version, dLb v3.fst.voted, dLb v3.fst.did], .one (dI (0 : Int)), .one (dI (0 : Int))]) [])
 ((((0 : Int) ≤ (((len v3.fst.voted) : Nat) : Int)) ∧ ((((((len v3.fst.voted) : Nat) : Int) * ((1 : Nat) : Int)) ≤ (140737488355328 : Int)) ∧ ((((len v3.fst.voted) : Nat) : Int) ≤ (140737488355328 : Int)))) ∧
 ((((0 : Int) ≤ (((len v3.fst.did) : Nat) : Int)) ∧ ((((((len v3.fst.did) : Nat) : Int) * ((1 : Nat) : Int)) ≤ (140737488355328 : Int)) ∧ ((((len v3.fst.did) : Nat) : Int) ≤ (140737488355328 : Int)))) ∧
 (K (.tup [.agg [dL v3.fst.f.words, dI v3.fst.f.fuel, dB v3.fst.up, dI v2.fst.r.version, dL v2.fst.r.keys, dI v2.fst.r.thr, dI v2.fst.version, dLb (zeros (Int.toNat (((len v3.fst.voted) : Nat) : Int)) (Ty.dflt Ty.bool)), dLb (zeros (Int.toNat (((len v3.fst.did) : Nat) : Int)) (Ty.dflt Ty.bool))], .one (dI (w64 (v1.n + (1 : Int)))), .one (dI (0 : Int))]) []))))))))) : segD Γ_ref_GateBegins tab fn_ref_GateBegins 0 K rec [.code (bodyOf fn_ref_GateBegins)] (initSt [.agg [.dat (Ty.list Ty.str) b], .one (.dat (Ty.list Ty.signed) l), .agg [dL ws, dI fu, dB up, dI tv, dL tk, dI tt, dI tn, dLb vo, dLb di], .agg [.dat (Ty.list Ty.root) rs, dR rg, dI ov, dI ou, .dat (Ty.list Ty.target) ts, dL sg, dR im], .one (dI now)] []) = (
 (v0 = (0 : Int)) ∧
 (br (!up)
 (K (.tup [.agg [dL [], dI (0 : Int), dB false, dI (0 : Int), dL [], dI (0 : Int), dI (0 : Int), dLb [], dLb []], .one (dI (0 : Int)), .one (dI (7 : Int))]) [])
 (br (!(eqi v1.n (0 : Int)))
 (br (!v1.ended)
 (K (.tup [.agg [dL [], dI (0 : Int), dB false, dI (0 : Int), dL [], dI (0 : Int), dI (0 : Int), dLb [], dLb []], .one (dI (0 : Int)), .one (dI (12 : Int))]) [])
 v4)
 v4))) := by subst_vars; kernel_rfl
theorem ref_GateBegins_w (m : Nat) (K : KK) (st : St) : goD Γ_ref_GateBegins tab fn_ref_GateBegins 0 K (m + 1) [.code (bodyOf fn_ref_GateBegins)] st = segD Γ_ref_GateBegins tab fn_ref_GateBegins 0 K (goD Γ_ref_GateBegins tab fn_ref_GateBegins 0 K m) [.code (bodyOf fn_ref_GateBegins)] st := rfl

set_option maxHeartbeats 4000000 in
theorem run_ref_GateBegins (b : List (List UInt8)) (l : List Vm.Signed) (ws : List Int) (fu : Int) (up : Bool) (tv : Int) (tk : List Int) (tt tn : Int) (vo di : List Bool) (rs : List Vm.Root) (rg : List (List Int)) (ov ou : Int) (ts : List Vm.Target) (sg : List Int) (im : List (List Int)) (now : Int) (hp : checkG ⟨⟨ws, fu⟩, up, ⟨⟨tv, tk, tt⟩, tn⟩, vo, di⟩ = 0) (K : KK) (hK : K (.tup [.agg [dL (beginG b l ⟨⟨ws, fu⟩, up, ⟨⟨tv, tk, tt⟩, tn⟩, vo, di⟩ ⟨rs, rg, ⟨ov, ou, ts⟩, sg, im⟩ now).1.f.words, dI (beginG b l ⟨⟨ws, fu⟩, up, ⟨⟨tv, tk, tt⟩, tn⟩, vo, di⟩ ⟨rs, rg, ⟨ov, ou, ts⟩, sg, im⟩ now).1.f.fuel, dB (beginG b l ⟨⟨ws, fu⟩, up, ⟨⟨tv, tk, tt⟩, tn⟩, vo, di⟩ ⟨rs, rg, ⟨ov, ou, ts⟩, sg, im⟩ now).1.up, dI (beginG b l ⟨⟨ws, fu⟩, up, ⟨⟨tv, tk, tt⟩, tn⟩, vo, di⟩ ⟨rs, rg, ⟨ov, ou, ts⟩, sg, im⟩ now).1.t.r.version, dL (beginG b l ⟨⟨ws, fu⟩, up, ⟨⟨tv, tk, tt⟩, tn⟩, vo, di⟩ ⟨rs, rg, ⟨ov, ou, ts⟩, sg, im⟩ now).1.t.r.keys, dI (beginG b l ⟨⟨ws, fu⟩, up, ⟨⟨tv, tk, tt⟩, tn⟩, vo, di⟩ ⟨rs, rg, ⟨ov, ou, ts⟩, sg, im⟩ now).1.t.r.thr, dI (beginG b l ⟨⟨ws, fu⟩, up, ⟨⟨tv, tk, tt⟩, tn⟩, vo, di⟩ ⟨rs, rg, ⟨ov, ou, ts⟩, sg, im⟩ now).1.t.version, dLb (beginG b l ⟨⟨ws, fu⟩, up, ⟨⟨tv, tk, tt⟩, tn⟩, vo, di⟩ ⟨rs, rg, ⟨ov, ou, ts⟩, sg, im⟩ now).1.voted, dLb (beginG b l ⟨⟨ws, fu⟩, up, ⟨⟨tv, tk, tt⟩, tn⟩, vo, di⟩ ⟨rs, rg, ⟨ov, ou, ts⟩, sg, im⟩ now).1.did], .one (dI (beginG b l ⟨⟨ws, fu⟩, up, ⟨⟨tv, tk, tt⟩, tn⟩, vo, di⟩ ⟨rs, rg, ⟨ov, ou, ts⟩, sg, im⟩ now).2.1), .one (dI (beginG b l ⟨⟨ws, fu⟩, up, ⟨⟨tv, tk, tt⟩, tn⟩, vo, di⟩ ⟨rs, rg, ⟨ov, ou, ts⟩, sg, im⟩ now).2.2)]) []) : ∃ m, goD Γ_ref_GateBegins tab fn_ref_GateBegins 0 K m [.code (bodyOf fn_ref_GateBegins)] (initSt [.agg [.dat (.list .str) b], .one (.dat (.list .signed) l), .agg [dL ws, dI fu, dB up, dI tv, dL tk, dI tt, dI tn, dLb vo, dLb di], .agg [.dat (.list .root) rs, dR rg, dI ov, dI ou, .dat (.list .target) ts, dL sg, dR im], .one (dI now)] []) := by
  refine ⟨1, ?_⟩
  rw [ref_GateBegins_w, ref_GateBegins_vc _ _ _ _ _ _ _ _ _ _ _ _ _ _ _ _ _ _ _ _ _ _ rfl _ rfl _ rfl _ rfl _ rfl]
  obtain ⟨c1, c2, c3, c4, c5⟩ := checkG_ok hp
  obtain ⟨s1, s2, s3, s4⟩ := checkG_sm hp
  simp only at c2 c3 c4
  have ho := ofG_ok ⟨ws, fu⟩
  obtain ⟨o1, o2, _⟩ := ho
  refine ⟨c1, nt_s (fun h => ?_) (fun h => ?_)⟩
  · have eu : upG ⟨⟨ws, fu⟩, up, ⟨⟨tv, tk, tt⟩, tn⟩, vo, di⟩ = 7 := by unfold upG; rw [if_pos hp, if_neg (by rw [h]; simp)]
    unfold beginG beginE at hK
    rw [eu] at hK; exact hK
  have eu : upG ⟨⟨ws, fu⟩, up, ⟨⟨tv, tk, tt⟩, tn⟩, vo, di⟩ = 0 := by unfold upG; rw [if_pos hp, if_pos h]
  have hE : beginE b l ⟨⟨ws, fu⟩, up, ⟨⟨tv, tk, tt⟩, tn⟩, vo, di⟩ ⟨rs, rg, ⟨ov, ou, ts⟩, sg, im⟩ now = if 0 < (ofG ⟨ws, fu⟩).n ∧ (ofG ⟨ws, fu⟩).ended = false then 12 else if (ofG ⟨ws, fu⟩).n = 8 then 8 else (takeT b l ⟨⟨tv, tk, tt⟩, tn⟩ ⟨rs, rg, ⟨ov, ou, ts⟩, sg, im⟩ now (vo.length : Int)).2 := by unfold beginE; rw [if_pos eu]
  unfold beginG at hK
  rw [hE] at hK
  clear hE
  simp only at hK
  have el : (((len vo) : Nat) : Int) = (vo.length : Int) := rfl
  rw [el]
  obtain ⟨T, hT⟩ : ∃ T, takeT b l ⟨⟨tv, tk, tt⟩, tn⟩ ⟨rs, rg, ⟨ov, ou, ts⟩, sg, im⟩ now (vo.length : Int) = T := ⟨_, rfl⟩
  obtain ⟨s, hs⟩ : ∃ s, ofG ⟨ws, fu⟩ = s := ⟨_, rfl⟩
  rw [hT, hs] at hK ⊢
  rw [hs] at o1 o2
  have w1 : w64 (s.n + 1) = s.n + 1 := w64_id (by omega) (by omega)
  rw [w1]
  obtain ⟨Y, hY⟩ : ∃ Y, noteG ⟨⟨ws, fu⟩, up, ⟨⟨tv, tk, tt⟩, tn⟩, vo, di⟩ [1, s.n + 1, ov] = Y := ⟨_, rfl⟩
  have hn := (note_allG (g := ⟨⟨ws, fu⟩, up, ⟨⟨tv, tk, tt⟩, tn⟩, vo, di⟩) (r := [1, s.n + 1, ov]) c1)
  rw [hY] at hn ⊢
  obtain ⟨_, _, hv, hd, _⟩ := hn
  simp only at hv hd
  have lv : len Y.1.voted ≤ 4 := by simp only [len]; omega
  have ld : len Y.1.did ≤ 4 := by simp only [len]; omega
  have end_ : ¬ (0 < s.n ∧ s.ended = false) → br (eqi s.n (8 : Int))
      (K (.tup [.agg [dL [], dI (0 : Int), dB false, dI (0 : Int), dL [], dI (0 : Int), dI (0 : Int), dLb [], dLb []], .one (dI (0 : Int)), .one (dI (8 : Int))]) [])
      (br (!(eqi T.2 (0 : Int)))
       (K (.tup [.agg [dL [], dI (0 : Int), dB false, dI (0 : Int), dL [], dI (0 : Int), dI (0 : Int), dLb [], dLb []], .one (dI (0 : Int)), .one (dI T.2)]) [])
       (((((len ws) * 8) ≤ 140737488355328) ∧ ((((len tk) * 8) ≤ 140737488355328) ∧ (((len vo) ≤ 140737488355328) ∧ ((len di) ≤ 140737488355328)))) ∧
        (((checkLog (⟨ws, fu⟩ : Vm.Flash) = (0 : Int)) ∧ (((List.length ((1 : Int) :: ((s.n + 1) :: (ov :: [])))) ≤ 140737488355328) ∧ (((len vo) ≤ 1000) ∧ ((len di) ≤ 1000)))) ∧
        (br (!Y.2)
         (K (.tup [.agg [dL Y.1.f.words, dI Y.1.f.fuel, dB Y.1.up, dI Y.1.t.r.version, dL Y.1.t.r.keys, dI Y.1.t.r.thr, dI Y.1.t.version, dLb Y.1.voted, dLb Y.1.did], .one (dI (0 : Int)), .one (dI (0 : Int))]) [])
         ((((0 : Int) ≤ (((len Y.1.voted) : Nat) : Int)) ∧ ((((((len Y.1.voted) : Nat) : Int) * ((1 : Nat) : Int)) ≤ (140737488355328 : Int)) ∧ ((((len Y.1.voted) : Nat) : Int) ≤ (140737488355328 : Int)))) ∧
          ((((0 : Int) ≤ (((len Y.1.did) : Nat) : Int)) ∧ ((((((len Y.1.did) : Nat) : Int) * ((1 : Nat) : Int)) ≤ (140737488355328 : Int)) ∧ ((((len Y.1.did) : Nat) : Int) ≤ (140737488355328 : Int)))) ∧
          (K (.tup [.agg [dL Y.1.f.words, dI Y.1.f.fuel, dB Y.1.up, dI T.1.r.version, dL T.1.r.keys, dI T.1.r.thr, dI T.1.version, dLb (zeros (Int.toNat (((len Y.1.voted) : Nat) : Int)) (Ty.dflt Ty.bool)), dLb (zeros (Int.toNat (((len Y.1.did) : Nat) : Int)) (Ty.dflt Ty.bool))], .one (dI (s.n + 1)), .one (dI (0 : Int))]) []))))))) := fun c => by
    simp only [if_neg c] at hK
    refine eq_s (fun h1 => ?_) (fun h1 => ne_s (fun h2 => ?_) (fun h2 => ⟨⟨s1, s2, by omega, by omega⟩, ⟨c1, by simp, s3, s4⟩, nt_s (fun h3 => ?_) (fun h3 => ⟨⟨by omega, by omega, by omega⟩, ⟨by omega, by omega, by omega⟩, ?_⟩)⟩))
    · simp only [if_pos h1] at hK; exact hK
    · simp only [if_neg h1, if_neg h2] at hK; exact hK
    all_goals
      simp only [if_neg h1, if_pos h2] at hK
      unfold begunG at hK
      rw [hY] at hK
    · rw [if_neg (by rw [h3]; simp)] at hK; exact hK
    · rw [if_pos h3] at hK
      rw [toNat_nat, toNat_nat, show len Y.1.voted = vo.length from hv, show len Y.1.did = di.length from hd]
      exact hK
  refine ne_s (fun h1 => nt_s (fun h2 => ?_) (fun h2 => end_ (by rw [h2]; simp))) (fun h1 => end_ (by omega))
  simp only [if_pos (show 0 < s.n ∧ s.ended = false from ⟨by omega, h2⟩)] at hK; exact hK
theorem sound_ref_GateBegins : SoundC Tryz.prog tab n_ref_GateBegins c_ref_GateBegins := soundC_of ok_ref_GateBegins hf_ref_GateBegins hB_ref_GateBegins (by
  intro vs bs p v bs' h hp
  unfold c_ref_GateBegins at h
  split at h
  · cases h
    exact ⟨by kernel_rfl, rfl, .inl (run_ref_GateBegins _ _ _ _ _ _ _ _ _ _ _ _ _ _ _ _ _ _ _ hp.1 _ ⟨rfl, rfl⟩)⟩
  · cases h)

def c_ref_GateGivesUp : Contract := fun vs bs => match vs, bs with
  | [.agg [.dat (.list .int) ws, .dat .int fu, .dat .bool up, .dat .int tv, .dat (.list .int) tk, .dat .int tt, .dat .int tn, .dat (.list .bool) vo, .dat (.list .bool) di]], [] => some (some (checkG ⟨⟨ws, fu⟩, up, ⟨⟨tv, tk, tt⟩, tn⟩, vo, di⟩ = 0), .tup [.agg [.dat (.list .int) (giveG ⟨⟨ws, fu⟩, up, ⟨⟨tv, tk, tt⟩, tn⟩, vo, di⟩).1.f.words, .dat .int (giveG ⟨⟨ws, fu⟩, up, ⟨⟨tv, tk, tt⟩, tn⟩, vo, di⟩).1.f.fuel, .dat .bool (giveG ⟨⟨ws, fu⟩, up, ⟨⟨tv, tk, tt⟩, tn⟩, vo, di⟩).1.up, .dat .int (giveG ⟨⟨ws, fu⟩, up, ⟨⟨tv, tk, tt⟩, tn⟩, vo, di⟩).1.t.r.version, .dat (.list .int) (giveG ⟨⟨ws, fu⟩, up, ⟨⟨tv, tk, tt⟩, tn⟩, vo, di⟩).1.t.r.keys, .dat .int (giveG ⟨⟨ws, fu⟩, up, ⟨⟨tv, tk, tt⟩, tn⟩, vo, di⟩).1.t.r.thr, .dat .int (giveG ⟨⟨ws, fu⟩, up, ⟨⟨tv, tk, tt⟩, tn⟩, vo, di⟩).1.t.version, .dat (.list .bool) (giveG ⟨⟨ws, fu⟩, up, ⟨⟨tv, tk, tt⟩, tn⟩, vo, di⟩).1.voted, .dat (.list .bool) (giveG ⟨⟨ws, fu⟩, up, ⟨⟨tv, tk, tt⟩, tn⟩, vo, di⟩).1.did], .one (.dat .int (giveG ⟨⟨ws, fu⟩, up, ⟨⟨tv, tk, tt⟩, tn⟩, vo, di⟩).2)], [])
  | _, _ => none
def Γ_ref_GateGivesUp : Ctx := [(n_ref_GateStateOf, c_ref_GateStateOf), (n_ref_OwnGate, c_ref_OwnGate), (n_ref_noted, c_ref_noted)]
theorem ok_ref_GateGivesUp : Ok Tryz.prog tab Γ_ref_GateGivesUp := (((ok_nil.consC hf_ref_noted hB_ref_noted sound_ref_noted).consC hf_ref_OwnGate hB_ref_OwnGate sound_ref_OwnGate).consC hf_ref_GateStateOf hB_ref_GateStateOf sound_ref_GateStateOf)
theorem ref_GateGivesUp_vc (ws : List Int) (fu : Int) (up : Bool) (tv : Int) (tk : List Int) (tt : Int) (tn : Int) (vo : List Bool) (di : List Bool) (rec : RK) (K : KK) v0 (hv0 : v0 = (checkLog ⟨ws, fu⟩)) v1 (hv1 : v1 = (ofG ⟨ws, fu⟩)) v2 (hv2 : v2 = (noteG ⟨⟨ws, fu⟩, up, ⟨⟨tv, tk, tt⟩, tn⟩, vo, di⟩ ((3 : Int) :: (v1.n :: [])))) v3 (hv3 : v3 = (K (.tup [.agg [dL [], dI (0 : Int), dB false, dI (0 : Int), dL [], dI (0 : Int), dI (0 : Int), dLb [], dLb []], .one (dI (12 : Int))]) [])) : segD Γ_ref_GateGivesUp tab fn_ref_GateGivesUp 0 K rec [.code (bodyOf fn_ref_GateGivesUp)] (initSt [.agg [dL ws, dI fu, dB up, dI tv, dL tk, dI tt, dI tn, dLb vo, dLb di]] []) = (
 (v0 = (0 : Int)) ∧
 (br (!up)
 (K (.tup [.agg [dL [], dI (0 : Int), dB false, dI (0 : Int), dL [], dI (0 : Int), dI (0 : Int), dLb [], dLb []], .one (dI (7 : Int))]) [])
 (br (eqi v1.n (0 : Int))
 v3
 (br v1.commit
 v3
 (br v1.abort
 v3
 (((((len ws) * 8) ≤ 140737488355328) ∧ ((((len tk) * 8) ≤ 140737488355328) ∧ (((len vo) ≤ 140737488355328) ∧ ((len di) ≤ 140737488355328)))) ∧
 (((v0 = (0 : Int)) ∧ (((List.length ((3 : Int) :: (v1.n :: []))) ≤ 140737488355328) ∧ (((len vo) ≤ 1000) ∧ ((len di) ≤ 1000)))) ∧
 (K (.tup [.agg [dL v2.fst.f.words, dI v2.fst.f.fuel, dB v2.fst.up, dI v2.fst.t.r.version, dL v2.fst.t.r.keys, dI v2.fst.t.r.thr, dI v2.fst.t.version, dLb v2.fst.voted, dLb v2.fst.did], .one (dI (0 : Int))]) [])))))))) := by subst_vars; kernel_rfl
theorem ref_GateGivesUp_w (m : Nat) (K : KK) (st : St) : goD Γ_ref_GateGivesUp tab fn_ref_GateGivesUp 0 K (m + 1) [.code (bodyOf fn_ref_GateGivesUp)] st = segD Γ_ref_GateGivesUp tab fn_ref_GateGivesUp 0 K (goD Γ_ref_GateGivesUp tab fn_ref_GateGivesUp 0 K m) [.code (bodyOf fn_ref_GateGivesUp)] st := rfl

set_option maxHeartbeats 4000000 in
theorem run_ref_GateGivesUp (ws : List Int) (fu : Int) (up : Bool) (tv : Int) (tk : List Int) (tt tn : Int) (vo di : List Bool) (hp : checkG ⟨⟨ws, fu⟩, up, ⟨⟨tv, tk, tt⟩, tn⟩, vo, di⟩ = 0) (K : KK) (hK : K (.tup [.agg [dL (giveG ⟨⟨ws, fu⟩, up, ⟨⟨tv, tk, tt⟩, tn⟩, vo, di⟩).1.f.words, dI (giveG ⟨⟨ws, fu⟩, up, ⟨⟨tv, tk, tt⟩, tn⟩, vo, di⟩).1.f.fuel, dB (giveG ⟨⟨ws, fu⟩, up, ⟨⟨tv, tk, tt⟩, tn⟩, vo, di⟩).1.up, dI (giveG ⟨⟨ws, fu⟩, up, ⟨⟨tv, tk, tt⟩, tn⟩, vo, di⟩).1.t.r.version, dL (giveG ⟨⟨ws, fu⟩, up, ⟨⟨tv, tk, tt⟩, tn⟩, vo, di⟩).1.t.r.keys, dI (giveG ⟨⟨ws, fu⟩, up, ⟨⟨tv, tk, tt⟩, tn⟩, vo, di⟩).1.t.r.thr, dI (giveG ⟨⟨ws, fu⟩, up, ⟨⟨tv, tk, tt⟩, tn⟩, vo, di⟩).1.t.version, dLb (giveG ⟨⟨ws, fu⟩, up, ⟨⟨tv, tk, tt⟩, tn⟩, vo, di⟩).1.voted, dLb (giveG ⟨⟨ws, fu⟩, up, ⟨⟨tv, tk, tt⟩, tn⟩, vo, di⟩).1.did], .one (dI (giveG ⟨⟨ws, fu⟩, up, ⟨⟨tv, tk, tt⟩, tn⟩, vo, di⟩).2)]) []) : ∃ m, goD Γ_ref_GateGivesUp tab fn_ref_GateGivesUp 0 K m [.code (bodyOf fn_ref_GateGivesUp)] (initSt [.agg [dL ws, dI fu, dB up, dI tv, dL tk, dI tt, dI tn, dLb vo, dLb di]] []) := by
  refine ⟨1, ?_⟩
  rw [ref_GateGivesUp_w, ref_GateGivesUp_vc _ _ _ _ _ _ _ _ _ _ _ _ rfl _ rfl _ rfl _ rfl]
  obtain ⟨c1, c2, c3, c4, c5⟩ := checkG_ok hp
  obtain ⟨s1, s2, s3, s4⟩ := checkG_sm hp
  obtain ⟨g, hg⟩ : ∃ g : Vm.Gate, g = ⟨⟨ws, fu⟩, up, ⟨⟨tv, tk, tt⟩, tn⟩, vo, di⟩ := ⟨_, rfl⟩
  have hgf : g.f = ⟨ws, fu⟩ := by rw [hg]
  have e1 : up = false → giveG g = (noGate, 7) := fun h => by
    have e : giveE g = 7 := by unfold giveE upG; rw [hg, if_pos hp, h]; rfl
    unfold giveG; rw [e]; rfl
  have e2 : up = true → ((ofG ⟨ws, fu⟩).n = 0 ∨ (ofG ⟨ws, fu⟩).commit = true ∨ (ofG ⟨ws, fu⟩).abort = true) → giveG g = (noGate, 12) := fun h c => by
    have e : upG g = 0 := by unfold upG; rw [hg, if_pos hp]; exact if_pos h
    have e' : giveE g = 12 := by unfold giveE; rw [if_pos e, hgf, if_pos c]
    unfold giveG; rw [e']; rfl
  have e3 : up = true → ¬ ((ofG ⟨ws, fu⟩).n = 0 ∨ (ofG ⟨ws, fu⟩).commit = true ∨ (ofG ⟨ws, fu⟩).abort = true) → giveG g = ((noteG g [3, (ofG ⟨ws, fu⟩).n]).1, 0) := fun h c => by
    have e : upG g = 0 := by unfold upG; rw [hg, if_pos hp]; exact if_pos h
    have e' : giveE g = 0 := by unfold giveE; rw [if_pos e, hgf, if_neg c]
    unfold giveG; rw [if_pos e', hgf]
  rw [← hg] at hK
  refine ⟨c1, nt_s (fun h => ?_) (fun h => ?_)⟩
  · rw [e1 h] at hK; exact hK
  refine eq_s (fun h1 => ?_) (fun h1 => br_split (fun h2 => ?_) (fun h2 => br_split (fun h3 => ?_) (fun h3 => ⟨⟨s1, s2, by omega, by omega⟩, ⟨c1, by simp, s3, s4⟩, ?_⟩)))
  · rw [e2 h (.inl h1)] at hK; exact hK
  · rw [e2 h (.inr (.inl h2))] at hK; exact hK
  · rw [e2 h (.inr (.inr h3))] at hK; exact hK
  · rw [e3 h (by rw [h2, h3]; simp [h1]), hg] at hK; exact hK
theorem sound_ref_GateGivesUp : SoundC Tryz.prog tab n_ref_GateGivesUp c_ref_GateGivesUp := soundC_of ok_ref_GateGivesUp hf_ref_GateGivesUp hB_ref_GateGivesUp (by
  intro vs bs p v bs' h hp
  unfold c_ref_GateGivesUp at h
  split at h
  · cases h
    exact ⟨by kernel_rfl, rfl, .inl (run_ref_GateGivesUp _ _ _ _ _ _ _ _ _ hp.1 _ ⟨rfl, rfl⟩)⟩
  · cases h)

def c_law_GateSays : Contract := fun vs bs => match vs, bs with
  | [.agg [.dat (.list .str) b], .one (.dat (.list .signed) _), .agg [.dat (.list .int) ws, .dat .int _, .dat .bool _, .dat .int _, .dat (.list .int) tk, .dat .int _, .dat .int _, .dat (.list .bool) vo, .dat (.list .bool) di], .agg [.dat (.list .root) _, .dat (.list (.list .int)) _, .dat .int _, .dat .int _, .dat (.list .target) _, .dat (.list .int) _, .dat (.list (.list .int)) _], .one (.dat .int _), .agg [.dat .int _, .dat (.list .int) rk, .dat .int _], .one (.dat .int _)], [] => some (some (b.length ≤ 140737488355328 ∧ len ws * 8 ≤ 140737488355328 ∧ len tk * 8 ≤ 140737488355328 ∧ len vo ≤ 140737488355328 ∧ len di ≤ 140737488355328 ∧ len rk * 8 ≤ 140737488355328), .one (.dat .bool true), [])
  | _, _ => none
def Γ_law_GateSays : Ctx := [(n_ref_OwnGate_d, c_ref_OwnGate_d), (n_gate_Begin, c_gate_Begin), (n_gate_GiveUp, c_gate_GiveUp), (n_gate_Boot, c_gate_Boot), (n_gate_Read, c_gate_Read), (n_gate_New, c_gate_New), (n_ref_CheckGate, c_ref_CheckGate), (n_law_gated, c_law_gated), (n_gate_Check, c_gate_Check), (n_ref_SameGate, c_ref_SameGate), (n_ref_CheckRoot, c_ref_CheckRoot), (n_ref_NewGate, c_ref_NewGate), (n_ref_GateBegins, c_ref_GateBegins), (n_ref_GateGivesUp, c_ref_GateGivesUp), (n_ref_GateStateOf, c_ref_GateStateOf)]
theorem ok_law_GateSays : Ok Tryz.prog tab Γ_law_GateSays := (((((((((((((((ok_nil.consC hf_ref_GateStateOf hB_ref_GateStateOf sound_ref_GateStateOf).consC hf_ref_GateGivesUp hB_ref_GateGivesUp sound_ref_GateGivesUp).consC hf_ref_GateBegins hB_ref_GateBegins sound_ref_GateBegins).consC hf_ref_NewGate hB_ref_NewGate sound_ref_NewGate).consC hf_ref_CheckRoot hB_ref_CheckRoot sound_ref_CheckRoot).consC hf_ref_SameGate hB_ref_SameGate sound_ref_SameGate).consC hf_gate_Check hB_gate_Check sound_gate_Check).consC hf_law_gated hB_law_gated sound_law_gated).consC hf_ref_CheckGate hB_ref_CheckGate sound_ref_CheckGate).consC hf_gate_New hB_gate_New sound_gate_New).consC hf_gate_Read hB_gate_Read sound_gate_Read).consC hf_gate_Boot hB_gate_Boot sound_gate_Boot).consC hf_gate_GiveUp hB_gate_GiveUp sound_gate_GiveUp).consC hf_gate_Begin hB_gate_Begin sound_gate_Begin).consC hf_ref_OwnGate_d hB_ref_OwnGate_d sound_ref_OwnGate_d)
theorem law_GateSays_vc (b : List (List UInt8)) (l : List Signed) (ws : List Int) (fu : Int) (up : Bool) (tv : Int) (tk : List Int) (tt : Int) (tn : Int) (vo : List Bool) (di : List Bool) (rs : List Root) (rg : List (List Int)) (ov : Int) (ou : Int) (ts : List Vm.Target) (sg : List Int) (im : List (List Int)) (now : Int) (rv : Int) (rk : List Int) (rt : Int) (units : Int) (rec : RK) (K : KK) v0 (hv0 : v0 = (checkG ⟨⟨ws, fu⟩, up, ⟨⟨tv, tk, tt⟩, tn⟩, vo, di⟩)) v1 (hv1 : v1 = (sameGate ⟨⟨ws, fu⟩, up, ⟨⟨tv, tk, tt⟩, tn⟩, vo, di⟩ ⟨⟨ws, fu⟩, up, ⟨⟨tv, tk, tt⟩, tn⟩, vo, di⟩)) v2 (hv2 : v2 = (newG ⟨rv, rk, rt⟩ units)) v3 (hv3 : v3 = (sameGate ⟨⟨v2.fst.f.words, v2.fst.f.fuel⟩, v2.fst.up, ⟨⟨v2.fst.t.r.version, v2.fst.t.r.keys, v2.fst.t.r.thr⟩, v2.fst.t.version⟩, v2.fst.voted, v2.fst.did⟩ ⟨⟨[], (0 : Int)⟩, false, ⟨⟨(0 : Int), [], (0 : Int)⟩, (0 : Int)⟩, [], []⟩)) v4 (hv4 : v4 = (beginG b l ⟨⟨ws, fu⟩, up, ⟨⟨tv, tk, tt⟩, tn⟩, vo, di⟩ ⟨rs, rg, ⟨ov, ou, ts⟩, sg, im⟩ now)) v5 (hv5 : v5 = (giveG ⟨⟨ws, fu⟩, up, ⟨⟨tv, tk, tt⟩, tn⟩, vo, di⟩)) v6 (hv6 : v6 = (bootG ⟨⟨ws, fu⟩, up, ⟨⟨tv, tk, tt⟩, tn⟩, vo, di⟩)) v7 (hv7 : v7 = (readG ⟨⟨ws, fu⟩, up, ⟨⟨tv, tk, tt⟩, tn⟩, vo, di⟩)) v8 (hv8 : v8 = (sameGate ⟨⟨v4.fst.f.words, v4.fst.f.fuel⟩, v4.fst.up, ⟨⟨v4.fst.t.r.version, v4.fst.t.r.keys, v4.fst.t.r.thr⟩, v4.fst.t.version⟩, v4.fst.voted, v4.fst.did⟩ ⟨⟨[], (0 : Int)⟩, false, ⟨⟨(0 : Int), [], (0 : Int)⟩, (0 : Int)⟩, [], []⟩)) v9 (hv9 : v9 = (sameGate ⟨⟨v5.fst.f.words, v5.fst.f.fuel⟩, v5.fst.up, ⟨⟨v5.fst.t.r.version, v5.fst.t.r.keys, v5.fst.t.r.thr⟩, v5.fst.t.version⟩, v5.fst.voted, v5.fst.did⟩ ⟨⟨[], (0 : Int)⟩, false, ⟨⟨(0 : Int), [], (0 : Int)⟩, (0 : Int)⟩, [], []⟩)) v10 (hv10 : v10 = (sameGate ⟨⟨v6.fst.f.words, v6.fst.f.fuel⟩, v6.fst.up, ⟨⟨v6.fst.t.r.version, v6.fst.t.r.keys, v6.fst.t.r.thr⟩, v6.fst.t.version⟩, v6.fst.voted, v6.fst.did⟩ ⟨⟨[], (0 : Int)⟩, false, ⟨⟨(0 : Int), [], (0 : Int)⟩, (0 : Int)⟩, [], []⟩)) v11 (hv11 : v11 = (sameGate ⟨⟨v4.fst.f.words, v4.fst.f.fuel⟩, v4.fst.up, ⟨⟨v4.fst.t.r.version, v4.fst.t.r.keys, v4.fst.t.r.thr⟩, v4.fst.t.version⟩, v4.fst.voted, v4.fst.did⟩ ⟨⟨v4.fst.f.words, v4.fst.f.fuel⟩, v4.fst.up, ⟨⟨v4.fst.t.r.version, v4.fst.t.r.keys, v4.fst.t.r.thr⟩, v4.fst.t.version⟩, v4.fst.voted, v4.fst.did⟩)) v12 (hv12 : v12 = (sameGate ⟨⟨v5.fst.f.words, v5.fst.f.fuel⟩, v5.fst.up, ⟨⟨v5.fst.t.r.version, v5.fst.t.r.keys, v5.fst.t.r.thr⟩, v5.fst.t.version⟩, v5.fst.voted, v5.fst.did⟩ ⟨⟨v5.fst.f.words, v5.fst.f.fuel⟩, v5.fst.up, ⟨⟨v5.fst.t.r.version, v5.fst.t.r.keys, v5.fst.t.r.thr⟩, v5.fst.t.version⟩, v5.fst.voted, v5.fst.did⟩)) v13 (hv13 : v13 = (sameGate ⟨⟨v6.fst.f.words, v6.fst.f.fuel⟩, v6.fst.up, ⟨⟨v6.fst.t.r.version, v6.fst.t.r.keys, v6.fst.t.r.thr⟩, v6.fst.t.version⟩, v6.fst.voted, v6.fst.did⟩ ⟨⟨ws, (-(1 : Int))⟩, true, ⟨⟨tv, tk, tt⟩, tn⟩, (zeros (Int.toNat (((len vo) : Nat) : Int)) (Ty.dflt Ty.bool)), (zeros (Int.toNat (((len di) : Nat) : Int)) (Ty.dflt Ty.bool))⟩)) v14 (hv14 : v14 = (checkLog ⟨ws, fu⟩)) v15 (hv15 : v15 = (ofG ⟨ws, fu⟩)) v16 (hv16 : v16 = (checkRoot rv rk rt)) v17 (hv17 : v17 = (sameGate ⟨⟨v2.fst.f.words, v2.fst.f.fuel⟩, v2.fst.up, ⟨⟨v2.fst.t.r.version, v2.fst.t.r.keys, v2.fst.t.r.thr⟩, v2.fst.t.version⟩, v2.fst.voted, v2.fst.did⟩ ⟨⟨v2.fst.f.words, v2.fst.f.fuel⟩, v2.fst.up, ⟨⟨v2.fst.t.r.version, v2.fst.t.r.keys, v2.fst.t.r.thr⟩, v2.fst.t.version⟩, v2.fst.voted, v2.fst.did⟩)) v20 (hv20 : v20 = (br (eqi v4.snd.snd v4.snd.snd)
 (br (eqi v4.snd.fst v4.snd.fst)
 ((((List.length v4.fst.f.words) ≤ 140737488355328) ∧ (((List.length v4.fst.t.r.keys) ≤ 140737488355328) ∧ (((len v4.fst.voted) ≤ 140737488355328) ∧ ((len v4.fst.did) ≤ 140737488355328)))) ∧
 (br v11
 (br (eqi v5.snd v5.snd)
 ((((List.length v5.fst.f.words) ≤ 140737488355328) ∧ (((List.length v5.fst.t.r.keys) ≤ 140737488355328) ∧ (((len v5.fst.voted) ≤ 140737488355328) ∧ ((len v5.fst.did) ≤ 140737488355328)))) ∧
 (br v12
 (br (eqi v6.snd (0 : Int))
 ((((List.length v6.fst.f.words) ≤ 140737488355328) ∧ (((List.length v6.fst.t.r.keys) ≤ 140737488355328) ∧ (((len v6.fst.voted) ≤ 140737488355328) ∧ ((len v6.fst.did) ≤ 140737488355328)))) ∧
 (br v13
 (br (eqi v7.snd (0 : Int))
 ((v14 = (0 : Int)) ∧
 (K (.one (dB ((eqi v7.fst.n v15.n) && ((eqi v7.fst.version v15.version) && ((eqb v7.fst.commit v15.commit) && ((eqb v7.fst.abort v15.abort) && ((eqb v7.fst.ended v15.ended) && true))))))) []))
 (K vF []))
 (K vF [])))
 (K vF []))
 (K vF [])))
 (K vF []))
 (K vF [])))
 (K vF []))
 (K vF []))) v21 (hv21 : v21 = (br (eqi v4.snd.snd v0)
 (br (eqi v5.snd v0)
 (br (eqi v6.snd v0)
 (br (eqi v7.snd v0)
 (br (eqi v4.snd.fst (0 : Int))
 (br ((eqi v7.fst.n (0 : Int)) && ((eqi v7.fst.version (0 : Int)) && ((eqb v7.fst.commit false) && ((eqb v7.fst.abort false) && ((eqb v7.fst.ended false) && true)))))
 ((((List.length v4.fst.f.words) ≤ 140737488355328) ∧ (((List.length v4.fst.t.r.keys) ≤ 140737488355328) ∧ (((len v4.fst.voted) ≤ 140737488355328) ∧ ((len v4.fst.did) ≤ 140737488355328)))) ∧
 (br v8
 ((((List.length v5.fst.f.words) ≤ 140737488355328) ∧ (((List.length v5.fst.t.r.keys) ≤ 140737488355328) ∧ (((len v5.fst.voted) ≤ 140737488355328) ∧ ((len v5.fst.did) ≤ 140737488355328)))) ∧
 (br v9
 ((((List.length v6.fst.f.words) ≤ 140737488355328) ∧ (((List.length v6.fst.t.r.keys) ≤ 140737488355328) ∧ (((len v6.fst.voted) ≤ 140737488355328) ∧ ((len v6.fst.did) ≤ 140737488355328)))) ∧
 (K (.one (dB v10)) []))
 (K vF [])))
 (K vF [])))
 (K vF []))
 (K vF []))
 (K vF []))
 (K vF []))
 (K vF []))
 (K vF []))) v18 (hv18 : v18 = (br (!(eqi v2.snd (3 : Int)))
 (K vF [])
 ((((List.length v2.fst.f.words) ≤ 140737488355328) ∧ (((List.length v2.fst.t.r.keys) ≤ 140737488355328) ∧ (((len v2.fst.voted) ≤ 140737488355328) ∧ ((len v2.fst.did) ≤ 140737488355328)))) ∧
 (br (!v3)
 (K vF [])
 (br (!(eqi v0 (0 : Int)))
 v21
 ((v0 = (0 : Int)) ∧
 ((v0 = (0 : Int)) ∧
 (((((len ws) * 8) ≤ 140737488355328) ∧ ((((len tk) * 8) ≤ 140737488355328) ∧ (((len vo) ≤ 140737488355328) ∧ ((len di) ≤ 140737488355328)))) ∧
 ((((0 : Int) ≤ (((len vo) : Nat) : Int)) ∧ ((((((len vo) : Nat) : Int) * ((1 : Nat) : Int)) ≤ (140737488355328 : Int)) ∧ ((((len vo) : Nat) : Int) ≤ (140737488355328 : Int)))) ∧
 ((((0 : Int) ≤ (((len di) : Nat) : Int)) ∧ ((((((len di) : Nat) : Int) * ((1 : Nat) : Int)) ≤ (140737488355328 : Int)) ∧ ((((len di) : Nat) : Int) ≤ (140737488355328 : Int)))) ∧
 v20)))))))))) v19 (hv19 : v19 = (br (!(eqi v0 (0 : Int)))
 v21
 ((v0 = (0 : Int)) ∧
 ((v0 = (0 : Int)) ∧
 (((((len ws) * 8) ≤ 140737488355328) ∧ ((((len tk) * 8) ≤ 140737488355328) ∧ (((len vo) ≤ 140737488355328) ∧ ((len di) ≤ 140737488355328)))) ∧
 ((((0 : Int) ≤ (((len vo) : Nat) : Int)) ∧ ((((((len vo) : Nat) : Int) * ((1 : Nat) : Int)) ≤ (140737488355328 : Int)) ∧ ((((len vo) : Nat) : Int) ≤ (140737488355328 : Int)))) ∧
 ((((0 : Int) ≤ (((len di) : Nat) : Int)) ∧ ((((((len di) : Nat) : Int) * ((1 : Nat) : Int)) ≤ (140737488355328 : Int)) ∧ ((((len di) : Nat) : Int) ≤ (140737488355328 : Int)))) ∧
 v20))))))) : segD Γ_law_GateSays tab fn_law_GateSays 0 K rec [.code (bodyOf fn_law_GateSays)] (initSt [.agg [.dat (Ty.list Ty.str) b], .one (.dat (Ty.list Ty.signed) l), .agg [dL ws, dI fu, dB up, dI tv, dL tk, dI tt, dI tn, dLb vo, dLb di], .agg [.dat (Ty.list Ty.root) rs, dR rg, dI ov, dI ou, .dat (Ty.list Ty.target) ts, dL sg, dR im], .one (dI now), .agg [dI rv, dL rk, dI rt], .one (dI units)] []) = (
 ((((len ws) * 8) ≤ 140737488355328) ∧ ((((len tk) * 8) ≤ 140737488355328) ∧ (((len vo) ≤ 140737488355328) ∧ ((len di) ≤ 140737488355328)))) ∧
 (((List.length b) ≤ 140737488355328) ∧
 ((((len rk) * 8) ≤ 140737488355328) ∧
 (((List.length ws) ≤ 140737488355328) ∧
 (br (!(eqi v0 v0))
 (K vF [])
 ((((List.length ws) ≤ 140737488355328) ∧ (((List.length tk) ≤ 140737488355328) ∧ (((len vo) ≤ 140737488355328) ∧ ((len di) ≤ 140737488355328)))) ∧
 (br (!v1)
 (K vF [])
 (br (lti units (1 : Int))
 v18
 (br (lti (4 : Int) units)
 v18
 (br (!(eqi v16 (0 : Int)))
 (br (!(eqi v2.snd v16))
 (K vF [])
 ((((List.length v2.fst.f.words) ≤ 140737488355328) ∧ (((List.length v2.fst.t.r.keys) ≤ 140737488355328) ∧ (((len v2.fst.voted) ≤ 140737488355328) ∧ ((len v2.fst.did) ≤ 140737488355328)))) ∧
 (br (!v3)
 (K vF [])
 v19)))
 (br (!(eqi v2.snd (0 : Int)))
 (K vF [])
 ((((1 : Int) ≤ units) ∧ ((units ≤ (4 : Int)) ∧ (v16 = (0 : Int)))) ∧
 ((((List.length v2.fst.f.words) ≤ 140737488355328) ∧ (((List.length v2.fst.t.r.keys) ≤ 140737488355328) ∧ (((len v2.fst.voted) ≤ 140737488355328) ∧ ((len v2.fst.did) ≤ 140737488355328)))) ∧
 (br (!v17)
 (K vF [])
 v19)))))))))))))) := by subst_vars; kernel_rfl
theorem law_GateSays_w (m : Nat) (K : KK) (st : St) : goD Γ_law_GateSays tab fn_law_GateSays 0 K (m + 1) [.code (bodyOf fn_law_GateSays)] st = segD Γ_law_GateSays tab fn_law_GateSays 0 K (goD Γ_law_GateSays tab fn_law_GateSays 0 K m) [.code (bodyOf fn_law_GateSays)] st := rfl

set_option maxHeartbeats 4000000 in
theorem run_law_GateSays (b : List (List UInt8)) (l : List Vm.Signed) (ws : List Int) (fu : Int) (up : Bool) (tv : Int) (tk : List Int) (tt tn : Int) (vo di : List Bool) (rs : List Vm.Root) (rg : List (List Int)) (ov ou : Int) (ts : List Vm.Target) (sg : List Int) (im : List (List Int)) (now rv : Int) (rk : List Int) (rt units : Int) (hp : b.length ≤ 140737488355328 ∧ len ws * 8 ≤ 140737488355328 ∧ len tk * 8 ≤ 140737488355328 ∧ len vo ≤ 140737488355328 ∧ len di ≤ 140737488355328 ∧ len rk * 8 ≤ 140737488355328) (K : KK) (hK : K (.one (dB true)) []) : ∃ m, goD Γ_law_GateSays tab fn_law_GateSays 0 K m [.code (bodyOf fn_law_GateSays)] (initSt [.agg [.dat (.list .str) b], .one (.dat (.list .signed) l), .agg [dL ws, dI fu, dB up, dI tv, dL tk, dI tt, dI tn, dLb vo, dLb di], .agg [.dat (.list .root) rs, dR rg, dI ov, dI ou, .dat (.list .target) ts, dL sg, dR im], .one (dI now), .agg [dI rv, dL rk, dI rt], .one (dI units)] []) := by
  refine ⟨1, ?_⟩
  rw [law_GateSays_w, law_GateSays_vc _ _ _ _ _ _ _ _ _ _ _ _ _ _ _ _ _ _ _ _ _ _ _ _ _ _ rfl _ rfl _ rfl _ rfl _ rfl _ rfl _ rfl _ rfl _ rfl _ rfl _ rfl _ rfl _ rfl _ rfl _ rfl _ rfl _ rfl _ rfl _ rfl _ rfl _ rfl _ rfl]
  have e0 : ∀ a : Int, eqi a a = true := fun a => eqi_true.2 rfl
  have e1 : ∀ a : Bool, eqb a a = true := fun a => eqb_true.2 rfl
  have T : K (.one (dB true)) [] = True := eq_true hK
  obtain ⟨p1, p2, p3, p4, p5, p6⟩ := hp
  have p7 : List.length ws ≤ 140737488355328 := by simp only [len] at p2; omega
  have p8 : List.length tk ≤ 140737488355328 := by simp only [len] at p3; omega
  obtain ⟨n1, n2, n3, n4⟩ := szG_of (g := noGate) (.inr rfl)
  have lv1 : (0 : Int) ≤ (((len vo) : Nat) : Int) := by omega
  have lv2 : ((((len vo) : Nat) : Int) * ((1 : Nat) : Int)) ≤ (140737488355328 : Int) := by omega
  have lv3 : (((len vo) : Nat) : Int) ≤ (140737488355328 : Int) := by omega
  have ld1 : (0 : Int) ≤ (((len di) : Nat) : Int) := by omega
  have ld2 : ((((len di) : Nat) : Int) * ((1 : Nat) : Int)) ≤ (140737488355328 : Int) := by omega
  have ld3 : (((len di) : Nat) : Int) ≤ (140737488355328 : Int) := by omega
  have hnn : sameGate noGate ⟨⟨[], 0⟩, false, ⟨⟨0, [], 0⟩, 0⟩, [], []⟩ = true := sameGate_refl noGate
  have hnn' : sameGate ⟨⟨noGate.f.words, noGate.f.fuel⟩, noGate.up, ⟨⟨noGate.t.r.version, noGate.t.r.keys, noGate.t.r.thr⟩, noGate.t.version⟩, noGate.voted, noGate.did⟩ ⟨⟨[], 0⟩, false, ⟨⟨0, [], 0⟩, 0⟩, [], []⟩ = true := hnn
  simp only [e0, p1, p2, p3, p4, p5, p6, p7, p8, sameGate_refl, br, Bool.not_true, Bool.not_false, true_and, and_self]
  have IM : units < 1 ∨ (1 ≤ units ∧ 4 < units) ∨ (1 ≤ units ∧ units ≤ 4 ∧ checkRoot rv rk rt = 0) ∨ (1 ≤ units ∧ units ≤ 4 ∧ checkRoot rv rk rt ≠ 0) := by
    by_cases c : checkRoot rv rk rt = 0 <;> omega
  rcases IM with i1 | ⟨i1, i2⟩ | ⟨i1, i2, i3⟩ | ⟨i1, i2, i3⟩
  case' inl =>
    have hn : newG ⟨rv, rk, rt⟩ units = (noGate, 3) := if_pos (.inl i1)
    simp only [lti_true.2 i1, hn, hnn', e0, n1, n2, n3, n4, br, Bool.not_true, Bool.not_false, true_and, and_self]
  case' inr.inl =>
    have hn : newG ⟨rv, rk, rt⟩ units = (noGate, 3) := if_pos (.inr i2)
    simp only [lti_false.2 i1, lti_true.2 i2, hn, hnn', e0, n1, n2, n3, n4, br, Bool.not_true, Bool.not_false, true_and, and_self]
  case' inr.inr.inl =>
    have hn := newG_is (r := ⟨rv, rk, rt⟩) i1 i2 i3
    obtain ⟨m1, m2, m3, m4⟩ := szG_of (g := madeG ⟨rv, rk, rt⟩ units) (.inl (by rw [madeG_check i1 i2]; exact i3))
    simp only [lti_false.2 i1, lti_false.2 i2, i1, i2, i3, hn, e0, m1, m2, m3, m4, sameGate_refl, br, Bool.not_true, Bool.not_false, true_and, and_self]
  case' inr.inr.inr =>
    have hn := newG_bad (r := ⟨rv, rk, rt⟩) i1 i2 i3
    have i3' : eqi (checkRoot rv rk rt) 0 = false := eqi_false.2 i3
    simp only [lti_false.2 i1, lti_false.2 i2, i3', hn, hnn', e0, n1, n2, n3, n4, br, Bool.not_true, Bool.not_false, true_and, and_self]
  all_goals
    by_cases hu : checkG ⟨⟨ws, fu⟩, up, ⟨⟨tv, tk, tt⟩, tn⟩, vo, di⟩ = 0
    case neg =>
      have hu' : eqi (checkG ⟨⟨ws, fu⟩, up, ⟨⟨tv, tk, tt⟩, tn⟩, vo, di⟩) 0 = false := eqi_false.2 hu
      have hU : upG ⟨⟨ws, fu⟩, up, ⟨⟨tv, tk, tt⟩, tn⟩, vo, di⟩ = checkG ⟨⟨ws, fu⟩, up, ⟨⟨tv, tk, tt⟩, tn⟩, vo, di⟩ := if_neg hu
      have hU' : upG ⟨⟨ws, fu⟩, up, ⟨⟨tv, tk, tt⟩, tn⟩, vo, di⟩ ≠ 0 := by rw [hU]; exact hu
      have hr : readG ⟨⟨ws, fu⟩, up, ⟨⟨tv, tk, tt⟩, tn⟩, vo, di⟩ = (noState, checkG ⟨⟨ws, fu⟩, up, ⟨⟨tv, tk, tt⟩, tn⟩, vo, di⟩) := if_neg hu
      have hb : bootG ⟨⟨ws, fu⟩, up, ⟨⟨tv, tk, tt⟩, tn⟩, vo, di⟩ = (noGate, checkG ⟨⟨ws, fu⟩, up, ⟨⟨tv, tk, tt⟩, tn⟩, vo, di⟩) := if_neg hu
      have hg : giveG ⟨⟨ws, fu⟩, up, ⟨⟨tv, tk, tt⟩, tn⟩, vo, di⟩ = (noGate, checkG ⟨⟨ws, fu⟩, up, ⟨⟨tv, tk, tt⟩, tn⟩, vo, di⟩) := by
        have e : giveE ⟨⟨ws, fu⟩, up, ⟨⟨tv, tk, tt⟩, tn⟩, vo, di⟩ = checkG ⟨⟨ws, fu⟩, up, ⟨⟨tv, tk, tt⟩, tn⟩, vo, di⟩ := (if_neg hU').trans hU
        unfold giveG; rw [e, if_neg hu]
      have hbg : beginG b l ⟨⟨ws, fu⟩, up, ⟨⟨tv, tk, tt⟩, tn⟩, vo, di⟩ ⟨rs, rg, ⟨ov, ou, ts⟩, sg, im⟩ now = (noGate, 0, checkG ⟨⟨ws, fu⟩, up, ⟨⟨tv, tk, tt⟩, tn⟩, vo, di⟩) := by
        have e : beginE b l ⟨⟨ws, fu⟩, up, ⟨⟨tv, tk, tt⟩, tn⟩, vo, di⟩ ⟨rs, rg, ⟨ov, ou, ts⟩, sg, im⟩ now = checkG ⟨⟨ws, fu⟩, up, ⟨⟨tv, tk, tt⟩, tn⟩, vo, di⟩ := (if_neg hU').trans hU
        unfold beginG; rw [e, if_neg hu]
      simp only [hu', hr, hb, hg, hbg, hnn', n1, n2, n3, n4, noState, e0, e1, br, Bool.not_true, Bool.not_false, Bool.and_true, Bool.and_self, true_and, and_self, T]
    case pos =>
      have hr := readG_ok hu
      have hb := bootG_ok hu
      obtain ⟨k1, _⟩ := checkG_ok hu
      simp only at k1 hr hb
      obtain ⟨a1, a2, a3, a4⟩ := szG_of (beginG_right (b := b) (l := l) (g := ⟨⟨ws, fu⟩, up, ⟨⟨tv, tk, tt⟩, tn⟩, vo, di⟩) (o := ⟨rs, rg, ⟨ov, ou, ts⟩, sg, im⟩) (now := now))
      obtain ⟨b1, b2, b3, b4⟩ := szG_of (giveG_right (g := ⟨⟨ws, fu⟩, up, ⟨⟨tv, tk, tt⟩, tn⟩, vo, di⟩))
      have z1 : zeros (Int.toNat (((len vo) : Nat) : Int)) (Ty.dflt Ty.bool) = zeros vo.length false := rfl
      have z2 : zeros (Int.toNat (((len di) : Nat) : Int)) (Ty.dflt Ty.bool) = zeros di.length false := rfl
      have z3 : len (zeros vo.length false) ≤ 140737488355328 := by simp only [len, zeros, List.length_replicate]; exact p4
      have z4 : len (zeros di.length false) ≤ 140737488355328 := by simp only [len, zeros, List.length_replicate]; exact p5
      simp only [hu, hr, hb, k1, e0, e1, z1, z2, z3, z4, p2, p3, p4, p5, p7, p8, lv1, lv2, lv3, ld1, ld2, ld3, a1, a2, a3, a4, b1, b2, b3, b4, sameGate_refl, br, Bool.not_true, Bool.not_false, Bool.and_true, Bool.and_self, true_and, and_self, T]
theorem sound_law_GateSays : SoundC Tryz.prog tab n_law_GateSays c_law_GateSays := soundC_of ok_law_GateSays hf_law_GateSays hB_law_GateSays (by
  intro vs bs p v bs' h hp
  unfold c_law_GateSays at h
  split at h
  · cases h
    exact ⟨by kernel_rfl, rfl, .inl (run_law_GateSays _ _ _ _ _ _ _ _ _ _ _ _ _ _ _ _ _ _ _ _ _ _ _ hp.1 _ ⟨rfl, rfl⟩)⟩
  · cases h)
end Go.Proofs.YtlbppjmekiemiacGreatDoor
