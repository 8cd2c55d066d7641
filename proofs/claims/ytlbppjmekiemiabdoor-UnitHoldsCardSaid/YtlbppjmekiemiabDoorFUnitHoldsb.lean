/- What the functions of UnitHolds compute (part 2 of 2). No condition. -/
import Derived.Test.YtlbppjmekiemiabDoorFUnitHoldsa
import Derived.KernelRfl
namespace Go.Proofs.YtlbppjmekiemiabDoor
open Vm
def c_unit_CheckMessage : Contract := fun vs bs => match vs, bs with
  | [.agg [.dat .int mk, .dat .int mu, .dat .int mn, .dat .int ma, .dat .int mi, .dat (.list .int) mw, .dat .bool my]], [] => some (none, .one (.dat .int (checkM ⟨mk, mu, mn, ma, mi, mw, my⟩)), [])
  | _, _ => none
def Γ_unit_CheckMessage : Ctx := [(n_slices_ContainsFunc_Lint, c_slices_ContainsFunc_Lint), (n_unit_CheckMessage_1, c_unit_CheckMessage_1)]
theorem ok_unit_CheckMessage : Ok Tryd.prog tab Γ_unit_CheckMessage := ((ok_nil.consC hf_unit_CheckMessage_1 hB_unit_CheckMessage_1 sound_unit_CheckMessage_1).consC hf_slices_ContainsFunc_Lint hB_slices_ContainsFunc_Lint sound_slices_ContainsFunc_Lint)
theorem unit_CheckMessage_vc (mk : Int) (mu : Int) (mn : Int) (ma : Int) (mi : Int) (mw : List Int) (my : Bool) (rec : List It → St → Prop) (K : V → List Blk → Prop) v0 (hv0 : v0 = (okWords mw)) : segD Γ_unit_CheckMessage tab fn_unit_CheckMessage 0 K rec [.code (bodyOf fn_unit_CheckMessage)] (initSt [.agg [.dat Ty.int mk, .dat Ty.int mu, .dat Ty.int mn, .dat Ty.int ma, .dat Ty.int mi, .dat (Ty.list Ty.int) mw, .dat Ty.bool my]] []) = (
    br (lti mk (1 : Int))
     (K (.one (.dat Ty.int (3 : Int))) [])
     (br (lti (7 : Int) mk)
       (K (.one (.dat Ty.int (3 : Int))) [])
       (br (lti mu (0 : Int))
         (K (.one (.dat Ty.int (3 : Int))) [])
         (br (lei (4 : Int) mu)
           (K (.one (.dat Ty.int (3 : Int))) [])
           (br (lti mn (1 : Int))
             (K (.one (.dat Ty.int (3 : Int))) [])
             (br (lti (8 : Int) mn)
               (K (.one (.dat Ty.int (3 : Int))) [])
               (br (lti ma (0 : Int))
                 (K (.one (.dat Ty.int (3 : Int))) [])
                 (br (lti (40 : Int) ma)
                   (K (.one (.dat Ty.int (3 : Int))) [])
                   (br (lti mi (0 : Int))
                     (K (.one (.dat Ty.int (3 : Int))) [])
                     (br (lti (60 : Int) mi)
                       (K (.one (.dat Ty.int (3 : Int))) [])
                       (br (lti (8 : Int) (((len mw) : Nat) : Int))
                         (K (.one (.dat Ty.int (3 : Int))) [])
                         (((List.length mw) ≤ 140737488355328) ∧
                          (br (!v0)
                           (K (.one (.dat Ty.int (3 : Int))) [])
                           (K (.one (.dat Ty.int (0 : Int))) [])))))))))))))) := by subst hv0; kernel_rfl
theorem unit_CheckMessage_w (mk : Int) (mu : Int) (mn : Int) (ma : Int) (mi : Int) (mw : List Int) (my : Bool) (m : Nat) (K : V → List Blk → Prop) : goD Γ_unit_CheckMessage tab fn_unit_CheckMessage 0 K (m + 1) [.code (bodyOf fn_unit_CheckMessage)] (initSt [.agg [.dat Ty.int mk, .dat Ty.int mu, .dat Ty.int mn, .dat Ty.int ma, .dat Ty.int mi, .dat (Ty.list Ty.int) mw, .dat Ty.bool my]] []) = segD Γ_unit_CheckMessage tab fn_unit_CheckMessage 0 K (goD Γ_unit_CheckMessage tab fn_unit_CheckMessage 0 K m) [.code (bodyOf fn_unit_CheckMessage)] (initSt [.agg [.dat Ty.int mk, .dat Ty.int mu, .dat Ty.int mn, .dat Ty.int ma, .dat Ty.int mi, .dat (Ty.list Ty.int) mw, .dat Ty.bool my]] []) := rfl

set_option maxHeartbeats 4000000 in
theorem run_unit_CheckMessage (mk mu mn ma mi : Int) (mw : List Int) (my : Bool) (K : V → List Blk → Prop) (hK : K (.one (.dat .int (checkM ⟨mk, mu, mn, ma, mi, mw, my⟩))) []) : ∃ m, goD Γ_unit_CheckMessage tab fn_unit_CheckMessage 0 K m [.code (bodyOf fn_unit_CheckMessage)] (initSt [.agg [.dat .int mk, .dat .int mu, .dat .int mn, .dat .int ma, .dat .int mi, .dat (.list .int) mw, .dat .bool my]] []) := by
  refine ⟨1, ?_⟩
  rw [unit_CheckMessage_w, unit_CheckMessage_vc _ _ _ _ _ _ _ _ _ _ rfl]
  unfold checkM at hK
  simp only at hK
  refine lt_s (fun h1 => ?_) (fun h1 => lt_s (fun h2 => ?_) (fun h2 => lt_s (fun h3 => ?_) (fun h3 => br_split (fun h4 => ?_) (fun h4 => lt_s (fun h5 => ?_) (fun h5 => lt_s (fun h6 => ?_) (fun h6 => lt_s (fun h7 => ?_) (fun h7 => lt_s (fun h8 => ?_) (fun h8 => lt_s (fun h9 => ?_) (fun h9 => lt_s (fun h10 => ?_) (fun h10 => lt_s (fun h11 => ?_) (fun h11 => ⟨?_, nt_s (fun h12 => ?_) (fun h12 => ?_)⟩)))))))))))
  all_goals try rw [lei_true] at h4
  all_goals try rw [lei_false] at h4
  · rw [if_pos (by omega)] at hK; exact hK
  · rw [if_pos (by omega)] at hK; exact hK
  · rw [if_pos (by omega)] at hK; exact hK
  · rw [if_pos (by omega)] at hK; exact hK
  · rw [if_pos (by omega)] at hK; exact hK
  · rw [if_pos (by omega)] at hK; exact hK
  · rw [if_pos (by omega)] at hK; exact hK
  · rw [if_pos (by omega)] at hK; exact hK
  · rw [if_pos (by omega)] at hK; exact hK
  · rw [if_pos (by omega)] at hK; exact hK
  · rw [if_pos (by simp only [len] at h11; omega)] at hK; exact hK
  · simp only [len] at h11; omega
  · rw [if_neg (by simp only [len] at h11; omega)] at hK
    have : okWords mw = false := by simpa using h12
    rw [if_neg (by rw [this]; simp)] at hK; exact hK
  · rw [if_neg (by simp only [len] at h11; omega)] at hK
    have : okWords mw = true := by simpa using h12
    rw [if_pos this] at hK; exact hK
theorem sound_unit_CheckMessage : SoundC Tryd.prog tab n_unit_CheckMessage c_unit_CheckMessage := soundC_of ok_unit_CheckMessage hf_unit_CheckMessage hB_unit_CheckMessage (by
  intro vs bs p v bs' h hp
  unfold c_unit_CheckMessage at h
  split at h
  · cases h
    exact ⟨by kernel_rfl, rfl, .inl (run_unit_CheckMessage _ _ _ _ _ _ _ _ ⟨rfl, rfl⟩)⟩
  · cases h)

def c_unit_Copy : Contract := fun vs bs => match vs, bs with
  | [.agg [.dat (.list .int) ws, .dat .int fu, .dat .bool up, .dat .int un, .dat .int ug]], [] => some (some (len ws * 8 ≤ 140737488355328), .agg [.dat (.list .int) ws, .dat .int fu, .dat .bool up, .dat .int un, .dat .int ug], [])
  | _, _ => none
def Γ_unit_Copy : Ctx := [(n_flash_Copy, c_flash_Copy)]
theorem ok_unit_Copy : Ok Tryd.prog tab Γ_unit_Copy := (ok_nil.consC hf_flash_Copy hB_flash_Copy sound_flash_Copy)
theorem unit_Copy_vc (ws : List Int) (fu : Int) (up : Bool) (un : Int) (ug : Int) (rec : List It → St → Prop) (K : V → List Blk → Prop) : segD Γ_unit_Copy tab fn_unit_Copy 0 K rec [.code (bodyOf fn_unit_Copy)] (initSt [.agg [.dat (Ty.list Ty.int) ws, .dat Ty.int fu, .dat Ty.bool up, .dat Ty.int un, .dat Ty.int ug]] []) = (
    (((len ws) * 8) ≤ 140737488355328) ∧
    (K (.agg [.dat (Ty.list Ty.int) ws, .dat Ty.int fu, .dat Ty.bool up, .dat Ty.int un, .dat Ty.int ug]) [])) := by kernel_rfl
theorem unit_Copy_w (ws : List Int) (fu : Int) (up : Bool) (un : Int) (ug : Int) (m : Nat) (K : V → List Blk → Prop) : goD Γ_unit_Copy tab fn_unit_Copy 0 K (m + 1) [.code (bodyOf fn_unit_Copy)] (initSt [.agg [.dat (Ty.list Ty.int) ws, .dat Ty.int fu, .dat Ty.bool up, .dat Ty.int un, .dat Ty.int ug]] []) = segD Γ_unit_Copy tab fn_unit_Copy 0 K (goD Γ_unit_Copy tab fn_unit_Copy 0 K m) [.code (bodyOf fn_unit_Copy)] (initSt [.agg [.dat (Ty.list Ty.int) ws, .dat Ty.int fu, .dat Ty.bool up, .dat Ty.int un, .dat Ty.int ug]] []) := rfl

set_option maxHeartbeats 4000000 in
theorem run_unit_Copy (ws : List Int) (fu : Int) (up : Bool) (un ug : Int) (hp : len ws * 8 ≤ 140737488355328) (K : V → List Blk → Prop) (hK : K (.agg [.dat (.list .int) ws, .dat .int fu, .dat .bool up, .dat .int un, .dat .int ug]) []) : ∃ m, goD Γ_unit_Copy tab fn_unit_Copy 0 K m [.code (bodyOf fn_unit_Copy)] (initSt [.agg [.dat (.list .int) ws, .dat .int fu, .dat .bool up, .dat .int un, .dat .int ug]] []) := by
  refine ⟨1, ?_⟩
  rw [unit_Copy_w, unit_Copy_vc _ _ _ _ _ _ _]
  exact ⟨hp, hK⟩
theorem sound_unit_Copy : SoundC Tryd.prog tab n_unit_Copy c_unit_Copy := soundC_of ok_unit_Copy hf_unit_Copy hB_unit_Copy (by
  intro vs bs p v bs' h hp
  unfold c_unit_Copy at h
  split at h
  · cases h
    exact ⟨by kernel_rfl, rfl, .inl (run_unit_Copy _ _ _ _ _ hp.1 _ ⟨rfl, rfl⟩)⟩
  · cases h)

def c_slot_Clear : Contract := fun vs bs => match vs, bs with
  | [.agg [.dat (.list .int) ws, .dat .int fu], .one (.dat .int slot)], [] => some (none, .tup [.agg [.dat (.list .int) (clearS ⟨ws, fu⟩ slot).1.words, .dat .int (clearS ⟨ws, fu⟩ slot).1.fuel], .one (.dat .int (clearS ⟨ws, fu⟩ slot).2)], [])
  | _, _ => none
def Γ_slot_Clear : Ctx := [(n_slot_check, c_slot_check), (n_flash_Copy, c_flash_Copy), (n_flash_Wipe, c_flash_Wipe)]
theorem ok_slot_Clear : Ok Tryd.prog tab Γ_slot_Clear := (((ok_nil.consC hf_flash_Wipe hB_flash_Wipe sound_flash_Wipe).consC hf_flash_Copy hB_flash_Copy sound_flash_Copy).consC hf_slot_check hB_slot_check sound_slot_check)
theorem slot_Clear_vc (ws : List Int) (fu : Int) (slot : Int) (rec : List It → St → Prop) (K : V → List Blk → Prop) v0 (hv0 : v0 = (checkSlot (⟨ws, fu⟩ : Flash) slot)) v1 (hv1 : v1 = (wipeCh (w64 ((2 : Int) + (w64 ((2 : Int) * slot)))))) v2 (hv2 : v2 = (doCh (⟨ws, fu⟩ : Flash) v1)) v3 (hv3 : v3 = (wipeCh (w64 ((3 : Int) + (w64 ((2 : Int) * slot)))))) v4 (hv4 : v4 = (doCh (⟨((v2).fst).words, ((v2).fst).fuel⟩ : Flash) v3)) : segD Γ_slot_Clear tab fn_slot_Clear 0 K rec [.code (bodyOf fn_slot_Clear)] (initSt [.agg [.dat (Ty.list Ty.int) ws, .dat Ty.int fu], .one (.dat Ty.int slot)] []) = (
    br (!(eqi v0 (0 : Int)))
     (K (.tup [.agg [.dat (Ty.list Ty.int) [], .dat Ty.int (0 : Int)], .one (.dat Ty.int v0)]) [])
     ((((len ws) * 8) ≤ 140737488355328) ∧
      ((((-(1 : Int)) ≤ fu) ∧ ((fu ≤ (100000 : Int)) ∧ (((0 : Int) ≤ (w64 ((2 : Int) + (w64 ((2 : Int) * slot))))) ∧ (((((w64 ((2 : Int) + (w64 ((2 : Int) * slot)))) + (1 : Int)) * (32 : Int)) ≤ (((len ws) : Nat) : Int)) ∧ ((len ws) ≤ 192))))) ∧
      (br (!(v2).snd)
       (K (.tup [.agg [.dat (Ty.list Ty.int) ((v2).fst).words, .dat Ty.int ((v2).fst).fuel], .one (.dat Ty.int (7 : Int))]) [])
       ((((-(1 : Int)) ≤ ((v2).fst).fuel) ∧ ((((v2).fst).fuel ≤ (100000 : Int)) ∧ (((0 : Int) ≤ (w64 ((3 : Int) + (w64 ((2 : Int) * slot))))) ∧ (((((w64 ((3 : Int) + (w64 ((2 : Int) * slot)))) + (1 : Int)) * (32 : Int)) ≤ (((len ((v2).fst).words) : Nat) : Int)) ∧ ((len ((v2).fst).words) ≤ 192))))) ∧
        (br (!(v4).snd)
         (K (.tup [.agg [.dat (Ty.list Ty.int) ((v4).fst).words, .dat Ty.int ((v4).fst).fuel], .one (.dat Ty.int (7 : Int))]) [])
         (K (.tup [.agg [.dat (Ty.list Ty.int) ((v4).fst).words, .dat Ty.int ((v4).fst).fuel], .one (.dat Ty.int (0 : Int))]) []))))))) := by subst hv4; subst hv3; subst hv2; subst hv1; subst hv0; kernel_rfl
theorem slot_Clear_w (ws : List Int) (fu : Int) (slot : Int) (m : Nat) (K : V → List Blk → Prop) : goD Γ_slot_Clear tab fn_slot_Clear 0 K (m + 1) [.code (bodyOf fn_slot_Clear)] (initSt [.agg [.dat (Ty.list Ty.int) ws, .dat Ty.int fu], .one (.dat Ty.int slot)] []) = segD Γ_slot_Clear tab fn_slot_Clear 0 K (goD Γ_slot_Clear tab fn_slot_Clear 0 K m) [.code (bodyOf fn_slot_Clear)] (initSt [.agg [.dat (Ty.list Ty.int) ws, .dat Ty.int fu], .one (.dat Ty.int slot)] []) := rfl

set_option maxHeartbeats 4000000 in
theorem run_slot_Clear (ws : List Int) (fu slot : Int) (K : V → List Blk → Prop) (hK : K (.tup [.agg [.dat (.list .int) (clearS ⟨ws, fu⟩ slot).1.words, .dat .int (clearS ⟨ws, fu⟩ slot).1.fuel], .one (.dat .int (clearS ⟨ws, fu⟩ slot).2)]) []) : ∃ m, goD Γ_slot_Clear tab fn_slot_Clear 0 K m [.code (bodyOf fn_slot_Clear)] (initSt [.agg [.dat (.list .int) ws, .dat .int fu], .one (.dat .int slot)] []) := by
  refine ⟨1, ?_⟩
  rw [slot_Clear_w, slot_Clear_vc _ _ _ _ _ _ rfl _ rfl _ rfl _ rfl _ rfl]
  unfold clearS at hK
  refine ne_s (fun h => ?_) (fun h => ?_)
  · rw [if_neg h] at hK; exact hK
  rw [if_pos h] at hK
  obtain ⟨h1, h2, h3⟩ := checkSlot_ok h
  obtain ⟨c1, c2, c3, c4⟩ := checkFlash_ok h1
  simp only at c2 c3 h2
  rw [w64_id (n := 2 * slot) (by omega) (by omega), w64_id (n := 2 + 2 * slot) (by omega) (by omega), w64_id (n := 3 + 2 * slot) (by omega) (by omega)]
  unfold clearCh at hK
  rw [doCh_append] at hK
  have hf := doCh_fuel ⟨ws, fu⟩ (wipeCh (2 + 2 * slot)) c2 c3
  have hl := doCh_len ⟨ws, fu⟩ (wipeCh (2 + 2 * slot))
  simp only [len] at hl ⊢
  refine ⟨by omega, ⟨c2, c3, by omega, by omega, by omega⟩, nt_s (fun h5 => ?_) (fun h5 => ⟨⟨hf.1, hf.2, by omega, by omega, by omega⟩, nt_s (fun h6 => ?_) (fun h6 => ?_)⟩)⟩
  · rw [if_neg (by simp [h5])] at hK
    simp only [power, powerE, h5] at hK; exact hK
  · rw [if_pos h5] at hK
    simp only [power, powerE, h6] at hK; exact hK
  · rw [if_pos h5] at hK
    simp only [power, powerE, h6] at hK; exact hK
theorem sound_slot_Clear : SoundC Tryd.prog tab n_slot_Clear c_slot_Clear := soundC_of ok_slot_Clear hf_slot_Clear hB_slot_Clear (by
  intro vs bs p v bs' h hp
  unfold c_slot_Clear at h
  split at h
  · cases h
    exact ⟨by kernel_rfl, rfl, .inl (run_slot_Clear _ _ _ _ ⟨rfl, rfl⟩)⟩
  · cases h)

def c_unit_down : Contract := fun vs bs => match vs, bs with
  | [.one (.ptr 0 0)], [.box [.dat (.list .int) ws, .dat .int fu, .dat .bool up, .dat .int un, .dat .int ug]] => some (none, .tup [], [.box [.dat (.list .int) (downU ⟨⟨ws, fu⟩, up, un, ug⟩).f.words, .dat .int (downU ⟨⟨ws, fu⟩, up, un, ug⟩).f.fuel, .dat .bool (downU ⟨⟨ws, fu⟩, up, un, ug⟩).up, .dat .int (downU ⟨⟨ws, fu⟩, up, un, ug⟩).n, .dat .int (downU ⟨⟨ws, fu⟩, up, un, ug⟩).got]])
  | _, _ => none
def Γ_unit_down : Ctx := []
theorem ok_unit_down : Ok Tryd.prog tab Γ_unit_down := ok_nil
theorem unit_down_vc (ws : List Int) (fu : Int) (up : Bool) (un : Int) (ug : Int) (rec : List It → St → Prop) (K : V → List Blk → Prop) : segD Γ_unit_down tab fn_unit_down 1 K rec [.code (bodyOf fn_unit_down)] (initSt [.one (.ptr 0 0)] [.box [.dat (Ty.list Ty.int) ws, .dat Ty.int fu, .dat Ty.bool up, .dat Ty.int un, .dat Ty.int ug]]) = (
    K (.tup []) [.box [.dat (Ty.list Ty.int) ws, .dat Ty.int fu, .dat Ty.bool false, .dat Ty.int (0 : Int), .dat Ty.int (0 : Int)]]) := by kernel_rfl
theorem unit_down_w (ws : List Int) (fu : Int) (up : Bool) (un : Int) (ug : Int) (m : Nat) (K : V → List Blk → Prop) : goD Γ_unit_down tab fn_unit_down 1 K (m + 1) [.code (bodyOf fn_unit_down)] (initSt [.one (.ptr 0 0)] [.box [.dat (Ty.list Ty.int) ws, .dat Ty.int fu, .dat Ty.bool up, .dat Ty.int un, .dat Ty.int ug]]) = segD Γ_unit_down tab fn_unit_down 1 K (goD Γ_unit_down tab fn_unit_down 1 K m) [.code (bodyOf fn_unit_down)] (initSt [.one (.ptr 0 0)] [.box [.dat (Ty.list Ty.int) ws, .dat Ty.int fu, .dat Ty.bool up, .dat Ty.int un, .dat Ty.int ug]]) := rfl

set_option maxHeartbeats 4000000 in
theorem run_unit_down (ws : List Int) (fu : Int) (up : Bool) (un ug : Int) (K : V → List Blk → Prop) (hK : K (.tup []) [.box [.dat (.list .int) (downU ⟨⟨ws, fu⟩, up, un, ug⟩).f.words, .dat .int (downU ⟨⟨ws, fu⟩, up, un, ug⟩).f.fuel, .dat .bool (downU ⟨⟨ws, fu⟩, up, un, ug⟩).up, .dat .int (downU ⟨⟨ws, fu⟩, up, un, ug⟩).n, .dat .int (downU ⟨⟨ws, fu⟩, up, un, ug⟩).got]]) : ∃ m, goD Γ_unit_down tab fn_unit_down 1 K m [.code (bodyOf fn_unit_down)] (initSt [.one (.ptr 0 0)] [.box [.dat (.list .int) ws, .dat .int fu, .dat .bool up, .dat .int un, .dat .int ug]]) := by
  refine ⟨1, ?_⟩
  rw [unit_down_w, unit_down_vc _ _ _ _ _ _ _]
  exact hK
theorem sound_unit_down : SoundC Tryd.prog tab n_unit_down c_unit_down := soundC_of ok_unit_down hf_unit_down hB_unit_down (by
  intro vs bs p v bs' h hp
  unfold c_unit_down at h
  split at h
  · cases h
    exact ⟨by kernel_rfl, rfl, .inl (run_unit_down _ _ _ _ _ _ ⟨rfl, rfl⟩)⟩
  · cases h)

def c_unit_change : Contract := fun vs bs => match vs, bs with
  | [.one (.ptr 0 0), .agg [.dat (.list .int) gs, .dat .int gf], .one (.dat .int e)], [.box [.dat (.list .int) ws, .dat .int fu, .dat .bool up, .dat .int un, .dat .int ug]] => some (none, .one (.dat .bool (changeU ⟨⟨ws, fu⟩, up, un, ug⟩ ⟨gs, gf⟩ e).2), [.box [.dat (.list .int) (changeU ⟨⟨ws, fu⟩, up, un, ug⟩ ⟨gs, gf⟩ e).1.f.words, .dat .int (changeU ⟨⟨ws, fu⟩, up, un, ug⟩ ⟨gs, gf⟩ e).1.f.fuel, .dat .bool (changeU ⟨⟨ws, fu⟩, up, un, ug⟩ ⟨gs, gf⟩ e).1.up, .dat .int (changeU ⟨⟨ws, fu⟩, up, un, ug⟩ ⟨gs, gf⟩ e).1.n, .dat .int (changeU ⟨⟨ws, fu⟩, up, un, ug⟩ ⟨gs, gf⟩ e).1.got]])
  | _, _ => none
def Γ_unit_change : Ctx := [(n_unit_down, c_unit_down)]
theorem ok_unit_change : Ok Tryd.prog tab Γ_unit_change := (ok_nil.consC hf_unit_down hB_unit_down sound_unit_down)
theorem unit_change_vc (ws : List Int) (fu : Int) (up : Bool) (un : Int) (ug : Int) (gs : List Int) (gf : Int) (e : Int) (rec : List It → St → Prop) (K : V → List Blk → Prop) : segD Γ_unit_change tab fn_unit_change 1 K rec [.code (bodyOf fn_unit_change)] (initSt [.one (.ptr 0 0), .agg [.dat (Ty.list Ty.int) gs, .dat Ty.int gf], .one (.dat Ty.int e)] [.box [.dat (Ty.list Ty.int) ws, .dat Ty.int fu, .dat Ty.bool up, .dat Ty.int un, .dat Ty.int ug]]) = (
    br (eqi e (0 : Int))
     (K (.one (.dat Ty.bool true)) [.box [.dat (Ty.list Ty.int) gs, .dat Ty.int gf, .dat Ty.bool up, .dat Ty.int un, .dat Ty.int ug]])
     (br (eqi e (7 : Int))
       (K (.one (.dat Ty.bool false)) [.box [.dat (Ty.list Ty.int) gs, .dat Ty.int gf, .dat Ty.bool false, .dat Ty.int (0 : Int), .dat Ty.int (0 : Int)]])
       (K (.one (.dat Ty.bool false)) [.box [.dat (Ty.list Ty.int) ws, .dat Ty.int fu, .dat Ty.bool up, .dat Ty.int un, .dat Ty.int ug]]))) := by kernel_rfl
theorem unit_change_w (ws : List Int) (fu : Int) (up : Bool) (un : Int) (ug : Int) (gs : List Int) (gf : Int) (e : Int) (m : Nat) (K : V → List Blk → Prop) : goD Γ_unit_change tab fn_unit_change 1 K (m + 1) [.code (bodyOf fn_unit_change)] (initSt [.one (.ptr 0 0), .agg [.dat (Ty.list Ty.int) gs, .dat Ty.int gf], .one (.dat Ty.int e)] [.box [.dat (Ty.list Ty.int) ws, .dat Ty.int fu, .dat Ty.bool up, .dat Ty.int un, .dat Ty.int ug]]) = segD Γ_unit_change tab fn_unit_change 1 K (goD Γ_unit_change tab fn_unit_change 1 K m) [.code (bodyOf fn_unit_change)] (initSt [.one (.ptr 0 0), .agg [.dat (Ty.list Ty.int) gs, .dat Ty.int gf], .one (.dat Ty.int e)] [.box [.dat (Ty.list Ty.int) ws, .dat Ty.int fu, .dat Ty.bool up, .dat Ty.int un, .dat Ty.int ug]]) := rfl

set_option maxHeartbeats 4000000 in
theorem run_unit_change (ws : List Int) (fu : Int) (up : Bool) (un ug : Int) (gs : List Int) (gf e : Int) (K : V → List Blk → Prop) (hK : K (.one (.dat .bool (changeU ⟨⟨ws, fu⟩, up, un, ug⟩ ⟨gs, gf⟩ e).2)) [.box [.dat (.list .int) (changeU ⟨⟨ws, fu⟩, up, un, ug⟩ ⟨gs, gf⟩ e).1.f.words, .dat .int (changeU ⟨⟨ws, fu⟩, up, un, ug⟩ ⟨gs, gf⟩ e).1.f.fuel, .dat .bool (changeU ⟨⟨ws, fu⟩, up, un, ug⟩ ⟨gs, gf⟩ e).1.up, .dat .int (changeU ⟨⟨ws, fu⟩, up, un, ug⟩ ⟨gs, gf⟩ e).1.n, .dat .int (changeU ⟨⟨ws, fu⟩, up, un, ug⟩ ⟨gs, gf⟩ e).1.got]]) : ∃ m, goD Γ_unit_change tab fn_unit_change 1 K m [.code (bodyOf fn_unit_change)] (initSt [.one (.ptr 0 0), .agg [.dat (.list .int) gs, .dat .int gf], .one (.dat .int e)] [.box [.dat (.list .int) ws, .dat .int fu, .dat .bool up, .dat .int un, .dat .int ug]]) := by
  refine ⟨1, ?_⟩
  rw [unit_change_w, unit_change_vc _ _ _ _ _ _ _ _ _ _]
  unfold changeU at hK
  refine eq_s (fun h => ?_) (fun h => eq_s (fun h2 => ?_) (fun h2 => ?_))
  · rw [if_pos h] at hK; exact hK
  · rw [if_neg h, if_pos h2] at hK; exact hK
  · rw [if_neg h, if_neg h2] at hK; exact hK
theorem sound_unit_change : SoundC Tryd.prog tab n_unit_change c_unit_change := soundC_of ok_unit_change hf_unit_change hB_unit_change (by
  intro vs bs p v bs' h hp
  unfold c_unit_change at h
  split at h
  · cases h
    exact ⟨by kernel_rfl, rfl, .inl (run_unit_change _ _ _ _ _ _ _ _ _ ⟨rfl, rfl⟩)⟩
  · cases h)

def c_unit_piece : Contract := fun vs bs => match vs, bs with
  | [.one (.ptr 0 0), .agg [.dat .int so, .dat .int sb, .dat .int sr], .agg [.dat .int mk, .dat .int mu, .dat .int mn, .dat .int ma, .dat .int mi, .dat (.list .int) mw, .dat .bool my]], [.box [.dat (.list .int) ws, .dat .int fu, .dat .bool up, .dat .int un, .dat .int ug]] => some (some (0 ≤ so ∧ so ≤ 1 ∧ 0 ≤ ma ∧ ma ≤ 40 ∧ len mw ≤ 8), .tup [], [.box [.dat (.list .int) (pieceU ⟨⟨ws, fu⟩, up, un, ug⟩ ⟨so, sb, sr⟩ ⟨mk, mu, mn, ma, mi, mw, my⟩).f.words, .dat .int (pieceU ⟨⟨ws, fu⟩, up, un, ug⟩ ⟨so, sb, sr⟩ ⟨mk, mu, mn, ma, mi, mw, my⟩).f.fuel, .dat .bool (pieceU ⟨⟨ws, fu⟩, up, un, ug⟩ ⟨so, sb, sr⟩ ⟨mk, mu, mn, ma, mi, mw, my⟩).up, .dat .int (pieceU ⟨⟨ws, fu⟩, up, un, ug⟩ ⟨so, sb, sr⟩ ⟨mk, mu, mn, ma, mi, mw, my⟩).n, .dat .int (pieceU ⟨⟨ws, fu⟩, up, un, ug⟩ ⟨so, sb, sr⟩ ⟨mk, mu, mn, ma, mi, mw, my⟩).got]])
  | _, _ => none
def Γ_unit_piece : Ctx := [(n_slot_Clear, c_slot_Clear), (n_slot_Fill, c_slot_Fill), (n_unit_change, c_unit_change)]
theorem ok_unit_piece : Ok Tryd.prog tab Γ_unit_piece := (((ok_nil.consC hf_unit_change hB_unit_change sound_unit_change).consC hf_slot_Fill hB_slot_Fill sound_slot_Fill).consC hf_slot_Clear hB_slot_Clear sound_slot_Clear)
theorem unit_piece_vc (ws : List Int) (fu : Int) (up : Bool) (un : Int) (ug : Int) (so : Int) (sb : Int) (sr : Int) (mk : Int) (mu : Int) (mn : Int) (ma : Int) (mi : Int) (mw : List Int) (my : Bool) (rec : List It → St → Prop) (K : V → List Blk → Prop) v0 (hv0 : v0 = (clearS (⟨ws, fu⟩ : Vm.Flash) (w64 ((1 : Int) - so)))) v1 (hv1 : v1 = (changeU (⟨(⟨ws, fu⟩ : Vm.Flash), up, un, ug⟩ : Vm.UnitD) (⟨((v0).fst).words, ((v0).fst).fuel⟩ : Vm.Flash) (v0).snd)) v2 (hv2 : v2 = (fillS (⟨(((v1).fst).f).words, (((v1).fst).f).fuel⟩ : Vm.Flash) (w64 ((1 : Int) - so)) ma mw)) v3 (hv3 : v3 = (changeU (⟨(⟨(((v1).fst).f).words, (((v1).fst).f).fuel⟩ : Vm.Flash), ((v1).fst).up, mn, (0 : Int)⟩ : Vm.UnitD) (⟨((v2).fst).words, ((v2).fst).fuel⟩ : Vm.Flash) (v2).snd)) v4 (hv4 : v4 = (fillS (⟨ws, fu⟩ : Vm.Flash) (w64 ((1 : Int) - so)) ma mw)) v5 (hv5 : v5 = (changeU (⟨(⟨ws, fu⟩ : Vm.Flash), up, un, ug⟩ : Vm.UnitD) (⟨((v4).fst).words, ((v4).fst).fuel⟩ : Vm.Flash) (v4).snd)) : segD Γ_unit_piece tab fn_unit_piece 1 K rec [.code (bodyOf fn_unit_piece)] (initSt [.one (.ptr 0 0), .agg [.dat Ty.int so, .dat Ty.int sb, .dat Ty.int sr], .agg [.dat Ty.int mk, .dat Ty.int mu, .dat Ty.int mn, .dat Ty.int ma, .dat Ty.int mi, .dat (Ty.list Ty.int) mw, .dat Ty.bool my]] [.box [.dat (Ty.list Ty.int) ws, .dat Ty.int fu, .dat Ty.bool up, .dat Ty.int un, .dat Ty.int ug]]) = (
    br (lti (0 : Int) sr)
     (K (.tup []) [.box [.dat (Ty.list Ty.int) ws, .dat Ty.int fu, .dat Ty.bool up, .dat Ty.int un, .dat Ty.int ug]])
     (br (lei mn sb)
       (K (.tup []) [.box [.dat (Ty.list Ty.int) ws, .dat Ty.int fu, .dat Ty.bool up, .dat Ty.int un, .dat Ty.int ug]])
       (br (lti (8 : Int) mn)
         (K (.tup []) [.box [.dat (Ty.list Ty.int) ws, .dat Ty.int fu, .dat Ty.bool up, .dat Ty.int un, .dat Ty.int ug]])
         (br (eqi ma (0 : Int))
           (br (!(eqi un mn))
             (br (!(v1).snd)
               (K (.tup []) [.box [.dat (Ty.list Ty.int) (((v1).fst).f).words, .dat Ty.int (((v1).fst).f).fuel, .dat Ty.bool ((v1).fst).up, .dat Ty.int ((v1).fst).n, .dat Ty.int ((v1).fst).got]])
               (br (!(eqi mn mn))
                 (K (.tup []) [.box [.dat (Ty.list Ty.int) (((v1).fst).f).words, .dat Ty.int (((v1).fst).f).fuel, .dat Ty.bool ((v1).fst).up, .dat Ty.int mn, .dat Ty.int (0 : Int)]])
                 (br (!(eqi (0 : Int) ma))
                   (K (.tup []) [.box [.dat (Ty.list Ty.int) (((v1).fst).f).words, .dat Ty.int (((v1).fst).f).fuel, .dat Ty.bool ((v1).fst).up, .dat Ty.int mn, .dat Ty.int (0 : Int)]])
                   (br (lti (40 : Int) (w64 (ma + (((len mw) : Nat) : Int))))
                     (K (.tup []) [.box [.dat (Ty.list Ty.int) (((v1).fst).f).words, .dat Ty.int (((v1).fst).f).fuel, .dat Ty.bool ((v1).fst).up, .dat Ty.int mn, .dat Ty.int (0 : Int)]])
                     (((List.length mw) ≤ 140737488355328) ∧
                      (br (v3).snd
                       (K (.tup []) [.box [.dat (Ty.list Ty.int) (((v3).fst).f).words, .dat Ty.int (((v3).fst).f).fuel, .dat Ty.bool ((v3).fst).up, .dat Ty.int ((v3).fst).n, .dat Ty.int (w64 (((v3).fst).got + (((len mw) : Nat) : Int)))]])
                       (K (.tup []) [.box [.dat (Ty.list Ty.int) (((v3).fst).f).words, .dat Ty.int (((v3).fst).f).fuel, .dat Ty.bool ((v3).fst).up, .dat Ty.int ((v3).fst).n, .dat Ty.int ((v3).fst).got]])))))))
             (br (eqi ug (0 : Int))
               (br (!(v1).snd)
                 (K (.tup []) [.box [.dat (Ty.list Ty.int) (((v1).fst).f).words, .dat Ty.int (((v1).fst).f).fuel, .dat Ty.bool ((v1).fst).up, .dat Ty.int ((v1).fst).n, .dat Ty.int ((v1).fst).got]])
                 (br (!(eqi mn mn))
                   (K (.tup []) [.box [.dat (Ty.list Ty.int) (((v1).fst).f).words, .dat Ty.int (((v1).fst).f).fuel, .dat Ty.bool ((v1).fst).up, .dat Ty.int mn, .dat Ty.int (0 : Int)]])
                   (br (!(eqi (0 : Int) ma))
                     (K (.tup []) [.box [.dat (Ty.list Ty.int) (((v1).fst).f).words, .dat Ty.int (((v1).fst).f).fuel, .dat Ty.bool ((v1).fst).up, .dat Ty.int mn, .dat Ty.int (0 : Int)]])
                     (br (lti (40 : Int) (w64 (ma + (((len mw) : Nat) : Int))))
                       (K (.tup []) [.box [.dat (Ty.list Ty.int) (((v1).fst).f).words, .dat Ty.int (((v1).fst).f).fuel, .dat Ty.bool ((v1).fst).up, .dat Ty.int mn, .dat Ty.int (0 : Int)]])
                       (((List.length mw) ≤ 140737488355328) ∧
                        (br (v3).snd
                         (K (.tup []) [.box [.dat (Ty.list Ty.int) (((v3).fst).f).words, .dat Ty.int (((v3).fst).f).fuel, .dat Ty.bool ((v3).fst).up, .dat Ty.int ((v3).fst).n, .dat Ty.int (w64 (((v3).fst).got + (((len mw) : Nat) : Int)))]])
                         (K (.tup []) [.box [.dat (Ty.list Ty.int) (((v3).fst).f).words, .dat Ty.int (((v3).fst).f).fuel, .dat Ty.bool ((v3).fst).up, .dat Ty.int ((v3).fst).n, .dat Ty.int ((v3).fst).got]])))))))
               (br (!(eqi un mn))
                 (K (.tup []) [.box [.dat (Ty.list Ty.int) ws, .dat Ty.int fu, .dat Ty.bool up, .dat Ty.int un, .dat Ty.int ug]])
                 (br (!(eqi ug ma))
                   (K (.tup []) [.box [.dat (Ty.list Ty.int) ws, .dat Ty.int fu, .dat Ty.bool up, .dat Ty.int un, .dat Ty.int ug]])
                   (br (lti (40 : Int) (w64 (ma + (((len mw) : Nat) : Int))))
                     (K (.tup []) [.box [.dat (Ty.list Ty.int) ws, .dat Ty.int fu, .dat Ty.bool up, .dat Ty.int un, .dat Ty.int ug]])
                     (((List.length mw) ≤ 140737488355328) ∧
                      (br (v5).snd
                       (K (.tup []) [.box [.dat (Ty.list Ty.int) (((v5).fst).f).words, .dat Ty.int (((v5).fst).f).fuel, .dat Ty.bool ((v5).fst).up, .dat Ty.int ((v5).fst).n, .dat Ty.int (w64 (((v5).fst).got + (((len mw) : Nat) : Int)))]])
                       (K (.tup []) [.box [.dat (Ty.list Ty.int) (((v5).fst).f).words, .dat Ty.int (((v5).fst).f).fuel, .dat Ty.bool ((v5).fst).up, .dat Ty.int ((v5).fst).n, .dat Ty.int ((v5).fst).got]]))))))))
           (br (!(eqi un mn))
             (K (.tup []) [.box [.dat (Ty.list Ty.int) ws, .dat Ty.int fu, .dat Ty.bool up, .dat Ty.int un, .dat Ty.int ug]])
             (br (!(eqi ug ma))
               (K (.tup []) [.box [.dat (Ty.list Ty.int) ws, .dat Ty.int fu, .dat Ty.bool up, .dat Ty.int un, .dat Ty.int ug]])
               (br (lti (40 : Int) (w64 (ma + (((len mw) : Nat) : Int))))
                 (K (.tup []) [.box [.dat (Ty.list Ty.int) ws, .dat Ty.int fu, .dat Ty.bool up, .dat Ty.int un, .dat Ty.int ug]])
                 (((List.length mw) ≤ 140737488355328) ∧
                  (br (v5).snd
                   (K (.tup []) [.box [.dat (Ty.list Ty.int) (((v5).fst).f).words, .dat Ty.int (((v5).fst).f).fuel, .dat Ty.bool ((v5).fst).up, .dat Ty.int ((v5).fst).n, .dat Ty.int (w64 (((v5).fst).got + (((len mw) : Nat) : Int)))]])
                   (K (.tup []) [.box [.dat (Ty.list Ty.int) (((v5).fst).f).words, .dat Ty.int (((v5).fst).f).fuel, .dat Ty.bool ((v5).fst).up, .dat Ty.int ((v5).fst).n, .dat Ty.int ((v5).fst).got]])))))))))) := by subst hv5; subst hv4; subst hv3; subst hv2; subst hv1; subst hv0; kernel_rfl
theorem unit_piece_w (ws : List Int) (fu : Int) (up : Bool) (un : Int) (ug : Int) (so : Int) (sb : Int) (sr : Int) (mk : Int) (mu : Int) (mn : Int) (ma : Int) (mi : Int) (mw : List Int) (my : Bool) (m : Nat) (K : V → List Blk → Prop) : goD Γ_unit_piece tab fn_unit_piece 1 K (m + 1) [.code (bodyOf fn_unit_piece)] (initSt [.one (.ptr 0 0), .agg [.dat Ty.int so, .dat Ty.int sb, .dat Ty.int sr], .agg [.dat Ty.int mk, .dat Ty.int mu, .dat Ty.int mn, .dat Ty.int ma, .dat Ty.int mi, .dat (Ty.list Ty.int) mw, .dat Ty.bool my]] [.box [.dat (Ty.list Ty.int) ws, .dat Ty.int fu, .dat Ty.bool up, .dat Ty.int un, .dat Ty.int ug]]) = segD Γ_unit_piece tab fn_unit_piece 1 K (goD Γ_unit_piece tab fn_unit_piece 1 K m) [.code (bodyOf fn_unit_piece)] (initSt [.one (.ptr 0 0), .agg [.dat Ty.int so, .dat Ty.int sb, .dat Ty.int sr], .agg [.dat Ty.int mk, .dat Ty.int mu, .dat Ty.int mn, .dat Ty.int ma, .dat Ty.int mi, .dat (Ty.list Ty.int) mw, .dat Ty.bool my]] [.box [.dat (Ty.list Ty.int) ws, .dat Ty.int fu, .dat Ty.bool up, .dat Ty.int un, .dat Ty.int ug]]) := rfl

theorem unit_fill (K : V → List Blk → Prop) (ws : List Int) (fu : Int) (up : Bool) (un ug so sb sr mk mu mn ma mi : Int) (mw : List Int) (my : Bool) (hs : 0 ≤ so ∧ so ≤ 1) (ha : 0 ≤ ma ∧ ma ≤ 40) (hw : len mw ≤ 8)
    (hK : K (.tup []) [.box [.dat (.list .int) (fillU ⟨⟨ws, fu⟩, up, un, ug⟩ ⟨so, sb, sr⟩ ⟨mk, mu, mn, ma, mi, mw, my⟩).f.words, .dat .int (fillU ⟨⟨ws, fu⟩, up, un, ug⟩ ⟨so, sb, sr⟩ ⟨mk, mu, mn, ma, mi, mw, my⟩).f.fuel, .dat .bool (fillU ⟨⟨ws, fu⟩, up, un, ug⟩ ⟨so, sb, sr⟩ ⟨mk, mu, mn, ma, mi, mw, my⟩).up, .dat .int (fillU ⟨⟨ws, fu⟩, up, un, ug⟩ ⟨so, sb, sr⟩ ⟨mk, mu, mn, ma, mi, mw, my⟩).n, .dat .int (fillU ⟨⟨ws, fu⟩, up, un, ug⟩ ⟨so, sb, sr⟩ ⟨mk, mu, mn, ma, mi, mw, my⟩).got]]) :
    br (!(eqi un mn))
      (K (.tup []) [.box [.dat (.list .int) ws, .dat .int fu, .dat .bool up, .dat .int un, .dat .int ug]])
      (br (!(eqi ug ma))
        (K (.tup []) [.box [.dat (.list .int) ws, .dat .int fu, .dat .bool up, .dat .int un, .dat .int ug]])
        (br (lti 40 (w64 (ma + ((len mw : Nat) : Int))))
          (K (.tup []) [.box [.dat (.list .int) ws, .dat .int fu, .dat .bool up, .dat .int un, .dat .int ug]])
          ((List.length mw ≤ 140737488355328) ∧
            br (changeU ⟨⟨ws, fu⟩, up, un, ug⟩ (fillS ⟨ws, fu⟩ (w64 (1 - so)) ma mw).1 (fillS ⟨ws, fu⟩ (w64 (1 - so)) ma mw).2).2
              (K (.tup []) [.box [.dat (.list .int) (changeU ⟨⟨ws, fu⟩, up, un, ug⟩ (fillS ⟨ws, fu⟩ (w64 (1 - so)) ma mw).1 (fillS ⟨ws, fu⟩ (w64 (1 - so)) ma mw).2).1.f.words, .dat .int (changeU ⟨⟨ws, fu⟩, up, un, ug⟩ (fillS ⟨ws, fu⟩ (w64 (1 - so)) ma mw).1 (fillS ⟨ws, fu⟩ (w64 (1 - so)) ma mw).2).1.f.fuel, .dat .bool (changeU ⟨⟨ws, fu⟩, up, un, ug⟩ (fillS ⟨ws, fu⟩ (w64 (1 - so)) ma mw).1 (fillS ⟨ws, fu⟩ (w64 (1 - so)) ma mw).2).1.up, .dat .int (changeU ⟨⟨ws, fu⟩, up, un, ug⟩ (fillS ⟨ws, fu⟩ (w64 (1 - so)) ma mw).1 (fillS ⟨ws, fu⟩ (w64 (1 - so)) ma mw).2).1.n, .dat .int (w64 ((changeU ⟨⟨ws, fu⟩, up, un, ug⟩ (fillS ⟨ws, fu⟩ (w64 (1 - so)) ma mw).1 (fillS ⟨ws, fu⟩ (w64 (1 - so)) ma mw).2).1.got + ((len mw : Nat) : Int)))]])
              (K (.tup []) [.box [.dat (.list .int) (changeU ⟨⟨ws, fu⟩, up, un, ug⟩ (fillS ⟨ws, fu⟩ (w64 (1 - so)) ma mw).1 (fillS ⟨ws, fu⟩ (w64 (1 - so)) ma mw).2).1.f.words, .dat .int (changeU ⟨⟨ws, fu⟩, up, un, ug⟩ (fillS ⟨ws, fu⟩ (w64 (1 - so)) ma mw).1 (fillS ⟨ws, fu⟩ (w64 (1 - so)) ma mw).2).1.f.fuel, .dat .bool (changeU ⟨⟨ws, fu⟩, up, un, ug⟩ (fillS ⟨ws, fu⟩ (w64 (1 - so)) ma mw).1 (fillS ⟨ws, fu⟩ (w64 (1 - so)) ma mw).2).1.up, .dat .int (changeU ⟨⟨ws, fu⟩, up, un, ug⟩ (fillS ⟨ws, fu⟩ (w64 (1 - so)) ma mw).1 (fillS ⟨ws, fu⟩ (w64 (1 - so)) ma mw).2).1.n, .dat .int (changeU ⟨⟨ws, fu⟩, up, un, ug⟩ (fillS ⟨ws, fu⟩ (w64 (1 - so)) ma mw).1 (fillS ⟨ws, fu⟩ (w64 (1 - so)) ma mw).2).1.got]])))) := by
  have hl : mw.length ≤ 8 := hw
  rw [w64_id (n := 1 - so) (by omega) (by omega), w64_id (n := ma + ((len mw : Nat) : Int)) (by simp only [len]; omega) (by simp only [len]; omega)]
  unfold fillU at hK
  simp only at hK
  refine ne_s (fun h => ?_) (fun h => ne_s (fun h2 => ?_) (fun h2 => lt_s (fun h3 => ?_) (fun h3 => ⟨by omega, br_split (fun h4 => ?_) (fun h4 => ?_)⟩)))
  · rw [if_pos (.inl h)] at hK; exact hK
  · rw [if_pos (.inr (.inl h2))] at hK; exact hK
  · rw [if_pos (.inr (.inr (by simp only [len] at h3; omega)))] at hK; exact hK
  · rw [if_neg (by simp only [len] at h3; omega)] at hK
    have e : fillC ⟨⟨ws, fu⟩, up, un, ug⟩ ⟨so, sb, sr⟩ ⟨mk, mu, mn, ma, mi, mw, my⟩ = changeU ⟨⟨ws, fu⟩, up, un, ug⟩ (fillS ⟨ws, fu⟩ (1 - so) ma mw).1 (fillS ⟨ws, fu⟩ (1 - so) ma mw).2 := rfl
    rw [e, if_pos h4] at hK
    have hg : (changeU ⟨⟨ws, fu⟩, up, un, ug⟩ (fillS ⟨ws, fu⟩ (1 - so) ma mw).1 (fillS ⟨ws, fu⟩ (1 - so) ma mw).2).1.got = ug := by rw [(changeU_true h4).2]
    rw [w64_id (by simp only [len]; omega) (by simp only [len]; omega)]
    exact hK
  · rw [if_neg (by simp only [len] at h3; omega)] at hK
    have e : fillC ⟨⟨ws, fu⟩, up, un, ug⟩ ⟨so, sb, sr⟩ ⟨mk, mu, mn, ma, mi, mw, my⟩ = changeU ⟨⟨ws, fu⟩, up, un, ug⟩ (fillS ⟨ws, fu⟩ (1 - so) ma mw).1 (fillS ⟨ws, fu⟩ (1 - so) ma mw).2 := rfl
    rw [e, if_neg (by rw [h4]; simp)] at hK
    exact hK
set_option maxHeartbeats 4000000 in
theorem run_unit_piece (ws : List Int) (fu : Int) (up : Bool) (un ug : Int)(so sb sr : Int)(mk mu mn ma mi : Int) (mw : List Int) (my : Bool) (hp : 0 ≤ so ∧ so ≤ 1 ∧ 0 ≤ ma ∧ ma ≤ 40 ∧ len mw ≤ 8) (K : V → List Blk → Prop) (hK : K (.tup []) [.box [.dat (.list .int) (pieceU ⟨⟨ws, fu⟩, up, un, ug⟩ ⟨so, sb, sr⟩ ⟨mk, mu, mn, ma, mi, mw, my⟩).f.words, .dat .int (pieceU ⟨⟨ws, fu⟩, up, un, ug⟩ ⟨so, sb, sr⟩ ⟨mk, mu, mn, ma, mi, mw, my⟩).f.fuel, .dat .bool (pieceU ⟨⟨ws, fu⟩, up, un, ug⟩ ⟨so, sb, sr⟩ ⟨mk, mu, mn, ma, mi, mw, my⟩).up, .dat .int (pieceU ⟨⟨ws, fu⟩, up, un, ug⟩ ⟨so, sb, sr⟩ ⟨mk, mu, mn, ma, mi, mw, my⟩).n, .dat .int (pieceU ⟨⟨ws, fu⟩, up, un, ug⟩ ⟨so, sb, sr⟩ ⟨mk, mu, mn, ma, mi, mw, my⟩).got]]) : ∃ m, goD Γ_unit_piece tab fn_unit_piece 1 K m [.code (bodyOf fn_unit_piece)] (initSt [.one (.ptr 0 0), .agg [.dat .int so, .dat .int sb, .dat .int sr], .agg [.dat .int mk, .dat .int mu, .dat .int mn, .dat .int ma, .dat .int mi, .dat (.list .int) mw, .dat .bool my]] [.box [.dat (.list .int) ws, .dat .int fu, .dat .bool up, .dat .int un, .dat .int ug]]) := by
  refine ⟨1, ?_⟩
  rw [unit_piece_w, unit_piece_vc _ _ _ _ _ _ _ _ _ _ _ _ _ _ _ _ _ _ rfl _ rfl _ rfl _ rfl _ rfl _ rfl]
  obtain ⟨p1, p2, p3, p4, p5⟩ := hp
  have fill := unit_fill K ws fu up un ug so sb sr mk mu mn ma mi mw my ⟨p1, p2⟩ ⟨p3, p4⟩ p5
  unfold pieceU at hK
  simp only at hK
  refine lt_s (fun h => ?_) (fun h => br_split (fun h2 => ?_) (fun h2 => lt_s (fun h3 => ?_) (fun h3 => ?_)))
  · rw [if_pos (.inl h)] at hK; exact hK
  · rw [lei_true] at h2; rw [if_pos (.inr (.inl h2))] at hK; exact hK
  · rw [if_pos (.inr (.inr h3))] at hK; exact hK
  rw [lei_false] at h2
  rw [if_neg (by omega)] at hK
  have e : clearC ⟨⟨ws, fu⟩, up, un, ug⟩ ⟨so, sb, sr⟩ = changeU ⟨⟨ws, fu⟩, up, un, ug⟩ (clearS ⟨ws, fu⟩ (w64 (1 - so))).1 (clearS ⟨ws, fu⟩ (w64 (1 - so))).2 := by rw [w64_id (by omega) (by omega)]; rfl
  rw [e] at hK
  refine eq_s (fun h4 => ?_) (fun h4 => ?_)
  · have clear_ : ∀ P : Prop, (un ≠ mn ∨ ug = 0) → (∀ v1, v1 = changeU ⟨⟨ws, fu⟩, up, un, ug⟩ (clearS ⟨ws, fu⟩ (w64 (1 - so))).1 (clearS ⟨ws, fu⟩ (w64 (1 - so))).2 → (v1.2 = false → K (.tup []) [.box [.dat (.list .int) v1.1.f.words, .dat .int v1.1.f.fuel, .dat .bool v1.1.up, .dat .int v1.1.n, .dat .int v1.1.got]]) →
        (v1.2 = true → K (.tup []) [.box [.dat (.list .int) (fillU ⟨v1.1.f, v1.1.up, mn, 0⟩ ⟨so, sb, sr⟩ ⟨mk, mu, mn, ma, mi, mw, my⟩).f.words, .dat .int (fillU ⟨v1.1.f, v1.1.up, mn, 0⟩ ⟨so, sb, sr⟩ ⟨mk, mu, mn, ma, mi, mw, my⟩).f.fuel, .dat .bool (fillU ⟨v1.1.f, v1.1.up, mn, 0⟩ ⟨so, sb, sr⟩ ⟨mk, mu, mn, ma, mi, mw, my⟩).up, .dat .int (fillU ⟨v1.1.f, v1.1.up, mn, 0⟩ ⟨so, sb, sr⟩ ⟨mk, mu, mn, ma, mi, mw, my⟩).n, .dat .int (fillU ⟨v1.1.f, v1.1.up, mn, 0⟩ ⟨so, sb, sr⟩ ⟨mk, mu, mn, ma, mi, mw, my⟩).got]]) → P) → P := fun P hu hP => by
      rw [if_pos ⟨h4, hu⟩] at hK
      refine hP _ rfl (fun hv => ?_) (fun hv => ?_)
      · rw [if_neg (by rw [hv]; simp)] at hK; exact hK
      · rw [if_pos hv] at hK; exact hK
    refine ne_s (fun h5 => ?_) (fun h5 => eq_s (fun h6 => ?_) (fun h6 => ?_))
    · refine clear_ _ (.inl h5) fun v1 hv k1 k2 => ?_
      rw [← hv]
      refine nt_s (fun g => k1 g) (fun g => ?_)
      exact unit_fill K v1.1.f.words v1.1.f.fuel v1.1.up mn 0 so sb sr mk mu mn ma mi mw my ⟨p1, p2⟩ ⟨p3, p4⟩ p5 (k2 g)
    · refine clear_ _ (.inr h6) fun v1 hv k1 k2 => ?_
      rw [← hv]
      refine nt_s (fun g => k1 g) (fun g => ?_)
      exact unit_fill K v1.1.f.words v1.1.f.fuel v1.1.up mn 0 so sb sr mk mu mn ma mi mw my ⟨p1, p2⟩ ⟨p3, p4⟩ p5 (k2 g)
    · rw [if_neg (by omega)] at hK
      exact fill hK
  · rw [if_neg (by omega)] at hK
    exact fill hK
theorem sound_unit_piece : SoundC Tryd.prog tab n_unit_piece c_unit_piece := soundC_of ok_unit_piece hf_unit_piece hB_unit_piece (by
  intro vs bs p v bs' h hp
  unfold c_unit_piece at h
  split at h
  · cases h
    exact ⟨by kernel_rfl, rfl, .inl (run_unit_piece _ _ _ _ _ _ _ _ _ _ _ _ _ _ _ hp.1 _ ⟨rfl, rfl⟩)⟩
  · cases h)

def c_unit_prepare_1 : Contract := fun vs bs => match vs, bs with
  | [.one (.dat .bool y), .one (.ptr 0 0)], [.box [.dat .int mk, .dat .int mu, .dat .int mn, .dat .int ma, .dat .int mi, .dat (.list .int) mw, .dat .bool my]] => some (none, .one (.dat (.list .message) (voteM ⟨mk, mu, mn, ma, mi, mw, my⟩ y)), [.box [.dat .int mk, .dat .int mu, .dat .int mn, .dat .int ma, .dat .int mi, .dat (.list .int) mw, .dat .bool my]])
  | _, _ => none
def Γ_unit_prepare_1 : Ctx := []
theorem ok_unit_prepare_1 : Ok Tryd.prog tab Γ_unit_prepare_1 := ok_nil
theorem unit_prepare_1_vc (y : Bool) (mk : Int) (mu : Int) (mn : Int) (ma : Int) (mi : Int) (mw : List Int) (my : Bool) (rec : List It → St → Prop) (K : V → List Blk → Prop) : segD Γ_unit_prepare_1 tab fn_unit_prepare_1 1 K rec [.code (bodyOf fn_unit_prepare_1)] (initSt [.one (.dat Ty.bool y), .one (.ptr 0 0)] [.box [.dat Ty.int mk, .dat Ty.int mu, .dat Ty.int mn, .dat Ty.int ma, .dat Ty.int mi, .dat (Ty.list Ty.int) mw, .dat Ty.bool my]]) = (
    K (.one (.dat (Ty.list Ty.message) ((⟨(3 : Int), mu, mn, (0 : Int), (0 : Int), [], y⟩ : Vm.Message) :: []))) [.box [.dat Ty.int mk, .dat Ty.int mu, .dat Ty.int mn, .dat Ty.int ma, .dat Ty.int mi, .dat (Ty.list Ty.int) mw, .dat Ty.bool my]]) := by kernel_rfl
theorem unit_prepare_1_w (y : Bool) (mk : Int) (mu : Int) (mn : Int) (ma : Int) (mi : Int) (mw : List Int) (my : Bool) (m : Nat) (K : V → List Blk → Prop) : goD Γ_unit_prepare_1 tab fn_unit_prepare_1 1 K (m + 1) [.code (bodyOf fn_unit_prepare_1)] (initSt [.one (.dat Ty.bool y), .one (.ptr 0 0)] [.box [.dat Ty.int mk, .dat Ty.int mu, .dat Ty.int mn, .dat Ty.int ma, .dat Ty.int mi, .dat (Ty.list Ty.int) mw, .dat Ty.bool my]]) = segD Γ_unit_prepare_1 tab fn_unit_prepare_1 1 K (goD Γ_unit_prepare_1 tab fn_unit_prepare_1 1 K m) [.code (bodyOf fn_unit_prepare_1)] (initSt [.one (.dat Ty.bool y), .one (.ptr 0 0)] [.box [.dat Ty.int mk, .dat Ty.int mu, .dat Ty.int mn, .dat Ty.int ma, .dat Ty.int mi, .dat (Ty.list Ty.int) mw, .dat Ty.bool my]]) := rfl

set_option maxHeartbeats 4000000 in
theorem run_unit_prepare_1 (y : Bool) (mk mu mn ma mi : Int) (mw : List Int) (my : Bool) (K : V → List Blk → Prop) (hK : K (.one (.dat (.list .message) (voteM ⟨mk, mu, mn, ma, mi, mw, my⟩ y))) [.box [.dat .int mk, .dat .int mu, .dat .int mn, .dat .int ma, .dat .int mi, .dat (.list .int) mw, .dat .bool my]]) : ∃ m, goD Γ_unit_prepare_1 tab fn_unit_prepare_1 1 K m [.code (bodyOf fn_unit_prepare_1)] (initSt [.one (.dat .bool y), .one (.ptr 0 0)] [.box [.dat .int mk, .dat .int mu, .dat .int mn, .dat .int ma, .dat .int mi, .dat (.list .int) mw, .dat .bool my]]) := by
  refine ⟨1, ?_⟩
  rw [unit_prepare_1_w, unit_prepare_1_vc _ _ _ _ _ _ _ _ _ _]
  exact hK
theorem sound_unit_prepare_1 : SoundC Tryd.prog tab n_unit_prepare_1 c_unit_prepare_1 := soundC_of ok_unit_prepare_1 hf_unit_prepare_1 hB_unit_prepare_1 (by
  intro vs bs p v bs' h hp
  unfold c_unit_prepare_1 at h
  split at h
  · cases h
    exact ⟨by kernel_rfl, rfl, .inl (run_unit_prepare_1 _ _ _ _ _ _ _ _ _ ⟨rfl, rfl⟩)⟩
  · cases h)

def c_flash_Read : Contract := fun vs bs => match vs, bs with
  | [.agg [.dat (.list .int) ws, .dat .int fu], .one (.dat .int at_), .one (.dat .int n)], [] => some (some (I64 at_ ∧ I64 n), .tup [.one (.dat (.list .int) (readF ⟨ws, fu⟩ at_ n).1), .one (.dat .int (readF ⟨ws, fu⟩ at_ n).2)], [])
  | _, _ => none
def Γ_flash_Read : Ctx := [(n_flash_Check, c_flash_Check), (n_slices_Clone_Lint, c_slices_Clone_Lint)]
theorem ok_flash_Read : Ok Tryd.prog tab Γ_flash_Read := ((ok_nil.consC hf_slices_Clone_Lint hB_slices_Clone_Lint sound_slices_Clone_Lint).consC hf_flash_Check hB_flash_Check sound_flash_Check)
theorem flash_Read_vc (ws : List Int) (fu : Int) (at_ : Int) (n : Int) (rec : List It → St → Prop) (K : V → List Blk → Prop) v0 (hv0 : v0 = (checkFlash ⟨ws, fu⟩)) : segD Γ_flash_Read tab fn_flash_Read 0 K rec [.code (bodyOf fn_flash_Read)] (initSt [.agg [.dat (Ty.list Ty.int) ws, .dat Ty.int fu], .one (.dat Ty.int at_), .one (.dat Ty.int n)] []) = (
    br (!(eqi v0 (0 : Int)))
     (K (.tup [.one (.dat (Ty.list Ty.int) []), .one (.dat Ty.int v0)]) [])
     (br (lti at_ (0 : Int))
       (K (.tup [.one (.dat (Ty.list Ty.int) []), .one (.dat Ty.int (5 : Int))]) [])
       (br (lti n (0 : Int))
         (K (.tup [.one (.dat (Ty.list Ty.int) []), .one (.dat Ty.int (5 : Int))]) [])
         (br (lti (((len ws) : Nat) : Int) at_)
           (K (.tup [.one (.dat (Ty.list Ty.int) []), .one (.dat Ty.int (5 : Int))]) [])
           (br (lti (w64 ((((len ws) : Nat) : Int) - at_)) n)
             (K (.tup [.one (.dat (Ty.list Ty.int) []), .one (.dat Ty.int (5 : Int))]) [])
             ((((0 : Int) ≤ at_) ∧ ((at_ ≤ (w64 (at_ + n))) ∧ ((w64 (at_ + n)) ≤ (((len ws) : Nat) : Int)))) ∧
              ((((len (slc ws (Int.toNat at_) (Int.toNat (w64 (at_ + n))))) * 8) ≤ 140737488355328) ∧
              (K (.tup [.one (.dat (Ty.list Ty.int) (slc ws (Int.toNat at_) (Int.toNat (w64 (at_ + n))))), .one (.dat Ty.int (0 : Int))]) [])))))))) := by subst hv0; kernel_rfl
theorem flash_Read_w (ws : List Int) (fu : Int) (at_ : Int) (n : Int) (m : Nat) (K : V → List Blk → Prop) : goD Γ_flash_Read tab fn_flash_Read 0 K (m + 1) [.code (bodyOf fn_flash_Read)] (initSt [.agg [.dat (Ty.list Ty.int) ws, .dat Ty.int fu], .one (.dat Ty.int at_), .one (.dat Ty.int n)] []) = segD Γ_flash_Read tab fn_flash_Read 0 K (goD Γ_flash_Read tab fn_flash_Read 0 K m) [.code (bodyOf fn_flash_Read)] (initSt [.agg [.dat (Ty.list Ty.int) ws, .dat Ty.int fu], .one (.dat Ty.int at_), .one (.dat Ty.int n)] []) := rfl

set_option maxHeartbeats 4000000 in
theorem run_flash_Read (ws : List Int) (fu at_ n : Int) (hp : I64 at_ ∧ I64 n) (K : V → List Blk → Prop) (hK : K (.tup [.one (.dat (.list .int) (readF ⟨ws, fu⟩ at_ n).1), .one (.dat .int (readF ⟨ws, fu⟩ at_ n).2)]) []) : ∃ m, goD Γ_flash_Read tab fn_flash_Read 0 K m [.code (bodyOf fn_flash_Read)] (initSt [.agg [.dat (.list .int) ws, .dat .int fu], .one (.dat .int at_), .one (.dat .int n)] []) := by
  obtain ⟨⟨ha, hb⟩, hc, hd⟩ := hp
  refine ⟨1, ?_⟩
  rw [flash_Read_w, flash_Read_vc _ _ _ _ _ _ _ rfl]
  unfold readF at hK
  refine ne_s (fun h => ?_) (fun h => ?_)
  · rw [if_neg h] at hK; exact hK
  rw [if_pos h] at hK
  obtain ⟨c1, c2, c3, c4⟩ := checkFlash_ok h
  obtain ⟨c5, c6⟩ := okLen_le c1
  simp only at c2 c3 c5 c6
  have five : ¬ (0 ≤ at_ ∧ 0 ≤ n ∧ at_ + n ≤ (ws.length : Int)) → K (.tup [.one (.dat (.list .int) []), .one (.dat .int 5)]) [] := fun hn => by
    rw [if_neg hn] at hK; exact hK
  simp only [len]
  refine lt_s (fun h1 => five (by omega)) (fun h1 => lt_s (fun h2 => five (by omega)) (fun h2 => lt_s (fun h3 => five (by omega)) (fun h3 => ?_)))
  rw [w64_id (by omega) (by omega)]
  refine lt_s (fun h4 => five (by omega)) (fun h4 => ?_)
  rw [if_pos (by simp only; omega)] at hK
  rw [w64_id (by omega) (by omega)]
  refine ⟨⟨h1, by omega, by omega⟩, ?_, hK⟩
  have : (slc ws at_.toNat (at_ + n).toNat).length ≤ 192 := by simp [slc]; omega
  omega
theorem sound_flash_Read : SoundC Tryd.prog tab n_flash_Read c_flash_Read := soundC_of ok_flash_Read hf_flash_Read hB_flash_Read (by
  intro vs bs p v bs' h hp
  unfold c_flash_Read at h
  split at h
  · cases h
    exact ⟨by kernel_rfl, rfl, .inl (run_flash_Read _ _ _ _ hp.1 _ ⟨rfl, rfl⟩)⟩
  · cases h)

def c_slot_Body : Contract := fun vs bs => match vs, bs with
  | [.agg [.dat (.list .int) ws, .dat .int fu], .one (.dat .int slot), .one (.dat .int n)], [] => some (none, .tup [.one (.dat (.list .int) (bodyS ⟨ws, fu⟩ slot n).1), .one (.dat .int (bodyS ⟨ws, fu⟩ slot n).2)], [])
  | _, _ => none
def Γ_slot_Body : Ctx := [(n_slot_check, c_slot_check), (n_slot_begin, c_slot_begin), (n_flash_Read, c_flash_Read)]
theorem ok_slot_Body : Ok Tryd.prog tab Γ_slot_Body := (((ok_nil.consC hf_flash_Read hB_flash_Read sound_flash_Read).consC hf_slot_begin hB_slot_begin sound_slot_begin).consC hf_slot_check hB_slot_check sound_slot_check)
theorem slot_Body_vc (ws : List Int) (fu : Int) (slot : Int) (n : Int) (rec : List It → St → Prop) (K : V → List Blk → Prop) v0 (hv0 : v0 = (checkSlot (⟨ws, fu⟩ : Flash) slot)) v1 (hv1 : v1 = (readF (⟨ws, fu⟩ : Flash) (w64 (((64 : Int) + ((64 : Int) * slot)) + (4 : Int))) n)) : segD Γ_slot_Body tab fn_slot_Body 0 K rec [.code (bodyOf fn_slot_Body)] (initSt [.agg [.dat (Ty.list Ty.int) ws, .dat Ty.int fu], .one (.dat Ty.int slot), .one (.dat Ty.int n)] []) = (
    br (!(eqi v0 (0 : Int)))
     (K (.tup [.one (.dat (Ty.list Ty.int) []), .one (.dat Ty.int v0)]) [])
     (br (lti n (0 : Int))
       (K (.tup [.one (.dat (Ty.list Ty.int) []), .one (.dat Ty.int (2 : Int))]) [])
       (br (lti (40 : Int) n)
         (K (.tup [.one (.dat (Ty.list Ty.int) []), .one (.dat Ty.int (2 : Int))]) [])
         ((((0 : Int) ≤ slot) ∧ (slot ≤ (1 : Int))) ∧
          (((((-(9223372036854775808 : Int)) ≤ (w64 (((64 : Int) + ((64 : Int) * slot)) + (4 : Int)))) ∧ ((w64 (((64 : Int) + ((64 : Int) * slot)) + (4 : Int))) ≤ (9223372036854775807 : Int))) ∧ (((-(9223372036854775808 : Int)) ≤ n) ∧ (n ≤ (9223372036854775807 : Int)))) ∧
          (K (.tup [.one (.dat (Ty.list Ty.int) (v1).fst), .one (.dat Ty.int (v1).snd)]) [])))))) := by subst hv1; subst hv0; kernel_rfl
theorem slot_Body_w (ws : List Int) (fu : Int) (slot : Int) (n : Int) (m : Nat) (K : V → List Blk → Prop) : goD Γ_slot_Body tab fn_slot_Body 0 K (m + 1) [.code (bodyOf fn_slot_Body)] (initSt [.agg [.dat (Ty.list Ty.int) ws, .dat Ty.int fu], .one (.dat Ty.int slot), .one (.dat Ty.int n)] []) = segD Γ_slot_Body tab fn_slot_Body 0 K (goD Γ_slot_Body tab fn_slot_Body 0 K m) [.code (bodyOf fn_slot_Body)] (initSt [.agg [.dat (Ty.list Ty.int) ws, .dat Ty.int fu], .one (.dat Ty.int slot), .one (.dat Ty.int n)] []) := rfl

set_option maxHeartbeats 4000000 in
theorem run_slot_Body (ws : List Int) (fu slot n : Int) (K : V → List Blk → Prop) (hK : K (.tup [.one (.dat (.list .int) (bodyS ⟨ws, fu⟩ slot n).1), .one (.dat .int (bodyS ⟨ws, fu⟩ slot n).2)]) []) : ∃ m, goD Γ_slot_Body tab fn_slot_Body 0 K m [.code (bodyOf fn_slot_Body)] (initSt [.agg [.dat (.list .int) ws, .dat .int fu], .one (.dat .int slot), .one (.dat .int n)] []) := by
  refine ⟨1, ?_⟩
  rw [slot_Body_w, slot_Body_vc _ _ _ _ _ _ _ rfl _ rfl]
  unfold bodyS at hK
  refine ne_s (fun h => ?_) (fun h => ?_)
  · rw [if_neg h] at hK; exact hK
  rw [if_pos h] at hK
  obtain ⟨h1, h2, h3⟩ := checkSlot_ok h
  simp only at h2
  refine lt_s (fun h4 => ?_) (fun h4 => lt_s (fun h5 => ?_) (fun h5 => ?_))
  · rw [if_neg (by omega)] at hK; exact hK
  · rw [if_neg (by omega)] at hK; exact hK
  rw [if_pos (by omega)] at hK
  rw [w64_id (n := 64 + 64 * slot + 4) (by omega) (by omega), show 64 + 64 * slot + 4 = 68 + 64 * slot by omega]
  refine ⟨by omega, by omega, ?_⟩
  unfold readF
  rw [if_pos h1, if_pos (by simp only; omega)]
  exact hK
theorem sound_slot_Body : SoundC Tryd.prog tab n_slot_Body c_slot_Body := soundC_of ok_slot_Body hf_slot_Body hB_slot_Body (by
  intro vs bs p v bs' h hp
  unfold c_slot_Body at h
  split at h
  · cases h
    exact ⟨by kernel_rfl, rfl, .inl (run_slot_Body _ _ _ _ _ ⟨rfl, rfl⟩)⟩
  · cases h)

def c_meta_list : Contract := fun vs bs => match vs, bs with
  | [.one (.dat (.list .int) l)], [] => some (some (len l ≤ 1000 ∧ nums l = true), .one (.dat .str (listT l)), [])
  | _, _ => none
def Γ_meta_list : Ctx := [(n_strconv_Itoa, c_strconv_Itoa), (n_strings_Join, c_strings_Join)]
theorem ok_meta_list : Ok Tryd.prog tab Γ_meta_list := ((ok_nil.consC hf_strings_Join hB_strings_Join sound_strings_Join).consC hf_strconv_Itoa hB_strconv_Itoa sound_strconv_Itoa)
noncomputable def meta_list_L0 : List It := [.inLoop [8, 7, 6, 3, 2] (Code.sub (bodyOf fn_meta_list) [1, 1, 0, 1, 0, 0]), .inBlock 0, .code (Code.sub (bodyOf fn_meta_list) [1, 1, 1])]
def meta_list_S0 (x0 : Int) (x1 : Int) (x2 : (List Int)) (x3 : (List UInt8)) (x4 : (List (List UInt8))) : St := ⟨[(8, .one (.dat Ty.int x0)), (7, .one (.dat Ty.int x1)), (6, .one (.dat (Ty.list Ty.int) x2)), (3, .one (.own 0)), (2, .one (.dat Ty.str x3))], [(0, .arr Ty.str x4)], 1⟩
theorem meta_list_vc (l : List Int) (rec : List It → St → Prop) (K : V → List Blk → Prop) : segD Γ_meta_list tab fn_meta_list 0 K rec [.code (bodyOf fn_meta_list)] (initSt [.one (.dat (Ty.list Ty.int) l)] []) = (
    rec meta_list_L0 (meta_list_S0 (0 : Int) (((len l) : Nat) : Int) l [] [])) := by kernel_rfl
theorem meta_list_w (l : List Int) (m : Nat) (K : V → List Blk → Prop) : goD Γ_meta_list tab fn_meta_list 0 K (m + 1) [.code (bodyOf fn_meta_list)] (initSt [.one (.dat (Ty.list Ty.int) l)] []) = segD Γ_meta_list tab fn_meta_list 0 K (goD Γ_meta_list tab fn_meta_list 0 K m) [.code (bodyOf fn_meta_list)] (initSt [.one (.dat (Ty.list Ty.int) l)] []) := rfl
theorem meta_list_vc0 (x0 : Int) (x1 : Int) (x2 : (List Int)) (x3 : (List UInt8)) (x4 : (List (List UInt8))) (rec : List It → St → Prop) (K : V → List Blk → Prop) v0 (hv0 : v0 = (numT (nth x2 (Int.toNat x0) (Ty.dflt Ty.int)))) v1 (hv1 : v1 = (joinT ((32 : UInt8) :: []) x4)) : segD Γ_meta_list tab fn_meta_list 0 K rec (.code (Code.sub (bodyOf fn_meta_list) [1, 1, 0, 1, 0, 0]) :: meta_list_L0) (meta_list_S0 x0 x1 x2 x3 x4) = (
    br (lti x0 x1)
     ((((0 : Int) ≤ x0) ∧ (x0 < (((len x2) : Nat) : Int))) ∧
      ((((0 : Int) ≤ (nth x2 (Int.toNat x0) (Ty.dflt Ty.int))) ∧ ((nth x2 (Int.toNat x0) (Ty.dflt Ty.int)) ≤ (9223372036854775807 : Int))) ∧
      (((((len x4) + (len (v0 :: []))) * 16) ≤ 140737488355328) ∧
      (rec meta_list_L0 (meta_list_S0 (w64 (x0 + (1 : Int))) x1 x2 x3 (cat x4 (v0 :: [])))))))
     ((((List.length x4) ≤ 140737488355328) ∧ ((List.length v1) ≤ 140737488355328)) ∧
      (K (.one (.dat Ty.str v1)) []))) := by subst hv1; subst hv0; kernel_rfl
theorem meta_list_w0 (x0 : Int) (x1 : Int) (x2 : (List Int)) (x3 : (List UInt8)) (x4 : (List (List UInt8))) (m : Nat) (K : V → List Blk → Prop) : goD Γ_meta_list tab fn_meta_list 0 K (m + 1) meta_list_L0 (meta_list_S0 x0 x1 x2 x3 x4) = segD Γ_meta_list tab fn_meta_list 0 K (goD Γ_meta_list tab fn_meta_list 0 K m) (.code (Code.sub (bodyOf fn_meta_list) [1, 1, 0, 1, 0, 0]) :: meta_list_L0) (meta_list_S0 x0 x1 x2 x3 x4) := rfl

theorem loop_meta_list (l : List Int) (hl : l.length ≤ 1000) (hn : nums l = true) (K : V → List Blk → Prop) (hK : K (.one (.dat .str (listT l))) []) (y : List UInt8) : ∀ (d k : Nat), k + d = l.length →
    goD Γ_meta_list tab fn_meta_list 0 K (d + 1) meta_list_L0 (meta_list_S0 (k : Int) (((len l) : Nat) : Int) l y ((l.take k).map numT))
  | 0, k, hk => by
    rw [meta_list_w0, meta_list_vc0 _ _ _ _ _ _ _ _ rfl _ rfl, List.take_of_length_le (by omega)]
    have h1 := listT_len l
    unfold listT at h1
    exact lt_f (by simp only [len]; omega) ⟨⟨by rw [List.length_map]; omega, by omega⟩, hK⟩
  | d + 1, k, hk => by
    rw [meta_list_w0, meta_list_vc0 _ _ _ _ _ _ _ _ rfl _ rfl, toNat_nat]
    have hm : nth l k (Ty.dflt Ty.int) ∈ l := by
      have : k < l.length := by omega
      simp [nth, List.getD_eq_getElem?_getD, this]
    have h1 := List.all_eq_true.1 hn _ hm
    simp only [Bool.and_eq_true, decide_eq_true_eq] at h1
    refine lt_t (by simp only [len]; omega) ⟨⟨by omega, by simp only [len]; omega⟩, h1, by simp only [len, List.length_map, List.length_take, List.length_cons, List.length_nil]; omega, ?_⟩
    rw [w64_succ (by omega), show cat ((l.take k).map numT) [numT (nth l k (Ty.dflt Ty.int))] = (l.take (k + 1)).map numT from by rw [take_step (by omega) (Ty.dflt Ty.int)]; simp [cat]]
    exact loop_meta_list l hl hn K hK y d (k + 1) (by omega)
set_option maxHeartbeats 4000000 in
theorem run_meta_list (l : List Int) (hp : len l ≤ 1000 ∧ nums l = true) (K : V → List Blk → Prop) (hK : K (.one (.dat .str (listT l))) []) : ∃ m, goD Γ_meta_list tab fn_meta_list 0 K m [.code (bodyOf fn_meta_list)] (initSt [.one (.dat (.list .int) l)] []) := by
  refine ⟨l.length + 2, ?_⟩
  rw [meta_list_w, meta_list_vc _ _ _]
  exact loop_meta_list l hp.1 hp.2 K hK [] l.length 0 (by omega)
theorem sound_meta_list : SoundC Tryd.prog tab n_meta_list c_meta_list := soundC_of ok_meta_list hf_meta_list hB_meta_list (by
  intro vs bs p v bs' h hp
  unfold c_meta_list at h
  split at h
  · cases h
    exact ⟨by kernel_rfl, rfl, .inl (run_meta_list _ hp.1 _ ⟨rfl, rfl⟩)⟩
  · cases h)

def c_meta_ImageText : Contract := fun vs bs => match vs, bs with
  | [.one (.dat (.list .int) l)], [] => some (none, .tup [.one (.dat .str (imageTextE l).1), .one (.dat .int (imageTextE l).2)], [])
  | _, _ => none
def Γ_meta_ImageText : Ctx := [(n_meta_CheckImage, c_meta_CheckImage), (n_meta_list, c_meta_list)]
theorem ok_meta_ImageText : Ok Tryd.prog tab Γ_meta_ImageText := ((ok_nil.consC hf_meta_list hB_meta_list sound_meta_list).consC hf_meta_CheckImage hB_meta_CheckImage sound_meta_CheckImage)
theorem meta_ImageText_vc (l : List Int) (rec : List It → St → Prop) (K : V → List Blk → Prop) v0 (hv0 : v0 = (checkImage l)) v1 (hv1 : v1 = (nums l)) v2 (hv2 : v2 = (listT l)) : segD Γ_meta_ImageText tab fn_meta_ImageText 0 K rec [.code (bodyOf fn_meta_ImageText)] (initSt [.one (.dat (Ty.list Ty.int) l)] []) = (
    br (!(eqi v0 (0 : Int)))
     (K (.tup [.one (.dat Ty.str []), .one (.dat Ty.int v0)]) [])
     ((((len l) ≤ 1000) ∧ (v1 = true)) ∧
      ((((len ((105 : UInt8) :: ((109 : UInt8) :: ((97 : UInt8) :: ((103 : UInt8) :: ((101 : UInt8) :: ((32 : UInt8) :: []))))))) + (len v2)) ≤ 140737488355328) ∧
      (K (.tup [.one (.dat Ty.str (cat ((105 : UInt8) :: ((109 : UInt8) :: ((97 : UInt8) :: ((103 : UInt8) :: ((101 : UInt8) :: ((32 : UInt8) :: [])))))) v2)), .one (.dat Ty.int (0 : Int))]) [])))) := by subst hv2; subst hv1; subst hv0; kernel_rfl
theorem meta_ImageText_w (l : List Int) (m : Nat) (K : V → List Blk → Prop) : goD Γ_meta_ImageText tab fn_meta_ImageText 0 K (m + 1) [.code (bodyOf fn_meta_ImageText)] (initSt [.one (.dat (Ty.list Ty.int) l)] []) = segD Γ_meta_ImageText tab fn_meta_ImageText 0 K (goD Γ_meta_ImageText tab fn_meta_ImageText 0 K m) [.code (bodyOf fn_meta_ImageText)] (initSt [.one (.dat (Ty.list Ty.int) l)] []) := rfl

set_option maxHeartbeats 4000000 in
theorem run_meta_ImageText (l : List Int) (K : V → List Blk → Prop) (hK : K (.tup [.one (.dat .str (imageTextE l).1), .one (.dat .int (imageTextE l).2)]) []) : ∃ m, goD Γ_meta_ImageText tab fn_meta_ImageText 0 K m [.code (bodyOf fn_meta_ImageText)] (initSt [.one (.dat (.list .int) l)] []) := by
  refine ⟨1, ?_⟩
  rw [meta_ImageText_w, meta_ImageText_vc _ _ _ _ rfl _ rfl _ rfl]
  unfold imageTextE at hK
  refine ne_s (fun h => ?_) (fun h => ?_)
  · rw [if_neg h] at hK; exact hK
  rw [if_pos h] at hK
  obtain ⟨h1, h2, h3⟩ := checkImage_ok h
  have n3 := listT_len l
  exact ⟨⟨by simp only [len]; omega, nums_of_words h3⟩, by simp only [len, List.length_cons, List.length_nil]; omega, hK⟩
theorem sound_meta_ImageText : SoundC Tryd.prog tab n_meta_ImageText c_meta_ImageText := soundC_of ok_meta_ImageText hf_meta_ImageText hB_meta_ImageText (by
  intro vs bs p v bs' h hp
  unfold c_meta_ImageText at h
  split at h
  · cases h
    exact ⟨by kernel_rfl, rfl, .inl (run_meta_ImageText _ _ ⟨rfl, rfl⟩)⟩
  · cases h)

def c_meta_Name : Contract := fun vs bs => match vs, bs with
  | [.agg [.dat (.list .str) l], .one (.dat .str s)], [] => some (some (l.length ≤ 140737488355328), .tup [.one (.dat .int (nameB l s).1), .one (.dat .int (nameB l s).2)], [])
  | _, _ => none
def Γ_meta_Name : Ctx := [(n_meta_CheckBook, c_meta_CheckBook), (n_slices_Index_Lstring, c_slices_Index_Lstring)]
theorem ok_meta_Name : Ok Tryd.prog tab Γ_meta_Name := ((ok_nil.consC hf_slices_Index_Lstring hB_slices_Index_Lstring sound_slices_Index_Lstring).consC hf_meta_CheckBook hB_meta_CheckBook sound_meta_CheckBook)
theorem meta_Name_vc (l : List (List UInt8)) (s : List UInt8) (rec : List It → St → Prop) (K : V → List Blk → Prop) v0 (hv0 : v0 = (checkBook l)) v1 (hv1 : v1 = (indexS s l)) : segD Γ_meta_Name tab fn_meta_Name 0 K rec [.code (bodyOf fn_meta_Name)] (initSt [.agg [.dat (Ty.list Ty.str) l], .one (.dat Ty.str s)] []) = (
    br (!(eqi v0 (0 : Int)))
     (K (.tup [.one (.dat Ty.int (0 : Int)), .one (.dat Ty.int v0)]) [])
     (((List.length l) ≤ 140737488355328) ∧
      (K (.tup [.one (.dat Ty.int (w64 (v1 + (1 : Int)))), .one (.dat Ty.int (0 : Int))]) []))) := by subst hv1; subst hv0; kernel_rfl
theorem meta_Name_w (l : List (List UInt8)) (s : List UInt8) (m : Nat) (K : V → List Blk → Prop) : goD Γ_meta_Name tab fn_meta_Name 0 K (m + 1) [.code (bodyOf fn_meta_Name)] (initSt [.agg [.dat (Ty.list Ty.str) l], .one (.dat Ty.str s)] []) = segD Γ_meta_Name tab fn_meta_Name 0 K (goD Γ_meta_Name tab fn_meta_Name 0 K m) [.code (bodyOf fn_meta_Name)] (initSt [.agg [.dat (Ty.list Ty.str) l], .one (.dat Ty.str s)] []) := rfl

set_option maxHeartbeats 4000000 in
theorem run_meta_Name (l : List (List UInt8)) (s : List UInt8) (hp : l.length ≤ 140737488355328) (K : V → List Blk → Prop) (hK : K (.tup [.one (.dat .int (nameB l s).1), .one (.dat .int (nameB l s).2)]) []) : ∃ m, goD Γ_meta_Name tab fn_meta_Name 0 K m [.code (bodyOf fn_meta_Name)] (initSt [.agg [.dat (.list .str) l], .one (.dat .str s)] []) := by
  refine ⟨1, ?_⟩
  rw [meta_Name_w, meta_Name_vc _ _ _ _ _ rfl _ rfl]
  unfold nameB at hK
  refine ne_s (fun h => ?_) (fun h => ⟨hp, ?_⟩)
  · rw [if_neg h] at hK; exact hK
  · rw [if_pos h] at hK
    have := indexFrom_range s l 0 (by omega)
    rw [w64_id (by unfold indexS; omega) (by unfold indexS; omega)]
    exact hK
theorem sound_meta_Name : SoundC Tryd.prog tab n_meta_Name c_meta_Name := soundC_of ok_meta_Name hf_meta_Name hB_meta_Name (by
  intro vs bs p v bs' h hp
  unfold c_meta_Name at h
  split at h
  · cases h
    exact ⟨by kernel_rfl, rfl, .inl (run_meta_Name _ _ hp.1 _ ⟨rfl, rfl⟩)⟩
  · cases h)

def c_meta_ImageName : Contract := fun vs bs => match vs, bs with
  | [.agg [.dat (.list .str) l], .one (.dat (.list .int) ws)], [] => some (some (l.length ≤ 140737488355328), .tup [.one (.dat .int (imageName l ws).1), .one (.dat .int (imageName l ws).2)], [])
  | _, _ => none
def Γ_meta_ImageName : Ctx := [(n_meta_ImageText, c_meta_ImageText), (n_meta_Name, c_meta_Name)]
theorem ok_meta_ImageName : Ok Tryd.prog tab Γ_meta_ImageName := ((ok_nil.consC hf_meta_Name hB_meta_Name sound_meta_Name).consC hf_meta_ImageText hB_meta_ImageText sound_meta_ImageText)
theorem meta_ImageName_vc (l : List (List UInt8)) (ws : List Int) (rec : List It → St → Prop) (K : V → List Blk → Prop) v0 (hv0 : v0 = (imageTextE ws)) v1 (hv1 : v1 = (nameB l (v0).fst)) : segD Γ_meta_ImageName tab fn_meta_ImageName 0 K rec [.code (bodyOf fn_meta_ImageName)] (initSt [.agg [.dat (Ty.list Ty.str) l], .one (.dat (Ty.list Ty.int) ws)] []) = (
    br (!(eqi (v0).snd (0 : Int)))
     (K (.tup [.one (.dat Ty.int (0 : Int)), .one (.dat Ty.int (v0).snd)]) [])
     (((List.length l) ≤ 140737488355328) ∧
      (K (.tup [.one (.dat Ty.int (v1).fst), .one (.dat Ty.int (v1).snd)]) []))) := by subst hv1; subst hv0; kernel_rfl
theorem meta_ImageName_w (l : List (List UInt8)) (ws : List Int) (m : Nat) (K : V → List Blk → Prop) : goD Γ_meta_ImageName tab fn_meta_ImageName 0 K (m + 1) [.code (bodyOf fn_meta_ImageName)] (initSt [.agg [.dat (Ty.list Ty.str) l], .one (.dat (Ty.list Ty.int) ws)] []) = segD Γ_meta_ImageName tab fn_meta_ImageName 0 K (goD Γ_meta_ImageName tab fn_meta_ImageName 0 K m) [.code (bodyOf fn_meta_ImageName)] (initSt [.agg [.dat (Ty.list Ty.str) l], .one (.dat (Ty.list Ty.int) ws)] []) := rfl

set_option maxHeartbeats 4000000 in
theorem run_meta_ImageName (l : List (List UInt8)) (ws : List Int) (hp : l.length ≤ 140737488355328) (K : V → List Blk → Prop) (hK : K (.tup [.one (.dat .int (imageName l ws).1), .one (.dat .int (imageName l ws).2)]) []) : ∃ m, goD Γ_meta_ImageName tab fn_meta_ImageName 0 K m [.code (bodyOf fn_meta_ImageName)] (initSt [.agg [.dat (.list .str) l], .one (.dat (.list .int) ws)] []) := by
  refine ⟨1, ?_⟩
  rw [meta_ImageName_w, meta_ImageName_vc _ _ _ _ _ rfl _ rfl]
  unfold imageName at hK
  by_cases h : checkImage ws = 0
  · rw [if_pos h] at hK
    rw [show imageTextE ws = (imageText ws, 0) from if_pos h]
    exact ne_f rfl ⟨hp, hK⟩
  · rw [if_neg h] at hK
    rw [show imageTextE ws = ([], checkImage ws) from if_neg h]
    exact ne_t h hK
theorem sound_meta_ImageName : SoundC Tryd.prog tab n_meta_ImageName c_meta_ImageName := soundC_of ok_meta_ImageName hf_meta_ImageName hB_meta_ImageName (by
  intro vs bs p v bs' h hp
  unfold c_meta_ImageName at h
  split at h
  · cases h
    exact ⟨by kernel_rfl, rfl, .inl (run_meta_ImageName _ _ hp.1 _ ⟨rfl, rfl⟩)⟩
  · cases h)

def c_unit_keep : Contract := fun vs bs => match vs, bs with
  | [.agg [.dat .int so, .dat .int sb, .dat .int sr]], [] => some (none, .one (.dat (.list (.list .int)) (keepS sb so sr)), [])
  | _, _ => none
def Γ_unit_keep : Ctx := []
theorem ok_unit_keep : Ok Tryd.prog tab Γ_unit_keep := ok_nil
theorem unit_keep_vc (so : Int) (sb : Int) (sr : Int) (rec : List It → St → Prop) (K : V → List Blk → Prop) : segD Γ_unit_keep tab fn_unit_keep 0 K rec [.code (bodyOf fn_unit_keep)] (initSt [.agg [.dat Ty.int so, .dat Ty.int sb, .dat Ty.int sr]] []) = (
    br (lti (0 : Int) sr)
     (((((len (((1 : Int) :: (so :: (sb :: []))) :: [])) + (len (((2 : Int) :: (sr :: [])) :: []))) * 24) ≤ 140737488355328) ∧
      (K (.one (.dat (Ty.list (Ty.list Ty.int)) (cat (((1 : Int) :: (so :: (sb :: []))) :: []) (((2 : Int) :: (sr :: [])) :: [])))) []))
     (K (.one (.dat (Ty.list (Ty.list Ty.int)) (((1 : Int) :: (so :: (sb :: []))) :: []))) [])) := by kernel_rfl
theorem unit_keep_w (so : Int) (sb : Int) (sr : Int) (m : Nat) (K : V → List Blk → Prop) : goD Γ_unit_keep tab fn_unit_keep 0 K (m + 1) [.code (bodyOf fn_unit_keep)] (initSt [.agg [.dat Ty.int so, .dat Ty.int sb, .dat Ty.int sr]] []) = segD Γ_unit_keep tab fn_unit_keep 0 K (goD Γ_unit_keep tab fn_unit_keep 0 K m) [.code (bodyOf fn_unit_keep)] (initSt [.agg [.dat Ty.int so, .dat Ty.int sb, .dat Ty.int sr]] []) := rfl

set_option maxHeartbeats 4000000 in
theorem run_unit_keep (so sb sr : Int) (K : V → List Blk → Prop) (hK : K (.one (.dat (.list (.list .int)) (keepS sb so sr))) []) : ∃ m, goD Γ_unit_keep tab fn_unit_keep 0 K m [.code (bodyOf fn_unit_keep)] (initSt [.agg [.dat .int so, .dat .int sb, .dat .int sr]] []) := by
  refine ⟨1, ?_⟩
  rw [unit_keep_w, unit_keep_vc _ _ _ _ _]
  unfold keepS at hK
  refine lt_s (fun h => ?_) (fun h => ?_)
  · rw [if_pos h] at hK; exact ⟨by simp [len], hK⟩
  · rw [if_neg (by omega)] at hK; exact hK
theorem sound_unit_keep : SoundC Tryd.prog tab n_unit_keep c_unit_keep := soundC_of ok_unit_keep hf_unit_keep hB_unit_keep (by
  intro vs bs p v bs' h hp
  unfold c_unit_keep at h
  split at h
  · cases h
    exact ⟨by kernel_rfl, rfl, .inl (run_unit_keep _ _ _ _ ⟨rfl, rfl⟩)⟩
  · cases h)

def c_unit_note : Contract := fun vs bs => match vs, bs with
  | [.one (.ptr 0 0), .one (.dat (.list .int) r)], [.box [.dat (.list .int) ws, .dat .int fu, .dat .bool up, .dat .int un, .dat .int ug]] => some (some (Sm r), .one (.dat .bool (noteU ⟨⟨ws, fu⟩, up, un, ug⟩ r).2), [.box [.dat (.list .int) (noteU ⟨⟨ws, fu⟩, up, un, ug⟩ r).1.f.words, .dat .int (noteU ⟨⟨ws, fu⟩, up, un, ug⟩ r).1.f.fuel, .dat .bool (noteU ⟨⟨ws, fu⟩, up, un, ug⟩ r).1.up, .dat .int (noteU ⟨⟨ws, fu⟩, up, un, ug⟩ r).1.n, .dat .int (noteU ⟨⟨ws, fu⟩, up, un, ug⟩ r).1.got]])
  | _, _ => none
def Γ_unit_note : Ctx := [(n_unit_of, c_unit_of), (n_unit_keep, c_unit_keep), (n_log_Append, c_log_Append), (n_unit_change, c_unit_change)]
theorem ok_unit_note : Ok Tryd.prog tab Γ_unit_note := ((((ok_nil.consC hf_unit_change hB_unit_change sound_unit_change).consC hf_log_Append hB_log_Append sound_log_Append).consC hf_unit_keep hB_unit_keep sound_unit_keep).consC hf_unit_of hB_unit_of sound_unit_of)
theorem unit_note_vc (ws : List Int) (fu : Int) (up : Bool) (un : Int) (ug : Int) (r : List Int) (rec : List It → St → Prop) (K : V → List Blk → Prop) v0 (hv0 : v0 = (ofU (⟨ws, fu⟩ : Vm.Flash))) v1 (hv1 : v1 = (keepS (v0).by_ (v0).slot (v0).ready)) v2 (hv2 : v2 = (smR v1)) v3 (hv3 : v3 = (appendF (⟨ws, fu⟩ : Vm.Flash) r v1)) v4 (hv4 : v4 = (changeU (⟨(⟨ws, fu⟩ : Vm.Flash), up, un, ug⟩ : Vm.UnitD) (⟨((v3).fst).words, ((v3).fst).fuel⟩ : Vm.Flash) (v3).snd)) : segD Γ_unit_note tab fn_unit_note 1 K rec [.code (bodyOf fn_unit_note)] (initSt [.one (.ptr 0 0), .one (.dat (Ty.list Ty.int) r)] [.box [.dat (Ty.list Ty.int) ws, .dat Ty.int fu, .dat Ty.bool up, .dat Ty.int un, .dat Ty.int ug]]) = (
    (((List.length r) ≤ 140737488355328) ∧ ((((len v1) * 24) ≤ 140737488351232) ∧ (v2 = true))) ∧
    (K (.one (.dat Ty.bool (v4).snd)) [.box [.dat (Ty.list Ty.int) (((v4).fst).f).words, .dat Ty.int (((v4).fst).f).fuel, .dat Ty.bool ((v4).fst).up, .dat Ty.int ((v4).fst).n, .dat Ty.int ((v4).fst).got]])) := by subst hv4; subst hv3; subst hv2; subst hv1; subst hv0; kernel_rfl
theorem unit_note_w (ws : List Int) (fu : Int) (up : Bool) (un : Int) (ug : Int) (r : List Int) (m : Nat) (K : V → List Blk → Prop) : goD Γ_unit_note tab fn_unit_note 1 K (m + 1) [.code (bodyOf fn_unit_note)] (initSt [.one (.ptr 0 0), .one (.dat (Ty.list Ty.int) r)] [.box [.dat (Ty.list Ty.int) ws, .dat Ty.int fu, .dat Ty.bool up, .dat Ty.int un, .dat Ty.int ug]]) = segD Γ_unit_note tab fn_unit_note 1 K (goD Γ_unit_note tab fn_unit_note 1 K m) [.code (bodyOf fn_unit_note)] (initSt [.one (.ptr 0 0), .one (.dat (Ty.list Ty.int) r)] [.box [.dat (Ty.list Ty.int) ws, .dat Ty.int fu, .dat Ty.bool up, .dat Ty.int un, .dat Ty.int ug]]) := rfl

set_option maxHeartbeats 4000000 in
theorem run_unit_note (ws : List Int) (fu : Int) (up : Bool) (un ug : Int) (r : List Int) (hp : Sm r) (K : V → List Blk → Prop) (hK : K (.one (.dat .bool (noteU ⟨⟨ws, fu⟩, up, un, ug⟩ r).2)) [.box [.dat (.list .int) (noteU ⟨⟨ws, fu⟩, up, un, ug⟩ r).1.f.words, .dat .int (noteU ⟨⟨ws, fu⟩, up, un, ug⟩ r).1.f.fuel, .dat .bool (noteU ⟨⟨ws, fu⟩, up, un, ug⟩ r).1.up, .dat .int (noteU ⟨⟨ws, fu⟩, up, un, ug⟩ r).1.n, .dat .int (noteU ⟨⟨ws, fu⟩, up, un, ug⟩ r).1.got]]) : ∃ m, goD Γ_unit_note tab fn_unit_note 1 K m [.code (bodyOf fn_unit_note)] (initSt [.one (.ptr 0 0), .one (.dat (.list .int) r)] [.box [.dat (.list .int) ws, .dat .int fu, .dat .bool up, .dat .int un, .dat .int ug]]) := by
  refine ⟨1, ?_⟩
  rw [unit_note_w, unit_note_vc _ _ _ _ _ _ _ _ _ rfl _ rfl _ rfl _ rfl _ rfl]
  have h := keepS_sm (ofU ⟨ws, fu⟩).by_ (ofU ⟨ws, fu⟩).slot (ofU ⟨ws, fu⟩).ready
  exact ⟨⟨hp, by simp only [len]; omega, h.1⟩, hK⟩
theorem sound_unit_note : SoundC Tryd.prog tab n_unit_note c_unit_note := soundC_of ok_unit_note hf_unit_note hB_unit_note (by
  intro vs bs p v bs' h hp
  unfold c_unit_note at h
  split at h
  · cases h
    exact ⟨by kernel_rfl, rfl, .inl (run_unit_note _ _ _ _ _ _ hp.1 _ ⟨rfl, rfl⟩)⟩
  · cases h)

def c_slices_Equal_Lint : Contract := fun vs bs => match vs, bs with
  | [.one (.dat (.list .int) a), .one (.dat (.list .int) b)], [] => some (some (Sm a), .one (.dat .bool (eqIs a b)), [])
  | _, _ => none
def Γ_slices_Equal_Lint : Ctx := []
theorem ok_slices_Equal_Lint : Ok Tryd.prog tab Γ_slices_Equal_Lint := ok_nil
noncomputable def slices_Equal_Lint_L0 : List It := [.inLoop [13, 12, 4, 0, 1] (Code.sub (bodyOf fn_slices_Equal_Lint) [1, 1, 0, 1, 0, 0]), .inBlock 0, .code (Code.sub (bodyOf fn_slices_Equal_Lint) [1, 1, 1])]
def slices_Equal_Lint_S0 (x0 : Int) (x1 : Int) (x2 : Bool) (x3 : (List Int)) (x4 : (List Int)) : St := ⟨[(13, .one (.dat Ty.int x0)), (12, .one (.dat Ty.int x1)), (4, .one (.dat Ty.bool x2)), (0, .one (.dat (Ty.list Ty.int) x3)), (1, .one (.dat (Ty.list Ty.int) x4))], [], 0⟩
theorem slices_Equal_Lint_vc (a : List Int) (b : List Int) (rec : List It → St → Prop) (K : V → List Blk → Prop) : segD Γ_slices_Equal_Lint tab fn_slices_Equal_Lint 0 K rec [.code (bodyOf fn_slices_Equal_Lint)] (initSt [.one (.dat (Ty.list Ty.int) a), .one (.dat (Ty.list Ty.int) b)] []) = (
    br (!(eqi (((len a) : Nat) : Int) (((len b) : Nat) : Int)))
     (K (.one (.dat Ty.bool false)) [])
     (rec slices_Equal_Lint_L0 (slices_Equal_Lint_S0 (0 : Int) (((len a) : Nat) : Int) false a b))) := by kernel_rfl
theorem slices_Equal_Lint_w (a : List Int) (b : List Int) (m : Nat) (K : V → List Blk → Prop) : goD Γ_slices_Equal_Lint tab fn_slices_Equal_Lint 0 K (m + 1) [.code (bodyOf fn_slices_Equal_Lint)] (initSt [.one (.dat (Ty.list Ty.int) a), .one (.dat (Ty.list Ty.int) b)] []) = segD Γ_slices_Equal_Lint tab fn_slices_Equal_Lint 0 K (goD Γ_slices_Equal_Lint tab fn_slices_Equal_Lint 0 K m) [.code (bodyOf fn_slices_Equal_Lint)] (initSt [.one (.dat (Ty.list Ty.int) a), .one (.dat (Ty.list Ty.int) b)] []) := rfl
theorem slices_Equal_Lint_vc0 (x0 : Int) (x1 : Int) (x2 : Bool) (x3 : (List Int)) (x4 : (List Int)) (rec : List It → St → Prop) (K : V → List Blk → Prop) : segD Γ_slices_Equal_Lint tab fn_slices_Equal_Lint 0 K rec (.code (Code.sub (bodyOf fn_slices_Equal_Lint) [1, 1, 0, 1, 0, 0]) :: slices_Equal_Lint_L0) (slices_Equal_Lint_S0 x0 x1 x2 x3 x4) = (
    br (lti x0 x1)
     ((((0 : Int) ≤ x0) ∧ (x0 < (((len x3) : Nat) : Int))) ∧
      ((((0 : Int) ≤ x0) ∧ (x0 < (((len x4) : Nat) : Int))) ∧
      (br (!(eqi (nth x3 (Int.toNat x0) (Ty.dflt Ty.int)) (nth x4 (Int.toNat x0) (Ty.dflt Ty.int))))
       (K (.one (.dat Ty.bool false)) [])
       (rec slices_Equal_Lint_L0 (slices_Equal_Lint_S0 (w64 (x0 + (1 : Int))) x1 x2 x3 x4)))))
     (K (.one (.dat Ty.bool true)) [])) := by kernel_rfl
theorem slices_Equal_Lint_w0 (x0 : Int) (x1 : Int) (x2 : Bool) (x3 : (List Int)) (x4 : (List Int)) (m : Nat) (K : V → List Blk → Prop) : goD Γ_slices_Equal_Lint tab fn_slices_Equal_Lint 0 K (m + 1) slices_Equal_Lint_L0 (slices_Equal_Lint_S0 x0 x1 x2 x3 x4) = segD Γ_slices_Equal_Lint tab fn_slices_Equal_Lint 0 K (goD Γ_slices_Equal_Lint tab fn_slices_Equal_Lint 0 K m) (.code (Code.sub (bodyOf fn_slices_Equal_Lint) [1, 1, 0, 1, 0, 0]) :: slices_Equal_Lint_L0) (slices_Equal_Lint_S0 x0 x1 x2 x3 x4) := rfl

theorem loop_slices_Equal_Lint (a b : List Int) (hl : a.length = b.length) (hs : Sm a) (K : V → List Blk → Prop) (hK : K (.one (.dat .bool (eqIs a b))) []) : ∀ (d k : Nat), k + d = a.length → a.take k = b.take k →
    goD Γ_slices_Equal_Lint tab fn_slices_Equal_Lint 0 K (d + 1) slices_Equal_Lint_L0 (slices_Equal_Lint_S0 (k : Int) (((len a) : Nat) : Int) false a b)
  | 0, k, hk, he => by
    rw [slices_Equal_Lint_w0, slices_Equal_Lint_vc0 _ _ _ _ _ _ _]
    refine lt_f (by simp only [len]; omega) ?_
    rw [List.take_of_length_le (by omega), List.take_of_length_le (by omega)] at he
    rw [show eqIs a b = true from by simp [eqIs, he]] at hK
    exact hK
  | d + 1, k, hk, he => by
    unfold Sm at hs
    rw [slices_Equal_Lint_w0, slices_Equal_Lint_vc0 _ _ _ _ _ _ _]
    refine lt_t (by simp only [len]; omega) ⟨⟨by omega, by simp only [len]; omega⟩, ⟨by omega, by simp only [len]; omega⟩, ne_s (fun hne => ?_) (fun heq => ?_)⟩
    · rw [show eqIs a b = false from by simp only [eqIs, decide_eq_false_iff_not]; rintro rfl; exact hne rfl] at hK
      exact hK
    · rw [w64_succ (by omega)]
      refine loop_slices_Equal_Lint a b hl ‹Sm a› K hK d (k + 1) (by omega) ?_
      rw [take_step (by omega) (Ty.dflt Ty.int), take_step (by omega) (Ty.dflt Ty.int), he]
      rw [toNat_nat] at heq
      rw [heq]
set_option maxHeartbeats 4000000 in
theorem run_slices_Equal_Lint (a b : List Int) (hp : Sm a) (K : V → List Blk → Prop) (hK : K (.one (.dat .bool (eqIs a b))) []) : ∃ m, goD Γ_slices_Equal_Lint tab fn_slices_Equal_Lint 0 K m [.code (bodyOf fn_slices_Equal_Lint)] (initSt [.one (.dat (.list .int) a), .one (.dat (.list .int) b)] []) := by
  refine ⟨a.length + 2, ?_⟩
  rw [slices_Equal_Lint_w, slices_Equal_Lint_vc _ _ _ _]
  refine ne_s (fun h => ?_) (fun h => ?_)
  · rw [show eqIs a b = false from by simp only [eqIs, decide_eq_false_iff_not]; rintro rfl; exact h rfl] at hK
    exact hK
  · exact loop_slices_Equal_Lint a b (by simp only [len] at h; omega) hp K hK a.length 0 (by omega) rfl
theorem sound_slices_Equal_Lint : SoundC Tryd.prog tab n_slices_Equal_Lint c_slices_Equal_Lint := soundC_of ok_slices_Equal_Lint hf_slices_Equal_Lint hB_slices_Equal_Lint (by
  intro vs bs p v bs' h hp
  unfold c_slices_Equal_Lint at h
  split at h
  · cases h
    exact ⟨by kernel_rfl, rfl, .inl (run_slices_Equal_Lint _ _ hp.1 _ ⟨rfl, rfl⟩)⟩
  · cases h)

def c_unit_prepare : Contract := fun vs bs => match vs, bs with
  | [.agg [.dat (.list .str) b], .one (.ptr 0 0), .agg [.dat .int so, .dat .int sb, .dat .int sr], .agg [.dat .int mk, .dat .int mu, .dat .int mn, .dat .int ma, .dat .int mi, .dat (.list .int) mw, .dat .bool my]], [.box [.dat (.list .int) ws, .dat .int fu, .dat .bool up, .dat .int un, .dat .int ug]] => some (some (0 ≤ so ∧ so ≤ 1 ∧ b.length ≤ 140737488355328), .one (.dat (.list .message) (prepareU b ⟨⟨ws, fu⟩, up, un, ug⟩ ⟨so, sb, sr⟩ ⟨mk, mu, mn, ma, mi, mw, my⟩).2), [.box [.dat (.list .int) (prepareU b ⟨⟨ws, fu⟩, up, un, ug⟩ ⟨so, sb, sr⟩ ⟨mk, mu, mn, ma, mi, mw, my⟩).1.f.words, .dat .int (prepareU b ⟨⟨ws, fu⟩, up, un, ug⟩ ⟨so, sb, sr⟩ ⟨mk, mu, mn, ma, mi, mw, my⟩).1.f.fuel, .dat .bool (prepareU b ⟨⟨ws, fu⟩, up, un, ug⟩ ⟨so, sb, sr⟩ ⟨mk, mu, mn, ma, mi, mw, my⟩).1.up, .dat .int (prepareU b ⟨⟨ws, fu⟩, up, un, ug⟩ ⟨so, sb, sr⟩ ⟨mk, mu, mn, ma, mi, mw, my⟩).1.n, .dat .int (prepareU b ⟨⟨ws, fu⟩, up, un, ug⟩ ⟨so, sb, sr⟩ ⟨mk, mu, mn, ma, mi, mw, my⟩).1.got]])
  | _, _ => none
def Γ_unit_prepare : Ctx := [(n_unit_prepare_1, c_unit_prepare_1), (n_slot_Body, c_slot_Body), (n_meta_ImageName, c_meta_ImageName), (n_slot_Seal, c_slot_Seal), (n_unit_change, c_unit_change), (n_slot_Image, c_slot_Image), (n_unit_note, c_unit_note), (n_slices_Equal_Lint, c_slices_Equal_Lint)]
theorem ok_unit_prepare : Ok Tryd.prog tab Γ_unit_prepare := ((((((((ok_nil.consC hf_slices_Equal_Lint hB_slices_Equal_Lint sound_slices_Equal_Lint).consC hf_unit_note hB_unit_note sound_unit_note).consC hf_slot_Image hB_slot_Image sound_slot_Image).consC hf_unit_change hB_unit_change sound_unit_change).consC hf_slot_Seal hB_slot_Seal sound_slot_Seal).consC hf_meta_ImageName hB_meta_ImageName sound_meta_ImageName).consC hf_slot_Body hB_slot_Body sound_slot_Body).consC hf_unit_prepare_1 hB_unit_prepare_1 sound_unit_prepare_1)
theorem unit_prepare_vc (b : List (List UInt8)) (ws : List Int) (fu : Int) (up : Bool) (un : Int) (ug : Int) (so : Int) (sb : Int) (sr : Int) (mk : Int) (mu : Int) (mn : Int) (ma : Int) (mi : Int) (mw : List Int) (my : Bool) (rec : List It → St → Prop) (K : V → List Blk → Prop) v0 (hv0 : v0 = (voteM (⟨mk, mu, mn, ma, mi, mw, my⟩ : Vm.Message) true)) v1 (hv1 : v1 = (voteM (⟨mk, mu, mn, ma, mi, mw, my⟩ : Vm.Message) false)) v2 (hv2 : v2 = (bodyS (⟨ws, fu⟩ : Vm.Flash) (w64 ((1 : Int) - so)) ma)) v3 (hv3 : v3 = (imageName b (v2).fst)) v4 (hv4 : v4 = (sealS (⟨ws, fu⟩ : Vm.Flash) (w64 ((1 : Int) - so)) ma mi)) v5 (hv5 : v5 = (changeU (⟨(⟨ws, fu⟩ : Vm.Flash), up, un, ug⟩ : Vm.UnitD) (⟨((v4).fst).words, ((v4).fst).fuel⟩ : Vm.Flash) (v4).snd)) v6 (hv6 : v6 = (imageS (⟨(((v5).fst).f).words, (((v5).fst).f).fuel⟩ : Vm.Flash) (w64 ((1 : Int) - so)))) v7 (hv7 : v7 = (eqIs (v6).fst (v2).fst)) v8 (hv8 : v8 = (noteU (⟨(⟨(((v5).fst).f).words, (((v5).fst).f).fuel⟩ : Vm.Flash), ((v5).fst).up, (0 : Int), (0 : Int)⟩ : Vm.UnitD) ((2 : Int) :: (mn :: [])))) : segD Γ_unit_prepare tab fn_unit_prepare 1 K rec [.code (bodyOf fn_unit_prepare)] (initSt [.agg [.dat (Ty.list Ty.str) b], .one (.ptr 0 0), .agg [.dat Ty.int so, .dat Ty.int sb, .dat Ty.int sr], .agg [.dat Ty.int mk, .dat Ty.int mu, .dat Ty.int mn, .dat Ty.int ma, .dat Ty.int mi, .dat (Ty.list Ty.int) mw, .dat Ty.bool my]] [.box [.dat (Ty.list Ty.int) ws, .dat Ty.int fu, .dat Ty.bool up, .dat Ty.int un, .dat Ty.int ug]]) = (
    br (lei mn sb)
     (K (.one (.dat (Ty.list Ty.message) ((⟨(6 : Int), mu, mn, (0 : Int), (0 : Int), [], false⟩ : Vm.Message) :: []))) [.box [.dat (Ty.list Ty.int) ws, .dat Ty.int fu, .dat Ty.bool up, .dat Ty.int un, .dat Ty.int ug]])
     (br (eqi sr mn)
       (K (.one (.dat (Ty.list Ty.message) v0)) [.box [.dat (Ty.list Ty.int) ws, .dat Ty.int fu, .dat Ty.bool up, .dat Ty.int un, .dat Ty.int ug]])
       (br (lti (0 : Int) sr)
         (K (.one (.dat (Ty.list Ty.message) v1)) [.box [.dat (Ty.list Ty.int) ws, .dat Ty.int fu, .dat Ty.bool up, .dat Ty.int un, .dat Ty.int ug]])
         (br (!(eqi (v2).snd (0 : Int)))
           (K (.one (.dat (Ty.list Ty.message) v1)) [.box [.dat (Ty.list Ty.int) ws, .dat Ty.int fu, .dat Ty.bool up, .dat Ty.int un, .dat Ty.int ug]])
           (br (!(eqi un mn))
             (K (.one (.dat (Ty.list Ty.message) v1)) [.box [.dat (Ty.list Ty.int) ws, .dat Ty.int fu, .dat Ty.bool up, .dat Ty.int un, .dat Ty.int ug]])
             (br (!(eqi ug ma))
               (K (.one (.dat (Ty.list Ty.message) v1)) [.box [.dat (Ty.list Ty.int) ws, .dat Ty.int fu, .dat Ty.bool up, .dat Ty.int un, .dat Ty.int ug]])
               (((List.length b) ≤ 140737488355328) ∧
                (br (!(eqi (v3).snd (0 : Int)))
                 (K (.one (.dat (Ty.list Ty.message) v1)) [.box [.dat (Ty.list Ty.int) ws, .dat Ty.int fu, .dat Ty.bool up, .dat Ty.int un, .dat Ty.int ug]])
                 (br (eqi (v3).fst (0 : Int))
                   (K (.one (.dat (Ty.list Ty.message) v1)) [.box [.dat (Ty.list Ty.int) ws, .dat Ty.int fu, .dat Ty.bool up, .dat Ty.int un, .dat Ty.int ug]])
                   (br (!(eqi (v3).fst mi))
                     (K (.one (.dat (Ty.list Ty.message) v1)) [.box [.dat (Ty.list Ty.int) ws, .dat Ty.int fu, .dat Ty.bool up, .dat Ty.int un, .dat Ty.int ug]])
                     (br (!(v5).snd)
                       (K (.one (.dat (Ty.list Ty.message) [])) [.box [.dat (Ty.list Ty.int) (((v5).fst).f).words, .dat Ty.int (((v5).fst).f).fuel, .dat Ty.bool ((v5).fst).up, .dat Ty.int ((v5).fst).n, .dat Ty.int ((v5).fst).got]])
                       (br (!(eqi ((v6).snd).snd (0 : Int)))
                         (K (.one (.dat (Ty.list Ty.message) v1)) [.box [.dat (Ty.list Ty.int) (((v5).fst).f).words, .dat Ty.int (((v5).fst).f).fuel, .dat Ty.bool ((v5).fst).up, .dat Ty.int (0 : Int), .dat Ty.int (0 : Int)]])
                         (br (!(eqi ((v6).snd).fst mi))
                           (K (.one (.dat (Ty.list Ty.message) v1)) [.box [.dat (Ty.list Ty.int) (((v5).fst).f).words, .dat Ty.int (((v5).fst).f).fuel, .dat Ty.bool ((v5).fst).up, .dat Ty.int (0 : Int), .dat Ty.int (0 : Int)]])
                           (((List.length (v6).fst) ≤ 140737488355328) ∧
                            (br (!v7)
                             (K (.one (.dat (Ty.list Ty.message) v1)) [.box [.dat (Ty.list Ty.int) (((v5).fst).f).words, .dat Ty.int (((v5).fst).f).fuel, .dat Ty.bool ((v5).fst).up, .dat Ty.int (0 : Int), .dat Ty.int (0 : Int)]])
                             (((List.length ((2 : Int) :: (mn :: []))) ≤ 140737488355328) ∧
                              (br (!(v8).snd)
                               (K (.one (.dat (Ty.list Ty.message) [])) [.box [.dat (Ty.list Ty.int) (((v8).fst).f).words, .dat Ty.int (((v8).fst).f).fuel, .dat Ty.bool ((v8).fst).up, .dat Ty.int ((v8).fst).n, .dat Ty.int ((v8).fst).got]])
                               (K (.one (.dat (Ty.list Ty.message) v0)) [.box [.dat (Ty.list Ty.int) (((v8).fst).f).words, .dat Ty.int (((v8).fst).f).fuel, .dat Ty.bool ((v8).fst).up, .dat Ty.int ((v8).fst).n, .dat Ty.int ((v8).fst).got]])))))))))))))))))) := by subst hv8; subst hv7; subst hv6; subst hv5; subst hv4; subst hv3; subst hv2; subst hv1; subst hv0; kernel_rfl
theorem unit_prepare_w (b : List (List UInt8)) (ws : List Int) (fu : Int) (up : Bool) (un : Int) (ug : Int) (so : Int) (sb : Int) (sr : Int) (mk : Int) (mu : Int) (mn : Int) (ma : Int) (mi : Int) (mw : List Int) (my : Bool) (m : Nat) (K : V → List Blk → Prop) : goD Γ_unit_prepare tab fn_unit_prepare 1 K (m + 1) [.code (bodyOf fn_unit_prepare)] (initSt [.agg [.dat (Ty.list Ty.str) b], .one (.ptr 0 0), .agg [.dat Ty.int so, .dat Ty.int sb, .dat Ty.int sr], .agg [.dat Ty.int mk, .dat Ty.int mu, .dat Ty.int mn, .dat Ty.int ma, .dat Ty.int mi, .dat (Ty.list Ty.int) mw, .dat Ty.bool my]] [.box [.dat (Ty.list Ty.int) ws, .dat Ty.int fu, .dat Ty.bool up, .dat Ty.int un, .dat Ty.int ug]]) = segD Γ_unit_prepare tab fn_unit_prepare 1 K (goD Γ_unit_prepare tab fn_unit_prepare 1 K m) [.code (bodyOf fn_unit_prepare)] (initSt [.agg [.dat (Ty.list Ty.str) b], .one (.ptr 0 0), .agg [.dat Ty.int so, .dat Ty.int sb, .dat Ty.int sr], .agg [.dat Ty.int mk, .dat Ty.int mu, .dat Ty.int mn, .dat Ty.int ma, .dat Ty.int mi, .dat (Ty.list Ty.int) mw, .dat Ty.bool my]] [.box [.dat (Ty.list Ty.int) ws, .dat Ty.int fu, .dat Ty.bool up, .dat Ty.int un, .dat Ty.int ug]]) := rfl

set_option maxHeartbeats 4000000 in
theorem run_unit_prepare (b : List (List UInt8)) (ws : List Int) (fu : Int) (up : Bool) (un ug : Int)(so sb sr : Int)(mk mu mn ma mi : Int) (mw : List Int) (my : Bool) (hp : 0 ≤ so ∧ so ≤ 1 ∧ b.length ≤ 140737488355328) (K : V → List Blk → Prop) (hK : K (.one (.dat (.list .message) (prepareU b ⟨⟨ws, fu⟩, up, un, ug⟩ ⟨so, sb, sr⟩ ⟨mk, mu, mn, ma, mi, mw, my⟩).2)) [.box [.dat (.list .int) (prepareU b ⟨⟨ws, fu⟩, up, un, ug⟩ ⟨so, sb, sr⟩ ⟨mk, mu, mn, ma, mi, mw, my⟩).1.f.words, .dat .int (prepareU b ⟨⟨ws, fu⟩, up, un, ug⟩ ⟨so, sb, sr⟩ ⟨mk, mu, mn, ma, mi, mw, my⟩).1.f.fuel, .dat .bool (prepareU b ⟨⟨ws, fu⟩, up, un, ug⟩ ⟨so, sb, sr⟩ ⟨mk, mu, mn, ma, mi, mw, my⟩).1.up, .dat .int (prepareU b ⟨⟨ws, fu⟩, up, un, ug⟩ ⟨so, sb, sr⟩ ⟨mk, mu, mn, ma, mi, mw, my⟩).1.n, .dat .int (prepareU b ⟨⟨ws, fu⟩, up, un, ug⟩ ⟨so, sb, sr⟩ ⟨mk, mu, mn, ma, mi, mw, my⟩).1.got]]) : ∃ m, goD Γ_unit_prepare tab fn_unit_prepare 1 K m [.code (bodyOf fn_unit_prepare)] (initSt [.agg [.dat (.list .str) b], .one (.ptr 0 0), .agg [.dat .int so, .dat .int sb, .dat .int sr], .agg [.dat .int mk, .dat .int mu, .dat .int mn, .dat .int ma, .dat .int mi, .dat (.list .int) mw, .dat .bool my]] [.box [.dat (.list .int) ws, .dat .int fu, .dat .bool up, .dat .int un, .dat .int ug]]) := by
  refine ⟨1, ?_⟩
  rw [unit_prepare_w, unit_prepare_vc _ _ _ _ _ _ _ _ _ _ _ _ _ _ _ _ _ _ _ rfl _ rfl _ rfl _ rfl _ rfl _ rfl _ rfl _ rfl _ rfl]
  obtain ⟨p1, p2, p3⟩ := hp
  rw [w64_id (n := 1 - so) (by omega) (by omega)]
  unfold prepareU at hK
  simp only at hK
  refine br_split (fun h => ?_) (fun h => eq_s (fun h2 => ?_) (fun h2 => lt_s (fun h3 => ?_) (fun h3 => ?_)))
  · rw [lei_true] at h; rw [if_pos h] at hK; exact hK
  · rw [lei_false] at h; rw [if_neg (by omega), if_pos h2] at hK; exact hK
  · rw [lei_false] at h; rw [if_neg (by omega), if_neg h2, if_pos h3] at hK; exact hK
  rw [lei_false] at h
  rw [if_neg (by omega), if_neg h2, if_neg (by omega)] at hK
  refine ne_s (fun h4 => ?_) (fun h4 => ne_s (fun h5 => ?_) (fun h5 => ne_s (fun h6 => ?_) (fun h6 => ⟨p3, ne_s (fun h7 => ?_) (fun h7 => eq_s (fun h8 => ?_) (fun h8 => ne_s (fun h9 => ?_) (fun h9 => ?_)))⟩)))
  · rw [if_neg (fun g => h4 g.1)] at hK; exact hK
  · rw [if_neg (fun g => h5 g.2.1)] at hK; exact hK
  · rw [if_neg (fun g => h6 g.2.2)] at hK; exact hK
  all_goals rw [if_pos ⟨h4, h5, h6⟩] at hK
  · rw [if_neg (fun g => h7 g.1)] at hK; exact hK
  · rw [if_neg (fun g => g.2.1 h8)] at hK; exact hK
  · rw [if_neg (fun g => h9 g.2.2)] at hK; exact hK
  rw [if_pos ⟨h7, h8, h9⟩] at hK
  refine nt_s (fun g => ?_) (fun g => ?_)
  · rw [if_neg (by rw [show (sealC ⟨⟨ws, fu⟩, up, un, ug⟩ ⟨so, sb, sr⟩ ⟨mk, mu, mn, ma, mi, mw, my⟩).2 = false from g]; simp)] at hK; exact hK
  rw [if_pos (show (sealC ⟨⟨ws, fu⟩, up, un, ug⟩ ⟨so, sb, sr⟩ ⟨mk, mu, mn, ma, mi, mw, my⟩).2 = true from g)] at hK
  obtain ⟨v5, hv⟩ : ∃ v5, sealC ⟨⟨ws, fu⟩, up, un, ug⟩ ⟨so, sb, sr⟩ ⟨mk, mu, mn, ma, mi, mw, my⟩ = v5 := ⟨_, rfl⟩
  rw [hv] at hK
  have hv' : changeU ⟨⟨ws, fu⟩, up, un, ug⟩ (sealS ⟨ws, fu⟩ (1 - so) ma mi).1 (sealS ⟨ws, fu⟩ (1 - so) ma mi).2 = v5 := hv
  unfold sealedU at hK
  simp only at hK
  refine ne_s (fun k1 => ?_) (fun k1 => ne_s (fun k2 => ?_) (fun k2 => ⟨?_, nt_s (fun k3 => ?_) (fun k3 => ⟨by simp, nt_s (fun k4 => ?_) (fun k4 => ?_)⟩)⟩))
  · rw [hv'] at k1 ⊢; rw [if_neg (fun g => k1 g.1)] at hK; exact hK
  · rw [hv'] at k2 ⊢; rw [if_neg (fun g => k2 g.2.1)] at hK; exact hK
  · rw [hv'] at k1 ⊢
    exact imageS_sm k1
  · rw [hv'] at k3 ⊢
    rw [if_neg (fun g => by rw [show eqIs _ _ = true from decide_eq_true g.2.2] at k3; cases k3)] at hK; exact hK
  · rw [hv'] at k1 k2 k3 k4 ⊢
    rw [if_pos ⟨k1, k2, of_decide_eq_true k3⟩, if_neg (by rw [show (noteU _ _).2 = false from k4]; simp)] at hK; exact hK
  · rw [hv'] at k1 k2 k3 k4 ⊢
    rw [if_pos ⟨k1, k2, of_decide_eq_true k3⟩, if_pos k4] at hK; exact hK
theorem sound_unit_prepare : SoundC Tryd.prog tab n_unit_prepare c_unit_prepare := soundC_of ok_unit_prepare hf_unit_prepare hB_unit_prepare (by
  intro vs bs p v bs' h hp
  unfold c_unit_prepare at h
  split at h
  · cases h
    exact ⟨by kernel_rfl, rfl, .inl (run_unit_prepare _ _ _ _ _ _ _ _ _ _ _ _ _ _ _ _ hp.1 _ ⟨rfl, rfl⟩)⟩
  · cases h)

def c_unit_decided : Contract := fun vs bs => match vs, bs with
  | [.one (.ptr 0 0), .agg [.dat .int so, .dat .int sb, .dat .int sr], .agg [.dat .int mk, .dat .int mu, .dat .int mn, .dat .int ma, .dat .int mi, .dat (.list .int) mw, .dat .bool my]], [.box [.dat (.list .int) ws, .dat .int fu, .dat .bool up, .dat .int un, .dat .int ug]] => some (some (0 ≤ so ∧ so ≤ 1), .one (.dat (.list .message) (decidedU ⟨⟨ws, fu⟩, up, un, ug⟩ ⟨so, sb, sr⟩ ⟨mk, mu, mn, ma, mi, mw, my⟩).2), [.box [.dat (.list .int) (decidedU ⟨⟨ws, fu⟩, up, un, ug⟩ ⟨so, sb, sr⟩ ⟨mk, mu, mn, ma, mi, mw, my⟩).1.f.words, .dat .int (decidedU ⟨⟨ws, fu⟩, up, un, ug⟩ ⟨so, sb, sr⟩ ⟨mk, mu, mn, ma, mi, mw, my⟩).1.f.fuel, .dat .bool (decidedU ⟨⟨ws, fu⟩, up, un, ug⟩ ⟨so, sb, sr⟩ ⟨mk, mu, mn, ma, mi, mw, my⟩).1.up, .dat .int (decidedU ⟨⟨ws, fu⟩, up, un, ug⟩ ⟨so, sb, sr⟩ ⟨mk, mu, mn, ma, mi, mw, my⟩).1.n, .dat .int (decidedU ⟨⟨ws, fu⟩, up, un, ug⟩ ⟨so, sb, sr⟩ ⟨mk, mu, mn, ma, mi, mw, my⟩).1.got]])
  | _, _ => none
def Γ_unit_decided : Ctx := [(n_unit_note, c_unit_note)]
theorem ok_unit_decided : Ok Tryd.prog tab Γ_unit_decided := (ok_nil.consC hf_unit_note hB_unit_note sound_unit_note)
theorem unit_decided_vc (ws : List Int) (fu : Int) (up : Bool) (un : Int) (ug : Int) (so : Int) (sb : Int) (sr : Int) (mk : Int) (mu : Int) (mn : Int) (ma : Int) (mi : Int) (mw : List Int) (my : Bool) (rec : List It → St → Prop) (K : V → List Blk → Prop) v0 (hv0 : v0 = (noteU (⟨(⟨ws, fu⟩ : Vm.Flash), up, un, ug⟩ : Vm.UnitD) ((1 : Int) :: ((w64 ((1 : Int) - so)) :: (mn :: []))))) v1 (hv1 : v1 = (noteU (⟨(⟨ws, fu⟩ : Vm.Flash), up, un, ug⟩ : Vm.UnitD) ((3 : Int) :: (mn :: [])))) : segD Γ_unit_decided tab fn_unit_decided 1 K rec [.code (bodyOf fn_unit_decided)] (initSt [.one (.ptr 0 0), .agg [.dat Ty.int so, .dat Ty.int sb, .dat Ty.int sr], .agg [.dat Ty.int mk, .dat Ty.int mu, .dat Ty.int mn, .dat Ty.int ma, .dat Ty.int mi, .dat (Ty.list Ty.int) mw, .dat Ty.bool my]] [.box [.dat (Ty.list Ty.int) ws, .dat Ty.int fu, .dat Ty.bool up, .dat Ty.int un, .dat Ty.int ug]]) = (
    br (eqi mk (4 : Int))
     (br (eqi sb mn)
       (K (.one (.dat (Ty.list Ty.message) ((⟨(6 : Int), mu, mn, (0 : Int), (0 : Int), [], false⟩ : Vm.Message) :: []))) [.box [.dat (Ty.list Ty.int) ws, .dat Ty.int fu, .dat Ty.bool up, .dat Ty.int un, .dat Ty.int ug]])
       (br (!(eqi sr mn))
         (K (.one (.dat (Ty.list Ty.message) [])) [.box [.dat (Ty.list Ty.int) ws, .dat Ty.int fu, .dat Ty.bool up, .dat Ty.int un, .dat Ty.int ug]])
         (((List.length ((1 : Int) :: ((w64 ((1 : Int) - so)) :: (mn :: [])))) ≤ 140737488355328) ∧
          (br (!(v0).snd)
           (K (.one (.dat (Ty.list Ty.message) [])) [.box [.dat (Ty.list Ty.int) (((v0).fst).f).words, .dat Ty.int (((v0).fst).f).fuel, .dat Ty.bool ((v0).fst).up, .dat Ty.int ((v0).fst).n, .dat Ty.int ((v0).fst).got]])
           (K (.one (.dat (Ty.list Ty.message) ((⟨(6 : Int), mu, mn, (0 : Int), (0 : Int), [], false⟩ : Vm.Message) :: []))) [.box [.dat (Ty.list Ty.int) (((v0).fst).f).words, .dat Ty.int (((v0).fst).f).fuel, .dat Ty.bool ((v0).fst).up, .dat Ty.int ((v0).fst).n, .dat Ty.int ((v0).fst).got]])))))
     (br (lei mn sb)
       (K (.one (.dat (Ty.list Ty.message) [])) [.box [.dat (Ty.list Ty.int) ws, .dat Ty.int fu, .dat Ty.bool up, .dat Ty.int un, .dat Ty.int ug]])
       (br (eqi sr mn)
         (((List.length ((3 : Int) :: (mn :: []))) ≤ 140737488355328) ∧
          (br (!(v1).snd)
           (K (.one (.dat (Ty.list Ty.message) [])) [.box [.dat (Ty.list Ty.int) (((v1).fst).f).words, .dat Ty.int (((v1).fst).f).fuel, .dat Ty.bool ((v1).fst).up, .dat Ty.int ((v1).fst).n, .dat Ty.int ((v1).fst).got]])
           (br (eqi ((v1).fst).n mn)
             (K (.one (.dat (Ty.list Ty.message) ((⟨(6 : Int), mu, mn, (0 : Int), (0 : Int), [], false⟩ : Vm.Message) :: []))) [.box [.dat (Ty.list Ty.int) (((v1).fst).f).words, .dat Ty.int (((v1).fst).f).fuel, .dat Ty.bool ((v1).fst).up, .dat Ty.int (0 : Int), .dat Ty.int (0 : Int)]])
             (K (.one (.dat (Ty.list Ty.message) ((⟨(6 : Int), mu, mn, (0 : Int), (0 : Int), [], false⟩ : Vm.Message) :: []))) [.box [.dat (Ty.list Ty.int) (((v1).fst).f).words, .dat Ty.int (((v1).fst).f).fuel, .dat Ty.bool ((v1).fst).up, .dat Ty.int ((v1).fst).n, .dat Ty.int ((v1).fst).got]]))))
         (br (eqi un mn)
           (K (.one (.dat (Ty.list Ty.message) ((⟨(6 : Int), mu, mn, (0 : Int), (0 : Int), [], false⟩ : Vm.Message) :: []))) [.box [.dat (Ty.list Ty.int) ws, .dat Ty.int fu, .dat Ty.bool up, .dat Ty.int (0 : Int), .dat Ty.int (0 : Int)]])
           (K (.one (.dat (Ty.list Ty.message) ((⟨(6 : Int), mu, mn, (0 : Int), (0 : Int), [], false⟩ : Vm.Message) :: []))) [.box [.dat (Ty.list Ty.int) ws, .dat Ty.int fu, .dat Ty.bool up, .dat Ty.int un, .dat Ty.int ug]]))))) := by subst hv1; subst hv0; kernel_rfl
theorem unit_decided_w (ws : List Int) (fu : Int) (up : Bool) (un : Int) (ug : Int) (so : Int) (sb : Int) (sr : Int) (mk : Int) (mu : Int) (mn : Int) (ma : Int) (mi : Int) (mw : List Int) (my : Bool) (m : Nat) (K : V → List Blk → Prop) : goD Γ_unit_decided tab fn_unit_decided 1 K (m + 1) [.code (bodyOf fn_unit_decided)] (initSt [.one (.ptr 0 0), .agg [.dat Ty.int so, .dat Ty.int sb, .dat Ty.int sr], .agg [.dat Ty.int mk, .dat Ty.int mu, .dat Ty.int mn, .dat Ty.int ma, .dat Ty.int mi, .dat (Ty.list Ty.int) mw, .dat Ty.bool my]] [.box [.dat (Ty.list Ty.int) ws, .dat Ty.int fu, .dat Ty.bool up, .dat Ty.int un, .dat Ty.int ug]]) = segD Γ_unit_decided tab fn_unit_decided 1 K (goD Γ_unit_decided tab fn_unit_decided 1 K m) [.code (bodyOf fn_unit_decided)] (initSt [.one (.ptr 0 0), .agg [.dat Ty.int so, .dat Ty.int sb, .dat Ty.int sr], .agg [.dat Ty.int mk, .dat Ty.int mu, .dat Ty.int mn, .dat Ty.int ma, .dat Ty.int mi, .dat (Ty.list Ty.int) mw, .dat Ty.bool my]] [.box [.dat (Ty.list Ty.int) ws, .dat Ty.int fu, .dat Ty.bool up, .dat Ty.int un, .dat Ty.int ug]]) := rfl

set_option maxHeartbeats 4000000 in
theorem run_unit_decided (ws : List Int) (fu : Int) (up : Bool) (un ug : Int)(so sb sr : Int)(mk mu mn ma mi : Int) (mw : List Int) (my : Bool) (hp : 0 ≤ so ∧ so ≤ 1) (K : V → List Blk → Prop) (hK : K (.one (.dat (.list .message) (decidedU ⟨⟨ws, fu⟩, up, un, ug⟩ ⟨so, sb, sr⟩ ⟨mk, mu, mn, ma, mi, mw, my⟩).2)) [.box [.dat (.list .int) (decidedU ⟨⟨ws, fu⟩, up, un, ug⟩ ⟨so, sb, sr⟩ ⟨mk, mu, mn, ma, mi, mw, my⟩).1.f.words, .dat .int (decidedU ⟨⟨ws, fu⟩, up, un, ug⟩ ⟨so, sb, sr⟩ ⟨mk, mu, mn, ma, mi, mw, my⟩).1.f.fuel, .dat .bool (decidedU ⟨⟨ws, fu⟩, up, un, ug⟩ ⟨so, sb, sr⟩ ⟨mk, mu, mn, ma, mi, mw, my⟩).1.up, .dat .int (decidedU ⟨⟨ws, fu⟩, up, un, ug⟩ ⟨so, sb, sr⟩ ⟨mk, mu, mn, ma, mi, mw, my⟩).1.n, .dat .int (decidedU ⟨⟨ws, fu⟩, up, un, ug⟩ ⟨so, sb, sr⟩ ⟨mk, mu, mn, ma, mi, mw, my⟩).1.got]]) : ∃ m, goD Γ_unit_decided tab fn_unit_decided 1 K m [.code (bodyOf fn_unit_decided)] (initSt [.one (.ptr 0 0), .agg [.dat .int so, .dat .int sb, .dat .int sr], .agg [.dat .int mk, .dat .int mu, .dat .int mn, .dat .int ma, .dat .int mi, .dat (.list .int) mw, .dat .bool my]] [.box [.dat (.list .int) ws, .dat .int fu, .dat .bool up, .dat .int un, .dat .int ug]]) := by
  refine ⟨1, ?_⟩
  rw [unit_decided_w, unit_decided_vc _ _ _ _ _ _ _ _ _ _ _ _ _ _ _ _ _ _ rfl _ rfl]
  obtain ⟨p1, p2⟩ := hp
  rw [w64_id (n := 1 - so) (by omega) (by omega)]
  unfold decidedU at hK
  simp only at hK
  refine eq_s (fun h => ?_) (fun h => ?_)
  · rw [if_pos h] at hK
    refine eq_s (fun h2 => ?_) (fun h2 => ne_s (fun h3 => ?_) (fun h3 => ⟨by simp, nt_s (fun h4 => ?_) (fun h4 => ?_)⟩))
    · rw [if_pos h2] at hK; exact hK
    · rw [if_neg h2, if_neg h3] at hK; exact hK
    · rw [if_neg h2, if_pos h3, if_neg (by rw [h4]; simp)] at hK; exact hK
    · rw [if_neg h2, if_pos h3, if_pos h4] at hK; exact hK
  · rw [if_neg h] at hK
    refine br_split (fun h2 => ?_) (fun h2 => eq_s (fun h3 => ⟨by simp, nt_s (fun h4 => ?_) (fun h4 => ?_)⟩) (fun h3 => ?_))
    · rw [lei_true] at h2; rw [if_pos h2] at hK; exact hK
    · rw [lei_false] at h2; rw [if_neg (by omega), if_pos h3, if_neg (by rw [h4]; simp)] at hK; exact hK
    · rw [lei_false] at h2; rw [if_neg (by omega), if_pos h3, if_pos h4] at hK
      unfold goneU at hK
      refine eq_s (fun h5 => ?_) (fun h5 => ?_)
      · rw [if_pos h5] at hK; exact hK
      · rw [if_neg h5] at hK; exact hK
    · rw [lei_false] at h2; rw [if_neg (by omega), if_neg h3] at hK
      unfold goneU at hK
      refine eq_s (fun h5 => ?_) (fun h5 => ?_)
      · rw [if_pos h5] at hK; exact hK
      · rw [if_neg h5] at hK; exact hK
theorem sound_unit_decided : SoundC Tryd.prog tab n_unit_decided c_unit_decided := soundC_of ok_unit_decided hf_unit_decided hB_unit_decided (by
  intro vs bs p v bs' h hp
  unfold c_unit_decided at h
  split at h
  · cases h
    exact ⟨by kernel_rfl, rfl, .inl (run_unit_decided _ _ _ _ _ _ _ _ _ _ _ _ _ _ _ hp.1 _ ⟨rfl, rfl⟩)⟩
  · cases h)

def c_unit_Hear : Contract := fun vs bs => match vs, bs with
  | [.agg [.dat (.list .str) b], .agg [.dat (.list .int) ws, .dat .int fu, .dat .bool up, .dat .int un, .dat .int ug], .agg [.dat .int mk, .dat .int mu, .dat .int mn, .dat .int ma, .dat .int mi, .dat (.list .int) mw, .dat .bool my]], [] => some (some (b.length ≤ 140737488355328), .tup [.agg [.dat (.list .int) (hearU b ⟨⟨ws, fu⟩, up, un, ug⟩ ⟨mk, mu, mn, ma, mi, mw, my⟩).1.1.f.words, .dat .int (hearU b ⟨⟨ws, fu⟩, up, un, ug⟩ ⟨mk, mu, mn, ma, mi, mw, my⟩).1.1.f.fuel, .dat .bool (hearU b ⟨⟨ws, fu⟩, up, un, ug⟩ ⟨mk, mu, mn, ma, mi, mw, my⟩).1.1.up, .dat .int (hearU b ⟨⟨ws, fu⟩, up, un, ug⟩ ⟨mk, mu, mn, ma, mi, mw, my⟩).1.1.n, .dat .int (hearU b ⟨⟨ws, fu⟩, up, un, ug⟩ ⟨mk, mu, mn, ma, mi, mw, my⟩).1.1.got], .one (.dat (.list .message) (hearU b ⟨⟨ws, fu⟩, up, un, ug⟩ ⟨mk, mu, mn, ma, mi, mw, my⟩).1.2), .one (.dat .int (hearU b ⟨⟨ws, fu⟩, up, un, ug⟩ ⟨mk, mu, mn, ma, mi, mw, my⟩).2)], [])
  | _, _ => none
def Γ_unit_Hear : Ctx := [(n_meta_CheckBook, c_meta_CheckBook), (n_unit_Check, c_unit_Check), (n_unit_CheckMessage, c_unit_CheckMessage), (n_unit_Copy, c_unit_Copy), (n_unit_of, c_unit_of), (n_unit_piece, c_unit_piece), (n_unit_prepare, c_unit_prepare), (n_unit_decided, c_unit_decided)]
theorem ok_unit_Hear : Ok Tryd.prog tab Γ_unit_Hear := ((((((((ok_nil.consC hf_unit_decided hB_unit_decided sound_unit_decided).consC hf_unit_prepare hB_unit_prepare sound_unit_prepare).consC hf_unit_piece hB_unit_piece sound_unit_piece).consC hf_unit_of hB_unit_of sound_unit_of).consC hf_unit_Copy hB_unit_Copy sound_unit_Copy).consC hf_unit_CheckMessage hB_unit_CheckMessage sound_unit_CheckMessage).consC hf_unit_Check hB_unit_Check sound_unit_Check).consC hf_meta_CheckBook hB_meta_CheckBook sound_meta_CheckBook)
theorem unit_Hear_vc (b : List (List UInt8)) (ws : List Int) (fu : Int) (up : Bool) (un : Int) (ug : Int) (mk : Int) (mu : Int) (mn : Int) (ma : Int) (mi : Int) (mw : List Int) (my : Bool) (rec : List It → St → Prop) (K : V → List Blk → Prop) v0 (hv0 : v0 = (checkBook b)) v1 (hv1 : v1 = (checkU (⟨(⟨ws, fu⟩ : Vm.Flash), up, un, ug⟩ : Vm.UnitD))) v2 (hv2 : v2 = (checkM (⟨mk, mu, mn, ma, mi, mw, my⟩ : Vm.Message))) v3 (hv3 : v3 = (ofU (⟨ws, fu⟩ : Vm.Flash))) v4 (hv4 : v4 = (pieceU (⟨(⟨ws, fu⟩ : Vm.Flash), up, un, ug⟩ : Vm.UnitD) (⟨(v3).slot, (v3).by_, (v3).ready⟩ : Vm.UState) (⟨mk, mu, mn, ma, mi, mw, my⟩ : Vm.Message))) v5 (hv5 : v5 = (prepareU b (⟨(⟨ws, fu⟩ : Vm.Flash), up, un, ug⟩ : Vm.UnitD) (⟨(v3).slot, (v3).by_, (v3).ready⟩ : Vm.UState) (⟨mk, mu, mn, ma, mi, mw, my⟩ : Vm.Message))) v6 (hv6 : v6 = (decidedU (⟨(⟨ws, fu⟩ : Vm.Flash), up, un, ug⟩ : Vm.UnitD) (⟨(v3).slot, (v3).by_, (v3).ready⟩ : Vm.UState) (⟨mk, mu, mn, ma, mi, mw, my⟩ : Vm.Message))) : segD Γ_unit_Hear tab fn_unit_Hear 0 K rec [.code (bodyOf fn_unit_Hear)] (initSt [.agg [.dat (Ty.list Ty.str) b], .agg [.dat (Ty.list Ty.int) ws, .dat Ty.int fu, .dat Ty.bool up, .dat Ty.int un, .dat Ty.int ug], .agg [.dat Ty.int mk, .dat Ty.int mu, .dat Ty.int mn, .dat Ty.int ma, .dat Ty.int mi, .dat (Ty.list Ty.int) mw, .dat Ty.bool my]] []) = (
    br (!(eqi v0 (0 : Int)))
     (K (.tup [.agg [.dat (Ty.list Ty.int) [], .dat Ty.int (0 : Int), .dat Ty.bool false, .dat Ty.int (0 : Int), .dat Ty.int (0 : Int)], .one (.dat (Ty.list Ty.message) []), .one (.dat Ty.int v0)]) [])
     (br (!(eqi v1 (0 : Int)))
       (K (.tup [.agg [.dat (Ty.list Ty.int) [], .dat Ty.int (0 : Int), .dat Ty.bool false, .dat Ty.int (0 : Int), .dat Ty.int (0 : Int)], .one (.dat (Ty.list Ty.message) []), .one (.dat Ty.int v1)]) [])
       (br (!(eqi v2 (0 : Int)))
         (K (.tup [.agg [.dat (Ty.list Ty.int) [], .dat Ty.int (0 : Int), .dat Ty.bool false, .dat Ty.int (0 : Int), .dat Ty.int (0 : Int)], .one (.dat (Ty.list Ty.message) []), .one (.dat Ty.int v2)]) [])
         ((((len ws) * 8) ≤ 140737488355328) ∧
          (br (!up)
           (K (.tup [.agg [.dat (Ty.list Ty.int) ws, .dat Ty.int fu, .dat Ty.bool up, .dat Ty.int un, .dat Ty.int ug], .one (.dat (Ty.list Ty.message) []), .one (.dat Ty.int (0 : Int))]) [])
           (br (eqi mk (1 : Int))
             ((((0 : Int) ≤ (v3).slot) ∧ (((v3).slot ≤ (1 : Int)) ∧ (((0 : Int) ≤ ma) ∧ ((ma ≤ (40 : Int)) ∧ ((len mw) ≤ 8))))) ∧
              (K (.tup [.agg [.dat (Ty.list Ty.int) ((v4).f).words, .dat Ty.int ((v4).f).fuel, .dat Ty.bool (v4).up, .dat Ty.int (v4).n, .dat Ty.int (v4).got], .one (.dat (Ty.list Ty.message) []), .one (.dat Ty.int (0 : Int))]) []))
             (br (eqi mk (2 : Int))
               ((((0 : Int) ≤ (v3).slot) ∧ (((v3).slot ≤ (1 : Int)) ∧ ((List.length b) ≤ 140737488355328))) ∧
                (K (.tup [.agg [.dat (Ty.list Ty.int) (((v5).fst).f).words, .dat Ty.int (((v5).fst).f).fuel, .dat Ty.bool ((v5).fst).up, .dat Ty.int ((v5).fst).n, .dat Ty.int ((v5).fst).got], .one (.dat (Ty.list Ty.message) (v5).snd), .one (.dat Ty.int (0 : Int))]) []))
               (br (eqi mk (4 : Int))
                 (br (eqi mk (4 : Int))
                   ((((0 : Int) ≤ (v3).slot) ∧ ((v3).slot ≤ (1 : Int))) ∧
                    (K (.tup [.agg [.dat (Ty.list Ty.int) (((v6).fst).f).words, .dat Ty.int (((v6).fst).f).fuel, .dat Ty.bool ((v6).fst).up, .dat Ty.int ((v6).fst).n, .dat Ty.int ((v6).fst).got], .one (.dat (Ty.list Ty.message) (v6).snd), .one (.dat Ty.int (0 : Int))]) []))
                   (K (.tup [.agg [.dat (Ty.list Ty.int) ws, .dat Ty.int fu, .dat Ty.bool up, .dat Ty.int un, .dat Ty.int ug], .one (.dat (Ty.list Ty.message) []), .one (.dat Ty.int (0 : Int))]) []))
                 (br (eqi mk (5 : Int))
                   ((((0 : Int) ≤ (v3).slot) ∧ ((v3).slot ≤ (1 : Int))) ∧
                    (K (.tup [.agg [.dat (Ty.list Ty.int) (((v6).fst).f).words, .dat Ty.int (((v6).fst).f).fuel, .dat Ty.bool ((v6).fst).up, .dat Ty.int ((v6).fst).n, .dat Ty.int ((v6).fst).got], .one (.dat (Ty.list Ty.message) (v6).snd), .one (.dat Ty.int (0 : Int))]) []))
                   (K (.tup [.agg [.dat (Ty.list Ty.int) ws, .dat Ty.int fu, .dat Ty.bool up, .dat Ty.int un, .dat Ty.int ug], .one (.dat (Ty.list Ty.message) []), .one (.dat Ty.int (0 : Int))]) [])))))))))) := by subst hv6; subst hv5; subst hv4; subst hv3; subst hv2; subst hv1; subst hv0; kernel_rfl
theorem unit_Hear_w (b : List (List UInt8)) (ws : List Int) (fu : Int) (up : Bool) (un : Int) (ug : Int) (mk : Int) (mu : Int) (mn : Int) (ma : Int) (mi : Int) (mw : List Int) (my : Bool) (m : Nat) (K : V → List Blk → Prop) : goD Γ_unit_Hear tab fn_unit_Hear 0 K (m + 1) [.code (bodyOf fn_unit_Hear)] (initSt [.agg [.dat (Ty.list Ty.str) b], .agg [.dat (Ty.list Ty.int) ws, .dat Ty.int fu, .dat Ty.bool up, .dat Ty.int un, .dat Ty.int ug], .agg [.dat Ty.int mk, .dat Ty.int mu, .dat Ty.int mn, .dat Ty.int ma, .dat Ty.int mi, .dat (Ty.list Ty.int) mw, .dat Ty.bool my]] []) = segD Γ_unit_Hear tab fn_unit_Hear 0 K (goD Γ_unit_Hear tab fn_unit_Hear 0 K m) [.code (bodyOf fn_unit_Hear)] (initSt [.agg [.dat (Ty.list Ty.str) b], .agg [.dat (Ty.list Ty.int) ws, .dat Ty.int fu, .dat Ty.bool up, .dat Ty.int un, .dat Ty.int ug], .agg [.dat Ty.int mk, .dat Ty.int mu, .dat Ty.int mn, .dat Ty.int ma, .dat Ty.int mi, .dat (Ty.list Ty.int) mw, .dat Ty.bool my]] []) := rfl

set_option maxHeartbeats 4000000 in
theorem run_unit_Hear (b : List (List UInt8)) (ws : List Int) (fu : Int) (up : Bool) (un ug : Int)(mk mu mn ma mi : Int) (mw : List Int) (my : Bool) (hp : b.length ≤ 140737488355328) (K : V → List Blk → Prop) (hK : K (.tup [.agg [.dat (.list .int) (hearU b ⟨⟨ws, fu⟩, up, un, ug⟩ ⟨mk, mu, mn, ma, mi, mw, my⟩).1.1.f.words, .dat .int (hearU b ⟨⟨ws, fu⟩, up, un, ug⟩ ⟨mk, mu, mn, ma, mi, mw, my⟩).1.1.f.fuel, .dat .bool (hearU b ⟨⟨ws, fu⟩, up, un, ug⟩ ⟨mk, mu, mn, ma, mi, mw, my⟩).1.1.up, .dat .int (hearU b ⟨⟨ws, fu⟩, up, un, ug⟩ ⟨mk, mu, mn, ma, mi, mw, my⟩).1.1.n, .dat .int (hearU b ⟨⟨ws, fu⟩, up, un, ug⟩ ⟨mk, mu, mn, ma, mi, mw, my⟩).1.1.got], .one (.dat (.list .message) (hearU b ⟨⟨ws, fu⟩, up, un, ug⟩ ⟨mk, mu, mn, ma, mi, mw, my⟩).1.2), .one (.dat .int (hearU b ⟨⟨ws, fu⟩, up, un, ug⟩ ⟨mk, mu, mn, ma, mi, mw, my⟩).2)]) []) : ∃ m, goD Γ_unit_Hear tab fn_unit_Hear 0 K m [.code (bodyOf fn_unit_Hear)] (initSt [.agg [.dat (.list .str) b], .agg [.dat (.list .int) ws, .dat .int fu, .dat .bool up, .dat .int un, .dat .int ug], .agg [.dat .int mk, .dat .int mu, .dat .int mn, .dat .int ma, .dat .int mi, .dat (.list .int) mw, .dat .bool my]] []) := by
  refine ⟨1, ?_⟩
  rw [unit_Hear_w, unit_Hear_vc _ _ _ _ _ _ _ _ _ _ _ _ _ _ _ _ rfl _ rfl _ rfl _ rfl _ rfl _ rfl _ rfl]
  have bad : ∀ e : Int, e ≠ 0 → hearE b ⟨⟨ws, fu⟩, up, un, ug⟩ ⟨mk, mu, mn, ma, mi, mw, my⟩ = e → K (.tup [.agg [.dat (.list .int) [], .dat .int 0, .dat .bool false, .dat .int 0, .dat .int 0], .one (.dat (.list .message) []), .one (.dat .int e)]) [] := fun e he h => by
    rw [show hearU b ⟨⟨ws, fu⟩, up, un, ug⟩ ⟨mk, mu, mn, ma, mi, mw, my⟩ = ((noUnit, []), e) from by unfold hearU; rw [if_neg (by rw [h]; exact he), h]] at hK
    exact hK
  refine ne_s (fun h => bad _ h (if_neg h)) (fun h => ?_)
  have E1 : hearE b ⟨⟨ws, fu⟩, up, un, ug⟩ ⟨mk, mu, mn, ma, mi, mw, my⟩ = _ := if_pos h
  refine ne_s (fun h2 => bad _ h2 (E1.trans (if_neg h2))) (fun h2 => ?_)
  have E2 := E1.trans (if_pos h2)
  refine ne_s (fun h3 => bad _ h3 E2) (fun h3 => ?_)
  rw [show hearU b ⟨⟨ws, fu⟩, up, un, ug⟩ ⟨mk, mu, mn, ma, mi, mw, my⟩ = (hearsU b ⟨⟨ws, fu⟩, up, un, ug⟩ ⟨mk, mu, mn, ma, mi, mw, my⟩, 0) from if_pos (E2.trans h3)] at hK
  obtain ⟨_, c2, _⟩ := checkU_ok h2
  obtain ⟨_, _, _, _, _, _, m1, m2, _, _, m3, _⟩ := checkM_ok h3
  obtain ⟨⟨s1, s2⟩, _⟩ := ofU_ok ⟨ws, fu⟩
  simp only at c2 m1 m2 m3
  unfold hearsU at hK
  simp only at hK
  refine ⟨by simp only [len]; omega, nt_s (fun h4 => ?_) (fun h4 => ?_)⟩
  · rw [if_neg (by rw [h4]; simp)] at hK; exact hK
  rw [if_pos h4] at hK
  refine eq_s (fun h5 => ⟨⟨s1, s2, m1, m2, m3⟩, ?_⟩) (fun h5 => eq_s (fun h6 => ⟨⟨s1, s2, hp⟩, ?_⟩) (fun h6 => eq_s (fun h7 => eq_t h7 ⟨⟨s1, s2⟩, ?_⟩) (fun h7 => eq_s (fun h8 => ⟨⟨s1, s2⟩, ?_⟩) (fun h8 => ?_))))
  · rw [if_pos h5] at hK; exact hK
  · rw [if_neg h5, if_pos h6] at hK; exact hK
  · rw [if_neg h5, if_neg h6, if_pos (.inl h7)] at hK; exact hK
  · rw [if_neg h5, if_neg h6, if_pos (.inr h8)] at hK; exact hK
  · rw [if_neg h5, if_neg h6, if_neg (by omega)] at hK; exact hK
theorem sound_unit_Hear : SoundC Tryd.prog tab n_unit_Hear c_unit_Hear := soundC_of ok_unit_Hear hf_unit_Hear hB_unit_Hear (by
  intro vs bs p v bs' h hp
  unfold c_unit_Hear at h
  split at h
  · cases h
    exact ⟨by kernel_rfl, rfl, .inl (run_unit_Hear _ _ _ _ _ _ _ _ _ _ _ _ _ hp.1 _ ⟨rfl, rfl⟩)⟩
  · cases h)

def c_law_united : Contract := fun vs bs => match vs, bs with
  | [], [] => some (none, .one (.dat .bool true), [])
  | _, _ => none
def Γ_law_united : Ctx := [(n_law_simple, c_law_simple), (n_unit_New, c_unit_New), (n_unit_Hear, c_unit_Hear), (n_unit_Runs, c_unit_Runs), (n_unit_Read, c_unit_Read), (n_slices_Equal_Lint, c_slices_Equal_Lint)]
theorem ok_law_united : Ok Tryd.prog tab Γ_law_united := ((((((ok_nil.consC hf_slices_Equal_Lint hB_slices_Equal_Lint sound_slices_Equal_Lint).consC hf_unit_Read hB_unit_Read sound_unit_Read).consC hf_unit_Runs hB_unit_Runs sound_unit_Runs).consC hf_unit_Hear hB_unit_Hear sound_unit_Hear).consC hf_unit_New hB_unit_New sound_unit_New).consC hf_law_simple hB_law_simple sound_law_simple)
noncomputable def law_united_L0 : List It := [.inLoop [35, 34, 33, 7, 6, 5, 1, 0] (Code.sub (bodyOf fn_law_united) [1, 1, 1, 1, 0, 1, 0, 0]), .inBlock 0, .code (Code.sub (bodyOf fn_law_united) [1, 1, 1, 1, 1])]
def law_united_S0 (x0 : Int) (x1 : Int) (x2 : Int) (x3 : Bool) (x4 : (List Vm.Message)) (x5 : (List Vm.Message)) (x6 : (List Int)) (x7 : Int) (x8 : Bool) (x9 : Int) (x10 : Int) (x11 : (List (List UInt8))) : St := ⟨[(35, .one (.dat Ty.int x0)), (34, .one (.dat Ty.int x1)), (33, .one (.own 0)), (7, .one (.own 1)), (6, .one (.dat Ty.int x2)), (5, .one (.ptr 2 0)), (1, .one (.ptr 3 0)), (0, .one (.dat Ty.bool x3))], [(0, .arr Ty.message x4), (1, .arr Ty.message x5), (2, .box [.dat (Ty.list Ty.int) x6, .dat Ty.int x7, .dat Ty.bool x8, .dat Ty.int x9, .dat Ty.int x10]), (3, .box [.dat (Ty.list Ty.str) x11])], 4⟩
theorem law_united_vc (rec : List It → St → Prop) (K : V → List Blk → Prop) v0 (hv0 : v0 = (applyCh (zeros (Int.toNat ((6 : Int) * (32 : Int))) (65535 : Int)) formatCh)) v1 (hv1 : v1 = (burnCh (((68 : Int) + ((64 : Int) * (0 : Int))) + (0 : Int)) ((7 : Int) :: []))) v2 (hv2 : v2 = (applyCh v0 v1)) v3 (hv3 : v3 = (headOf (((List.length ((7 : Int) :: [])) : Nat) : Int) (1 : Int))) v4 (hv4 : v4 = (burnCh ((64 : Int) + ((64 : Int) * (0 : Int))) v3)) v5 (hv5 : v5 = (applyCh v2 v4)) v6 (hv6 : v6 = (liveS v5)) v7 (hv7 : v7 = (hereCh v6 0 ((1 : Int) :: ((0 : Int) :: ((0 : Int) :: []))))) v8 (hv8 : v8 = (applyCh v5 v7)) : segD Γ_law_united tab fn_law_united 0 K rec [.code (bodyOf fn_law_united)] (initSt [] []) = (
    rec law_united_L0 (law_united_S0 (0 : Int) (((len ((⟨(1 : Int), (0 : Int), (1 : Int), (0 : Int), (0 : Int), ((8 : Int) :: ((8 : Int) :: [])), false⟩ : Vm.Message) :: ((⟨(2 : Int), (0 : Int), (1 : Int), (2 : Int), (2 : Int), [], false⟩ : Vm.Message) :: ((⟨(4 : Int), (0 : Int), (1 : Int), (0 : Int), (0 : Int), [], false⟩ : Vm.Message) :: [])))) : Nat) : Int) (0 : Int) false ((⟨(1 : Int), (0 : Int), (1 : Int), (0 : Int), (0 : Int), ((8 : Int) :: ((8 : Int) :: [])), false⟩ : Vm.Message) :: ((⟨(2 : Int), (0 : Int), (1 : Int), (2 : Int), (2 : Int), [], false⟩ : Vm.Message) :: ((⟨(4 : Int), (0 : Int), (1 : Int), (0 : Int), (0 : Int), [], false⟩ : Vm.Message) :: []))) [] v8 (-(1 : Int)) true (0 : Int) (0 : Int) simpleB)) := by subst hv8; subst hv7; subst hv6; subst hv5; subst hv4; subst hv3; subst hv2; subst hv1; subst hv0; kernel_rfl
theorem law_united_w (m : Nat) (K : V → List Blk → Prop) : goD Γ_law_united tab fn_law_united 0 K (m + 1) [.code (bodyOf fn_law_united)] (initSt [] []) = segD Γ_law_united tab fn_law_united 0 K (goD Γ_law_united tab fn_law_united 0 K m) [.code (bodyOf fn_law_united)] (initSt [] []) := rfl
theorem law_united_vc0 (x0 : Int) (x1 : Int) (x2 : Int) (x3 : Bool) (x4 : (List Vm.Message)) (x5 : (List Vm.Message)) (x6 : (List Int)) (x7 : Int) (x8 : Bool) (x9 : Int) (x10 : Int) (x11 : (List (List UInt8))) (rec : List It → St → Prop) (K : V → List Blk → Prop) v0 (hv0 : v0 = (hearU x11 (⟨(⟨x6, x7⟩ : Vm.Flash), x8, x9, x10⟩ : Vm.UnitD) (⟨((nth x4 (Int.toNat x0) (Ty.dflt Ty.message))).kind, ((nth x4 (Int.toNat x0) (Ty.dflt Ty.message))).unit, ((nth x4 (Int.toNat x0) (Ty.dflt Ty.message))).n, ((nth x4 (Int.toNat x0) (Ty.dflt Ty.message))).at_, ((nth x4 (Int.toNat x0) (Ty.dflt Ty.message))).image, ((nth x4 (Int.toNat x0) (Ty.dflt Ty.message))).words, ((nth x4 (Int.toNat x0) (Ty.dflt Ty.message))).yes⟩ : Vm.Message))) v1 (hv1 : v1 = (runsU (⟨(⟨x6, x7⟩ : Vm.Flash), x8, x9, x10⟩ : Vm.UnitD))) v2 (hv2 : v2 = (readU (⟨(⟨x6, x7⟩ : Vm.Flash), x8, x9, x10⟩ : Vm.UnitD))) v3 (hv3 : v3 = (eqIs (v1).fst ((8 : Int) :: ((8 : Int) :: [])))) : segD Γ_law_united tab fn_law_united 0 K rec (.code (Code.sub (bodyOf fn_law_united) [1, 1, 1, 1, 0, 1, 0, 0]) :: law_united_L0) (law_united_S0 x0 x1 x2 x3 x4 x5 x6 x7 x8 x9 x10 x11) = (
    br (lti x0 x1)
     ((((0 : Int) ≤ x0) ∧ (x0 < (((len x4) : Nat) : Int))) ∧
      (((Int.toNat x0) < (len x4)) ∧
      (((List.length x11) ≤ 140737488355328) ∧
      (br (!(eqi x2 (0 : Int)))
       (K (.one (.dat Ty.bool false)) [])
       (br (!(eqi (v0).snd (0 : Int)))
         (K (.one (.dat Ty.bool false)) [])
         (((((len x5) + (len ((v0).fst).snd)) * 72) ≤ 140737488355328) ∧
          (rec law_united_L0 (law_united_S0 (w64 (x0 + (1 : Int))) x1 x2 x3 x4 (cat x5 ((v0).fst).snd) ((((v0).fst).fst).f).words ((((v0).fst).fst).f).fuel (((v0).fst).fst).up (((v0).fst).fst).n (((v0).fst).fst).got x11))))))))
     (br (eqi ((v1).snd).snd (0 : Int))
       (br (eqi (v2).snd (0 : Int))
         (((List.length (v1).fst) ≤ 140737488355328) ∧
          (br v3
           (br (eqi ((v1).snd).fst (2 : Int))
             (br ((eqi ((v2).fst).slot (1 : Int)) && ((eqi ((v2).fst).by_ (1 : Int)) && ((eqi ((v2).fst).ready (0 : Int)) && true)))
               (br (eqi (((len x5) : Nat) : Int) (2 : Int))
                 ((((0 : Int) ≤ (0 : Int)) ∧ ((0 : Int) < (((len x5) : Nat) : Int))) ∧
                  (((Int.toNat (0 : Int)) < (len x5)) ∧
                  (br ((nth x5 (Int.toNat (0 : Int)) (Ty.dflt Ty.message))).yes
                   ((((0 : Int) ≤ (1 : Int)) ∧ ((1 : Int) < (((len x5) : Nat) : Int))) ∧
                    (((Int.toNat (1 : Int)) < (len x5)) ∧
                    (K (.one (.dat Ty.bool (eqi ((nth x5 (Int.toNat (1 : Int)) (Ty.dflt Ty.message))).kind (6 : Int)))) [])))
                   (K (.one (.dat Ty.bool false)) []))))
                 (K (.one (.dat Ty.bool false)) []))
               (K (.one (.dat Ty.bool false)) []))
             (K (.one (.dat Ty.bool false)) []))
           (K (.one (.dat Ty.bool false)) [])))
         (K (.one (.dat Ty.bool false)) []))
       (K (.one (.dat Ty.bool false)) []))) := by subst hv3; subst hv2; subst hv1; subst hv0; kernel_rfl
theorem law_united_w0 (x0 : Int) (x1 : Int) (x2 : Int) (x3 : Bool) (x4 : (List Vm.Message)) (x5 : (List Vm.Message)) (x6 : (List Int)) (x7 : Int) (x8 : Bool) (x9 : Int) (x10 : Int) (x11 : (List (List UInt8))) (m : Nat) (K : V → List Blk → Prop) : goD Γ_law_united tab fn_law_united 0 K (m + 1) law_united_L0 (law_united_S0 x0 x1 x2 x3 x4 x5 x6 x7 x8 x9 x10 x11) = segD Γ_law_united tab fn_law_united 0 K (goD Γ_law_united tab fn_law_united 0 K m) (.code (Code.sub (bodyOf fn_law_united) [1, 1, 1, 1, 0, 1, 0, 0]) :: law_united_L0) (law_united_S0 x0 x1 x2 x3 x4 x5 x6 x7 x8 x9 x10 x11) := rfl

set_option maxHeartbeats 4000000 in
theorem run_law_united  (K : V → List Blk → Prop) (hK : K (.one (.dat .bool true)) []) : ∃ m, goD Γ_law_united tab fn_law_united 0 K m [.code (bodyOf fn_law_united)] (initSt [] []) := by
  refine ⟨5, ?_⟩
  have e : goD Γ_law_united tab fn_law_united 0 K 5 [.code (bodyOf fn_law_united)] (initSt [] []) = (((0 : Int) ≤ 0 ∧ (0 : Int) < 3) ∧ 0 < 3 ∧ simpleB.length ≤ 140737488355328 ∧ (0 + 0) * 72 ≤ 140737488355328 ∧
      ((0 : Int) ≤ 1 ∧ (1 : Int) < 3) ∧ 1 < 3 ∧ simpleB.length ≤ 140737488355328 ∧ (0 + 1) * 72 ≤ 140737488355328 ∧
      ((0 : Int) ≤ 2 ∧ (2 : Int) < 3) ∧ 2 < 3 ∧ simpleB.length ≤ 140737488355328 ∧ (1 + 1) * 72 ≤ 140737488355328 ∧
      2 ≤ 140737488355328 ∧ ((0 : Int) ≤ 0 ∧ (0 : Int) < 2) ∧ 0 < 2 ∧ ((0 : Int) ≤ 1 ∧ (1 : Int) < 2) ∧ 1 < 2 ∧ K (.one (.dat .bool true)) []) := by kernel_rfl
  rw [e]
  exact ⟨by omega, by omega, by decide, by omega, by omega, by omega, by decide, by omega, by omega, by omega, by decide, by omega, by omega, by omega, by omega, by omega, by omega, hK⟩
theorem sound_law_united : SoundC Tryd.prog tab n_law_united c_law_united := soundC_of ok_law_united hf_law_united hB_law_united (by
  intro vs bs p v bs' h hp
  unfold c_law_united at h
  split at h
  · cases h
    exact ⟨by kernel_rfl, rfl, .inl (run_law_united  _ ⟨rfl, rfl⟩)⟩
  · cases h)

def c_unit_Boot : Contract := fun vs bs => match vs, bs with
  | [.agg [.dat (.list .int) ws, .dat .int fu, .dat .bool up, .dat .int un, .dat .int ug]], [] => some (none, .tup [.agg [.dat (.list .int) (bootU ⟨⟨ws, fu⟩, up, un, ug⟩).1.f.words, .dat .int (bootU ⟨⟨ws, fu⟩, up, un, ug⟩).1.f.fuel, .dat .bool (bootU ⟨⟨ws, fu⟩, up, un, ug⟩).1.up, .dat .int (bootU ⟨⟨ws, fu⟩, up, un, ug⟩).1.n, .dat .int (bootU ⟨⟨ws, fu⟩, up, un, ug⟩).1.got], .one (.dat .int (bootU ⟨⟨ws, fu⟩, up, un, ug⟩).2)], [])
  | _, _ => none
def Γ_unit_Boot : Ctx := [(n_unit_Check, c_unit_Check), (n_unit_Copy, c_unit_Copy), (n_unit_down, c_unit_down)]
theorem ok_unit_Boot : Ok Tryd.prog tab Γ_unit_Boot := (((ok_nil.consC hf_unit_down hB_unit_down sound_unit_down).consC hf_unit_Copy hB_unit_Copy sound_unit_Copy).consC hf_unit_Check hB_unit_Check sound_unit_Check)
theorem unit_Boot_vc (ws : List Int) (fu : Int) (up : Bool) (un : Int) (ug : Int) (rec : List It → St → Prop) (K : V → List Blk → Prop) v0 (hv0 : v0 = (checkU (⟨(⟨ws, fu⟩ : Vm.Flash), up, un, ug⟩ : Vm.UnitD))) : segD Γ_unit_Boot tab fn_unit_Boot 0 K rec [.code (bodyOf fn_unit_Boot)] (initSt [.agg [.dat (Ty.list Ty.int) ws, .dat Ty.int fu, .dat Ty.bool up, .dat Ty.int un, .dat Ty.int ug]] []) = (
    br (!(eqi v0 (0 : Int)))
     (K (.tup [.agg [.dat (Ty.list Ty.int) [], .dat Ty.int (0 : Int), .dat Ty.bool false, .dat Ty.int (0 : Int), .dat Ty.int (0 : Int)], .one (.dat Ty.int v0)]) [])
     ((((len ws) * 8) ≤ 140737488355328) ∧
      (K (.tup [.agg [.dat (Ty.list Ty.int) ws, .dat Ty.int (-(1 : Int)), .dat Ty.bool true, .dat Ty.int (0 : Int), .dat Ty.int (0 : Int)], .one (.dat Ty.int (0 : Int))]) []))) := by subst hv0; kernel_rfl
theorem unit_Boot_w (ws : List Int) (fu : Int) (up : Bool) (un : Int) (ug : Int) (m : Nat) (K : V → List Blk → Prop) : goD Γ_unit_Boot tab fn_unit_Boot 0 K (m + 1) [.code (bodyOf fn_unit_Boot)] (initSt [.agg [.dat (Ty.list Ty.int) ws, .dat Ty.int fu, .dat Ty.bool up, .dat Ty.int un, .dat Ty.int ug]] []) = segD Γ_unit_Boot tab fn_unit_Boot 0 K (goD Γ_unit_Boot tab fn_unit_Boot 0 K m) [.code (bodyOf fn_unit_Boot)] (initSt [.agg [.dat (Ty.list Ty.int) ws, .dat Ty.int fu, .dat Ty.bool up, .dat Ty.int un, .dat Ty.int ug]] []) := rfl

set_option maxHeartbeats 4000000 in
theorem run_unit_Boot (ws : List Int) (fu : Int) (up : Bool) (un ug : Int) (K : V → List Blk → Prop) (hK : K (.tup [.agg [.dat (.list .int) (bootU ⟨⟨ws, fu⟩, up, un, ug⟩).1.f.words, .dat .int (bootU ⟨⟨ws, fu⟩, up, un, ug⟩).1.f.fuel, .dat .bool (bootU ⟨⟨ws, fu⟩, up, un, ug⟩).1.up, .dat .int (bootU ⟨⟨ws, fu⟩, up, un, ug⟩).1.n, .dat .int (bootU ⟨⟨ws, fu⟩, up, un, ug⟩).1.got], .one (.dat .int (bootU ⟨⟨ws, fu⟩, up, un, ug⟩).2)]) []) : ∃ m, goD Γ_unit_Boot tab fn_unit_Boot 0 K m [.code (bodyOf fn_unit_Boot)] (initSt [.agg [.dat (.list .int) ws, .dat .int fu, .dat .bool up, .dat .int un, .dat .int ug]] []) := by
  refine ⟨1, ?_⟩
  rw [unit_Boot_w, unit_Boot_vc _ _ _ _ _ _ _ _ rfl]
  unfold bootU at hK
  refine ne_s (fun h => ?_) (fun h => ⟨?_, ?_⟩)
  · rw [if_neg h] at hK; exact hK
  · have := (checkU_ok h).2.1
    simp only at this; simp only [len]; omega
  · rw [if_pos h] at hK; exact hK
theorem sound_unit_Boot : SoundC Tryd.prog tab n_unit_Boot c_unit_Boot := soundC_of ok_unit_Boot hf_unit_Boot hB_unit_Boot (by
  intro vs bs p v bs' h hp
  unfold c_unit_Boot at h
  split at h
  · cases h
    exact ⟨by kernel_rfl, rfl, .inl (run_unit_Boot _ _ _ _ _ _ ⟨rfl, rfl⟩)⟩
  · cases h)

def c_law_UnitHolds : Contract := fun vs bs => match vs, bs with
  | [.agg [.dat (.list .str) b], .agg [.dat (.list .int) _, .dat .int _, .dat .bool _, .dat .int _, .dat .int _], .agg [.dat .int _, .dat .int _, .dat .int _, .dat .int _, .dat .int _, .dat (.list .int) _, .dat .bool _], .one (.dat .int fuel)], [] => some (some (b.length ≤ 140737488355328 ∧ I64 fuel), .one (.dat .bool true), [])
  | _, _ => none
def Γ_law_UnitHolds : Ctx := [(n_law_at, c_law_at), (n_unit_Runs, c_unit_Runs), (n_unit_Read, c_unit_Read), (n_law_united, c_law_united), (n_unit_Hear, c_unit_Hear), (n_unit_Boot, c_unit_Boot), (n_unit_Check, c_unit_Check), (n_slot_Image, c_slot_Image), (n_slices_Equal_Lint, c_slices_Equal_Lint)]
theorem ok_law_UnitHolds : Ok Tryd.prog tab Γ_law_UnitHolds := (((((((((ok_nil.consC hf_slices_Equal_Lint hB_slices_Equal_Lint sound_slices_Equal_Lint).consC hf_slot_Image hB_slot_Image sound_slot_Image).consC hf_unit_Check hB_unit_Check sound_unit_Check).consC hf_unit_Boot hB_unit_Boot sound_unit_Boot).consC hf_unit_Hear hB_unit_Hear sound_unit_Hear).consC hf_law_united hB_law_united sound_law_united).consC hf_unit_Read hB_unit_Read sound_unit_Read).consC hf_unit_Runs hB_unit_Runs sound_unit_Runs).consC hf_law_at hB_law_at sound_law_at)
theorem law_UnitHolds_vc (b : List (List UInt8)) (ws : List Int) (fu : Int) (up : Bool) (un : Int) (ug : Int) (mk : Int) (mu : Int) (mn : Int) (ma : Int) (mi : Int) (mw : List Int) (my : Bool) (fuel : Int) (rec : List It → St → Prop) (K : V → List Blk → Prop) v0 (hv0 : v0 = (runsU (⟨(⟨ws, (fuel % (120 : Int))⟩ : Vm.Flash), up, un, ug⟩ : Vm.UnitD))) v1 (hv1 : v1 = (readU (⟨(⟨ws, (fuel % (120 : Int))⟩ : Vm.Flash), up, un, ug⟩ : Vm.UnitD))) v2 (hv2 : v2 = (hearU b (⟨(⟨ws, (fuel % (120 : Int))⟩ : Vm.Flash), up, un, ug⟩ : Vm.UnitD) (⟨mk, mu, mn, ma, mi, mw, my⟩ : Vm.Message))) v3 (hv3 : v3 = (bootU (⟨(⟨((((v2).fst).fst).f).words, ((((v2).fst).fst).f).fuel⟩ : Vm.Flash), (((v2).fst).fst).up, (((v2).fst).fst).n, (((v2).fst).fst).got⟩ : Vm.UnitD))) v4 (hv4 : v4 = (readU (⟨(⟨(((v3).fst).f).words, (((v3).fst).f).fuel⟩ : Vm.Flash), ((v3).fst).up, ((v3).fst).n, ((v3).fst).got⟩ : Vm.UnitD))) v5 (hv5 : v5 = (checkU (⟨(⟨(((v3).fst).f).words, (((v3).fst).f).fuel⟩ : Vm.Flash), ((v3).fst).up, ((v3).fst).n, ((v3).fst).got⟩ : Vm.UnitD))) v6 (hv6 : v6 = (runsU (⟨(⟨(((v3).fst).f).words, (((v3).fst).f).fuel⟩ : Vm.Flash), ((v3).fst).up, ((v3).fst).n, ((v3).fst).got⟩ : Vm.UnitD))) v7 (hv7 : v7 = (eqIs (v6).fst (v0).fst)) v8 (hv8 : v8 = (imageS (⟨ws, (fuel % (120 : Int))⟩ : Vm.Flash) (w64 ((1 : Int) - ((v1).fst).slot)))) v9 (hv9 : v9 = (eqIs (v6).fst (v8).fst)) : segD Γ_law_UnitHolds tab fn_law_UnitHolds 0 K rec [.code (bodyOf fn_law_UnitHolds)] (initSt [.agg [.dat (Ty.list Ty.str) b], .agg [.dat (Ty.list Ty.int) ws, .dat Ty.int fu, .dat Ty.bool up, .dat Ty.int un, .dat Ty.int ug], .agg [.dat Ty.int mk, .dat Ty.int mu, .dat Ty.int mn, .dat Ty.int ma, .dat Ty.int mi, .dat (Ty.list Ty.int) mw, .dat Ty.bool my], .one (.dat Ty.int fuel)] []) = (
    (((0 : Int) < (120 : Int)) ∧ ((120 : Int) ≤ (1000 : Int))) ∧
    (br (!(eqi ((v0).snd).snd (0 : Int)))
     (K (.one (.dat Ty.bool true)) [])
     (br (!(eqi (v1).snd (0 : Int)))
       (K (.one (.dat Ty.bool true)) [])
       (((List.length b) ≤ 140737488355328) ∧
        (br (!(eqi (v2).snd (0 : Int)))
         (K (.one (.dat Ty.bool true)) [])
         (br (!(eqi (v3).snd (0 : Int)))
           (K (.one (.dat Ty.bool false)) [])
           (br (!(eqi (v4).snd (0 : Int)))
             (K (.one (.dat Ty.bool false)) [])
             (br (!(eqi v5 (0 : Int)))
               (K (.one (.dat Ty.bool false)) [])
               (br (eqi ((v4).fst).slot ((v1).fst).slot)
                 (br (eqi ((v4).fst).by_ ((v1).fst).by_)
                   (br (eqi ((v6).snd).snd (0 : Int))
                     (br (eqi ((v6).snd).fst ((v0).snd).fst)
                       (((List.length (v6).fst) ≤ 140737488355328) ∧
                        (K (.one (.dat Ty.bool v7)) []))
                       (K (.one (.dat Ty.bool false)) []))
                     (K (.one (.dat Ty.bool false)) []))
                   (br (eqi mk (4 : Int))
                     (br (eqi ((v1).fst).ready mn)
                       (br (eqi ((v4).fst).by_ mn)
                         (br (eqi ((v4).fst).slot (w64 ((1 : Int) - ((v1).fst).slot)))
                           (br (eqi ((v4).fst).ready (0 : Int))
                             (br (eqi ((v6).snd).snd ((v8).snd).snd)
                               (br (eqi ((v6).snd).fst ((v8).snd).fst)
                                 (((List.length (v6).fst) ≤ 140737488355328) ∧
                                  (K (.one (.dat Ty.bool v9)) []))
                                 (K (.one (.dat Ty.bool false)) []))
                               (K (.one (.dat Ty.bool false)) []))
                             (K (.one (.dat Ty.bool false)) []))
                           (K (.one (.dat Ty.bool false)) []))
                         (K (.one (.dat Ty.bool false)) []))
                       (K (.one (.dat Ty.bool false)) []))
                     (K (.one (.dat Ty.bool false)) [])))
                 (br (eqi mk (4 : Int))
                   (br (eqi ((v1).fst).ready mn)
                     (br (eqi ((v4).fst).by_ mn)
                       (br (eqi ((v4).fst).slot (w64 ((1 : Int) - ((v1).fst).slot)))
                         (br (eqi ((v4).fst).ready (0 : Int))
                           (br (eqi ((v6).snd).snd ((v8).snd).snd)
                             (br (eqi ((v6).snd).fst ((v8).snd).fst)
                               (((List.length (v6).fst) ≤ 140737488355328) ∧
                                (K (.one (.dat Ty.bool v9)) []))
                               (K (.one (.dat Ty.bool false)) []))
                             (K (.one (.dat Ty.bool false)) []))
                           (K (.one (.dat Ty.bool false)) []))
                         (K (.one (.dat Ty.bool false)) []))
                       (K (.one (.dat Ty.bool false)) []))
                     (K (.one (.dat Ty.bool false)) []))
                   (K (.one (.dat Ty.bool false)) []))))))))))) := by subst hv9; subst hv8; subst hv7; subst hv6; subst hv5; subst hv4; subst hv3; subst hv2; subst hv1; subst hv0; kernel_rfl
theorem law_UnitHolds_w (b : List (List UInt8)) (ws : List Int) (fu : Int) (up : Bool) (un : Int) (ug : Int) (mk : Int) (mu : Int) (mn : Int) (ma : Int) (mi : Int) (mw : List Int) (my : Bool) (fuel : Int) (m : Nat) (K : V → List Blk → Prop) : goD Γ_law_UnitHolds tab fn_law_UnitHolds 0 K (m + 1) [.code (bodyOf fn_law_UnitHolds)] (initSt [.agg [.dat (Ty.list Ty.str) b], .agg [.dat (Ty.list Ty.int) ws, .dat Ty.int fu, .dat Ty.bool up, .dat Ty.int un, .dat Ty.int ug], .agg [.dat Ty.int mk, .dat Ty.int mu, .dat Ty.int mn, .dat Ty.int ma, .dat Ty.int mi, .dat (Ty.list Ty.int) mw, .dat Ty.bool my], .one (.dat Ty.int fuel)] []) = segD Γ_law_UnitHolds tab fn_law_UnitHolds 0 K (goD Γ_law_UnitHolds tab fn_law_UnitHolds 0 K m) [.code (bodyOf fn_law_UnitHolds)] (initSt [.agg [.dat (Ty.list Ty.str) b], .agg [.dat (Ty.list Ty.int) ws, .dat Ty.int fu, .dat Ty.bool up, .dat Ty.int un, .dat Ty.int ug], .agg [.dat Ty.int mk, .dat Ty.int mu, .dat Ty.int mn, .dat Ty.int ma, .dat Ty.int mi, .dat (Ty.list Ty.int) mw, .dat Ty.bool my], .one (.dat Ty.int fuel)] []) := rfl

set_option maxHeartbeats 4000000 in
theorem run_law_UnitHolds (b : List (List UInt8)) (ws : List Int) (fu : Int) (up : Bool) (un ug : Int)(mk mu mn ma mi : Int) (mw : List Int) (my : Bool) (fuel : Int) (hp : b.length ≤ 140737488355328 ∧ I64 fuel) (K : V → List Blk → Prop) (hK : K (.one (.dat .bool true)) []) : ∃ m, goD Γ_law_UnitHolds tab fn_law_UnitHolds 0 K m [.code (bodyOf fn_law_UnitHolds)] (initSt [.agg [.dat (.list .str) b], .agg [.dat (.list .int) ws, .dat .int fu, .dat .bool up, .dat .int un, .dat .int ug], .agg [.dat .int mk, .dat .int mu, .dat .int mn, .dat .int ma, .dat .int mi, .dat (.list .int) mw, .dat .bool my], .one (.dat .int fuel)] []) := by
  refine ⟨1, ?_⟩
  rw [law_UnitHolds_w, law_UnitHolds_vc _ _ _ _ _ _ _ _ _ _ _ _ _ _ _ _ _ rfl _ rfl _ rfl _ rfl _ rfl _ rfl _ rfl _ rfl _ rfl _ rfl]
  obtain ⟨h1, h2⟩ := hp
  have f0 := Int.emod_nonneg fuel (show (120 : Int) ≠ 0 by omega)
  have f1 := Int.emod_lt_of_pos fuel (show (0 : Int) < 120 by omega)
  obtain ⟨fv, hfv⟩ : ∃ fv, fuel % 120 = fv := ⟨_, rfl⟩
  rw [hfv] at f0 f1 ⊢
  refine ⟨by omega, ne_s (fun _ => hK) (fun g1 => ne_s (fun _ => hK) (fun g2 => ⟨h1, ne_s (fun _ => hK) (fun g3 => ?_)⟩))⟩
  have cu := readU_inv g2
  obtain ⟨e3, g3'⟩ := hearU_ok g3
  obtain ⟨cb, _, cm⟩ := hearE_ok e3
  rw [g3']
  obtain ⟨_, _, _, _, m1, m2, _⟩ := checkM_ok cm
  have hu := okF_of cu
  have cx := hears_right (b := b) cu cm
  have hall := hears_all (b := b) (m := ⟨mk, mu, mn, ma, mi, mw, my⟩) hu (okC_of cu) ⟨m1, m2⟩
  obtain ⟨x, hx⟩ : ∃ x, (hearsU b ⟨⟨ws, fv⟩, up, un, ug⟩ ⟨mk, mu, mn, ma, mi, mw, my⟩).1 = x := ⟨_, rfl⟩
  rw [hx] at cx hall
  simp only [hx]
  have ex : (⟨⟨x.f.words, x.f.fuel⟩, x.up, x.n, x.got⟩ : Vm.UnitD) = x := rfl
  rw [ex, bootU_ok cx]
  have hxf := okF_of cx
  have hy := okF_fuel (fv := -1) hxf (by omega) (by omega)
  have cy : checkU ⟨⟨x.f.words, -1⟩, true, 0, 0⟩ = 0 := checkU_mk hy (by simp) (by simp) (by simp) (by simp)
  have ey := ofU_fuel (fv := -1) hxf (by omega) (by omega)
  have er := readU_ok cy
  have er0 := readU_ok cu
  have eq := runsU_ok cy
  have eq0 := runsU_ok cu
  have os := ofU_ok ⟨ws, fv⟩
  simp only at er er0 eq eq0 hall
  rw [ey] at er eq
  simp only [er, er0, eq, eq0, cy] at g1 ⊢
  refine ne_f rfl (ne_f rfl (ne_f rfl ?_))
  rcases hall with ⟨k1, k2, k3, k4, k5⟩ | ⟨k1, k2, k3, k4, k5, k6⟩
  · have hi : imageS ⟨x.f.words, -1⟩ (ofU x.f).slot = imageS ⟨ws, fv⟩ (ofU ⟨ws, fv⟩).slot := by
      rw [k3]
      exact image_same hy hu os.1 k5
    rw [hi]
    refine eq_t k3 (eq_t k4 (eq_t g1 (eq_t rfl ⟨imageS_sm g1, ?_⟩)))
    rw [show eqIs _ _ = true from decide_eq_true rfl]
    exact hK
  · have os1 := os.1
    rw [k5]
    have hi : imageS ⟨x.f.words, -1⟩ (1 - (ofU ⟨ws, fv⟩).slot) = imageS ⟨ws, fv⟩ (1 - (ofU ⟨ws, fv⟩).slot) := image_same hy hu (by omega) (fun i h1 _ => k6 i (by omega))
    rw [w64_id (n := 1 - (ofU ⟨ws, fv⟩).slot) (by omega) (by omega)]
    simp only [hi]
    refine eq_f (by omega) (eq_t k1 (eq_t k2 (eq_t rfl (eq_t rfl (eq_t rfl (eq_t rfl (eq_t rfl ⟨?_, ?_⟩)))))))
    · have : (imageS ⟨ws, fv⟩ (1 - (ofU ⟨ws, fv⟩).slot)).1.length ≤ 192 := by
        unfold imageS
        by_cases c : checkSlot ⟨ws, fv⟩ (1 - (ofU ⟨ws, fv⟩).slot) = 0
        · rw [if_pos c]; exact imageR_len _ _ (Nat.le_of_eq hu.2)
        · rw [if_neg c]; simp
      omega
    · rw [show eqIs _ _ = true from decide_eq_true rfl]
      exact hK
theorem sound_law_UnitHolds : SoundC Tryd.prog tab n_law_UnitHolds c_law_UnitHolds := soundC_of ok_law_UnitHolds hf_law_UnitHolds hB_law_UnitHolds (by
  intro vs bs p v bs' h hp
  unfold c_law_UnitHolds at h
  split at h
  · cases h
    exact ⟨by kernel_rfl, rfl, .inl (run_law_UnitHolds _ _ _ _ _ _ _ _ _ _ _ _ _ _ hp.1 _ ⟨rfl, rfl⟩)⟩
  · cases h)
end Go.Proofs.YtlbppjmekiemiabDoor
