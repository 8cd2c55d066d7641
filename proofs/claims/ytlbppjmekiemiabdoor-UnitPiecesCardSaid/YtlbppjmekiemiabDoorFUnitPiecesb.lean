/- What the functions of UnitPieces compute (part 2 of 2). No condition. -/
import Derived.Test.YtlbppjmekiemiabDoorFUnitPiecesa
import Derived.KernelRfl
namespace Go.Proofs.YtlbppjmekiemiabDoor
open Vm
def c_unit_Copy : Contract := fun vs bs => match vs, bs with
  | [.agg [.dat (.list .int) ws, .dat .int fu, .dat .bool up, .dat .int un, .dat .int ug]], [] => some (some (len ws * 8 ≤ 140737488355328), .agg [.dat (.list .int) ws, .dat .int fu, .dat .bool up, .dat .int un, .dat .int ug], [])
  | _, _ => none
def Γ_unit_Copy : Ctx := [(n_flash_Copy, c_flash_Copy)]
theorem ok_unit_Copy : Ok Tryd.prog tab Γ_unit_Copy := (ok_nil.consC hf_flash_Copy hB_flash_Copy sound_flash_Copy)
theorem unit_Copy_vc (ws : List Int) (fu : Int) (up : Bool) (un : Int) (ug : Int) (rec : List It → St → Prop) (K : V → List Blk → Prop) : segD Γ_unit_Copy tab fn_unit_Copy 0 K rec [.code (bodyOf fn_unit_Copy)] (initSt [.agg [.dat (Ty.list Ty.int) ws, .dat Ty.int fu, .dat Ty.bool up, .dat Ty.int un, .dat Ty.int ug]] []) = (
    (((len ws) * 8) ≤ 140737488355328) ∧
    (K (.agg [.dat (Ty.list Ty.int) ws, .dat Ty.int fu, .dat Ty.bool up, .dat Ty.int un, .dat Ty.int ug]) [])) := by kernel_rfl
theorem unit_Copy_w (ws : List Int) (fu : Int) (up : Bool) (un : Int) (ug : Int) (m : Nat) (K : V → List Blk → Prop) : goD Γ_unit_Copy tab fn_unit_Copy 0 K (m + 1) [.code (bodyOf fn_unit_Copy)] (initSt [.agg [.dat (Ty.list Ty.int) ws, .dat Ty.int fu, .dat Ty.bool up, .dat Ty.int un, .dat Ty.int ug]] []) = segD Γ_unit_Copy tab fn_unit_Copy 0 K (goD Γ_unit_Copy tab fn_unit_Copy 0 K m) [.code (bodyOf fn_unit_Copy)] (initSt [.agg [.dat (Ty.list Ty.int) ws, .dat Ty.int fu, .dat Ty.bool up, .dat Ty.int un, .dat Ty.int ug]] []) := rfl

set_option maxHeartbeats 4000000 in
theorem run_unit_Copy (ws : List Int) (fu : Int) (up : Bool) (un ug : Int) (hp : len ws * 8 ≤ 140737488355328) (K : V → List Blk → Prop) (hK : K (.agg [.dat (.list .int) ws, .dat .int fu, .dat .bool up, .dat .int un, .dat .int ug]) []) : ∃ m, goD Γ_unit_Copy tab fn_unit_Copy 0 K m [.code (bodyOf fn_unit_Copy)] (initSt [.agg [.dat (.list .int) ws, .dat .int fu, .dat .bool up, .dat .int un, .dat .int ug]] []) := by
  refine ⟨1, ?_⟩
  rw [unit_Copy_w, unit_Copy_vc _ _ _ _ _ _ _]
  exact ⟨hp, hK⟩
theorem sound_unit_Copy : SoundC Tryd.prog tab n_unit_Copy c_unit_Copy := soundC_of ok_unit_Copy hf_unit_Copy hB_unit_Copy (by
  intro vs bs p v bs' h hp
  unfold c_unit_Copy at h
  split at h
  · cases h
    exact ⟨by kernel_rfl, rfl, .inl (run_unit_Copy _ _ _ _ _ hp.1 _ ⟨rfl, rfl⟩)⟩
  · cases h)

def c_slot_Clear : Contract := fun vs bs => match vs, bs with
  | [.agg [.dat (.list .int) ws, .dat .int fu], .one (.dat .int slot)], [] => some (none, .tup [.agg [.dat (.list .int) (clearS ⟨ws, fu⟩ slot).1.words, .dat .int (clearS ⟨ws, fu⟩ slot).1.fuel], .one (.dat .int (clearS ⟨ws, fu⟩ slot).2)], [])
  | _, _ => none
def Γ_slot_Clear : Ctx := [(n_slot_check, c_slot_check), (n_flash_Copy, c_flash_Copy), (n_flash_Wipe, c_flash_Wipe)]
theorem ok_slot_Clear : Ok Tryd.prog tab Γ_slot_Clear := (((ok_nil.consC hf_flash_Wipe hB_flash_Wipe sound_flash_Wipe).consC hf_flash_Copy hB_flash_Copy sound_flash_Copy).consC hf_slot_check hB_slot_check sound_slot_check)
theorem slot_Clear_vc (ws : List Int) (fu : Int) (slot : Int) (rec : List It → St → Prop) (K : V → List Blk → Prop) v0 (hv0 : v0 = (checkSlot (⟨ws, fu⟩ : Flash) slot)) v1 (hv1 : v1 = (wipeCh (w64 ((2 : Int) + (w64 ((2 : Int) * slot)))))) v2 (hv2 : v2 = (doCh (⟨ws, fu⟩ : Flash) v1)) v3 (hv3 : v3 = (wipeCh (w64 ((3 : Int) + (w64 ((2 : Int) * slot)))))) v4 (hv4 : v4 = (doCh (⟨((v2).fst).words, ((v2).fst).fuel⟩ : Flash) v3)) : segD Γ_slot_Clear tab fn_slot_Clear 0 K rec [.code (bodyOf fn_slot_Clear)] (initSt [.agg [.dat (Ty.list Ty.int) ws, .dat Ty.int fu], .one (.dat Ty.int slot)] []) = (
    br (!(eqi v0 (0 : Int)))
     (K (.tup [.agg [.dat (Ty.list Ty.int) [], .dat Ty.int (0 : Int)], .one (.dat Ty.int v0)]) [])
     ((((len ws) * 8) ≤ 140737488355328) ∧
      ((((-(1 : Int)) ≤ fu) ∧ ((fu ≤ (100000 : Int)) ∧ (((0 : Int) ≤ (w64 ((2 : Int) + (w64 ((2 : Int) * slot))))) ∧ (((((w64 ((2 : Int) + (w64 ((2 : Int) * slot)))) + (1 : Int)) * (32 : Int)) ≤ (((len ws) : Nat) : Int)) ∧ ((len ws) ≤ 192))))) ∧
      (br (!(v2).snd)
       (K (.tup [.agg [.dat (Ty.list Ty.int) ((v2).fst).words, .dat Ty.int ((v2).fst).fuel], .one (.dat Ty.int (7 : Int))]) [])
       ((((-(1 : Int)) ≤ ((v2).fst).fuel) ∧ ((((v2).fst).fuel ≤ (100000 : Int)) ∧ (((0 : Int) ≤ (w64 ((3 : Int) + (w64 ((2 : Int) * slot))))) ∧ (((((w64 ((3 : Int) + (w64 ((2 : Int) * slot)))) + (1 : Int)) * (32 : Int)) ≤ (((len ((v2).fst).words) : Nat) : Int)) ∧ ((len ((v2).fst).words) ≤ 192))))) ∧
        (br (!(v4).snd)
         (K (.tup [.agg [.dat (Ty.list Ty.int) ((v4).fst).words, .dat Ty.int ((v4).fst).fuel], .one (.dat Ty.int (7 : Int))]) [])
         (K (.tup [.agg [.dat (Ty.list Ty.int) ((v4).fst).words, .dat Ty.int ((v4).fst).fuel], .one (.dat Ty.int (0 : Int))]) []))))))) := by subst hv4; subst hv3; subst hv2; subst hv1; subst hv0; kernel_rfl
theorem slot_Clear_w (ws : List Int) (fu : Int) (slot : Int) (m : Nat) (K : V → List Blk → Prop) : goD Γ_slot_Clear tab fn_slot_Clear 0 K (m + 1) [.code (bodyOf fn_slot_Clear)] (initSt [.agg [.dat (Ty.list Ty.int) ws, .dat Ty.int fu], .one (.dat Ty.int slot)] []) = segD Γ_slot_Clear tab fn_slot_Clear 0 K (goD Γ_slot_Clear tab fn_slot_Clear 0 K m) [.code (bodyOf fn_slot_Clear)] (initSt [.agg [.dat (Ty.list Ty.int) ws, .dat Ty.int fu], .one (.dat Ty.int slot)] []) := rfl

set_option maxHeartbeats 4000000 in
theorem run_slot_Clear (ws : List Int) (fu slot : Int) (K : V → List Blk → Prop) (hK : K (.tup [.agg [.dat (.list .int) (clearS ⟨ws, fu⟩ slot).1.words, .dat .int (clearS ⟨ws, fu⟩ slot).1.fuel], .one (.dat .int (clearS ⟨ws, fu⟩ slot).2)]) []) : ∃ m, goD Γ_slot_Clear tab fn_slot_Clear 0 K m [.code (bodyOf fn_slot_Clear)] (initSt [.agg [.dat (.list .int) ws, .dat .int fu], .one (.dat .int slot)] []) := by
  refine ⟨1, ?_⟩
  rw [slot_Clear_w, slot_Clear_vc _ _ _ _ _ _ rfl _ rfl _ rfl _ rfl _ rfl]
  unfold clearS at hK
  refine ne_s (fun h => ?_) (fun h => ?_)
  · rw [if_neg h] at hK; exact hK
  rw [if_pos h] at hK
  obtain ⟨h1, h2, h3⟩ := checkSlot_ok h
  obtain ⟨c1, c2, c3, c4⟩ := checkFlash_ok h1
  simp only at c2 c3 h2
  rw [w64_id (n := 2 * slot) (by omega) (by omega), w64_id (n := 2 + 2 * slot) (by omega) (by omega), w64_id (n := 3 + 2 * slot) (by omega) (by omega)]
  unfold clearCh at hK
  rw [doCh_append] at hK
  have hf := doCh_fuel ⟨ws, fu⟩ (wipeCh (2 + 2 * slot)) c2 c3
  have hl := doCh_len ⟨ws, fu⟩ (wipeCh (2 + 2 * slot))
  simp only [len] at hl ⊢
  refine ⟨by omega, ⟨c2, c3, by omega, by omega, by omega⟩, nt_s (fun h5 => ?_) (fun h5 => ⟨⟨hf.1, hf.2, by omega, by omega, by omega⟩, nt_s (fun h6 => ?_) (fun h6 => ?_)⟩)⟩
  · rw [if_neg (by simp [h5])] at hK
    simp only [power, powerE, h5] at hK; exact hK
  · rw [if_pos h5] at hK
    simp only [power, powerE, h6] at hK; exact hK
  · rw [if_pos h5] at hK
    simp only [power, powerE, h6] at hK; exact hK
theorem sound_slot_Clear : SoundC Tryd.prog tab n_slot_Clear c_slot_Clear := soundC_of ok_slot_Clear hf_slot_Clear hB_slot_Clear (by
  intro vs bs p v bs' h hp
  unfold c_slot_Clear at h
  split at h
  · cases h
    exact ⟨by kernel_rfl, rfl, .inl (run_slot_Clear _ _ _ _ ⟨rfl, rfl⟩)⟩
  · cases h)

def c_unit_down : Contract := fun vs bs => match vs, bs with
  | [.one (.ptr 0 0)], [.box [.dat (.list .int) ws, .dat .int fu, .dat .bool up, .dat .int un, .dat .int ug]] => some (none, .tup [], [.box [.dat (.list .int) (downU ⟨⟨ws, fu⟩, up, un, ug⟩).f.words, .dat .int (downU ⟨⟨ws, fu⟩, up, un, ug⟩).f.fuel, .dat .bool (downU ⟨⟨ws, fu⟩, up, un, ug⟩).up, .dat .int (downU ⟨⟨ws, fu⟩, up, un, ug⟩).n, .dat .int (downU ⟨⟨ws, fu⟩, up, un, ug⟩).got]])
  | _, _ => none
def Γ_unit_down : Ctx := []
theorem ok_unit_down : Ok Tryd.prog tab Γ_unit_down := ok_nil
theorem unit_down_vc (ws : List Int) (fu : Int) (up : Bool) (un : Int) (ug : Int) (rec : List It → St → Prop) (K : V → List Blk → Prop) : segD Γ_unit_down tab fn_unit_down 1 K rec [.code (bodyOf fn_unit_down)] (initSt [.one (.ptr 0 0)] [.box [.dat (Ty.list Ty.int) ws, .dat Ty.int fu, .dat Ty.bool up, .dat Ty.int un, .dat Ty.int ug]]) = (
    K (.tup []) [.box [.dat (Ty.list Ty.int) ws, .dat Ty.int fu, .dat Ty.bool false, .dat Ty.int (0 : Int), .dat Ty.int (0 : Int)]]) := by kernel_rfl
theorem unit_down_w (ws : List Int) (fu : Int) (up : Bool) (un : Int) (ug : Int) (m : Nat) (K : V → List Blk → Prop) : goD Γ_unit_down tab fn_unit_down 1 K (m + 1) [.code (bodyOf fn_unit_down)] (initSt [.one (.ptr 0 0)] [.box [.dat (Ty.list Ty.int) ws, .dat Ty.int fu, .dat Ty.bool up, .dat Ty.int un, .dat Ty.int ug]]) = segD Γ_unit_down tab fn_unit_down 1 K (goD Γ_unit_down tab fn_unit_down 1 K m) [.code (bodyOf fn_unit_down)] (initSt [.one (.ptr 0 0)] [.box [.dat (Ty.list Ty.int) ws, .dat Ty.int fu, .dat Ty.bool up, .dat Ty.int un, .dat Ty.int ug]]) := rfl

set_option maxHeartbeats 4000000 in
theorem run_unit_down (ws : List Int) (fu : Int) (up : Bool) (un ug : Int) (K : V → List Blk → Prop) (hK : K (.tup []) [.box [.dat (.list .int) (downU ⟨⟨ws, fu⟩, up, un, ug⟩).f.words, .dat .int (downU ⟨⟨ws, fu⟩, up, un, ug⟩).f.fuel, .dat .bool (downU ⟨⟨ws, fu⟩, up, un, ug⟩).up, .dat .int (downU ⟨⟨ws, fu⟩, up, un, ug⟩).n, .dat .int (downU ⟨⟨ws, fu⟩, up, un, ug⟩).got]]) : ∃ m, goD Γ_unit_down tab fn_unit_down 1 K m [.code (bodyOf fn_unit_down)] (initSt [.one (.ptr 0 0)] [.box [.dat (.list .int) ws, .dat .int fu, .dat .bool up, .dat .int un, .dat .int ug]]) := by
  refine ⟨1, ?_⟩
  rw [unit_down_w, unit_down_vc _ _ _ _ _ _ _]
  exact hK
theorem sound_unit_down : SoundC Tryd.prog tab n_unit_down c_unit_down := soundC_of ok_unit_down hf_unit_down hB_unit_down (by
  intro vs bs p v bs' h hp
  unfold c_unit_down at h
  split at h
  · cases h
    exact ⟨by kernel_rfl, rfl, .inl (run_unit_down _ _ _ _ _ _ ⟨rfl, rfl⟩)⟩
  · cases h)

def c_unit_change : Contract := fun vs bs => match vs, bs with
  | [.one (.ptr 0 0), .agg [.dat (.list .int) gs, .dat .int gf], .one (.dat .int e)], [.box [.dat (.list .int) ws, .dat .int fu, .dat .bool up, .dat .int un, .dat .int ug]] => some (none, .one (.dat .bool (changeU ⟨⟨ws, fu⟩, up, un, ug⟩ ⟨gs, gf⟩ e).2), [.box [.dat (.list .int) (changeU ⟨⟨ws, fu⟩, up, un, ug⟩ ⟨gs, gf⟩ e).1.f.words, .dat .int (changeU ⟨⟨ws, fu⟩, up, un, ug⟩ ⟨gs, gf⟩ e).1.f.fuel, .dat .bool (changeU ⟨⟨ws, fu⟩, up, un, ug⟩ ⟨gs, gf⟩ e).1.up, .dat .int (changeU ⟨⟨ws, fu⟩, up, un, ug⟩ ⟨gs, gf⟩ e).1.n, .dat .int (changeU ⟨⟨ws, fu⟩, up, un, ug⟩ ⟨gs, gf⟩ e).1.got]])
  | _, _ => none
def Γ_unit_change : Ctx := [(n_unit_down, c_unit_down)]
theorem ok_unit_change : Ok Tryd.prog tab Γ_unit_change := (ok_nil.consC hf_unit_down hB_unit_down sound_unit_down)
theorem unit_change_vc (ws : List Int) (fu : Int) (up : Bool) (un : Int) (ug : Int) (gs : List Int) (gf : Int) (e : Int) (rec : List It → St → Prop) (K : V → List Blk → Prop) : segD Γ_unit_change tab fn_unit_change 1 K rec [.code (bodyOf fn_unit_change)] (initSt [.one (.ptr 0 0), .agg [.dat (Ty.list Ty.int) gs, .dat Ty.int gf], .one (.dat Ty.int e)] [.box [.dat (Ty.list Ty.int) ws, .dat Ty.int fu, .dat Ty.bool up, .dat Ty.int un, .dat Ty.int ug]]) = (
    br (eqi e (0 : Int))
     (K (.one (.dat Ty.bool true)) [.box [.dat (Ty.list Ty.int) gs, .dat Ty.int gf, .dat Ty.bool up, .dat Ty.int un, .dat Ty.int ug]])
     (br (eqi e (7 : Int))
       (K (.one (.dat Ty.bool false)) [.box [.dat (Ty.list Ty.int) gs, .dat Ty.int gf, .dat Ty.bool false, .dat Ty.int (0 : Int), .dat Ty.int (0 : Int)]])
       (K (.one (.dat Ty.bool false)) [.box [.dat (Ty.list Ty.int) ws, .dat Ty.int fu, .dat Ty.bool up, .dat Ty.int un, .dat Ty.int ug]]))) := by kernel_rfl
theorem unit_change_w (ws : List Int) (fu : Int) (up : Bool) (un : Int) (ug : Int) (gs : List Int) (gf : Int) (e : Int) (m : Nat) (K : V → List Blk → Prop) : goD Γ_unit_change tab fn_unit_change 1 K (m + 1) [.code (bodyOf fn_unit_change)] (initSt [.one (.ptr 0 0), .agg [.dat (Ty.list Ty.int) gs, .dat Ty.int gf], .one (.dat Ty.int e)] [.box [.dat (Ty.list Ty.int) ws, .dat Ty.int fu, .dat Ty.bool up, .dat Ty.int un, .dat Ty.int ug]]) = segD Γ_unit_change tab fn_unit_change 1 K (goD Γ_unit_change tab fn_unit_change 1 K m) [.code (bodyOf fn_unit_change)] (initSt [.one (.ptr 0 0), .agg [.dat (Ty.list Ty.int) gs, .dat Ty.int gf], .one (.dat Ty.int e)] [.box [.dat (Ty.list Ty.int) ws, .dat Ty.int fu, .dat Ty.bool up, .dat Ty.int un, .dat Ty.int ug]]) := rfl

set_option maxHeartbeats 4000000 in
theorem run_unit_change (ws : List Int) (fu : Int) (up : Bool) (un ug : Int) (gs : List Int) (gf e : Int) (K : V → List Blk → Prop) (hK : K (.one (.dat .bool (changeU ⟨⟨ws, fu⟩, up, un, ug⟩ ⟨gs, gf⟩ e).2)) [.box [.dat (.list .int) (changeU ⟨⟨ws, fu⟩, up, un, ug⟩ ⟨gs, gf⟩ e).1.f.words, .dat .int (changeU ⟨⟨ws, fu⟩, up, un, ug⟩ ⟨gs, gf⟩ e).1.f.fuel, .dat .bool (changeU ⟨⟨ws, fu⟩, up, un, ug⟩ ⟨gs, gf⟩ e).1.up, .dat .int (changeU ⟨⟨ws, fu⟩, up, un, ug⟩ ⟨gs, gf⟩ e).1.n, .dat .int (changeU ⟨⟨ws, fu⟩, up, un, ug⟩ ⟨gs, gf⟩ e).1.got]]) : ∃ m, goD Γ_unit_change tab fn_unit_change 1 K m [.code (bodyOf fn_unit_change)] (initSt [.one (.ptr 0 0), .agg [.dat (.list .int) gs, .dat .int gf], .one (.dat .int e)] [.box [.dat (.list .int) ws, .dat .int fu, .dat .bool up, .dat .int un, .dat .int ug]]) := by
  refine ⟨1, ?_⟩
  rw [unit_change_w, unit_change_vc _ _ _ _ _ _ _ _ _ _]
  unfold changeU at hK
  refine eq_s (fun h => ?_) (fun h => eq_s (fun h2 => ?_) (fun h2 => ?_))
  · rw [if_pos h] at hK; exact hK
  · rw [if_neg h, if_pos h2] at hK; exact hK
  · rw [if_neg h, if_neg h2] at hK; exact hK
theorem sound_unit_change : SoundC Tryd.prog tab n_unit_change c_unit_change := soundC_of ok_unit_change hf_unit_change hB_unit_change (by
  intro vs bs p v bs' h hp
  unfold c_unit_change at h
  split at h
  · cases h
    exact ⟨by kernel_rfl, rfl, .inl (run_unit_change _ _ _ _ _ _ _ _ _ ⟨rfl, rfl⟩)⟩
  · cases h)

def c_unit_piece : Contract := fun vs bs => match vs, bs with
  | [.one (.ptr 0 0), .agg [.dat .int so, .dat .int sb, .dat .int sr], .agg [.dat .int mk, .dat .int mu, .dat .int mn, .dat .int ma, .dat .int mi, .dat (.list .int) mw, .dat .bool my]], [.box [.dat (.list .int) ws, .dat .int fu, .dat .bool up, .dat .int un, .dat .int ug]] => some (some (0 ≤ so ∧ so ≤ 1 ∧ 0 ≤ ma ∧ ma ≤ 40 ∧ len mw ≤ 8), .tup [], [.box [.dat (.list .int) (pieceU ⟨⟨ws, fu⟩, up, un, ug⟩ ⟨so, sb, sr⟩ ⟨mk, mu, mn, ma, mi, mw, my⟩).f.words, .dat .int (pieceU ⟨⟨ws, fu⟩, up, un, ug⟩ ⟨so, sb, sr⟩ ⟨mk, mu, mn, ma, mi, mw, my⟩).f.fuel, .dat .bool (pieceU ⟨⟨ws, fu⟩, up, un, ug⟩ ⟨so, sb, sr⟩ ⟨mk, mu, mn, ma, mi, mw, my⟩).up, .dat .int (pieceU ⟨⟨ws, fu⟩, up, un, ug⟩ ⟨so, sb, sr⟩ ⟨mk, mu, mn, ma, mi, mw, my⟩).n, .dat .int (pieceU ⟨⟨ws, fu⟩, up, un, ug⟩ ⟨so, sb, sr⟩ ⟨mk, mu, mn, ma, mi, mw, my⟩).got]])
  | _, _ => none
def Γ_unit_piece : Ctx := [(n_slot_Clear, c_slot_Clear), (n_slot_Fill, c_slot_Fill), (n_unit_change, c_unit_change)]
theorem ok_unit_piece : Ok Tryd.prog tab Γ_unit_piece := (((ok_nil.consC hf_unit_change hB_unit_change sound_unit_change).consC hf_slot_Fill hB_slot_Fill sound_slot_Fill).consC hf_slot_Clear hB_slot_Clear sound_slot_Clear)
theorem unit_piece_vc (ws : List Int) (fu : Int) (up : Bool) (un : Int) (ug : Int) (so : Int) (sb : Int) (sr : Int) (mk : Int) (mu : Int) (mn : Int) (ma : Int) (mi : Int) (mw : List Int) (my : Bool) (rec : List It → St → Prop) (K : V → List Blk → Prop) v0 (hv0 : v0 = (clearS (⟨ws, fu⟩ : Vm.Flash) (w64 ((1 : Int) - so)))) v1 (hv1 : v1 = (changeU (⟨(⟨ws, fu⟩ : Vm.Flash), up, un, ug⟩ : Vm.UnitD) (⟨((v0).fst).words, ((v0).fst).fuel⟩ : Vm.Flash) (v0).snd)) v2 (hv2 : v2 = (fillS (⟨(((v1).fst).f).words, (((v1).fst).f).fuel⟩ : Vm.Flash) (w64 ((1 : Int) - so)) ma mw)) v3 (hv3 : v3 = (changeU (⟨(⟨(((v1).fst).f).words, (((v1).fst).f).fuel⟩ : Vm.Flash), ((v1).fst).up, mn, (0 : Int)⟩ : Vm.UnitD) (⟨((v2).fst).words, ((v2).fst).fuel⟩ : Vm.Flash) (v2).snd)) v4 (hv4 : v4 = (fillS (⟨ws, fu⟩ : Vm.Flash) (w64 ((1 : Int) - so)) ma mw)) v5 (hv5 : v5 = (changeU (⟨(⟨ws, fu⟩ : Vm.Flash), up, un, ug⟩ : Vm.UnitD) (⟨((v4).fst).words, ((v4).fst).fuel⟩ : Vm.Flash) (v4).snd)) : segD Γ_unit_piece tab fn_unit_piece 1 K rec [.code (bodyOf fn_unit_piece)] (initSt [.one (.ptr 0 0), .agg [.dat Ty.int so, .dat Ty.int sb, .dat Ty.int sr], .agg [.dat Ty.int mk, .dat Ty.int mu, .dat Ty.int mn, .dat Ty.int ma, .dat Ty.int mi, .dat (Ty.list Ty.int) mw, .dat Ty.bool my]] [.box [.dat (Ty.list Ty.int) ws, .dat Ty.int fu, .dat Ty.bool up, .dat Ty.int un, .dat Ty.int ug]]) = (
    br (lti (0 : Int) sr)
     (K (.tup []) [.box [.dat (Ty.list Ty.int) ws, .dat Ty.int fu, .dat Ty.bool up, .dat Ty.int un, .dat Ty.int ug]])
     (br (lei mn sb)
       (K (.tup []) [.box [.dat (Ty.list Ty.int) ws, .dat Ty.int fu, .dat Ty.bool up, .dat Ty.int un, .dat Ty.int ug]])
       (br (lti (8 : Int) mn)
         (K (.tup []) [.box [.dat (Ty.list Ty.int) ws, .dat Ty.int fu, .dat Ty.bool up, .dat Ty.int un, .dat Ty.int ug]])
         (br (eqi ma (0 : Int))
           (br (!(eqi un mn))
             (br (!(v1).snd)
               (K (.tup []) [.box [.dat (Ty.list Ty.int) (((v1).fst).f).words, .dat Ty.int (((v1).fst).f).fuel, .dat Ty.bool ((v1).fst).up, .dat Ty.int ((v1).fst).n, .dat Ty.int ((v1).fst).got]])
               (br (!(eqi mn mn))
                 (K (.tup []) [.box [.dat (Ty.list Ty.int) (((v1).fst).f).words, .dat Ty.int (((v1).fst).f).fuel, .dat Ty.bool ((v1).fst).up, .dat Ty.int mn, .dat Ty.int (0 : Int)]])
                 (br (!(eqi (0 : Int) ma))
                   (K (.tup []) [.box [.dat (Ty.list Ty.int) (((v1).fst).f).words, .dat Ty.int (((v1).fst).f).fuel, .dat Ty.bool ((v1).fst).up, .dat Ty.int mn, .dat Ty.int (0 : Int)]])
                   (br (lti (40 : Int) (w64 (ma + (((len mw) : Nat) : Int))))
                     (K (.tup []) [.box [.dat (Ty.list Ty.int) (((v1).fst).f).words, .dat Ty.int (((v1).fst).f).fuel, .dat Ty.bool ((v1).fst).up, .dat Ty.int mn, .dat Ty.int (0 : Int)]])
                     (((List.length mw) ≤ 140737488355328) ∧
                      (br (v3).snd
                       (K (.tup []) [.box [.dat (Ty.list Ty.int) (((v3).fst).f).words, .dat Ty.int (((v3).fst).f).fuel, .dat Ty.bool ((v3).fst).up, .dat Ty.int ((v3).fst).n, .dat Ty.int (w64 (((v3).fst).got + (((len mw) : Nat) : Int)))]])
                       (K (.tup []) [.box [.dat (Ty.list Ty.int) (((v3).fst).f).words, .dat Ty.int (((v3).fst).f).fuel, .dat Ty.bool ((v3).fst).up, .dat Ty.int ((v3).fst).n, .dat Ty.int ((v3).fst).got]])))))))
             (br (eqi ug (0 : Int))
               (br (!(v1).snd)
                 (K (.tup []) [.box [.dat (Ty.list Ty.int) (((v1).fst).f).words, .dat Ty.int (((v1).fst).f).fuel, .dat Ty.bool ((v1).fst).up, .dat Ty.int ((v1).fst).n, .dat Ty.int ((v1).fst).got]])
                 (br (!(eqi mn mn))
                   (K (.tup []) [.box [.dat (Ty.list Ty.int) (((v1).fst).f).words, .dat Ty.int (((v1).fst).f).fuel, .dat Ty.bool ((v1).fst).up, .dat Ty.int mn, .dat Ty.int (0 : Int)]])
                   (br (!(eqi (0 : Int) ma))
                     (K (.tup []) [.box [.dat (Ty.list Ty.int) (((v1).fst).f).words, .dat Ty.int (((v1).fst).f).fuel, .dat Ty.bool ((v1).fst).up, .dat Ty.int mn, .dat Ty.int (0 : Int)]])
                     (br (lti (40 : Int) (w64 (ma + (((len mw) : Nat) : Int))))
                       (K (.tup []) [.box [.dat (Ty.list Ty.int) (((v1).fst).f).words, .dat Ty.int (((v1).fst).f).fuel, .dat Ty.bool ((v1).fst).up, .dat Ty.int mn, .dat Ty.int (0 : Int)]])
                       (((List.length mw) ≤ 140737488355328) ∧
                        (br (v3).snd
                         (K (.tup []) [.box [.dat (Ty.list Ty.int) (((v3).fst).f).words, .dat Ty.int (((v3).fst).f).fuel, .dat Ty.bool ((v3).fst).up, .dat Ty.int ((v3).fst).n, .dat Ty.int (w64 (((v3).fst).got + (((len mw) : Nat) : Int)))]])
                         (K (.tup []) [.box [.dat (Ty.list Ty.int) (((v3).fst).f).words, .dat Ty.int (((v3).fst).f).fuel, .dat Ty.bool ((v3).fst).up, .dat Ty.int ((v3).fst).n, .dat Ty.int ((v3).fst).got]])))))))
               (br (!(eqi un mn))
                 (K (.tup []) [.box [.dat (Ty.list Ty.int) ws, .dat Ty.int fu, .dat Ty.bool up, .dat Ty.int un, .dat Ty.int ug]])
                 (br (!(eqi ug ma))
                   (K (.tup []) [.box [.dat (Ty.list Ty.int) ws, .dat Ty.int fu, .dat Ty.bool up, .dat Ty.int un, .dat Ty.int ug]])
                   (br (lti (40 : Int) (w64 (ma + (((len mw) : Nat) : Int))))
                     (K (.tup []) [.box [.dat (Ty.list Ty.int) ws, .dat Ty.int fu, .dat Ty.bool up, .dat Ty.int un, .dat Ty.int ug]])
                     (((List.length mw) ≤ 140737488355328) ∧
                      (br (v5).snd
                       (K (.tup []) [.box [.dat (Ty.list Ty.int) (((v5).fst).f).words, .dat Ty.int (((v5).fst).f).fuel, .dat Ty.bool ((v5).fst).up, .dat Ty.int ((v5).fst).n, .dat Ty.int (w64 (((v5).fst).got + (((len mw) : Nat) : Int)))]])
                       (K (.tup []) [.box [.dat (Ty.list Ty.int) (((v5).fst).f).words, .dat Ty.int (((v5).fst).f).fuel, .dat Ty.bool ((v5).fst).up, .dat Ty.int ((v5).fst).n, .dat Ty.int ((v5).fst).got]]))))))))
           (br (!(eqi un mn))
             (K (.tup []) [.box [.dat (Ty.list Ty.int) ws, .dat Ty.int fu, .dat Ty.bool up, .dat Ty.int un, .dat Ty.int ug]])
             (br (!(eqi ug ma))
               (K (.tup []) [.box [.dat (Ty.list Ty.int) ws, .dat Ty.int fu, .dat Ty.bool up, .dat Ty.int un, .dat Ty.int ug]])
               (br (lti (40 : Int) (w64 (ma + (((len mw) : Nat) : Int))))
                 (K (.tup []) [.box [.dat (Ty.list Ty.int) ws, .dat Ty.int fu, .dat Ty.bool up, .dat Ty.int un, .dat Ty.int ug]])
                 (((List.length mw) ≤ 140737488355328) ∧
                  (br (v5).snd
                   (K (.tup []) [.box [.dat (Ty.list Ty.int) (((v5).fst).f).words, .dat Ty.int (((v5).fst).f).fuel, .dat Ty.bool ((v5).fst).up, .dat Ty.int ((v5).fst).n, .dat Ty.int (w64 (((v5).fst).got + (((len mw) : Nat) : Int)))]])
                   (K (.tup []) [.box [.dat (Ty.list Ty.int) (((v5).fst).f).words, .dat Ty.int (((v5).fst).f).fuel, .dat Ty.bool ((v5).fst).up, .dat Ty.int ((v5).fst).n, .dat Ty.int ((v5).fst).got]])))))))))) := by subst hv5; subst hv4; subst hv3; subst hv2; subst hv1; subst hv0; kernel_rfl
theorem unit_piece_w (ws : List Int) (fu : Int) (up : Bool) (un : Int) (ug : Int) (so : Int) (sb : Int) (sr : Int) (mk : Int) (mu : Int) (mn : Int) (ma : Int) (mi : Int) (mw : List Int) (my : Bool) (m : Nat) (K : V → List Blk → Prop) : goD Γ_unit_piece tab fn_unit_piece 1 K (m + 1) [.code (bodyOf fn_unit_piece)] (initSt [.one (.ptr 0 0), .agg [.dat Ty.int so, .dat Ty.int sb, .dat Ty.int sr], .agg [.dat Ty.int mk, .dat Ty.int mu, .dat Ty.int mn, .dat Ty.int ma, .dat Ty.int mi, .dat (Ty.list Ty.int) mw, .dat Ty.bool my]] [.box [.dat (Ty.list Ty.int) ws, .dat Ty.int fu, .dat Ty.bool up, .dat Ty.int un, .dat Ty.int ug]]) = segD Γ_unit_piece tab fn_unit_piece 1 K (goD Γ_unit_piece tab fn_unit_piece 1 K m) [.code (bodyOf fn_unit_piece)] (initSt [.one (.ptr 0 0), .agg [.dat Ty.int so, .dat Ty.int sb, .dat Ty.int sr], .agg [.dat Ty.int mk, .dat Ty.int mu, .dat Ty.int mn, .dat Ty.int ma, .dat Ty.int mi, .dat (Ty.list Ty.int) mw, .dat Ty.bool my]] [.box [.dat (Ty.list Ty.int) ws, .dat Ty.int fu, .dat Ty.bool up, .dat Ty.int un, .dat Ty.int ug]]) := rfl

theorem unit_fill (K : V → List Blk → Prop) (ws : List Int) (fu : Int) (up : Bool) (un ug so sb sr mk mu mn ma mi : Int) (mw : List Int) (my : Bool) (hs : 0 ≤ so ∧ so ≤ 1) (ha : 0 ≤ ma ∧ ma ≤ 40) (hw : len mw ≤ 8)
    (hK : K (.tup []) [.box [.dat (.list .int) (fillU ⟨⟨ws, fu⟩, up, un, ug⟩ ⟨so, sb, sr⟩ ⟨mk, mu, mn, ma, mi, mw, my⟩).f.words, .dat .int (fillU ⟨⟨ws, fu⟩, up, un, ug⟩ ⟨so, sb, sr⟩ ⟨mk, mu, mn, ma, mi, mw, my⟩).f.fuel, .dat .bool (fillU ⟨⟨ws, fu⟩, up, un, ug⟩ ⟨so, sb, sr⟩ ⟨mk, mu, mn, ma, mi, mw, my⟩).up, .dat .int (fillU ⟨⟨ws, fu⟩, up, un, ug⟩ ⟨so, sb, sr⟩ ⟨mk, mu, mn, ma, mi, mw, my⟩).n, .dat .int (fillU ⟨⟨ws, fu⟩, up, un, ug⟩ ⟨so, sb, sr⟩ ⟨mk, mu, mn, ma, mi, mw, my⟩).got]]) :
    br (!(eqi un mn))
      (K (.tup []) [.box [.dat (.list .int) ws, .dat .int fu, .dat .bool up, .dat .int un, .dat .int ug]])
      (br (!(eqi ug ma))
        (K (.tup []) [.box [.dat (.list .int) ws, .dat .int fu, .dat .bool up, .dat .int un, .dat .int ug]])
        (br (lti 40 (w64 (ma + ((len mw : Nat) : Int))))
          (K (.tup []) [.box [.dat (.list .int) ws, .dat .int fu, .dat .bool up, .dat .int un, .dat .int ug]])
          ((List.length mw ≤ 140737488355328) ∧
            br (changeU ⟨⟨ws, fu⟩, up, un, ug⟩ (fillS ⟨ws, fu⟩ (w64 (1 - so)) ma mw).1 (fillS ⟨ws, fu⟩ (w64 (1 - so)) ma mw).2).2
              (K (.tup []) [.box [.dat (.list .int) (changeU ⟨⟨ws, fu⟩, up, un, ug⟩ (fillS ⟨ws, fu⟩ (w64 (1 - so)) ma mw).1 (fillS ⟨ws, fu⟩ (w64 (1 - so)) ma mw).2).1.f.words, .dat .int (changeU ⟨⟨ws, fu⟩, up, un, ug⟩ (fillS ⟨ws, fu⟩ (w64 (1 - so)) ma mw).1 (fillS ⟨ws, fu⟩ (w64 (1 - so)) ma mw).2).1.f.fuel, .dat .bool (changeU ⟨⟨ws, fu⟩, up, un, ug⟩ (fillS ⟨ws, fu⟩ (w64 (1 - so)) ma mw).1 (fillS ⟨ws, fu⟩ (w64 (1 - so)) ma mw).2).1.up, .dat .int (changeU ⟨⟨ws, fu⟩, up, un, ug⟩ (fillS ⟨ws, fu⟩ (w64 (1 - so)) ma mw).1 (fillS ⟨ws, fu⟩ (w64 (1 - so)) ma mw).2).1.n, .dat .int (w64 ((changeU ⟨⟨ws, fu⟩, up, un, ug⟩ (fillS ⟨ws, fu⟩ (w64 (1 - so)) ma mw).1 (fillS ⟨ws, fu⟩ (w64 (1 - so)) ma mw).2).1.got + ((len mw : Nat) : Int)))]])
              (K (.tup []) [.box [.dat (.list .int) (changeU ⟨⟨ws, fu⟩, up, un, ug⟩ (fillS ⟨ws, fu⟩ (w64 (1 - so)) ma mw).1 (fillS ⟨ws, fu⟩ (w64 (1 - so)) ma mw).2).1.f.words, .dat .int (changeU ⟨⟨ws, fu⟩, up, un, ug⟩ (fillS ⟨ws, fu⟩ (w64 (1 - so)) ma mw).1 (fillS ⟨ws, fu⟩ (w64 (1 - so)) ma mw).2).1.f.fuel, .dat .bool (changeU ⟨⟨ws, fu⟩, up, un, ug⟩ (fillS ⟨ws, fu⟩ (w64 (1 - so)) ma mw).1 (fillS ⟨ws, fu⟩ (w64 (1 - so)) ma mw).2).1.up, .dat .int (changeU ⟨⟨ws, fu⟩, up, un, ug⟩ (fillS ⟨ws, fu⟩ (w64 (1 - so)) ma mw).1 (fillS ⟨ws, fu⟩ (w64 (1 - so)) ma mw).2).1.n, .dat .int (changeU ⟨⟨ws, fu⟩, up, un, ug⟩ (fillS ⟨ws, fu⟩ (w64 (1 - so)) ma mw).1 (fillS ⟨ws, fu⟩ (w64 (1 - so)) ma mw).2).1.got]])))) := by
  have hl : mw.length ≤ 8 := hw
  rw [w64_id (n := 1 - so) (by omega) (by omega), w64_id (n := ma + ((len mw : Nat) : Int)) (by simp only [len]; omega) (by simp only [len]; omega)]
  unfold fillU at hK
  simp only at hK
  refine ne_s (fun h => ?_) (fun h => ne_s (fun h2 => ?_) (fun h2 => lt_s (fun h3 => ?_) (fun h3 => ⟨by omega, br_split (fun h4 => ?_) (fun h4 => ?_)⟩)))
  · rw [if_pos (.inl h)] at hK; exact hK
  · rw [if_pos (.inr (.inl h2))] at hK; exact hK
  · rw [if_pos (.inr (.inr (by simp only [len] at h3; omega)))] at hK; exact hK
  · rw [if_neg (by simp only [len] at h3; omega)] at hK
    have e : fillC ⟨⟨ws, fu⟩, up, un, ug⟩ ⟨so, sb, sr⟩ ⟨mk, mu, mn, ma, mi, mw, my⟩ = changeU ⟨⟨ws, fu⟩, up, un, ug⟩ (fillS ⟨ws, fu⟩ (1 - so) ma mw).1 (fillS ⟨ws, fu⟩ (1 - so) ma mw).2 := rfl
    rw [e, if_pos h4] at hK
    have hg : (changeU ⟨⟨ws, fu⟩, up, un, ug⟩ (fillS ⟨ws, fu⟩ (1 - so) ma mw).1 (fillS ⟨ws, fu⟩ (1 - so) ma mw).2).1.got = ug := by rw [(changeU_true h4).2]
    rw [w64_id (by simp only [len]; omega) (by simp only [len]; omega)]
    exact hK
  · rw [if_neg (by simp only [len] at h3; omega)] at hK
    have e : fillC ⟨⟨ws, fu⟩, up, un, ug⟩ ⟨so, sb, sr⟩ ⟨mk, mu, mn, ma, mi, mw, my⟩ = changeU ⟨⟨ws, fu⟩, up, un, ug⟩ (fillS ⟨ws, fu⟩ (1 - so) ma mw).1 (fillS ⟨ws, fu⟩ (1 - so) ma mw).2 := rfl
    rw [e, if_neg (by rw [h4]; simp)] at hK
    exact hK
set_option maxHeartbeats 4000000 in
theorem run_unit_piece (ws : List Int) (fu : Int) (up : Bool) (un ug : Int)(so sb sr : Int)(mk mu mn ma mi : Int) (mw : List Int) (my : Bool) (hp : 0 ≤ so ∧ so ≤ 1 ∧ 0 ≤ ma ∧ ma ≤ 40 ∧ len mw ≤ 8) (K : V → List Blk → Prop) (hK : K (.tup []) [.box [.dat (.list .int) (pieceU ⟨⟨ws, fu⟩, up, un, ug⟩ ⟨so, sb, sr⟩ ⟨mk, mu, mn, ma, mi, mw, my⟩).f.words, .dat .int (pieceU ⟨⟨ws, fu⟩, up, un, ug⟩ ⟨so, sb, sr⟩ ⟨mk, mu, mn, ma, mi, mw, my⟩).f.fuel, .dat .bool (pieceU ⟨⟨ws, fu⟩, up, un, ug⟩ ⟨so, sb, sr⟩ ⟨mk, mu, mn, ma, mi, mw, my⟩).up, .dat .int (pieceU ⟨⟨ws, fu⟩, up, un, ug⟩ ⟨so, sb, sr⟩ ⟨mk, mu, mn, ma, mi, mw, my⟩).n, .dat .int (pieceU ⟨⟨ws, fu⟩, up, un, ug⟩ ⟨so, sb, sr⟩ ⟨mk, mu, mn, ma, mi, mw, my⟩).got]]) : ∃ m, goD Γ_unit_piece tab fn_unit_piece 1 K m [.code (bodyOf fn_unit_piece)] (initSt [.one (.ptr 0 0), .agg [.dat .int so, .dat .int sb, .dat .int sr], .agg [.dat .int mk, .dat .int mu, .dat .int mn, .dat .int ma, .dat .int mi, .dat (.list .int) mw, .dat .bool my]] [.box [.dat (.list .int) ws, .dat .int fu, .dat .bool up, .dat .int un, .dat .int ug]]) := by
  refine ⟨1, ?_⟩
  rw [unit_piece_w, unit_piece_vc _ _ _ _ _ _ _ _ _ _ _ _ _ _ _ _ _ _ rfl _ rfl _ rfl _ rfl _ rfl _ rfl]
  obtain ⟨p1, p2, p3, p4, p5⟩ := hp
  have fill := unit_fill K ws fu up un ug so sb sr mk mu mn ma mi mw my ⟨p1, p2⟩ ⟨p3, p4⟩ p5
  unfold pieceU at hK
  simp only at hK
  refine lt_s (fun h => ?_) (fun h => br_split (fun h2 => ?_) (fun h2 => lt_s (fun h3 => ?_) (fun h3 => ?_)))
  · rw [if_pos (.inl h)] at hK; exact hK
  · rw [lei_true] at h2; rw [if_pos (.inr (.inl h2))] at hK; exact hK
  · rw [if_pos (.inr (.inr h3))] at hK; exact hK
  rw [lei_false] at h2
  rw [if_neg (by omega)] at hK
  have e : clearC ⟨⟨ws, fu⟩, up, un, ug⟩ ⟨so, sb, sr⟩ = changeU ⟨⟨ws, fu⟩, up, un, ug⟩ (clearS ⟨ws, fu⟩ (w64 (1 - so))).1 (clearS ⟨ws, fu⟩ (w64 (1 - so))).2 := by rw [w64_id (by omega) (by omega)]; rfl
  rw [e] at hK
  refine eq_s (fun h4 => ?_) (fun h4 => ?_)
  · have clear_ : ∀ P : Prop, (un ≠ mn ∨ ug = 0) → (∀ v1, v1 = changeU ⟨⟨ws, fu⟩, up, un, ug⟩ (clearS ⟨ws, fu⟩ (w64 (1 - so))).1 (clearS ⟨ws, fu⟩ (w64 (1 - so))).2 → (v1.2 = false → K (.tup []) [.box [.dat (.list .int) v1.1.f.words, .dat .int v1.1.f.fuel, .dat .bool v1.1.up, .dat .int v1.1.n, .dat .int v1.1.got]]) →
        (v1.2 = true → K (.tup []) [.box [.dat (.list .int) (fillU ⟨v1.1.f, v1.1.up, mn, 0⟩ ⟨so, sb, sr⟩ ⟨mk, mu, mn, ma, mi, mw, my⟩).f.words, .dat .int (fillU ⟨v1.1.f, v1.1.up, mn, 0⟩ ⟨so, sb, sr⟩ ⟨mk, mu, mn, ma, mi, mw, my⟩).f.fuel, .dat .bool (fillU ⟨v1.1.f, v1.1.up, mn, 0⟩ ⟨so, sb, sr⟩ ⟨mk, mu, mn, ma, mi, mw, my⟩).up, .dat .int (fillU ⟨v1.1.f, v1.1.up, mn, 0⟩ ⟨so, sb, sr⟩ ⟨mk, mu, mn, ma, mi, mw, my⟩).n, .dat .int (fillU ⟨v1.1.f, v1.1.up, mn, 0⟩ ⟨so, sb, sr⟩ ⟨mk, mu, mn, ma, mi, mw, my⟩).got]]) → P) → P := fun P hu hP => by
      rw [if_pos ⟨h4, hu⟩] at hK
      refine hP _ rfl (fun hv => ?_) (fun hv => ?_)
      · rw [if_neg (by rw [hv]; simp)] at hK; exact hK
      · rw [if_pos hv] at hK; exact hK
    refine ne_s (fun h5 => ?_) (fun h5 => eq_s (fun h6 => ?_) (fun h6 => ?_))
    · refine clear_ _ (.inl h5) fun v1 hv k1 k2 => ?_
      rw [← hv]
      refine nt_s (fun g => k1 g) (fun g => ?_)
      exact unit_fill K v1.1.f.words v1.1.f.fuel v1.1.up mn 0 so sb sr mk mu mn ma mi mw my ⟨p1, p2⟩ ⟨p3, p4⟩ p5 (k2 g)
    · refine clear_ _ (.inr h6) fun v1 hv k1 k2 => ?_
      rw [← hv]
      refine nt_s (fun g => k1 g) (fun g => ?_)
      exact unit_fill K v1.1.f.words v1.1.f.fuel v1.1.up mn 0 so sb sr mk mu mn ma mi mw my ⟨p1, p2⟩ ⟨p3, p4⟩ p5 (k2 g)
    · rw [if_neg (by omega)] at hK
      exact fill hK
  · rw [if_neg (by omega)] at hK
    exact fill hK
theorem sound_unit_piece : SoundC Tryd.prog tab n_unit_piece c_unit_piece := soundC_of ok_unit_piece hf_unit_piece hB_unit_piece (by
  intro vs bs p v bs' h hp
  unfold c_unit_piece at h
  split at h
  · cases h
    exact ⟨by kernel_rfl, rfl, .inl (run_unit_piece _ _ _ _ _ _ _ _ _ _ _ _ _ _ _ hp.1 _ ⟨rfl, rfl⟩)⟩
  · cases h)

def c_unit_prepare_1 : Contract := fun vs bs => match vs, bs with
  | [.one (.dat .bool y), .one (.ptr 0 0)], [.box [.dat .int mk, .dat .int mu, .dat .int mn, .dat .int ma, .dat .int mi, .dat (.list .int) mw, .dat .bool my]] => some (none, .one (.dat (.list .message) (voteM ⟨mk, mu, mn, ma, mi, mw, my⟩ y)), [.box [.dat .int mk, .dat .int mu, .dat .int mn, .dat .int ma, .dat .int mi, .dat (.list .int) mw, .dat .bool my]])
  | _, _ => none
def Γ_unit_prepare_1 : Ctx := []
theorem ok_unit_prepare_1 : Ok Tryd.prog tab Γ_unit_prepare_1 := ok_nil
theorem unit_prepare_1_vc (y : Bool) (mk : Int) (mu : Int) (mn : Int) (ma : Int) (mi : Int) (mw : List Int) (my : Bool) (rec : List It → St → Prop) (K : V → List Blk → Prop) : segD Γ_unit_prepare_1 tab fn_unit_prepare_1 1 K rec [.code (bodyOf fn_unit_prepare_1)] (initSt [.one (.dat Ty.bool y), .one (.ptr 0 0)] [.box [.dat Ty.int mk, .dat Ty.int mu, .dat Ty.int mn, .dat Ty.int ma, .dat Ty.int mi, .dat (Ty.list Ty.int) mw, .dat Ty.bool my]]) = (
    K (.one (.dat (Ty.list Ty.message) ((⟨(3 : Int), mu, mn, (0 : Int), (0 : Int), [], y⟩ : Vm.Message) :: []))) [.box [.dat Ty.int mk, .dat Ty.int mu, .dat Ty.int mn, .dat Ty.int ma, .dat Ty.int mi, .dat (Ty.list Ty.int) mw, .dat Ty.bool my]]) := by kernel_rfl
theorem unit_prepare_1_w (y : Bool) (mk : Int) (mu : Int) (mn : Int) (ma : Int) (mi : Int) (mw : List Int) (my : Bool) (m : Nat) (K : V → List Blk → Prop) : goD Γ_unit_prepare_1 tab fn_unit_prepare_1 1 K (m + 1) [.code (bodyOf fn_unit_prepare_1)] (initSt [.one (.dat Ty.bool y), .one (.ptr 0 0)] [.box [.dat Ty.int mk, .dat Ty.int mu, .dat Ty.int mn, .dat Ty.int ma, .dat Ty.int mi, .dat (Ty.list Ty.int) mw, .dat Ty.bool my]]) = segD Γ_unit_prepare_1 tab fn_unit_prepare_1 1 K (goD Γ_unit_prepare_1 tab fn_unit_prepare_1 1 K m) [.code (bodyOf fn_unit_prepare_1)] (initSt [.one (.dat Ty.bool y), .one (.ptr 0 0)] [.box [.dat Ty.int mk, .dat Ty.int mu, .dat Ty.int mn, .dat Ty.int ma, .dat Ty.int mi, .dat (Ty.list Ty.int) mw, .dat Ty.bool my]]) := rfl

set_option maxHeartbeats 4000000 in
theorem run_unit_prepare_1 (y : Bool) (mk mu mn ma mi : Int) (mw : List Int) (my : Bool) (K : V → List Blk → Prop) (hK : K (.one (.dat (.list .message) (voteM ⟨mk, mu, mn, ma, mi, mw, my⟩ y))) [.box [.dat .int mk, .dat .int mu, .dat .int mn, .dat .int ma, .dat .int mi, .dat (.list .int) mw, .dat .bool my]]) : ∃ m, goD Γ_unit_prepare_1 tab fn_unit_prepare_1 1 K m [.code (bodyOf fn_unit_prepare_1)] (initSt [.one (.dat .bool y), .one (.ptr 0 0)] [.box [.dat .int mk, .dat .int mu, .dat .int mn, .dat .int ma, .dat .int mi, .dat (.list .int) mw, .dat .bool my]]) := by
  refine ⟨1, ?_⟩
  rw [unit_prepare_1_w, unit_prepare_1_vc _ _ _ _ _ _ _ _ _ _]
  exact hK
theorem sound_unit_prepare_1 : SoundC Tryd.prog tab n_unit_prepare_1 c_unit_prepare_1 := soundC_of ok_unit_prepare_1 hf_unit_prepare_1 hB_unit_prepare_1 (by
  intro vs bs p v bs' h hp
  unfold c_unit_prepare_1 at h
  split at h
  · cases h
    exact ⟨by kernel_rfl, rfl, .inl (run_unit_prepare_1 _ _ _ _ _ _ _ _ _ ⟨rfl, rfl⟩)⟩
  · cases h)

def c_flash_Read : Contract := fun vs bs => match vs, bs with
  | [.agg [.dat (.list .int) ws, .dat .int fu], .one (.dat .int at_), .one (.dat .int n)], [] => some (some (I64 at_ ∧ I64 n), .tup [.one (.dat (.list .int) (readF ⟨ws, fu⟩ at_ n).1), .one (.dat .int (readF ⟨ws, fu⟩ at_ n).2)], [])
  | _, _ => none
def Γ_flash_Read : Ctx := [(n_flash_Check, c_flash_Check), (n_slices_Clone_Lint, c_slices_Clone_Lint)]
theorem ok_flash_Read : Ok Tryd.prog tab Γ_flash_Read := ((ok_nil.consC hf_slices_Clone_Lint hB_slices_Clone_Lint sound_slices_Clone_Lint).consC hf_flash_Check hB_flash_Check sound_flash_Check)
theorem flash_Read_vc (ws : List Int) (fu : Int) (at_ : Int) (n : Int) (rec : List It → St → Prop) (K : V → List Blk → Prop) v0 (hv0 : v0 = (checkFlash ⟨ws, fu⟩)) : segD Γ_flash_Read tab fn_flash_Read 0 K rec [.code (bodyOf fn_flash_Read)] (initSt [.agg [.dat (Ty.list Ty.int) ws, .dat Ty.int fu], .one (.dat Ty.int at_), .one (.dat Ty.int n)] []) = (
    br (!(eqi v0 (0 : Int)))
     (K (.tup [.one (.dat (Ty.list Ty.int) []), .one (.dat Ty.int v0)]) [])
     (br (lti at_ (0 : Int))
       (K (.tup [.one (.dat (Ty.list Ty.int) []), .one (.dat Ty.int (5 : Int))]) [])
       (br (lti n (0 : Int))
         (K (.tup [.one (.dat (Ty.list Ty.int) []), .one (.dat Ty.int (5 : Int))]) [])
         (br (lti (((len ws) : Nat) : Int) at_)
           (K (.tup [.one (.dat (Ty.list Ty.int) []), .one (.dat Ty.int (5 : Int))]) [])
           (br (lti (w64 ((((len ws) : Nat) : Int) - at_)) n)
             (K (.tup [.one (.dat (Ty.list Ty.int) []), .one (.dat Ty.int (5 : Int))]) [])
             ((((0 : Int) ≤ at_) ∧ ((at_ ≤ (w64 (at_ + n))) ∧ ((w64 (at_ + n)) ≤ (((len ws) : Nat) : Int)))) ∧
              ((((len (slc ws (Int.toNat at_) (Int.toNat (w64 (at_ + n))))) * 8) ≤ 140737488355328) ∧
              (K (.tup [.one (.dat (Ty.list Ty.int) (slc ws (Int.toNat at_) (Int.toNat (w64 (at_ + n))))), .one (.dat Ty.int (0 : Int))]) [])))))))) := by subst hv0; kernel_rfl
theorem flash_Read_w (ws : List Int) (fu : Int) (at_ : Int) (n : Int) (m : Nat) (K : V → List Blk → Prop) : goD Γ_flash_Read tab fn_flash_Read 0 K (m + 1) [.code (bodyOf fn_flash_Read)] (initSt [.agg [.dat (Ty.list Ty.int) ws, .dat Ty.int fu], .one (.dat Ty.int at_), .one (.dat Ty.int n)] []) = segD Γ_flash_Read tab fn_flash_Read 0 K (goD Γ_flash_Read tab fn_flash_Read 0 K m) [.code (bodyOf fn_flash_Read)] (initSt [.agg [.dat (Ty.list Ty.int) ws, .dat Ty.int fu], .one (.dat Ty.int at_), .one (.dat Ty.int n)] []) := rfl

set_option maxHeartbeats 4000000 in
theorem run_flash_Read (ws : List Int) (fu at_ n : Int) (hp : I64 at_ ∧ I64 n) (K : V → List Blk → Prop) (hK : K (.tup [.one (.dat (.list .int) (readF ⟨ws, fu⟩ at_ n).1), .one (.dat .int (readF ⟨ws, fu⟩ at_ n).2)]) []) : ∃ m, goD Γ_flash_Read tab fn_flash_Read 0 K m [.code (bodyOf fn_flash_Read)] (initSt [.agg [.dat (.list .int) ws, .dat .int fu], .one (.dat .int at_), .one (.dat .int n)] []) := by
  obtain ⟨⟨ha, hb⟩, hc, hd⟩ := hp
  refine ⟨1, ?_⟩
  rw [flash_Read_w, flash_Read_vc _ _ _ _ _ _ _ rfl]
  unfold readF at hK
  refine ne_s (fun h => ?_) (fun h => ?_)
  · rw [if_neg h] at hK; exact hK
  rw [if_pos h] at hK
  obtain ⟨c1, c2, c3, c4⟩ := checkFlash_ok h
  obtain ⟨c5, c6⟩ := okLen_le c1
  simp only at c2 c3 c5 c6
  have five : ¬ (0 ≤ at_ ∧ 0 ≤ n ∧ at_ + n ≤ (ws.length : Int)) → K (.tup [.one (.dat (.list .int) []), .one (.dat .int 5)]) [] := fun hn => by
    rw [if_neg hn] at hK; exact hK
  simp only [len]
  refine lt_s (fun h1 => five (by omega)) (fun h1 => lt_s (fun h2 => five (by omega)) (fun h2 => lt_s (fun h3 => five (by omega)) (fun h3 => ?_)))
  rw [w64_id (by omega) (by omega)]
  refine lt_s (fun h4 => five (by omega)) (fun h4 => ?_)
  rw [if_pos (by simp only; omega)] at hK
  rw [w64_id (by omega) (by omega)]
  refine ⟨⟨h1, by omega, by omega⟩, ?_, hK⟩
  have : (slc ws at_.toNat (at_ + n).toNat).length ≤ 192 := by simp [slc]; omega
  omega
theorem sound_flash_Read : SoundC Tryd.prog tab n_flash_Read c_flash_Read := soundC_of ok_flash_Read hf_flash_Read hB_flash_Read (by
  intro vs bs p v bs' h hp
  unfold c_flash_Read at h
  split at h
  · cases h
    exact ⟨by kernel_rfl, rfl, .inl (run_flash_Read _ _ _ _ hp.1 _ ⟨rfl, rfl⟩)⟩
  · cases h)

def c_slot_Body : Contract := fun vs bs => match vs, bs with
  | [.agg [.dat (.list .int) ws, .dat .int fu], .one (.dat .int slot), .one (.dat .int n)], [] => some (none, .tup [.one (.dat (.list .int) (bodyS ⟨ws, fu⟩ slot n).1), .one (.dat .int (bodyS ⟨ws, fu⟩ slot n).2)], [])
  | _, _ => none
def Γ_slot_Body : Ctx := [(n_slot_check, c_slot_check), (n_slot_begin, c_slot_begin), (n_flash_Read, c_flash_Read)]
theorem ok_slot_Body : Ok Tryd.prog tab Γ_slot_Body := (((ok_nil.consC hf_flash_Read hB_flash_Read sound_flash_Read).consC hf_slot_begin hB_slot_begin sound_slot_begin).consC hf_slot_check hB_slot_check sound_slot_check)
theorem slot_Body_vc (ws : List Int) (fu : Int) (slot : Int) (n : Int) (rec : List It → St → Prop) (K : V → List Blk → Prop) v0 (hv0 : v0 = (checkSlot (⟨ws, fu⟩ : Flash) slot)) v1 (hv1 : v1 = (readF (⟨ws, fu⟩ : Flash) (w64 (((64 : Int) + ((64 : Int) * slot)) + (4 : Int))) n)) : segD Γ_slot_Body tab fn_slot_Body 0 K rec [.code (bodyOf fn_slot_Body)] (initSt [.agg [.dat (Ty.list Ty.int) ws, .dat Ty.int fu], .one (.dat Ty.int slot), .one (.dat Ty.int n)] []) = (
    br (!(eqi v0 (0 : Int)))
     (K (.tup [.one (.dat (Ty.list Ty.int) []), .one (.dat Ty.int v0)]) [])
     (br (lti n (0 : Int))
       (K (.tup [.one (.dat (Ty.list Ty.int) []), .one (.dat Ty.int (2 : Int))]) [])
       (br (lti (40 : Int) n)
         (K (.tup [.one (.dat (Ty.list Ty.int) []), .one (.dat Ty.int (2 : Int))]) [])
         ((((0 : Int) ≤ slot) ∧ (slot ≤ (1 : Int))) ∧
          (((((-(9223372036854775808 : Int)) ≤ (w64 (((64 : Int) + ((64 : Int) * slot)) + (4 : Int)))) ∧ ((w64 (((64 : Int) + ((64 : Int) * slot)) + (4 : Int))) ≤ (9223372036854775807 : Int))) ∧ (((-(9223372036854775808 : Int)) ≤ n) ∧ (n ≤ (9223372036854775807 : Int)))) ∧
          (K (.tup [.one (.dat (Ty.list Ty.int) (v1).fst), .one (.dat Ty.int (v1).snd)]) [])))))) := by subst hv1; subst hv0; kernel_rfl
theorem slot_Body_w (ws : List Int) (fu : Int) (slot : Int) (n : Int) (m : Nat) (K : V → List Blk → Prop) : goD Γ_slot_Body tab fn_slot_Body 0 K (m + 1) [.code (bodyOf fn_slot_Body)] (initSt [.agg [.dat (Ty.list Ty.int) ws, .dat Ty.int fu], .one (.dat Ty.int slot), .one (.dat Ty.int n)] []) = segD Γ_slot_Body tab fn_slot_Body 0 K (goD Γ_slot_Body tab fn_slot_Body 0 K m) [.code (bodyOf fn_slot_Body)] (initSt [.agg [.dat (Ty.list Ty.int) ws, .dat Ty.int fu], .one (.dat Ty.int slot), .one (.dat Ty.int n)] []) := rfl

set_option maxHeartbeats 4000000 in
theorem run_slot_Body (ws : List Int) (fu slot n : Int) (K : V → List Blk → Prop) (hK : K (.tup [.one (.dat (.list .int) (bodyS ⟨ws, fu⟩ slot n).1), .one (.dat .int (bodyS ⟨ws, fu⟩ slot n).2)]) []) : ∃ m, goD Γ_slot_Body tab fn_slot_Body 0 K m [.code (bodyOf fn_slot_Body)] (initSt [.agg [.dat (.list .int) ws, .dat .int fu], .one (.dat .int slot), .one (.dat .int n)] []) := by
  refine ⟨1, ?_⟩
  rw [slot_Body_w, slot_Body_vc _ _ _ _ _ _ _ rfl _ rfl]
  unfold bodyS at hK
  refine ne_s (fun h => ?_) (fun h => ?_)
  · rw [if_neg h] at hK; exact hK
  rw [if_pos h] at hK
  obtain ⟨h1, h2, h3⟩ := checkSlot_ok h
  simp only at h2
  refine lt_s (fun h4 => ?_) (fun h4 => lt_s (fun h5 => ?_) (fun h5 => ?_))
  · rw [if_neg (by omega)] at hK; exact hK
  · rw [if_neg (by omega)] at hK; exact hK
  rw [if_pos (by omega)] at hK
  rw [w64_id (n := 64 + 64 * slot + 4) (by omega) (by omega), show 64 + 64 * slot + 4 = 68 + 64 * slot by omega]
  refine ⟨by omega, by omega, ?_⟩
  unfold readF
  rw [if_pos h1, if_pos (by simp only; omega)]
  exact hK
theorem sound_slot_Body : SoundC Tryd.prog tab n_slot_Body c_slot_Body := soundC_of ok_slot_Body hf_slot_Body hB_slot_Body (by
  intro vs bs p v bs' h hp
  unfold c_slot_Body at h
  split at h
  · cases h
    exact ⟨by kernel_rfl, rfl, .inl (run_slot_Body _ _ _ _ _ ⟨rfl, rfl⟩)⟩
  · cases h)

def c_slot_Image : Contract := fun vs bs => match vs, bs with
  | [.agg [.dat (.list .int) ws, .dat .int fu], .one (.dat .int slot)], [] => some (none, .tup [.one (.dat (.list .int) (imageS ⟨ws, fu⟩ slot).1), .one (.dat .int (imageS ⟨ws, fu⟩ slot).2.1), .one (.dat .int (imageS ⟨ws, fu⟩ slot).2.2)], [])
  | _, _ => none
def Γ_slot_Image : Ctx := [(n_slot_check, c_slot_check), (n_slot_begin, c_slot_begin), (n_slices_Clone_Lint, c_slices_Clone_Lint)]
theorem ok_slot_Image : Ok Tryd.prog tab Γ_slot_Image := (((ok_nil.consC hf_slices_Clone_Lint hB_slices_Clone_Lint sound_slices_Clone_Lint).consC hf_slot_begin hB_slot_begin sound_slot_begin).consC hf_slot_check hB_slot_check sound_slot_check)
theorem slot_Image_vc (ws : List Int) (fu : Int) (slot : Int) (rec : List It → St → Prop) (K : V → List Blk → Prop) v0 (hv0 : v0 = (checkSlot (⟨ws, fu⟩ : Flash) slot)) : segD Γ_slot_Image tab fn_slot_Image 0 K rec [.code (bodyOf fn_slot_Image)] (initSt [.agg [.dat (Ty.list Ty.int) ws, .dat Ty.int fu], .one (.dat Ty.int slot)] []) = (
    br (!(eqi v0 (0 : Int)))
     (K (.tup [.one (.dat (Ty.list Ty.int) []), .one (.dat Ty.int (0 : Int)), .one (.dat Ty.int v0)]) [])
     ((((0 : Int) ≤ slot) ∧ (slot ≤ (1 : Int))) ∧
      ((((0 : Int) ≤ slot) ∧ (slot ≤ (1 : Int))) ∧
      ((((0 : Int) ≤ ((64 : Int) + ((64 : Int) * slot))) ∧ ((((64 : Int) + ((64 : Int) * slot)) ≤ (w64 (((64 : Int) + ((64 : Int) * slot)) + (4 : Int)))) ∧ ((w64 (((64 : Int) + ((64 : Int) * slot)) + (4 : Int))) ≤ (((len ws) : Nat) : Int)))) ∧
      ((((0 : Int) ≤ (0 : Int)) ∧ ((0 : Int) < (((len (slc ws (Int.toNat ((64 : Int) + ((64 : Int) * slot))) (Int.toNat (w64 (((64 : Int) + ((64 : Int) * slot)) + (4 : Int)))))) : Nat) : Int))) ∧
      (br (lti (nth (slc ws (Int.toNat ((64 : Int) + ((64 : Int) * slot))) (Int.toNat (w64 (((64 : Int) + ((64 : Int) * slot)) + (4 : Int))))) (Int.toNat (0 : Int)) (Ty.dflt Ty.int)) (1 : Int))
       (K (.tup [.one (.dat (Ty.list Ty.int) []), .one (.dat Ty.int (0 : Int)), .one (.dat Ty.int (4 : Int))]) [])
       ((((0 : Int) ≤ (0 : Int)) ∧ ((0 : Int) < (((len (slc ws (Int.toNat ((64 : Int) + ((64 : Int) * slot))) (Int.toNat (w64 (((64 : Int) + ((64 : Int) * slot)) + (4 : Int)))))) : Nat) : Int))) ∧
        (br (lti (40 : Int) (nth (slc ws (Int.toNat ((64 : Int) + ((64 : Int) * slot))) (Int.toNat (w64 (((64 : Int) + ((64 : Int) * slot)) + (4 : Int))))) (Int.toNat (0 : Int)) (Ty.dflt Ty.int)))
         (K (.tup [.one (.dat (Ty.list Ty.int) []), .one (.dat Ty.int (0 : Int)), .one (.dat Ty.int (4 : Int))]) [])
         ((((0 : Int) ≤ (1 : Int)) ∧ ((1 : Int) < (((len (slc ws (Int.toNat ((64 : Int) + ((64 : Int) * slot))) (Int.toNat (w64 (((64 : Int) + ((64 : Int) * slot)) + (4 : Int)))))) : Nat) : Int))) ∧
          (br (lti (nth (slc ws (Int.toNat ((64 : Int) + ((64 : Int) * slot))) (Int.toNat (w64 (((64 : Int) + ((64 : Int) * slot)) + (4 : Int))))) (Int.toNat (1 : Int)) (Ty.dflt Ty.int)) (1 : Int))
           (K (.tup [.one (.dat (Ty.list Ty.int) []), .one (.dat Ty.int (0 : Int)), .one (.dat Ty.int (4 : Int))]) [])
           ((((0 : Int) ≤ (1 : Int)) ∧ ((1 : Int) < (((len (slc ws (Int.toNat ((64 : Int) + ((64 : Int) * slot))) (Int.toNat (w64 (((64 : Int) + ((64 : Int) * slot)) + (4 : Int)))))) : Nat) : Int))) ∧
            (br (lti (60 : Int) (nth (slc ws (Int.toNat ((64 : Int) + ((64 : Int) * slot))) (Int.toNat (w64 (((64 : Int) + ((64 : Int) * slot)) + (4 : Int))))) (Int.toNat (1 : Int)) (Ty.dflt Ty.int)))
             (K (.tup [.one (.dat (Ty.list Ty.int) []), .one (.dat Ty.int (0 : Int)), .one (.dat Ty.int (4 : Int))]) [])
             ((((0 : Int) ≤ (2 : Int)) ∧ ((2 : Int) < (((len (slc ws (Int.toNat ((64 : Int) + ((64 : Int) * slot))) (Int.toNat (w64 (((64 : Int) + ((64 : Int) * slot)) + (4 : Int)))))) : Nat) : Int))) ∧
              ((((0 : Int) ≤ (0 : Int)) ∧ ((0 : Int) < (((len (slc ws (Int.toNat ((64 : Int) + ((64 : Int) * slot))) (Int.toNat (w64 (((64 : Int) + ((64 : Int) * slot)) + (4 : Int)))))) : Nat) : Int))) ∧
              (br (!(eqi (nth (slc ws (Int.toNat ((64 : Int) + ((64 : Int) * slot))) (Int.toNat (w64 (((64 : Int) + ((64 : Int) * slot)) + (4 : Int))))) (Int.toNat (2 : Int)) (Ty.dflt Ty.int)) (xori (65535 : Int) (nth (slc ws (Int.toNat ((64 : Int) + ((64 : Int) * slot))) (Int.toNat (w64 (((64 : Int) + ((64 : Int) * slot)) + (4 : Int))))) (Int.toNat (0 : Int)) (Ty.dflt Ty.int)))))
               (K (.tup [.one (.dat (Ty.list Ty.int) []), .one (.dat Ty.int (0 : Int)), .one (.dat Ty.int (4 : Int))]) [])
               ((((0 : Int) ≤ (3 : Int)) ∧ ((3 : Int) < (((len (slc ws (Int.toNat ((64 : Int) + ((64 : Int) * slot))) (Int.toNat (w64 (((64 : Int) + ((64 : Int) * slot)) + (4 : Int)))))) : Nat) : Int))) ∧
                ((((0 : Int) ≤ (1 : Int)) ∧ ((1 : Int) < (((len (slc ws (Int.toNat ((64 : Int) + ((64 : Int) * slot))) (Int.toNat (w64 (((64 : Int) + ((64 : Int) * slot)) + (4 : Int)))))) : Nat) : Int))) ∧
                (br (!(eqi (nth (slc ws (Int.toNat ((64 : Int) + ((64 : Int) * slot))) (Int.toNat (w64 (((64 : Int) + ((64 : Int) * slot)) + (4 : Int))))) (Int.toNat (3 : Int)) (Ty.dflt Ty.int)) (xori (65535 : Int) (nth (slc ws (Int.toNat ((64 : Int) + ((64 : Int) * slot))) (Int.toNat (w64 (((64 : Int) + ((64 : Int) * slot)) + (4 : Int))))) (Int.toNat (1 : Int)) (Ty.dflt Ty.int)))))
                 (K (.tup [.one (.dat (Ty.list Ty.int) []), .one (.dat Ty.int (0 : Int)), .one (.dat Ty.int (4 : Int))]) [])
                 ((((0 : Int) ≤ slot) ∧ (slot ≤ (1 : Int))) ∧
                  ((((0 : Int) ≤ slot) ∧ (slot ≤ (1 : Int))) ∧
                  ((((0 : Int) ≤ (0 : Int)) ∧ ((0 : Int) < (((len (slc ws (Int.toNat ((64 : Int) + ((64 : Int) * slot))) (Int.toNat (w64 (((64 : Int) + ((64 : Int) * slot)) + (4 : Int)))))) : Nat) : Int))) ∧
                  ((((0 : Int) ≤ (w64 (((64 : Int) + ((64 : Int) * slot)) + (4 : Int)))) ∧ (((w64 (((64 : Int) + ((64 : Int) * slot)) + (4 : Int))) ≤ (w64 ((w64 (((64 : Int) + ((64 : Int) * slot)) + (4 : Int))) + (nth (slc ws (Int.toNat ((64 : Int) + ((64 : Int) * slot))) (Int.toNat (w64 (((64 : Int) + ((64 : Int) * slot)) + (4 : Int))))) (Int.toNat (0 : Int)) (Ty.dflt Ty.int))))) ∧ ((w64 ((w64 (((64 : Int) + ((64 : Int) * slot)) + (4 : Int))) + (nth (slc ws (Int.toNat ((64 : Int) + ((64 : Int) * slot))) (Int.toNat (w64 (((64 : Int) + ((64 : Int) * slot)) + (4 : Int))))) (Int.toNat (0 : Int)) (Ty.dflt Ty.int)))) ≤ (((len ws) : Nat) : Int)))) ∧
                  ((((len (slc ws (Int.toNat (w64 (((64 : Int) + ((64 : Int) * slot)) + (4 : Int)))) (Int.toNat (w64 ((w64 (((64 : Int) + ((64 : Int) * slot)) + (4 : Int))) + (nth (slc ws (Int.toNat ((64 : Int) + ((64 : Int) * slot))) (Int.toNat (w64 (((64 : Int) + ((64 : Int) * slot)) + (4 : Int))))) (Int.toNat (0 : Int)) (Ty.dflt Ty.int))))))) * 8) ≤ 140737488355328) ∧
                  ((((0 : Int) ≤ (1 : Int)) ∧ ((1 : Int) < (((len (slc ws (Int.toNat ((64 : Int) + ((64 : Int) * slot))) (Int.toNat (w64 (((64 : Int) + ((64 : Int) * slot)) + (4 : Int)))))) : Nat) : Int))) ∧
                  (K (.tup [.one (.dat (Ty.list Ty.int) (slc ws (Int.toNat (w64 (((64 : Int) + ((64 : Int) * slot)) + (4 : Int)))) (Int.toNat (w64 ((w64 (((64 : Int) + ((64 : Int) * slot)) + (4 : Int))) + (nth (slc ws (Int.toNat ((64 : Int) + ((64 : Int) * slot))) (Int.toNat (w64 (((64 : Int) + ((64 : Int) * slot)) + (4 : Int))))) (Int.toNat (0 : Int)) (Ty.dflt Ty.int))))))), .one (.dat Ty.int (nth (slc ws (Int.toNat ((64 : Int) + ((64 : Int) * slot))) (Int.toNat (w64 (((64 : Int) + ((64 : Int) * slot)) + (4 : Int))))) (Int.toNat (1 : Int)) (Ty.dflt Ty.int))), .one (.dat Ty.int (0 : Int))]) []))))))))))))))))))))))))) := by subst hv0; kernel_rfl
theorem slot_Image_w (ws : List Int) (fu : Int) (slot : Int) (m : Nat) (K : V → List Blk → Prop) : goD Γ_slot_Image tab fn_slot_Image 0 K (m + 1) [.code (bodyOf fn_slot_Image)] (initSt [.agg [.dat (Ty.list Ty.int) ws, .dat Ty.int fu], .one (.dat Ty.int slot)] []) = segD Γ_slot_Image tab fn_slot_Image 0 K (goD Γ_slot_Image tab fn_slot_Image 0 K m) [.code (bodyOf fn_slot_Image)] (initSt [.agg [.dat (Ty.list Ty.int) ws, .dat Ty.int fu], .one (.dat Ty.int slot)] []) := rfl

set_option maxHeartbeats 4000000 in
theorem run_slot_Image (ws : List Int) (fu slot : Int) (K : V → List Blk → Prop) (hK : K (.tup [.one (.dat (.list .int) (imageS ⟨ws, fu⟩ slot).1), .one (.dat .int (imageS ⟨ws, fu⟩ slot).2.1), .one (.dat .int (imageS ⟨ws, fu⟩ slot).2.2)]) []) : ∃ m, goD Γ_slot_Image tab fn_slot_Image 0 K m [.code (bodyOf fn_slot_Image)] (initSt [.agg [.dat (.list .int) ws, .dat .int fu], .one (.dat .int slot)] []) := by
  refine ⟨1, ?_⟩
  rw [slot_Image_w, slot_Image_vc _ _ _ _ _ _ rfl]
  unfold imageS at hK
  refine ne_s (fun h => ?_) (fun h => ?_)
  · rw [if_neg h] at hK; exact hK
  rw [if_pos h] at hK
  obtain ⟨h1, h2, h3⟩ := checkSlot_ok h
  simp only at h2
  obtain ⟨b, hb⟩ : ∃ b, beginS slot = b := ⟨_, rfl⟩
  have hb' : (64 + 64 * slot) = (b : Int) := by unfold beginS at hb; omega
  rw [hb', w64_id (n := (b : Int) + 4) (by omega) (by omega), show Int.toNat ((b : Int) + 4) = b + 4 by omega, toNat_nat]
  have hlen : (slc ws b (b + 4)).length = 4 := by simp [slc]; omega
  have g0 : nth (slc ws b (b + 4)) (Int.toNat (0 : Int)) (Ty.dflt Ty.int) = ws.getD b 0 := slc_getD ws b (b + 4) 0 (by omega)
  have g1 : nth (slc ws b (b + 4)) (Int.toNat (1 : Int)) (Ty.dflt Ty.int) = ws.getD (b + 1) 0 := slc_getD ws b (b + 4) 1 (by omega)
  have g2 : nth (slc ws b (b + 4)) (Int.toNat (2 : Int)) (Ty.dflt Ty.int) = ws.getD (b + 2) 0 := slc_getD ws b (b + 4) 2 (by omega)
  have g3 : nth (slc ws b (b + 4)) (Int.toNat (3 : Int)) (Ty.dflt Ty.int) = ws.getD (b + 3) 0 := slc_getD ws b (b + 4) 3 (by omega)
  rw [g0, g1, g2, g3]
  simp only [len, hlen]
  unfold imageR at hK
  simp only [hb] at hK
  have four : ¬ (okHead (ws.getD b 0) (ws.getD (b + 1) 0) = true ∧ ws.getD (b + 2) 0 = 65535 - ws.getD b 0 ∧ ws.getD (b + 3) 0 = 65535 - ws.getD (b + 1) 0) → K (.tup [.one (.dat (.list .int) []), .one (.dat .int 0), .one (.dat .int 4)]) [] := fun hn => by
    have : sealedAt ws b = false := by
      unfold sealedAt
      cases hh : okHead (ws.getD b 0) (ws.getD (b + 1) 0)
      · rfl
      · simp only [Bool.true_and, Bool.and_eq_false_iff, decide_eq_false_iff_not]
        by_cases c : ws.getD (b + 2) 0 = 65535 - ws.getD b 0
        · exact .inr fun c2 => hn ⟨hh, c, c2⟩
        · exact .inl c
    rw [this] at hK
    exact hK
  have hd : okHead (ws.getD b 0) (ws.getD (b + 1) 0) = true ↔ (1 ≤ ws.getD b 0 ∧ ws.getD b 0 ≤ 40 ∧ 1 ≤ ws.getD (b + 1) 0 ∧ ws.getD (b + 1) 0 ≤ 60) := by
    simp only [okHead, Bool.and_eq_true, decide_eq_true_eq]; omega
  rw [hd] at four
  refine ⟨by omega, by omega, by omega, by omega, lt_s (fun h4 => four (by omega)) (fun h4 => ⟨by omega, lt_s (fun h5 => four (by omega)) (fun h5 => ⟨by omega, lt_s (fun h6 => four (by omega)) (fun h6 => ⟨by omega, lt_s (fun h7 => four (by omega)) (fun h7 => ⟨by omega, by omega, ?_⟩)⟩)⟩)⟩)⟩
  rw [xori_int (a := ws.getD b 0) (by omega) (by omega), xori_int (a := ws.getD (b + 1) 0) (by omega) (by omega)]
  refine ne_s (fun h8 => four (by omega)) (fun h8 => ⟨by omega, by omega, ne_s (fun h9 => four (by omega)) (fun h9 => ?_)⟩)
  rw [w64_id (by omega) (by omega), show Int.toNat ((b : Int) + 4 + ws.getD b 0) = b + 4 + (ws.getD b 0).toNat by omega]
  have hs : sealedAt ws b = true := by
    unfold sealedAt
    rw [hd.2 (by omega)]
    simp only [Bool.true_and, Bool.and_eq_true, decide_eq_true_eq]
    exact ⟨h8, h9⟩
  rw [hs] at hK
  have hll : (slc ws (b + 4) (b + 4 + (ws.getD b 0).toNat)).length ≤ 192 := by simp [slc]; omega
  exact ⟨by omega, by omega, by omega, by omega, by omega, by omega, hK⟩
theorem sound_slot_Image : SoundC Tryd.prog tab n_slot_Image c_slot_Image := soundC_of ok_slot_Image hf_slot_Image hB_slot_Image (by
  intro vs bs p v bs' h hp
  unfold c_slot_Image at h
  split at h
  · cases h
    exact ⟨by kernel_rfl, rfl, .inl (run_slot_Image _ _ _ _ ⟨rfl, rfl⟩)⟩
  · cases h)

def c_unit_keep : Contract := fun vs bs => match vs, bs with
  | [.agg [.dat .int so, .dat .int sb, .dat .int sr]], [] => some (none, .one (.dat (.list (.list .int)) (keepS sb so sr)), [])
  | _, _ => none
def Γ_unit_keep : Ctx := []
theorem ok_unit_keep : Ok Tryd.prog tab Γ_unit_keep := ok_nil
theorem unit_keep_vc (so : Int) (sb : Int) (sr : Int) (rec : List It → St → Prop) (K : V → List Blk → Prop) : segD Γ_unit_keep tab fn_unit_keep 0 K rec [.code (bodyOf fn_unit_keep)] (initSt [.agg [.dat Ty.int so, .dat Ty.int sb, .dat Ty.int sr]] []) = (
    br (lti (0 : Int) sr)
     (((((len (((1 : Int) :: (so :: (sb :: []))) :: [])) + (len (((2 : Int) :: (sr :: [])) :: []))) * 24) ≤ 140737488355328) ∧
      (K (.one (.dat (Ty.list (Ty.list Ty.int)) (cat (((1 : Int) :: (so :: (sb :: []))) :: []) (((2 : Int) :: (sr :: [])) :: [])))) []))
     (K (.one (.dat (Ty.list (Ty.list Ty.int)) (((1 : Int) :: (so :: (sb :: []))) :: []))) [])) := by kernel_rfl
theorem unit_keep_w (so : Int) (sb : Int) (sr : Int) (m : Nat) (K : V → List Blk → Prop) : goD Γ_unit_keep tab fn_unit_keep 0 K (m + 1) [.code (bodyOf fn_unit_keep)] (initSt [.agg [.dat Ty.int so, .dat Ty.int sb, .dat Ty.int sr]] []) = segD Γ_unit_keep tab fn_unit_keep 0 K (goD Γ_unit_keep tab fn_unit_keep 0 K m) [.code (bodyOf fn_unit_keep)] (initSt [.agg [.dat Ty.int so, .dat Ty.int sb, .dat Ty.int sr]] []) := rfl

set_option maxHeartbeats 4000000 in
theorem run_unit_keep (so sb sr : Int) (K : V → List Blk → Prop) (hK : K (.one (.dat (.list (.list .int)) (keepS sb so sr))) []) : ∃ m, goD Γ_unit_keep tab fn_unit_keep 0 K m [.code (bodyOf fn_unit_keep)] (initSt [.agg [.dat .int so, .dat .int sb, .dat .int sr]] []) := by
  refine ⟨1, ?_⟩
  rw [unit_keep_w, unit_keep_vc _ _ _ _ _]
  unfold keepS at hK
  refine lt_s (fun h => ?_) (fun h => ?_)
  · rw [if_pos h] at hK; exact ⟨by simp [len], hK⟩
  · rw [if_neg (by omega)] at hK; exact hK
theorem sound_unit_keep : SoundC Tryd.prog tab n_unit_keep c_unit_keep := soundC_of ok_unit_keep hf_unit_keep hB_unit_keep (by
  intro vs bs p v bs' h hp
  unfold c_unit_keep at h
  split at h
  · cases h
    exact ⟨by kernel_rfl, rfl, .inl (run_unit_keep _ _ _ _ ⟨rfl, rfl⟩)⟩
  · cases h)

def c_unit_note : Contract := fun vs bs => match vs, bs with
  | [.one (.ptr 0 0), .one (.dat (.list .int) r)], [.box [.dat (.list .int) ws, .dat .int fu, .dat .bool up, .dat .int un, .dat .int ug]] => some (some (Sm r), .one (.dat .bool (noteU ⟨⟨ws, fu⟩, up, un, ug⟩ r).2), [.box [.dat (.list .int) (noteU ⟨⟨ws, fu⟩, up, un, ug⟩ r).1.f.words, .dat .int (noteU ⟨⟨ws, fu⟩, up, un, ug⟩ r).1.f.fuel, .dat .bool (noteU ⟨⟨ws, fu⟩, up, un, ug⟩ r).1.up, .dat .int (noteU ⟨⟨ws, fu⟩, up, un, ug⟩ r).1.n, .dat .int (noteU ⟨⟨ws, fu⟩, up, un, ug⟩ r).1.got]])
  | _, _ => none
def Γ_unit_note : Ctx := [(n_unit_of, c_unit_of), (n_unit_keep, c_unit_keep), (n_log_Append, c_log_Append), (n_unit_change, c_unit_change)]
theorem ok_unit_note : Ok Tryd.prog tab Γ_unit_note := ((((ok_nil.consC hf_unit_change hB_unit_change sound_unit_change).consC hf_log_Append hB_log_Append sound_log_Append).consC hf_unit_keep hB_unit_keep sound_unit_keep).consC hf_unit_of hB_unit_of sound_unit_of)
theorem unit_note_vc (ws : List Int) (fu : Int) (up : Bool) (un : Int) (ug : Int) (r : List Int) (rec : List It → St → Prop) (K : V → List Blk → Prop) v0 (hv0 : v0 = (ofU (⟨ws, fu⟩ : Vm.Flash))) v1 (hv1 : v1 = (keepS (v0).by_ (v0).slot (v0).ready)) v2 (hv2 : v2 = (smR v1)) v3 (hv3 : v3 = (appendF (⟨ws, fu⟩ : Vm.Flash) r v1)) v4 (hv4 : v4 = (changeU (⟨(⟨ws, fu⟩ : Vm.Flash), up, un, ug⟩ : Vm.UnitD) (⟨((v3).fst).words, ((v3).fst).fuel⟩ : Vm.Flash) (v3).snd)) : segD Γ_unit_note tab fn_unit_note 1 K rec [.code (bodyOf fn_unit_note)] (initSt [.one (.ptr 0 0), .one (.dat (Ty.list Ty.int) r)] [.box [.dat (Ty.list Ty.int) ws, .dat Ty.int fu, .dat Ty.bool up, .dat Ty.int un, .dat Ty.int ug]]) = (
    (((List.length r) ≤ 140737488355328) ∧ ((((len v1) * 24) ≤ 140737488351232) ∧ (v2 = true))) ∧
    (K (.one (.dat Ty.bool (v4).snd)) [.box [.dat (Ty.list Ty.int) (((v4).fst).f).words, .dat Ty.int (((v4).fst).f).fuel, .dat Ty.bool ((v4).fst).up, .dat Ty.int ((v4).fst).n, .dat Ty.int ((v4).fst).got]])) := by subst hv4; subst hv3; subst hv2; subst hv1; subst hv0; kernel_rfl
theorem unit_note_w (ws : List Int) (fu : Int) (up : Bool) (un : Int) (ug : Int) (r : List Int) (m : Nat) (K : V → List Blk → Prop) : goD Γ_unit_note tab fn_unit_note 1 K (m + 1) [.code (bodyOf fn_unit_note)] (initSt [.one (.ptr 0 0), .one (.dat (Ty.list Ty.int) r)] [.box [.dat (Ty.list Ty.int) ws, .dat Ty.int fu, .dat Ty.bool up, .dat Ty.int un, .dat Ty.int ug]]) = segD Γ_unit_note tab fn_unit_note 1 K (goD Γ_unit_note tab fn_unit_note 1 K m) [.code (bodyOf fn_unit_note)] (initSt [.one (.ptr 0 0), .one (.dat (Ty.list Ty.int) r)] [.box [.dat (Ty.list Ty.int) ws, .dat Ty.int fu, .dat Ty.bool up, .dat Ty.int un, .dat Ty.int ug]]) := rfl

set_option maxHeartbeats 4000000 in
theorem run_unit_note (ws : List Int) (fu : Int) (up : Bool) (un ug : Int) (r : List Int) (hp : Sm r) (K : V → List Blk → Prop) (hK : K (.one (.dat .bool (noteU ⟨⟨ws, fu⟩, up, un, ug⟩ r).2)) [.box [.dat (.list .int) (noteU ⟨⟨ws, fu⟩, up, un, ug⟩ r).1.f.words, .dat .int (noteU ⟨⟨ws, fu⟩, up, un, ug⟩ r).1.f.fuel, .dat .bool (noteU ⟨⟨ws, fu⟩, up, un, ug⟩ r).1.up, .dat .int (noteU ⟨⟨ws, fu⟩, up, un, ug⟩ r).1.n, .dat .int (noteU ⟨⟨ws, fu⟩, up, un, ug⟩ r).1.got]]) : ∃ m, goD Γ_unit_note tab fn_unit_note 1 K m [.code (bodyOf fn_unit_note)] (initSt [.one (.ptr 0 0), .one (.dat (.list .int) r)] [.box [.dat (.list .int) ws, .dat .int fu, .dat .bool up, .dat .int un, .dat .int ug]]) := by
  refine ⟨1, ?_⟩
  rw [unit_note_w, unit_note_vc _ _ _ _ _ _ _ _ _ rfl _ rfl _ rfl _ rfl _ rfl]
  have h := keepS_sm (ofU ⟨ws, fu⟩).by_ (ofU ⟨ws, fu⟩).slot (ofU ⟨ws, fu⟩).ready
  exact ⟨⟨hp, by simp only [len]; omega, h.1⟩, hK⟩
theorem sound_unit_note : SoundC Tryd.prog tab n_unit_note c_unit_note := soundC_of ok_unit_note hf_unit_note hB_unit_note (by
  intro vs bs p v bs' h hp
  unfold c_unit_note at h
  split at h
  · cases h
    exact ⟨by kernel_rfl, rfl, .inl (run_unit_note _ _ _ _ _ _ hp.1 _ ⟨rfl, rfl⟩)⟩
  · cases h)

def c_slices_Equal_Lint : Contract := fun vs bs => match vs, bs with
  | [.one (.dat (.list .int) a), .one (.dat (.list .int) b)], [] => some (some (Sm a), .one (.dat .bool (eqIs a b)), [])
  | _, _ => none
def Γ_slices_Equal_Lint : Ctx := []
theorem ok_slices_Equal_Lint : Ok Tryd.prog tab Γ_slices_Equal_Lint := ok_nil
noncomputable def slices_Equal_Lint_L0 : List It := [.inLoop [13, 12, 4, 0, 1] (Code.sub (bodyOf fn_slices_Equal_Lint) [1, 1, 0, 1, 0, 0]), .inBlock 0, .code (Code.sub (bodyOf fn_slices_Equal_Lint) [1, 1, 1])]
def slices_Equal_Lint_S0 (x0 : Int) (x1 : Int) (x2 : Bool) (x3 : (List Int)) (x4 : (List Int)) : St := ⟨[(13, .one (.dat Ty.int x0)), (12, .one (.dat Ty.int x1)), (4, .one (.dat Ty.bool x2)), (0, .one (.dat (Ty.list Ty.int) x3)), (1, .one (.dat (Ty.list Ty.int) x4))], [], 0⟩
theorem slices_Equal_Lint_vc (a : List Int) (b : List Int) (rec : List It → St → Prop) (K : V → List Blk → Prop) : segD Γ_slices_Equal_Lint tab fn_slices_Equal_Lint 0 K rec [.code (bodyOf fn_slices_Equal_Lint)] (initSt [.one (.dat (Ty.list Ty.int) a), .one (.dat (Ty.list Ty.int) b)] []) = (
    br (!(eqi (((len a) : Nat) : Int) (((len b) : Nat) : Int)))
     (K (.one (.dat Ty.bool false)) [])
     (rec slices_Equal_Lint_L0 (slices_Equal_Lint_S0 (0 : Int) (((len a) : Nat) : Int) false a b))) := by kernel_rfl
theorem slices_Equal_Lint_w (a : List Int) (b : List Int) (m : Nat) (K : V → List Blk → Prop) : goD Γ_slices_Equal_Lint tab fn_slices_Equal_Lint 0 K (m + 1) [.code (bodyOf fn_slices_Equal_Lint)] (initSt [.one (.dat (Ty.list Ty.int) a), .one (.dat (Ty.list Ty.int) b)] []) = segD Γ_slices_Equal_Lint tab fn_slices_Equal_Lint 0 K (goD Γ_slices_Equal_Lint tab fn_slices_Equal_Lint 0 K m) [.code (bodyOf fn_slices_Equal_Lint)] (initSt [.one (.dat (Ty.list Ty.int) a), .one (.dat (Ty.list Ty.int) b)] []) := rfl
theorem slices_Equal_Lint_vc0 (x0 : Int) (x1 : Int) (x2 : Bool) (x3 : (List Int)) (x4 : (List Int)) (rec : List It → St → Prop) (K : V → List Blk → Prop) : segD Γ_slices_Equal_Lint tab fn_slices_Equal_Lint 0 K rec (.code (Code.sub (bodyOf fn_slices_Equal_Lint) [1, 1, 0, 1, 0, 0]) :: slices_Equal_Lint_L0) (slices_Equal_Lint_S0 x0 x1 x2 x3 x4) = (
    br (lti x0 x1)
     ((((0 : Int) ≤ x0) ∧ (x0 < (((len x3) : Nat) : Int))) ∧
      ((((0 : Int) ≤ x0) ∧ (x0 < (((len x4) : Nat) : Int))) ∧
      (br (!(eqi (nth x3 (Int.toNat x0) (Ty.dflt Ty.int)) (nth x4 (Int.toNat x0) (Ty.dflt Ty.int))))
       (K (.one (.dat Ty.bool false)) [])
       (rec slices_Equal_Lint_L0 (slices_Equal_Lint_S0 (w64 (x0 + (1 : Int))) x1 x2 x3 x4)))))
     (K (.one (.dat Ty.bool true)) [])) := by kernel_rfl
theorem slices_Equal_Lint_w0 (x0 : Int) (x1 : Int) (x2 : Bool) (x3 : (List Int)) (x4 : (List Int)) (m : Nat) (K : V → List Blk → Prop) : goD Γ_slices_Equal_Lint tab fn_slices_Equal_Lint 0 K (m + 1) slices_Equal_Lint_L0 (slices_Equal_Lint_S0 x0 x1 x2 x3 x4) = segD Γ_slices_Equal_Lint tab fn_slices_Equal_Lint 0 K (goD Γ_slices_Equal_Lint tab fn_slices_Equal_Lint 0 K m) (.code (Code.sub (bodyOf fn_slices_Equal_Lint) [1, 1, 0, 1, 0, 0]) :: slices_Equal_Lint_L0) (slices_Equal_Lint_S0 x0 x1 x2 x3 x4) := rfl

theorem loop_slices_Equal_Lint (a b : List Int) (hl : a.length = b.length) (hs : Sm a) (K : V → List Blk → Prop) (hK : K (.one (.dat .bool (eqIs a b))) []) : ∀ (d k : Nat), k + d = a.length → a.take k = b.take k →
    goD Γ_slices_Equal_Lint tab fn_slices_Equal_Lint 0 K (d + 1) slices_Equal_Lint_L0 (slices_Equal_Lint_S0 (k : Int) (((len a) : Nat) : Int) false a b)
  | 0, k, hk, he => by
    rw [slices_Equal_Lint_w0, slices_Equal_Lint_vc0 _ _ _ _ _ _ _]
    refine lt_f (by simp only [len]; omega) ?_
    rw [List.take_of_length_le (by omega), List.take_of_length_le (by omega)] at he
    rw [show eqIs a b = true from by simp [eqIs, he]] at hK
    exact hK
  | d + 1, k, hk, he => by
    unfold Sm at hs
    rw [slices_Equal_Lint_w0, slices_Equal_Lint_vc0 _ _ _ _ _ _ _]
    refine lt_t (by simp only [len]; omega) ⟨⟨by omega, by simp only [len]; omega⟩, ⟨by omega, by simp only [len]; omega⟩, ne_s (fun hne => ?_) (fun heq => ?_)⟩
    · rw [show eqIs a b = false from by simp only [eqIs, decide_eq_false_iff_not]; rintro rfl; exact hne rfl] at hK
      exact hK
    · rw [w64_succ (by omega)]
      refine loop_slices_Equal_Lint a b hl ‹Sm a› K hK d (k + 1) (by omega) ?_
      rw [take_step (by omega) (Ty.dflt Ty.int), take_step (by omega) (Ty.dflt Ty.int), he]
      rw [toNat_nat] at heq
      rw [heq]
set_option maxHeartbeats 4000000 in
theorem run_slices_Equal_Lint (a b : List Int) (hp : Sm a) (K : V → List Blk → Prop) (hK : K (.one (.dat .bool (eqIs a b))) []) : ∃ m, goD Γ_slices_Equal_Lint tab fn_slices_Equal_Lint 0 K m [.code (bodyOf fn_slices_Equal_Lint)] (initSt [.one (.dat (.list .int) a), .one (.dat (.list .int) b)] []) := by
  refine ⟨a.length + 2, ?_⟩
  rw [slices_Equal_Lint_w, slices_Equal_Lint_vc _ _ _ _]
  refine ne_s (fun h => ?_) (fun h => ?_)
  · rw [show eqIs a b = false from by simp only [eqIs, decide_eq_false_iff_not]; rintro rfl; exact h rfl] at hK
    exact hK
  · exact loop_slices_Equal_Lint a b (by simp only [len] at h; omega) hp K hK a.length 0 (by omega) rfl
theorem sound_slices_Equal_Lint : SoundC Tryd.prog tab n_slices_Equal_Lint c_slices_Equal_Lint := soundC_of ok_slices_Equal_Lint hf_slices_Equal_Lint hB_slices_Equal_Lint (by
  intro vs bs p v bs' h hp
  unfold c_slices_Equal_Lint at h
  split at h
  · cases h
    exact ⟨by kernel_rfl, rfl, .inl (run_slices_Equal_Lint _ _ hp.1 _ ⟨rfl, rfl⟩)⟩
  · cases h)

def c_unit_prepare : Contract := fun vs bs => match vs, bs with
  | [.agg [.dat (.list .str) b], .one (.ptr 0 0), .agg [.dat .int so, .dat .int sb, .dat .int sr], .agg [.dat .int mk, .dat .int mu, .dat .int mn, .dat .int ma, .dat .int mi, .dat (.list .int) mw, .dat .bool my]], [.box [.dat (.list .int) ws, .dat .int fu, .dat .bool up, .dat .int un, .dat .int ug]] => some (some (0 ≤ so ∧ so ≤ 1 ∧ b.length ≤ 140737488355328), .one (.dat (.list .message) (prepareU b ⟨⟨ws, fu⟩, up, un, ug⟩ ⟨so, sb, sr⟩ ⟨mk, mu, mn, ma, mi, mw, my⟩).2), [.box [.dat (.list .int) (prepareU b ⟨⟨ws, fu⟩, up, un, ug⟩ ⟨so, sb, sr⟩ ⟨mk, mu, mn, ma, mi, mw, my⟩).1.f.words, .dat .int (prepareU b ⟨⟨ws, fu⟩, up, un, ug⟩ ⟨so, sb, sr⟩ ⟨mk, mu, mn, ma, mi, mw, my⟩).1.f.fuel, .dat .bool (prepareU b ⟨⟨ws, fu⟩, up, un, ug⟩ ⟨so, sb, sr⟩ ⟨mk, mu, mn, ma, mi, mw, my⟩).1.up, .dat .int (prepareU b ⟨⟨ws, fu⟩, up, un, ug⟩ ⟨so, sb, sr⟩ ⟨mk, mu, mn, ma, mi, mw, my⟩).1.n, .dat .int (prepareU b ⟨⟨ws, fu⟩, up, un, ug⟩ ⟨so, sb, sr⟩ ⟨mk, mu, mn, ma, mi, mw, my⟩).1.got]])
  | _, _ => none
def Γ_unit_prepare : Ctx := [(n_unit_prepare_1, c_unit_prepare_1), (n_slot_Body, c_slot_Body), (n_meta_ImageName, c_meta_ImageName), (n_slot_Seal, c_slot_Seal), (n_unit_change, c_unit_change), (n_slot_Image, c_slot_Image), (n_unit_note, c_unit_note), (n_slices_Equal_Lint, c_slices_Equal_Lint)]
theorem ok_unit_prepare : Ok Tryd.prog tab Γ_unit_prepare := ((((((((ok_nil.consC hf_slices_Equal_Lint hB_slices_Equal_Lint sound_slices_Equal_Lint).consC hf_unit_note hB_unit_note sound_unit_note).consC hf_slot_Image hB_slot_Image sound_slot_Image).consC hf_unit_change hB_unit_change sound_unit_change).consC hf_slot_Seal hB_slot_Seal sound_slot_Seal).consC hf_meta_ImageName hB_meta_ImageName sound_meta_ImageName).consC hf_slot_Body hB_slot_Body sound_slot_Body).consC hf_unit_prepare_1 hB_unit_prepare_1 sound_unit_prepare_1)
theorem unit_prepare_vc (b : List (List UInt8)) (ws : List Int) (fu : Int) (up : Bool) (un : Int) (ug : Int) (so : Int) (sb : Int) (sr : Int) (mk : Int) (mu : Int) (mn : Int) (ma : Int) (mi : Int) (mw : List Int) (my : Bool) (rec : List It → St → Prop) (K : V → List Blk → Prop) v0 (hv0 : v0 = (voteM (⟨mk, mu, mn, ma, mi, mw, my⟩ : Vm.Message) true)) v1 (hv1 : v1 = (voteM (⟨mk, mu, mn, ma, mi, mw, my⟩ : Vm.Message) false)) v2 (hv2 : v2 = (bodyS (⟨ws, fu⟩ : Vm.Flash) (w64 ((1 : Int) - so)) ma)) v3 (hv3 : v3 = (imageName b (v2).fst)) v4 (hv4 : v4 = (sealS (⟨ws, fu⟩ : Vm.Flash) (w64 ((1 : Int) - so)) ma mi)) v5 (hv5 : v5 = (changeU (⟨(⟨ws, fu⟩ : Vm.Flash), up, un, ug⟩ : Vm.UnitD) (⟨((v4).fst).words, ((v4).fst).fuel⟩ : Vm.Flash) (v4).snd)) v6 (hv6 : v6 = (imageS (⟨(((v5).fst).f).words, (((v5).fst).f).fuel⟩ : Vm.Flash) (w64 ((1 : Int) - so)))) v7 (hv7 : v7 = (eqIs (v6).fst (v2).fst)) v8 (hv8 : v8 = (noteU (⟨(⟨(((v5).fst).f).words, (((v5).fst).f).fuel⟩ : Vm.Flash), ((v5).fst).up, (0 : Int), (0 : Int)⟩ : Vm.UnitD) ((2 : Int) :: (mn :: [])))) : segD Γ_unit_prepare tab fn_unit_prepare 1 K rec [.code (bodyOf fn_unit_prepare)] (initSt [.agg [.dat (Ty.list Ty.str) b], .one (.ptr 0 0), .agg [.dat Ty.int so, .dat Ty.int sb, .dat Ty.int sr], .agg [.dat Ty.int mk, .dat Ty.int mu, .dat Ty.int mn, .dat Ty.int ma, .dat Ty.int mi, .dat (Ty.list Ty.int) mw, .dat Ty.bool my]] [.box [.dat (Ty.list Ty.int) ws, .dat Ty.int fu, .dat Ty.bool up, .dat Ty.int un, .dat Ty.int ug]]) = (
    br (lei mn sb)
     (K (.one (.dat (Ty.list Ty.message) ((⟨(6 : Int), mu, mn, (0 : Int), (0 : Int), [], false⟩ : Vm.Message) :: []))) [.box [.dat (Ty.list Ty.int) ws, .dat Ty.int fu, .dat Ty.bool up, .dat Ty.int un, .dat Ty.int ug]])
     (br (eqi sr mn)
       (K (.one (.dat (Ty.list Ty.message) v0)) [.box [.dat (Ty.list Ty.int) ws, .dat Ty.int fu, .dat Ty.bool up, .dat Ty.int un, .dat Ty.int ug]])
       (br (lti (0 : Int) sr)
         (K (.one (.dat (Ty.list Ty.message) v1)) [.box [.dat (Ty.list Ty.int) ws, .dat Ty.int fu, .dat Ty.bool up, .dat Ty.int un, .dat Ty.int ug]])
         (br (!(eqi (v2).snd (0 : Int)))
           (K (.one (.dat (Ty.list Ty.message) v1)) [.box [.dat (Ty.list Ty.int) ws, .dat Ty.int fu, .dat Ty.bool up, .dat Ty.int un, .dat Ty.int ug]])
           (br (!(eqi un mn))
             (K (.one (.dat (Ty.list Ty.message) v1)) [.box [.dat (Ty.list Ty.int) ws, .dat Ty.int fu, .dat Ty.bool up, .dat Ty.int un, .dat Ty.int ug]])
             (br (!(eqi ug ma))
               (K (.one (.dat (Ty.list Ty.message) v1)) [.box [.dat (Ty.list Ty.int) ws, .dat Ty.int fu, .dat Ty.bool up, .dat Ty.int un, .dat Ty.int ug]])
               (((List.length b) ≤ 140737488355328) ∧
                (br (!(eqi (v3).snd (0 : Int)))
                 (K (.one (.dat (Ty.list Ty.message) v1)) [.box [.dat (Ty.list Ty.int) ws, .dat Ty.int fu, .dat Ty.bool up, .dat Ty.int un, .dat Ty.int ug]])
                 (br (eqi (v3).fst (0 : Int))
                   (K (.one (.dat (Ty.list Ty.message) v1)) [.box [.dat (Ty.list Ty.int) ws, .dat Ty.int fu, .dat Ty.bool up, .dat Ty.int un, .dat Ty.int ug]])
                   (br (!(eqi (v3).fst mi))
                     (K (.one (.dat (Ty.list Ty.message) v1)) [.box [.dat (Ty.list Ty.int) ws, .dat Ty.int fu, .dat Ty.bool up, .dat Ty.int un, .dat Ty.int ug]])
                     (br (!(v5).snd)
                       (K (.one (.dat (Ty.list Ty.message) [])) [.box [.dat (Ty.list Ty.int) (((v5).fst).f).words, .dat Ty.int (((v5).fst).f).fuel, .dat Ty.bool ((v5).fst).up, .dat Ty.int ((v5).fst).n, .dat Ty.int ((v5).fst).got]])
                       (br (!(eqi ((v6).snd).snd (0 : Int)))
                         (K (.one (.dat (Ty.list Ty.message) v1)) [.box [.dat (Ty.list Ty.int) (((v5).fst).f).words, .dat Ty.int (((v5).fst).f).fuel, .dat Ty.bool ((v5).fst).up, .dat Ty.int (0 : Int), .dat Ty.int (0 : Int)]])
                         (br (!(eqi ((v6).snd).fst mi))
                           (K (.one (.dat (Ty.list Ty.message) v1)) [.box [.dat (Ty.list Ty.int) (((v5).fst).f).words, .dat Ty.int (((v5).fst).f).fuel, .dat Ty.bool ((v5).fst).up, .dat Ty.int (0 : Int), .dat Ty.int (0 : Int)]])
                           (((List.length (v6).fst) ≤ 140737488355328) ∧
                            (br (!v7)
                             (K (.one (.dat (Ty.list Ty.message) v1)) [.box [.dat (Ty.list Ty.int) (((v5).fst).f).words, .dat Ty.int (((v5).fst).f).fuel, .dat Ty.bool ((v5).fst).up, .dat Ty.int (0 : Int), .dat Ty.int (0 : Int)]])
                             (((List.length ((2 : Int) :: (mn :: []))) ≤ 140737488355328) ∧
                              (br (!(v8).snd)
                               (K (.one (.dat (Ty.list Ty.message) [])) [.box [.dat (Ty.list Ty.int) (((v8).fst).f).words, .dat Ty.int (((v8).fst).f).fuel, .dat Ty.bool ((v8).fst).up, .dat Ty.int ((v8).fst).n, .dat Ty.int ((v8).fst).got]])
                               (K (.one (.dat (Ty.list Ty.message) v0)) [.box [.dat (Ty.list Ty.int) (((v8).fst).f).words, .dat Ty.int (((v8).fst).f).fuel, .dat Ty.bool ((v8).fst).up, .dat Ty.int ((v8).fst).n, .dat Ty.int ((v8).fst).got]])))))))))))))))))) := by subst hv8; subst hv7; subst hv6; subst hv5; subst hv4; subst hv3; subst hv2; subst hv1; subst hv0; kernel_rfl
theorem unit_prepare_w (b : List (List UInt8)) (ws : List Int) (fu : Int) (up : Bool) (un : Int) (ug : Int) (so : Int) (sb : Int) (sr : Int) (mk : Int) (mu : Int) (mn : Int) (ma : Int) (mi : Int) (mw : List Int) (my : Bool) (m : Nat) (K : V → List Blk → Prop) : goD Γ_unit_prepare tab fn_unit_prepare 1 K (m + 1) [.code (bodyOf fn_unit_prepare)] (initSt [.agg [.dat (Ty.list Ty.str) b], .one (.ptr 0 0), .agg [.dat Ty.int so, .dat Ty.int sb, .dat Ty.int sr], .agg [.dat Ty.int mk, .dat Ty.int mu, .dat Ty.int mn, .dat Ty.int ma, .dat Ty.int mi, .dat (Ty.list Ty.int) mw, .dat Ty.bool my]] [.box [.dat (Ty.list Ty.int) ws, .dat Ty.int fu, .dat Ty.bool up, .dat Ty.int un, .dat Ty.int ug]]) = segD Γ_unit_prepare tab fn_unit_prepare 1 K (goD Γ_unit_prepare tab fn_unit_prepare 1 K m) [.code (bodyOf fn_unit_prepare)] (initSt [.agg [.dat (Ty.list Ty.str) b], .one (.ptr 0 0), .agg [.dat Ty.int so, .dat Ty.int sb, .dat Ty.int sr], .agg [.dat Ty.int mk, .dat Ty.int mu, .dat Ty.int mn, .dat Ty.int ma, .dat Ty.int mi, .dat (Ty.list Ty.int) mw, .dat Ty.bool my]] [.box [.dat (Ty.list Ty.int) ws, .dat Ty.int fu, .dat Ty.bool up, .dat Ty.int un, .dat Ty.int ug]]) := rfl

set_option maxHeartbeats 4000000 in
theorem run_unit_prepare (b : List (List UInt8)) (ws : List Int) (fu : Int) (up : Bool) (un ug : Int)(so sb sr : Int)(mk mu mn ma mi : Int) (mw : List Int) (my : Bool) (hp : 0 ≤ so ∧ so ≤ 1 ∧ b.length ≤ 140737488355328) (K : V → List Blk → Prop) (hK : K (.one (.dat (.list .message) (prepareU b ⟨⟨ws, fu⟩, up, un, ug⟩ ⟨so, sb, sr⟩ ⟨mk, mu, mn, ma, mi, mw, my⟩).2)) [.box [.dat (.list .int) (prepareU b ⟨⟨ws, fu⟩, up, un, ug⟩ ⟨so, sb, sr⟩ ⟨mk, mu, mn, ma, mi, mw, my⟩).1.f.words, .dat .int (prepareU b ⟨⟨ws, fu⟩, up, un, ug⟩ ⟨so, sb, sr⟩ ⟨mk, mu, mn, ma, mi, mw, my⟩).1.f.fuel, .dat .bool (prepareU b ⟨⟨ws, fu⟩, up, un, ug⟩ ⟨so, sb, sr⟩ ⟨mk, mu, mn, ma, mi, mw, my⟩).1.up, .dat .int (prepareU b ⟨⟨ws, fu⟩, up, un, ug⟩ ⟨so, sb, sr⟩ ⟨mk, mu, mn, ma, mi, mw, my⟩).1.n, .dat .int (prepareU b ⟨⟨ws, fu⟩, up, un, ug⟩ ⟨so, sb, sr⟩ ⟨mk, mu, mn, ma, mi, mw, my⟩).1.got]]) : ∃ m, goD Γ_unit_prepare tab fn_unit_prepare 1 K m [.code (bodyOf fn_unit_prepare)] (initSt [.agg [.dat (.list .str) b], .one (.ptr 0 0), .agg [.dat .int so, .dat .int sb, .dat .int sr], .agg [.dat .int mk, .dat .int mu, .dat .int mn, .dat .int ma, .dat .int mi, .dat (.list .int) mw, .dat .bool my]] [.box [.dat (.list .int) ws, .dat .int fu, .dat .bool up, .dat .int un, .dat .int ug]]) := by
  refine ⟨1, ?_⟩
  rw [unit_prepare_w, unit_prepare_vc _ _ _ _ _ _ _ _ _ _ _ _ _ _ _ _ _ _ _ rfl _ rfl _ rfl _ rfl _ rfl _ rfl _ rfl _ rfl _ rfl]
  obtain ⟨p1, p2, p3⟩ := hp
  rw [w64_id (n := 1 - so) (by omega) (by omega)]
  unfold prepareU at hK
  simp only at hK
  refine br_split (fun h => ?_) (fun h => eq_s (fun h2 => ?_) (fun h2 => lt_s (fun h3 => ?_) (fun h3 => ?_)))
  · rw [lei_true] at h; rw [if_pos h] at hK; exact hK
  · rw [lei_false] at h; rw [if_neg (by omega), if_pos h2] at hK; exact hK
  · rw [lei_false] at h; rw [if_neg (by omega), if_neg h2, if_pos h3] at hK; exact hK
  rw [lei_false] at h
  rw [if_neg (by omega), if_neg h2, if_neg (by omega)] at hK
  refine ne_s (fun h4 => ?_) (fun h4 => ne_s (fun h5 => ?_) (fun h5 => ne_s (fun h6 => ?_) (fun h6 => ⟨p3, ne_s (fun h7 => ?_) (fun h7 => eq_s (fun h8 => ?_) (fun h8 => ne_s (fun h9 => ?_) (fun h9 => ?_)))⟩)))
  · rw [if_neg (fun g => h4 g.1)] at hK; exact hK
  · rw [if_neg (fun g => h5 g.2.1)] at hK; exact hK
  · rw [if_neg (fun g => h6 g.2.2)] at hK; exact hK
  all_goals rw [if_pos ⟨h4, h5, h6⟩] at hK
  · rw [if_neg (fun g => h7 g.1)] at hK; exact hK
  · rw [if_neg (fun g => g.2.1 h8)] at hK; exact hK
  · rw [if_neg (fun g => h9 g.2.2)] at hK; exact hK
  rw [if_pos ⟨h7, h8, h9⟩] at hK
  refine nt_s (fun g => ?_) (fun g => ?_)
  · rw [if_neg (by rw [show (sealC ⟨⟨ws, fu⟩, up, un, ug⟩ ⟨so, sb, sr⟩ ⟨mk, mu, mn, ma, mi, mw, my⟩).2 = false from g]; simp)] at hK; exact hK
  rw [if_pos (show (sealC ⟨⟨ws, fu⟩, up, un, ug⟩ ⟨so, sb, sr⟩ ⟨mk, mu, mn, ma, mi, mw, my⟩).2 = true from g)] at hK
  obtain ⟨v5, hv⟩ : ∃ v5, sealC ⟨⟨ws, fu⟩, up, un, ug⟩ ⟨so, sb, sr⟩ ⟨mk, mu, mn, ma, mi, mw, my⟩ = v5 := ⟨_, rfl⟩
  rw [hv] at hK
  have hv' : changeU ⟨⟨ws, fu⟩, up, un, ug⟩ (sealS ⟨ws, fu⟩ (1 - so) ma mi).1 (sealS ⟨ws, fu⟩ (1 - so) ma mi).2 = v5 := hv
  unfold sealedU at hK
  simp only at hK
  refine ne_s (fun k1 => ?_) (fun k1 => ne_s (fun k2 => ?_) (fun k2 => ⟨?_, nt_s (fun k3 => ?_) (fun k3 => ⟨by simp, nt_s (fun k4 => ?_) (fun k4 => ?_)⟩)⟩))
  · rw [hv'] at k1 ⊢; rw [if_neg (fun g => k1 g.1)] at hK; exact hK
  · rw [hv'] at k2 ⊢; rw [if_neg (fun g => k2 g.2.1)] at hK; exact hK
  · rw [hv'] at k1 ⊢
    exact imageS_sm k1
  · rw [hv'] at k3 ⊢
    rw [if_neg (fun g => by rw [show eqIs _ _ = true from decide_eq_true g.2.2] at k3; cases k3)] at hK; exact hK
  · rw [hv'] at k1 k2 k3 k4 ⊢
    rw [if_pos ⟨k1, k2, of_decide_eq_true k3⟩, if_neg (by rw [show (noteU _ _).2 = false from k4]; simp)] at hK; exact hK
  · rw [hv'] at k1 k2 k3 k4 ⊢
    rw [if_pos ⟨k1, k2, of_decide_eq_true k3⟩, if_pos k4] at hK; exact hK
theorem sound_unit_prepare : SoundC Tryd.prog tab n_unit_prepare c_unit_prepare := soundC_of ok_unit_prepare hf_unit_prepare hB_unit_prepare (by
  intro vs bs p v bs' h hp
  unfold c_unit_prepare at h
  split at h
  · cases h
    exact ⟨by kernel_rfl, rfl, .inl (run_unit_prepare _ _ _ _ _ _ _ _ _ _ _ _ _ _ _ _ hp.1 _ ⟨rfl, rfl⟩)⟩
  · cases h)

def c_unit_decided : Contract := fun vs bs => match vs, bs with
  | [.one (.ptr 0 0), .agg [.dat .int so, .dat .int sb, .dat .int sr], .agg [.dat .int mk, .dat .int mu, .dat .int mn, .dat .int ma, .dat .int mi, .dat (.list .int) mw, .dat .bool my]], [.box [.dat (.list .int) ws, .dat .int fu, .dat .bool up, .dat .int un, .dat .int ug]] => some (some (0 ≤ so ∧ so ≤ 1), .one (.dat (.list .message) (decidedU ⟨⟨ws, fu⟩, up, un, ug⟩ ⟨so, sb, sr⟩ ⟨mk, mu, mn, ma, mi, mw, my⟩).2), [.box [.dat (.list .int) (decidedU ⟨⟨ws, fu⟩, up, un, ug⟩ ⟨so, sb, sr⟩ ⟨mk, mu, mn, ma, mi, mw, my⟩).1.f.words, .dat .int (decidedU ⟨⟨ws, fu⟩, up, un, ug⟩ ⟨so, sb, sr⟩ ⟨mk, mu, mn, ma, mi, mw, my⟩).1.f.fuel, .dat .bool (decidedU ⟨⟨ws, fu⟩, up, un, ug⟩ ⟨so, sb, sr⟩ ⟨mk, mu, mn, ma, mi, mw, my⟩).1.up, .dat .int (decidedU ⟨⟨ws, fu⟩, up, un, ug⟩ ⟨so, sb, sr⟩ ⟨mk, mu, mn, ma, mi, mw, my⟩).1.n, .dat .int (decidedU ⟨⟨ws, fu⟩, up, un, ug⟩ ⟨so, sb, sr⟩ ⟨mk, mu, mn, ma, mi, mw, my⟩).1.got]])
  | _, _ => none
def Γ_unit_decided : Ctx := [(n_unit_note, c_unit_note)]
theorem ok_unit_decided : Ok Tryd.prog tab Γ_unit_decided := (ok_nil.consC hf_unit_note hB_unit_note sound_unit_note)
theorem unit_decided_vc (ws : List Int) (fu : Int) (up : Bool) (un : Int) (ug : Int) (so : Int) (sb : Int) (sr : Int) (mk : Int) (mu : Int) (mn : Int) (ma : Int) (mi : Int) (mw : List Int) (my : Bool) (rec : List It → St → Prop) (K : V → List Blk → Prop) v0 (hv0 : v0 = (noteU (⟨(⟨ws, fu⟩ : Vm.Flash), up, un, ug⟩ : Vm.UnitD) ((1 : Int) :: ((w64 ((1 : Int) - so)) :: (mn :: []))))) v1 (hv1 : v1 = (noteU (⟨(⟨ws, fu⟩ : Vm.Flash), up, un, ug⟩ : Vm.UnitD) ((3 : Int) :: (mn :: [])))) : segD Γ_unit_decided tab fn_unit_decided 1 K rec [.code (bodyOf fn_unit_decided)] (initSt [.one (.ptr 0 0), .agg [.dat Ty.int so, .dat Ty.int sb, .dat Ty.int sr], .agg [.dat Ty.int mk, .dat Ty.int mu, .dat Ty.int mn, .dat Ty.int ma, .dat Ty.int mi, .dat (Ty.list Ty.int) mw, .dat Ty.bool my]] [.box [.dat (Ty.list Ty.int) ws, .dat Ty.int fu, .dat Ty.bool up, .dat Ty.int un, .dat Ty.int ug]]) = (
    br (eqi mk (4 : Int))
     (br (eqi sb mn)
       (K (.one (.dat (Ty.list Ty.message) ((⟨(6 : Int), mu, mn, (0 : Int), (0 : Int), [], false⟩ : Vm.Message) :: []))) [.box [.dat (Ty.list Ty.int) ws, .dat Ty.int fu, .dat Ty.bool up, .dat Ty.int un, .dat Ty.int ug]])
       (br (!(eqi sr mn))
         (K (.one (.dat (Ty.list Ty.message) [])) [.box [.dat (Ty.list Ty.int) ws, .dat Ty.int fu, .dat Ty.bool up, .dat Ty.int un, .dat Ty.int ug]])
         (((List.length ((1 : Int) :: ((w64 ((1 : Int) - so)) :: (mn :: [])))) ≤ 140737488355328) ∧
          (br (!(v0).snd)
           (K (.one (.dat (Ty.list Ty.message) [])) [.box [.dat (Ty.list Ty.int) (((v0).fst).f).words, .dat Ty.int (((v0).fst).f).fuel, .dat Ty.bool ((v0).fst).up, .dat Ty.int ((v0).fst).n, .dat Ty.int ((v0).fst).got]])
           (K (.one (.dat (Ty.list Ty.message) ((⟨(6 : Int), mu, mn, (0 : Int), (0 : Int), [], false⟩ : Vm.Message) :: []))) [.box [.dat (Ty.list Ty.int) (((v0).fst).f).words, .dat Ty.int (((v0).fst).f).fuel, .dat Ty.bool ((v0).fst).up, .dat Ty.int ((v0).fst).n, .dat Ty.int ((v0).fst).got]])))))
     (br (lei mn sb)
       (K (.one (.dat (Ty.list Ty.message) [])) [.box [.dat (Ty.list Ty.int) ws, .dat Ty.int fu, .dat Ty.bool up, .dat Ty.int un, .dat Ty.int ug]])
       (br (eqi sr mn)
         (((List.length ((3 : Int) :: (mn :: []))) ≤ 140737488355328) ∧
          (br (!(v1).snd)
           (K (.one (.dat (Ty.list Ty.message) [])) [.box [.dat (Ty.list Ty.int) (((v1).fst).f).words, .dat Ty.int (((v1).fst).f).fuel, .dat Ty.bool ((v1).fst).up, .dat Ty.int ((v1).fst).n, .dat Ty.int ((v1).fst).got]])
           (br (eqi ((v1).fst).n mn)
             (K (.one (.dat (Ty.list Ty.message) ((⟨(6 : Int), mu, mn, (0 : Int), (0 : Int), [], false⟩ : Vm.Message) :: []))) [.box [.dat (Ty.list Ty.int) (((v1).fst).f).words, .dat Ty.int (((v1).fst).f).fuel, .dat Ty.bool ((v1).fst).up, .dat Ty.int (0 : Int), .dat Ty.int (0 : Int)]])
             (K (.one (.dat (Ty.list Ty.message) ((⟨(6 : Int), mu, mn, (0 : Int), (0 : Int), [], false⟩ : Vm.Message) :: []))) [.box [.dat (Ty.list Ty.int) (((v1).fst).f).words, .dat Ty.int (((v1).fst).f).fuel, .dat Ty.bool ((v1).fst).up, .dat Ty.int ((v1).fst).n, .dat Ty.int ((v1).fst).got]]))))
         (br (eqi un mn)
           (K (.one (.dat (Ty.list Ty.message) ((⟨(6 : Int), mu, mn, (0 : Int), (0 : Int), [], false⟩ : Vm.Message) :: []))) [.box [.dat (Ty.list Ty.int) ws, .dat Ty.int fu, .dat Ty.bool up, .dat Ty.int (0 : Int), .dat Ty.int (0 : Int)]])
           (K (.one (.dat (Ty.list Ty.message) ((⟨(6 : Int), mu, mn, (0 : Int), (0 : Int), [], false⟩ : Vm.Message) :: []))) [.box [.dat (Ty.list Ty.int) ws, .dat Ty.int fu, .dat Ty.bool up, .dat Ty.int un, .dat Ty.int ug]]))))) := by subst hv1; subst hv0; kernel_rfl
theorem unit_decided_w (ws : List Int) (fu : Int) (up : Bool) (un : Int) (ug : Int) (so : Int) (sb : Int) (sr : Int) (mk : Int) (mu : Int) (mn : Int) (ma : Int) (mi : Int) (mw : List Int) (my : Bool) (m : Nat) (K : V → List Blk → Prop) : goD Γ_unit_decided tab fn_unit_decided 1 K (m + 1) [.code (bodyOf fn_unit_decided)] (initSt [.one (.ptr 0 0), .agg [.dat Ty.int so, .dat Ty.int sb, .dat Ty.int sr], .agg [.dat Ty.int mk, .dat Ty.int mu, .dat Ty.int mn, .dat Ty.int ma, .dat Ty.int mi, .dat (Ty.list Ty.int) mw, .dat Ty.bool my]] [.box [.dat (Ty.list Ty.int) ws, .dat Ty.int fu, .dat Ty.bool up, .dat Ty.int un, .dat Ty.int ug]]) = segD Γ_unit_decided tab fn_unit_decided 1 K (goD Γ_unit_decided tab fn_unit_decided 1 K m) [.code (bodyOf fn_unit_decided)] (initSt [.one (.ptr 0 0), .agg [.dat Ty.int so, .dat Ty.int sb, .dat Ty.int sr], .agg [.dat Ty.int mk, .dat Ty.int mu, .dat Ty.int mn, .dat Ty.int ma, .dat Ty.int mi, .dat (Ty.list Ty.int) mw, .dat Ty.bool my]] [.box [.dat (Ty.list Ty.int) ws, .dat Ty.int fu, .dat Ty.bool up, .dat Ty.int un, .dat Ty.int ug]]) := rfl

set_option maxHeartbeats 4000000 in
theorem run_unit_decided (ws : List Int) (fu : Int) (up : Bool) (un ug : Int)(so sb sr : Int)(mk mu mn ma mi : Int) (mw : List Int) (my : Bool) (hp : 0 ≤ so ∧ so ≤ 1) (K : V → List Blk → Prop) (hK : K (.one (.dat (.list .message) (decidedU ⟨⟨ws, fu⟩, up, un, ug⟩ ⟨so, sb, sr⟩ ⟨mk, mu, mn, ma, mi, mw, my⟩).2)) [.box [.dat (.list .int) (decidedU ⟨⟨ws, fu⟩, up, un, ug⟩ ⟨so, sb, sr⟩ ⟨mk, mu, mn, ma, mi, mw, my⟩).1.f.words, .dat .int (decidedU ⟨⟨ws, fu⟩, up, un, ug⟩ ⟨so, sb, sr⟩ ⟨mk, mu, mn, ma, mi, mw, my⟩).1.f.fuel, .dat .bool (decidedU ⟨⟨ws, fu⟩, up, un, ug⟩ ⟨so, sb, sr⟩ ⟨mk, mu, mn, ma, mi, mw, my⟩).1.up, .dat .int (decidedU ⟨⟨ws, fu⟩, up, un, ug⟩ ⟨so, sb, sr⟩ ⟨mk, mu, mn, ma, mi, mw, my⟩).1.n, .dat .int (decidedU ⟨⟨ws, fu⟩, up, un, ug⟩ ⟨so, sb, sr⟩ ⟨mk, mu, mn, ma, mi, mw, my⟩).1.got]]) : ∃ m, goD Γ_unit_decided tab fn_unit_decided 1 K m [.code (bodyOf fn_unit_decided)] (initSt [.one (.ptr 0 0), .agg [.dat .int so, .dat .int sb, .dat .int sr], .agg [.dat .int mk, .dat .int mu, .dat .int mn, .dat .int ma, .dat .int mi, .dat (.list .int) mw, .dat .bool my]] [.box [.dat (.list .int) ws, .dat .int fu, .dat .bool up, .dat .int un, .dat .int ug]]) := by
  refine ⟨1, ?_⟩
  rw [unit_decided_w, unit_decided_vc _ _ _ _ _ _ _ _ _ _ _ _ _ _ _ _ _ _ rfl _ rfl]
  obtain ⟨p1, p2⟩ := hp
  rw [w64_id (n := 1 - so) (by omega) (by omega)]
  unfold decidedU at hK
  simp only at hK
  refine eq_s (fun h => ?_) (fun h => ?_)
  · rw [if_pos h] at hK
    refine eq_s (fun h2 => ?_) (fun h2 => ne_s (fun h3 => ?_) (fun h3 => ⟨by simp, nt_s (fun h4 => ?_) (fun h4 => ?_)⟩))
    · rw [if_pos h2] at hK; exact hK
    · rw [if_neg h2, if_neg h3] at hK; exact hK
    · rw [if_neg h2, if_pos h3, if_neg (by rw [h4]; simp)] at hK; exact hK
    · rw [if_neg h2, if_pos h3, if_pos h4] at hK; exact hK
  · rw [if_neg h] at hK
    refine br_split (fun h2 => ?_) (fun h2 => eq_s (fun h3 => ⟨by simp, nt_s (fun h4 => ?_) (fun h4 => ?_)⟩) (fun h3 => ?_))
    · rw [lei_true] at h2; rw [if_pos h2] at hK; exact hK
    · rw [lei_false] at h2; rw [if_neg (by omega), if_pos h3, if_neg (by rw [h4]; simp)] at hK; exact hK
    · rw [lei_false] at h2; rw [if_neg (by omega), if_pos h3, if_pos h4] at hK
      unfold goneU at hK
      refine eq_s (fun h5 => ?_) (fun h5 => ?_)
      · rw [if_pos h5] at hK; exact hK
      · rw [if_neg h5] at hK; exact hK
    · rw [lei_false] at h2; rw [if_neg (by omega), if_neg h3] at hK
      unfold goneU at hK
      refine eq_s (fun h5 => ?_) (fun h5 => ?_)
      · rw [if_pos h5] at hK; exact hK
      · rw [if_neg h5] at hK; exact hK
theorem sound_unit_decided : SoundC Tryd.prog tab n_unit_decided c_unit_decided := soundC_of ok_unit_decided hf_unit_decided hB_unit_decided (by
  intro vs bs p v bs' h hp
  unfold c_unit_decided at h
  split at h
  · cases h
    exact ⟨by kernel_rfl, rfl, .inl (run_unit_decided _ _ _ _ _ _ _ _ _ _ _ _ _ _ _ hp.1 _ ⟨rfl, rfl⟩)⟩
  · cases h)

def c_unit_Hear : Contract := fun vs bs => match vs, bs with
  | [.agg [.dat (.list .str) b], .agg [.dat (.list .int) ws, .dat .int fu, .dat .bool up, .dat .int un, .dat .int ug], .agg [.dat .int mk, .dat .int mu, .dat .int mn, .dat .int ma, .dat .int mi, .dat (.list .int) mw, .dat .bool my]], [] => some (some (b.length ≤ 140737488355328), .tup [.agg [.dat (.list .int) (hearU b ⟨⟨ws, fu⟩, up, un, ug⟩ ⟨mk, mu, mn, ma, mi, mw, my⟩).1.1.f.words, .dat .int (hearU b ⟨⟨ws, fu⟩, up, un, ug⟩ ⟨mk, mu, mn, ma, mi, mw, my⟩).1.1.f.fuel, .dat .bool (hearU b ⟨⟨ws, fu⟩, up, un, ug⟩ ⟨mk, mu, mn, ma, mi, mw, my⟩).1.1.up, .dat .int (hearU b ⟨⟨ws, fu⟩, up, un, ug⟩ ⟨mk, mu, mn, ma, mi, mw, my⟩).1.1.n, .dat .int (hearU b ⟨⟨ws, fu⟩, up, un, ug⟩ ⟨mk, mu, mn, ma, mi, mw, my⟩).1.1.got], .one (.dat (.list .message) (hearU b ⟨⟨ws, fu⟩, up, un, ug⟩ ⟨mk, mu, mn, ma, mi, mw, my⟩).1.2), .one (.dat .int (hearU b ⟨⟨ws, fu⟩, up, un, ug⟩ ⟨mk, mu, mn, ma, mi, mw, my⟩).2)], [])
  | _, _ => none
def Γ_unit_Hear : Ctx := [(n_meta_CheckBook, c_meta_CheckBook), (n_unit_Check, c_unit_Check), (n_unit_CheckMessage, c_unit_CheckMessage), (n_unit_Copy, c_unit_Copy), (n_unit_of, c_unit_of), (n_unit_piece, c_unit_piece), (n_unit_prepare, c_unit_prepare), (n_unit_decided, c_unit_decided)]
theorem ok_unit_Hear : Ok Tryd.prog tab Γ_unit_Hear := ((((((((ok_nil.consC hf_unit_decided hB_unit_decided sound_unit_decided).consC hf_unit_prepare hB_unit_prepare sound_unit_prepare).consC hf_unit_piece hB_unit_piece sound_unit_piece).consC hf_unit_of hB_unit_of sound_unit_of).consC hf_unit_Copy hB_unit_Copy sound_unit_Copy).consC hf_unit_CheckMessage hB_unit_CheckMessage sound_unit_CheckMessage).consC hf_unit_Check hB_unit_Check sound_unit_Check).consC hf_meta_CheckBook hB_meta_CheckBook sound_meta_CheckBook)
theorem unit_Hear_vc (b : List (List UInt8)) (ws : List Int) (fu : Int) (up : Bool) (un : Int) (ug : Int) (mk : Int) (mu : Int) (mn : Int) (ma : Int) (mi : Int) (mw : List Int) (my : Bool) (rec : List It → St → Prop) (K : V → List Blk → Prop) v0 (hv0 : v0 = (checkBook b)) v1 (hv1 : v1 = (checkU (⟨(⟨ws, fu⟩ : Vm.Flash), up, un, ug⟩ : Vm.UnitD))) v2 (hv2 : v2 = (checkM (⟨mk, mu, mn, ma, mi, mw, my⟩ : Vm.Message))) v3 (hv3 : v3 = (ofU (⟨ws, fu⟩ : Vm.Flash))) v4 (hv4 : v4 = (pieceU (⟨(⟨ws, fu⟩ : Vm.Flash), up, un, ug⟩ : Vm.UnitD) (⟨(v3).slot, (v3).by_, (v3).ready⟩ : Vm.UState) (⟨mk, mu, mn, ma, mi, mw, my⟩ : Vm.Message))) v5 (hv5 : v5 = (prepareU b (⟨(⟨ws, fu⟩ : Vm.Flash), up, un, ug⟩ : Vm.UnitD) (⟨(v3).slot, (v3).by_, (v3).ready⟩ : Vm.UState) (⟨mk, mu, mn, ma, mi, mw, my⟩ : Vm.Message))) v6 (hv6 : v6 = (decidedU (⟨(⟨ws, fu⟩ : Vm.Flash), up, un, ug⟩ : Vm.UnitD) (⟨(v3).slot, (v3).by_, (v3).ready⟩ : Vm.UState) (⟨mk, mu, mn, ma, mi, mw, my⟩ : Vm.Message))) : segD Γ_unit_Hear tab fn_unit_Hear 0 K rec [.code (bodyOf fn_unit_Hear)] (initSt [.agg [.dat (Ty.list Ty.str) b], .agg [.dat (Ty.list Ty.int) ws, .dat Ty.int fu, .dat Ty.bool up, .dat Ty.int un, .dat Ty.int ug], .agg [.dat Ty.int mk, .dat Ty.int mu, .dat Ty.int mn, .dat Ty.int ma, .dat Ty.int mi, .dat (Ty.list Ty.int) mw, .dat Ty.bool my]] []) = (
    br (!(eqi v0 (0 : Int)))
     (K (.tup [.agg [.dat (Ty.list Ty.int) [], .dat Ty.int (0 : Int), .dat Ty.bool false, .dat Ty.int (0 : Int), .dat Ty.int (0 : Int)], .one (.dat (Ty.list Ty.message) []), .one (.dat Ty.int v0)]) [])
     (br (!(eqi v1 (0 : Int)))
       (K (.tup [.agg [.dat (Ty.list Ty.int) [], .dat Ty.int (0 : Int), .dat Ty.bool false, .dat Ty.int (0 : Int), .dat Ty.int (0 : Int)], .one (.dat (Ty.list Ty.message) []), .one (.dat Ty.int v1)]) [])
       (br (!(eqi v2 (0 : Int)))
         (K (.tup [.agg [.dat (Ty.list Ty.int) [], .dat Ty.int (0 : Int), .dat Ty.bool false, .dat Ty.int (0 : Int), .dat Ty.int (0 : Int)], .one (.dat (Ty.list Ty.message) []), .one (.dat Ty.int v2)]) [])
         ((((len ws) * 8) ≤ 140737488355328) ∧
          (br (!up)
           (K (.tup [.agg [.dat (Ty.list Ty.int) ws, .dat Ty.int fu, .dat Ty.bool up, .dat Ty.int un, .dat Ty.int ug], .one (.dat (Ty.list Ty.message) []), .one (.dat Ty.int (0 : Int))]) [])
           (br (eqi mk (1 : Int))
             ((((0 : Int) ≤ (v3).slot) ∧ (((v3).slot ≤ (1 : Int)) ∧ (((0 : Int) ≤ ma) ∧ ((ma ≤ (40 : Int)) ∧ ((len mw) ≤ 8))))) ∧
              (K (.tup [.agg [.dat (Ty.list Ty.int) ((v4).f).words, .dat Ty.int ((v4).f).fuel, .dat Ty.bool (v4).up, .dat Ty.int (v4).n, .dat Ty.int (v4).got], .one (.dat (Ty.list Ty.message) []), .one (.dat Ty.int (0 : Int))]) []))
             (br (eqi mk (2 : Int))
               ((((0 : Int) ≤ (v3).slot) ∧ (((v3).slot ≤ (1 : Int)) ∧ ((List.length b) ≤ 140737488355328))) ∧
                (K (.tup [.agg [.dat (Ty.list Ty.int) (((v5).fst).f).words, .dat Ty.int (((v5).fst).f).fuel, .dat Ty.bool ((v5).fst).up, .dat Ty.int ((v5).fst).n, .dat Ty.int ((v5).fst).got], .one (.dat (Ty.list Ty.message) (v5).snd), .one (.dat Ty.int (0 : Int))]) []))
               (br (eqi mk (4 : Int))
                 (br (eqi mk (4 : Int))
                   ((((0 : Int) ≤ (v3).slot) ∧ ((v3).slot ≤ (1 : Int))) ∧
                    (K (.tup [.agg [.dat (Ty.list Ty.int) (((v6).fst).f).words, .dat Ty.int (((v6).fst).f).fuel, .dat Ty.bool ((v6).fst).up, .dat Ty.int ((v6).fst).n, .dat Ty.int ((v6).fst).got], .one (.dat (Ty.list Ty.message) (v6).snd), .one (.dat Ty.int (0 : Int))]) []))
                   (K (.tup [.agg [.dat (Ty.list Ty.int) ws, .dat Ty.int fu, .dat Ty.bool up, .dat Ty.int un, .dat Ty.int ug], .one (.dat (Ty.list Ty.message) []), .one (.dat Ty.int (0 : Int))]) []))
                 (br (eqi mk (5 : Int))
                   ((((0 : Int) ≤ (v3).slot) ∧ ((v3).slot ≤ (1 : Int))) ∧
                    (K (.tup [.agg [.dat (Ty.list Ty.int) (((v6).fst).f).words, .dat Ty.int (((v6).fst).f).fuel, .dat Ty.bool ((v6).fst).up, .dat Ty.int ((v6).fst).n, .dat Ty.int ((v6).fst).got], .one (.dat (Ty.list Ty.message) (v6).snd), .one (.dat Ty.int (0 : Int))]) []))
                   (K (.tup [.agg [.dat (Ty.list Ty.int) ws, .dat Ty.int fu, .dat Ty.bool up, .dat Ty.int un, .dat Ty.int ug], .one (.dat (Ty.list Ty.message) []), .one (.dat Ty.int (0 : Int))]) [])))))))))) := by subst hv6; subst hv5; subst hv4; subst hv3; subst hv2; subst hv1; subst hv0; kernel_rfl
theorem unit_Hear_w (b : List (List UInt8)) (ws : List Int) (fu : Int) (up : Bool) (un : Int) (ug : Int) (mk : Int) (mu : Int) (mn : Int) (ma : Int) (mi : Int) (mw : List Int) (my : Bool) (m : Nat) (K : V → List Blk → Prop) : goD Γ_unit_Hear tab fn_unit_Hear 0 K (m + 1) [.code (bodyOf fn_unit_Hear)] (initSt [.agg [.dat (Ty.list Ty.str) b], .agg [.dat (Ty.list Ty.int) ws, .dat Ty.int fu, .dat Ty.bool up, .dat Ty.int un, .dat Ty.int ug], .agg [.dat Ty.int mk, .dat Ty.int mu, .dat Ty.int mn, .dat Ty.int ma, .dat Ty.int mi, .dat (Ty.list Ty.int) mw, .dat Ty.bool my]] []) = segD Γ_unit_Hear tab fn_unit_Hear 0 K (goD Γ_unit_Hear tab fn_unit_Hear 0 K m) [.code (bodyOf fn_unit_Hear)] (initSt [.agg [.dat (Ty.list Ty.str) b], .agg [.dat (Ty.list Ty.int) ws, .dat Ty.int fu, .dat Ty.bool up, .dat Ty.int un, .dat Ty.int ug], .agg [.dat Ty.int mk, .dat Ty.int mu, .dat Ty.int mn, .dat Ty.int ma, .dat Ty.int mi, .dat (Ty.list Ty.int) mw, .dat Ty.bool my]] []) := rfl

set_option maxHeartbeats 4000000 in
theorem run_unit_Hear (b : List (List UInt8)) (ws : List Int) (fu : Int) (up : Bool) (un ug : Int)(mk mu mn ma mi : Int) (mw : List Int) (my : Bool) (hp : b.length ≤ 140737488355328) (K : V → List Blk → Prop) (hK : K (.tup [.agg [.dat (.list .int) (hearU b ⟨⟨ws, fu⟩, up, un, ug⟩ ⟨mk, mu, mn, ma, mi, mw, my⟩).1.1.f.words, .dat .int (hearU b ⟨⟨ws, fu⟩, up, un, ug⟩ ⟨mk, mu, mn, ma, mi, mw, my⟩).1.1.f.fuel, .dat .bool (hearU b ⟨⟨ws, fu⟩, up, un, ug⟩ ⟨mk, mu, mn, ma, mi, mw, my⟩).1.1.up, .dat .int (hearU b ⟨⟨ws, fu⟩, up, un, ug⟩ ⟨mk, mu, mn, ma, mi, mw, my⟩).1.1.n, .dat .int (hearU b ⟨⟨ws, fu⟩, up, un, ug⟩ ⟨mk, mu, mn, ma, mi, mw, my⟩).1.1.got], .one (.dat (.list .message) (hearU b ⟨⟨ws, fu⟩, up, un, ug⟩ ⟨mk, mu, mn, ma, mi, mw, my⟩).1.2), .one (.dat .int (hearU b ⟨⟨ws, fu⟩, up, un, ug⟩ ⟨mk, mu, mn, ma, mi, mw, my⟩).2)]) []) : ∃ m, goD Γ_unit_Hear tab fn_unit_Hear 0 K m [.code (bodyOf fn_unit_Hear)] (initSt [.agg [.dat (.list .str) b], .agg [.dat (.list .int) ws, .dat .int fu, .dat .bool up, .dat .int un, .dat .int ug], .agg [.dat .int mk, .dat .int mu, .dat .int mn, .dat .int ma, .dat .int mi, .dat (.list .int) mw, .dat .bool my]] []) := by
  refine ⟨1, ?_⟩
  rw [unit_Hear_w, unit_Hear_vc _ _ _ _ _ _ _ _ _ _ _ _ _ _ _ _ rfl _ rfl _ rfl _ rfl _ rfl _ rfl _ rfl]
  have bad : ∀ e : Int, e ≠ 0 → hearE b ⟨⟨ws, fu⟩, up, un, ug⟩ ⟨mk, mu, mn, ma, mi, mw, my⟩ = e → K (.tup [.agg [.dat (.list .int) [], .dat .int 0, .dat .bool false, .dat .int 0, .dat .int 0], .one (.dat (.list .message) []), .one (.dat .int e)]) [] := fun e he h => by
    rw [show hearU b ⟨⟨ws, fu⟩, up, un, ug⟩ ⟨mk, mu, mn, ma, mi, mw, my⟩ = ((noUnit, []), e) from by unfold hearU; rw [if_neg (by rw [h]; exact he), h]] at hK
    exact hK
  refine ne_s (fun h => bad _ h (if_neg h)) (fun h => ?_)
  have E1 : hearE b ⟨⟨ws, fu⟩, up, un, ug⟩ ⟨mk, mu, mn, ma, mi, mw, my⟩ = _ := if_pos h
  refine ne_s (fun h2 => bad _ h2 (E1.trans (if_neg h2))) (fun h2 => ?_)
  have E2 := E1.trans (if_pos h2)
  refine ne_s (fun h3 => bad _ h3 E2) (fun h3 => ?_)
  rw [show hearU b ⟨⟨ws, fu⟩, up, un, ug⟩ ⟨mk, mu, mn, ma, mi, mw, my⟩ = (hearsU b ⟨⟨ws, fu⟩, up, un, ug⟩ ⟨mk, mu, mn, ma, mi, mw, my⟩, 0) from if_pos (E2.trans h3)] at hK
  obtain ⟨_, c2, _⟩ := checkU_ok h2
  obtain ⟨_, _, _, _, _, _, m1, m2, _, _, m3, _⟩ := checkM_ok h3
  obtain ⟨⟨s1, s2⟩, _⟩ := ofU_ok ⟨ws, fu⟩
  simp only at c2 m1 m2 m3
  unfold hearsU at hK
  simp only at hK
  refine ⟨by simp only [len]; omega, nt_s (fun h4 => ?_) (fun h4 => ?_)⟩
  · rw [if_neg (by rw [h4]; simp)] at hK; exact hK
  rw [if_pos h4] at hK
  refine eq_s (fun h5 => ⟨⟨s1, s2, m1, m2, m3⟩, ?_⟩) (fun h5 => eq_s (fun h6 => ⟨⟨s1, s2, hp⟩, ?_⟩) (fun h6 => eq_s (fun h7 => eq_t h7 ⟨⟨s1, s2⟩, ?_⟩) (fun h7 => eq_s (fun h8 => ⟨⟨s1, s2⟩, ?_⟩) (fun h8 => ?_))))
  · rw [if_pos h5] at hK; exact hK
  · rw [if_neg h5, if_pos h6] at hK; exact hK
  · rw [if_neg h5, if_neg h6, if_pos (.inl h7)] at hK; exact hK
  · rw [if_neg h5, if_neg h6, if_pos (.inr h8)] at hK; exact hK
  · rw [if_neg h5, if_neg h6, if_neg (by omega)] at hK; exact hK
theorem sound_unit_Hear : SoundC Tryd.prog tab n_unit_Hear c_unit_Hear := soundC_of ok_unit_Hear hf_unit_Hear hB_unit_Hear (by
  intro vs bs p v bs' h hp
  unfold c_unit_Hear at h
  split at h
  · cases h
    exact ⟨by kernel_rfl, rfl, .inl (run_unit_Hear _ _ _ _ _ _ _ _ _ _ _ _ _ hp.1 _ ⟨rfl, rfl⟩)⟩
  · cases h)

def c_unit_Runs : Contract := fun vs bs => match vs, bs with
  | [.agg [.dat (.list .int) ws, .dat .int fu, .dat .bool up, .dat .int un, .dat .int ug]], [] => some (none, .tup [.one (.dat (.list .int) (runsU ⟨⟨ws, fu⟩, up, un, ug⟩).1), .one (.dat .int (runsU ⟨⟨ws, fu⟩, up, un, ug⟩).2.1), .one (.dat .int (runsU ⟨⟨ws, fu⟩, up, un, ug⟩).2.2)], [])
  | _, _ => none
def Γ_unit_Runs : Ctx := [(n_unit_Check, c_unit_Check), (n_unit_of, c_unit_of), (n_slot_Image, c_slot_Image)]
theorem ok_unit_Runs : Ok Tryd.prog tab Γ_unit_Runs := (((ok_nil.consC hf_slot_Image hB_slot_Image sound_slot_Image).consC hf_unit_of hB_unit_of sound_unit_of).consC hf_unit_Check hB_unit_Check sound_unit_Check)
theorem unit_Runs_vc (ws : List Int) (fu : Int) (up : Bool) (un : Int) (ug : Int) (rec : List It → St → Prop) (K : V → List Blk → Prop) v0 (hv0 : v0 = (checkU (⟨(⟨ws, fu⟩ : Vm.Flash), up, un, ug⟩ : Vm.UnitD))) v1 (hv1 : v1 = (ofU (⟨ws, fu⟩ : Vm.Flash))) v2 (hv2 : v2 = (imageS (⟨ws, fu⟩ : Vm.Flash) (v1).slot)) : segD Γ_unit_Runs tab fn_unit_Runs 0 K rec [.code (bodyOf fn_unit_Runs)] (initSt [.agg [.dat (Ty.list Ty.int) ws, .dat Ty.int fu, .dat Ty.bool up, .dat Ty.int un, .dat Ty.int ug]] []) = (
    br (!(eqi v0 (0 : Int)))
     (K (.tup [.one (.dat (Ty.list Ty.int) []), .one (.dat Ty.int (0 : Int)), .one (.dat Ty.int v0)]) [])
     (K (.tup [.one (.dat (Ty.list Ty.int) (v2).fst), .one (.dat Ty.int ((v2).snd).fst), .one (.dat Ty.int ((v2).snd).snd)]) [])) := by subst hv2; subst hv1; subst hv0; kernel_rfl
theorem unit_Runs_w (ws : List Int) (fu : Int) (up : Bool) (un : Int) (ug : Int) (m : Nat) (K : V → List Blk → Prop) : goD Γ_unit_Runs tab fn_unit_Runs 0 K (m + 1) [.code (bodyOf fn_unit_Runs)] (initSt [.agg [.dat (Ty.list Ty.int) ws, .dat Ty.int fu, .dat Ty.bool up, .dat Ty.int un, .dat Ty.int ug]] []) = segD Γ_unit_Runs tab fn_unit_Runs 0 K (goD Γ_unit_Runs tab fn_unit_Runs 0 K m) [.code (bodyOf fn_unit_Runs)] (initSt [.agg [.dat (Ty.list Ty.int) ws, .dat Ty.int fu, .dat Ty.bool up, .dat Ty.int un, .dat Ty.int ug]] []) := rfl

set_option maxHeartbeats 4000000 in
theorem run_unit_Runs (ws : List Int) (fu : Int) (up : Bool) (un ug : Int) (K : V → List Blk → Prop) (hK : K (.tup [.one (.dat (.list .int) (runsU ⟨⟨ws, fu⟩, up, un, ug⟩).1), .one (.dat .int (runsU ⟨⟨ws, fu⟩, up, un, ug⟩).2.1), .one (.dat .int (runsU ⟨⟨ws, fu⟩, up, un, ug⟩).2.2)]) []) : ∃ m, goD Γ_unit_Runs tab fn_unit_Runs 0 K m [.code (bodyOf fn_unit_Runs)] (initSt [.agg [.dat (.list .int) ws, .dat .int fu, .dat .bool up, .dat .int un, .dat .int ug]] []) := by
  refine ⟨1, ?_⟩
  rw [unit_Runs_w, unit_Runs_vc _ _ _ _ _ _ _ _ rfl _ rfl _ rfl]
  unfold runsU at hK
  refine ne_s (fun h => ?_) (fun h => ?_)
  · rw [if_neg h] at hK; exact hK
  · rw [if_pos h] at hK; exact hK
theorem sound_unit_Runs : SoundC Tryd.prog tab n_unit_Runs c_unit_Runs := soundC_of ok_unit_Runs hf_unit_Runs hB_unit_Runs (by
  intro vs bs p v bs' h hp
  unfold c_unit_Runs at h
  split at h
  · cases h
    exact ⟨by kernel_rfl, rfl, .inl (run_unit_Runs _ _ _ _ _ _ ⟨rfl, rfl⟩)⟩
  · cases h)

def c_law_united : Contract := fun vs bs => match vs, bs with
  | [], [] => some (none, .one (.dat .bool true), [])
  | _, _ => none
def Γ_law_united : Ctx := [(n_law_simple, c_law_simple), (n_unit_New, c_unit_New), (n_unit_Hear, c_unit_Hear), (n_unit_Runs, c_unit_Runs), (n_unit_Read, c_unit_Read), (n_slices_Equal_Lint, c_slices_Equal_Lint)]
theorem ok_law_united : Ok Tryd.prog tab Γ_law_united := ((((((ok_nil.consC hf_slices_Equal_Lint hB_slices_Equal_Lint sound_slices_Equal_Lint).consC hf_unit_Read hB_unit_Read sound_unit_Read).consC hf_unit_Runs hB_unit_Runs sound_unit_Runs).consC hf_unit_Hear hB_unit_Hear sound_unit_Hear).consC hf_unit_New hB_unit_New sound_unit_New).consC hf_law_simple hB_law_simple sound_law_simple)
noncomputable def law_united_L0 : List It := [.inLoop [35, 34, 33, 7, 6, 5, 1, 0] (Code.sub (bodyOf fn_law_united) [1, 1, 1, 1, 0, 1, 0, 0]), .inBlock 0, .code (Code.sub (bodyOf fn_law_united) [1, 1, 1, 1, 1])]
def law_united_S0 (x0 : Int) (x1 : Int) (x2 : Int) (x3 : Bool) (x4 : (List Vm.Message)) (x5 : (List Vm.Message)) (x6 : (List Int)) (x7 : Int) (x8 : Bool) (x9 : Int) (x10 : Int) (x11 : (List (List UInt8))) : St := ⟨[(35, .one (.dat Ty.int x0)), (34, .one (.dat Ty.int x1)), (33, .one (.own 0)), (7, .one (.own 1)), (6, .one (.dat Ty.int x2)), (5, .one (.ptr 2 0)), (1, .one (.ptr 3 0)), (0, .one (.dat Ty.bool x3))], [(0, .arr Ty.message x4), (1, .arr Ty.message x5), (2, .box [.dat (Ty.list Ty.int) x6, .dat Ty.int x7, .dat Ty.bool x8, .dat Ty.int x9, .dat Ty.int x10]), (3, .box [.dat (Ty.list Ty.str) x11])], 4⟩
theorem law_united_vc (rec : List It → St → Prop) (K : V → List Blk → Prop) v0 (hv0 : v0 = (applyCh (zeros (Int.toNat ((6 : Int) * (32 : Int))) (65535 : Int)) formatCh)) v1 (hv1 : v1 = (burnCh (((68 : Int) + ((64 : Int) * (0 : Int))) + (0 : Int)) ((7 : Int) :: []))) v2 (hv2 : v2 = (applyCh v0 v1)) v3 (hv3 : v3 = (headOf (((List.length ((7 : Int) :: [])) : Nat) : Int) (1 : Int))) v4 (hv4 : v4 = (burnCh ((64 : Int) + ((64 : Int) * (0 : Int))) v3)) v5 (hv5 : v5 = (applyCh v2 v4)) v6 (hv6 : v6 = (liveS v5)) v7 (hv7 : v7 = (hereCh v6 0 ((1 : Int) :: ((0 : Int) :: ((0 : Int) :: []))))) v8 (hv8 : v8 = (applyCh v5 v7)) : segD Γ_law_united tab fn_law_united 0 K rec [.code (bodyOf fn_law_united)] (initSt [] []) = (
    rec law_united_L0 (law_united_S0 (0 : Int) (((len ((⟨(1 : Int), (0 : Int), (1 : Int), (0 : Int), (0 : Int), ((8 : Int) :: ((8 : Int) :: [])), false⟩ : Vm.Message) :: ((⟨(2 : Int), (0 : Int), (1 : Int), (2 : Int), (2 : Int), [], false⟩ : Vm.Message) :: ((⟨(4 : Int), (0 : Int), (1 : Int), (0 : Int), (0 : Int), [], false⟩ : Vm.Message) :: [])))) : Nat) : Int) (0 : Int) false ((⟨(1 : Int), (0 : Int), (1 : Int), (0 : Int), (0 : Int), ((8 : Int) :: ((8 : Int) :: [])), false⟩ : Vm.Message) :: ((⟨(2 : Int), (0 : Int), (1 : Int), (2 : Int), (2 : Int), [], false⟩ : Vm.Message) :: ((⟨(4 : Int), (0 : Int), (1 : Int), (0 : Int), (0 : Int), [], false⟩ : Vm.Message) :: []))) [] v8 (-(1 : Int)) true (0 : Int) (0 : Int) simpleB)) := by subst hv8; subst hv7; subst hv6; subst hv5; subst hv4; subst hv3; subst hv2; subst hv1; subst hv0; kernel_rfl
theorem law_united_w (m : Nat) (K : V → List Blk → Prop) : goD Γ_law_united tab fn_law_united 0 K (m + 1) [.code (bodyOf fn_law_united)] (initSt [] []) = segD Γ_law_united tab fn_law_united 0 K (goD Γ_law_united tab fn_law_united 0 K m) [.code (bodyOf fn_law_united)] (initSt [] []) := rfl
theorem law_united_vc0 (x0 : Int) (x1 : Int) (x2 : Int) (x3 : Bool) (x4 : (List Vm.Message)) (x5 : (List Vm.Message)) (x6 : (List Int)) (x7 : Int) (x8 : Bool) (x9 : Int) (x10 : Int) (x11 : (List (List UInt8))) (rec : List It → St → Prop) (K : V → List Blk → Prop) v0 (hv0 : v0 = (hearU x11 (⟨(⟨x6, x7⟩ : Vm.Flash), x8, x9, x10⟩ : Vm.UnitD) (⟨((nth x4 (Int.toNat x0) (Ty.dflt Ty.message))).kind, ((nth x4 (Int.toNat x0) (Ty.dflt Ty.message))).unit, ((nth x4 (Int.toNat x0) (Ty.dflt Ty.message))).n, ((nth x4 (Int.toNat x0) (Ty.dflt Ty.message))).at_, ((nth x4 (Int.toNat x0) (Ty.dflt Ty.message))).image, ((nth x4 (Int.toNat x0) (Ty.dflt Ty.message))).words, ((nth x4 (Int.toNat x0) (Ty.dflt Ty.message))).yes⟩ : Vm.Message))) v1 (hv1 : v1 = (runsU (⟨(⟨x6, x7⟩ : Vm.Flash), x8, x9, x10⟩ : Vm.UnitD))) v2 (hv2 : v2 = (readU (⟨(⟨x6, x7⟩ : Vm.Flash), x8, x9, x10⟩ : Vm.UnitD))) v3 (hv3 : v3 = (eqIs (v1).fst ((8 : Int) :: ((8 : Int) :: [])))) : segD Γ_law_united tab fn_law_united 0 K rec (.code (Code.sub (bodyOf fn_law_united) [1, 1, 1, 1, 0, 1, 0, 0]) :: law_united_L0) (law_united_S0 x0 x1 x2 x3 x4 x5 x6 x7 x8 x9 x10 x11) = (
    br (lti x0 x1)
     ((((0 : Int) ≤ x0) ∧ (x0 < (((len x4) : Nat) : Int))) ∧
      (((Int.toNat x0) < (len x4)) ∧
      (((List.length x11) ≤ 140737488355328) ∧
      (br (!(eqi x2 (0 : Int)))
       (K (.one (.dat Ty.bool false)) [])
       (br (!(eqi (v0).snd (0 : Int)))
         (K (.one (.dat Ty.bool false)) [])
         (((((len x5) + (len ((v0).fst).snd)) * 72) ≤ 140737488355328) ∧
          (rec law_united_L0 (law_united_S0 (w64 (x0 + (1 : Int))) x1 x2 x3 x4 (cat x5 ((v0).fst).snd) ((((v0).fst).fst).f).words ((((v0).fst).fst).f).fuel (((v0).fst).fst).up (((v0).fst).fst).n (((v0).fst).fst).got x11))))))))
     (br (eqi ((v1).snd).snd (0 : Int))
       (br (eqi (v2).snd (0 : Int))
         (((List.length (v1).fst) ≤ 140737488355328) ∧
          (br v3
           (br (eqi ((v1).snd).fst (2 : Int))
             (br ((eqi ((v2).fst).slot (1 : Int)) && ((eqi ((v2).fst).by_ (1 : Int)) && ((eqi ((v2).fst).ready (0 : Int)) && true)))
               (br (eqi (((len x5) : Nat) : Int) (2 : Int))
                 ((((0 : Int) ≤ (0 : Int)) ∧ ((0 : Int) < (((len x5) : Nat) : Int))) ∧
                  (((Int.toNat (0 : Int)) < (len x5)) ∧
                  (br ((nth x5 (Int.toNat (0 : Int)) (Ty.dflt Ty.message))).yes
                   ((((0 : Int) ≤ (1 : Int)) ∧ ((1 : Int) < (((len x5) : Nat) : Int))) ∧
                    (((Int.toNat (1 : Int)) < (len x5)) ∧
                    (K (.one (.dat Ty.bool (eqi ((nth x5 (Int.toNat (1 : Int)) (Ty.dflt Ty.message))).kind (6 : Int)))) [])))
                   (K (.one (.dat Ty.bool false)) []))))
                 (K (.one (.dat Ty.bool false)) []))
               (K (.one (.dat Ty.bool false)) []))
             (K (.one (.dat Ty.bool false)) []))
           (K (.one (.dat Ty.bool false)) [])))
         (K (.one (.dat Ty.bool false)) []))
       (K (.one (.dat Ty.bool false)) []))) := by subst hv3; subst hv2; subst hv1; subst hv0; kernel_rfl
theorem law_united_w0 (x0 : Int) (x1 : Int) (x2 : Int) (x3 : Bool) (x4 : (List Vm.Message)) (x5 : (List Vm.Message)) (x6 : (List Int)) (x7 : Int) (x8 : Bool) (x9 : Int) (x10 : Int) (x11 : (List (List UInt8))) (m : Nat) (K : V → List Blk → Prop) : goD Γ_law_united tab fn_law_united 0 K (m + 1) law_united_L0 (law_united_S0 x0 x1 x2 x3 x4 x5 x6 x7 x8 x9 x10 x11) = segD Γ_law_united tab fn_law_united 0 K (goD Γ_law_united tab fn_law_united 0 K m) (.code (Code.sub (bodyOf fn_law_united) [1, 1, 1, 1, 0, 1, 0, 0]) :: law_united_L0) (law_united_S0 x0 x1 x2 x3 x4 x5 x6 x7 x8 x9 x10 x11) := rfl

set_option maxHeartbeats 4000000 in
theorem run_law_united  (K : V → List Blk → Prop) (hK : K (.one (.dat .bool true)) []) : ∃ m, goD Γ_law_united tab fn_law_united 0 K m [.code (bodyOf fn_law_united)] (initSt [] []) := by
  refine ⟨5, ?_⟩
  have e : goD Γ_law_united tab fn_law_united 0 K 5 [.code (bodyOf fn_law_united)] (initSt [] []) = (((0 : Int) ≤ 0 ∧ (0 : Int) < 3) ∧ 0 < 3 ∧ simpleB.length ≤ 140737488355328 ∧ (0 + 0) * 72 ≤ 140737488355328 ∧
      ((0 : Int) ≤ 1 ∧ (1 : Int) < 3) ∧ 1 < 3 ∧ simpleB.length ≤ 140737488355328 ∧ (0 + 1) * 72 ≤ 140737488355328 ∧
      ((0 : Int) ≤ 2 ∧ (2 : Int) < 3) ∧ 2 < 3 ∧ simpleB.length ≤ 140737488355328 ∧ (1 + 1) * 72 ≤ 140737488355328 ∧
      2 ≤ 140737488355328 ∧ ((0 : Int) ≤ 0 ∧ (0 : Int) < 2) ∧ 0 < 2 ∧ ((0 : Int) ≤ 1 ∧ (1 : Int) < 2) ∧ 1 < 2 ∧ K (.one (.dat .bool true)) []) := by kernel_rfl
  rw [e]
  exact ⟨by omega, by omega, by decide, by omega, by omega, by omega, by decide, by omega, by omega, by omega, by decide, by omega, by omega, by omega, by omega, by omega, by omega, hK⟩
theorem sound_law_united : SoundC Tryd.prog tab n_law_united c_law_united := soundC_of ok_law_united hf_law_united hB_law_united (by
  intro vs bs p v bs' h hp
  unfold c_law_united at h
  split at h
  · cases h
    exact ⟨by kernel_rfl, rfl, .inl (run_law_united  _ ⟨rfl, rfl⟩)⟩
  · cases h)

def c_law_at : Contract := fun vs bs => match vs, bs with
  | [.one (.dat .int k), .one (.dat .int n)], [] => some (some (0 < n ∧ n ≤ 1000), .one (.dat .int (k % n)), [])
  | _, _ => none
def Γ_law_at : Ctx := []
theorem ok_law_at : Ok Tryd.prog tab Γ_law_at := ok_nil
theorem law_at_vc (k : Int) (n : Int) (rec : List It → St → Prop) (K : V → List Blk → Prop) : segD Γ_law_at tab fn_law_at 0 K rec [.code (bodyOf fn_law_at)] (initSt [.one (.dat Ty.int k), .one (.dat Ty.int n)] []) = (
    (n ≠ (0 : Int)) ∧
    (br (lti (Int.tmod k n) (0 : Int))
     (K (.one (.dat Ty.int (w64 ((Int.tmod k n) + n)))) [])
     (K (.one (.dat Ty.int (Int.tmod k n))) []))) := by kernel_rfl
theorem law_at_w (k : Int) (n : Int) (m : Nat) (K : V → List Blk → Prop) : goD Γ_law_at tab fn_law_at 0 K (m + 1) [.code (bodyOf fn_law_at)] (initSt [.one (.dat Ty.int k), .one (.dat Ty.int n)] []) = segD Γ_law_at tab fn_law_at 0 K (goD Γ_law_at tab fn_law_at 0 K m) [.code (bodyOf fn_law_at)] (initSt [.one (.dat Ty.int k), .one (.dat Ty.int n)] []) := rfl

set_option maxHeartbeats 4000000 in
theorem run_law_at (k n : Int) (hp : 0 < n ∧ n ≤ 1000) (K : V → List Blk → Prop) (hK : K (.one (.dat .int (k % n))) []) : ∃ m, goD Γ_law_at tab fn_law_at 0 K m [.code (bodyOf fn_law_at)] (initSt [.one (.dat .int k), .one (.dat .int n)] []) := by
  refine ⟨1, ?_⟩
  rw [law_at_w, law_at_vc _ _ _ _]
  refine ⟨by omega, ?_⟩
  have h1 := Int.tmod_eq_emod (a := k) (b := n)
  have h2 := Int.emod_nonneg k (show n ≠ 0 by omega)
  have h3 := Int.emod_lt_of_pos k (show 0 < n by omega)
  have h4 : Int.tmod k n = k % n ∨ Int.tmod k n = k % n - n := by
    rw [h1]; split
    · left; omega
    · right; omega
  have h5 : (Int.tmod k n < 0 → Int.tmod k n = k % n - n) := by omega
  refine lt_s (fun h => ?_) (fun h => ?_)
  · rw [w64_id (by omega) (by omega), show Int.tmod k n + n = k % n by omega]; exact hK
  · rw [show Int.tmod k n = k % n by omega]; exact hK
theorem sound_law_at : SoundC Tryd.prog tab n_law_at c_law_at := soundC_of ok_law_at hf_law_at hB_law_at (by
  intro vs bs p v bs' h hp
  unfold c_law_at at h
  split at h
  · cases h
    exact ⟨by kernel_rfl, rfl, .inl (run_law_at _ _ hp.1 _ ⟨rfl, rfl⟩)⟩
  · cases h)

def c_unit_Boot : Contract := fun vs bs => match vs, bs with
  | [.agg [.dat (.list .int) ws, .dat .int fu, .dat .bool up, .dat .int un, .dat .int ug]], [] => some (none, .tup [.agg [.dat (.list .int) (bootU ⟨⟨ws, fu⟩, up, un, ug⟩).1.f.words, .dat .int (bootU ⟨⟨ws, fu⟩, up, un, ug⟩).1.f.fuel, .dat .bool (bootU ⟨⟨ws, fu⟩, up, un, ug⟩).1.up, .dat .int (bootU ⟨⟨ws, fu⟩, up, un, ug⟩).1.n, .dat .int (bootU ⟨⟨ws, fu⟩, up, un, ug⟩).1.got], .one (.dat .int (bootU ⟨⟨ws, fu⟩, up, un, ug⟩).2)], [])
  | _, _ => none
def Γ_unit_Boot : Ctx := [(n_unit_Check, c_unit_Check), (n_unit_Copy, c_unit_Copy), (n_unit_down, c_unit_down)]
theorem ok_unit_Boot : Ok Tryd.prog tab Γ_unit_Boot := (((ok_nil.consC hf_unit_down hB_unit_down sound_unit_down).consC hf_unit_Copy hB_unit_Copy sound_unit_Copy).consC hf_unit_Check hB_unit_Check sound_unit_Check)
theorem unit_Boot_vc (ws : List Int) (fu : Int) (up : Bool) (un : Int) (ug : Int) (rec : List It → St → Prop) (K : V → List Blk → Prop) v0 (hv0 : v0 = (checkU (⟨(⟨ws, fu⟩ : Vm.Flash), up, un, ug⟩ : Vm.UnitD))) : segD Γ_unit_Boot tab fn_unit_Boot 0 K rec [.code (bodyOf fn_unit_Boot)] (initSt [.agg [.dat (Ty.list Ty.int) ws, .dat Ty.int fu, .dat Ty.bool up, .dat Ty.int un, .dat Ty.int ug]] []) = (
    br (!(eqi v0 (0 : Int)))
     (K (.tup [.agg [.dat (Ty.list Ty.int) [], .dat Ty.int (0 : Int), .dat Ty.bool false, .dat Ty.int (0 : Int), .dat Ty.int (0 : Int)], .one (.dat Ty.int v0)]) [])
     ((((len ws) * 8) ≤ 140737488355328) ∧
      (K (.tup [.agg [.dat (Ty.list Ty.int) ws, .dat Ty.int (-(1 : Int)), .dat Ty.bool true, .dat Ty.int (0 : Int), .dat Ty.int (0 : Int)], .one (.dat Ty.int (0 : Int))]) []))) := by subst hv0; kernel_rfl
theorem unit_Boot_w (ws : List Int) (fu : Int) (up : Bool) (un : Int) (ug : Int) (m : Nat) (K : V → List Blk → Prop) : goD Γ_unit_Boot tab fn_unit_Boot 0 K (m + 1) [.code (bodyOf fn_unit_Boot)] (initSt [.agg [.dat (Ty.list Ty.int) ws, .dat Ty.int fu, .dat Ty.bool up, .dat Ty.int un, .dat Ty.int ug]] []) = segD Γ_unit_Boot tab fn_unit_Boot 0 K (goD Γ_unit_Boot tab fn_unit_Boot 0 K m) [.code (bodyOf fn_unit_Boot)] (initSt [.agg [.dat (Ty.list Ty.int) ws, .dat Ty.int fu, .dat Ty.bool up, .dat Ty.int un, .dat Ty.int ug]] []) := rfl

set_option maxHeartbeats 4000000 in
theorem run_unit_Boot (ws : List Int) (fu : Int) (up : Bool) (un ug : Int) (K : V → List Blk → Prop) (hK : K (.tup [.agg [.dat (.list .int) (bootU ⟨⟨ws, fu⟩, up, un, ug⟩).1.f.words, .dat .int (bootU ⟨⟨ws, fu⟩, up, un, ug⟩).1.f.fuel, .dat .bool (bootU ⟨⟨ws, fu⟩, up, un, ug⟩).1.up, .dat .int (bootU ⟨⟨ws, fu⟩, up, un, ug⟩).1.n, .dat .int (bootU ⟨⟨ws, fu⟩, up, un, ug⟩).1.got], .one (.dat .int (bootU ⟨⟨ws, fu⟩, up, un, ug⟩).2)]) []) : ∃ m, goD Γ_unit_Boot tab fn_unit_Boot 0 K m [.code (bodyOf fn_unit_Boot)] (initSt [.agg [.dat (.list .int) ws, .dat .int fu, .dat .bool up, .dat .int un, .dat .int ug]] []) := by
  refine ⟨1, ?_⟩
  rw [unit_Boot_w, unit_Boot_vc _ _ _ _ _ _ _ _ rfl]
  unfold bootU at hK
  refine ne_s (fun h => ?_) (fun h => ⟨?_, ?_⟩)
  · rw [if_neg h] at hK; exact hK
  · have := (checkU_ok h).2.1
    simp only at this; simp only [len]; omega
  · rw [if_pos h] at hK; exact hK
theorem sound_unit_Boot : SoundC Tryd.prog tab n_unit_Boot c_unit_Boot := soundC_of ok_unit_Boot hf_unit_Boot hB_unit_Boot (by
  intro vs bs p v bs' h hp
  unfold c_unit_Boot at h
  split at h
  · cases h
    exact ⟨by kernel_rfl, rfl, .inl (run_unit_Boot _ _ _ _ _ _ ⟨rfl, rfl⟩)⟩
  · cases h)

def c_law_UnitPieces : Contract := fun vs bs => match vs, bs with
  | [.agg [.dat (.list .str) b], .agg [.dat (.list .int) _, .dat .int _, .dat .bool _, .dat .int _, .dat .int _], .one (.dat .int n), .one (.dat (.list .int) _), .one (.dat (.list .int) _)], [] => some (some (b.length ≤ 140737488355328 ∧ I64 n), .one (.dat .bool true), [])
  | _, _ => none
def Γ_law_UnitPieces : Ctx := [(n_unit_Read, c_unit_Read), (n_meta_ImageName, c_meta_ImageName), (n_law_united, c_law_united), (n_law_at, c_law_at), (n_unit_Boot, c_unit_Boot), (n_unit_Hear, c_unit_Hear), (n_slot_Image, c_slot_Image), (n_slices_Equal_Lint, c_slices_Equal_Lint)]
theorem ok_law_UnitPieces : Ok Tryd.prog tab Γ_law_UnitPieces := ((((((((ok_nil.consC hf_slices_Equal_Lint hB_slices_Equal_Lint sound_slices_Equal_Lint).consC hf_slot_Image hB_slot_Image sound_slot_Image).consC hf_unit_Hear hB_unit_Hear sound_unit_Hear).consC hf_unit_Boot hB_unit_Boot sound_unit_Boot).consC hf_law_at hB_law_at sound_law_at).consC hf_law_united hB_law_united sound_law_united).consC hf_meta_ImageName hB_meta_ImageName sound_meta_ImageName).consC hf_unit_Read hB_unit_Read sound_unit_Read)
noncomputable def law_UnitPieces_L0 : List It := [.inLoop [16, 15, 14, 13, 12, 11, 10, 6, 5, 2, 3, 4] (Code.sub (bodyOf fn_law_UnitPieces) [1, 1, 1, 1, 1, 1, 1, 1, 0, 1, 0, 0]), .inBlock 0, .code (Code.sub (bodyOf fn_law_UnitPieces) [1, 1, 1, 1, 1, 1, 1, 1, 1])]
def law_UnitPieces_S0 (x0 : Int) (x1 : Int) (x2 : Int) (x3 : Int) (x4 : Int) (x5 : Bool) (x6 : Int) (x7 : (List Int)) (x8 : (List Int)) (x9 : Int) (x10 : Int) (x11 : Int) (x12 : (List Int)) (x13 : Int) (x14 : Bool) (x15 : Int) (x16 : Int) (x17 : (List (List UInt8))) : St := ⟨[(16, .one (.dat Ty.int x0)), (15, .one (.dat Ty.int x1)), (14, .one (.dat Ty.int x2)), (13, .one (.dat Ty.int x3)), (12, .one (.dat Ty.int x4)), (11, .one (.ptr 0 0)), (10, .one (.dat Ty.bool x5)), (6, .one (.ptr 1 0)), (5, .one (.ptr 2 0)), (2, .one (.dat Ty.int x6)), (3, .one (.dat (Ty.list Ty.int) x7)), (4, .one (.dat (Ty.list Ty.int) x8))], [(0, .box [.dat Ty.int x9, .dat Ty.int x10, .dat Ty.int x11]), (1, .box [.dat (Ty.list Ty.int) x12, .dat Ty.int x13, .dat Ty.bool x14, .dat Ty.int x15, .dat Ty.int x16]), (2, .box [.dat (Ty.list Ty.str) x17])], 3⟩
noncomputable def law_UnitPieces_L1 : List It := [.inLoop [118, 117, 116, 115, 19, 114, 113, 112, 111, 110, 109, 108, 18, 107, 106, 105, 104, 103, 102, 101, 100, 99, 98, 97, 96, 95, 94, 93, 92, 91, 90, 17, 87, 86, 85, 84, 16, 15, 14, 13, 12, 11, 10, 6, 5, 2, 3, 4] (Code.sub (bodyOf fn_law_UnitPieces) [1, 1, 1, 1, 1, 1, 1, 1, 0, 1, 0, 0, 1, 0, 0, 1, 1, 1, 1, 0, 1, 0, 0]), .inBlock 2, .code (Code.sub (bodyOf fn_law_UnitPieces) [1, 1, 1, 1, 1, 1, 1, 1, 0, 1, 0, 0, 1, 0, 0, 1, 1, 1, 1, 1]), .inBlock 1, .code (Code.sub (bodyOf fn_law_UnitPieces) [1, 1, 1, 1, 1, 1, 1, 1, 0, 1, 0, 0, 1, 1]), .inLoop [16, 15, 14, 13, 12, 11, 10, 6, 5, 2, 3, 4] (Code.sub (bodyOf fn_law_UnitPieces) [1, 1, 1, 1, 1, 1, 1, 1, 0, 1, 0, 0]), .inBlock 0, .code (Code.sub (bodyOf fn_law_UnitPieces) [1, 1, 1, 1, 1, 1, 1, 1, 1])]
def law_UnitPieces_S1 (x0 : Int) (x1 : Int) (x2 : Int) (x3 : Int) (x4 : Int) (x5 : Int) (x6 : Int) (x7 : Int) (x8 : Int) (x9 : (List Int)) (x10 : Bool) (x11 : (List Int)) (x12 : Int) (x13 : Int) (x14 : (List Int)) (x15 : Int) (x16 : Int) (x17 : Int) (x18 : Int) (x19 : Int) (x20 : (List Int)) (x21 : Int) (x22 : Int) (x23 : Int) (x24 : Int) (x25 : Int) (x26 : Int) (x27 : (List Int)) (x28 : Nat) (x29 : Int) (x30 : Int) (x31 : (List Int)) (x32 : Int) (x33 : (List Int)) (x34 : Bool) (x35 : Int) (x36 : (List Int)) (x37 : Int) (x38 : Bool) (x39 : Int) (x40 : (List Int)) (x41 : Int) (x42 : Int) (x43 : Int) (x44 : Int) (x45 : Int) (x46 : Int) (x47 : Bool) (x48 : Int) (x49 : (List Int)) (x50 : (List Int)) (x51 : Int) (x52 : Int) (x53 : Int) (x54 : Int) (x55 : Int) (x56 : (List Int)) (x57 : Bool) (x58 : Int) (x59 : Int) (x60 : Int) (x61 : (List Int)) (x62 : Int) (x63 : Bool) (x64 : Int) (x65 : Int) (x66 : (List (List UInt8))) : St := ⟨[(118, .one (.dat Ty.int x0)), (117, .one (.dat Ty.int x1)), (116, .one (.dat Ty.int x2)), (115, .one (.dat Ty.int x3)), (19, .one (.ptr 0 0)), (114, .agg [.dat Ty.int x4, .dat Ty.int x5, .dat Ty.int x6, .dat Ty.int x7, .dat Ty.int x8, .dat (Ty.list Ty.int) x9, .dat Ty.bool x10]), (113, .one (.dat (Ty.list Ty.int) x11)), (112, .one (.dat Ty.int x12)), (111, .one (.dat Ty.int x13)), (110, .one (.dat (Ty.list Ty.int) x14)), (109, .one (.dat Ty.int x15)), (108, .one (.dat Ty.int x16)), (18, .one (.dat Ty.int x17)), (107, .one (.dat Ty.int x18)), (106, .one (.dat Ty.int x19)), (105, .one (.dat (Ty.list Ty.int) x20)), (104, .one (.dat Ty.int x21)), (103, .one (.dat Ty.int x22)), (102, .one (.dat Ty.int x23)), (101, .one (.dat Ty.int x24)), (100, .one (.dat Ty.int x25)), (99, .one (.dat Ty.int x26)), (98, .one (.eptr Ty.int x27 x28 0)), (97, .one (.dat Ty.int x29)), (96, .one (.dat Ty.int x30)), (95, .one (.dat (Ty.list Ty.int) x31)), (94, .one (.dat Ty.int x32)), (93, .one (.dat (Ty.list Ty.int) x33)), (92, .one (.dat Ty.bool x34)), (91, .one (.dat Ty.int x35)), (90, .one (.dat (Ty.list Ty.int) x36)), (17, .one (.dat Ty.int x37)), (87, .one (.dat Ty.bool x38)), (86, .one (.dat Ty.int x39)), (85, .one (.dat (Ty.list Ty.int) x40)), (84, .one (.dat Ty.int x41)), (16, .one (.dat Ty.int x42)), (15, .one (.dat Ty.int x43)), (14, .one (.dat Ty.int x44)), (13, .one (.dat Ty.int x45)), (12, .one (.dat Ty.int x46)), (11, .one (.ptr 1 0)), (10, .one (.dat Ty.bool x47)), (6, .one (.ptr 2 0)), (5, .one (.ptr 3 0)), (2, .one (.dat Ty.int x48)), (3, .one (.dat (Ty.list Ty.int) x49)), (4, .one (.dat (Ty.list Ty.int) x50))], [(0, .box [.dat Ty.int x51, .dat Ty.int x52, .dat Ty.int x53, .dat Ty.int x54, .dat Ty.int x55, .dat (Ty.list Ty.int) x56, .dat Ty.bool x57]), (1, .box [.dat Ty.int x58, .dat Ty.int x59, .dat Ty.int x60]), (2, .box [.dat (Ty.list Ty.int) x61, .dat Ty.int x62, .dat Ty.bool x63, .dat Ty.int x64, .dat Ty.int x65]), (3, .box [.dat (Ty.list Ty.str) x66])], 4⟩
noncomputable def law_UnitPieces_L2 : List It := [.inLoop [118, 117, 116, 115, 19, 114, 113, 112, 111, 110, 109, 108, 18, 107, 106, 105, 104, 103, 102, 92, 91, 90, 17, 87, 86, 85, 84, 16, 15, 14, 13, 12, 11, 10, 6, 5, 2, 3, 4] (Code.sub (bodyOf fn_law_UnitPieces) [1, 1, 1, 1, 1, 1, 1, 1, 0, 1, 0, 0, 1, 0, 0, 1, 1, 1, 1, 0, 1, 0, 0]), .inBlock 2, .code (Code.sub (bodyOf fn_law_UnitPieces) [1, 1, 1, 1, 1, 1, 1, 1, 0, 1, 0, 0, 1, 0, 0, 1, 1, 1, 1, 1]), .inBlock 1, .code (Code.sub (bodyOf fn_law_UnitPieces) [1, 1, 1, 1, 1, 1, 1, 1, 0, 1, 0, 0, 1, 1]), .inLoop [16, 15, 14, 13, 12, 11, 10, 6, 5, 2, 3, 4] (Code.sub (bodyOf fn_law_UnitPieces) [1, 1, 1, 1, 1, 1, 1, 1, 0, 1, 0, 0]), .inBlock 0, .code (Code.sub (bodyOf fn_law_UnitPieces) [1, 1, 1, 1, 1, 1, 1, 1, 1])]
def law_UnitPieces_S2 (x0 : Int) (x1 : Int) (x2 : Int) (x3 : Int) (x4 : Int) (x5 : Int) (x6 : Int) (x7 : Int) (x8 : Int) (x9 : (List Int)) (x10 : Bool) (x11 : (List Int)) (x12 : Int) (x13 : Int) (x14 : (List Int)) (x15 : Int) (x16 : Int) (x17 : Int) (x18 : Int) (x19 : Int) (x20 : (List Int)) (x21 : Int) (x22 : Int) (x23 : Int) (x24 : Bool) (x25 : Int) (x26 : (List Int)) (x27 : Int) (x28 : Bool) (x29 : Int) (x30 : (List Int)) (x31 : Int) (x32 : Int) (x33 : Int) (x34 : Int) (x35 : Int) (x36 : Int) (x37 : Bool) (x38 : Int) (x39 : (List Int)) (x40 : (List Int)) (x41 : Int) (x42 : Int) (x43 : Int) (x44 : Int) (x45 : Int) (x46 : (List Int)) (x47 : Bool) (x48 : Int) (x49 : Int) (x50 : Int) (x51 : (List Int)) (x52 : Int) (x53 : Bool) (x54 : Int) (x55 : Int) (x56 : (List (List UInt8))) : St := ⟨[(118, .one (.dat Ty.int x0)), (117, .one (.dat Ty.int x1)), (116, .one (.dat Ty.int x2)), (115, .one (.dat Ty.int x3)), (19, .one (.ptr 0 0)), (114, .agg [.dat Ty.int x4, .dat Ty.int x5, .dat Ty.int x6, .dat Ty.int x7, .dat Ty.int x8, .dat (Ty.list Ty.int) x9, .dat Ty.bool x10]), (113, .one (.dat (Ty.list Ty.int) x11)), (112, .one (.dat Ty.int x12)), (111, .one (.dat Ty.int x13)), (110, .one (.dat (Ty.list Ty.int) x14)), (109, .one (.dat Ty.int x15)), (108, .one (.dat Ty.int x16)), (18, .one (.dat Ty.int x17)), (107, .one (.dat Ty.int x18)), (106, .one (.dat Ty.int x19)), (105, .one (.dat (Ty.list Ty.int) x20)), (104, .one (.dat Ty.int x21)), (103, .one (.dat Ty.int x22)), (102, .one (.dat Ty.int x23)), (92, .one (.dat Ty.bool x24)), (91, .one (.dat Ty.int x25)), (90, .one (.dat (Ty.list Ty.int) x26)), (17, .one (.dat Ty.int x27)), (87, .one (.dat Ty.bool x28)), (86, .one (.dat Ty.int x29)), (85, .one (.dat (Ty.list Ty.int) x30)), (84, .one (.dat Ty.int x31)), (16, .one (.dat Ty.int x32)), (15, .one (.dat Ty.int x33)), (14, .one (.dat Ty.int x34)), (13, .one (.dat Ty.int x35)), (12, .one (.dat Ty.int x36)), (11, .one (.ptr 1 0)), (10, .one (.dat Ty.bool x37)), (6, .one (.ptr 2 0)), (5, .one (.ptr 3 0)), (2, .one (.dat Ty.int x38)), (3, .one (.dat (Ty.list Ty.int) x39)), (4, .one (.dat (Ty.list Ty.int) x40))], [(0, .box [.dat Ty.int x41, .dat Ty.int x42, .dat Ty.int x43, .dat Ty.int x44, .dat Ty.int x45, .dat (Ty.list Ty.int) x46, .dat Ty.bool x47]), (1, .box [.dat Ty.int x48, .dat Ty.int x49, .dat Ty.int x50]), (2, .box [.dat (Ty.list Ty.int) x51, .dat Ty.int x52, .dat Ty.bool x53, .dat Ty.int x54, .dat Ty.int x55]), (3, .box [.dat (Ty.list Ty.str) x56])], 4⟩
theorem law_UnitPieces_vc (b : List (List UInt8)) (ws : List Int) (fu : Int) (up : Bool) (un : Int) (ug : Int) (n : Int) (image : List Int) (cuts : List Int) (rec : List It → St → Prop) (K : V → List Blk → Prop) v0 (hv0 : v0 = (readU (⟨(⟨ws, (-(1 : Int))⟩ : Vm.Flash), up, un, ug⟩ : Vm.UnitD))) v1 (hv1 : v1 = (imageName b image)) v2 (hv2 : v2 = (bootU (⟨(⟨ws, (-(1 : Int))⟩ : Vm.Flash), up, un, ug⟩ : Vm.UnitD))) : segD Γ_law_UnitPieces tab fn_law_UnitPieces 0 K rec [.code (bodyOf fn_law_UnitPieces)] (initSt [.agg [.dat (Ty.list Ty.str) b], .agg [.dat (Ty.list Ty.int) ws, .dat Ty.int fu, .dat Ty.bool up, .dat Ty.int un, .dat Ty.int ug], .one (.dat Ty.int n), .one (.dat (Ty.list Ty.int) image), .one (.dat (Ty.list Ty.int) cuts)] []) = (
    ((List.length b) ≤ 140737488355328) ∧
    (br (!(eqi (v0).snd (0 : Int)))
     (K (.one (.dat Ty.bool true)) [])
     (br (!(eqi (v1).snd (0 : Int)))
       (K (.one (.dat Ty.bool true)) [])
       (br (eqi (v1).fst (0 : Int))
         (K (.one (.dat Ty.bool true)) [])
         (br (!(eqi ((v0).fst).ready (0 : Int)))
           (K (.one (.dat Ty.bool true)) [])
           (br (lei (8 : Int) ((v0).fst).by_)
             (K (.one (.dat Ty.bool true)) [])
             (br (!up)
               (K (.one (.dat Ty.bool true)) [])
               ((((0 : Int) < (w64 ((8 : Int) - ((v0).fst).by_))) ∧ ((w64 ((8 : Int) - ((v0).fst).by_)) ≤ (1000 : Int))) ∧
                (br (!(eqi (v2).snd (0 : Int)))
                 (K (.one (.dat Ty.bool false)) [])
                 (rec law_UnitPieces_L0 (law_UnitPieces_S0 (0 : Int) (0 : Int) (v1).snd (v1).fst (v2).snd false (w64 ((w64 (((v0).fst).by_ + (1 : Int))) + (n % (w64 ((8 : Int) - ((v0).fst).by_))))) image cuts ((v0).fst).slot ((v0).fst).by_ ((v0).fst).ready (((v2).fst).f).words (((v2).fst).f).fuel ((v2).fst).up ((v2).fst).n ((v2).fst).got b))))))))))) := by subst hv2; subst hv1; subst hv0; kernel_rfl
theorem law_UnitPieces_w (b : List (List UInt8)) (ws : List Int) (fu : Int) (up : Bool) (un : Int) (ug : Int) (n : Int) (image : List Int) (cuts : List Int) (m : Nat) (K : V → List Blk → Prop) : goD Γ_law_UnitPieces tab fn_law_UnitPieces 0 K (m + 1) [.code (bodyOf fn_law_UnitPieces)] (initSt [.agg [.dat (Ty.list Ty.str) b], .agg [.dat (Ty.list Ty.int) ws, .dat Ty.int fu, .dat Ty.bool up, .dat Ty.int un, .dat Ty.int ug], .one (.dat Ty.int n), .one (.dat (Ty.list Ty.int) image), .one (.dat (Ty.list Ty.int) cuts)] []) = segD Γ_law_UnitPieces tab fn_law_UnitPieces 0 K (goD Γ_law_UnitPieces tab fn_law_UnitPieces 0 K m) [.code (bodyOf fn_law_UnitPieces)] (initSt [.agg [.dat (Ty.list Ty.str) b], .agg [.dat (Ty.list Ty.int) ws, .dat Ty.int fu, .dat Ty.bool up, .dat Ty.int un, .dat Ty.int ug], .one (.dat Ty.int n), .one (.dat (Ty.list Ty.int) image), .one (.dat (Ty.list Ty.int) cuts)] []) := rfl
theorem law_UnitPieces_vc0 (x0 : Int) (x1 : Int) (x2 : Int) (x3 : Int) (x4 : Int) (x5 : Bool) (x6 : Int) (x7 : (List Int)) (x8 : (List Int)) (x9 : Int) (x10 : Int) (x11 : Int) (x12 : (List Int)) (x13 : Int) (x14 : Bool) (x15 : Int) (x16 : Int) (x17 : (List (List UInt8))) (rec : List It → St → Prop) (K : V → List Blk → Prop) v0 (hv0 : v0 = (hearU x17 (⟨(⟨x12, x13⟩ : Vm.Flash), x14, x15, x16⟩ : Vm.UnitD) (⟨(2 : Int), (0 : Int), x6, (((len x7) : Nat) : Int), x3, [], false⟩ : Vm.Message))) v1 (hv1 : v1 = (readU (⟨(⟨((((v0).fst).fst).f).words, ((((v0).fst).fst).f).fuel⟩ : Vm.Flash), (((v0).fst).fst).up, (((v0).fst).fst).n, (((v0).fst).fst).got⟩ : Vm.UnitD))) v2 (hv2 : v2 = (imageS (⟨((((v0).fst).fst).f).words, ((((v0).fst).fst).f).fuel⟩ : Vm.Flash) (w64 ((1 : Int) - x9)))) v3 (hv3 : v3 = (eqIs (v2).fst x7)) : segD Γ_law_UnitPieces tab fn_law_UnitPieces 0 K rec (.code (Code.sub (bodyOf fn_law_UnitPieces) [1, 1, 1, 1, 1, 1, 1, 1, 0, 1, 0, 0]) :: law_UnitPieces_L0) (law_UnitPieces_S0 x0 x1 x2 x3 x4 x5 x6 x7 x8 x9 x10 x11 x12 x13 x14 x15 x16 x17) = (
    br (lti x1 (((len x7) : Nat) : Int))
     (br (lti (0 : Int) (((len x8) : Nat) : Int))
       (((((len x8) : Nat) : Int) ≠ (0 : Int)) ∧
        ((((0 : Int) ≤ (Int.tmod x0 (((len x8) : Nat) : Int))) ∧ ((Int.tmod x0 (((len x8) : Nat) : Int)) < (((len x8) : Nat) : Int))) ∧
        ((((0 : Int) < (8 : Int)) ∧ ((8 : Int) ≤ (1000 : Int))) ∧
        ((((0 : Int) ≤ x1) ∧ ((x1 ≤ (min (w64 (x1 + (w64 ((1 : Int) + ((nth x8 (Int.toNat (Int.tmod x0 (((len x8) : Nat) : Int))) (Ty.dflt Ty.int)) % (8 : Int)))))) (((len x7) : Nat) : Int))) ∧ ((min (w64 (x1 + (w64 ((1 : Int) + ((nth x8 (Int.toNat (Int.tmod x0 (((len x8) : Nat) : Int))) (Ty.dflt Ty.int)) % (8 : Int)))))) (((len x7) : Nat) : Int)) ≤ (((len x7) : Nat) : Int)))) ∧
        (((2 : Int) ≠ (0 : Int)) ∧
        (rec law_UnitPieces_L1 (law_UnitPieces_S1 (0 : Int) (w64 ((1 : Int) + (Int.tmod x0 (2 : Int)))) (Int.tmod x0 (2 : Int)) x0 (1 : Int) (0 : Int) x6 x1 (0 : Int) (slc x7 (Int.toNat x1) (Int.toNat (min (w64 (x1 + (w64 ((1 : Int) + ((nth x8 (Int.toNat (Int.tmod x0 (((len x8) : Nat) : Int))) (Ty.dflt Ty.int)) % (8 : Int)))))) (((len x7) : Nat) : Int)))) false (slc x7 (Int.toNat x1) (Int.toNat (min (w64 (x1 + (w64 ((1 : Int) + ((nth x8 (Int.toNat (Int.tmod x0 (((len x8) : Nat) : Int))) (Ty.dflt Ty.int)) % (8 : Int)))))) (((len x7) : Nat) : Int)))) (min (w64 (x1 + (w64 ((1 : Int) + ((nth x8 (Int.toNat (Int.tmod x0 (((len x8) : Nat) : Int))) (Ty.dflt Ty.int)) % (8 : Int)))))) (((len x7) : Nat) : Int)) x1 x7 x1 x6 (min (w64 (x1 + (w64 ((1 : Int) + ((nth x8 (Int.toNat (Int.tmod x0 (((len x8) : Nat) : Int))) (Ty.dflt Ty.int)) % (8 : Int)))))) (((len x7) : Nat) : Int)) (min (w64 (x1 + (w64 ((1 : Int) + ((nth x8 (Int.toNat (Int.tmod x0 (((len x8) : Nat) : Int))) (Ty.dflt Ty.int)) % (8 : Int)))))) (((len x7) : Nat) : Int)) (((len x7) : Nat) : Int) x7 (w64 (x1 + (w64 ((1 : Int) + ((nth x8 (Int.toNat (Int.tmod x0 (((len x8) : Nat) : Int))) (Ty.dflt Ty.int)) % (8 : Int)))))) (w64 ((1 : Int) + ((nth x8 (Int.toNat (Int.tmod x0 (((len x8) : Nat) : Int))) (Ty.dflt Ty.int)) % (8 : Int)))) x1 (w64 ((1 : Int) + ((nth x8 (Int.toNat (Int.tmod x0 (((len x8) : Nat) : Int))) (Ty.dflt Ty.int)) % (8 : Int)))) ((nth x8 (Int.toNat (Int.tmod x0 (((len x8) : Nat) : Int))) (Ty.dflt Ty.int)) % (8 : Int)) (nth x8 (Int.toNat (Int.tmod x0 (((len x8) : Nat) : Int))) (Ty.dflt Ty.int)) x8 (Int.toNat (Int.tmod x0 (((len x8) : Nat) : Int))) (Int.tmod x0 (((len x8) : Nat) : Int)) (((len x8) : Nat) : Int) x8 x0 x8 (lti (0 : Int) (((len x8) : Nat) : Int)) (((len x8) : Nat) : Int) x8 (w64 ((1 : Int) + ((nth x8 (Int.toNat (Int.tmod x0 (((len x8) : Nat) : Int))) (Ty.dflt Ty.int)) % (8 : Int)))) (lti x1 (((len x7) : Nat) : Int)) (((len x7) : Nat) : Int) x7 x1 x0 x1 x2 x3 x4 x5 x6 x7 x8 (1 : Int) (0 : Int) x6 x1 (0 : Int) (slc x7 (Int.toNat x1) (Int.toNat (min (w64 (x1 + (w64 ((1 : Int) + ((nth x8 (Int.toNat (Int.tmod x0 (((len x8) : Nat) : Int))) (Ty.dflt Ty.int)) % (8 : Int)))))) (((len x7) : Nat) : Int)))) false x9 x10 x11 x12 x13 x14 x15 x16 x17)))))))
       ((((0 : Int) ≤ x1) ∧ ((x1 ≤ (min (w64 (x1 + (8 : Int))) (((len x7) : Nat) : Int))) ∧ ((min (w64 (x1 + (8 : Int))) (((len x7) : Nat) : Int)) ≤ (((len x7) : Nat) : Int)))) ∧
        (((2 : Int) ≠ (0 : Int)) ∧
        (rec law_UnitPieces_L2 (law_UnitPieces_S2 (0 : Int) (w64 ((1 : Int) + (Int.tmod x0 (2 : Int)))) (Int.tmod x0 (2 : Int)) x0 (1 : Int) (0 : Int) x6 x1 (0 : Int) (slc x7 (Int.toNat x1) (Int.toNat (min (w64 (x1 + (8 : Int))) (((len x7) : Nat) : Int)))) false (slc x7 (Int.toNat x1) (Int.toNat (min (w64 (x1 + (8 : Int))) (((len x7) : Nat) : Int)))) (min (w64 (x1 + (8 : Int))) (((len x7) : Nat) : Int)) x1 x7 x1 x6 (min (w64 (x1 + (8 : Int))) (((len x7) : Nat) : Int)) (min (w64 (x1 + (8 : Int))) (((len x7) : Nat) : Int)) (((len x7) : Nat) : Int) x7 (w64 (x1 + (8 : Int))) (8 : Int) x1 (lti (0 : Int) (((len x8) : Nat) : Int)) (((len x8) : Nat) : Int) x8 (8 : Int) (lti x1 (((len x7) : Nat) : Int)) (((len x7) : Nat) : Int) x7 x1 x0 x1 x2 x3 x4 x5 x6 x7 x8 (1 : Int) (0 : Int) x6 x1 (0 : Int) (slc x7 (Int.toNat x1) (Int.toNat (min (w64 (x1 + (8 : Int))) (((len x7) : Nat) : Int)))) false x9 x10 x11 x12 x13 x14 x15 x16 x17)))))
     (((List.length x17) ≤ 140737488355328) ∧
      (br (!(eqi (v0).snd (0 : Int)))
       (K (.one (.dat Ty.bool false)) [])
       (br (eqi (((len ((v0).fst).snd) : Nat) : Int) (0 : Int))
         (K (.one (.dat Ty.bool true)) [])
         (br (eqi (v1).snd (0 : Int))
           (br (eqi ((v2).snd).snd (0 : Int))
             ((((0 : Int) ≤ (0 : Int)) ∧ ((0 : Int) < (((len ((v0).fst).snd) : Nat) : Int))) ∧
              (br ((nth ((v0).fst).snd (Int.toNat (0 : Int)) (Ty.dflt Ty.message))).yes
               (br (eqi ((v1).fst).ready x6)
                 (br (eqi ((v2).snd).fst x3)
                   (((List.length (v2).fst) ≤ 140737488355328) ∧
                    (K (.one (.dat Ty.bool v3)) []))
                   (K (.one (.dat Ty.bool false)) []))
                 (K (.one (.dat Ty.bool false)) []))
               (K (.one (.dat Ty.bool false)) [])))
             (K (.one (.dat Ty.bool false)) []))
           (K (.one (.dat Ty.bool false)) [])))))) := by subst hv3; subst hv2; subst hv1; subst hv0; kernel_rfl
theorem law_UnitPieces_w0 (x0 : Int) (x1 : Int) (x2 : Int) (x3 : Int) (x4 : Int) (x5 : Bool) (x6 : Int) (x7 : (List Int)) (x8 : (List Int)) (x9 : Int) (x10 : Int) (x11 : Int) (x12 : (List Int)) (x13 : Int) (x14 : Bool) (x15 : Int) (x16 : Int) (x17 : (List (List UInt8))) (m : Nat) (K : V → List Blk → Prop) : goD Γ_law_UnitPieces tab fn_law_UnitPieces 0 K (m + 1) law_UnitPieces_L0 (law_UnitPieces_S0 x0 x1 x2 x3 x4 x5 x6 x7 x8 x9 x10 x11 x12 x13 x14 x15 x16 x17) = segD Γ_law_UnitPieces tab fn_law_UnitPieces 0 K (goD Γ_law_UnitPieces tab fn_law_UnitPieces 0 K m) (.code (Code.sub (bodyOf fn_law_UnitPieces) [1, 1, 1, 1, 1, 1, 1, 1, 0, 1, 0, 0]) :: law_UnitPieces_L0) (law_UnitPieces_S0 x0 x1 x2 x3 x4 x5 x6 x7 x8 x9 x10 x11 x12 x13 x14 x15 x16 x17) := rfl
theorem law_UnitPieces_vc1 (x0 : Int) (x1 : Int) (x2 : Int) (x3 : Int) (x4 : Int) (x5 : Int) (x6 : Int) (x7 : Int) (x8 : Int) (x9 : (List Int)) (x10 : Bool) (x11 : (List Int)) (x12 : Int) (x13 : Int) (x14 : (List Int)) (x15 : Int) (x16 : Int) (x17 : Int) (x18 : Int) (x19 : Int) (x20 : (List Int)) (x21 : Int) (x22 : Int) (x23 : Int) (x24 : Int) (x25 : Int) (x26 : Int) (x27 : (List Int)) (x28 : Nat) (x29 : Int) (x30 : Int) (x31 : (List Int)) (x32 : Int) (x33 : (List Int)) (x34 : Bool) (x35 : Int) (x36 : (List Int)) (x37 : Int) (x38 : Bool) (x39 : Int) (x40 : (List Int)) (x41 : Int) (x42 : Int) (x43 : Int) (x44 : Int) (x45 : Int) (x46 : Int) (x47 : Bool) (x48 : Int) (x49 : (List Int)) (x50 : (List Int)) (x51 : Int) (x52 : Int) (x53 : Int) (x54 : Int) (x55 : Int) (x56 : (List Int)) (x57 : Bool) (x58 : Int) (x59 : Int) (x60 : Int) (x61 : (List Int)) (x62 : Int) (x63 : Bool) (x64 : Int) (x65 : Int) (x66 : (List (List UInt8))) (rec : List It → St → Prop) (K : V → List Blk → Prop) v0 (hv0 : v0 = (hearU x66 (⟨(⟨x61, x62⟩ : Vm.Flash), x63, x64, x65⟩ : Vm.UnitD) (⟨x51, x52, x53, x54, x55, x56, x57⟩ : Vm.Message))) : segD Γ_law_UnitPieces tab fn_law_UnitPieces 0 K rec (.code (Code.sub (bodyOf fn_law_UnitPieces) [1, 1, 1, 1, 1, 1, 1, 1, 0, 1, 0, 0, 1, 0, 0, 1, 1, 1, 1, 0, 1, 0, 0]) :: law_UnitPieces_L1) (law_UnitPieces_S1 x0 x1 x2 x3 x4 x5 x6 x7 x8 x9 x10 x11 x12 x13 x14 x15 x16 x17 x18 x19 x20 x21 x22 x23 x24 x25 x26 x27 x28 x29 x30 x31 x32 x33 x34 x35 x36 x37 x38 x39 x40 x41 x42 x43 x44 x45 x46 x47 x48 x49 x50 x51 x52 x53 x54 x55 x56 x57 x58 x59 x60 x61 x62 x63 x64 x65 x66) = (
    br (lti x0 x1)
     (((List.length x66) ≤ 140737488355328) ∧
      (br (!(eqi (v0).snd (0 : Int)))
       (K (.one (.dat Ty.bool false)) [])
       (rec law_UnitPieces_L1 (law_UnitPieces_S1 (w64 (x0 + (1 : Int))) x1 x2 x3 x4 x5 x6 x7 x8 x9 x10 x11 x12 x13 x14 x15 x16 x17 x18 x19 x20 x21 x22 x23 x24 x25 x26 x27 x28 x29 x30 x31 x32 x33 x34 x35 x36 x37 x38 x39 x40 x41 x42 x43 x44 x45 (v0).snd x47 x48 x49 x50 x51 x52 x53 x54 x55 x56 x57 x58 x59 x60 ((((v0).fst).fst).f).words ((((v0).fst).fst).f).fuel (((v0).fst).fst).up (((v0).fst).fst).n (((v0).fst).fst).got x66))))
     (rec law_UnitPieces_L0 (law_UnitPieces_S0 (w64 (x42 + (1 : Int))) x17 x44 x45 x46 x47 x48 x49 x50 x58 x59 x60 x61 x62 x63 x64 x65 x66))) := by subst hv0; kernel_rfl
theorem law_UnitPieces_w1 (x0 : Int) (x1 : Int) (x2 : Int) (x3 : Int) (x4 : Int) (x5 : Int) (x6 : Int) (x7 : Int) (x8 : Int) (x9 : (List Int)) (x10 : Bool) (x11 : (List Int)) (x12 : Int) (x13 : Int) (x14 : (List Int)) (x15 : Int) (x16 : Int) (x17 : Int) (x18 : Int) (x19 : Int) (x20 : (List Int)) (x21 : Int) (x22 : Int) (x23 : Int) (x24 : Int) (x25 : Int) (x26 : Int) (x27 : (List Int)) (x28 : Nat) (x29 : Int) (x30 : Int) (x31 : (List Int)) (x32 : Int) (x33 : (List Int)) (x34 : Bool) (x35 : Int) (x36 : (List Int)) (x37 : Int) (x38 : Bool) (x39 : Int) (x40 : (List Int)) (x41 : Int) (x42 : Int) (x43 : Int) (x44 : Int) (x45 : Int) (x46 : Int) (x47 : Bool) (x48 : Int) (x49 : (List Int)) (x50 : (List Int)) (x51 : Int) (x52 : Int) (x53 : Int) (x54 : Int) (x55 : Int) (x56 : (List Int)) (x57 : Bool) (x58 : Int) (x59 : Int) (x60 : Int) (x61 : (List Int)) (x62 : Int) (x63 : Bool) (x64 : Int) (x65 : Int) (x66 : (List (List UInt8))) (m : Nat) (K : V → List Blk → Prop) : goD Γ_law_UnitPieces tab fn_law_UnitPieces 0 K (m + 1) law_UnitPieces_L1 (law_UnitPieces_S1 x0 x1 x2 x3 x4 x5 x6 x7 x8 x9 x10 x11 x12 x13 x14 x15 x16 x17 x18 x19 x20 x21 x22 x23 x24 x25 x26 x27 x28 x29 x30 x31 x32 x33 x34 x35 x36 x37 x38 x39 x40 x41 x42 x43 x44 x45 x46 x47 x48 x49 x50 x51 x52 x53 x54 x55 x56 x57 x58 x59 x60 x61 x62 x63 x64 x65 x66) = segD Γ_law_UnitPieces tab fn_law_UnitPieces 0 K (goD Γ_law_UnitPieces tab fn_law_UnitPieces 0 K m) (.code (Code.sub (bodyOf fn_law_UnitPieces) [1, 1, 1, 1, 1, 1, 1, 1, 0, 1, 0, 0, 1, 0, 0, 1, 1, 1, 1, 0, 1, 0, 0]) :: law_UnitPieces_L1) (law_UnitPieces_S1 x0 x1 x2 x3 x4 x5 x6 x7 x8 x9 x10 x11 x12 x13 x14 x15 x16 x17 x18 x19 x20 x21 x22 x23 x24 x25 x26 x27 x28 x29 x30 x31 x32 x33 x34 x35 x36 x37 x38 x39 x40 x41 x42 x43 x44 x45 x46 x47 x48 x49 x50 x51 x52 x53 x54 x55 x56 x57 x58 x59 x60 x61 x62 x63 x64 x65 x66) := rfl
theorem law_UnitPieces_vc2 (x0 : Int) (x1 : Int) (x2 : Int) (x3 : Int) (x4 : Int) (x5 : Int) (x6 : Int) (x7 : Int) (x8 : Int) (x9 : (List Int)) (x10 : Bool) (x11 : (List Int)) (x12 : Int) (x13 : Int) (x14 : (List Int)) (x15 : Int) (x16 : Int) (x17 : Int) (x18 : Int) (x19 : Int) (x20 : (List Int)) (x21 : Int) (x22 : Int) (x23 : Int) (x24 : Bool) (x25 : Int) (x26 : (List Int)) (x27 : Int) (x28 : Bool) (x29 : Int) (x30 : (List Int)) (x31 : Int) (x32 : Int) (x33 : Int) (x34 : Int) (x35 : Int) (x36 : Int) (x37 : Bool) (x38 : Int) (x39 : (List Int)) (x40 : (List Int)) (x41 : Int) (x42 : Int) (x43 : Int) (x44 : Int) (x45 : Int) (x46 : (List Int)) (x47 : Bool) (x48 : Int) (x49 : Int) (x50 : Int) (x51 : (List Int)) (x52 : Int) (x53 : Bool) (x54 : Int) (x55 : Int) (x56 : (List (List UInt8))) (rec : List It → St → Prop) (K : V → List Blk → Prop) v0 (hv0 : v0 = (hearU x56 (⟨(⟨x51, x52⟩ : Vm.Flash), x53, x54, x55⟩ : Vm.UnitD) (⟨x41, x42, x43, x44, x45, x46, x47⟩ : Vm.Message))) : segD Γ_law_UnitPieces tab fn_law_UnitPieces 0 K rec (.code (Code.sub (bodyOf fn_law_UnitPieces) [1, 1, 1, 1, 1, 1, 1, 1, 0, 1, 0, 0, 1, 0, 0, 1, 1, 1, 1, 0, 1, 0, 0]) :: law_UnitPieces_L2) (law_UnitPieces_S2 x0 x1 x2 x3 x4 x5 x6 x7 x8 x9 x10 x11 x12 x13 x14 x15 x16 x17 x18 x19 x20 x21 x22 x23 x24 x25 x26 x27 x28 x29 x30 x31 x32 x33 x34 x35 x36 x37 x38 x39 x40 x41 x42 x43 x44 x45 x46 x47 x48 x49 x50 x51 x52 x53 x54 x55 x56) = (
    br (lti x0 x1)
     (((List.length x56) ≤ 140737488355328) ∧
      (br (!(eqi (v0).snd (0 : Int)))
       (K (.one (.dat Ty.bool false)) [])
       (rec law_UnitPieces_L2 (law_UnitPieces_S2 (w64 (x0 + (1 : Int))) x1 x2 x3 x4 x5 x6 x7 x8 x9 x10 x11 x12 x13 x14 x15 x16 x17 x18 x19 x20 x21 x22 x23 x24 x25 x26 x27 x28 x29 x30 x31 x32 x33 x34 x35 (v0).snd x37 x38 x39 x40 x41 x42 x43 x44 x45 x46 x47 x48 x49 x50 ((((v0).fst).fst).f).words ((((v0).fst).fst).f).fuel (((v0).fst).fst).up (((v0).fst).fst).n (((v0).fst).fst).got x56))))
     (rec law_UnitPieces_L0 (law_UnitPieces_S0 (w64 (x32 + (1 : Int))) x17 x34 x35 x36 x37 x38 x39 x40 x48 x49 x50 x51 x52 x53 x54 x55 x56))) := by subst hv0; kernel_rfl
theorem law_UnitPieces_w2 (x0 : Int) (x1 : Int) (x2 : Int) (x3 : Int) (x4 : Int) (x5 : Int) (x6 : Int) (x7 : Int) (x8 : Int) (x9 : (List Int)) (x10 : Bool) (x11 : (List Int)) (x12 : Int) (x13 : Int) (x14 : (List Int)) (x15 : Int) (x16 : Int) (x17 : Int) (x18 : Int) (x19 : Int) (x20 : (List Int)) (x21 : Int) (x22 : Int) (x23 : Int) (x24 : Bool) (x25 : Int) (x26 : (List Int)) (x27 : Int) (x28 : Bool) (x29 : Int) (x30 : (List Int)) (x31 : Int) (x32 : Int) (x33 : Int) (x34 : Int) (x35 : Int) (x36 : Int) (x37 : Bool) (x38 : Int) (x39 : (List Int)) (x40 : (List Int)) (x41 : Int) (x42 : Int) (x43 : Int) (x44 : Int) (x45 : Int) (x46 : (List Int)) (x47 : Bool) (x48 : Int) (x49 : Int) (x50 : Int) (x51 : (List Int)) (x52 : Int) (x53 : Bool) (x54 : Int) (x55 : Int) (x56 : (List (List UInt8))) (m : Nat) (K : V → List Blk → Prop) : goD Γ_law_UnitPieces tab fn_law_UnitPieces 0 K (m + 1) law_UnitPieces_L2 (law_UnitPieces_S2 x0 x1 x2 x3 x4 x5 x6 x7 x8 x9 x10 x11 x12 x13 x14 x15 x16 x17 x18 x19 x20 x21 x22 x23 x24 x25 x26 x27 x28 x29 x30 x31 x32 x33 x34 x35 x36 x37 x38 x39 x40 x41 x42 x43 x44 x45 x46 x47 x48 x49 x50 x51 x52 x53 x54 x55 x56) = segD Γ_law_UnitPieces tab fn_law_UnitPieces 0 K (goD Γ_law_UnitPieces tab fn_law_UnitPieces 0 K m) (.code (Code.sub (bodyOf fn_law_UnitPieces) [1, 1, 1, 1, 1, 1, 1, 1, 0, 1, 0, 0, 1, 0, 0, 1, 1, 1, 1, 0, 1, 0, 0]) :: law_UnitPieces_L2) (law_UnitPieces_S2 x0 x1 x2 x3 x4 x5 x6 x7 x8 x9 x10 x11 x12 x13 x14 x15 x16 x17 x18 x19 x20 x21 x22 x23 x24 x25 x26 x27 x28 x29 x30 x31 x32 x33 x34 x35 x36 x37 x38 x39 x40 x41 x42 x43 x44 x45 x46 x47 x48 x49 x50 x51 x52 x53 x54 x55 x56) := rfl

theorem inner1_law_UnitPieces (x0 : Int) (x1 : Int) (x2 : Int) (x3 : Int) (x4 : Int) (x5 : Int) (x6 : Int) (x7 : Int) (x8 : Int) (x9 : (List Int)) (x10 : Bool) (x11 : (List Int)) (x12 : Int) (x13 : Int) (x14 : (List Int)) (x15 : Int) (x16 : Int) (x17 : Int) (x18 : Int) (x19 : Int) (x20 : (List Int)) (x21 : Int) (x22 : Int) (x23 : Int) (x24 : Int) (x25 : Int) (x26 : Int) (x27 : (List Int)) (x28 : Nat) (x29 : Int) (x30 : Int) (x31 : (List Int)) (x32 : Int) (x33 : (List Int)) (x34 : Bool) (x35 : Int) (x36 : (List Int)) (x37 : Int) (x38 : Bool) (x39 : Int) (x40 : (List Int)) (x41 : Int) (x42 : Int) (x43 : Int) (x44 : Int) (x45 : Int) (x46 : Int) (x47 : Bool) (x48 : Int) (x49 : (List Int)) (x50 : (List Int)) (x51 : Int) (x52 : Int) (x53 : Int) (x54 : Int) (x55 : Int) (x56 : (List Int)) (x57 : Bool) (x58 : Int) (x59 : Int) (x60 : Int) (x61 : (List Int)) (x62 : Int) (x63 : Bool) (x64 : Int) (x65 : Int) (x66 : (List (List UInt8))) (K : V → List Blk → Prop) (M r : Nat) (z z' : (Vm.UnitD × List Vm.Message) × Int) (h0 : x0 = 0) (h1 : x1 = (r : Int)) (hr : r = 1 ∨ r = 2) (hb : x66.length ≤ 140737488355328)
    (e1 : hearU x66 ⟨⟨x61, x62⟩, x63, x64, x65⟩ ⟨x51, x52, x53, x54, x55, x56, x57⟩ = z) (hz : z.2 = 0) (e2 : hearU x66 ⟨⟨z.1.1.f.words, z.1.1.f.fuel⟩, z.1.1.up, z.1.1.n, z.1.1.got⟩ ⟨x51, x52, x53, x54, x55, x56, x57⟩ = z') (hz' : z'.2 = 0) (hq : z'.1.1 = z.1.1)
    (hM : goD Γ_law_UnitPieces tab fn_law_UnitPieces 0 K M law_UnitPieces_L0 (law_UnitPieces_S0 (w64 (x42 + 1)) x17 x44 x45 0 x47 x48 x49 x50 x58 x59 x60 z.1.1.f.words z.1.1.f.fuel z.1.1.up z.1.1.n z.1.1.got x66)) :
    goD Γ_law_UnitPieces tab fn_law_UnitPieces 0 K (M + 1 + r) law_UnitPieces_L1 (law_UnitPieces_S1 x0 x1 x2 x3 x4 x5 x6 x7 x8 x9 x10 x11 x12 x13 x14 x15 x16 x17 x18 x19 x20 x21 x22 x23 x24 x25 x26 x27 x28 x29 x30 x31 x32 x33 x34 x35 x36 x37 x38 x39 x40 x41 x42 x43 x44 x45 x46 x47 x48 x49 x50 x51 x52 x53 x54 x55 x56 x57 x58 x59 x60 x61 x62 x63 x64 x65 x66) := by
  subst h0
  subst h1
  rcases hr with rfl | rfl
  · rw [law_UnitPieces_w1, law_UnitPieces_vc1 _ _ _ _ _ _ _ _ _ _ _ _ _ _ _ _ _ _ _ _ _ _ _ _ _ _ _ _ _ _ _ _ _ _ _ _ _ _ _ _ _ _ _ _ _ _ _ _ _ _ _ _ _ _ _ _ _ _ _ _ _ _ _ _ _ _ _ _ _ _ rfl, e1]
    refine lt_t (by decide) ⟨hb, ne_f hz ?_⟩
    rw [hz, law_UnitPieces_w1, law_UnitPieces_vc1 _ _ _ _ _ _ _ _ _ _ _ _ _ _ _ _ _ _ _ _ _ _ _ _ _ _ _ _ _ _ _ _ _ _ _ _ _ _ _ _ _ _ _ _ _ _ _ _ _ _ _ _ _ _ _ _ _ _ _ _ _ _ _ _ _ _ _ _ _ _ rfl]
    exact lt_f (by decide) hM
  · rw [law_UnitPieces_w1, law_UnitPieces_vc1 _ _ _ _ _ _ _ _ _ _ _ _ _ _ _ _ _ _ _ _ _ _ _ _ _ _ _ _ _ _ _ _ _ _ _ _ _ _ _ _ _ _ _ _ _ _ _ _ _ _ _ _ _ _ _ _ _ _ _ _ _ _ _ _ _ _ _ _ _ _ rfl, e1]
    refine lt_t (by decide) ⟨hb, ne_f hz ?_⟩
    rw [hz, law_UnitPieces_w1, law_UnitPieces_vc1 _ _ _ _ _ _ _ _ _ _ _ _ _ _ _ _ _ _ _ _ _ _ _ _ _ _ _ _ _ _ _ _ _ _ _ _ _ _ _ _ _ _ _ _ _ _ _ _ _ _ _ _ _ _ _ _ _ _ _ _ _ _ _ _ _ _ _ _ _ _ rfl, e2]
    refine lt_t (by decide) ⟨hb, ne_f hz' ?_⟩
    rw [hz', hq, law_UnitPieces_w1, law_UnitPieces_vc1 _ _ _ _ _ _ _ _ _ _ _ _ _ _ _ _ _ _ _ _ _ _ _ _ _ _ _ _ _ _ _ _ _ _ _ _ _ _ _ _ _ _ _ _ _ _ _ _ _ _ _ _ _ _ _ _ _ _ _ _ _ _ _ _ _ _ _ _ _ _ rfl]
    exact lt_f (by decide) hM
theorem inner2_law_UnitPieces (x0 : Int) (x1 : Int) (x2 : Int) (x3 : Int) (x4 : Int) (x5 : Int) (x6 : Int) (x7 : Int) (x8 : Int) (x9 : (List Int)) (x10 : Bool) (x11 : (List Int)) (x12 : Int) (x13 : Int) (x14 : (List Int)) (x15 : Int) (x16 : Int) (x17 : Int) (x18 : Int) (x19 : Int) (x20 : (List Int)) (x21 : Int) (x22 : Int) (x23 : Int) (x24 : Bool) (x25 : Int) (x26 : (List Int)) (x27 : Int) (x28 : Bool) (x29 : Int) (x30 : (List Int)) (x31 : Int) (x32 : Int) (x33 : Int) (x34 : Int) (x35 : Int) (x36 : Int) (x37 : Bool) (x38 : Int) (x39 : (List Int)) (x40 : (List Int)) (x41 : Int) (x42 : Int) (x43 : Int) (x44 : Int) (x45 : Int) (x46 : (List Int)) (x47 : Bool) (x48 : Int) (x49 : Int) (x50 : Int) (x51 : (List Int)) (x52 : Int) (x53 : Bool) (x54 : Int) (x55 : Int) (x56 : (List (List UInt8))) (K : V → List Blk → Prop) (M r : Nat) (z z' : (Vm.UnitD × List Vm.Message) × Int) (h0 : x0 = 0) (h1 : x1 = (r : Int)) (hr : r = 1 ∨ r = 2) (hb : x56.length ≤ 140737488355328)
    (e1 : hearU x56 ⟨⟨x51, x52⟩, x53, x54, x55⟩ ⟨x41, x42, x43, x44, x45, x46, x47⟩ = z) (hz : z.2 = 0) (e2 : hearU x56 ⟨⟨z.1.1.f.words, z.1.1.f.fuel⟩, z.1.1.up, z.1.1.n, z.1.1.got⟩ ⟨x41, x42, x43, x44, x45, x46, x47⟩ = z') (hz' : z'.2 = 0) (hq : z'.1.1 = z.1.1)
    (hM : goD Γ_law_UnitPieces tab fn_law_UnitPieces 0 K M law_UnitPieces_L0 (law_UnitPieces_S0 (w64 (x32 + 1)) x17 x34 x35 0 x37 x38 x39 x40 x48 x49 x50 z.1.1.f.words z.1.1.f.fuel z.1.1.up z.1.1.n z.1.1.got x56)) :
    goD Γ_law_UnitPieces tab fn_law_UnitPieces 0 K (M + 1 + r) law_UnitPieces_L2 (law_UnitPieces_S2 x0 x1 x2 x3 x4 x5 x6 x7 x8 x9 x10 x11 x12 x13 x14 x15 x16 x17 x18 x19 x20 x21 x22 x23 x24 x25 x26 x27 x28 x29 x30 x31 x32 x33 x34 x35 x36 x37 x38 x39 x40 x41 x42 x43 x44 x45 x46 x47 x48 x49 x50 x51 x52 x53 x54 x55 x56) := by
  subst h0
  subst h1
  rcases hr with rfl | rfl
  · rw [law_UnitPieces_w2, law_UnitPieces_vc2 _ _ _ _ _ _ _ _ _ _ _ _ _ _ _ _ _ _ _ _ _ _ _ _ _ _ _ _ _ _ _ _ _ _ _ _ _ _ _ _ _ _ _ _ _ _ _ _ _ _ _ _ _ _ _ _ _ _ _ _ rfl, e1]
    refine lt_t (by decide) ⟨hb, ne_f hz ?_⟩
    rw [hz, law_UnitPieces_w2, law_UnitPieces_vc2 _ _ _ _ _ _ _ _ _ _ _ _ _ _ _ _ _ _ _ _ _ _ _ _ _ _ _ _ _ _ _ _ _ _ _ _ _ _ _ _ _ _ _ _ _ _ _ _ _ _ _ _ _ _ _ _ _ _ _ _ rfl]
    exact lt_f (by decide) hM
  · rw [law_UnitPieces_w2, law_UnitPieces_vc2 _ _ _ _ _ _ _ _ _ _ _ _ _ _ _ _ _ _ _ _ _ _ _ _ _ _ _ _ _ _ _ _ _ _ _ _ _ _ _ _ _ _ _ _ _ _ _ _ _ _ _ _ _ _ _ _ _ _ _ _ rfl, e1]
    refine lt_t (by decide) ⟨hb, ne_f hz ?_⟩
    rw [hz, law_UnitPieces_w2, law_UnitPieces_vc2 _ _ _ _ _ _ _ _ _ _ _ _ _ _ _ _ _ _ _ _ _ _ _ _ _ _ _ _ _ _ _ _ _ _ _ _ _ _ _ _ _ _ _ _ _ _ _ _ _ _ _ _ _ _ _ _ _ _ _ _ rfl, e2]
    refine lt_t (by decide) ⟨hb, ne_f hz' ?_⟩
    rw [hz', hq, law_UnitPieces_w2, law_UnitPieces_vc2 _ _ _ _ _ _ _ _ _ _ _ _ _ _ _ _ _ _ _ _ _ _ _ _ _ _ _ _ _ _ _ _ _ _ _ _ _ _ _ _ _ _ _ _ _ _ _ _ _ _ _ _ _ _ _ _ _ _ _ _ rfl]
    exact lt_f (by decide) hM
theorem loop_law_UnitPieces (b : List (List UInt8)) (image cuts : List Int) (n name : Int) (s : UState) (o : Nat) (K : V → List Blk → Prop) (hK : K (.one (.dat .bool true)) []) (hbl : b.length ≤ 140737488355328) (cb : checkBook b = 0) (ho : o ≤ 1) (hs : 1 - s.slot = (o : Int)) (hr : s.ready = 0) (hby : s.by_ < n) (hn1 : 1 ≤ n) (hn : n ≤ 8)
    (hi : okWords image = true) (h1 : 1 ≤ image.length) (h2 : image.length ≤ 40) (h3 : 1 ≤ name) (h4 : name ≤ 60) (hname : imageName b image = (name, 0)) :
    ∀ (d k cnt : Nat) (x4 : Int) (u : UnitD), image.length ≤ k + d → k ≤ image.length → cnt + d ≤ 100 → Heard s n image o k u →
    ∃ M, goD Γ_law_UnitPieces tab fn_law_UnitPieces 0 K M law_UnitPieces_L0 (law_UnitPieces_S0 (cnt : Int) (k : Int) 0 name x4 false n image cuts s.slot s.by_ s.ready u.f.words u.f.fuel u.up u.n u.got b) := by
  have li : ((len image : Nat) : Int) = (image.length : Int) := rfl
  have fin : ∀ (k cnt : Nat) (x4 : Int) (u : UnitD), k = image.length → Heard s n image o k u →
      ∃ M, goD Γ_law_UnitPieces tab fn_law_UnitPieces 0 K M law_UnitPieces_L0 (law_UnitPieces_S0 (cnt : Int) (k : Int) 0 name x4 false n image cuts s.slot s.by_ s.ready u.f.words u.f.fuel u.up u.n u.got b) := by
    intro k cnt x4 u hk hu
    subst hk
    refine ⟨1, ?_⟩
    rw [law_UnitPieces_w0, law_UnitPieces_vc0 _ _ _ _ _ _ _ _ _ _ _ _ _ _ _ _ _ _ _ _ _ rfl _ rfl _ rfl _ rfl, li]
    have ex : ∀ x : Vm.UnitD, (⟨⟨x.f.words, x.f.fuel⟩, x.up, x.n, x.got⟩ : Vm.UnitD) = x := fun _ => rfl
    have exf : ∀ x : Vm.Flash, (⟨x.words, x.fuel⟩ : Vm.Flash) = x := fun _ => rfl
    have cu := checkU_of hu.f hu.c
    have cm : checkM ⟨2, 0, n, (image.length : Int), name, [], false⟩ = 0 := by
      unfold checkM
      rw [if_neg (by simp only [List.length_nil]; omega), if_pos (show okWords [] = true from rfl)]
    have hp := prepare_all (b := b) (m := ⟨2, 0, n, (image.length : Int), name, [], false⟩) hu hr hby hn1 ho hs rfl rfl rfl rfl hi h1 h2 h3 h4 hname
    have cx := hears_right (b := b) cu cm
    rw [ex, hearU_mk cb cu cm]
    obtain ⟨z, hz⟩ : ∃ z, hearsU b u ⟨2, 0, n, (image.length : Int), name, [], false⟩ = z := ⟨_, rfl⟩
    rw [hz] at hp cx ⊢
    obtain ⟨x, l⟩ := z
    simp only at hp cx ⊢
    rw [ex, exf, readU_ok cx, w64_id (n := 1 - s.slot) (by omega) (by omega), hs]
    refine lt_f (by omega) ⟨hbl, ne_f rfl ?_⟩
    rcases hp with rfl | ⟨rfl, p2, p3⟩
    · exact eq_t rfl hK
    · rw [p3]
      refine eq_f (by simp [len, voteM]) (eq_t rfl (eq_t rfl ⟨⟨by decide, by simp [len, voteM]⟩, br_t rfl (eq_t p2 (eq_t rfl ⟨by show image.length ≤ _; omega, ?_⟩))⟩))
      rw [show eqIs _ _ = true from decide_eq_true rfl]
      exact hK
  intro d
  induction d with
  | zero => intro k cnt x4 u hd hk _ hu; exact fin k cnt x4 u (by omega) hu
  | succ d ih =>
    intro k cnt x4 u hd hk hc hu
    by_cases ck : k = image.length
    · exact fin k cnt x4 u ck hu
    obtain ⟨r, hr', hrr⟩ : ∃ r : Nat, w64 (1 + Int.tmod (cnt : Int) 2) = (r : Int) ∧ (r = 1 ∨ r = 2) := by
      rw [Int.tmod_eq_emod_of_nonneg (by omega)]
      exact ⟨1 + cnt % 2, by rw [w64_id (by omega) (by omega)]; omega, by omega⟩
    have step : ∀ j : Nat, k < j → j ≤ image.length → j ≤ k + 8 → ∃ (M : Nat) (z z' : (Vm.UnitD × List Vm.Message) × Int),
        hearU b ⟨⟨u.f.words, u.f.fuel⟩, u.up, u.n, u.got⟩ ⟨1, 0, n, (k : Int), 0, slc image k j, false⟩ = z ∧ z.2 = 0 ∧
        hearU b ⟨⟨z.1.1.f.words, z.1.1.f.fuel⟩, z.1.1.up, z.1.1.n, z.1.1.got⟩ ⟨1, 0, n, (k : Int), 0, slc image k j, false⟩ = z' ∧ z'.2 = 0 ∧ z'.1.1 = z.1.1 ∧
        goD Γ_law_UnitPieces tab fn_law_UnitPieces 0 K M law_UnitPieces_L0 (law_UnitPieces_S0 (w64 ((cnt : Int) + 1)) (j : Int) 0 name 0 false n image cuts s.slot s.by_ s.ready z.1.1.f.words z.1.1.f.fuel z.1.1.up z.1.1.n z.1.1.got b) := by
      intro j j1 j2 j3
      have lp : (slc image k j).length = j - k := by simp only [slc, List.length_drop, List.length_take]; omega
      have hp : okWords (slc image k j) = true := slc_ok hi k j
      have cm := checkM_piece (n := n) (k := k) (p := slc image k j) ⟨hn1, hn⟩ (by omega) hp (by omega)
      obtain ⟨q1, q2⟩ := piece_step (b := b) (m := ⟨1, 0, n, (k : Int), 0, slc image k j, false⟩) (p := slc image k j) hu hr hby hn hn1 ho hs rfl rfl rfl rfl hp (by omega) (by omega) (fun i hi' => slc_at image k j i (by omega))
      rw [lp, show k + (j - k) = j by omega] at q1
      have cu := checkU_of hu.f hu.c
      have cx := checkU_of q1.f q1.c
      obtain ⟨M, hM⟩ := ih j (cnt + 1) 0 _ (by omega) j2 (by omega) q1
      rw [show ((cnt + 1 : Nat) : Int) = w64 ((cnt : Int) + 1) by rw [w64_id (by omega) (by omega)]; omega] at hM
      have ez := hearU_mk cb cu cm
      have ez' := hearU_mk cb cx cm
      obtain ⟨x, hx⟩ : ∃ x, hearsU b u ⟨1, 0, n, (k : Int), 0, slc image k j, false⟩ = x := ⟨_, rfl⟩
      rw [hx] at hM q2 ez ez'
      exact ⟨M, _, _, ez, rfl, ez', rfl, q2, hM⟩
    by_cases cc : 0 < cuts.length
    · have lc : ((len cuts : Nat) : Int) = (cuts.length : Int) := rfl
      have t0 : 0 ≤ Int.tmod (cnt : Int) (cuts.length : Int) := by rw [Int.tmod_eq_emod_of_nonneg (by omega)]; exact Int.emod_nonneg _ (by omega)
      have t1 : Int.tmod (cnt : Int) (cuts.length : Int) < cuts.length := by rw [Int.tmod_eq_emod_of_nonneg (by omega)]; exact Int.emod_lt_of_pos _ (by omega)
      obtain ⟨c, hcc⟩ : ∃ c, nth cuts (Int.toNat (Int.tmod (cnt : Int) (cuts.length : Int))) (Ty.dflt Ty.int) % 8 = c := ⟨_, rfl⟩
      have c0 : 0 ≤ c := by rw [← hcc]; exact Int.emod_nonneg _ (by decide)
      have c1 : c < 8 := by rw [← hcc]; exact Int.emod_lt_of_pos _ (by decide)
      have ew : w64 (1 + c) = 1 + c := w64_id (by omega) (by omega)
      obtain ⟨j, hj, j1, j2, j3⟩ : ∃ j : Nat, min (w64 ((k : Int) + (1 + c))) (image.length : Int) = (j : Int) ∧ k < j ∧ j ≤ image.length ∧ j ≤ k + 8 := by
        rw [w64_id (by omega) (by omega)]
        exact ⟨(min ((k : Int) + (1 + c)) (image.length : Int)).toNat, by omega, by omega, by omega, by omega⟩
      obtain ⟨M, z, z', s1, s2, s3, s4, s5, s6⟩ := step j j1 j2 j3
      refine ⟨M + 1 + r + 1, ?_⟩
      rw [law_UnitPieces_w0, law_UnitPieces_vc0 _ _ _ _ _ _ _ _ _ _ _ _ _ _ _ _ _ _ _ _ _ rfl _ rfl _ rfl _ rfl, li, lc, hcc, ew, hj, hr', toNat_nat, toNat_nat]
      refine lt_t (by omega) (lt_t (by omega) ⟨by omega, ⟨t0, t1⟩, ⟨by decide, by decide⟩, ⟨by omega, by omega, by omega⟩, by decide, ?_⟩)
      exact inner1_law_UnitPieces (K := K) (M := M) (r := r) (z := z) (z' := z') (h0 := rfl) (h1 := rfl) (hr := hrr) (hb := hbl) (e1 := s1) (hz := s2) (e2 := s3) (hz' := s4) (hq := s5) (hM := s6) ..
    · have lc : ((len cuts : Nat) : Int) = (cuts.length : Int) := rfl
      obtain ⟨j, hj, j1, j2, j3⟩ : ∃ j : Nat, min (w64 ((k : Int) + 8)) (image.length : Int) = (j : Int) ∧ k < j ∧ j ≤ image.length ∧ j ≤ k + 8 := by
        rw [w64_id (by omega) (by omega)]
        exact ⟨(min ((k : Int) + 8) (image.length : Int)).toNat, by omega, by omega, by omega, by omega⟩
      obtain ⟨M, z, z', s1, s2, s3, s4, s5, s6⟩ := step j j1 j2 j3
      refine ⟨M + 1 + r + 1, ?_⟩
      rw [law_UnitPieces_w0, law_UnitPieces_vc0 _ _ _ _ _ _ _ _ _ _ _ _ _ _ _ _ _ _ _ _ _ rfl _ rfl _ rfl _ rfl, li, lc, hj, hr', toNat_nat, toNat_nat]
      refine lt_t (by omega) (lt_f (by omega) ⟨⟨by omega, by omega, by omega⟩, by decide, ?_⟩)
      exact inner2_law_UnitPieces (K := K) (M := M) (r := r) (z := z) (z' := z') (h0 := rfl) (h1 := rfl) (hr := hrr) (hb := hbl) (e1 := s1) (hz := s2) (e2 := s3) (hz' := s4) (hq := s5) (hM := s6) ..
set_option maxHeartbeats 4000000 in
theorem run_law_UnitPieces (b : List (List UInt8)) (ws : List Int) (fu : Int) (up : Bool) (un ug : Int) (n : Int) (image cuts : List Int) (hp : b.length ≤ 140737488355328 ∧ I64 n) (K : V → List Blk → Prop) (hK : K (.one (.dat .bool true)) []) : ∃ m, goD Γ_law_UnitPieces tab fn_law_UnitPieces 0 K m [.code (bodyOf fn_law_UnitPieces)] (initSt [.agg [.dat (.list .str) b], .agg [.dat (.list .int) ws, .dat .int fu, .dat .bool up, .dat .int un, .dat .int ug], .one (.dat .int n), .one (.dat (.list .int) image), .one (.dat (.list .int) cuts)] []) := by
  obtain ⟨hbl, hn64⟩ := hp
  by_cases g : (readU ⟨⟨ws, -1⟩, up, un, ug⟩).2 = 0 ∧ (imageName b image).2 = 0 ∧ (imageName b image).1 ≠ 0 ∧ (readU ⟨⟨ws, -1⟩, up, un, ug⟩).1.ready = 0 ∧ (readU ⟨⟨ws, -1⟩, up, un, ug⟩).1.by_ < 8 ∧ up = true
  case neg =>
    refine ⟨1, ?_⟩
    rw [law_UnitPieces_w, law_UnitPieces_vc _ _ _ _ _ _ _ _ _ _ _ _ rfl _ rfl _ rfl]
    exact ⟨hbl, ne_s (fun _ => hK) fun a1 => ne_s (fun _ => hK) fun a2 => eq_s (fun _ => hK) fun a3 => ne_s (fun _ => hK) fun a4 => br_split (fun _ => hK) fun a5 => br_split (fun _ => hK) fun a6 => absurd ⟨a1, a2, a3, a4, by have := of_decide_eq_false a5; omega, not_false.1 a6⟩ g⟩
  obtain ⟨g1, g2, g3, g4, g5, g6⟩ := g
  have cu := readU_inv g1
  have hu := okF_of cu
  have er := readU_ok cu
  rw [er] at g4 g5
  simp only at g4 g5
  obtain ⟨i1, i2, i3, i4⟩ := imageName_range g2 g3
  obtain ⟨w1, w2, w3⟩ := checkImage_ok i1
  have os := ofU_ok ⟨ws, -1⟩
  obtain ⟨s, hs⟩ : ∃ s, ofU ⟨ws, -1⟩ = s := ⟨_, rfl⟩
  rw [hs] at g4 g5 os er
  obtain ⟨o, ho, hso, _⟩ := other_slot os
  have ob := os.2.1
  have e8 : w64 (8 - s.by_) = 8 - s.by_ := w64_id (by omega) (by omega)
  have q0 := Int.emod_nonneg n (show (8 - s.by_ : Int) ≠ 0 by omega)
  have q1 := Int.emod_lt_of_pos n (show (0 : Int) < 8 - s.by_ by omega)
  obtain ⟨q, hq⟩ : ∃ q, n % (8 - s.by_) = q := ⟨_, rfl⟩
  rw [hq] at q0 q1
  obtain ⟨name, hname⟩ : ∃ name, (imageName b image).1 = name := ⟨_, rfl⟩
  rw [hname] at i2 i3
  have ein : imageName b image = (name, 0) := Prod.ext hname g2
  have ebt := bootU_ok cu
  simp only at ebt
  obtain ⟨M, hM⟩ := loop_law_UnitPieces b image cuts (s.by_ + 1 + q) name s o K hK hbl i4 ho hso g4 (by omega) (by omega) (by omega) w3 w1 w2 i2 i3 ein 40 0 0 0 ⟨⟨ws, -1⟩, true, 0, 0⟩ (by omega) (by omega) (by omega) ⟨hu, ⟨by simp, by simp⟩, rfl, rfl, hs, fun _ => rfl, fun h => absurd h (by omega)⟩
  refine ⟨M + 1, ?_⟩
  rw [law_UnitPieces_w, law_UnitPieces_vc _ _ _ _ _ _ _ _ _ _ _ _ rfl _ rfl _ rfl, er, ein, ebt]
  simp only
  rw [e8, hq, w64_id (n := s.by_ + 1) (by omega) (by omega), w64_id (n := s.by_ + 1 + q) (by omega) (by omega)]
  exact ⟨hbl, ne_f rfl (ne_f rfl (eq_f (by omega) (ne_f g4 (br_f (decide_eq_false (by omega)) (nt_f g6 ⟨⟨by omega, by omega⟩, ne_f rfl hM⟩)))))⟩
theorem sound_law_UnitPieces : SoundC Tryd.prog tab n_law_UnitPieces c_law_UnitPieces := soundC_of ok_law_UnitPieces hf_law_UnitPieces hB_law_UnitPieces (by
  intro vs bs p v bs' h hp
  unfold c_law_UnitPieces at h
  split at h
  · cases h
    exact ⟨by kernel_rfl, rfl, .inl (run_law_UnitPieces _ _ _ _ _ _ _ _ _ hp.1 _ ⟨rfl, rfl⟩)⟩
  · cases h)
end Go.Proofs.YtlbppjmekiemiabDoor
