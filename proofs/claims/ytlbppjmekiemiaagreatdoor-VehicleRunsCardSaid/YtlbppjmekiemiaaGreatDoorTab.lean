/- The names of functions: q10 flash_Burn, q15 slices_IndexFunc_Lint, q16 slices_IndexFunc_Record, q17 slices_ContainsFunc_Lint, q37 ref_Changed, q61 log_scan, q75 slices_Concat_Lref_change, q81 ref_RecordsOf, q86 slices_Index_Lstring, q92 meta_CheckRelease, q119 trust_Take, q165 gate_state, q200 ref_Counted, q209 ref_GateStateOf, q212 ref_GateDue, q228 slices_Delete_LMessage, q230 vehicle_Check, q231 vehicle_Copy, q258 law_factory, q288 ref_OwnVehicle, q289 ref_CheckVehicle, q294 ref_Happened. -/
/- The types of the program, checked; its functions by name. No condition. -/
import Derived.Test.YtlbppjmekiemiaaGreatDoorVmd
import Derived.Test.YtlbppjmekiemiaaGreatDoorChecked
import Derived.KernelRfl
import Derived.WalkKit
namespace Go.Proofs.YtlbppjmekiemiaaGreatDoor
open bE
abbrev bZ := List cw -> bP -> Prop
abbrev aW := V -> List bQ -> Prop
abbrev A(n : Int) : C := .E z.int n
abbrev ay(b : Bool) : C := .E z.bool b
abbrev af(l : List Int) : C := .E (z.list z.int) l
abbrev bj(l : List Bool) : C := .E (z.list z.bool) l
abbrev bB(l : List Message) : C := .E (z.list z.message) l
abbrev cH(l : List (List Int)) : C := .E (z.list (z.list z.int)) l
abbrev fi : V := .one (ay false)
abbrev og : V := .one (ay true)
abbrev jB(g : Gate) : List C := [af g.f.words, A g.f.fuel, ay g.up, A g.t.r.version, af g.t.r.keys, A g.t.r.ej, A g.t.version, bj g.cF, bj g.did]
abbrev fP(u : cW) : List C := [af u.f.words, A u.f.fuel, ay u.up, A u.n, A u.eE]
abbrev kX(v : cT)(a b c : C) : List C := [.E (z.list z.str) v.b, .E (z.list z.signed) v.s, af v.g.f.words, A v.g.f.fuel, ay v.g.up, A v.g.t.r.version, af v.g.t.r.keys, A v.g.t.r.ej, A v.g.t.version, bj v.g.cF, bj v.g.did, a, b, c, A v.now]
abbrev mv(v : cT) : List C := kX v (.E (z.list z.aT) v.aL) (.E (z.list z.aU) v.cp) (bB v.U)
abbrev en(aM : List (List UInt8))(vs : List Signed)(ws : List Int)(fu : Int)(up : Bool)(ak : Int)(ah : List Int)(aj ai : Int)(Y aa : List Bool)(a b c : C)(now : Int) : List C := [.E (z.list z.str) aM, .E (z.list z.signed) vs, af ws, A fu, ay up, A ak, af ah, A aj, A ai, bj Y, bj aa, a, b, c, A now]
abbrev fU : List C := [.E (z.list z.str) [], .E (z.list z.signed) [], af [], A (0 : Int), ay false, A (0 : Int), af [], A (0 : Int), A (0 : Int), bj [], bj [], .E (z.list z.aT) [], .E (z.list z.aU) [], bB [], A (0 : Int)]
noncomputable def tab : ci := ⟨[
  (3, ⟨1, .int, [.E z.int (0 : Int)], [], [], 0⟩),
  (4, ⟨1, .bool, [.E z.bool false], [], [], 0⟩),
  (9, ⟨1, .str, [.E z.str []], [], [], 0⟩),
  (20, ⟨1, .iface, [.undef], [], [], 0⟩),
  (22, ⟨1, .slice z.str 9, [.nil z.str], [], [], 16⟩),
  (24, ⟨1, .struct, [.nil z.str], [0], [1], 0⟩),
  (25, ⟨1, .slice z.signed 91, [.nil z.signed], [], [], 16⟩),
  (26, ⟨1, .slice z.int 3, [.nil z.int], [], [], 8⟩),
  (28, ⟨2, .struct, [.nil z.int, .E z.int (0 : Int)], [0, 1], [1, 1], 0⟩),
  (30, ⟨3, .struct, [.E z.int (0 : Int), .nil z.int, .E z.int (0 : Int)], [0, 1, 2], [1, 1, 1], 0⟩),
  (32, ⟨4, .struct, [.E z.int (0 : Int), .nil z.int, .E z.int (0 : Int), .E z.int (0 : Int)], [0, 3], [3, 1], 0⟩),
  (33, ⟨1, .slice z.bool 4, [.nil z.bool], [], [], 1⟩),
  (35, ⟨9, .struct, [.nil z.int, .E z.int (0 : Int), .E z.bool false, .E z.int (0 : Int), .nil z.int, .E z.int (0 : Int), .E z.int (0 : Int), .nil z.bool, .nil z.bool], [0, 2, 3, 7, 8], [2, 1, 4, 1, 1], 0⟩),
  (36, ⟨1, .slice z.aT 69, [.nil z.aT], [], [], 56⟩),
  (37, ⟨1, .slice z.aU 72, [.nil z.aU], [], [], 72⟩),
  (38, ⟨1, .slice z.message 76, [.nil z.message], [], [], 72⟩),
  (40, ⟨15, .struct, [.nil z.str, .nil z.signed, .nil z.int, .E z.int (0 : Int), .E z.bool false, .E z.int (0 : Int), .nil z.int, .E z.int (0 : Int), .E z.int (0 : Int), .nil z.bool, .nil z.bool, .nil z.aT, .nil z.aU, .nil z.message, .E z.int (0 : Int)], [0, 1, 2, 11, 12, 13, 14], [1, 1, 9, 1, 1, 1, 1], 0⟩),
  (41, ⟨1, .slice z.fc 57, [.nil z.fc], [], [], 160⟩),
  (42, ⟨1, .slice z.int 43, [.nil z.int], [], [], 8⟩),
  (43, ⟨1, .int, [.E z.int (0 : Int)], [], [], 0⟩),
  (49, ⟨1, .slice z.root 30, [.nil z.root], [], [], 40⟩),
  (50, ⟨1, .slice (z.list z.int) 26, [.nil (z.list z.int)], [], [], 24⟩),
  (51, ⟨1, .slice z.target 126, [.nil z.target], [], [], 24⟩),
  (53, ⟨3, .struct, [.E z.int (0 : Int), .E z.int (0 : Int), .nil z.target], [0, 1, 2], [1, 1, 1], 0⟩),
  (55, ⟨7, .struct, [.nil z.root, .nil (z.list z.int), .E z.int (0 : Int), .E z.int (0 : Int), .nil z.target, .nil z.int, .nil (z.list z.int)], [0, 1, 2, 5, 6], [1, 1, 3, 1, 1], 0⟩),
  (57, ⟨10, .struct, [.E z.int (0 : Int), .E z.int (0 : Int), .E z.int (0 : Int), .nil z.root, .nil (z.list z.int), .E z.int (0 : Int), .E z.int (0 : Int), .nil z.target, .nil z.int, .nil (z.list z.int)], [0, 1, 2, 3], [1, 1, 1, 7], 0⟩),
  (64, ⟨1, .other, [.undef], [], [], 0⟩),
  (69, ⟨5, .struct, [.nil z.int, .E z.int (0 : Int), .E z.bool false, .E z.int (0 : Int), .E z.int (0 : Int)], [0, 2, 3, 4], [2, 1, 1, 1], 0⟩),
  (72, ⟨5, .struct, [.E z.int (0 : Int), .E z.int (0 : Int), .E z.int (0 : Int), .nil z.target, .nil (z.list z.int)], [0, 1, 4], [1, 3, 1], 0⟩),
  (76, ⟨7, .struct, [.E z.int (0 : Int), .E z.int (0 : Int), .E z.int (0 : Int), .E z.int (0 : Int), .E z.int (0 : Int), .nil z.int, .E z.bool false], [0, 1, 2, 3, 4, 5, 6], [1, 1, 1, 1, 1, 1, 1], 0⟩),
  (78, ⟨1, .slice z.offer 55, [.nil z.offer], [], [], 136⟩),
  (84, ⟨5, .struct, [.E z.int (0 : Int), .E z.int (0 : Int), .E z.bool false, .E z.bool false, .E z.bool false], [0, 1, 2, 3, 4], [1, 1, 1, 1, 1], 0⟩),
  (87, ⟨1, .other, [.undef], [], [], 0⟩),
  (91, ⟨2, .struct, [.E z.int (0 : Int), .E z.int (0 : Int)], [0, 1], [1, 1], 0⟩),
  (94, ⟨1, .other, [.undef], [], [], 0⟩),
  (99, ⟨1, .other, [.undef], [], [], 0⟩),
  (100, ⟨1, .other, [.undef], [], [], 0⟩),
  (101, ⟨1, .other, [.undef], [], [], 0⟩),
  (108, ⟨3, .struct, [.E z.int (0 : Int), .E z.int (0 : Int), .E z.int (0 : Int)], [0, 1, 2], [1, 1, 1], 0⟩),
  (114, ⟨1, .other, [.undef], [], [], 0⟩),
  (126, ⟨3, .struct, [.E z.int (0 : Int), .E z.int (0 : Int), .E z.int (0 : Int)], [0, 1, 2], [1, 1, 1], 0⟩),
  (136, ⟨1, .other, [.undef], [], [], 0⟩),
  (138, ⟨1, .other, [.undef], [], [], 0⟩),
  (148, ⟨1, .other, [.undef], [], [], 0⟩),
  (155, ⟨1, .other, [.undef], [], [], 0⟩),
  (156, ⟨1, .slice (z.list z.int) 159, [.nil (z.list z.int)], [], [], 24⟩),
  (159, ⟨1, .slice z.int 3, [.nil z.int], [], [], 8⟩),
  (160, ⟨1, .other, [.undef], [], [], 0⟩),
  (162, ⟨1, .other, [.undef], [], [], 0⟩),
  (164, ⟨6, .struct, [.nil z.int, .E z.int (0 : Int), .E z.bool false, .E z.int (0 : Int), .E z.int (0 : Int), .E z.bool false], [0, 5], [5, 1], 0⟩),
  (165, ⟨1, .other, [.undef], [], [], 0⟩),
  (178, ⟨1, .other, [.undef], [], [], 0⟩),
  (191, ⟨1, .u64, [.undef], [], [], 0⟩),
  (200, ⟨1, .other, [.undef], [], [], 0⟩),
  (205, ⟨1, .other, [.undef], [], [], 0⟩),
  (212, ⟨1, .slice z.change 247, [.nil z.change], [], [], 16⟩),
  (218, ⟨3, .array 3 1, [.E z.int (0 : Int), .E z.int (0 : Int), .E z.int (0 : Int)], [0, 1, 2], [1, 1, 1], 0⟩),
  (219, ⟨9, .array 3 3, [.E z.int (0 : Int), .E z.int (0 : Int), .E z.int (0 : Int), .E z.int (0 : Int), .E z.int (0 : Int), .E z.int (0 : Int), .E z.int (0 : Int), .E z.int (0 : Int), .E z.int (0 : Int)], [0, 3, 6], [3, 3, 3], 0⟩),
  (242, ⟨1, .pW, [.undef], [], [], 0⟩),
  (247, ⟨2, .struct, [.E z.int (0 : Int), .undef], [0, 1], [1, 1], 0⟩),
  (254, ⟨1, .other, [.undef], [], [], 0⟩),
  (268, ⟨1, .slice (z.list z.change) 212, [.nil (z.list z.change)], [], [], 24⟩),
  (271, ⟨6, .array 2 3, [.E z.int (0 : Int), .nil z.int, .E z.int (0 : Int), .E z.int (0 : Int), .nil z.int, .E z.int (0 : Int)], [0, 3], [3, 3], 0⟩),
  (275, ⟨1, .other, [.undef], [], [], 0⟩)
  ], 177, 195, [84, 91, 108, 126], true, some 0, none, [], some 40⟩
-- pow 0 295 20 233

theorem ZC : E2 Tryz.prog tab where
  ac6 := ⟨Tryz.f177, Tryz.func177, by kernel_rfl, by kernel_rfl⟩
  ac7 := ⟨Tryz.f195, Tryz.func195, by kernel_rfl, by kernel_rfl⟩
  afZ := fun n w => by
    show Calls Tryz.prog 177 _ _ _
    go_enter Tryz.func177, Tryz.ntmps177
    go_wp2
    go_ret
    exact⟨rfl, rfl⟩
  af0 := fun n m b w az => by
    show Calls Tryz.prog 195 _ _ _;have iU : w.cell? ⟨b, 0, none⟩ = some (.int .i64 m) := az;unfold b6
    go_enter Tryz.func195, Tryz.ntmps195
    go_wp2
    go_ret
    exact⟨rfl, rfl⟩
theorem W7 : fp Tryz.prog tab := ai1 (by kernel_rfl) (by kernel_rfl) (fun _ => ZC)
noncomputable abbrev jl : Func := Tryz.f5
noncomputable abbrev gk : Func := Tryz.f8
noncomputable abbrev oC : Func := Tryz.f10
noncomputable abbrev oD : Func := Tryz.f11
noncomputable abbrev jD : Func := Tryz.f20
noncomputable abbrev oE : Func := Tryz.f35
noncomputable abbrev qz : Func := Tryz.f39
noncomputable abbrev qA : Func := Tryz.f40
noncomputable abbrev oG : Func := Tryz.f67
noncomputable abbrev qC : Func := Tryz.f91
noncomputable abbrev oH : Func := Tryz.f106
noncomputable abbrev rC : Func := Tryz.f107
noncomputable abbrev H5 : Func := Tryz.f114
noncomputable abbrev rB : Func := Tryz.f138
noncomputable abbrev oB : Func := Tryz.f141
noncomputable abbrev wC : Func := Tryz.f144
noncomputable abbrev sJ : Func := Tryz.f145
noncomputable abbrev j0 : Func := Tryz.f152
noncomputable abbrev sI : Func := Tryz.f153
noncomputable abbrev oF : Func := Tryz.f171
noncomputable abbrev qB : Func := Tryz.f176
noncomputable abbrev oA : Func := Tryz.f187
noncomputable abbrev uu : Func := Tryz.f220
abbrev pf(Γ : Ctx)(fn : Func)(k : Nat)(K : aW)(vs : List V)(ar : List bQ) : Prop := ∃m, cl Γ tab fn k K m [.code (bF fn)] (df vs ar)
abbrev XO(Γ : Ctx)(fn : Func)(k : Nat)(K : aW)(vs : List V)(ar : List bQ) : Prop := ∃m, h5 Γ tab fn k K m [.code (bF fn)] (df vs ar)
abbrev ajF(Γ : Ctx)(fn : Func)(k : Nat)(K : aW)(vs : List V)(ar : List bQ) : Prop := ∃m, h5 Γ tab fn k K m [.code (bF fn)] (qQ vs ar)
noncomputable abbrev cZ(fn : Func)(l : List Nat) : Code := Code.sub (bF fn) l
abbrev cu := List (List Int)
abbrev cB := List (List UInt8)
abbrev aJ := List Int
abbrev c9 := List Bool
abbrev cD := List bE.Signed
abbrev cG := List bE.Message
abbrev db := List bE.hf
abbrev LT := List bE.Target
abbrev c3 := List bE.cW
abbrev hE := List bE.kV
abbrev jx := List UInt8
abbrev fC := bE.Message
abbrev tZ := bE.Target
abbrev nx := bE.hf
abbrev po := bE.cW
abbrev sp := bE.Signed
abbrev qi := bE.kV
abbrev ny := bE.jV
abbrev rh := bE.mQ
abbrev hq := bE.cT
abbrev tY := bE.Gate
abbrev tX := bE.cm
abbrev ajH := bE.iA
abbrev ajG := bE.Bx
abbrev bw(n : Nat)(c : bd) : Prop := kx Tryz.prog tab n c
theorem bv : fz Tryz.prog tab [] := fz.nil W7 (by kernel_rfl)
end Go.Proofs.YtlbppjmekiemiaaGreatDoor
