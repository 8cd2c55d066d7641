/- The names of functions: q10 flash_Burn, q15 slices_IndexFunc_Lint, q16 slices_IndexFunc_Record, q17 slices_ContainsFunc_Lint, q25 slices_Repeat_Lint, q37 ref_Changed, q61 log_scan, q75 slices_Concat_Lref_change, q81 ref_RecordsOf, q86 slices_Index_Lstring, q92 meta_CheckRelease, q119 trust_Take, q150 slices_EqualFunc_LMessage, q165 gate_state, q200 ref_Counted, q204 ref_Taken, q209 ref_GateStateOf, q212 ref_GateDue, q228 slices_Delete_LMessage, q230 vehicle_Check, q231 vehicle_Copy, q246 slices_EqualFunc_LUnit, q248 slices_EqualFunc_LLint, q250 slices_EqualFunc_LCampaign, q258 law_factory, q288 ref_OwnVehicle, q289 ref_CheckVehicle, q294 ref_Happened. -/
/- The types of the program, checked; its functions by name. No condition. -/
import Derived.Test.YtlbppjmekiemiabGreatDoorVmd
import Derived.Test.YtlbppjmekiemiabGreatDoorChecked
import Derived.KernelRfl
import Derived.WalkKit
namespace Go.Proofs.YtlbppjmekiemiabGreatDoor
open bF
abbrev bV := List cu -> bO -> Prop
abbrev aU := V -> List bS -> Prop
abbrev A(n : Int) : C := .E z.int n
abbrev ax(b : Bool) : C := .E z.bool b
abbrev af(l : List Int) : C := .E (z.list z.int) l
abbrev bh(l : List Bool) : C := .E (z.list z.bool) l
abbrev bs(l : List Message) : C := .E (z.list z.message) l
abbrev ct(l : List (List Int)) : C := .E (z.list (z.list z.int)) l
abbrev dt : V := .one (ax false)
abbrev mY : V := .one (ax true)
abbrev jg(g : Gate) : List C := [af g.f.words, A g.f.fuel, ax g.up, A g.t.r.version, af g.t.r.keys, A g.t.r.dV, A g.t.version, bh g.cH, bh g.did]
abbrev fJ(u : c1) : List C := [af u.f.words, A u.f.fuel, ax u.up, A u.n, A u.eG]
abbrev lv(v : cX)(a b c : C) : List C := [.E (z.list z.str) v.b, .E (z.list z.signed) v.s, af v.g.f.words, A v.g.f.fuel, ax v.g.up, A v.g.t.r.version, af v.g.t.r.keys, A v.g.t.r.dV, A v.g.t.version, bh v.g.cH, bh v.g.did, a, b, c, A v.now]
abbrev kA(v : cX) : List C := lv v (.E (z.list z.aO) v.units) (.E (z.list z.aP) v.cr) (bs v.W)
abbrev et(aJ : List (List UInt8))(vs : List Signed)(ws : List Int)(fu : Int)(up : Bool)(al : Int)(ah : List Int)(ak aj : Int)(aa ab : List Bool)(a b c : C)(now : Int) : List C := [.E (z.list z.str) aJ, .E (z.list z.signed) vs, af ws, A fu, ax up, A al, af ah, A ak, A aj, bh aa, bh ab, a, b, c, A now]
abbrev fk : List C := [.E (z.list z.str) [], .E (z.list z.signed) [], af [], A (0 : Int), ax false, A (0 : Int), af [], A (0 : Int), A (0 : Int), bh [], bh [], .E (z.list z.aO) [], .E (z.list z.aP) [], bs [], A (0 : Int)]
noncomputable def tab : cm := ⟨[
  (3, ⟨1, .int, [.E z.int (0 : Int)], [], [], 0⟩),
  (4, ⟨1, .bool, [.E z.bool false], [], [], 0⟩),
  (9, ⟨1, .str, [.E z.str []], [], [], 0⟩),
  (20, ⟨1, .iface, [.undef], [], [], 0⟩),
  (22, ⟨1, .slice z.str 9, [.nil z.str], [], [], 16⟩),
  (24, ⟨1, .struct, [.nil z.str], [0], [1], 0⟩),
  (25, ⟨1, .slice z.signed 78, [.nil z.signed], [], [], 16⟩),
  (26, ⟨1, .slice z.int 3, [.nil z.int], [], [], 8⟩),
  (28, ⟨2, .struct, [.nil z.int, .E z.int (0 : Int)], [0, 1], [1, 1], 0⟩),
  (30, ⟨3, .struct, [.E z.int (0 : Int), .nil z.int, .E z.int (0 : Int)], [0, 1, 2], [1, 1, 1], 0⟩),
  (32, ⟨4, .struct, [.E z.int (0 : Int), .nil z.int, .E z.int (0 : Int), .E z.int (0 : Int)], [0, 3], [3, 1], 0⟩),
  (33, ⟨1, .slice z.bool 4, [.nil z.bool], [], [], 1⟩),
  (35, ⟨9, .struct, [.nil z.int, .E z.int (0 : Int), .E z.bool false, .E z.int (0 : Int), .nil z.int, .E z.int (0 : Int), .E z.int (0 : Int), .nil z.bool, .nil z.bool], [0, 2, 3, 7, 8], [2, 1, 4, 1, 1], 0⟩),
  (36, ⟨1, .slice z.aO 61, [.nil z.aO], [], [], 56⟩),
  (37, ⟨1, .slice z.aP 64, [.nil z.aP], [], [], 72⟩),
  (38, ⟨1, .slice z.message 67, [.nil z.message], [], [], 72⟩),
  (40, ⟨15, .struct, [.nil z.str, .nil z.signed, .nil z.int, .E z.int (0 : Int), .E z.bool false, .E z.int (0 : Int), .nil z.int, .E z.int (0 : Int), .E z.int (0 : Int), .nil z.bool, .nil z.bool, .nil z.aO, .nil z.aP, .nil z.message, .E z.int (0 : Int)], [0, 1, 2, 11, 12, 13, 14], [1, 1, 9, 1, 1, 1, 1], 0⟩),
  (41, ⟨1, .slice z.root 30, [.nil z.root], [], [], 40⟩),
  (42, ⟨1, .slice (z.list z.int) 26, [.nil (z.list z.int)], [], [], 24⟩),
  (43, ⟨1, .slice z.target 143, [.nil z.target], [], [], 24⟩),
  (45, ⟨3, .struct, [.E z.int (0 : Int), .E z.int (0 : Int), .nil z.target], [0, 1, 2], [1, 1, 1], 0⟩),
  (47, ⟨7, .struct, [.nil z.root, .nil (z.list z.int), .E z.int (0 : Int), .E z.int (0 : Int), .nil z.target, .nil z.int, .nil (z.list z.int)], [0, 1, 2, 5, 6], [1, 1, 3, 1, 1], 0⟩),
  (49, ⟨10, .struct, [.E z.int (0 : Int), .E z.int (0 : Int), .E z.int (0 : Int), .nil z.root, .nil (z.list z.int), .E z.int (0 : Int), .E z.int (0 : Int), .nil z.target, .nil z.int, .nil (z.list z.int)], [0, 1, 2, 3], [1, 1, 1, 7], 0⟩),
  (51, ⟨1, .int, [.E z.int (0 : Int)], [], [], 0⟩),
  (61, ⟨5, .struct, [.nil z.int, .E z.int (0 : Int), .E z.bool false, .E z.int (0 : Int), .E z.int (0 : Int)], [0, 2, 3, 4], [2, 1, 1, 1], 0⟩),
  (64, ⟨5, .struct, [.E z.int (0 : Int), .E z.int (0 : Int), .E z.int (0 : Int), .nil z.target, .nil (z.list z.int)], [0, 1, 4], [1, 3, 1], 0⟩),
  (67, ⟨7, .struct, [.E z.int (0 : Int), .E z.int (0 : Int), .E z.int (0 : Int), .E z.int (0 : Int), .E z.int (0 : Int), .nil z.int, .E z.bool false], [0, 1, 2, 3, 4, 5, 6], [1, 1, 1, 1, 1, 1, 1], 0⟩),
  (69, ⟨1, .other, [.undef], [], [], 0⟩),
  (70, ⟨1, .other, [.undef], [], [], 0⟩),
  (78, ⟨2, .struct, [.E z.int (0 : Int), .E z.int (0 : Int)], [0, 1], [1, 1], 0⟩),
  (93, ⟨1, .slice z.offer 47, [.nil z.offer], [], [], 136⟩),
  (96, ⟨1, .slice z.gR 49, [.nil z.gR], [], [], 160⟩),
  (97, ⟨1, .slice z.int 51, [.nil z.int], [], [], 8⟩),
  (103, ⟨5, .struct, [.E z.int (0 : Int), .E z.int (0 : Int), .E z.bool false, .E z.bool false, .E z.bool false], [0, 1, 2, 3, 4], [1, 1, 1, 1, 1], 0⟩),
  (106, ⟨1, .other, [.undef], [], [], 0⟩),
  (112, ⟨1, .other, [.undef], [], [], 0⟩),
  (117, ⟨1, .other, [.undef], [], [], 0⟩),
  (122, ⟨1, .other, [.undef], [], [], 0⟩),
  (123, ⟨1, .other, [.undef], [], [], 0⟩),
  (130, ⟨3, .struct, [.E z.int (0 : Int), .E z.int (0 : Int), .E z.int (0 : Int)], [0, 1, 2], [1, 1, 1], 0⟩),
  (136, ⟨1, .other, [.undef], [], [], 0⟩),
  (143, ⟨3, .struct, [.E z.int (0 : Int), .E z.int (0 : Int), .E z.int (0 : Int)], [0, 1, 2], [1, 1, 1], 0⟩),
  (159, ⟨1, .slice z.int 3, [.nil z.int], [], [], 8⟩),
  (166, ⟨1, .other, [.undef], [], [], 0⟩),
  (167, ⟨1, .other, [.undef], [], [], 0⟩),
  (171, ⟨1, .other, [.undef], [], [], 0⟩),
  (177, ⟨1, .other, [.undef], [], [], 0⟩),
  (178, ⟨1, .slice (z.list z.int) 159, [.nil (z.list z.int)], [], [], 24⟩),
  (181, ⟨1, .other, [.undef], [], [], 0⟩),
  (183, ⟨1, .other, [.undef], [], [], 0⟩),
  (185, ⟨6, .struct, [.nil z.int, .E z.int (0 : Int), .E z.bool false, .E z.int (0 : Int), .E z.int (0 : Int), .E z.bool false], [0, 5], [5, 1], 0⟩),
  (186, ⟨1, .other, [.undef], [], [], 0⟩),
  (201, ⟨1, .other, [.undef], [], [], 0⟩),
  (205, ⟨1, .other, [.undef], [], [], 0⟩),
  (212, ⟨1, .u64, [.undef], [], [], 0⟩),
  (222, ⟨3, .array 3 1, [.E z.int (0 : Int), .E z.int (0 : Int), .E z.int (0 : Int)], [0, 1, 2], [1, 1, 1], 0⟩),
  (223, ⟨9, .array 3 3, [.E z.int (0 : Int), .E z.int (0 : Int), .E z.int (0 : Int), .E z.int (0 : Int), .E z.int (0 : Int), .E z.int (0 : Int), .E z.int (0 : Int), .E z.int (0 : Int), .E z.int (0 : Int)], [0, 3, 6], [3, 3, 3], 0⟩),
  (225, ⟨1, .other, [.undef], [], [], 0⟩),
  (231, ⟨1, .slice z.change 257, [.nil z.change], [], [], 16⟩),
  (253, ⟨1, .qH, [.undef], [], [], 0⟩),
  (257, ⟨2, .struct, [.E z.int (0 : Int), .undef], [0, 1], [1, 1], 0⟩),
  (273, ⟨1, .slice (z.list z.change) 231, [.nil (z.list z.change)], [], [], 24⟩),
  (276, ⟨6, .array 2 3, [.E z.int (0 : Int), .nil z.int, .E z.int (0 : Int), .E z.int (0 : Int), .nil z.int, .E z.int (0 : Int)], [0, 3], [3, 3], 0⟩),
  (280, ⟨1, .other, [.undef], [], [], 0⟩)
  ], 200, 212, [78, 103, 130, 143], true, some 0, none, [], some 70⟩
-- pow 0 297 20 248

theorem abl : Gb Tryz.prog tab where
  aft := ⟨Tryz.f200, Tryz.func200, by kernel_rfl, by kernel_rfl⟩
  afu := ⟨Tryz.f212, Tryz.func212, by kernel_rfl, by kernel_rfl⟩
  ait := fun n w => by
    show Calls Tryz.prog 200 _ _ _
    go_enter Tryz.func200, Tryz.ntmps200
    go_wp2
    go_ret
    exact⟨rfl, rfl⟩
  aiu := fun n m b w aA => by
    show Calls Tryz.prog 212 _ _ _;have jk : w.cell? ⟨b, 0, none⟩ = some (.int .i64 m) := aA;unfold ca
    go_enter Tryz.func212, Tryz.ntmps212
    go_wp2
    go_ret
    exact⟨rfl, rfl⟩
theorem YS : fs Tryz.prog tab := aly (by kernel_rfl) (by kernel_rfl) (fun _ => abl)
noncomputable abbrev px : Func := Tryz.f4
noncomputable abbrev jA : Func := Tryz.f8
noncomputable abbrev pt : Func := Tryz.f10
noncomputable abbrev gl : Func := Tryz.f13
noncomputable abbrev pw : Func := Tryz.f17
noncomputable abbrev jR : Func := Tryz.f40
noncomputable abbrev nL : Func := Tryz.f52
noncomputable abbrev nO : Func := Tryz.f55
noncomputable abbrev nM : Func := Tryz.f58
noncomputable abbrev nK : Func := Tryz.f64
noncomputable abbrev rl : Func := Tryz.f69
noncomputable abbrev rm : Func := Tryz.f70
noncomputable abbrev pz : Func := Tryz.f98
noncomputable abbrev nN : Func := Tryz.f99
noncomputable abbrev pA : Func := Tryz.f112
noncomputable abbrev sk : Func := Tryz.f113
noncomputable abbrev tz : Func := Tryz.f121
noncomputable abbrev rp : Func := Tryz.f123
noncomputable abbrev Jk : Func := Tryz.f137
noncomputable abbrev pq : Func := Tryz.f147
noncomputable abbrev py : Func := Tryz.f156
noncomputable abbrev sj : Func := Tryz.f165
noncomputable abbrev kh : Func := Tryz.f167
noncomputable abbrev pr : Func := Tryz.f170
noncomputable abbrev xq : Func := Tryz.f173
noncomputable abbrev tA : Func := Tryz.f174
noncomputable abbrev tx : Func := Tryz.f177
noncomputable abbrev rn : Func := Tryz.f199
noncomputable abbrev vk : Func := Tryz.f210
abbrev ku(Γ : Ctx)(fn : Func)(k : Nat)(K : aU)(vs : List V)(au : List bS) : Prop := ∃m, co Γ tab fn k K m [.code (bR fn)] (df vs au)
abbrev OR(Γ : Ctx)(fn : Func)(k : Nat)(K : aU)(vs : List V)(au : List bS) : Prop := ∃m, h4 Γ tab fn k K m [.code (bR fn)] (df vs au)
abbrev amd(Γ : Ctx)(fn : Func)(k : Nat)(K : aU)(vs : List V)(au : List bS) : Prop := ∃m, h4 Γ tab fn k K m [.code (bR fn)] (rG vs au)
noncomputable abbrev cy(fn : Func)(l : List Nat) : Code := Code.sub (bR fn) l
abbrev cj := List (List Int)
abbrev cD := List (List UInt8)
abbrev aK := List Int
abbrev da := List Bool
abbrev cG := List bF.Signed
abbrev cF := List bF.Message
abbrev c3 := List bF.hr
abbrev LT := List bF.Target
abbrev cZ := List bF.c1
abbrev hs := List bF.jN
abbrev jM := List UInt8
abbrev fD := bF.Message
abbrev uY := bF.Target
abbrev og := bF.hr
abbrev oi := bF.c1
abbrev tc := bF.Signed
abbrev q0 := bF.jN
abbrev oh := bF.kb
abbrev w1 := bF.m4
abbrev ke := bF.cX
abbrev uX := bF.Gate
abbrev uW := bF.cp
abbrev amf := bF.iT
abbrev ame := bF.Cv
abbrev bo(n : Nat)(c : a7) : Prop := kV Tryz.prog tab n c
theorem bn : fr Tryz.prog tab [] := fr.nil YS (by kernel_rfl)
end Go.Proofs.YtlbppjmekiemiabGreatDoor
