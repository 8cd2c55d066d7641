/- The types of the program, checked; its functions by name. No condition. -/
import Derived.Test.YtlbppjmekiemiacGreatDoorVmd
import Derived.Test.YtlbppjmekiemiacGreatDoorChecked
import Derived.KernelRfl
import Derived.WalkKit
namespace Go.Proofs.YtlbppjmekiemiacGreatDoor
open Vm
abbrev RK := List It → St → Prop
abbrev KK := V → List Blk → Prop
abbrev dI (n : Int) : C := .dat Ty.int n
abbrev dB (b : Bool) : C := .dat Ty.bool b
abbrev dL (l : List Int) : C := .dat (Ty.list Ty.int) l
abbrev dLb (l : List Bool) : C := .dat (Ty.list Ty.bool) l
abbrev dM (l : List Message) : C := .dat (Ty.list Ty.message) l
abbrev dR (l : List (List Int)) : C := .dat (Ty.list (Ty.list Ty.int)) l
abbrev vF : V := .one (dB false)
abbrev vT : V := .one (dB true)
abbrev cG (g : Gate) : List C := [dL g.f.words, dI g.f.fuel, dB g.up, dI g.t.r.version, dL g.t.r.keys, dI g.t.r.thr, dI g.t.version, dLb g.voted, dLb g.did]
abbrev cU (u : UnitD) : List C := [dL u.f.words, dI u.f.fuel, dB u.up, dI u.n, dI u.got]
abbrev cV (v : Vehicle) (a b c : C) : List C := [.dat (Ty.list Ty.str) v.b, .dat (Ty.list Ty.signed) v.s, dL v.g.f.words, dI v.g.f.fuel, dB v.g.up, dI v.g.t.r.version, dL v.g.t.r.keys, dI v.g.t.r.thr, dI v.g.t.version, dLb v.g.voted, dLb v.g.did, a, b, c, dI v.now]
abbrev aV (vb : List (List UInt8)) (vs : List Signed) (ws : List Int) (fu : Int) (up : Bool) (tv : Int) (tk : List Int) (tt tn : Int) (vo di : List Bool) (a b c : C) (now : Int) : List C := [.dat (Ty.list Ty.str) vb, .dat (Ty.list Ty.signed) vs, dL ws, dI fu, dB up, dI tv, dL tk, dI tt, dI tn, dLb vo, dLb di, a, b, c, dI now]
abbrev zV : List C := [.dat (Ty.list Ty.str) [], .dat (Ty.list Ty.signed) [], dL [], dI (0 : Int), dB false, dI (0 : Int), dL [], dI (0 : Int), dI (0 : Int), dLb [], dLb [], .dat (Ty.list Ty.unitd) [], .dat (Ty.list Ty.campaign) [], dM [], dI (0 : Int)]
noncomputable def tab : Tab := ⟨[
  (3, ⟨1, .int, [.dat Ty.int (0 : Int)], [], [], 0⟩),
  (4, ⟨1, .bool, [.dat Ty.bool false], [], [], 0⟩),
  (9, ⟨1, .str, [.dat Ty.str []], [], [], 0⟩),
  (22, ⟨1, .slice Ty.str 9, [.nil Ty.str], [], [], 16⟩),
  (24, ⟨1, .struct, [.nil Ty.str], [0], [1], 0⟩),
  (25, ⟨1, .slice Ty.int 3, [.nil Ty.int], [], [], 8⟩),
  (27, ⟨2, .struct, [.nil Ty.int, .dat Ty.int (0 : Int)], [0, 1], [1, 1], 0⟩),
  (29, ⟨5, .struct, [.nil Ty.int, .dat Ty.int (0 : Int), .dat Ty.bool false, .dat Ty.int (0 : Int), .dat Ty.int (0 : Int)], [0, 2, 3, 4], [2, 1, 1, 1], 0⟩),
  (31, ⟨7, .struct, [.dat Ty.int (0 : Int), .dat Ty.int (0 : Int), .dat Ty.int (0 : Int), .dat Ty.int (0 : Int), .dat Ty.int (0 : Int), .nil Ty.int, .dat Ty.bool false], [0, 1, 2, 3, 4, 5, 6], [1, 1, 1, 1, 1, 1, 1], 0⟩),
  (33, ⟨1, .slice Ty.message 31, [.nil Ty.message], [], [], 72⟩),
  (34, ⟨1, .int, [.dat Ty.int (0 : Int)], [], [], 0⟩),
  (40, ⟨3, .struct, [.dat Ty.int (0 : Int), .dat Ty.int (0 : Int), .dat Ty.int (0 : Int)], [0, 1, 2], [1, 1, 1], 0⟩),
  (62, ⟨3, .struct, [.dat Ty.int (0 : Int), .nil Ty.int, .dat Ty.int (0 : Int)], [0, 1, 2], [1, 1, 1], 0⟩),
  (64, ⟨4, .struct, [.dat Ty.int (0 : Int), .nil Ty.int, .dat Ty.int (0 : Int), .dat Ty.int (0 : Int)], [0, 3], [3, 1], 0⟩),
  (65, ⟨1, .slice Ty.bool 4, [.nil Ty.bool], [], [], 1⟩),
  (67, ⟨9, .struct, [.nil Ty.int, .dat Ty.int (0 : Int), .dat Ty.bool false, .dat Ty.int (0 : Int), .nil Ty.int, .dat Ty.int (0 : Int), .dat Ty.int (0 : Int), .nil Ty.bool, .nil Ty.bool], [0, 2, 3, 7, 8], [2, 1, 4, 1, 1], 0⟩),
  (68, ⟨1, .slice Ty.target 165, [.nil Ty.target], [], [], 24⟩),
  (70, ⟨3, .struct, [.dat Ty.int (0 : Int), .dat Ty.int (0 : Int), .nil Ty.target], [0, 1, 2], [1, 1, 1], 0⟩),
  (71, ⟨1, .slice (Ty.list Ty.int) 25, [.nil (Ty.list Ty.int)], [], [], 24⟩),
  (73, ⟨5, .struct, [.dat Ty.int (0 : Int), .dat Ty.int (0 : Int), .dat Ty.int (0 : Int), .nil Ty.target, .nil (Ty.list Ty.int)], [0, 1, 4], [1, 3, 1], 0⟩),
  (84, ⟨1, .slice Ty.signed 183, [.nil Ty.signed], [], [], 16⟩),
  (85, ⟨1, .slice Ty.root 62, [.nil Ty.root], [], [], 40⟩),
  (87, ⟨7, .struct, [.nil Ty.root, .nil (Ty.list Ty.int), .dat Ty.int (0 : Int), .dat Ty.int (0 : Int), .nil Ty.target, .nil Ty.int, .nil (Ty.list Ty.int)], [0, 1, 2, 5, 6], [1, 1, 3, 1, 1], 0⟩),
  (93, ⟨5, .struct, [.dat Ty.int (0 : Int), .dat Ty.int (0 : Int), .dat Ty.bool false, .dat Ty.bool false, .dat Ty.bool false], [0, 1, 2, 3, 4], [1, 1, 1, 1, 1], 0⟩),
  (101, ⟨1, .slice Ty.happening 112, [.nil Ty.happening], [], [], 160⟩),
  (102, ⟨1, .slice Ty.unitd 29, [.nil Ty.unitd], [], [], 56⟩),
  (103, ⟨1, .slice Ty.campaign 73, [.nil Ty.campaign], [], [], 72⟩),
  (105, ⟨15, .struct, [.nil Ty.str, .nil Ty.signed, .nil Ty.int, .dat Ty.int (0 : Int), .dat Ty.bool false, .dat Ty.int (0 : Int), .nil Ty.int, .dat Ty.int (0 : Int), .dat Ty.int (0 : Int), .nil Ty.bool, .nil Ty.bool, .nil Ty.unitd, .nil Ty.campaign, .nil Ty.message, .dat Ty.int (0 : Int)], [0, 1, 2, 11, 12, 13, 14], [1, 1, 9, 1, 1, 1, 1], 0⟩),
  (106, ⟨1, .slice Ty.offer 87, [.nil Ty.offer], [], [], 136⟩),
  (112, ⟨10, .struct, [.dat Ty.int (0 : Int), .dat Ty.int (0 : Int), .dat Ty.int (0 : Int), .nil Ty.root, .nil (Ty.list Ty.int), .dat Ty.int (0 : Int), .dat Ty.int (0 : Int), .nil Ty.target, .nil Ty.int, .nil (Ty.list Ty.int)], [0, 1, 2, 3], [1, 1, 1, 7], 0⟩),
  (115, ⟨1, .slice (Ty.list Ty.int) 137, [.nil (Ty.list Ty.int)], [], [], 24⟩),
  (119, ⟨1, .slice Ty.int 34, [.nil Ty.int], [], [], 8⟩),
  (128, ⟨1, .other, [.undef], [], [], 0⟩),
  (137, ⟨1, .slice Ty.int 3, [.nil Ty.int], [], [], 8⟩),
  (144, ⟨1, .other, [.undef], [], [], 0⟩),
  (151, ⟨1, .other, [.undef], [], [], 0⟩),
  (153, ⟨6, .struct, [.nil Ty.int, .dat Ty.int (0 : Int), .dat Ty.bool false, .dat Ty.int (0 : Int), .dat Ty.int (0 : Int), .dat Ty.bool false], [0, 5], [5, 1], 0⟩),
  (154, ⟨1, .other, [.undef], [], [], 0⟩),
  (161, ⟨1, .other, [.undef], [], [], 0⟩),
  (165, ⟨3, .struct, [.dat Ty.int (0 : Int), .dat Ty.int (0 : Int), .dat Ty.int (0 : Int)], [0, 1, 2], [1, 1, 1], 0⟩),
  (168, ⟨1, .other, [.undef], [], [], 0⟩),
  (172, ⟨1, .other, [.undef], [], [], 0⟩),
  (177, ⟨1, .other, [.undef], [], [], 0⟩),
  (178, ⟨1, .other, [.undef], [], [], 0⟩),
  (183, ⟨2, .struct, [.dat Ty.int (0 : Int), .dat Ty.int (0 : Int)], [0, 1], [1, 1], 0⟩),
  (187, ⟨1, .other, [.undef], [], [], 0⟩),
  (191, ⟨1, .other, [.undef], [], [], 0⟩),
  (198, ⟨1, .other, [.undef], [], [], 0⟩),
  (205, ⟨1, .other, [.undef], [], [], 0⟩),
  (209, ⟨1, .other, [.undef], [], [], 0⟩),
  (216, ⟨1, .u64, [.undef], [], [], 0⟩),
  (220, ⟨1, .slice Ty.change 256, [.nil Ty.change], [], [], 16⟩),
  (227, ⟨1, .other, [.undef], [], [], 0⟩),
  (234, ⟨1, .other, [.undef], [], [], 0⟩),
  (256, ⟨2, .struct, [.dat Ty.int (0 : Int), .undef], [0, 1], [1, 1], 0⟩),
  (260, ⟨6, .array 2 3, [.dat Ty.int (0 : Int), .nil Ty.int, .dat Ty.int (0 : Int), .dat Ty.int (0 : Int), .nil Ty.int, .dat Ty.int (0 : Int)], [0, 3], [3, 3], 0⟩),
  (263, ⟨1, .mapib, [.undef], [], [], 0⟩),
  (265, ⟨3, .array 3 1, [.dat Ty.int (0 : Int), .dat Ty.int (0 : Int), .dat Ty.int (0 : Int)], [0, 1, 2], [1, 1, 1], 0⟩),
  (266, ⟨9, .array 3 3, [.dat Ty.int (0 : Int), .dat Ty.int (0 : Int), .dat Ty.int (0 : Int), .dat Ty.int (0 : Int), .dat Ty.int (0 : Int), .dat Ty.int (0 : Int), .dat Ty.int (0 : Int), .dat Ty.int (0 : Int), .dat Ty.int (0 : Int)], [0, 3, 6], [3, 3, 3], 0⟩),
  (271, ⟨1, .slice (Ty.list Ty.change) 220, [.nil (Ty.list Ty.change)], [], [], 24⟩)
  ], 191, 207, [40, 93, 165, 183], true, some 0⟩
-- pow 0 295 20 252

theorem fnw_ok : FnwOk Tryz.prog tab where
  ok0 := ⟨Tryz.f191, Tryz.func191, by kernel_rfl, by kernel_rfl⟩
  ok1 := ⟨Tryz.f207, Tryz.func207, by kernel_rfl, by kernel_rfl⟩
  run0 := fun n w => by
    show Calls Tryz.prog 191 _ _ _
    go_enter Tryz.func191, Tryz.ntmps191
    go_wp2
    go_ret
    exact ⟨rfl, rfl⟩
  run1 := fun n m b w hc => by
    show Calls Tryz.prog 207 _ _ _
    have hc' : w.cell? ⟨b, 0, none⟩ = some (.int .i64 m) := hc
    unfold at0
    go_enter Tryz.func207, Tryz.ntmps207
    go_wp2
    go_ret
    exact ⟨rfl, rfl⟩
theorem tab_ok : TabOk Tryz.prog tab := zgt (by kernel_rfl) (by kernel_rfl) (fun _ => fnw_ok)
abbrev n_q267 : Nat := 8
noncomputable abbrev fn_q267 : Func := Tryz.f8
abbrev n_q146 : Nat := 11
noncomputable abbrev fn_q146 : Func := Tryz.f11
abbrev n_q135 : Nat := 12
noncomputable abbrev fn_q135 : Func := Tryz.f12
abbrev n_q134 : Nat := 13
noncomputable abbrev fn_q134 : Func := Tryz.f13
abbrev n_q148 : Nat := 14
noncomputable abbrev fn_q148 : Func := Tryz.f14
abbrev n_q147 : Nat := 15
noncomputable abbrev fn_q147 : Func := Tryz.f15
abbrev n_q133 : Nat := 18
noncomputable abbrev fn_q133 : Func := Tryz.f18
abbrev n_q145 : Nat := 19
noncomputable abbrev fn_q145 : Func := Tryz.f19
abbrev n_q0 : Nat := 26
noncomputable abbrev fn_q0 : Func := Tryz.f26
abbrev n_q177 : Nat := 31
noncomputable abbrev fn_q177 : Func := Tryz.f31
abbrev n_q178 : Nat := 32
noncomputable abbrev fn_q178 : Func := Tryz.f32
abbrev n_q180 : Nat := 38
noncomputable abbrev fn_q180 : Func := Tryz.f38
abbrev n_q181 : Nat := 39
noncomputable abbrev fn_q181 : Func := Tryz.f39
abbrev n_q179 : Nat := 40
noncomputable abbrev fn_q179 : Func := Tryz.f40
abbrev n_q169 : Nat := 41
noncomputable abbrev fn_q169 : Func := Tryz.f41
abbrev n_q170 : Nat := 42
noncomputable abbrev fn_q170 : Func := Tryz.f42
abbrev n_q168 : Nat := 43
noncomputable abbrev fn_q168 : Func := Tryz.f43
abbrev n_q258 : Nat := 49
noncomputable abbrev fn_q258 : Func := Tryz.f49
abbrev n_q20 : Nat := 50
noncomputable abbrev fn_q20 : Func := Tryz.f50
abbrev n_q260 : Nat := 51
noncomputable abbrev fn_q260 : Func := Tryz.f51
abbrev n_q262 : Nat := 52
noncomputable abbrev fn_q262 : Func := Tryz.f52
abbrev n_q240 : Nat := 53
noncomputable abbrev fn_q240 : Func := Tryz.f53
abbrev n_q64 : Nat := 54
noncomputable abbrev fn_q64 : Func := Tryz.f54
abbrev n_q259 : Nat := 55
noncomputable abbrev fn_q259 : Func := Tryz.f55
abbrev n_q264 : Nat := 56
noncomputable abbrev fn_q264 : Func := Tryz.f56
abbrev n_q230 : Nat := 57
noncomputable abbrev fn_q230 : Func := Tryz.f57
abbrev n_q111 : Nat := 58
noncomputable abbrev fn_q111 : Func := Tryz.f58
abbrev n_q88 : Nat := 59
noncomputable abbrev fn_q88 : Func := Tryz.f59
abbrev n_q136 : Nat := 60
noncomputable abbrev fn_q136 : Func := Tryz.f60
abbrev n_q131 : Nat := 61
noncomputable abbrev fn_q131 : Func := Tryz.f61
abbrev n_q140 : Nat := 62
noncomputable abbrev fn_q140 : Func := Tryz.f62
abbrev n_q142 : Nat := 63
noncomputable abbrev fn_q142 : Func := Tryz.f63
abbrev n_q143 : Nat := 64
noncomputable abbrev fn_q143 : Func := Tryz.f64
abbrev n_q93 : Nat := 65
noncomputable abbrev fn_q93 : Func := Tryz.f65
abbrev n_q26 : Nat := 66
noncomputable abbrev fn_q26 : Func := Tryz.f66
abbrev n_q63 : Nat := 67
noncomputable abbrev fn_q63 : Func := Tryz.f67
abbrev n_q44 : Nat := 68
noncomputable abbrev fn_q44 : Func := Tryz.f68
abbrev n_q46 : Nat := 69
noncomputable abbrev fn_q46 : Func := Tryz.f69
abbrev n_q65 : Nat := 70
noncomputable abbrev fn_q65 : Func := Tryz.f70
abbrev n_q47 : Nat := 71
noncomputable abbrev fn_q47 : Func := Tryz.f71
abbrev n_q137 : Nat := 72
noncomputable abbrev fn_q137 : Func := Tryz.f72
abbrev n_q62 : Nat := 75
noncomputable abbrev fn_q62 : Func := Tryz.f75
abbrev n_q17 : Nat := 76
noncomputable abbrev fn_q17 : Func := Tryz.f76
abbrev n_q144 : Nat := 77
noncomputable abbrev fn_q144 : Func := Tryz.f77
abbrev n_q25 : Nat := 80
noncomputable abbrev fn_q25 : Func := Tryz.f80
abbrev n_q86 : Nat := 82
noncomputable abbrev fn_q86 : Func := Tryz.f82
abbrev n_q175 : Nat := 93
noncomputable abbrev fn_q175 : Func := Tryz.f93
abbrev n_q166 : Nat := 94
noncomputable abbrev fn_q166 : Func := Tryz.f94
abbrev n_q176 : Nat := 95
noncomputable abbrev fn_q176 : Func := Tryz.f95
abbrev n_q2 : Nat := 96
noncomputable abbrev fn_q2 : Func := Tryz.f96
abbrev n_q171 : Nat := 97
noncomputable abbrev fn_q171 : Func := Tryz.f97
abbrev n_slices_Contains_Lbool : Nat := 98
noncomputable abbrev fn_slices_Contains_Lbool : Func := Tryz.f98
abbrev n_q174 : Nat := 99
noncomputable abbrev fn_q174 : Func := Tryz.f99
abbrev n_q119 : Nat := 104
noncomputable abbrev fn_q119 : Func := Tryz.f104
abbrev n_q172 : Nat := 105
noncomputable abbrev fn_q172 : Func := Tryz.f105
abbrev n_q116 : Nat := 106
noncomputable abbrev fn_q116 : Func := Tryz.f106
abbrev n_q254 : Nat := 108
noncomputable abbrev fn_q254 : Func := Tryz.f108
abbrev n_q255 : Nat := 109
noncomputable abbrev fn_q255 : Func := Tryz.f109
abbrev n_q96 : Nat := 110
noncomputable abbrev fn_q96 : Func := Tryz.f110
abbrev n_q95 : Nat := 111
noncomputable abbrev fn_q95 : Func := Tryz.f111
abbrev n_q257 : Nat := 112
noncomputable abbrev fn_q257 : Func := Tryz.f112
abbrev n_q231 : Nat := 113
noncomputable abbrev fn_q231 : Func := Tryz.f113
abbrev n_q239 : Nat := 114
noncomputable abbrev fn_q239 : Func := Tryz.f114
abbrev n_q60 : Nat := 115
noncomputable abbrev fn_q60 : Func := Tryz.f115
abbrev n_q61 : Nat := 116
noncomputable abbrev fn_q61 : Func := Tryz.f116
abbrev n_q263 : Nat := 117
noncomputable abbrev fn_q263 : Func := Tryz.f117
abbrev n_q114 : Nat := 118
noncomputable abbrev fn_q114 : Func := Tryz.f118
abbrev n_q229 : Nat := 119
noncomputable abbrev fn_q229 : Func := Tryz.f119
abbrev n_q110 : Nat := 120
noncomputable abbrev fn_q110 : Func := Tryz.f120
abbrev n_q87 : Nat := 121
noncomputable abbrev fn_q87 : Func := Tryz.f121
abbrev n_q7 : Nat := 122
noncomputable abbrev fn_q7 : Func := Tryz.f122
abbrev n_q130 : Nat := 123
noncomputable abbrev fn_q130 : Func := Tryz.f123
abbrev n_q43 : Nat := 124
noncomputable abbrev fn_q43 : Func := Tryz.f124
abbrev n_q138 : Nat := 125
noncomputable abbrev fn_q138 : Func := Tryz.f125
abbrev n_q141 : Nat := 126
noncomputable abbrev fn_q141 : Func := Tryz.f126
abbrev n_q45 : Nat := 127
noncomputable abbrev fn_q45 : Func := Tryz.f127
abbrev n_q97 : Nat := 128
noncomputable abbrev fn_q97 : Func := Tryz.f128
abbrev n_q139 : Nat := 129
noncomputable abbrev fn_q139 : Func := Tryz.f129
abbrev n_q6 : Nat := 130
noncomputable abbrev fn_q6 : Func := Tryz.f130
abbrev n_q8 : Nat := 131
noncomputable abbrev fn_q8 : Func := Tryz.f131
abbrev n_q10 : Nat := 132
noncomputable abbrev fn_q10 : Func := Tryz.f132
abbrev n_q42 : Nat := 133
noncomputable abbrev fn_q42 : Func := Tryz.f133
abbrev n_q21 : Nat := 134
noncomputable abbrev fn_q21 : Func := Tryz.f134
abbrev n_q41 : Nat := 135
noncomputable abbrev fn_q41 : Func := Tryz.f135
abbrev n_q58 : Nat := 136
noncomputable abbrev fn_q58 : Func := Tryz.f136
abbrev n_q4 : Nat := 137
noncomputable abbrev fn_q4 : Func := Tryz.f137
abbrev n_q59 : Nat := 138
noncomputable abbrev fn_q59 : Func := Tryz.f138
abbrev n_q15 : Nat := 141
noncomputable abbrev fn_q15 : Func := Tryz.f141
abbrev n_q13 : Nat := 142
noncomputable abbrev fn_q13 : Func := Tryz.f142
abbrev n_q12 : Nat := 143
noncomputable abbrev fn_q12 : Func := Tryz.f143
abbrev n_q24 : Nat := 144
noncomputable abbrev fn_q24 : Func := Tryz.f144
abbrev n_q165 : Nat := 150
noncomputable abbrev fn_q165 : Func := Tryz.f150
abbrev n_q161 : Nat := 151
noncomputable abbrev fn_q161 : Func := Tryz.f151
abbrev n_slices_Index_Lbool : Nat := 152
noncomputable abbrev fn_slices_Index_Lbool : Func := Tryz.f152
abbrev n_q173 : Nat := 153
noncomputable abbrev fn_q173 : Func := Tryz.f153
abbrev n_q118 : Nat := 154
noncomputable abbrev fn_q118 : Func := Tryz.f154
abbrev n_q117 : Nat := 155
noncomputable abbrev fn_q117 : Func := Tryz.f155
abbrev n_q89 : Nat := 156
noncomputable abbrev fn_q89 : Func := Tryz.f156
abbrev n_q115 : Nat := 157
noncomputable abbrev fn_q115 : Func := Tryz.f157
abbrev n_q91 : Nat := 158
noncomputable abbrev fn_q91 : Func := Tryz.f158
abbrev n_q90 : Nat := 164
noncomputable abbrev fn_q90 : Func := Tryz.f164
abbrev n_q92 : Nat := 165
noncomputable abbrev fn_q92 : Func := Tryz.f165
abbrev n_q84 : Nat := 166
noncomputable abbrev fn_q84 : Func := Tryz.f166
abbrev n_q256 : Nat := 167
noncomputable abbrev fn_q256 : Func := Tryz.f167
abbrev n_slices_Clone_Lstring : Nat := 168
noncomputable abbrev fn_slices_Clone_Lstring : Func := Tryz.f168
abbrev n_q121 : Nat := 169
noncomputable abbrev fn_q121 : Func := Tryz.f169
abbrev n_q218 : Nat := 170
noncomputable abbrev fn_q218 : Func := Tryz.f170
abbrev n_q219 : Nat := 171
noncomputable abbrev fn_q219 : Func := Tryz.f171
abbrev n_slices_Clone_LTarget : Nat := 172
noncomputable abbrev fn_slices_Clone_LTarget : Func := Tryz.f172
abbrev n_q226 : Nat := 173
noncomputable abbrev fn_q226 : Func := Tryz.f173
abbrev n_q220 : Nat := 174
noncomputable abbrev fn_q220 : Func := Tryz.f174
abbrev n_q233 : Nat := 175
noncomputable abbrev fn_q233 : Func := Tryz.f175
abbrev n_q238 : Nat := 176
noncomputable abbrev fn_q238 : Func := Tryz.f176
abbrev n_q235 : Nat := 177
noncomputable abbrev fn_q235 : Func := Tryz.f177
abbrev n_q237 : Nat := 178
noncomputable abbrev fn_q237 : Func := Tryz.f178
abbrev n_q236 : Nat := 179
noncomputable abbrev fn_q236 : Func := Tryz.f179
abbrev n_q3 : Nat := 180
noncomputable abbrev fn_q3 : Func := Tryz.f180
abbrev n_q27 : Nat := 181
noncomputable abbrev fn_q27 : Func := Tryz.f181
abbrev n_q132 : Nat := 182
noncomputable abbrev fn_q132 : Func := Tryz.f182
abbrev n_q5 : Nat := 183
noncomputable abbrev fn_q5 : Func := Tryz.f183
abbrev n_q11 : Nat := 184
noncomputable abbrev fn_q11 : Func := Tryz.f184
abbrev n_q18 : Nat := 185
noncomputable abbrev fn_q18 : Func := Tryz.f185
abbrev n_q14 : Nat := 186
noncomputable abbrev fn_q14 : Func := Tryz.f186
abbrev n_q57 : Nat := 187
noncomputable abbrev fn_q57 : Func := Tryz.f187
abbrev n_q94 : Nat := 195
noncomputable abbrev fn_q94 : Func := Tryz.f195
abbrev n_q113 : Nat := 196
noncomputable abbrev fn_q113 : Func := Tryz.f196
abbrev n_q85 : Nat := 200
noncomputable abbrev fn_q85 : Func := Tryz.f200
abbrev n_q221 : Nat := 202
noncomputable abbrev fn_q221 : Func := Tryz.f202
abbrev n_q234 : Nat := 203
noncomputable abbrev fn_q234 : Func := Tryz.f203
abbrev n_q228 : Nat := 204
noncomputable abbrev fn_q228 : Func := Tryz.f204
abbrev n_q232 : Nat := 205
noncomputable abbrev fn_q232 : Func := Tryz.f205
abbrev n_q16 : Nat := 206
noncomputable abbrev fn_q16 : Func := Tryz.f206
abbrev n_q112 : Nat := 209
noncomputable abbrev fn_q112 : Func := Tryz.f209
theorem hg_q267 : FnOk Tryz.prog n_q267 fn_q267 := ⟨Tryz.func8, by kernel_rfl⟩
theorem hg_q146 : FnOk Tryz.prog n_q146 fn_q146 := ⟨Tryz.func11, by kernel_rfl⟩
theorem hg_q135 : FnOk Tryz.prog n_q135 fn_q135 := ⟨Tryz.func12, by kernel_rfl⟩
theorem hg_q134 : FnOk Tryz.prog n_q134 fn_q134 := ⟨Tryz.func13, by kernel_rfl⟩
theorem hg_q148 : FnOk Tryz.prog n_q148 fn_q148 := ⟨Tryz.func14, by kernel_rfl⟩
theorem hg_q147 : FnOk Tryz.prog n_q147 fn_q147 := ⟨Tryz.func15, by kernel_rfl⟩
theorem hg_q133 : FnOk Tryz.prog n_q133 fn_q133 := ⟨Tryz.func18, by kernel_rfl⟩
theorem hg_q145 : FnOk Tryz.prog n_q145 fn_q145 := ⟨Tryz.func19, by kernel_rfl⟩
theorem hg_q0 : FnOk Tryz.prog n_q0 fn_q0 := ⟨Tryz.func26, by kernel_rfl⟩
theorem hg_q177 : FnOk Tryz.prog n_q177 fn_q177 := ⟨Tryz.func31, by kernel_rfl⟩
theorem hg_q178 : FnOk Tryz.prog n_q178 fn_q178 := ⟨Tryz.func32, by kernel_rfl⟩
theorem hg_q180 : FnOk Tryz.prog n_q180 fn_q180 := ⟨Tryz.func38, by kernel_rfl⟩
theorem hg_q181 : FnOk Tryz.prog n_q181 fn_q181 := ⟨Tryz.func39, by kernel_rfl⟩
theorem hg_q179 : FnOk Tryz.prog n_q179 fn_q179 := ⟨Tryz.func40, by kernel_rfl⟩
theorem hg_q169 : FnOk Tryz.prog n_q169 fn_q169 := ⟨Tryz.func41, by kernel_rfl⟩
theorem hg_q170 : FnOk Tryz.prog n_q170 fn_q170 := ⟨Tryz.func42, by kernel_rfl⟩
theorem hg_q168 : FnOk Tryz.prog n_q168 fn_q168 := ⟨Tryz.func43, by kernel_rfl⟩
theorem hg_q258 : FnOk Tryz.prog n_q258 fn_q258 := ⟨Tryz.func49, by kernel_rfl⟩
theorem hg_q20 : FnOk Tryz.prog n_q20 fn_q20 := ⟨Tryz.func50, by kernel_rfl⟩
theorem hg_q260 : FnOk Tryz.prog n_q260 fn_q260 := ⟨Tryz.func51, by kernel_rfl⟩
theorem hg_q262 : FnOk Tryz.prog n_q262 fn_q262 := ⟨Tryz.func52, by kernel_rfl⟩
theorem hg_q240 : FnOk Tryz.prog n_q240 fn_q240 := ⟨Tryz.func53, by kernel_rfl⟩
theorem hg_q64 : FnOk Tryz.prog n_q64 fn_q64 := ⟨Tryz.func54, by kernel_rfl⟩
theorem hg_q259 : FnOk Tryz.prog n_q259 fn_q259 := ⟨Tryz.func55, by kernel_rfl⟩
theorem hg_q264 : FnOk Tryz.prog n_q264 fn_q264 := ⟨Tryz.func56, by kernel_rfl⟩
theorem hg_q230 : FnOk Tryz.prog n_q230 fn_q230 := ⟨Tryz.func57, by kernel_rfl⟩
theorem hg_q111 : FnOk Tryz.prog n_q111 fn_q111 := ⟨Tryz.func58, by kernel_rfl⟩
theorem hg_q88 : FnOk Tryz.prog n_q88 fn_q88 := ⟨Tryz.func59, by kernel_rfl⟩
theorem hg_q136 : FnOk Tryz.prog n_q136 fn_q136 := ⟨Tryz.func60, by kernel_rfl⟩
theorem hg_q131 : FnOk Tryz.prog n_q131 fn_q131 := ⟨Tryz.func61, by kernel_rfl⟩
theorem hg_q140 : FnOk Tryz.prog n_q140 fn_q140 := ⟨Tryz.func62, by kernel_rfl⟩
theorem hg_q142 : FnOk Tryz.prog n_q142 fn_q142 := ⟨Tryz.func63, by kernel_rfl⟩
theorem hg_q143 : FnOk Tryz.prog n_q143 fn_q143 := ⟨Tryz.func64, by kernel_rfl⟩
theorem hg_q93 : FnOk Tryz.prog n_q93 fn_q93 := ⟨Tryz.func65, by kernel_rfl⟩
theorem hg_q26 : FnOk Tryz.prog n_q26 fn_q26 := ⟨Tryz.func66, by kernel_rfl⟩
theorem hg_q63 : FnOk Tryz.prog n_q63 fn_q63 := ⟨Tryz.func67, by kernel_rfl⟩
theorem hg_q44 : FnOk Tryz.prog n_q44 fn_q44 := ⟨Tryz.func68, by kernel_rfl⟩
theorem hg_q46 : FnOk Tryz.prog n_q46 fn_q46 := ⟨Tryz.func69, by kernel_rfl⟩
theorem hg_q65 : FnOk Tryz.prog n_q65 fn_q65 := ⟨Tryz.func70, by kernel_rfl⟩
theorem hg_q47 : FnOk Tryz.prog n_q47 fn_q47 := ⟨Tryz.func71, by kernel_rfl⟩
theorem hg_q137 : FnOk Tryz.prog n_q137 fn_q137 := ⟨Tryz.func72, by kernel_rfl⟩
theorem hg_q62 : FnOk Tryz.prog n_q62 fn_q62 := ⟨Tryz.func75, by kernel_rfl⟩
theorem hg_q17 : FnOk Tryz.prog n_q17 fn_q17 := ⟨Tryz.func76, by kernel_rfl⟩
theorem hg_q144 : FnOk Tryz.prog n_q144 fn_q144 := ⟨Tryz.func77, by kernel_rfl⟩
theorem hg_q25 : FnOk Tryz.prog n_q25 fn_q25 := ⟨Tryz.func80, by kernel_rfl⟩
theorem hg_q86 : FnOk Tryz.prog n_q86 fn_q86 := ⟨Tryz.func82, by kernel_rfl⟩
theorem hg_q175 : FnOk Tryz.prog n_q175 fn_q175 := ⟨Tryz.func93, by kernel_rfl⟩
theorem hg_q166 : FnOk Tryz.prog n_q166 fn_q166 := ⟨Tryz.func94, by kernel_rfl⟩
theorem hg_q176 : FnOk Tryz.prog n_q176 fn_q176 := ⟨Tryz.func95, by kernel_rfl⟩
theorem hg_q2 : FnOk Tryz.prog n_q2 fn_q2 := ⟨Tryz.func96, by kernel_rfl⟩
theorem hg_q171 : FnOk Tryz.prog n_q171 fn_q171 := ⟨Tryz.func97, by kernel_rfl⟩
theorem hg_slices_Contains_Lbool : FnOk Tryz.prog n_slices_Contains_Lbool fn_slices_Contains_Lbool := ⟨Tryz.func98, by kernel_rfl⟩
theorem hg_q174 : FnOk Tryz.prog n_q174 fn_q174 := ⟨Tryz.func99, by kernel_rfl⟩
theorem hg_q119 : FnOk Tryz.prog n_q119 fn_q119 := ⟨Tryz.func104, by kernel_rfl⟩
theorem hg_q172 : FnOk Tryz.prog n_q172 fn_q172 := ⟨Tryz.func105, by kernel_rfl⟩
theorem hg_q116 : FnOk Tryz.prog n_q116 fn_q116 := ⟨Tryz.func106, by kernel_rfl⟩
theorem hg_q254 : FnOk Tryz.prog n_q254 fn_q254 := ⟨Tryz.func108, by kernel_rfl⟩
theorem hg_q255 : FnOk Tryz.prog n_q255 fn_q255 := ⟨Tryz.func109, by kernel_rfl⟩
theorem hg_q96 : FnOk Tryz.prog n_q96 fn_q96 := ⟨Tryz.func110, by kernel_rfl⟩
theorem hg_q95 : FnOk Tryz.prog n_q95 fn_q95 := ⟨Tryz.func111, by kernel_rfl⟩
theorem hg_q257 : FnOk Tryz.prog n_q257 fn_q257 := ⟨Tryz.func112, by kernel_rfl⟩
theorem hg_q231 : FnOk Tryz.prog n_q231 fn_q231 := ⟨Tryz.func113, by kernel_rfl⟩
theorem hg_q239 : FnOk Tryz.prog n_q239 fn_q239 := ⟨Tryz.func114, by kernel_rfl⟩
theorem hg_q60 : FnOk Tryz.prog n_q60 fn_q60 := ⟨Tryz.func115, by kernel_rfl⟩
theorem hg_q61 : FnOk Tryz.prog n_q61 fn_q61 := ⟨Tryz.func116, by kernel_rfl⟩
theorem hg_q263 : FnOk Tryz.prog n_q263 fn_q263 := ⟨Tryz.func117, by kernel_rfl⟩
theorem hg_q114 : FnOk Tryz.prog n_q114 fn_q114 := ⟨Tryz.func118, by kernel_rfl⟩
theorem hg_q229 : FnOk Tryz.prog n_q229 fn_q229 := ⟨Tryz.func119, by kernel_rfl⟩
theorem hg_q110 : FnOk Tryz.prog n_q110 fn_q110 := ⟨Tryz.func120, by kernel_rfl⟩
theorem hg_q87 : FnOk Tryz.prog n_q87 fn_q87 := ⟨Tryz.func121, by kernel_rfl⟩
theorem hg_q7 : FnOk Tryz.prog n_q7 fn_q7 := ⟨Tryz.func122, by kernel_rfl⟩
theorem hg_q130 : FnOk Tryz.prog n_q130 fn_q130 := ⟨Tryz.func123, by kernel_rfl⟩
theorem hg_q43 : FnOk Tryz.prog n_q43 fn_q43 := ⟨Tryz.func124, by kernel_rfl⟩
theorem hg_q138 : FnOk Tryz.prog n_q138 fn_q138 := ⟨Tryz.func125, by kernel_rfl⟩
theorem hg_q141 : FnOk Tryz.prog n_q141 fn_q141 := ⟨Tryz.func126, by kernel_rfl⟩
theorem hg_q45 : FnOk Tryz.prog n_q45 fn_q45 := ⟨Tryz.func127, by kernel_rfl⟩
theorem hg_q97 : FnOk Tryz.prog n_q97 fn_q97 := ⟨Tryz.func128, by kernel_rfl⟩
theorem hg_q139 : FnOk Tryz.prog n_q139 fn_q139 := ⟨Tryz.func129, by kernel_rfl⟩
theorem hg_q6 : FnOk Tryz.prog n_q6 fn_q6 := ⟨Tryz.func130, by kernel_rfl⟩
theorem hg_q8 : FnOk Tryz.prog n_q8 fn_q8 := ⟨Tryz.func131, by kernel_rfl⟩
theorem hg_q10 : FnOk Tryz.prog n_q10 fn_q10 := ⟨Tryz.func132, by kernel_rfl⟩
theorem hg_q42 : FnOk Tryz.prog n_q42 fn_q42 := ⟨Tryz.func133, by kernel_rfl⟩
theorem hg_q21 : FnOk Tryz.prog n_q21 fn_q21 := ⟨Tryz.func134, by kernel_rfl⟩
theorem hg_q41 : FnOk Tryz.prog n_q41 fn_q41 := ⟨Tryz.func135, by kernel_rfl⟩
theorem hg_q58 : FnOk Tryz.prog n_q58 fn_q58 := ⟨Tryz.func136, by kernel_rfl⟩
theorem hg_q4 : FnOk Tryz.prog n_q4 fn_q4 := ⟨Tryz.func137, by kernel_rfl⟩
theorem hg_q59 : FnOk Tryz.prog n_q59 fn_q59 := ⟨Tryz.func138, by kernel_rfl⟩
theorem hg_q15 : FnOk Tryz.prog n_q15 fn_q15 := ⟨Tryz.func141, by kernel_rfl⟩
theorem hg_q13 : FnOk Tryz.prog n_q13 fn_q13 := ⟨Tryz.func142, by kernel_rfl⟩
theorem hg_q12 : FnOk Tryz.prog n_q12 fn_q12 := ⟨Tryz.func143, by kernel_rfl⟩
theorem hg_q24 : FnOk Tryz.prog n_q24 fn_q24 := ⟨Tryz.func144, by kernel_rfl⟩
theorem hg_q165 : FnOk Tryz.prog n_q165 fn_q165 := ⟨Tryz.func150, by kernel_rfl⟩
theorem hg_q161 : FnOk Tryz.prog n_q161 fn_q161 := ⟨Tryz.func151, by kernel_rfl⟩
theorem hg_slices_Index_Lbool : FnOk Tryz.prog n_slices_Index_Lbool fn_slices_Index_Lbool := ⟨Tryz.func152, by kernel_rfl⟩
theorem hg_q173 : FnOk Tryz.prog n_q173 fn_q173 := ⟨Tryz.func153, by kernel_rfl⟩
theorem hg_q118 : FnOk Tryz.prog n_q118 fn_q118 := ⟨Tryz.func154, by kernel_rfl⟩
theorem hg_q117 : FnOk Tryz.prog n_q117 fn_q117 := ⟨Tryz.func155, by kernel_rfl⟩
theorem hg_q89 : FnOk Tryz.prog n_q89 fn_q89 := ⟨Tryz.func156, by kernel_rfl⟩
theorem hg_q115 : FnOk Tryz.prog n_q115 fn_q115 := ⟨Tryz.func157, by kernel_rfl⟩
theorem hg_q91 : FnOk Tryz.prog n_q91 fn_q91 := ⟨Tryz.func158, by kernel_rfl⟩
theorem hg_q90 : FnOk Tryz.prog n_q90 fn_q90 := ⟨Tryz.func164, by kernel_rfl⟩
theorem hg_q92 : FnOk Tryz.prog n_q92 fn_q92 := ⟨Tryz.func165, by kernel_rfl⟩
theorem hg_q84 : FnOk Tryz.prog n_q84 fn_q84 := ⟨Tryz.func166, by kernel_rfl⟩
theorem hg_q256 : FnOk Tryz.prog n_q256 fn_q256 := ⟨Tryz.func167, by kernel_rfl⟩
theorem hg_slices_Clone_Lstring : FnOk Tryz.prog n_slices_Clone_Lstring fn_slices_Clone_Lstring := ⟨Tryz.func168, by kernel_rfl⟩
theorem hg_q121 : FnOk Tryz.prog n_q121 fn_q121 := ⟨Tryz.func169, by kernel_rfl⟩
theorem hg_q218 : FnOk Tryz.prog n_q218 fn_q218 := ⟨Tryz.func170, by kernel_rfl⟩
theorem hg_q219 : FnOk Tryz.prog n_q219 fn_q219 := ⟨Tryz.func171, by kernel_rfl⟩
theorem hg_slices_Clone_LTarget : FnOk Tryz.prog n_slices_Clone_LTarget fn_slices_Clone_LTarget := ⟨Tryz.func172, by kernel_rfl⟩
theorem hg_q226 : FnOk Tryz.prog n_q226 fn_q226 := ⟨Tryz.func173, by kernel_rfl⟩
theorem hg_q220 : FnOk Tryz.prog n_q220 fn_q220 := ⟨Tryz.func174, by kernel_rfl⟩
theorem hg_q233 : FnOk Tryz.prog n_q233 fn_q233 := ⟨Tryz.func175, by kernel_rfl⟩
theorem hg_q238 : FnOk Tryz.prog n_q238 fn_q238 := ⟨Tryz.func176, by kernel_rfl⟩
theorem hg_q235 : FnOk Tryz.prog n_q235 fn_q235 := ⟨Tryz.func177, by kernel_rfl⟩
theorem hg_q237 : FnOk Tryz.prog n_q237 fn_q237 := ⟨Tryz.func178, by kernel_rfl⟩
theorem hg_q236 : FnOk Tryz.prog n_q236 fn_q236 := ⟨Tryz.func179, by kernel_rfl⟩
theorem hg_q3 : FnOk Tryz.prog n_q3 fn_q3 := ⟨Tryz.func180, by kernel_rfl⟩
theorem hg_q27 : FnOk Tryz.prog n_q27 fn_q27 := ⟨Tryz.func181, by kernel_rfl⟩
theorem hg_q132 : FnOk Tryz.prog n_q132 fn_q132 := ⟨Tryz.func182, by kernel_rfl⟩
theorem hg_q5 : FnOk Tryz.prog n_q5 fn_q5 := ⟨Tryz.func183, by kernel_rfl⟩
theorem hg_q11 : FnOk Tryz.prog n_q11 fn_q11 := ⟨Tryz.func184, by kernel_rfl⟩
theorem hg_q18 : FnOk Tryz.prog n_q18 fn_q18 := ⟨Tryz.func185, by kernel_rfl⟩
theorem hg_q14 : FnOk Tryz.prog n_q14 fn_q14 := ⟨Tryz.func186, by kernel_rfl⟩
theorem hg_q57 : FnOk Tryz.prog n_q57 fn_q57 := ⟨Tryz.func187, by kernel_rfl⟩
theorem hg_q94 : FnOk Tryz.prog n_q94 fn_q94 := ⟨Tryz.func195, by kernel_rfl⟩
theorem hg_q113 : FnOk Tryz.prog n_q113 fn_q113 := ⟨Tryz.func196, by kernel_rfl⟩
theorem hg_q85 : FnOk Tryz.prog n_q85 fn_q85 := ⟨Tryz.func200, by kernel_rfl⟩
theorem hg_q221 : FnOk Tryz.prog n_q221 fn_q221 := ⟨Tryz.func202, by kernel_rfl⟩
theorem hg_q234 : FnOk Tryz.prog n_q234 fn_q234 := ⟨Tryz.func203, by kernel_rfl⟩
theorem hg_q228 : FnOk Tryz.prog n_q228 fn_q228 := ⟨Tryz.func204, by kernel_rfl⟩
theorem hg_q232 : FnOk Tryz.prog n_q232 fn_q232 := ⟨Tryz.func205, by kernel_rfl⟩
theorem hg_q16 : FnOk Tryz.prog n_q16 fn_q16 := ⟨Tryz.func206, by kernel_rfl⟩
theorem hg_q112 : FnOk Tryz.prog n_q112 fn_q112 := ⟨Tryz.func209, by kernel_rfl⟩
abbrev GD (Γ : Ctx) (fn : Func) (k : Nat) (K : KK) (vs : List V) (bs : List Blk) : Prop := ∃ m, goD Γ tab fn k K m [.code (z05 fn)] (z07 vs bs)
abbrev GO (Γ : Ctx) (fn : Func) (k : Nat) (K : KK) (vs : List V) (bs : List Blk) : Prop := ∃ m, goO Γ tab fn k K m [.code (z05 fn)] (z07 vs bs)
abbrev GN (Γ : Ctx) (fn : Func) (k : Nat) (K : KK) (vs : List V) (bs : List Blk) : Prop := ∃ m, goO Γ tab fn k K m [.code (z05 fn)] (initN vs bs)
noncomputable abbrev cSub (fn : Func) (l : List Nat) : Code := Code.sub (z05 fn) l
theorem ok_nil : Ok Tryz.prog tab [] := Ok.nil tab_ok (by kernel_rfl)
end Go.Proofs.YtlbppjmekiemiacGreatDoor
