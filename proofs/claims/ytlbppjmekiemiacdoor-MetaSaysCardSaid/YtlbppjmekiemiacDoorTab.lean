/- The types of the program, checked; its functions by name. No condition. -/
import Derived.Test.YtlbppjmekiemiacDoorVmd
import Derived.Test.YtlbppjmekiemiacDoorChecked
import Derived.KernelRfl
import Derived.WalkKit
namespace Go.Proofs.YtlbppjmekiemiacDoor
open Vm
abbrev RK := List It → St → Prop
abbrev KK := V → List Blk → Prop
abbrev dI (n : Int) : C := .dat Ty.int n
abbrev dB (b : Bool) : C := .dat Ty.bool b
abbrev dL (l : List Int) : C := .dat (Ty.list Ty.int) l
abbrev dLb (l : List Bool) : C := .dat (Ty.list Ty.bool) l
abbrev dM (l : List Message) : C := .dat (Ty.list Ty.message) l
abbrev dR (l : List (List Int)) : C := .dat (Ty.list (Ty.list Ty.int)) l
abbrev vF : V := .one (dB false)
abbrev vT : V := .one (dB true)
abbrev cG (g : Gate) : List C := [dL g.f.words, dI g.f.fuel, dB g.up, dI g.t.r.version, dL g.t.r.keys, dI g.t.r.thr, dI g.t.version, dLb g.voted, dLb g.did]
abbrev cU (u : UnitD) : List C := [dL u.f.words, dI u.f.fuel, dB u.up, dI u.n, dI u.got]
abbrev cV (v : Vehicle) (a b c : C) : List C := [.dat (Ty.list Ty.str) v.b, .dat (Ty.list Ty.signed) v.s, dL v.g.f.words, dI v.g.f.fuel, dB v.g.up, dI v.g.t.r.version, dL v.g.t.r.keys, dI v.g.t.r.thr, dI v.g.t.version, dLb v.g.voted, dLb v.g.did, a, b, c, dI v.now]
abbrev aV (vb : List (List UInt8)) (vs : List Signed) (ws : List Int) (fu : Int) (up : Bool) (tv : Int) (tk : List Int) (tt tn : Int) (vo di : List Bool) (a b c : C) (now : Int) : List C := [.dat (Ty.list Ty.str) vb, .dat (Ty.list Ty.signed) vs, dL ws, dI fu, dB up, dI tv, dL tk, dI tt, dI tn, dLb vo, dLb di, a, b, c, dI now]
abbrev zV : List C := [.dat (Ty.list Ty.str) [], .dat (Ty.list Ty.signed) [], dL [], dI (0 : Int), dB false, dI (0 : Int), dL [], dI (0 : Int), dI (0 : Int), dLb [], dLb [], .dat (Ty.list Ty.unitd) [], .dat (Ty.list Ty.campaign) [], dM [], dI (0 : Int)]
noncomputable def tab : Tab := ⟨[
  (2, ⟨1, .int, [.dat Ty.int (0 : Int)], [], [], 0⟩),
  (3, ⟨1, .int, [.dat Ty.int (0 : Int)], [], [], 0⟩),
  (4, ⟨1, .bool, [.dat Ty.bool false], [], [], 0⟩),
  (9, ⟨1, .str, [.dat Ty.str []], [], [], 0⟩),
  (20, ⟨1, .iface, [.undef], [], [], 0⟩),
  (22, ⟨1, .slice Ty.target 58, [.nil Ty.target], [], [], 24⟩),
  (24, ⟨3, .struct, [.dat Ty.int (0 : Int), .dat Ty.int (0 : Int), .nil Ty.target], [0, 1, 2], [1, 1, 1], 0⟩),
  (25, ⟨1, .slice Ty.int 3, [.nil Ty.int], [], [], 8⟩),
  (26, ⟨1, .int, [.dat Ty.int (0 : Int)], [], [], 0⟩),
  (37, ⟨2, .struct, [.nil Ty.int, .dat Ty.int (0 : Int)], [0, 1], [1, 1], 0⟩),
  (39, ⟨3, .struct, [.dat Ty.int (0 : Int), .nil Ty.int, .dat Ty.int (0 : Int)], [0, 1, 2], [1, 1, 1], 0⟩),
  (41, ⟨4, .struct, [.dat Ty.int (0 : Int), .nil Ty.int, .dat Ty.int (0 : Int), .dat Ty.int (0 : Int)], [0, 3], [3, 1], 0⟩),
  (42, ⟨1, .slice Ty.bool 4, [.nil Ty.bool], [], [], 1⟩),
  (44, ⟨9, .struct, [.nil Ty.int, .dat Ty.int (0 : Int), .dat Ty.bool false, .dat Ty.int (0 : Int), .nil Ty.int, .dat Ty.int (0 : Int), .dat Ty.int (0 : Int), .nil Ty.bool, .nil Ty.bool], [0, 2, 3, 7, 8], [2, 1, 4, 1, 1], 0⟩),
  (45, ⟨1, .slice (Ty.list Ty.int) 25, [.nil (Ty.list Ty.int)], [], [], 24⟩),
  (47, ⟨5, .struct, [.dat Ty.int (0 : Int), .dat Ty.int (0 : Int), .dat Ty.int (0 : Int), .nil Ty.target, .nil (Ty.list Ty.int)], [0, 1, 4], [1, 3, 1], 0⟩),
  (48, ⟨1, .slice Ty.message 56, [.nil Ty.message], [], [], 72⟩),
  (52, ⟨5, .struct, [.dat Ty.int (0 : Int), .dat Ty.int (0 : Int), .dat Ty.bool false, .dat Ty.bool false, .dat Ty.bool false], [0, 1, 2, 3, 4], [1, 1, 1, 1, 1], 0⟩),
  (56, ⟨7, .struct, [.dat Ty.int (0 : Int), .dat Ty.int (0 : Int), .dat Ty.int (0 : Int), .dat Ty.int (0 : Int), .dat Ty.int (0 : Int), .nil Ty.int, .dat Ty.bool false], [0, 1, 2, 3, 4, 5, 6], [1, 1, 1, 1, 1, 1, 1], 0⟩),
  (58, ⟨3, .struct, [.dat Ty.int (0 : Int), .dat Ty.int (0 : Int), .dat Ty.int (0 : Int)], [0, 1, 2], [1, 1, 1], 0⟩),
  (81, ⟨1, .slice Ty.str 9, [.nil Ty.str], [], [], 16⟩),
  (83, ⟨1, .struct, [.nil Ty.str], [0], [1], 0⟩),
  (92, ⟨1, .slice Ty.signed 139, [.nil Ty.signed], [], [], 16⟩),
  (93, ⟨1, .slice Ty.root 39, [.nil Ty.root], [], [], 40⟩),
  (95, ⟨7, .struct, [.nil Ty.root, .nil (Ty.list Ty.int), .dat Ty.int (0 : Int), .dat Ty.int (0 : Int), .nil Ty.target, .nil Ty.int, .nil (Ty.list Ty.int)], [0, 1, 2, 5, 6], [1, 1, 3, 1, 1], 0⟩),
  (103, ⟨1, .other, [.undef], [], [], 0⟩),
  (104, ⟨1, .slice Ty.int 3, [.nil Ty.int], [], [], 8⟩),
  (110, ⟨1, .other, [.undef], [], [], 0⟩),
  (112, ⟨3, .array 3 1, [.dat Ty.int (0 : Int), .dat Ty.int (0 : Int), .dat Ty.int (0 : Int)], [0, 1, 2], [1, 1, 1], 0⟩),
  (113, ⟨9, .array 3 3, [.dat Ty.int (0 : Int), .dat Ty.int (0 : Int), .dat Ty.int (0 : Int), .dat Ty.int (0 : Int), .dat Ty.int (0 : Int), .dat Ty.int (0 : Int), .dat Ty.int (0 : Int), .dat Ty.int (0 : Int), .dat Ty.int (0 : Int)], [0, 3, 6], [3, 3, 3], 0⟩),
  (116, ⟨1, .other, [.undef], [], [], 0⟩),
  (118, ⟨1, .iface, [.undef], [], [], 0⟩),
  (122, ⟨1, .other, [.undef], [], [], 0⟩),
  (132, ⟨1, .slice (Ty.list Ty.int) 104, [.nil (Ty.list Ty.int)], [], [], 24⟩),
  (139, ⟨2, .struct, [.dat Ty.int (0 : Int), .dat Ty.int (0 : Int)], [0, 1], [1, 1], 0⟩),
  (151, ⟨1, .other, [.undef], [], [], 0⟩),
  (169, ⟨1, .other, [.undef], [], [], 0⟩),
  (171, ⟨1, .other, [.undef], [], [], 0⟩),
  (183, ⟨1, .u64, [.undef], [], [], 0⟩),
  (202, ⟨6, .array 2 3, [.dat Ty.int (0 : Int), .nil Ty.int, .dat Ty.int (0 : Int), .dat Ty.int (0 : Int), .nil Ty.int, .dat Ty.int (0 : Int)], [0, 3], [3, 3], 0⟩)
  ], 999999, 999999, [52, 58, 139], false, some 2, some 3, [0, 1]⟩
-- pow 2 218 20 180
-- errty 118

theorem tab_ok : TabOk Tryd.prog tab := tabOk_plain (by kernel_rfl) (by kernel_rfl) (fun h => by cases h)
abbrev n_law_MetaSays : Nat := 7
noncomputable abbrev fn_law_MetaSays : Func := Tryd.f7
abbrev n_meta_ReleaseText : Nat := 8
noncomputable abbrev fn_meta_ReleaseText : Func := Tryd.f8
abbrev n_law_written : Nat := 9
noncomputable abbrev fn_law_written : Func := Tryd.f9
abbrev n_ref_SameRelease : Nat := 10
noncomputable abbrev fn_ref_SameRelease : Func := Tryd.f10
abbrev n_meta_ParseRelease : Nat := 11
noncomputable abbrev fn_meta_ParseRelease : Func := Tryd.f11
abbrev n_meta_ImageText : Nat := 12
noncomputable abbrev fn_meta_ImageText : Func := Tryd.f12
abbrev n_meta_RootText : Nat := 24
noncomputable abbrev fn_meta_RootText : Func := Tryd.f24
abbrev n_ref_CheckRoot : Nat := 25
noncomputable abbrev fn_ref_CheckRoot : Func := Tryd.f25
abbrev n_ref_CheckRelease : Nat := 26
noncomputable abbrev fn_ref_CheckRelease : Func := Tryd.f26
abbrev n_ref_CheckImage : Nat := 27
noncomputable abbrev fn_ref_CheckImage : Func := Tryd.f27
abbrev n_meta_CheckRoot : Nat := 28
noncomputable abbrev fn_meta_CheckRoot : Func := Tryd.f28
abbrev n_meta_CheckRelease : Nat := 29
noncomputable abbrev fn_meta_CheckRelease : Func := Tryd.f29
abbrev n_meta_CheckImage : Nat := 30
noncomputable abbrev fn_meta_CheckImage : Func := Tryd.f30
abbrev n_ref_RootText : Nat := 31
noncomputable abbrev fn_ref_RootText : Func := Tryd.f31
abbrev n_ref_ReleaseText : Nat := 32
noncomputable abbrev fn_ref_ReleaseText : Func := Tryd.f32
abbrev n_ref_ImageText : Nat := 33
noncomputable abbrev fn_ref_ImageText : Func := Tryd.f33
abbrev n_ref_ReadRelease : Nat := 34
noncomputable abbrev fn_ref_ReadRelease : Func := Tryd.f34
abbrev n_strconv_Itoa : Nat := 35
noncomputable abbrev fn_strconv_Itoa : Func := Tryd.f35
abbrev n_meta_list : Nat := 36
noncomputable abbrev fn_meta_list : Func := Tryd.f36
abbrev n_meta_ImageName : Nat := 37
noncomputable abbrev fn_meta_ImageName : Func := Tryd.f37
abbrev n_slices_Equal_LTarget : Nat := 38
noncomputable abbrev fn_slices_Equal_LTarget : Func := Tryd.f38
abbrev n_strings_Split : Nat := 39
noncomputable abbrev fn_strings_Split : Func := Tryd.f39
abbrev n_meta_numbers : Nat := 40
noncomputable abbrev fn_meta_numbers : Func := Tryd.f40
abbrev n_ref_allWords : Nat := 57
noncomputable abbrev fn_ref_allWords : Func := Tryd.f57
abbrev n_ref_spaced : Nat := 58
noncomputable abbrev fn_ref_spaced : Func := Tryd.f58
abbrev n_strings_Join : Nat := 59
noncomputable abbrev fn_strings_Join : Func := Tryd.f59
abbrev n_ref_ReadRelease_1 : Nat := 60
noncomputable abbrev fn_ref_ReadRelease_1 : Func := Tryd.f60
abbrev n_ref_ReadRelease_2 : Nat := 61
noncomputable abbrev fn_ref_ReadRelease_2 : Func := Tryd.f61
abbrev n_strconv_ParseInt : Nat := 62
noncomputable abbrev fn_strconv_ParseInt : Func := Tryd.f62
abbrev n_strconv_FormatInt : Nat := 63
noncomputable abbrev fn_strconv_FormatInt : Func := Tryd.f63
abbrev n_strings_CutPrefix : Nat := 64
noncomputable abbrev fn_strings_CutPrefix : Func := Tryd.f64
abbrev n_strings_Cut : Nat := 65
noncomputable abbrev fn_strings_Cut : Func := Tryd.f65
abbrev n_meta_Name : Nat := 67
noncomputable abbrev fn_meta_Name : Func := Tryd.f67
abbrev n_strconv_Atoi : Nat := 69
noncomputable abbrev fn_strconv_Atoi : Func := Tryd.f69
abbrev n_slices_ContainsFunc_Lint : Nat := 82
noncomputable abbrev fn_slices_ContainsFunc_Lint : Func := Tryd.f82
abbrev n_ref_allWords_1 : Nat := 83
noncomputable abbrev fn_ref_allWords_1 : Func := Tryd.f83
abbrev n_ref_IsWord : Nat := 84
noncomputable abbrev fn_ref_IsWord : Func := Tryd.f84
abbrev n_meta_CheckBook : Nat := 93
noncomputable abbrev fn_meta_CheckBook : Func := Tryd.f93
abbrev n_slices_Index_Lstring : Nat := 94
noncomputable abbrev fn_slices_Index_Lstring : Func := Tryd.f94
abbrev n_slices_IndexFunc_Lint : Nat := 111
noncomputable abbrev fn_slices_IndexFunc_Lint : Func := Tryd.f111
abbrev n_slices_Contains_Lstring : Nat := 125
noncomputable abbrev fn_slices_Contains_Lstring : Func := Tryd.f125
theorem hf_law_MetaSays : Tryd.prog.funcs[n_law_MetaSays]? = some fn_law_MetaSays := Tryd.func7
theorem hB_law_MetaSays : fnB fn_law_MetaSays = true := by kernel_rfl
theorem hf_meta_ReleaseText : Tryd.prog.funcs[n_meta_ReleaseText]? = some fn_meta_ReleaseText := Tryd.func8
theorem hB_meta_ReleaseText : fnB fn_meta_ReleaseText = true := by kernel_rfl
theorem hf_law_written : Tryd.prog.funcs[n_law_written]? = some fn_law_written := Tryd.func9
theorem hB_law_written : fnB fn_law_written = true := by kernel_rfl
theorem hf_ref_SameRelease : Tryd.prog.funcs[n_ref_SameRelease]? = some fn_ref_SameRelease := Tryd.func10
theorem hB_ref_SameRelease : fnB fn_ref_SameRelease = true := by kernel_rfl
theorem hf_meta_ParseRelease : Tryd.prog.funcs[n_meta_ParseRelease]? = some fn_meta_ParseRelease := Tryd.func11
theorem hB_meta_ParseRelease : fnB fn_meta_ParseRelease = true := by kernel_rfl
theorem hf_meta_ImageText : Tryd.prog.funcs[n_meta_ImageText]? = some fn_meta_ImageText := Tryd.func12
theorem hB_meta_ImageText : fnB fn_meta_ImageText = true := by kernel_rfl
theorem hf_meta_RootText : Tryd.prog.funcs[n_meta_RootText]? = some fn_meta_RootText := Tryd.func24
theorem hB_meta_RootText : fnB fn_meta_RootText = true := by kernel_rfl
theorem hf_ref_CheckRoot : Tryd.prog.funcs[n_ref_CheckRoot]? = some fn_ref_CheckRoot := Tryd.func25
theorem hB_ref_CheckRoot : fnB fn_ref_CheckRoot = true := by kernel_rfl
theorem hf_ref_CheckRelease : Tryd.prog.funcs[n_ref_CheckRelease]? = some fn_ref_CheckRelease := Tryd.func26
theorem hB_ref_CheckRelease : fnB fn_ref_CheckRelease = true := by kernel_rfl
theorem hf_ref_CheckImage : Tryd.prog.funcs[n_ref_CheckImage]? = some fn_ref_CheckImage := Tryd.func27
theorem hB_ref_CheckImage : fnB fn_ref_CheckImage = true := by kernel_rfl
theorem hf_meta_CheckRoot : Tryd.prog.funcs[n_meta_CheckRoot]? = some fn_meta_CheckRoot := Tryd.func28
theorem hB_meta_CheckRoot : fnB fn_meta_CheckRoot = true := by kernel_rfl
theorem hf_meta_CheckRelease : Tryd.prog.funcs[n_meta_CheckRelease]? = some fn_meta_CheckRelease := Tryd.func29
theorem hB_meta_CheckRelease : fnB fn_meta_CheckRelease = true := by kernel_rfl
theorem hf_meta_CheckImage : Tryd.prog.funcs[n_meta_CheckImage]? = some fn_meta_CheckImage := Tryd.func30
theorem hB_meta_CheckImage : fnB fn_meta_CheckImage = true := by kernel_rfl
theorem hf_ref_RootText : Tryd.prog.funcs[n_ref_RootText]? = some fn_ref_RootText := Tryd.func31
theorem hB_ref_RootText : fnB fn_ref_RootText = true := by kernel_rfl
theorem hf_ref_ReleaseText : Tryd.prog.funcs[n_ref_ReleaseText]? = some fn_ref_ReleaseText := Tryd.func32
theorem hB_ref_ReleaseText : fnB fn_ref_ReleaseText = true := by kernel_rfl
theorem hf_ref_ImageText : Tryd.prog.funcs[n_ref_ImageText]? = some fn_ref_ImageText := Tryd.func33
theorem hB_ref_ImageText : fnB fn_ref_ImageText = true := by kernel_rfl
theorem hf_ref_ReadRelease : Tryd.prog.funcs[n_ref_ReadRelease]? = some fn_ref_ReadRelease := Tryd.func34
theorem hB_ref_ReadRelease : fnB fn_ref_ReadRelease = true := by kernel_rfl
theorem hf_strconv_Itoa : Tryd.prog.funcs[n_strconv_Itoa]? = some fn_strconv_Itoa := Tryd.func35
theorem hB_strconv_Itoa : fnB fn_strconv_Itoa = true := by kernel_rfl
theorem hf_meta_list : Tryd.prog.funcs[n_meta_list]? = some fn_meta_list := Tryd.func36
theorem hB_meta_list : fnB fn_meta_list = true := by kernel_rfl
theorem hf_meta_ImageName : Tryd.prog.funcs[n_meta_ImageName]? = some fn_meta_ImageName := Tryd.func37
theorem hB_meta_ImageName : fnB fn_meta_ImageName = true := by kernel_rfl
theorem hf_slices_Equal_LTarget : Tryd.prog.funcs[n_slices_Equal_LTarget]? = some fn_slices_Equal_LTarget := Tryd.func38
theorem hB_slices_Equal_LTarget : fnB fn_slices_Equal_LTarget = true := by kernel_rfl
theorem hf_strings_Split : Tryd.prog.funcs[n_strings_Split]? = some fn_strings_Split := Tryd.func39
theorem hB_strings_Split : fnB fn_strings_Split = true := by kernel_rfl
theorem hf_meta_numbers : Tryd.prog.funcs[n_meta_numbers]? = some fn_meta_numbers := Tryd.func40
theorem hB_meta_numbers : fnB fn_meta_numbers = true := by kernel_rfl
theorem hf_ref_allWords : Tryd.prog.funcs[n_ref_allWords]? = some fn_ref_allWords := Tryd.func57
theorem hB_ref_allWords : fnB fn_ref_allWords = true := by kernel_rfl
theorem hf_ref_spaced : Tryd.prog.funcs[n_ref_spaced]? = some fn_ref_spaced := Tryd.func58
theorem hB_ref_spaced : fnB fn_ref_spaced = true := by kernel_rfl
theorem hf_strings_Join : Tryd.prog.funcs[n_strings_Join]? = some fn_strings_Join := Tryd.func59
theorem hB_strings_Join : fnB fn_strings_Join = true := by kernel_rfl
theorem hf_ref_ReadRelease_1 : Tryd.prog.funcs[n_ref_ReadRelease_1]? = some fn_ref_ReadRelease_1 := Tryd.func60
theorem hB_ref_ReadRelease_1 : fnB fn_ref_ReadRelease_1 = true := by kernel_rfl
theorem hf_ref_ReadRelease_2 : Tryd.prog.funcs[n_ref_ReadRelease_2]? = some fn_ref_ReadRelease_2 := Tryd.func61
theorem hB_ref_ReadRelease_2 : fnB fn_ref_ReadRelease_2 = true := by kernel_rfl
theorem hf_strconv_ParseInt : Tryd.prog.funcs[n_strconv_ParseInt]? = some fn_strconv_ParseInt := Tryd.func62
theorem hB_strconv_ParseInt : fnB fn_strconv_ParseInt = true := by kernel_rfl
theorem hf_strconv_FormatInt : Tryd.prog.funcs[n_strconv_FormatInt]? = some fn_strconv_FormatInt := Tryd.func63
theorem hB_strconv_FormatInt : fnB fn_strconv_FormatInt = true := by kernel_rfl
theorem hf_strings_CutPrefix : Tryd.prog.funcs[n_strings_CutPrefix]? = some fn_strings_CutPrefix := Tryd.func64
theorem hB_strings_CutPrefix : fnB fn_strings_CutPrefix = true := by kernel_rfl
theorem hf_strings_Cut : Tryd.prog.funcs[n_strings_Cut]? = some fn_strings_Cut := Tryd.func65
theorem hB_strings_Cut : fnB fn_strings_Cut = true := by kernel_rfl
theorem hf_meta_Name : Tryd.prog.funcs[n_meta_Name]? = some fn_meta_Name := Tryd.func67
theorem hB_meta_Name : fnB fn_meta_Name = true := by kernel_rfl
theorem hf_strconv_Atoi : Tryd.prog.funcs[n_strconv_Atoi]? = some fn_strconv_Atoi := Tryd.func69
theorem hB_strconv_Atoi : fnB fn_strconv_Atoi = true := by kernel_rfl
theorem hf_slices_ContainsFunc_Lint : Tryd.prog.funcs[n_slices_ContainsFunc_Lint]? = some fn_slices_ContainsFunc_Lint := Tryd.func82
theorem hB_slices_ContainsFunc_Lint : fnB fn_slices_ContainsFunc_Lint = true := by kernel_rfl
theorem hf_ref_allWords_1 : Tryd.prog.funcs[n_ref_allWords_1]? = some fn_ref_allWords_1 := Tryd.func83
theorem hB_ref_allWords_1 : fnB fn_ref_allWords_1 = true := by kernel_rfl
theorem hf_ref_IsWord : Tryd.prog.funcs[n_ref_IsWord]? = some fn_ref_IsWord := Tryd.func84
theorem hB_ref_IsWord : fnB fn_ref_IsWord = true := by kernel_rfl
theorem hf_meta_CheckBook : Tryd.prog.funcs[n_meta_CheckBook]? = some fn_meta_CheckBook := Tryd.func93
theorem hB_meta_CheckBook : fnB fn_meta_CheckBook = true := by kernel_rfl
theorem hf_slices_Index_Lstring : Tryd.prog.funcs[n_slices_Index_Lstring]? = some fn_slices_Index_Lstring := Tryd.func94
theorem hB_slices_Index_Lstring : fnB fn_slices_Index_Lstring = true := by kernel_rfl
theorem hf_slices_IndexFunc_Lint : Tryd.prog.funcs[n_slices_IndexFunc_Lint]? = some fn_slices_IndexFunc_Lint := Tryd.func111
theorem hB_slices_IndexFunc_Lint : fnB fn_slices_IndexFunc_Lint = true := by kernel_rfl
theorem hf_slices_Contains_Lstring : Tryd.prog.funcs[n_slices_Contains_Lstring]? = some fn_slices_Contains_Lstring := Tryd.func125
theorem hB_slices_Contains_Lstring : fnB fn_slices_Contains_Lstring = true := by kernel_rfl
theorem ok_nil : Ok Tryd.prog tab [] := Ok.nil tab_ok (by kernel_rfl)
end Go.Proofs.YtlbppjmekiemiacDoor
