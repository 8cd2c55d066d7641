/-
  NARROWER THAN 'FOR EVERY INPUT', by the rows' own cells (each row's printed sentence says how): MetaApart: laid · MetaNames: laid · TrustRises: laid · TrustSays: laid · TrustCounts: laid · UnitDown: laid · UnitHolds: laid · UnitPieces: laid · UnitReady: laid · UnitTwice: laid.
  DERIVED. THE GIVEN ROWS OF THIS SEAT. 10 by the template 'for every input the law returns true; each argument reads behind the call as it read before'; 0 by the template 'total and deterministic' (their statements: YtlbppjmekiemiabDoorTotals.lean).
  GIVEN WITH THE SEED: the statements are not yours to turn. If you find one false, say at which input.
  Laid BY PROGRAM, IN A SANDBOX (cutbox-rows.mjs): the forced cells as the released guide's own fill.sh prints them over the translation 2c37e1d4deeb04ea… (all of the seat's roots in one cut). By AI agents, Wed Nov 11 2026. No macro, syntax, notation, axiom, sorry.
-/
import Derived.Test.YtlbppjmekiemiabDoorChecked
import GoSem.Claim
import GoSem.ClaimJoined
import GoSem.ClaimMapViews
import Derived.JoinedTies
import Derived.KernelRfl
namespace Go.Proofs.YtlbppjmekiemiabDoor
/- THE CELL 'sum', in the pinned program and in every row, IS THE sha256 OF THE DUMP (.gsa) THAT YtlbppjmekiemiabDoorProg.lean LOADS. Nothing in Lean hashes anything: it is a label: what it is worth is what the hold of that sum in a sandbox is worth. -/
noncomputable def Tryd.pinned : Pinned := { name := "ytlbppjmekiemiabdoor", sum := "2c37e1d4deeb04eafd9d0fcd973f93f741531c0843c4f1d2a20e885734186f24", checked := Tryd.checked }
namespace Rows
def none {H : Type} : Left H := { results := [], args := [] }

/- WHAT THE LISTED PACKAGE-LEVEL VARIABLES READ AS WHEN THE CALL BEGINS. Each datum BY PROGRAM (the guide's laid-datum.mjs) off the statement by which the dump's own 'gosem.cut.vars' lays the variable. In a bare row this is a premise. The card (YtlbppjmekiemiabDoorCards.lean) ties it to the program's text. -/
def laid_math_bits_deBruijn32tab {H : Type} : DataW H := .agg [.lit (.int .u8 0), .lit (.int .u8 1), .lit (.int .u8 28), .lit (.int .u8 2), .lit (.int .u8 29), .lit (.int .u8 14), .lit (.int .u8 24), .lit (.int .u8 3), .lit (.int .u8 30), .lit (.int .u8 22), .lit (.int .u8 20), .lit (.int .u8 15), .lit (.int .u8 25), .lit (.int .u8 17), .lit (.int .u8 4), .lit (.int .u8 8), .lit (.int .u8 31), .lit (.int .u8 27), .lit (.int .u8 13), .lit (.int .u8 23), .lit (.int .u8 21), .lit (.int .u8 19), .lit (.int .u8 16), .lit (.int .u8 7), .lit (.int .u8 26), .lit (.int .u8 12), .lit (.int .u8 18), .lit (.int .u8 6), .lit (.int .u8 11), .lit (.int .u8 5), .lit (.int .u8 10), .lit (.int .u8 9)]
def laid_math_bits_deBruijn64tab {H : Type} : DataW H := .agg [.lit (.int .u8 0), .lit (.int .u8 1), .lit (.int .u8 56), .lit (.int .u8 2), .lit (.int .u8 57), .lit (.int .u8 49), .lit (.int .u8 28), .lit (.int .u8 3), .lit (.int .u8 61), .lit (.int .u8 58), .lit (.int .u8 42), .lit (.int .u8 50), .lit (.int .u8 38), .lit (.int .u8 29), .lit (.int .u8 17), .lit (.int .u8 4), .lit (.int .u8 62), .lit (.int .u8 47), .lit (.int .u8 59), .lit (.int .u8 36), .lit (.int .u8 45), .lit (.int .u8 43), .lit (.int .u8 51), .lit (.int .u8 22), .lit (.int .u8 53), .lit (.int .u8 39), .lit (.int .u8 33), .lit (.int .u8 30), .lit (.int .u8 24), .lit (.int .u8 18), .lit (.int .u8 12), .lit (.int .u8 5), .lit (.int .u8 63), .lit (.int .u8 55), .lit (.int .u8 48), .lit (.int .u8 27), .lit (.int .u8 60), .lit (.int .u8 41), .lit (.int .u8 37), .lit (.int .u8 16), .lit (.int .u8 46), .lit (.int .u8 35), .lit (.int .u8 44), .lit (.int .u8 21), .lit (.int .u8 52), .lit (.int .u8 32), .lit (.int .u8 23), .lit (.int .u8 11), .lit (.int .u8 54), .lit (.int .u8 26), .lit (.int .u8 40), .lit (.int .u8 15), .lit (.int .u8 34), .lit (.int .u8 20), .lit (.int .u8 31), .lit (.int .u8 10), .lit (.int .u8 25), .lit (.int .u8 14), .lit (.int .u8 19), .lit (.int .u8 9), .lit (.int .u8 13), .lit (.int .u8 8), .lit (.int .u8 7), .lit (.int .u8 6)]
def laid_internal_strconv_uint64pow10 {H : Type} : DataW H := .agg [.lit (.int .u64 1), .lit (.int .u64 10), .lit (.int .u64 100), .lit (.int .u64 1000), .lit (.int .u64 10000), .lit (.int .u64 100000), .lit (.int .u64 1000000), .lit (.int .u64 10000000), .lit (.int .u64 100000000), .lit (.int .u64 1000000000), .lit (.int .u64 10000000000), .lit (.int .u64 100000000000), .lit (.int .u64 1000000000000), .lit (.int .u64 10000000000000), .lit (.int .u64 100000000000000), .lit (.int .u64 1000000000000000), .lit (.int .u64 10000000000000000), .lit (.int .u64 100000000000000000), .lit (.int .u64 1000000000000000000), .lit (.int .u64 10000000000000000000)]

/-- 'wainwrightlaw.MetaApart': WHATEVER THE INPUT: true; the input reads as it did. -/
def metaApartSpec : ChangeSpec := { name := "metaApart", fn := fun _ => fun
  | [d1, d2, d3] => { results := [.lit (.bool true)], args := [d1, d2, d3] }
  | _ => none }
def metaApartRow : OpenClaim := { program := "ytlbppjmekiemiabdoor", sum := "2c37e1d4deeb04eafd9d0fcd973f93f741531c0843c4f1d2a20e885734186f24", func := "wainwright/wainwrightlaw.MetaApart", spec := "metaApart", inPlace := ["internal/abi.NoEscape", "internal/bytealg.MakeNoZero"], named := ["internal/strconv.uint64pow10", "math/bits.deBruijn32tab", "math/bits.deBruijn64tab"], apart := false, laid := [("math/bits.deBruijn32tab", laid_math_bits_deBruijn32tab), ("math/bits.deBruijn64tab", laid_math_bits_deBruijn64tab), ("internal/strconv.uint64pow10", laid_internal_strconv_uint64pow10)] }
def MetaApartSaid : Prop := metaApartRow.holds Tryd.pinned (OpenSpec.ofChange metaApartSpec)

/-- ITS FALSE NEIGHBOUR: 'it returns false'. Refute it at one input. -/
def metaApartWrong : ChangeSpec := { name := "metaApart", fn := fun _ => fun
  | [d1, d2, d3] => { results := [.lit (.bool false)], args := [d1, d2, d3] }
  | _ => none }
def MetaApartWrongFalsely : Prop := metaApartRow.holds Tryd.pinned (OpenSpec.ofChange metaApartWrong)

/-- 'wainwrightlaw.MetaNames': WHATEVER THE INPUT: true; the input reads as it did. -/
def metaNamesSpec : ChangeSpec := { name := "metaNames", fn := fun _ => fun
  | [d1, d2, d3] => { results := [.lit (.bool true)], args := [d1, d2, d3] }
  | _ => none }
def metaNamesRow : OpenClaim := { program := "ytlbppjmekiemiabdoor", sum := "2c37e1d4deeb04eafd9d0fcd973f93f741531c0843c4f1d2a20e885734186f24", func := "wainwright/wainwrightlaw.MetaNames", spec := "metaNames", inPlace := ["internal/abi.NoEscape", "internal/bytealg.MakeNoZero"], unfollowed := true, recurses := true, named := ["internal/strconv.uint64pow10", "math/bits.deBruijn32tab", "math/bits.deBruijn64tab"], apart := false, laid := [("math/bits.deBruijn32tab", laid_math_bits_deBruijn32tab), ("math/bits.deBruijn64tab", laid_math_bits_deBruijn64tab), ("internal/strconv.uint64pow10", laid_internal_strconv_uint64pow10)] }
def MetaNamesSaid : Prop := metaNamesRow.holds Tryd.pinned (OpenSpec.ofChange metaNamesSpec)

/-- ITS FALSE NEIGHBOUR: 'it returns false'. Refute it at one input. -/
def metaNamesWrong : ChangeSpec := { name := "metaNames", fn := fun _ => fun
  | [d1, d2, d3] => { results := [.lit (.bool false)], args := [d1, d2, d3] }
  | _ => none }
def MetaNamesWrongFalsely : Prop := metaNamesRow.holds Tryd.pinned (OpenSpec.ofChange metaNamesWrong)

/-- 'wainwrightlaw.TrustRises': WHATEVER THE INPUT: true; the input reads as it did. -/
def trustRisesSpec : ChangeSpec := { name := "trustRises", fn := fun _ => fun
  | [d1, d2, d3, d4, d5, d6] => { results := [.lit (.bool true)], args := [d1, d2, d3, d4, d5, d6] }
  | _ => none }
def trustRisesRow : OpenClaim := { program := "ytlbppjmekiemiabdoor", sum := "2c37e1d4deeb04eafd9d0fcd973f93f741531c0843c4f1d2a20e885734186f24", func := "wainwright/wainwrightlaw.TrustRises", spec := "trustRises", inPlace := ["internal/abi.NoEscape", "internal/bytealg.MakeNoZero"], unfollowed := true, recurses := true, named := ["internal/strconv.uint64pow10", "math/bits.deBruijn32tab", "math/bits.deBruijn64tab"], apart := false, laid := [("math/bits.deBruijn32tab", laid_math_bits_deBruijn32tab), ("math/bits.deBruijn64tab", laid_math_bits_deBruijn64tab), ("internal/strconv.uint64pow10", laid_internal_strconv_uint64pow10)] }
def TrustRisesSaid : Prop := trustRisesRow.holds Tryd.pinned (OpenSpec.ofChange trustRisesSpec)

/-- ITS FALSE NEIGHBOUR: 'it returns false'. Refute it at one input. -/
def trustRisesWrong : ChangeSpec := { name := "trustRises", fn := fun _ => fun
  | [d1, d2, d3, d4, d5, d6] => { results := [.lit (.bool false)], args := [d1, d2, d3, d4, d5, d6] }
  | _ => none }
def TrustRisesWrongFalsely : Prop := trustRisesRow.holds Tryd.pinned (OpenSpec.ofChange trustRisesWrong)

/-- 'wainwrightlaw.TrustSays': WHATEVER THE INPUT: true; the input reads as it did. -/
def trustSaysSpec : ChangeSpec := { name := "trustSays", fn := fun _ => fun
  | [d1, d2, d3, d4, d5, d6, d7] => { results := [.lit (.bool true)], args := [d1, d2, d3, d4, d5, d6, d7] }
  | _ => none }
def trustSaysRow : OpenClaim := { program := "ytlbppjmekiemiabdoor", sum := "2c37e1d4deeb04eafd9d0fcd973f93f741531c0843c4f1d2a20e885734186f24", func := "wainwright/wainwrightlaw.TrustSays", spec := "trustSays", inPlace := ["internal/abi.NoEscape", "internal/bytealg.MakeNoZero"], unfollowed := true, recurses := true, named := ["internal/strconv.uint64pow10", "math/bits.deBruijn32tab", "math/bits.deBruijn64tab"], apart := false, laid := [("math/bits.deBruijn32tab", laid_math_bits_deBruijn32tab), ("math/bits.deBruijn64tab", laid_math_bits_deBruijn64tab), ("internal/strconv.uint64pow10", laid_internal_strconv_uint64pow10)] }
def TrustSaysSaid : Prop := trustSaysRow.holds Tryd.pinned (OpenSpec.ofChange trustSaysSpec)

/-- ITS FALSE NEIGHBOUR: 'it returns false'. Refute it at one input. -/
def trustSaysWrong : ChangeSpec := { name := "trustSays", fn := fun _ => fun
  | [d1, d2, d3, d4, d5, d6, d7] => { results := [.lit (.bool false)], args := [d1, d2, d3, d4, d5, d6, d7] }
  | _ => none }
def TrustSaysWrongFalsely : Prop := trustSaysRow.holds Tryd.pinned (OpenSpec.ofChange trustSaysWrong)

/-- 'wainwrightlaw.TrustCounts': WHATEVER THE INPUT: true; the input reads as it did. -/
def trustCountsSpec : ChangeSpec := { name := "trustCounts", fn := fun _ => fun
  | [d1, d2, d3, d4, d5, d6] => { results := [.lit (.bool true)], args := [d1, d2, d3, d4, d5, d6] }
  | _ => none }
def trustCountsRow : OpenClaim := { program := "ytlbppjmekiemiabdoor", sum := "2c37e1d4deeb04eafd9d0fcd973f93f741531c0843c4f1d2a20e885734186f24", func := "wainwright/wainwrightlaw.TrustCounts", spec := "trustCounts", inPlace := ["internal/abi.NoEscape", "internal/bytealg.MakeNoZero"], unfollowed := true, recurses := true, named := ["internal/strconv.uint64pow10", "math/bits.deBruijn32tab", "math/bits.deBruijn64tab"], apart := false, laid := [("math/bits.deBruijn32tab", laid_math_bits_deBruijn32tab), ("math/bits.deBruijn64tab", laid_math_bits_deBruijn64tab), ("internal/strconv.uint64pow10", laid_internal_strconv_uint64pow10)] }
def TrustCountsSaid : Prop := trustCountsRow.holds Tryd.pinned (OpenSpec.ofChange trustCountsSpec)

/-- ITS FALSE NEIGHBOUR: 'it returns false'. Refute it at one input. -/
def trustCountsWrong : ChangeSpec := { name := "trustCounts", fn := fun _ => fun
  | [d1, d2, d3, d4, d5, d6] => { results := [.lit (.bool false)], args := [d1, d2, d3, d4, d5, d6] }
  | _ => none }
def TrustCountsWrongFalsely : Prop := trustCountsRow.holds Tryd.pinned (OpenSpec.ofChange trustCountsWrong)

/-- 'wainwrightlaw.UnitDown': WHATEVER THE INPUT: true; the input reads as it did. -/
def unitDownSpec : ChangeSpec := { name := "unitDown", fn := fun _ => fun
  | [d1, d2, d3] => { results := [.lit (.bool true)], args := [d1, d2, d3] }
  | _ => none }
def unitDownRow : OpenClaim := { program := "ytlbppjmekiemiabdoor", sum := "2c37e1d4deeb04eafd9d0fcd973f93f741531c0843c4f1d2a20e885734186f24", func := "wainwright/wainwrightlaw.UnitDown", spec := "unitDown", inPlace := ["internal/abi.NoEscape", "internal/bytealg.MakeNoZero"], unfollowed := true, recurses := true, named := ["internal/strconv.uint64pow10", "math/bits.deBruijn32tab", "math/bits.deBruijn64tab"], apart := false, laid := [("math/bits.deBruijn32tab", laid_math_bits_deBruijn32tab), ("math/bits.deBruijn64tab", laid_math_bits_deBruijn64tab), ("internal/strconv.uint64pow10", laid_internal_strconv_uint64pow10)] }
def UnitDownSaid : Prop := unitDownRow.holds Tryd.pinned (OpenSpec.ofChange unitDownSpec)

/-- ITS FALSE NEIGHBOUR: 'it returns false'. Refute it at one input. -/
def unitDownWrong : ChangeSpec := { name := "unitDown", fn := fun _ => fun
  | [d1, d2, d3] => { results := [.lit (.bool false)], args := [d1, d2, d3] }
  | _ => none }
def UnitDownWrongFalsely : Prop := unitDownRow.holds Tryd.pinned (OpenSpec.ofChange unitDownWrong)

/-- 'wainwrightlaw.UnitHolds': WHATEVER THE INPUT: true; the input reads as it did. -/
def unitHoldsSpec : ChangeSpec := { name := "unitHolds", fn := fun _ => fun
  | [d1, d2, d3, d4] => { results := [.lit (.bool true)], args := [d1, d2, d3, d4] }
  | _ => none }
def unitHoldsRow : OpenClaim := { program := "ytlbppjmekiemiabdoor", sum := "2c37e1d4deeb04eafd9d0fcd973f93f741531c0843c4f1d2a20e885734186f24", func := "wainwright/wainwrightlaw.UnitHolds", spec := "unitHolds", inPlace := ["internal/abi.NoEscape", "internal/bytealg.MakeNoZero"], unfollowed := true, recurses := true, named := ["internal/strconv.uint64pow10", "math/bits.deBruijn32tab", "math/bits.deBruijn64tab"], apart := false, laid := [("math/bits.deBruijn32tab", laid_math_bits_deBruijn32tab), ("math/bits.deBruijn64tab", laid_math_bits_deBruijn64tab), ("internal/strconv.uint64pow10", laid_internal_strconv_uint64pow10)] }
def UnitHoldsSaid : Prop := unitHoldsRow.holds Tryd.pinned (OpenSpec.ofChange unitHoldsSpec)

/-- ITS FALSE NEIGHBOUR: 'it returns false'. Refute it at one input. -/
def unitHoldsWrong : ChangeSpec := { name := "unitHolds", fn := fun _ => fun
  | [d1, d2, d3, d4] => { results := [.lit (.bool false)], args := [d1, d2, d3, d4] }
  | _ => none }
def UnitHoldsWrongFalsely : Prop := unitHoldsRow.holds Tryd.pinned (OpenSpec.ofChange unitHoldsWrong)

/-- 'wainwrightlaw.UnitPieces': WHATEVER THE INPUT: true; the input reads as it did. -/
def unitPiecesSpec : ChangeSpec := { name := "unitPieces", fn := fun _ => fun
  | [d1, d2, d3, d4, d5] => { results := [.lit (.bool true)], args := [d1, d2, d3, d4, d5] }
  | _ => none }
def unitPiecesRow : OpenClaim := { program := "ytlbppjmekiemiabdoor", sum := "2c37e1d4deeb04eafd9d0fcd973f93f741531c0843c4f1d2a20e885734186f24", func := "wainwright/wainwrightlaw.UnitPieces", spec := "unitPieces", inPlace := ["internal/abi.NoEscape", "internal/bytealg.MakeNoZero"], unfollowed := true, recurses := true, named := ["internal/strconv.uint64pow10", "math/bits.deBruijn32tab", "math/bits.deBruijn64tab"], apart := false, laid := [("math/bits.deBruijn32tab", laid_math_bits_deBruijn32tab), ("math/bits.deBruijn64tab", laid_math_bits_deBruijn64tab), ("internal/strconv.uint64pow10", laid_internal_strconv_uint64pow10)] }
def UnitPiecesSaid : Prop := unitPiecesRow.holds Tryd.pinned (OpenSpec.ofChange unitPiecesSpec)

/-- ITS FALSE NEIGHBOUR: 'it returns false'. Refute it at one input. -/
def unitPiecesWrong : ChangeSpec := { name := "unitPieces", fn := fun _ => fun
  | [d1, d2, d3, d4, d5] => { results := [.lit (.bool false)], args := [d1, d2, d3, d4, d5] }
  | _ => none }
def UnitPiecesWrongFalsely : Prop := unitPiecesRow.holds Tryd.pinned (OpenSpec.ofChange unitPiecesWrong)

/-- 'wainwrightlaw.UnitReady': WHATEVER THE INPUT: true; the input reads as it did. -/
def unitReadySpec : ChangeSpec := { name := "unitReady", fn := fun _ => fun
  | [d1, d2, d3] => { results := [.lit (.bool true)], args := [d1, d2, d3] }
  | _ => none }
def unitReadyRow : OpenClaim := { program := "ytlbppjmekiemiabdoor", sum := "2c37e1d4deeb04eafd9d0fcd973f93f741531c0843c4f1d2a20e885734186f24", func := "wainwright/wainwrightlaw.UnitReady", spec := "unitReady", inPlace := ["internal/abi.NoEscape", "internal/bytealg.MakeNoZero"], unfollowed := true, recurses := true, named := ["internal/strconv.uint64pow10", "math/bits.deBruijn32tab", "math/bits.deBruijn64tab"], apart := false, laid := [("math/bits.deBruijn32tab", laid_math_bits_deBruijn32tab), ("math/bits.deBruijn64tab", laid_math_bits_deBruijn64tab), ("internal/strconv.uint64pow10", laid_internal_strconv_uint64pow10)] }
def UnitReadySaid : Prop := unitReadyRow.holds Tryd.pinned (OpenSpec.ofChange unitReadySpec)

/-- ITS FALSE NEIGHBOUR: 'it returns false'. Refute it at one input. -/
def unitReadyWrong : ChangeSpec := { name := "unitReady", fn := fun _ => fun
  | [d1, d2, d3] => { results := [.lit (.bool false)], args := [d1, d2, d3] }
  | _ => none }
def UnitReadyWrongFalsely : Prop := unitReadyRow.holds Tryd.pinned (OpenSpec.ofChange unitReadyWrong)

/-- 'wainwrightlaw.UnitTwice': WHATEVER THE INPUT: true; the input reads as it did. -/
def unitTwiceSpec : ChangeSpec := { name := "unitTwice", fn := fun _ => fun
  | [d1, d2, d3] => { results := [.lit (.bool true)], args := [d1, d2, d3] }
  | _ => none }
def unitTwiceRow : OpenClaim := { program := "ytlbppjmekiemiabdoor", sum := "2c37e1d4deeb04eafd9d0fcd973f93f741531c0843c4f1d2a20e885734186f24", func := "wainwright/wainwrightlaw.UnitTwice", spec := "unitTwice", inPlace := ["internal/abi.NoEscape", "internal/bytealg.MakeNoZero"], unfollowed := true, recurses := true, named := ["internal/strconv.uint64pow10", "math/bits.deBruijn32tab", "math/bits.deBruijn64tab"], apart := false, laid := [("math/bits.deBruijn32tab", laid_math_bits_deBruijn32tab), ("math/bits.deBruijn64tab", laid_math_bits_deBruijn64tab), ("internal/strconv.uint64pow10", laid_internal_strconv_uint64pow10)] }
def UnitTwiceSaid : Prop := unitTwiceRow.holds Tryd.pinned (OpenSpec.ofChange unitTwiceSpec)

/-- ITS FALSE NEIGHBOUR: 'it returns false'. Refute it at one input. -/
def unitTwiceWrong : ChangeSpec := { name := "unitTwice", fn := fun _ => fun
  | [d1, d2, d3] => { results := [.lit (.bool false)], args := [d1, d2, d3] }
  | _ => none }
def UnitTwiceWrongFalsely : Prop := unitTwiceRow.holds Tryd.pinned (OpenSpec.ofChange unitTwiceWrong)

/- THE SECOND FORM. 'bulk': how many values and letters a reading holds, each counted each time it is reached (what is shared counts as often as it is met; a slice's spare places count too). A statement '..UptoSaid' is the law's where the arguments, and the package variables that the reading takes, are together of bulk at most 1048576: NARROWER than '..Said'. Prove '..Said' where nothing that the law and all that it calls make is longer than what came in: it says more and counts as full. Else prove '..UptoSaid'. A law counts once. -/
mutual
def uptoBulk {H : Type} : DataW H → Nat
  | .lit (.string bytes) => bytes.length + 1
  | .lit _ => 1
  | .nil => 1
  | .ptr d => uptoBulk d + 1
  | .slice elems spare => uptoBulkAll elems + uptoBulkAll spare + 1
  | .agg parts => uptoBulkAll parts + 1
  | .iface _ d => uptoBulk d + 1
  | .map entries => uptoBulkEntries entries + 1
  | .held _ => 1
def uptoBulkAll {H : Type} : List (DataW H) → Nat
  | [] => 0
  | d :: r => uptoBulk d + uptoBulkAll r
def uptoBulkEntries {H : Type} : List (Lit × DataW H) → Nat
  | [] => 0
  | x :: r => uptoBulkEntry x + uptoBulkEntries r
def uptoBulkEntry {H : Type} : Lit × DataW H → Nat
  | (.string bytes, d) => bytes.length + uptoBulk d + 1
  | (_, d) => uptoBulk d + 1
 end
def uptoSmall : (H : Type) → List (DataW H) → Bool := fun _ ds => decide (uptoBulkAll ds ≤ 1048576)
def OpenSpec.upto (s : _root_.Go.ChangeSpec) : _root_.Go.OpenSpec := { _root_.Go.OpenSpec.ofChange s with cond := some uptoSmall }

/-- 'wainwrightlaw.MetaApart', WHERE WHAT IT READS IS OF BULK AT MOST 1048576: true; the input reads as it did. -/
def metaApartUptoRow : OpenClaim := { program := "ytlbppjmekiemiabdoor", sum := "2c37e1d4deeb04eafd9d0fcd973f93f741531c0843c4f1d2a20e885734186f24", func := "wainwright/wainwrightlaw.MetaApart", spec := "metaApart", inPlace := ["internal/abi.NoEscape", "internal/bytealg.MakeNoZero"], named := ["internal/strconv.uint64pow10", "math/bits.deBruijn32tab", "math/bits.deBruijn64tab"], apart := false, laid := [("math/bits.deBruijn32tab", laid_math_bits_deBruijn32tab), ("math/bits.deBruijn64tab", laid_math_bits_deBruijn64tab), ("internal/strconv.uint64pow10", laid_internal_strconv_uint64pow10)], narrowed := true }
def MetaApartUptoSaid : Prop := metaApartUptoRow.holds Tryd.pinned (OpenSpec.upto metaApartSpec)

/-- 'wainwrightlaw.MetaNames', WHERE WHAT IT READS IS OF BULK AT MOST 1048576: true; the input reads as it did. -/
def metaNamesUptoRow : OpenClaim := { program := "ytlbppjmekiemiabdoor", sum := "2c37e1d4deeb04eafd9d0fcd973f93f741531c0843c4f1d2a20e885734186f24", func := "wainwright/wainwrightlaw.MetaNames", spec := "metaNames", inPlace := ["internal/abi.NoEscape", "internal/bytealg.MakeNoZero"], unfollowed := true, recurses := true, named := ["internal/strconv.uint64pow10", "math/bits.deBruijn32tab", "math/bits.deBruijn64tab"], apart := false, laid := [("math/bits.deBruijn32tab", laid_math_bits_deBruijn32tab), ("math/bits.deBruijn64tab", laid_math_bits_deBruijn64tab), ("internal/strconv.uint64pow10", laid_internal_strconv_uint64pow10)], narrowed := true }
def MetaNamesUptoSaid : Prop := metaNamesUptoRow.holds Tryd.pinned (OpenSpec.upto metaNamesSpec)

/-- 'wainwrightlaw.TrustRises', WHERE WHAT IT READS IS OF BULK AT MOST 1048576: true; the input reads as it did. -/
def trustRisesUptoRow : OpenClaim := { program := "ytlbppjmekiemiabdoor", sum := "2c37e1d4deeb04eafd9d0fcd973f93f741531c0843c4f1d2a20e885734186f24", func := "wainwright/wainwrightlaw.TrustRises", spec := "trustRises", inPlace := ["internal/abi.NoEscape", "internal/bytealg.MakeNoZero"], unfollowed := true, recurses := true, named := ["internal/strconv.uint64pow10", "math/bits.deBruijn32tab", "math/bits.deBruijn64tab"], apart := false, laid := [("math/bits.deBruijn32tab", laid_math_bits_deBruijn32tab), ("math/bits.deBruijn64tab", laid_math_bits_deBruijn64tab), ("internal/strconv.uint64pow10", laid_internal_strconv_uint64pow10)], narrowed := true }
def TrustRisesUptoSaid : Prop := trustRisesUptoRow.holds Tryd.pinned (OpenSpec.upto trustRisesSpec)

/-- 'wainwrightlaw.TrustSays', WHERE WHAT IT READS IS OF BULK AT MOST 1048576: true; the input reads as it did. -/
def trustSaysUptoRow : OpenClaim := { program := "ytlbppjmekiemiabdoor", sum := "2c37e1d4deeb04eafd9d0fcd973f93f741531c0843c4f1d2a20e885734186f24", func := "wainwright/wainwrightlaw.TrustSays", spec := "trustSays", inPlace := ["internal/abi.NoEscape", "internal/bytealg.MakeNoZero"], unfollowed := true, recurses := true, named := ["internal/strconv.uint64pow10", "math/bits.deBruijn32tab", "math/bits.deBruijn64tab"], apart := false, laid := [("math/bits.deBruijn32tab", laid_math_bits_deBruijn32tab), ("math/bits.deBruijn64tab", laid_math_bits_deBruijn64tab), ("internal/strconv.uint64pow10", laid_internal_strconv_uint64pow10)], narrowed := true }
def TrustSaysUptoSaid : Prop := trustSaysUptoRow.holds Tryd.pinned (OpenSpec.upto trustSaysSpec)

/-- 'wainwrightlaw.TrustCounts', WHERE WHAT IT READS IS OF BULK AT MOST 1048576: true; the input reads as it did. -/
def trustCountsUptoRow : OpenClaim := { program := "ytlbppjmekiemiabdoor", sum := "2c37e1d4deeb04eafd9d0fcd973f93f741531c0843c4f1d2a20e885734186f24", func := "wainwright/wainwrightlaw.TrustCounts", spec := "trustCounts", inPlace := ["internal/abi.NoEscape", "internal/bytealg.MakeNoZero"], unfollowed := true, recurses := true, named := ["internal/strconv.uint64pow10", "math/bits.deBruijn32tab", "math/bits.deBruijn64tab"], apart := false, laid := [("math/bits.deBruijn32tab", laid_math_bits_deBruijn32tab), ("math/bits.deBruijn64tab", laid_math_bits_deBruijn64tab), ("internal/strconv.uint64pow10", laid_internal_strconv_uint64pow10)], narrowed := true }
def TrustCountsUptoSaid : Prop := trustCountsUptoRow.holds Tryd.pinned (OpenSpec.upto trustCountsSpec)

/-- 'wainwrightlaw.UnitDown', WHERE WHAT IT READS IS OF BULK AT MOST 1048576: true; the input reads as it did. -/
def unitDownUptoRow : OpenClaim := { program := "ytlbppjmekiemiabdoor", sum := "2c37e1d4deeb04eafd9d0fcd973f93f741531c0843c4f1d2a20e885734186f24", func := "wainwright/wainwrightlaw.UnitDown", spec := "unitDown", inPlace := ["internal/abi.NoEscape", "internal/bytealg.MakeNoZero"], unfollowed := true, recurses := true, named := ["internal/strconv.uint64pow10", "math/bits.deBruijn32tab", "math/bits.deBruijn64tab"], apart := false, laid := [("math/bits.deBruijn32tab", laid_math_bits_deBruijn32tab), ("math/bits.deBruijn64tab", laid_math_bits_deBruijn64tab), ("internal/strconv.uint64pow10", laid_internal_strconv_uint64pow10)], narrowed := true }
def UnitDownUptoSaid : Prop := unitDownUptoRow.holds Tryd.pinned (OpenSpec.upto unitDownSpec)

/-- 'wainwrightlaw.UnitHolds', WHERE WHAT IT READS IS OF BULK AT MOST 1048576: true; the input reads as it did. -/
def unitHoldsUptoRow : OpenClaim := { program := "ytlbppjmekiemiabdoor", sum := "2c37e1d4deeb04eafd9d0fcd973f93f741531c0843c4f1d2a20e885734186f24", func := "wainwright/wainwrightlaw.UnitHolds", spec := "unitHolds", inPlace := ["internal/abi.NoEscape", "internal/bytealg.MakeNoZero"], unfollowed := true, recurses := true, named := ["internal/strconv.uint64pow10", "math/bits.deBruijn32tab", "math/bits.deBruijn64tab"], apart := false, laid := [("math/bits.deBruijn32tab", laid_math_bits_deBruijn32tab), ("math/bits.deBruijn64tab", laid_math_bits_deBruijn64tab), ("internal/strconv.uint64pow10", laid_internal_strconv_uint64pow10)], narrowed := true }
def UnitHoldsUptoSaid : Prop := unitHoldsUptoRow.holds Tryd.pinned (OpenSpec.upto unitHoldsSpec)

/-- 'wainwrightlaw.UnitPieces', WHERE WHAT IT READS IS OF BULK AT MOST 1048576: true; the input reads as it did. -/
def unitPiecesUptoRow : OpenClaim := { program := "ytlbppjmekiemiabdoor", sum := "2c37e1d4deeb04eafd9d0fcd973f93f741531c0843c4f1d2a20e885734186f24", func := "wainwright/wainwrightlaw.UnitPieces", spec := "unitPieces", inPlace := ["internal/abi.NoEscape", "internal/bytealg.MakeNoZero"], unfollowed := true, recurses := true, named := ["internal/strconv.uint64pow10", "math/bits.deBruijn32tab", "math/bits.deBruijn64tab"], apart := false, laid := [("math/bits.deBruijn32tab", laid_math_bits_deBruijn32tab), ("math/bits.deBruijn64tab", laid_math_bits_deBruijn64tab), ("internal/strconv.uint64pow10", laid_internal_strconv_uint64pow10)], narrowed := true }
def UnitPiecesUptoSaid : Prop := unitPiecesUptoRow.holds Tryd.pinned (OpenSpec.upto unitPiecesSpec)

/-- 'wainwrightlaw.UnitReady', WHERE WHAT IT READS IS OF BULK AT MOST 1048576: true; the input reads as it did. -/
def unitReadyUptoRow : OpenClaim := { program := "ytlbppjmekiemiabdoor", sum := "2c37e1d4deeb04eafd9d0fcd973f93f741531c0843c4f1d2a20e885734186f24", func := "wainwright/wainwrightlaw.UnitReady", spec := "unitReady", inPlace := ["internal/abi.NoEscape", "internal/bytealg.MakeNoZero"], unfollowed := true, recurses := true, named := ["internal/strconv.uint64pow10", "math/bits.deBruijn32tab", "math/bits.deBruijn64tab"], apart := false, laid := [("math/bits.deBruijn32tab", laid_math_bits_deBruijn32tab), ("math/bits.deBruijn64tab", laid_math_bits_deBruijn64tab), ("internal/strconv.uint64pow10", laid_internal_strconv_uint64pow10)], narrowed := true }
def UnitReadyUptoSaid : Prop := unitReadyUptoRow.holds Tryd.pinned (OpenSpec.upto unitReadySpec)

/-- 'wainwrightlaw.UnitTwice', WHERE WHAT IT READS IS OF BULK AT MOST 1048576: true; the input reads as it did. -/
def unitTwiceUptoRow : OpenClaim := { program := "ytlbppjmekiemiabdoor", sum := "2c37e1d4deeb04eafd9d0fcd973f93f741531c0843c4f1d2a20e885734186f24", func := "wainwright/wainwrightlaw.UnitTwice", spec := "unitTwice", inPlace := ["internal/abi.NoEscape", "internal/bytealg.MakeNoZero"], unfollowed := true, recurses := true, named := ["internal/strconv.uint64pow10", "math/bits.deBruijn32tab", "math/bits.deBruijn64tab"], apart := false, laid := [("math/bits.deBruijn32tab", laid_math_bits_deBruijn32tab), ("math/bits.deBruijn64tab", laid_math_bits_deBruijn64tab), ("internal/strconv.uint64pow10", laid_internal_strconv_uint64pow10)], narrowed := true }
def UnitTwiceUptoSaid : Prop := unitTwiceUptoRow.holds Tryd.pinned (OpenSpec.upto unitTwiceSpec)

end Rows
end Go.Proofs.YtlbppjmekiemiabDoor
