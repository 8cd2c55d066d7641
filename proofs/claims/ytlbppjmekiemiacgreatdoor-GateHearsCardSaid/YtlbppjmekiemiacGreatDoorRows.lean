/-
  NARROWER THAN 'FOR EVERY INPUT', by the rows' own cells (each row's printed sentence says how): UnitSays: laid · GateHears: laid · GateSays: laid · VehicleTakes: laid · VehicleEnds: laid · VehicleGoes: laid · VehicleHolds: laid.
  DERIVED. THE GIVEN ROWS OF THIS SEAT. 7 by the template 'for every input the law returns true; each argument reads behind the call as it read before'; 0 by the template 'total and deterministic' (their statements: YtlbppjmekiemiacGreatDoorTotals.lean).
  GIVEN WITH THE SEED: the statements are not yours to turn. If you find one false, say at which input.
  Laid BY PROGRAM, IN A SANDBOX (cutbox-rows.mjs): the forced cells as the released guide's own fill.sh prints them over the translation ecbf5b25882547de… (all of the seat's roots in one cut). By AI agents, Wed Nov 11 2026. No macro, syntax, notation, axiom, sorry.
-/
import Derived.Test.YtlbppjmekiemiacGreatDoorChecked
import GoSem.Claim
import GoSem.ClaimJoined
import GoSem.ClaimMapViews
import Derived.JoinedTies
import Derived.KernelRfl
namespace Go.Proofs.YtlbppjmekiemiacGreatDoor
/- THE CELL 'sum', in the pinned program and in every row, IS THE sha256 OF THE DUMP (.gsa) THAT YtlbppjmekiemiacGreatDoorProg.lean LOADS. Nothing in Lean hashes anything: it is a label: what it is worth is what the hold of that sum in a sandbox is worth. -/
noncomputable def Tryz.pinned : Pinned := { name := "ytlbppjmekiemiacgreatdoor", sum := "ecbf5b25882547de2cabf18f9073d5ec0db2007f4bc0dd8af4ff839a27c8d47b", checked := Tryz.checked }
namespace Rows
def none {H : Type} : Left H := { results := [], args := [] }

/- WHAT THE LISTED PACKAGE-LEVEL VARIABLES READ AS WHEN THE CALL BEGINS. Each datum BY PROGRAM (the guide's laid-datum.mjs) off the statement by which the dump's own 'gosem.cut.vars' lays the variable. In a bare row this is a premise. The card (YtlbppjmekiemiacGreatDoorCards.lean) ties it to the program's text. -/
def laid_math_bits_deBruijn32tab {H : Type} : DataW H := .agg [.lit (.int .u8 0), .lit (.int .u8 1), .lit (.int .u8 28), .lit (.int .u8 2), .lit (.int .u8 29), .lit (.int .u8 14), .lit (.int .u8 24), .lit (.int .u8 3), .lit (.int .u8 30), .lit (.int .u8 22), .lit (.int .u8 20), .lit (.int .u8 15), .lit (.int .u8 25), .lit (.int .u8 17), .lit (.int .u8 4), .lit (.int .u8 8), .lit (.int .u8 31), .lit (.int .u8 27), .lit (.int .u8 13), .lit (.int .u8 23), .lit (.int .u8 21), .lit (.int .u8 19), .lit (.int .u8 16), .lit (.int .u8 7), .lit (.int .u8 26), .lit (.int .u8 12), .lit (.int .u8 18), .lit (.int .u8 6), .lit (.int .u8 11), .lit (.int .u8 5), .lit (.int .u8 10), .lit (.int .u8 9)]
def laid_math_bits_deBruijn64tab {H : Type} : DataW H := .agg [.lit (.int .u8 0), .lit (.int .u8 1), .lit (.int .u8 56), .lit (.int .u8 2), .lit (.int .u8 57), .lit (.int .u8 49), .lit (.int .u8 28), .lit (.int .u8 3), .lit (.int .u8 61), .lit (.int .u8 58), .lit (.int .u8 42), .lit (.int .u8 50), .lit (.int .u8 38), .lit (.int .u8 29), .lit (.int .u8 17), .lit (.int .u8 4), .lit (.int .u8 62), .lit (.int .u8 47), .lit (.int .u8 59), .lit (.int .u8 36), .lit (.int .u8 45), .lit (.int .u8 43), .lit (.int .u8 51), .lit (.int .u8 22), .lit (.int .u8 53), .lit (.int .u8 39), .lit (.int .u8 33), .lit (.int .u8 30), .lit (.int .u8 24), .lit (.int .u8 18), .lit (.int .u8 12), .lit (.int .u8 5), .lit (.int .u8 63), .lit (.int .u8 55), .lit (.int .u8 48), .lit (.int .u8 27), .lit (.int .u8 60), .lit (.int .u8 41), .lit (.int .u8 37), .lit (.int .u8 16), .lit (.int .u8 46), .lit (.int .u8 35), .lit (.int .u8 44), .lit (.int .u8 21), .lit (.int .u8 52), .lit (.int .u8 32), .lit (.int .u8 23), .lit (.int .u8 11), .lit (.int .u8 54), .lit (.int .u8 26), .lit (.int .u8 40), .lit (.int .u8 15), .lit (.int .u8 34), .lit (.int .u8 20), .lit (.int .u8 31), .lit (.int .u8 10), .lit (.int .u8 25), .lit (.int .u8 14), .lit (.int .u8 19), .lit (.int .u8 9), .lit (.int .u8 13), .lit (.int .u8 8), .lit (.int .u8 7), .lit (.int .u8 6)]
def laid_internal_strconv_uint64pow10 {H : Type} : DataW H := .agg [.lit (.int .u64 1), .lit (.int .u64 10), .lit (.int .u64 100), .lit (.int .u64 1000), .lit (.int .u64 10000), .lit (.int .u64 100000), .lit (.int .u64 1000000), .lit (.int .u64 10000000), .lit (.int .u64 100000000), .lit (.int .u64 1000000000), .lit (.int .u64 10000000000), .lit (.int .u64 100000000000), .lit (.int .u64 1000000000000), .lit (.int .u64 10000000000000), .lit (.int .u64 100000000000000), .lit (.int .u64 1000000000000000), .lit (.int .u64 10000000000000000), .lit (.int .u64 100000000000000000), .lit (.int .u64 1000000000000000000), .lit (.int .u64 10000000000000000000)]

/-- 'wainwrightlaw.UnitSays': WHATEVER THE INPUT: true; the input reads as it did. -/
def unitSaysSpec : ChangeSpec := { name := "unitSays", fn := fun _ => fun
  | [d1, d2, d3, d4, d5] => { results := [.lit (.bool true)], args := [d1, d2, d3, d4, d5] }
  | _ => none }
def unitSaysRow : OpenClaim := { program := "ytlbppjmekiemiacgreatdoor", sum := "ecbf5b25882547de2cabf18f9073d5ec0db2007f4bc0dd8af4ff839a27c8d47b", func := "wainwright/wainwrightlaw.UnitSays", spec := "unitSays", inPlace := ["internal/abi.NoEscape", "internal/bytealg.MakeNoZero"], unfollowed := true, recurses := true, named := ["internal/strconv.uint64pow10", "math/bits.deBruijn32tab", "math/bits.deBruijn64tab"], apart := false, laid := [("math/bits.deBruijn32tab", laid_math_bits_deBruijn32tab), ("math/bits.deBruijn64tab", laid_math_bits_deBruijn64tab), ("internal/strconv.uint64pow10", laid_internal_strconv_uint64pow10)] }
def UnitSaysSaid : Prop := unitSaysRow.holds Tryz.pinned (OpenSpec.ofChange unitSaysSpec)

/-- ITS FALSE NEIGHBOUR: 'it returns false'. Refute it at one input. -/
def unitSaysWrong : ChangeSpec := { name := "unitSays", fn := fun _ => fun
  | [d1, d2, d3, d4, d5] => { results := [.lit (.bool false)], args := [d1, d2, d3, d4, d5] }
  | _ => none }
def UnitSaysWrongFalsely : Prop := unitSaysRow.holds Tryz.pinned (OpenSpec.ofChange unitSaysWrong)

/-- 'wainwrightlaw.GateHears': WHATEVER THE INPUT: true; the input reads as it did. -/
def gateHearsSpec : ChangeSpec := { name := "gateHears", fn := fun _ => fun
  | [d1, d2, d3, d4] => { results := [.lit (.bool true)], args := [d1, d2, d3, d4] }
  | _ => none }
def gateHearsRow : OpenClaim := { program := "ytlbppjmekiemiacgreatdoor", sum := "ecbf5b25882547de2cabf18f9073d5ec0db2007f4bc0dd8af4ff839a27c8d47b", func := "wainwright/wainwrightlaw.GateHears", spec := "gateHears", inPlace := ["internal/abi.NoEscape", "internal/bytealg.MakeNoZero"], unfollowed := true, recurses := true, named := ["internal/strconv.uint64pow10", "math/bits.deBruijn32tab", "math/bits.deBruijn64tab"], apart := false, laid := [("math/bits.deBruijn32tab", laid_math_bits_deBruijn32tab), ("math/bits.deBruijn64tab", laid_math_bits_deBruijn64tab), ("internal/strconv.uint64pow10", laid_internal_strconv_uint64pow10)] }
def GateHearsSaid : Prop := gateHearsRow.holds Tryz.pinned (OpenSpec.ofChange gateHearsSpec)

/-- ITS FALSE NEIGHBOUR: 'it returns false'. Refute it at one input. -/
def gateHearsWrong : ChangeSpec := { name := "gateHears", fn := fun _ => fun
  | [d1, d2, d3, d4] => { results := [.lit (.bool false)], args := [d1, d2, d3, d4] }
  | _ => none }
def GateHearsWrongFalsely : Prop := gateHearsRow.holds Tryz.pinned (OpenSpec.ofChange gateHearsWrong)

/-- 'wainwrightlaw.GateSays': WHATEVER THE INPUT: true; the input reads as it did. -/
def gateSaysSpec : ChangeSpec := { name := "gateSays", fn := fun _ => fun
  | [d1, d2, d3, d4, d5, d6, d7] => { results := [.lit (.bool true)], args := [d1, d2, d3, d4, d5, d6, d7] }
  | _ => none }
def gateSaysRow : OpenClaim := { program := "ytlbppjmekiemiacgreatdoor", sum := "ecbf5b25882547de2cabf18f9073d5ec0db2007f4bc0dd8af4ff839a27c8d47b", func := "wainwright/wainwrightlaw.GateSays", spec := "gateSays", inPlace := ["internal/abi.NoEscape", "internal/bytealg.MakeNoZero"], unfollowed := true, recurses := true, named := ["internal/strconv.uint64pow10", "math/bits.deBruijn32tab", "math/bits.deBruijn64tab"], apart := false, laid := [("math/bits.deBruijn32tab", laid_math_bits_deBruijn32tab), ("math/bits.deBruijn64tab", laid_math_bits_deBruijn64tab), ("internal/strconv.uint64pow10", laid_internal_strconv_uint64pow10)] }
def GateSaysSaid : Prop := gateSaysRow.holds Tryz.pinned (OpenSpec.ofChange gateSaysSpec)

/-- ITS FALSE NEIGHBOUR: 'it returns false'. Refute it at one input. -/
def gateSaysWrong : ChangeSpec := { name := "gateSays", fn := fun _ => fun
  | [d1, d2, d3, d4, d5, d6, d7] => { results := [.lit (.bool false)], args := [d1, d2, d3, d4, d5, d6, d7] }
  | _ => none }
def GateSaysWrongFalsely : Prop := gateSaysRow.holds Tryz.pinned (OpenSpec.ofChange gateSaysWrong)

/-- 'wainwrightlaw.VehicleTakes': WHATEVER THE INPUT: true; the input reads as it did. -/
def vehicleTakesSpec : ChangeSpec := { name := "vehicleTakes", fn := fun _ => fun
  | [d1, d2] => { results := [.lit (.bool true)], args := [d1, d2] }
  | _ => none }
def vehicleTakesRow : OpenClaim := { program := "ytlbppjmekiemiacgreatdoor", sum := "ecbf5b25882547de2cabf18f9073d5ec0db2007f4bc0dd8af4ff839a27c8d47b", func := "wainwright/wainwrightlaw.VehicleTakes", spec := "vehicleTakes", inPlace := ["internal/abi.NoEscape", "internal/bytealg.MakeNoZero"], unfollowed := true, recurses := true, named := ["internal/strconv.uint64pow10", "math/bits.deBruijn32tab", "math/bits.deBruijn64tab"], apart := false, laid := [("math/bits.deBruijn32tab", laid_math_bits_deBruijn32tab), ("math/bits.deBruijn64tab", laid_math_bits_deBruijn64tab), ("internal/strconv.uint64pow10", laid_internal_strconv_uint64pow10)] }
def VehicleTakesSaid : Prop := vehicleTakesRow.holds Tryz.pinned (OpenSpec.ofChange vehicleTakesSpec)

/-- ITS FALSE NEIGHBOUR: 'it returns false'. Refute it at one input. -/
def vehicleTakesWrong : ChangeSpec := { name := "vehicleTakes", fn := fun _ => fun
  | [d1, d2] => { results := [.lit (.bool false)], args := [d1, d2] }
  | _ => none }
def VehicleTakesWrongFalsely : Prop := vehicleTakesRow.holds Tryz.pinned (OpenSpec.ofChange vehicleTakesWrong)

/-- 'wainwrightlaw.VehicleEnds': WHATEVER THE INPUT: true; the input reads as it did. -/
def vehicleEndsSpec : ChangeSpec := { name := "vehicleEnds", fn := fun _ => fun
  | [d1, d2] => { results := [.lit (.bool true)], args := [d1, d2] }
  | _ => none }
def vehicleEndsRow : OpenClaim := { program := "ytlbppjmekiemiacgreatdoor", sum := "ecbf5b25882547de2cabf18f9073d5ec0db2007f4bc0dd8af4ff839a27c8d47b", func := "wainwright/wainwrightlaw.VehicleEnds", spec := "vehicleEnds", inPlace := ["internal/abi.NoEscape", "internal/bytealg.MakeNoZero"], unfollowed := true, recurses := true, named := ["internal/strconv.uint64pow10", "math/bits.deBruijn32tab", "math/bits.deBruijn64tab"], apart := false, laid := [("math/bits.deBruijn32tab", laid_math_bits_deBruijn32tab), ("math/bits.deBruijn64tab", laid_math_bits_deBruijn64tab), ("internal/strconv.uint64pow10", laid_internal_strconv_uint64pow10)] }
def VehicleEndsSaid : Prop := vehicleEndsRow.holds Tryz.pinned (OpenSpec.ofChange vehicleEndsSpec)

/-- ITS FALSE NEIGHBOUR: 'it returns false'. Refute it at one input. -/
def vehicleEndsWrong : ChangeSpec := { name := "vehicleEnds", fn := fun _ => fun
  | [d1, d2] => { results := [.lit (.bool false)], args := [d1, d2] }
  | _ => none }
def VehicleEndsWrongFalsely : Prop := vehicleEndsRow.holds Tryz.pinned (OpenSpec.ofChange vehicleEndsWrong)

/-- 'wainwrightlaw.VehicleGoes': WHATEVER THE INPUT: true; the input reads as it did. -/
def vehicleGoesSpec : ChangeSpec := { name := "vehicleGoes", fn := fun _ => fun
  | [d1, d2] => { results := [.lit (.bool true)], args := [d1, d2] }
  | _ => none }
def vehicleGoesRow : OpenClaim := { program := "ytlbppjmekiemiacgreatdoor", sum := "ecbf5b25882547de2cabf18f9073d5ec0db2007f4bc0dd8af4ff839a27c8d47b", func := "wainwright/wainwrightlaw.VehicleGoes", spec := "vehicleGoes", inPlace := ["internal/abi.NoEscape", "internal/bytealg.MakeNoZero"], unfollowed := true, recurses := true, named := ["internal/strconv.uint64pow10", "math/bits.deBruijn32tab", "math/bits.deBruijn64tab"], apart := false, laid := [("math/bits.deBruijn32tab", laid_math_bits_deBruijn32tab), ("math/bits.deBruijn64tab", laid_math_bits_deBruijn64tab), ("internal/strconv.uint64pow10", laid_internal_strconv_uint64pow10)] }
def VehicleGoesSaid : Prop := vehicleGoesRow.holds Tryz.pinned (OpenSpec.ofChange vehicleGoesSpec)

/-- ITS FALSE NEIGHBOUR: 'it returns false'. Refute it at one input. -/
def vehicleGoesWrong : ChangeSpec := { name := "vehicleGoes", fn := fun _ => fun
  | [d1, d2] => { results := [.lit (.bool false)], args := [d1, d2] }
  | _ => none }
def VehicleGoesWrongFalsely : Prop := vehicleGoesRow.holds Tryz.pinned (OpenSpec.ofChange vehicleGoesWrong)

/-- 'wainwrightlaw.VehicleHolds': WHATEVER THE INPUT: true; the input reads as it did. -/
def vehicleHoldsSpec : ChangeSpec := { name := "vehicleHolds", fn := fun _ => fun
  | [d1, d2] => { results := [.lit (.bool true)], args := [d1, d2] }
  | _ => none }
def vehicleHoldsRow : OpenClaim := { program := "ytlbppjmekiemiacgreatdoor", sum := "ecbf5b25882547de2cabf18f9073d5ec0db2007f4bc0dd8af4ff839a27c8d47b", func := "wainwright/wainwrightlaw.VehicleHolds", spec := "vehicleHolds", inPlace := ["internal/abi.NoEscape", "internal/bytealg.MakeNoZero"], unfollowed := true, recurses := true, named := ["internal/strconv.uint64pow10", "math/bits.deBruijn32tab", "math/bits.deBruijn64tab"], apart := false, laid := [("math/bits.deBruijn32tab", laid_math_bits_deBruijn32tab), ("math/bits.deBruijn64tab", laid_math_bits_deBruijn64tab), ("internal/strconv.uint64pow10", laid_internal_strconv_uint64pow10)] }
def VehicleHoldsSaid : Prop := vehicleHoldsRow.holds Tryz.pinned (OpenSpec.ofChange vehicleHoldsSpec)

/-- ITS FALSE NEIGHBOUR: 'it returns false'. Refute it at one input. -/
def vehicleHoldsWrong : ChangeSpec := { name := "vehicleHolds", fn := fun _ => fun
  | [d1, d2] => { results := [.lit (.bool false)], args := [d1, d2] }
  | _ => none }
def VehicleHoldsWrongFalsely : Prop := vehicleHoldsRow.holds Tryz.pinned (OpenSpec.ofChange vehicleHoldsWrong)

/- THE SECOND FORM. 'bulk': how many values and letters a reading holds, each counted each time it is reached (what is shared counts as often as it is met; a slice's spare places count too). A statement '..UptoSaid' is the law's where the arguments, and the package variables that the reading takes, are together of bulk at most 1048576: NARROWER than '..Said'. Prove '..Said' where nothing that the law and all that it calls make is longer than what came in: it says more and counts as full. Else prove '..UptoSaid'. A law counts once. -/
mutual
def uptoBulk {H : Type} : DataW H → Nat
  | .lit (.string bytes) => bytes.length + 1
  | .lit _ => 1
  | .nil => 1
  | .ptr d => uptoBulk d + 1
  | .slice elems spare => uptoBulkAll elems + uptoBulkAll spare + 1
  | .agg parts => uptoBulkAll parts + 1
  | .iface _ d => uptoBulk d + 1
  | .map entries => uptoBulkEntries entries + 1
  | .held _ => 1
def uptoBulkAll {H : Type} : List (DataW H) → Nat
  | [] => 0
  | d :: r => uptoBulk d + uptoBulkAll r
def uptoBulkEntries {H : Type} : List (Lit × DataW H) → Nat
  | [] => 0
  | x :: r => uptoBulkEntry x + uptoBulkEntries r
def uptoBulkEntry {H : Type} : Lit × DataW H → Nat
  | (.string bytes, d) => bytes.length + uptoBulk d + 1
  | (_, d) => uptoBulk d + 1
 end
def uptoSmall : (H : Type) → List (DataW H) → Bool := fun _ ds => decide (uptoBulkAll ds ≤ 1048576)
def OpenSpec.upto (s : _root_.Go.ChangeSpec) : _root_.Go.OpenSpec := { _root_.Go.OpenSpec.ofChange s with cond := some uptoSmall }

/-- 'wainwrightlaw.UnitSays', WHERE WHAT IT READS IS OF BULK AT MOST 1048576: true; the input reads as it did. -/
def unitSaysUptoRow : OpenClaim := { program := "ytlbppjmekiemiacgreatdoor", sum := "ecbf5b25882547de2cabf18f9073d5ec0db2007f4bc0dd8af4ff839a27c8d47b", func := "wainwright/wainwrightlaw.UnitSays", spec := "unitSays", inPlace := ["internal/abi.NoEscape", "internal/bytealg.MakeNoZero"], unfollowed := true, recurses := true, named := ["internal/strconv.uint64pow10", "math/bits.deBruijn32tab", "math/bits.deBruijn64tab"], apart := false, laid := [("math/bits.deBruijn32tab", laid_math_bits_deBruijn32tab), ("math/bits.deBruijn64tab", laid_math_bits_deBruijn64tab), ("internal/strconv.uint64pow10", laid_internal_strconv_uint64pow10)], narrowed := true }
def UnitSaysUptoSaid : Prop := unitSaysUptoRow.holds Tryz.pinned (OpenSpec.upto unitSaysSpec)

/-- 'wainwrightlaw.GateHears', WHERE WHAT IT READS IS OF BULK AT MOST 1048576: true; the input reads as it did. -/
def gateHearsUptoRow : OpenClaim := { program := "ytlbppjmekiemiacgreatdoor", sum := "ecbf5b25882547de2cabf18f9073d5ec0db2007f4bc0dd8af4ff839a27c8d47b", func := "wainwright/wainwrightlaw.GateHears", spec := "gateHears", inPlace := ["internal/abi.NoEscape", "internal/bytealg.MakeNoZero"], unfollowed := true, recurses := true, named := ["internal/strconv.uint64pow10", "math/bits.deBruijn32tab", "math/bits.deBruijn64tab"], apart := false, laid := [("math/bits.deBruijn32tab", laid_math_bits_deBruijn32tab), ("math/bits.deBruijn64tab", laid_math_bits_deBruijn64tab), ("internal/strconv.uint64pow10", laid_internal_strconv_uint64pow10)], narrowed := true }
def GateHearsUptoSaid : Prop := gateHearsUptoRow.holds Tryz.pinned (OpenSpec.upto gateHearsSpec)

/-- 'wainwrightlaw.GateSays', WHERE WHAT IT READS IS OF BULK AT MOST 1048576: true; the input reads as it did. -/
def gateSaysUptoRow : OpenClaim := { program := "ytlbppjmekiemiacgreatdoor", sum := "ecbf5b25882547de2cabf18f9073d5ec0db2007f4bc0dd8af4ff839a27c8d47b", func := "wainwright/wainwrightlaw.GateSays", spec := "gateSays", inPlace := ["internal/abi.NoEscape", "internal/bytealg.MakeNoZero"], unfollowed := true, recurses := true, named := ["internal/strconv.uint64pow10", "math/bits.deBruijn32tab", "math/bits.deBruijn64tab"], apart := false, laid := [("math/bits.deBruijn32tab", laid_math_bits_deBruijn32tab), ("math/bits.deBruijn64tab", laid_math_bits_deBruijn64tab), ("internal/strconv.uint64pow10", laid_internal_strconv_uint64pow10)], narrowed := true }
def GateSaysUptoSaid : Prop := gateSaysUptoRow.holds Tryz.pinned (OpenSpec.upto gateSaysSpec)

/-- 'wainwrightlaw.VehicleTakes', WHERE WHAT IT READS IS OF BULK AT MOST 1048576: true; the input reads as it did. -/
def vehicleTakesUptoRow : OpenClaim := { program := "ytlbppjmekiemiacgreatdoor", sum := "ecbf5b25882547de2cabf18f9073d5ec0db2007f4bc0dd8af4ff839a27c8d47b", func := "wainwright/wainwrightlaw.VehicleTakes", spec := "vehicleTakes", inPlace := ["internal/abi.NoEscape", "internal/bytealg.MakeNoZero"], unfollowed := true, recurses := true, named := ["internal/strconv.uint64pow10", "math/bits.deBruijn32tab", "math/bits.deBruijn64tab"], apart := false, laid := [("math/bits.deBruijn32tab", laid_math_bits_deBruijn32tab), ("math/bits.deBruijn64tab", laid_math_bits_deBruijn64tab), ("internal/strconv.uint64pow10", laid_internal_strconv_uint64pow10)], narrowed := true }
def VehicleTakesUptoSaid : Prop := vehicleTakesUptoRow.holds Tryz.pinned (OpenSpec.upto vehicleTakesSpec)

/-- 'wainwrightlaw.VehicleEnds', WHERE WHAT IT READS IS OF BULK AT MOST 1048576: true; the input reads as it did. -/
def vehicleEndsUptoRow : OpenClaim := { program := "ytlbppjmekiemiacgreatdoor", sum := "ecbf5b25882547de2cabf18f9073d5ec0db2007f4bc0dd8af4ff839a27c8d47b", func := "wainwright/wainwrightlaw.VehicleEnds", spec := "vehicleEnds", inPlace := ["internal/abi.NoEscape", "internal/bytealg.MakeNoZero"], unfollowed := true, recurses := true, named := ["internal/strconv.uint64pow10", "math/bits.deBruijn32tab", "math/bits.deBruijn64tab"], apart := false, laid := [("math/bits.deBruijn32tab", laid_math_bits_deBruijn32tab), ("math/bits.deBruijn64tab", laid_math_bits_deBruijn64tab), ("internal/strconv.uint64pow10", laid_internal_strconv_uint64pow10)], narrowed := true }
def VehicleEndsUptoSaid : Prop := vehicleEndsUptoRow.holds Tryz.pinned (OpenSpec.upto vehicleEndsSpec)

/-- 'wainwrightlaw.VehicleGoes', WHERE WHAT IT READS IS OF BULK AT MOST 1048576: true; the input reads as it did. -/
def vehicleGoesUptoRow : OpenClaim := { program := "ytlbppjmekiemiacgreatdoor", sum := "ecbf5b25882547de2cabf18f9073d5ec0db2007f4bc0dd8af4ff839a27c8d47b", func := "wainwright/wainwrightlaw.VehicleGoes", spec := "vehicleGoes", inPlace := ["internal/abi.NoEscape", "internal/bytealg.MakeNoZero"], unfollowed := true, recurses := true, named := ["internal/strconv.uint64pow10", "math/bits.deBruijn32tab", "math/bits.deBruijn64tab"], apart := false, laid := [("math/bits.deBruijn32tab", laid_math_bits_deBruijn32tab), ("math/bits.deBruijn64tab", laid_math_bits_deBruijn64tab), ("internal/strconv.uint64pow10", laid_internal_strconv_uint64pow10)], narrowed := true }
def VehicleGoesUptoSaid : Prop := vehicleGoesUptoRow.holds Tryz.pinned (OpenSpec.upto vehicleGoesSpec)

/-- 'wainwrightlaw.VehicleHolds', WHERE WHAT IT READS IS OF BULK AT MOST 1048576: true; the input reads as it did. -/
def vehicleHoldsUptoRow : OpenClaim := { program := "ytlbppjmekiemiacgreatdoor", sum := "ecbf5b25882547de2cabf18f9073d5ec0db2007f4bc0dd8af4ff839a27c8d47b", func := "wainwright/wainwrightlaw.VehicleHolds", spec := "vehicleHolds", inPlace := ["internal/abi.NoEscape", "internal/bytealg.MakeNoZero"], unfollowed := true, recurses := true, named := ["internal/strconv.uint64pow10", "math/bits.deBruijn32tab", "math/bits.deBruijn64tab"], apart := false, laid := [("math/bits.deBruijn32tab", laid_math_bits_deBruijn32tab), ("math/bits.deBruijn64tab", laid_math_bits_deBruijn64tab), ("internal/strconv.uint64pow10", laid_internal_strconv_uint64pow10)], narrowed := true }
def VehicleHoldsUptoSaid : Prop := vehicleHoldsUptoRow.holds Tryz.pinned (OpenSpec.upto vehicleHoldsSpec)

end Rows
end Go.Proofs.YtlbppjmekiemiacGreatDoor
