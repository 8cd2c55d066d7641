/-
  No cell of these rows narrows 'for every input' (looked for: loops, veiled, ifaces, maps, wideKeys, modest, calm, conditions, laid).
  DERIVED. THE GIVEN ROWS OF THIS SEAT. 11 by the template 'for every input the law returns true; each argument reads behind the call as it read before'; 0 by the template 'total and deterministic' (their statements: YtlbppjmekiemiaaTotals.lean).
  GIVEN WITH THE SEED: the statements are not yours to turn. If you find one false, say at which input.
  Laid BY PROGRAM, IN A SANDBOX (cutbox-rows.mjs): the forced cells as the released guide's own fill.sh prints them over the translation 49225d30dc65dff8… (all of the seat's roots in one cut). By AI agents, Wed Nov 11 2026. No macro, syntax, notation, axiom, sorry.
-/
import Derived.Test.YtlbppjmekiemiaaChecked
import GoSem.Claim
import GoSem.ClaimJoined
import GoSem.ClaimMapViews
import Derived.JoinedTies
import Derived.KernelRfl
namespace Go.Proofs.Ytlbppjmekiemiaa
/- THE CELL 'sum', in the pinned program and in every row, IS THE sha256 OF THE DUMP (.gsa) THAT YtlbppjmekiemiaaProg.lean LOADS. Nothing in Lean hashes anything: it is a label: what it is worth is what the hold of that sum in a sandbox is worth. -/
noncomputable def Try.pinned : Pinned := { name := "ytlbppjmekiemiaa", sum := "49225d30dc65dff8013bf0568f9e71ba65cc34ae78755b84742bee764ab9b858", checked := Try.checked }
namespace Rows
def none {H : Type} : Left H := { results := [], args := [] }

/-- 'wainwrightlaw.Names': WHATEVER THE INPUT: true; the input reads as it did. -/
def namesSpec : ChangeSpec := { name := "names", fn := fun _ => fun
  | [] => { results := [.lit (.bool true)], args := [] }
  | _ => none }
def namesRow : OpenClaim := { program := "ytlbppjmekiemiaa", sum := "49225d30dc65dff8013bf0568f9e71ba65cc34ae78755b84742bee764ab9b858", func := "wainwright/wainwrightlaw.Names", spec := "names", apart := false }
def NamesSaid : Prop := namesRow.holds Try.pinned (OpenSpec.ofChange namesSpec)

/-- ITS FALSE NEIGHBOUR: 'it returns false'. Refute it at one input. -/
def namesWrong : ChangeSpec := { name := "names", fn := fun _ => fun
  | [] => { results := [.lit (.bool false)], args := [] }
  | _ => none }
def NamesWrongFalsely : Prop := namesRow.holds Try.pinned (OpenSpec.ofChange namesWrong)

/-- 'wainwrightlaw.FlashParts': WHATEVER THE INPUT: true; the input reads as it did. -/
def flashPartsSpec : ChangeSpec := { name := "flashParts", fn := fun _ => fun
  | [d1, d2, d3, d4] => { results := [.lit (.bool true)], args := [d1, d2, d3, d4] }
  | _ => none }
def flashPartsRow : OpenClaim := { program := "ytlbppjmekiemiaa", sum := "49225d30dc65dff8013bf0568f9e71ba65cc34ae78755b84742bee764ab9b858", func := "wainwright/wainwrightlaw.FlashParts", spec := "flashParts", unfollowed := true, recurses := true, apart := false }
def FlashPartsSaid : Prop := flashPartsRow.holds Try.pinned (OpenSpec.ofChange flashPartsSpec)

/-- ITS FALSE NEIGHBOUR: 'it returns false'. Refute it at one input. -/
def flashPartsWrong : ChangeSpec := { name := "flashParts", fn := fun _ => fun
  | [d1, d2, d3, d4] => { results := [.lit (.bool false)], args := [d1, d2, d3, d4] }
  | _ => none }
def FlashPartsWrongFalsely : Prop := flashPartsRow.holds Try.pinned (OpenSpec.ofChange flashPartsWrong)

/-- 'wainwrightlaw.FlashBack': WHATEVER THE INPUT: true; the input reads as it did. -/
def flashBackSpec : ChangeSpec := { name := "flashBack", fn := fun _ => fun
  | [d1, d2, d3, d4] => { results := [.lit (.bool true)], args := [d1, d2, d3, d4] }
  | _ => none }
def flashBackRow : OpenClaim := { program := "ytlbppjmekiemiaa", sum := "49225d30dc65dff8013bf0568f9e71ba65cc34ae78755b84742bee764ab9b858", func := "wainwright/wainwrightlaw.FlashBack", spec := "flashBack", unfollowed := true, recurses := true, apart := false }
def FlashBackSaid : Prop := flashBackRow.holds Try.pinned (OpenSpec.ofChange flashBackSpec)

/-- ITS FALSE NEIGHBOUR: 'it returns false'. Refute it at one input. -/
def flashBackWrong : ChangeSpec := { name := "flashBack", fn := fun _ => fun
  | [d1, d2, d3, d4] => { results := [.lit (.bool false)], args := [d1, d2, d3, d4] }
  | _ => none }
def FlashBackWrongFalsely : Prop := flashBackRow.holds Try.pinned (OpenSpec.ofChange flashBackWrong)

/-- 'wainwrightlaw.FlashSays': WHATEVER THE INPUT: true; the input reads as it did. -/
def flashSaysSpec : ChangeSpec := { name := "flashSays", fn := fun _ => fun
  | [d1, d2, d3, d4, d5, d6] => { results := [.lit (.bool true)], args := [d1, d2, d3, d4, d5, d6] }
  | _ => none }
def flashSaysRow : OpenClaim := { program := "ytlbppjmekiemiaa", sum := "49225d30dc65dff8013bf0568f9e71ba65cc34ae78755b84742bee764ab9b858", func := "wainwright/wainwrightlaw.FlashSays", spec := "flashSays", unfollowed := true, recurses := true, apart := false }
def FlashSaysSaid : Prop := flashSaysRow.holds Try.pinned (OpenSpec.ofChange flashSaysSpec)

/-- ITS FALSE NEIGHBOUR: 'it returns false'. Refute it at one input. -/
def flashSaysWrong : ChangeSpec := { name := "flashSays", fn := fun _ => fun
  | [d1, d2, d3, d4, d5, d6] => { results := [.lit (.bool false)], args := [d1, d2, d3, d4, d5, d6] }
  | _ => none }
def FlashSaysWrongFalsely : Prop := flashSaysRow.holds Try.pinned (OpenSpec.ofChange flashSaysWrong)

/-- 'wainwrightlaw.SlotApart': WHATEVER THE INPUT: true; the input reads as it did. -/
def slotApartSpec : ChangeSpec := { name := "slotApart", fn := fun _ => fun
  | [d1, d2, d3, d4, d5, d6] => { results := [.lit (.bool true)], args := [d1, d2, d3, d4, d5, d6] }
  | _ => none }
def slotApartRow : OpenClaim := { program := "ytlbppjmekiemiaa", sum := "49225d30dc65dff8013bf0568f9e71ba65cc34ae78755b84742bee764ab9b858", func := "wainwright/wainwrightlaw.SlotApart", spec := "slotApart", unfollowed := true, recurses := true, apart := false }
def SlotApartSaid : Prop := slotApartRow.holds Try.pinned (OpenSpec.ofChange slotApartSpec)

/-- ITS FALSE NEIGHBOUR: 'it returns false'. Refute it at one input. -/
def slotApartWrong : ChangeSpec := { name := "slotApart", fn := fun _ => fun
  | [d1, d2, d3, d4, d5, d6] => { results := [.lit (.bool false)], args := [d1, d2, d3, d4, d5, d6] }
  | _ => none }
def SlotApartWrongFalsely : Prop := slotApartRow.holds Try.pinned (OpenSpec.ofChange slotApartWrong)

/-- 'wainwrightlaw.SlotHolds': WHATEVER THE INPUT: true; the input reads as it did. -/
def slotHoldsSpec : ChangeSpec := { name := "slotHolds", fn := fun _ => fun
  | [d1, d2, d3, d4, d5] => { results := [.lit (.bool true)], args := [d1, d2, d3, d4, d5] }
  | _ => none }
def slotHoldsRow : OpenClaim := { program := "ytlbppjmekiemiaa", sum := "49225d30dc65dff8013bf0568f9e71ba65cc34ae78755b84742bee764ab9b858", func := "wainwright/wainwrightlaw.SlotHolds", spec := "slotHolds", unfollowed := true, recurses := true, apart := false }
def SlotHoldsSaid : Prop := slotHoldsRow.holds Try.pinned (OpenSpec.ofChange slotHoldsSpec)

/-- ITS FALSE NEIGHBOUR: 'it returns false'. Refute it at one input. -/
def slotHoldsWrong : ChangeSpec := { name := "slotHolds", fn := fun _ => fun
  | [d1, d2, d3, d4, d5] => { results := [.lit (.bool false)], args := [d1, d2, d3, d4, d5] }
  | _ => none }
def SlotHoldsWrongFalsely : Prop := slotHoldsRow.holds Try.pinned (OpenSpec.ofChange slotHoldsWrong)

/-- 'wainwrightlaw.SlotSays': WHATEVER THE INPUT: true; the input reads as it did. -/
def slotSaysSpec : ChangeSpec := { name := "slotSays", fn := fun _ => fun
  | [d1, d2, d3, d4, d5, d6] => { results := [.lit (.bool true)], args := [d1, d2, d3, d4, d5, d6] }
  | _ => none }
def slotSaysRow : OpenClaim := { program := "ytlbppjmekiemiaa", sum := "49225d30dc65dff8013bf0568f9e71ba65cc34ae78755b84742bee764ab9b858", func := "wainwright/wainwrightlaw.SlotSays", spec := "slotSays", unfollowed := true, recurses := true, apart := false }
def SlotSaysSaid : Prop := slotSaysRow.holds Try.pinned (OpenSpec.ofChange slotSaysSpec)

/-- ITS FALSE NEIGHBOUR: 'it returns false'. Refute it at one input. -/
def slotSaysWrong : ChangeSpec := { name := "slotSays", fn := fun _ => fun
  | [d1, d2, d3, d4, d5, d6] => { results := [.lit (.bool false)], args := [d1, d2, d3, d4, d5, d6] }
  | _ => none }
def SlotSaysWrongFalsely : Prop := slotSaysRow.holds Try.pinned (OpenSpec.ofChange slotSaysWrong)

/-- 'wainwrightlaw.LogHolds': WHATEVER THE INPUT: true; the input reads as it did. -/
def logHoldsSpec : ChangeSpec := { name := "logHolds", fn := fun _ => fun
  | [d1, d2, d3, d4] => { results := [.lit (.bool true)], args := [d1, d2, d3, d4] }
  | _ => none }
def logHoldsRow : OpenClaim := { program := "ytlbppjmekiemiaa", sum := "49225d30dc65dff8013bf0568f9e71ba65cc34ae78755b84742bee764ab9b858", func := "wainwright/wainwrightlaw.LogHolds", spec := "logHolds", unfollowed := true, recurses := true, apart := false }
def LogHoldsSaid : Prop := logHoldsRow.holds Try.pinned (OpenSpec.ofChange logHoldsSpec)

/-- ITS FALSE NEIGHBOUR: 'it returns false'. Refute it at one input. -/
def logHoldsWrong : ChangeSpec := { name := "logHolds", fn := fun _ => fun
  | [d1, d2, d3, d4] => { results := [.lit (.bool false)], args := [d1, d2, d3, d4] }
  | _ => none }
def LogHoldsWrongFalsely : Prop := logHoldsRow.holds Try.pinned (OpenSpec.ofChange logHoldsWrong)

/-- 'wainwrightlaw.LogGoes': WHATEVER THE INPUT: true; the input reads as it did. -/
def logGoesSpec : ChangeSpec := { name := "logGoes", fn := fun _ => fun
  | [d1, d2] => { results := [.lit (.bool true)], args := [d1, d2] }
  | _ => none }
def logGoesRow : OpenClaim := { program := "ytlbppjmekiemiaa", sum := "49225d30dc65dff8013bf0568f9e71ba65cc34ae78755b84742bee764ab9b858", func := "wainwright/wainwrightlaw.LogGoes", spec := "logGoes", unfollowed := true, recurses := true, apart := false }
def LogGoesSaid : Prop := logGoesRow.holds Try.pinned (OpenSpec.ofChange logGoesSpec)

/-- ITS FALSE NEIGHBOUR: 'it returns false'. Refute it at one input. -/
def logGoesWrong : ChangeSpec := { name := "logGoes", fn := fun _ => fun
  | [d1, d2] => { results := [.lit (.bool false)], args := [d1, d2] }
  | _ => none }
def LogGoesWrongFalsely : Prop := logGoesRow.holds Try.pinned (OpenSpec.ofChange logGoesWrong)

/-- 'wainwrightlaw.LogPower': WHATEVER THE INPUT: true; the input reads as it did. -/
def logPowerSpec : ChangeSpec := { name := "logPower", fn := fun _ => fun
  | [d1, d2, d3] => { results := [.lit (.bool true)], args := [d1, d2, d3] }
  | _ => none }
def logPowerRow : OpenClaim := { program := "ytlbppjmekiemiaa", sum := "49225d30dc65dff8013bf0568f9e71ba65cc34ae78755b84742bee764ab9b858", func := "wainwright/wainwrightlaw.LogPower", spec := "logPower", unfollowed := true, recurses := true, apart := false }
def LogPowerSaid : Prop := logPowerRow.holds Try.pinned (OpenSpec.ofChange logPowerSpec)

/-- ITS FALSE NEIGHBOUR: 'it returns false'. Refute it at one input. -/
def logPowerWrong : ChangeSpec := { name := "logPower", fn := fun _ => fun
  | [d1, d2, d3] => { results := [.lit (.bool false)], args := [d1, d2, d3] }
  | _ => none }
def LogPowerWrongFalsely : Prop := logPowerRow.holds Try.pinned (OpenSpec.ofChange logPowerWrong)

/-- 'wainwrightlaw.LogApart': WHATEVER THE INPUT: true; the input reads as it did. -/
def logApartSpec : ChangeSpec := { name := "logApart", fn := fun _ => fun
  | [d1, d2, d3, d4, d5] => { results := [.lit (.bool true)], args := [d1, d2, d3, d4, d5] }
  | _ => none }
def logApartRow : OpenClaim := { program := "ytlbppjmekiemiaa", sum := "49225d30dc65dff8013bf0568f9e71ba65cc34ae78755b84742bee764ab9b858", func := "wainwright/wainwrightlaw.LogApart", spec := "logApart", unfollowed := true, recurses := true, apart := false }
def LogApartSaid : Prop := logApartRow.holds Try.pinned (OpenSpec.ofChange logApartSpec)

/-- ITS FALSE NEIGHBOUR: 'it returns false'. Refute it at one input. -/
def logApartWrong : ChangeSpec := { name := "logApart", fn := fun _ => fun
  | [d1, d2, d3, d4, d5] => { results := [.lit (.bool false)], args := [d1, d2, d3, d4, d5] }
  | _ => none }
def LogApartWrongFalsely : Prop := logApartRow.holds Try.pinned (OpenSpec.ofChange logApartWrong)

/- THE SECOND FORM. 'bulk': how many values and letters a reading holds, each counted each time it is reached (what is shared counts as often as it is met; a slice's spare places count too). A statement '..UptoSaid' is the law's where the arguments, and the package variables that the reading takes, are together of bulk at most 1048576: NARROWER than '..Said'. Prove '..Said' where nothing that the law and all that it calls make is longer than what came in: it says more and counts as full. Else prove '..UptoSaid'. A law counts once. -/
mutual
def uptoBulk {H : Type} : DataW H → Nat
  | .lit (.string bytes) => bytes.length + 1
  | .lit _ => 1
  | .nil => 1
  | .ptr d => uptoBulk d + 1
  | .slice elems spare => uptoBulkAll elems + uptoBulkAll spare + 1
  | .agg parts => uptoBulkAll parts + 1
  | .iface _ d => uptoBulk d + 1
  | .map entries => uptoBulkEntries entries + 1
  | .held _ => 1
def uptoBulkAll {H : Type} : List (DataW H) → Nat
  | [] => 0
  | d :: r => uptoBulk d + uptoBulkAll r
def uptoBulkEntries {H : Type} : List (Lit × DataW H) → Nat
  | [] => 0
  | x :: r => uptoBulkEntry x + uptoBulkEntries r
def uptoBulkEntry {H : Type} : Lit × DataW H → Nat
  | (.string bytes, d) => bytes.length + uptoBulk d + 1
  | (_, d) => uptoBulk d + 1
 end
def uptoSmall : (H : Type) → List (DataW H) → Bool := fun _ ds => decide (uptoBulkAll ds ≤ 1048576)
def OpenSpec.upto (s : _root_.Go.ChangeSpec) : _root_.Go.OpenSpec := { _root_.Go.OpenSpec.ofChange s with cond := some uptoSmall }

/-- 'wainwrightlaw.Names', WHERE WHAT IT READS IS OF BULK AT MOST 1048576: true; the input reads as it did. -/
def namesUptoRow : OpenClaim := { program := "ytlbppjmekiemiaa", sum := "49225d30dc65dff8013bf0568f9e71ba65cc34ae78755b84742bee764ab9b858", func := "wainwright/wainwrightlaw.Names", spec := "names", apart := false, narrowed := true }
def NamesUptoSaid : Prop := namesUptoRow.holds Try.pinned (OpenSpec.upto namesSpec)

/-- 'wainwrightlaw.FlashParts', WHERE WHAT IT READS IS OF BULK AT MOST 1048576: true; the input reads as it did. -/
def flashPartsUptoRow : OpenClaim := { program := "ytlbppjmekiemiaa", sum := "49225d30dc65dff8013bf0568f9e71ba65cc34ae78755b84742bee764ab9b858", func := "wainwright/wainwrightlaw.FlashParts", spec := "flashParts", unfollowed := true, recurses := true, apart := false, narrowed := true }
def FlashPartsUptoSaid : Prop := flashPartsUptoRow.holds Try.pinned (OpenSpec.upto flashPartsSpec)

/-- 'wainwrightlaw.FlashBack', WHERE WHAT IT READS IS OF BULK AT MOST 1048576: true; the input reads as it did. -/
def flashBackUptoRow : OpenClaim := { program := "ytlbppjmekiemiaa", sum := "49225d30dc65dff8013bf0568f9e71ba65cc34ae78755b84742bee764ab9b858", func := "wainwright/wainwrightlaw.FlashBack", spec := "flashBack", unfollowed := true, recurses := true, apart := false, narrowed := true }
def FlashBackUptoSaid : Prop := flashBackUptoRow.holds Try.pinned (OpenSpec.upto flashBackSpec)

/-- 'wainwrightlaw.FlashSays', WHERE WHAT IT READS IS OF BULK AT MOST 1048576: true; the input reads as it did. -/
def flashSaysUptoRow : OpenClaim := { program := "ytlbppjmekiemiaa", sum := "49225d30dc65dff8013bf0568f9e71ba65cc34ae78755b84742bee764ab9b858", func := "wainwright/wainwrightlaw.FlashSays", spec := "flashSays", unfollowed := true, recurses := true, apart := false, narrowed := true }
def FlashSaysUptoSaid : Prop := flashSaysUptoRow.holds Try.pinned (OpenSpec.upto flashSaysSpec)

/-- 'wainwrightlaw.SlotApart', WHERE WHAT IT READS IS OF BULK AT MOST 1048576: true; the input reads as it did. -/
def slotApartUptoRow : OpenClaim := { program := "ytlbppjmekiemiaa", sum := "49225d30dc65dff8013bf0568f9e71ba65cc34ae78755b84742bee764ab9b858", func := "wainwright/wainwrightlaw.SlotApart", spec := "slotApart", unfollowed := true, recurses := true, apart := false, narrowed := true }
def SlotApartUptoSaid : Prop := slotApartUptoRow.holds Try.pinned (OpenSpec.upto slotApartSpec)

/-- 'wainwrightlaw.SlotHolds', WHERE WHAT IT READS IS OF BULK AT MOST 1048576: true; the input reads as it did. -/
def slotHoldsUptoRow : OpenClaim := { program := "ytlbppjmekiemiaa", sum := "49225d30dc65dff8013bf0568f9e71ba65cc34ae78755b84742bee764ab9b858", func := "wainwright/wainwrightlaw.SlotHolds", spec := "slotHolds", unfollowed := true, recurses := true, apart := false, narrowed := true }
def SlotHoldsUptoSaid : Prop := slotHoldsUptoRow.holds Try.pinned (OpenSpec.upto slotHoldsSpec)

/-- 'wainwrightlaw.SlotSays', WHERE WHAT IT READS IS OF BULK AT MOST 1048576: true; the input reads as it did. -/
def slotSaysUptoRow : OpenClaim := { program := "ytlbppjmekiemiaa", sum := "49225d30dc65dff8013bf0568f9e71ba65cc34ae78755b84742bee764ab9b858", func := "wainwright/wainwrightlaw.SlotSays", spec := "slotSays", unfollowed := true, recurses := true, apart := false, narrowed := true }
def SlotSaysUptoSaid : Prop := slotSaysUptoRow.holds Try.pinned (OpenSpec.upto slotSaysSpec)

/-- 'wainwrightlaw.LogHolds', WHERE WHAT IT READS IS OF BULK AT MOST 1048576: true; the input reads as it did. -/
def logHoldsUptoRow : OpenClaim := { program := "ytlbppjmekiemiaa", sum := "49225d30dc65dff8013bf0568f9e71ba65cc34ae78755b84742bee764ab9b858", func := "wainwright/wainwrightlaw.LogHolds", spec := "logHolds", unfollowed := true, recurses := true, apart := false, narrowed := true }
def LogHoldsUptoSaid : Prop := logHoldsUptoRow.holds Try.pinned (OpenSpec.upto logHoldsSpec)

/-- 'wainwrightlaw.LogGoes', WHERE WHAT IT READS IS OF BULK AT MOST 1048576: true; the input reads as it did. -/
def logGoesUptoRow : OpenClaim := { program := "ytlbppjmekiemiaa", sum := "49225d30dc65dff8013bf0568f9e71ba65cc34ae78755b84742bee764ab9b858", func := "wainwright/wainwrightlaw.LogGoes", spec := "logGoes", unfollowed := true, recurses := true, apart := false, narrowed := true }
def LogGoesUptoSaid : Prop := logGoesUptoRow.holds Try.pinned (OpenSpec.upto logGoesSpec)

/-- 'wainwrightlaw.LogPower', WHERE WHAT IT READS IS OF BULK AT MOST 1048576: true; the input reads as it did. -/
def logPowerUptoRow : OpenClaim := { program := "ytlbppjmekiemiaa", sum := "49225d30dc65dff8013bf0568f9e71ba65cc34ae78755b84742bee764ab9b858", func := "wainwright/wainwrightlaw.LogPower", spec := "logPower", unfollowed := true, recurses := true, apart := false, narrowed := true }
def LogPowerUptoSaid : Prop := logPowerUptoRow.holds Try.pinned (OpenSpec.upto logPowerSpec)

/-- 'wainwrightlaw.LogApart', WHERE WHAT IT READS IS OF BULK AT MOST 1048576: true; the input reads as it did. -/
def logApartUptoRow : OpenClaim := { program := "ytlbppjmekiemiaa", sum := "49225d30dc65dff8013bf0568f9e71ba65cc34ae78755b84742bee764ab9b858", func := "wainwright/wainwrightlaw.LogApart", spec := "logApart", unfollowed := true, recurses := true, apart := false, narrowed := true }
def LogApartUptoSaid : Prop := logApartUptoRow.holds Try.pinned (OpenSpec.upto logApartSpec)

end Rows
end Go.Proofs.Ytlbppjmekiemiaa
