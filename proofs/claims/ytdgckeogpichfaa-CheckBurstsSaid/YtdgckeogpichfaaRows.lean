/-
  No cell of these rows narrows 'for every input' (looked for: loops, veiled, ifaces, maps, wideKeys, modest, calm, conditions, laid).
  DERIVED. THE GIVEN ROWS OF THIS SEAT. 8 by the template 'for every input the law returns true; each argument reads behind the call as it read before'; 0 by the template 'total and deterministic' (their statements: YtdgckeogpichfaaTotals.lean).
  GIVEN WITH THE SEED: the statements are not yours to turn. If you find one false, say at which input.
  Laid BY PROGRAM, IN A SANDBOX (cutbox-rows.mjs): the forced cells as the released guide's own fill.sh prints them over the translation 6b784af2d63a9c1e… (all of the seat's roots in one cut). By AI agents, Wed Nov 11 2026. No macro, syntax, notation, axiom, sorry.
-/
import Derived.Test.YtdgckeogpichfaaChecked
import GoSem.Claim
import GoSem.ClaimJoined
import GoSem.ClaimMapViews
import Derived.JoinedTies
import Derived.KernelRfl
namespace Go.Proofs.Ytdgckeogpichfaa
/- THE CELL 'sum', in the pinned program and in every row, IS THE sha256 OF THE DUMP (.gsa) THAT YtdgckeogpichfaaProg.lean LOADS. Nothing in Lean hashes anything: it is a label: what it is worth is what the hold of that sum in a sandbox is worth. -/
noncomputable def Try.pinned : Pinned := { name := "ytdgckeogpichfaa", sum := "6b784af2d63a9c1e3f398369517fe2a53e201d0925397518afeaaca2c330bd34", checked := Try.checked }
namespace Rows
def none {H : Type} : Left H := { results := [], args := [] }

/-- 'hotspotlaw03.CheckValues': WHATEVER THE INPUT: true; the input reads as it did. -/
def checkValuesSpec : ChangeSpec := { name := "checkValues", fn := fun _ => fun
  | [d1, d2] => { results := [.lit (.bool true)], args := [d1, d2] }
  | _ => none }
def checkValuesRow : OpenClaim := { program := "ytdgckeogpichfaa", sum := "6b784af2d63a9c1e3f398369517fe2a53e201d0925397518afeaaca2c330bd34", func := "hotspot/hotspotlaw03.CheckValues", spec := "checkValues", apart := false }
def CheckValuesSaid : Prop := checkValuesRow.holds Try.pinned (OpenSpec.ofChange checkValuesSpec)

/-- ITS FALSE NEIGHBOUR: 'it returns false'. Refute it at one input. -/
def checkValuesWrong : ChangeSpec := { name := "checkValues", fn := fun _ => fun
  | [d1, d2] => { results := [.lit (.bool false)], args := [d1, d2] }
  | _ => none }
def CheckValuesWrongFalsely : Prop := checkValuesRow.holds Try.pinned (OpenSpec.ofChange checkValuesWrong)

/-- 'hotspotlaw03.CheckParts': WHATEVER THE INPUT: true; the input reads as it did. -/
def checkPartsSpec : ChangeSpec := { name := "checkParts", fn := fun _ => fun
  | [d1, d2, d3] => { results := [.lit (.bool true)], args := [d1, d2, d3] }
  | _ => none }
def checkPartsRow : OpenClaim := { program := "ytdgckeogpichfaa", sum := "6b784af2d63a9c1e3f398369517fe2a53e201d0925397518afeaaca2c330bd34", func := "hotspot/hotspotlaw03.CheckParts", spec := "checkParts", unfollowed := true, recurses := true, apart := false }
def CheckPartsSaid : Prop := checkPartsRow.holds Try.pinned (OpenSpec.ofChange checkPartsSpec)

/-- ITS FALSE NEIGHBOUR: 'it returns false'. Refute it at one input. -/
def checkPartsWrong : ChangeSpec := { name := "checkParts", fn := fun _ => fun
  | [d1, d2, d3] => { results := [.lit (.bool false)], args := [d1, d2, d3] }
  | _ => none }
def CheckPartsWrongFalsely : Prop := checkPartsRow.holds Try.pinned (OpenSpec.ofChange checkPartsWrong)

/-- 'hotspotlaw03.CheckLinear': WHATEVER THE INPUT: true; the input reads as it did. -/
def checkLinearSpec : ChangeSpec := { name := "checkLinear", fn := fun _ => fun
  | [d1, d2, d3] => { results := [.lit (.bool true)], args := [d1, d2, d3] }
  | _ => none }
def checkLinearRow : OpenClaim := { program := "ytdgckeogpichfaa", sum := "6b784af2d63a9c1e3f398369517fe2a53e201d0925397518afeaaca2c330bd34", func := "hotspot/hotspotlaw03.CheckLinear", spec := "checkLinear", unfollowed := true, recurses := true, apart := false }
def CheckLinearSaid : Prop := checkLinearRow.holds Try.pinned (OpenSpec.ofChange checkLinearSpec)

/-- ITS FALSE NEIGHBOUR: 'it returns false'. Refute it at one input. -/
def checkLinearWrong : ChangeSpec := { name := "checkLinear", fn := fun _ => fun
  | [d1, d2, d3] => { results := [.lit (.bool false)], args := [d1, d2, d3] }
  | _ => none }
def CheckLinearWrongFalsely : Prop := checkLinearRow.holds Try.pinned (OpenSpec.ofChange checkLinearWrong)

/-- 'hotspotlaw03.CheckNames': WHATEVER THE INPUT: true; the input reads as it did. -/
def checkNamesSpec : ChangeSpec := { name := "checkNames", fn := fun _ => fun
  | [] => { results := [.lit (.bool true)], args := [] }
  | _ => none }
def checkNamesRow : OpenClaim := { program := "ytdgckeogpichfaa", sum := "6b784af2d63a9c1e3f398369517fe2a53e201d0925397518afeaaca2c330bd34", func := "hotspot/hotspotlaw03.CheckNames", spec := "checkNames", unfollowed := true, recurses := true, apart := false }
def CheckNamesSaid : Prop := checkNamesRow.holds Try.pinned (OpenSpec.ofChange checkNamesSpec)

/-- ITS FALSE NEIGHBOUR: 'it returns false'. Refute it at one input. -/
def checkNamesWrong : ChangeSpec := { name := "checkNames", fn := fun _ => fun
  | [] => { results := [.lit (.bool false)], args := [] }
  | _ => none }
def CheckNamesWrongFalsely : Prop := checkNamesRow.holds Try.pinned (OpenSpec.ofChange checkNamesWrong)

/-- 'hotspotlaw03.CheckAppends': WHATEVER THE INPUT: true; the input reads as it did. -/
def checkAppendsSpec : ChangeSpec := { name := "checkAppends", fn := fun _ => fun
  | [d] => { results := [.lit (.bool true)], args := [d] }
  | _ => none }
def checkAppendsRow : OpenClaim := { program := "ytdgckeogpichfaa", sum := "6b784af2d63a9c1e3f398369517fe2a53e201d0925397518afeaaca2c330bd34", func := "hotspot/hotspotlaw03.CheckAppends", spec := "checkAppends", unfollowed := true, recurses := true, apart := false }
def CheckAppendsSaid : Prop := checkAppendsRow.holds Try.pinned (OpenSpec.ofChange checkAppendsSpec)

/-- ITS FALSE NEIGHBOUR: 'it returns false'. Refute it at one input. -/
def checkAppendsWrong : ChangeSpec := { name := "checkAppends", fn := fun _ => fun
  | [d] => { results := [.lit (.bool false)], args := [d] }
  | _ => none }
def CheckAppendsWrongFalsely : Prop := checkAppendsRow.holds Try.pinned (OpenSpec.ofChange checkAppendsWrong)

/-- 'hotspotlaw03.CheckBursts': WHATEVER THE INPUT: true; the input reads as it did. -/
def checkBurstsSpec : ChangeSpec := { name := "checkBursts", fn := fun _ => fun
  | [d1, d2, d3] => { results := [.lit (.bool true)], args := [d1, d2, d3] }
  | _ => none }
def checkBurstsRow : OpenClaim := { program := "ytdgckeogpichfaa", sum := "6b784af2d63a9c1e3f398369517fe2a53e201d0925397518afeaaca2c330bd34", func := "hotspot/hotspotlaw03.CheckBursts", spec := "checkBursts", unfollowed := true, recurses := true, apart := false }
def CheckBurstsSaid : Prop := checkBurstsRow.holds Try.pinned (OpenSpec.ofChange checkBurstsSpec)

/-- ITS FALSE NEIGHBOUR: 'it returns false'. Refute it at one input. -/
def checkBurstsWrong : ChangeSpec := { name := "checkBursts", fn := fun _ => fun
  | [d1, d2, d3] => { results := [.lit (.bool false)], args := [d1, d2, d3] }
  | _ => none }
def CheckBurstsWrongFalsely : Prop := checkBurstsRow.holds Try.pinned (OpenSpec.ofChange checkBurstsWrong)

/-- 'hotspotlaw03.CheckOdd': WHATEVER THE INPUT: true; the input reads as it did. -/
def checkOddSpec : ChangeSpec := { name := "checkOdd", fn := fun _ => fun
  | [d1, d2] => { results := [.lit (.bool true)], args := [d1, d2] }
  | _ => none }
def checkOddRow : OpenClaim := { program := "ytdgckeogpichfaa", sum := "6b784af2d63a9c1e3f398369517fe2a53e201d0925397518afeaaca2c330bd34", func := "hotspot/hotspotlaw03.CheckOdd", spec := "checkOdd", unfollowed := true, recurses := true, apart := false }
def CheckOddSaid : Prop := checkOddRow.holds Try.pinned (OpenSpec.ofChange checkOddSpec)

/-- ITS FALSE NEIGHBOUR: 'it returns false'. Refute it at one input. -/
def checkOddWrong : ChangeSpec := { name := "checkOdd", fn := fun _ => fun
  | [d1, d2] => { results := [.lit (.bool false)], args := [d1, d2] }
  | _ => none }
def CheckOddWrongFalsely : Prop := checkOddRow.holds Try.pinned (OpenSpec.ofChange checkOddWrong)

/-- 'hotspotlaw03.CheckBack': WHATEVER THE INPUT: true; the input reads as it did. -/
def checkBackSpec : ChangeSpec := { name := "checkBack", fn := fun _ => fun
  | [d] => { results := [.lit (.bool true)], args := [d] }
  | _ => none }
def checkBackRow : OpenClaim := { program := "ytdgckeogpichfaa", sum := "6b784af2d63a9c1e3f398369517fe2a53e201d0925397518afeaaca2c330bd34", func := "hotspot/hotspotlaw03.CheckBack", spec := "checkBack", unfollowed := true, recurses := true, apart := false }
def CheckBackSaid : Prop := checkBackRow.holds Try.pinned (OpenSpec.ofChange checkBackSpec)

/-- ITS FALSE NEIGHBOUR: 'it returns false'. Refute it at one input. -/
def checkBackWrong : ChangeSpec := { name := "checkBack", fn := fun _ => fun
  | [d] => { results := [.lit (.bool false)], args := [d] }
  | _ => none }
def CheckBackWrongFalsely : Prop := checkBackRow.holds Try.pinned (OpenSpec.ofChange checkBackWrong)

/- THE SECOND FORM. 'bulk': how many values and letters a reading holds, each counted each time it is reached (what is shared counts as often as it is met; a slice's spare places count too). A statement '..UptoSaid' is the law's where the arguments, and the package variables that the reading takes, are together of bulk at most 1048576: NARROWER than '..Said'. Prove '..Said' where nothing that the law and all that it calls make is longer than what came in: it says more and counts as full. Else prove '..UptoSaid'. A law counts once. -/
mutual
def uptoBulk {H : Type} : DataW H → Nat
  | .lit (.string bytes) => bytes.length + 1
  | .lit _ => 1
  | .nil => 1
  | .ptr d => uptoBulk d + 1
  | .slice elems spare => uptoBulkAll elems + uptoBulkAll spare + 1
  | .agg parts => uptoBulkAll parts + 1
  | .iface _ d => uptoBulk d + 1
  | .map entries => uptoBulkEntries entries + 1
  | .held _ => 1
def uptoBulkAll {H : Type} : List (DataW H) → Nat
  | [] => 0
  | d :: r => uptoBulk d + uptoBulkAll r
def uptoBulkEntries {H : Type} : List (Lit × DataW H) → Nat
  | [] => 0
  | x :: r => uptoBulkEntry x + uptoBulkEntries r
def uptoBulkEntry {H : Type} : Lit × DataW H → Nat
  | (.string bytes, d) => bytes.length + uptoBulk d + 1
  | (_, d) => uptoBulk d + 1
 end
def uptoSmall : (H : Type) → List (DataW H) → Bool := fun _ ds => decide (uptoBulkAll ds ≤ 1048576)
def OpenSpec.upto (s : _root_.Go.ChangeSpec) : _root_.Go.OpenSpec := { _root_.Go.OpenSpec.ofChange s with cond := some uptoSmall }

/-- 'hotspotlaw03.CheckValues', WHERE WHAT IT READS IS OF BULK AT MOST 1048576: true; the input reads as it did. -/
def checkValuesUptoRow : OpenClaim := { program := "ytdgckeogpichfaa", sum := "6b784af2d63a9c1e3f398369517fe2a53e201d0925397518afeaaca2c330bd34", func := "hotspot/hotspotlaw03.CheckValues", spec := "checkValues", apart := false, narrowed := true }
def CheckValuesUptoSaid : Prop := checkValuesUptoRow.holds Try.pinned (OpenSpec.upto checkValuesSpec)

/-- 'hotspotlaw03.CheckParts', WHERE WHAT IT READS IS OF BULK AT MOST 1048576: true; the input reads as it did. -/
def checkPartsUptoRow : OpenClaim := { program := "ytdgckeogpichfaa", sum := "6b784af2d63a9c1e3f398369517fe2a53e201d0925397518afeaaca2c330bd34", func := "hotspot/hotspotlaw03.CheckParts", spec := "checkParts", unfollowed := true, recurses := true, apart := false, narrowed := true }
def CheckPartsUptoSaid : Prop := checkPartsUptoRow.holds Try.pinned (OpenSpec.upto checkPartsSpec)

/-- 'hotspotlaw03.CheckLinear', WHERE WHAT IT READS IS OF BULK AT MOST 1048576: true; the input reads as it did. -/
def checkLinearUptoRow : OpenClaim := { program := "ytdgckeogpichfaa", sum := "6b784af2d63a9c1e3f398369517fe2a53e201d0925397518afeaaca2c330bd34", func := "hotspot/hotspotlaw03.CheckLinear", spec := "checkLinear", unfollowed := true, recurses := true, apart := false, narrowed := true }
def CheckLinearUptoSaid : Prop := checkLinearUptoRow.holds Try.pinned (OpenSpec.upto checkLinearSpec)

/-- 'hotspotlaw03.CheckNames', WHERE WHAT IT READS IS OF BULK AT MOST 1048576: true; the input reads as it did. -/
def checkNamesUptoRow : OpenClaim := { program := "ytdgckeogpichfaa", sum := "6b784af2d63a9c1e3f398369517fe2a53e201d0925397518afeaaca2c330bd34", func := "hotspot/hotspotlaw03.CheckNames", spec := "checkNames", unfollowed := true, recurses := true, apart := false, narrowed := true }
def CheckNamesUptoSaid : Prop := checkNamesUptoRow.holds Try.pinned (OpenSpec.upto checkNamesSpec)

/-- 'hotspotlaw03.CheckAppends', WHERE WHAT IT READS IS OF BULK AT MOST 1048576: true; the input reads as it did. -/
def checkAppendsUptoRow : OpenClaim := { program := "ytdgckeogpichfaa", sum := "6b784af2d63a9c1e3f398369517fe2a53e201d0925397518afeaaca2c330bd34", func := "hotspot/hotspotlaw03.CheckAppends", spec := "checkAppends", unfollowed := true, recurses := true, apart := false, narrowed := true }
def CheckAppendsUptoSaid : Prop := checkAppendsUptoRow.holds Try.pinned (OpenSpec.upto checkAppendsSpec)

/-- 'hotspotlaw03.CheckBursts', WHERE WHAT IT READS IS OF BULK AT MOST 1048576: true; the input reads as it did. -/
def checkBurstsUptoRow : OpenClaim := { program := "ytdgckeogpichfaa", sum := "6b784af2d63a9c1e3f398369517fe2a53e201d0925397518afeaaca2c330bd34", func := "hotspot/hotspotlaw03.CheckBursts", spec := "checkBursts", unfollowed := true, recurses := true, apart := false, narrowed := true }
def CheckBurstsUptoSaid : Prop := checkBurstsUptoRow.holds Try.pinned (OpenSpec.upto checkBurstsSpec)

/-- 'hotspotlaw03.CheckOdd', WHERE WHAT IT READS IS OF BULK AT MOST 1048576: true; the input reads as it did. -/
def checkOddUptoRow : OpenClaim := { program := "ytdgckeogpichfaa", sum := "6b784af2d63a9c1e3f398369517fe2a53e201d0925397518afeaaca2c330bd34", func := "hotspot/hotspotlaw03.CheckOdd", spec := "checkOdd", unfollowed := true, recurses := true, apart := false, narrowed := true }
def CheckOddUptoSaid : Prop := checkOddUptoRow.holds Try.pinned (OpenSpec.upto checkOddSpec)

/-- 'hotspotlaw03.CheckBack', WHERE WHAT IT READS IS OF BULK AT MOST 1048576: true; the input reads as it did. -/
def checkBackUptoRow : OpenClaim := { program := "ytdgckeogpichfaa", sum := "6b784af2d63a9c1e3f398369517fe2a53e201d0925397518afeaaca2c330bd34", func := "hotspot/hotspotlaw03.CheckBack", spec := "checkBack", unfollowed := true, recurses := true, apart := false, narrowed := true }
def CheckBackUptoSaid : Prop := checkBackUptoRow.holds Try.pinned (OpenSpec.upto checkBackSpec)

end Rows
end Go.Proofs.Ytdgckeogpichfaa
