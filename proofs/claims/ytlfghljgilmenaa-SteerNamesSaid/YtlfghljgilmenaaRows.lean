/-
  No cell of these rows narrows 'for every input' (looked for: loops, veiled, ifaces, maps, wideKeys, modest, calm, conditions, laid).
  DERIVED. THE GIVEN ROWS OF THIS SEAT. 8 by the template 'for every input the law returns true; each argument reads behind the call as it read before'; 0 by the template 'total and deterministic' (their statements: YtlfghljgilmenaaTotals.lean).
  GIVEN WITH THE SEED: the statements are not yours to turn. If you find one false, say at which input.
  Laid BY PROGRAM, IN A SANDBOX (cutbox-rows.mjs): the forced cells as the released guide's own fill.sh prints them over the translation 4ba8c2498e2d5473… (all of the seat's roots in one cut). By AI agents, Wed Nov 11 2026. No macro, syntax, notation, axiom, sorry.
-/
import Derived.Test.YtlfghljgilmenaaChecked
import GoSem.Claim
import GoSem.ClaimJoined
import GoSem.ClaimMapViews
import Derived.JoinedTies
import Derived.KernelRfl
namespace Go.Proofs.Ytlfghljgilmenaa
/- THE CELL 'sum', in the pinned program and in every row, IS THE sha256 OF THE DUMP (.gsa) THAT YtlfghljgilmenaaProg.lean LOADS. Nothing in Lean hashes anything: it is a label: what it is worth is what the hold of that sum in a sandbox is worth. -/
noncomputable def Try.pinned : Pinned := { name := "ytlfghljgilmenaa", sum := "4ba8c2498e2d5473a141fd659f2dbef9828f4e401c5c98a01adeafce0c7af6aa", checked := Try.checked }
namespace Rows
def none {H : Type} : Left H := { results := [], args := [] }

/-- 'hotspotlaw32.SteerMoves': WHATEVER THE INPUT: true; the input reads as it did. -/
def steerMovesSpec : ChangeSpec := { name := "steerMoves", fn := fun _ => fun
  | [d1, d2, d3] => { results := [.lit (.bool true)], args := [d1, d2, d3] }
  | _ => none }
def steerMovesRow : OpenClaim := { program := "ytlfghljgilmenaa", sum := "4ba8c2498e2d5473a141fd659f2dbef9828f4e401c5c98a01adeafce0c7af6aa", func := "hotspot/hotspotlaw32.SteerMoves", spec := "steerMoves", unfollowed := true, recurses := true, apart := false }
def SteerMovesSaid : Prop := steerMovesRow.holds Try.pinned (OpenSpec.ofChange steerMovesSpec)

/-- ITS FALSE NEIGHBOUR: 'it returns false'. Refute it at one input. -/
def steerMovesWrong : ChangeSpec := { name := "steerMoves", fn := fun _ => fun
  | [d1, d2, d3] => { results := [.lit (.bool false)], args := [d1, d2, d3] }
  | _ => none }
def SteerMovesWrongFalsely : Prop := steerMovesRow.holds Try.pinned (OpenSpec.ofChange steerMovesWrong)

/-- 'hotspotlaw32.SteerCodes': WHATEVER THE INPUT: true; the input reads as it did. -/
def steerCodesSpec : ChangeSpec := { name := "steerCodes", fn := fun _ => fun
  | [d1, d2] => { results := [.lit (.bool true)], args := [d1, d2] }
  | _ => none }
def steerCodesRow : OpenClaim := { program := "ytlfghljgilmenaa", sum := "4ba8c2498e2d5473a141fd659f2dbef9828f4e401c5c98a01adeafce0c7af6aa", func := "hotspot/hotspotlaw32.SteerCodes", spec := "steerCodes", unfollowed := true, recurses := true, apart := false }
def SteerCodesSaid : Prop := steerCodesRow.holds Try.pinned (OpenSpec.ofChange steerCodesSpec)

/-- ITS FALSE NEIGHBOUR: 'it returns false'. Refute it at one input. -/
def steerCodesWrong : ChangeSpec := { name := "steerCodes", fn := fun _ => fun
  | [d1, d2] => { results := [.lit (.bool false)], args := [d1, d2] }
  | _ => none }
def SteerCodesWrongFalsely : Prop := steerCodesRow.holds Try.pinned (OpenSpec.ofChange steerCodesWrong)

/-- 'hotspotlaw32.SteerChooses': WHATEVER THE INPUT: true; the input reads as it did. -/
def steerChoosesSpec : ChangeSpec := { name := "steerChooses", fn := fun _ => fun
  | [d1, d2, d3, d4] => { results := [.lit (.bool true)], args := [d1, d2, d3, d4] }
  | _ => none }
def steerChoosesRow : OpenClaim := { program := "ytlfghljgilmenaa", sum := "4ba8c2498e2d5473a141fd659f2dbef9828f4e401c5c98a01adeafce0c7af6aa", func := "hotspot/hotspotlaw32.SteerChooses", spec := "steerChooses", inPlace := ["internal/bytealg.Compare"], unfollowed := true, recurses := true, apart := false }
def SteerChoosesSaid : Prop := steerChoosesRow.holds Try.pinned (OpenSpec.ofChange steerChoosesSpec)

/-- ITS FALSE NEIGHBOUR: 'it returns false'. Refute it at one input. -/
def steerChoosesWrong : ChangeSpec := { name := "steerChooses", fn := fun _ => fun
  | [d1, d2, d3, d4] => { results := [.lit (.bool false)], args := [d1, d2, d3, d4] }
  | _ => none }
def SteerChoosesWrongFalsely : Prop := steerChoosesRow.holds Try.pinned (OpenSpec.ofChange steerChoosesWrong)

/-- 'hotspotlaw32.SteerBack': WHATEVER THE INPUT: true; the input reads as it did. -/
def steerBackSpec : ChangeSpec := { name := "steerBack", fn := fun _ => fun
  | [d1, d2, d3] => { results := [.lit (.bool true)], args := [d1, d2, d3] }
  | _ => none }
def steerBackRow : OpenClaim := { program := "ytlfghljgilmenaa", sum := "4ba8c2498e2d5473a141fd659f2dbef9828f4e401c5c98a01adeafce0c7af6aa", func := "hotspot/hotspotlaw32.SteerBack", spec := "steerBack", inPlace := ["internal/bytealg.Compare"], unfollowed := true, recurses := true, apart := false }
def SteerBackSaid : Prop := steerBackRow.holds Try.pinned (OpenSpec.ofChange steerBackSpec)

/-- ITS FALSE NEIGHBOUR: 'it returns false'. Refute it at one input. -/
def steerBackWrong : ChangeSpec := { name := "steerBack", fn := fun _ => fun
  | [d1, d2, d3] => { results := [.lit (.bool false)], args := [d1, d2, d3] }
  | _ => none }
def SteerBackWrongFalsely : Prop := steerBackRow.holds Try.pinned (OpenSpec.ofChange steerBackWrong)

/-- 'hotspotlaw32.SteerBest': WHATEVER THE INPUT: true; the input reads as it did. -/
def steerBestSpec : ChangeSpec := { name := "steerBest", fn := fun _ => fun
  | [d1, d2, d3] => { results := [.lit (.bool true)], args := [d1, d2, d3] }
  | _ => none }
def steerBestRow : OpenClaim := { program := "ytlfghljgilmenaa", sum := "4ba8c2498e2d5473a141fd659f2dbef9828f4e401c5c98a01adeafce0c7af6aa", func := "hotspot/hotspotlaw32.SteerBest", spec := "steerBest", inPlace := ["internal/bytealg.Compare"], unfollowed := true, recurses := true, apart := false }
def SteerBestSaid : Prop := steerBestRow.holds Try.pinned (OpenSpec.ofChange steerBestSpec)

/-- ITS FALSE NEIGHBOUR: 'it returns false'. Refute it at one input. -/
def steerBestWrong : ChangeSpec := { name := "steerBest", fn := fun _ => fun
  | [d1, d2, d3] => { results := [.lit (.bool false)], args := [d1, d2, d3] }
  | _ => none }
def SteerBestWrongFalsely : Prop := steerBestRow.holds Try.pinned (OpenSpec.ofChange steerBestWrong)

/-- 'hotspotlaw32.SteerCalm': WHATEVER THE INPUT: true; the input reads as it did. -/
def steerCalmSpec : ChangeSpec := { name := "steerCalm", fn := fun _ => fun
  | [d1, d2, d3, d4, d5] => { results := [.lit (.bool true)], args := [d1, d2, d3, d4, d5] }
  | _ => none }
def steerCalmRow : OpenClaim := { program := "ytlfghljgilmenaa", sum := "4ba8c2498e2d5473a141fd659f2dbef9828f4e401c5c98a01adeafce0c7af6aa", func := "hotspot/hotspotlaw32.SteerCalm", spec := "steerCalm", inPlace := ["internal/bytealg.Compare"], unfollowed := true, recurses := true, apart := false }
def SteerCalmSaid : Prop := steerCalmRow.holds Try.pinned (OpenSpec.ofChange steerCalmSpec)

/-- ITS FALSE NEIGHBOUR: 'it returns false'. Refute it at one input. -/
def steerCalmWrong : ChangeSpec := { name := "steerCalm", fn := fun _ => fun
  | [d1, d2, d3, d4, d5] => { results := [.lit (.bool false)], args := [d1, d2, d3, d4, d5] }
  | _ => none }
def SteerCalmWrongFalsely : Prop := steerCalmRow.holds Try.pinned (OpenSpec.ofChange steerCalmWrong)

/-- 'hotspotlaw32.SteerWire': WHATEVER THE INPUT: true; the input reads as it did. -/
def steerWireSpec : ChangeSpec := { name := "steerWire", fn := fun _ => fun
  | [d1, d2] => { results := [.lit (.bool true)], args := [d1, d2] }
  | _ => none }
def steerWireRow : OpenClaim := { program := "ytlfghljgilmenaa", sum := "4ba8c2498e2d5473a141fd659f2dbef9828f4e401c5c98a01adeafce0c7af6aa", func := "hotspot/hotspotlaw32.SteerWire", spec := "steerWire", inPlace := ["internal/bytealg.Compare"], unfollowed := true, recurses := true, apart := false }
def SteerWireSaid : Prop := steerWireRow.holds Try.pinned (OpenSpec.ofChange steerWireSpec)

/-- ITS FALSE NEIGHBOUR: 'it returns false'. Refute it at one input. -/
def steerWireWrong : ChangeSpec := { name := "steerWire", fn := fun _ => fun
  | [d1, d2] => { results := [.lit (.bool false)], args := [d1, d2] }
  | _ => none }
def SteerWireWrongFalsely : Prop := steerWireRow.holds Try.pinned (OpenSpec.ofChange steerWireWrong)

/-- 'hotspotlaw32.SteerNames': WHATEVER THE INPUT: true; the input reads as it did. -/
def steerNamesSpec : ChangeSpec := { name := "steerNames", fn := fun _ => fun
  | [] => { results := [.lit (.bool true)], args := [] }
  | _ => none }
def steerNamesRow : OpenClaim := { program := "ytlfghljgilmenaa", sum := "4ba8c2498e2d5473a141fd659f2dbef9828f4e401c5c98a01adeafce0c7af6aa", func := "hotspot/hotspotlaw32.SteerNames", spec := "steerNames", inPlace := ["internal/bytealg.Compare"], unfollowed := true, recurses := true, apart := false }
def SteerNamesSaid : Prop := steerNamesRow.holds Try.pinned (OpenSpec.ofChange steerNamesSpec)

/-- ITS FALSE NEIGHBOUR: 'it returns false'. Refute it at one input. -/
def steerNamesWrong : ChangeSpec := { name := "steerNames", fn := fun _ => fun
  | [] => { results := [.lit (.bool false)], args := [] }
  | _ => none }
def SteerNamesWrongFalsely : Prop := steerNamesRow.holds Try.pinned (OpenSpec.ofChange steerNamesWrong)

/- THE SECOND FORM. 'bulk': how many values and letters a reading holds, each counted each time it is reached (what is shared counts as often as it is met; a slice's spare places count too). A statement '..UptoSaid' is the law's where the arguments, and the package variables that the reading takes, are together of bulk at most 1048576: NARROWER than '..Said'. Prove '..Said' where nothing that the law and all that it calls make is longer than what came in: it says more and counts as full. Else prove '..UptoSaid'. A law counts once. -/
mutual
def uptoBulk {H : Type} : DataW H → Nat
  | .lit (.string bytes) => bytes.length + 1
  | .lit _ => 1
  | .nil => 1
  | .ptr d => uptoBulk d + 1
  | .slice elems spare => uptoBulkAll elems + uptoBulkAll spare + 1
  | .agg parts => uptoBulkAll parts + 1
  | .iface _ d => uptoBulk d + 1
  | .map entries => uptoBulkEntries entries + 1
  | .held _ => 1
def uptoBulkAll {H : Type} : List (DataW H) → Nat
  | [] => 0
  | d :: r => uptoBulk d + uptoBulkAll r
def uptoBulkEntries {H : Type} : List (Lit × DataW H) → Nat
  | [] => 0
  | x :: r => uptoBulkEntry x + uptoBulkEntries r
def uptoBulkEntry {H : Type} : Lit × DataW H → Nat
  | (.string bytes, d) => bytes.length + uptoBulk d + 1
  | (_, d) => uptoBulk d + 1
 end
def uptoSmall : (H : Type) → List (DataW H) → Bool := fun _ ds => decide (uptoBulkAll ds ≤ 1048576)
def OpenSpec.upto (s : _root_.Go.ChangeSpec) : _root_.Go.OpenSpec := { _root_.Go.OpenSpec.ofChange s with cond := some uptoSmall }

/-- 'hotspotlaw32.SteerMoves', WHERE WHAT IT READS IS OF BULK AT MOST 1048576: true; the input reads as it did. -/
def steerMovesUptoRow : OpenClaim := { program := "ytlfghljgilmenaa", sum := "4ba8c2498e2d5473a141fd659f2dbef9828f4e401c5c98a01adeafce0c7af6aa", func := "hotspot/hotspotlaw32.SteerMoves", spec := "steerMoves", unfollowed := true, recurses := true, apart := false, narrowed := true }
def SteerMovesUptoSaid : Prop := steerMovesUptoRow.holds Try.pinned (OpenSpec.upto steerMovesSpec)

/-- 'hotspotlaw32.SteerCodes', WHERE WHAT IT READS IS OF BULK AT MOST 1048576: true; the input reads as it did. -/
def steerCodesUptoRow : OpenClaim := { program := "ytlfghljgilmenaa", sum := "4ba8c2498e2d5473a141fd659f2dbef9828f4e401c5c98a01adeafce0c7af6aa", func := "hotspot/hotspotlaw32.SteerCodes", spec := "steerCodes", unfollowed := true, recurses := true, apart := false, narrowed := true }
def SteerCodesUptoSaid : Prop := steerCodesUptoRow.holds Try.pinned (OpenSpec.upto steerCodesSpec)

/-- 'hotspotlaw32.SteerChooses', WHERE WHAT IT READS IS OF BULK AT MOST 1048576: true; the input reads as it did. -/
def steerChoosesUptoRow : OpenClaim := { program := "ytlfghljgilmenaa", sum := "4ba8c2498e2d5473a141fd659f2dbef9828f4e401c5c98a01adeafce0c7af6aa", func := "hotspot/hotspotlaw32.SteerChooses", spec := "steerChooses", inPlace := ["internal/bytealg.Compare"], unfollowed := true, recurses := true, apart := false, narrowed := true }
def SteerChoosesUptoSaid : Prop := steerChoosesUptoRow.holds Try.pinned (OpenSpec.upto steerChoosesSpec)

/-- 'hotspotlaw32.SteerBack', WHERE WHAT IT READS IS OF BULK AT MOST 1048576: true; the input reads as it did. -/
def steerBackUptoRow : OpenClaim := { program := "ytlfghljgilmenaa", sum := "4ba8c2498e2d5473a141fd659f2dbef9828f4e401c5c98a01adeafce0c7af6aa", func := "hotspot/hotspotlaw32.SteerBack", spec := "steerBack", inPlace := ["internal/bytealg.Compare"], unfollowed := true, recurses := true, apart := false, narrowed := true }
def SteerBackUptoSaid : Prop := steerBackUptoRow.holds Try.pinned (OpenSpec.upto steerBackSpec)

/-- 'hotspotlaw32.SteerBest', WHERE WHAT IT READS IS OF BULK AT MOST 1048576: true; the input reads as it did. -/
def steerBestUptoRow : OpenClaim := { program := "ytlfghljgilmenaa", sum := "4ba8c2498e2d5473a141fd659f2dbef9828f4e401c5c98a01adeafce0c7af6aa", func := "hotspot/hotspotlaw32.SteerBest", spec := "steerBest", inPlace := ["internal/bytealg.Compare"], unfollowed := true, recurses := true, apart := false, narrowed := true }
def SteerBestUptoSaid : Prop := steerBestUptoRow.holds Try.pinned (OpenSpec.upto steerBestSpec)

/-- 'hotspotlaw32.SteerCalm', WHERE WHAT IT READS IS OF BULK AT MOST 1048576: true; the input reads as it did. -/
def steerCalmUptoRow : OpenClaim := { program := "ytlfghljgilmenaa", sum := "4ba8c2498e2d5473a141fd659f2dbef9828f4e401c5c98a01adeafce0c7af6aa", func := "hotspot/hotspotlaw32.SteerCalm", spec := "steerCalm", inPlace := ["internal/bytealg.Compare"], unfollowed := true, recurses := true, apart := false, narrowed := true }
def SteerCalmUptoSaid : Prop := steerCalmUptoRow.holds Try.pinned (OpenSpec.upto steerCalmSpec)

/-- 'hotspotlaw32.SteerWire', WHERE WHAT IT READS IS OF BULK AT MOST 1048576: true; the input reads as it did. -/
def steerWireUptoRow : OpenClaim := { program := "ytlfghljgilmenaa", sum := "4ba8c2498e2d5473a141fd659f2dbef9828f4e401c5c98a01adeafce0c7af6aa", func := "hotspot/hotspotlaw32.SteerWire", spec := "steerWire", inPlace := ["internal/bytealg.Compare"], unfollowed := true, recurses := true, apart := false, narrowed := true }
def SteerWireUptoSaid : Prop := steerWireUptoRow.holds Try.pinned (OpenSpec.upto steerWireSpec)

/-- 'hotspotlaw32.SteerNames', WHERE WHAT IT READS IS OF BULK AT MOST 1048576: true; the input reads as it did. -/
def steerNamesUptoRow : OpenClaim := { program := "ytlfghljgilmenaa", sum := "4ba8c2498e2d5473a141fd659f2dbef9828f4e401c5c98a01adeafce0c7af6aa", func := "hotspot/hotspotlaw32.SteerNames", spec := "steerNames", inPlace := ["internal/bytealg.Compare"], unfollowed := true, recurses := true, apart := false, narrowed := true }
def SteerNamesUptoSaid : Prop := steerNamesUptoRow.holds Try.pinned (OpenSpec.upto steerNamesSpec)

end Rows
end Go.Proofs.Ytlfghljgilmenaa
