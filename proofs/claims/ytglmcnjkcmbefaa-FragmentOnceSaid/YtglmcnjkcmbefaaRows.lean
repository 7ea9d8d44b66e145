/-
  No cell of these rows narrows 'for every input' (looked for: loops, veiled, ifaces, maps, wideKeys, modest, calm, conditions, laid).
  DERIVED. THE GIVEN ROWS OF THIS SEAT. 6 by the template 'for every input the law returns true; each argument reads behind the call as it read before'; 0 by the template 'total and deterministic' (their statements: YtglmcnjkcmbefaaTotals.lean).
  GIVEN WITH THE SEED: the statements are not yours to turn. If you find one false, say at which input.
  Laid BY PROGRAM, IN A SANDBOX (cutbox-rows.mjs): the forced cells as the released guide's own fill.sh prints them over the translation fa8c1a99a01f6f0a… (all of the seat's roots in one cut). By AI agents, Wed Nov 11 2026. No macro, syntax, notation, axiom, sorry.
-/
import Derived.Test.YtglmcnjkcmbefaaChecked
import GoSem.Claim
import GoSem.ClaimJoined
import GoSem.ClaimMapViews
import Derived.JoinedTies
import Derived.KernelRfl
namespace Go.Proofs.Ytglmcnjkcmbefaa
/- THE CELL 'sum', in the pinned program and in every row, IS THE sha256 OF THE DUMP (.gsa) THAT YtglmcnjkcmbefaaProg.lean LOADS. Nothing in Lean hashes anything: it is a label: what it is worth is what the hold of that sum in a sandbox is worth. -/
noncomputable def Try.pinned : Pinned := { name := "ytglmcnjkcmbefaa", sum := "fa8c1a99a01f6f0a58108b13c2ed28e5630f9f0e85daf6913405132cae1545c7", checked := Try.checked }
namespace Rows
def none {H : Type} : Left H := { results := [], args := [] }

/-- 'hotspotlaw07.FragmentCuts': WHATEVER THE INPUT: true; the input reads as it did. -/
def fragmentCutsSpec : ChangeSpec := { name := "fragmentCuts", fn := fun _ => fun
  | [d1, d2] => { results := [.lit (.bool true)], args := [d1, d2] }
  | _ => none }
def fragmentCutsRow : OpenClaim := { program := "ytglmcnjkcmbefaa", sum := "fa8c1a99a01f6f0a58108b13c2ed28e5630f9f0e85daf6913405132cae1545c7", func := "hotspot/hotspotlaw07.FragmentCuts", spec := "fragmentCuts", unfollowed := true, recurses := true, plainKeys := false, apart := false }
def FragmentCutsSaid : Prop := fragmentCutsRow.holds Try.pinned (OpenSpec.ofChange fragmentCutsSpec)

/-- ITS FALSE NEIGHBOUR: 'it returns false'. Refute it at one input. -/
def fragmentCutsWrong : ChangeSpec := { name := "fragmentCuts", fn := fun _ => fun
  | [d1, d2] => { results := [.lit (.bool false)], args := [d1, d2] }
  | _ => none }
def FragmentCutsWrongFalsely : Prop := fragmentCutsRow.holds Try.pinned (OpenSpec.ofChange fragmentCutsWrong)

/-- 'hotspotlaw07.FragmentNames': WHATEVER THE INPUT: true; the input reads as it did. -/
def fragmentNamesSpec : ChangeSpec := { name := "fragmentNames", fn := fun _ => fun
  | [] => { results := [.lit (.bool true)], args := [] }
  | _ => none }
def fragmentNamesRow : OpenClaim := { program := "ytglmcnjkcmbefaa", sum := "fa8c1a99a01f6f0a58108b13c2ed28e5630f9f0e85daf6913405132cae1545c7", func := "hotspot/hotspotlaw07.FragmentNames", spec := "fragmentNames", unfollowed := true, recurses := true, plainKeys := false, apart := false }
def FragmentNamesSaid : Prop := fragmentNamesRow.holds Try.pinned (OpenSpec.ofChange fragmentNamesSpec)

/-- ITS FALSE NEIGHBOUR: 'it returns false'. Refute it at one input. -/
def fragmentNamesWrong : ChangeSpec := { name := "fragmentNames", fn := fun _ => fun
  | [] => { results := [.lit (.bool false)], args := [] }
  | _ => none }
def FragmentNamesWrongFalsely : Prop := fragmentNamesRow.holds Try.pinned (OpenSpec.ofChange fragmentNamesWrong)

/-- 'hotspotlaw07.FragmentPieces': WHATEVER THE INPUT: true; the input reads as it did. -/
def fragmentPiecesSpec : ChangeSpec := { name := "fragmentPieces", fn := fun _ => fun
  | [d1, d2] => { results := [.lit (.bool true)], args := [d1, d2] }
  | _ => none }
def fragmentPiecesRow : OpenClaim := { program := "ytglmcnjkcmbefaa", sum := "fa8c1a99a01f6f0a58108b13c2ed28e5630f9f0e85daf6913405132cae1545c7", func := "hotspot/hotspotlaw07.FragmentPieces", spec := "fragmentPieces", unfollowed := true, recurses := true, plainKeys := false, apart := false }
def FragmentPiecesSaid : Prop := fragmentPiecesRow.holds Try.pinned (OpenSpec.ofChange fragmentPiecesSpec)

/-- ITS FALSE NEIGHBOUR: 'it returns false'. Refute it at one input. -/
def fragmentPiecesWrong : ChangeSpec := { name := "fragmentPieces", fn := fun _ => fun
  | [d1, d2] => { results := [.lit (.bool false)], args := [d1, d2] }
  | _ => none }
def FragmentPiecesWrongFalsely : Prop := fragmentPiecesRow.holds Try.pinned (OpenSpec.ofChange fragmentPiecesWrong)

/-- 'hotspotlaw07.FragmentTrue': WHATEVER THE INPUT: true; the input reads as it did. -/
def fragmentTrueSpec : ChangeSpec := { name := "fragmentTrue", fn := fun _ => fun
  | [d1, d2, d3] => { results := [.lit (.bool true)], args := [d1, d2, d3] }
  | _ => none }
def fragmentTrueRow : OpenClaim := { program := "ytglmcnjkcmbefaa", sum := "fa8c1a99a01f6f0a58108b13c2ed28e5630f9f0e85daf6913405132cae1545c7", func := "hotspot/hotspotlaw07.FragmentTrue", spec := "fragmentTrue", unfollowed := true, recurses := true, plainKeys := false, apart := false }
def FragmentTrueSaid : Prop := fragmentTrueRow.holds Try.pinned (OpenSpec.ofChange fragmentTrueSpec)

/-- ITS FALSE NEIGHBOUR: 'it returns false'. Refute it at one input. -/
def fragmentTrueWrong : ChangeSpec := { name := "fragmentTrue", fn := fun _ => fun
  | [d1, d2, d3] => { results := [.lit (.bool false)], args := [d1, d2, d3] }
  | _ => none }
def FragmentTrueWrongFalsely : Prop := fragmentTrueRow.holds Try.pinned (OpenSpec.ofChange fragmentTrueWrong)

/-- 'hotspotlaw07.FragmentOnce': WHATEVER THE INPUT: true; the input reads as it did. -/
def fragmentOnceSpec : ChangeSpec := { name := "fragmentOnce", fn := fun _ => fun
  | [d1, d2, d3, d4] => { results := [.lit (.bool true)], args := [d1, d2, d3, d4] }
  | _ => none }
def fragmentOnceRow : OpenClaim := { program := "ytglmcnjkcmbefaa", sum := "fa8c1a99a01f6f0a58108b13c2ed28e5630f9f0e85daf6913405132cae1545c7", func := "hotspot/hotspotlaw07.FragmentOnce", spec := "fragmentOnce", unfollowed := true, recurses := true, plainKeys := false, apart := false }
def FragmentOnceSaid : Prop := fragmentOnceRow.holds Try.pinned (OpenSpec.ofChange fragmentOnceSpec)

/-- ITS FALSE NEIGHBOUR: 'it returns false'. Refute it at one input. -/
def fragmentOnceWrong : ChangeSpec := { name := "fragmentOnce", fn := fun _ => fun
  | [d1, d2, d3, d4] => { results := [.lit (.bool false)], args := [d1, d2, d3, d4] }
  | _ => none }
def FragmentOnceWrongFalsely : Prop := fragmentOnceRow.holds Try.pinned (OpenSpec.ofChange fragmentOnceWrong)

/-- 'hotspotlaw07.FragmentOld': WHATEVER THE INPUT: true; the input reads as it did. -/
def fragmentOldSpec : ChangeSpec := { name := "fragmentOld", fn := fun _ => fun
  | [d1, d2, d3, d4] => { results := [.lit (.bool true)], args := [d1, d2, d3, d4] }
  | _ => none }
def fragmentOldRow : OpenClaim := { program := "ytglmcnjkcmbefaa", sum := "fa8c1a99a01f6f0a58108b13c2ed28e5630f9f0e85daf6913405132cae1545c7", func := "hotspot/hotspotlaw07.FragmentOld", spec := "fragmentOld", unfollowed := true, recurses := true, plainKeys := false, apart := false }
def FragmentOldSaid : Prop := fragmentOldRow.holds Try.pinned (OpenSpec.ofChange fragmentOldSpec)

/-- ITS FALSE NEIGHBOUR: 'it returns false'. Refute it at one input. -/
def fragmentOldWrong : ChangeSpec := { name := "fragmentOld", fn := fun _ => fun
  | [d1, d2, d3, d4] => { results := [.lit (.bool false)], args := [d1, d2, d3, d4] }
  | _ => none }
def FragmentOldWrongFalsely : Prop := fragmentOldRow.holds Try.pinned (OpenSpec.ofChange fragmentOldWrong)

/- THE SECOND FORM. 'bulk': how many values and letters a reading holds, each counted each time it is reached (what is shared counts as often as it is met; a slice's spare places count too). A statement '..UptoSaid' is the law's where the arguments, and the package variables that the reading takes, are together of bulk at most 1048576: NARROWER than '..Said'. Prove '..Said' where nothing that the law and all that it calls make is longer than what came in: it says more and counts as full. Else prove '..UptoSaid'. A law counts once. -/
mutual
def uptoBulk {H : Type} : DataW H → Nat
  | .lit (.string bytes) => bytes.length + 1
  | .lit _ => 1
  | .nil => 1
  | .ptr d => uptoBulk d + 1
  | .slice elems spare => uptoBulkAll elems + uptoBulkAll spare + 1
  | .agg parts => uptoBulkAll parts + 1
  | .iface _ d => uptoBulk d + 1
  | .map entries => uptoBulkEntries entries + 1
  | .held _ => 1
def uptoBulkAll {H : Type} : List (DataW H) → Nat
  | [] => 0
  | d :: r => uptoBulk d + uptoBulkAll r
def uptoBulkEntries {H : Type} : List (Lit × DataW H) → Nat
  | [] => 0
  | x :: r => uptoBulkEntry x + uptoBulkEntries r
def uptoBulkEntry {H : Type} : Lit × DataW H → Nat
  | (.string bytes, d) => bytes.length + uptoBulk d + 1
  | (_, d) => uptoBulk d + 1
 end
def uptoSmall : (H : Type) → List (DataW H) → Bool := fun _ ds => decide (uptoBulkAll ds ≤ 1048576)
def OpenSpec.upto (s : _root_.Go.ChangeSpec) : _root_.Go.OpenSpec := { _root_.Go.OpenSpec.ofChange s with cond := some uptoSmall }

/-- 'hotspotlaw07.FragmentCuts', WHERE WHAT IT READS IS OF BULK AT MOST 1048576: true; the input reads as it did. -/
def fragmentCutsUptoRow : OpenClaim := { program := "ytglmcnjkcmbefaa", sum := "fa8c1a99a01f6f0a58108b13c2ed28e5630f9f0e85daf6913405132cae1545c7", func := "hotspot/hotspotlaw07.FragmentCuts", spec := "fragmentCuts", unfollowed := true, recurses := true, plainKeys := false, apart := false, narrowed := true }
def FragmentCutsUptoSaid : Prop := fragmentCutsUptoRow.holds Try.pinned (OpenSpec.upto fragmentCutsSpec)

/-- 'hotspotlaw07.FragmentNames', WHERE WHAT IT READS IS OF BULK AT MOST 1048576: true; the input reads as it did. -/
def fragmentNamesUptoRow : OpenClaim := { program := "ytglmcnjkcmbefaa", sum := "fa8c1a99a01f6f0a58108b13c2ed28e5630f9f0e85daf6913405132cae1545c7", func := "hotspot/hotspotlaw07.FragmentNames", spec := "fragmentNames", unfollowed := true, recurses := true, plainKeys := false, apart := false, narrowed := true }
def FragmentNamesUptoSaid : Prop := fragmentNamesUptoRow.holds Try.pinned (OpenSpec.upto fragmentNamesSpec)

/-- 'hotspotlaw07.FragmentPieces', WHERE WHAT IT READS IS OF BULK AT MOST 1048576: true; the input reads as it did. -/
def fragmentPiecesUptoRow : OpenClaim := { program := "ytglmcnjkcmbefaa", sum := "fa8c1a99a01f6f0a58108b13c2ed28e5630f9f0e85daf6913405132cae1545c7", func := "hotspot/hotspotlaw07.FragmentPieces", spec := "fragmentPieces", unfollowed := true, recurses := true, plainKeys := false, apart := false, narrowed := true }
def FragmentPiecesUptoSaid : Prop := fragmentPiecesUptoRow.holds Try.pinned (OpenSpec.upto fragmentPiecesSpec)

/-- 'hotspotlaw07.FragmentTrue', WHERE WHAT IT READS IS OF BULK AT MOST 1048576: true; the input reads as it did. -/
def fragmentTrueUptoRow : OpenClaim := { program := "ytglmcnjkcmbefaa", sum := "fa8c1a99a01f6f0a58108b13c2ed28e5630f9f0e85daf6913405132cae1545c7", func := "hotspot/hotspotlaw07.FragmentTrue", spec := "fragmentTrue", unfollowed := true, recurses := true, plainKeys := false, apart := false, narrowed := true }
def FragmentTrueUptoSaid : Prop := fragmentTrueUptoRow.holds Try.pinned (OpenSpec.upto fragmentTrueSpec)

/-- 'hotspotlaw07.FragmentOnce', WHERE WHAT IT READS IS OF BULK AT MOST 1048576: true; the input reads as it did. -/
def fragmentOnceUptoRow : OpenClaim := { program := "ytglmcnjkcmbefaa", sum := "fa8c1a99a01f6f0a58108b13c2ed28e5630f9f0e85daf6913405132cae1545c7", func := "hotspot/hotspotlaw07.FragmentOnce", spec := "fragmentOnce", unfollowed := true, recurses := true, plainKeys := false, apart := false, narrowed := true }
def FragmentOnceUptoSaid : Prop := fragmentOnceUptoRow.holds Try.pinned (OpenSpec.upto fragmentOnceSpec)

/-- 'hotspotlaw07.FragmentOld', WHERE WHAT IT READS IS OF BULK AT MOST 1048576: true; the input reads as it did. -/
def fragmentOldUptoRow : OpenClaim := { program := "ytglmcnjkcmbefaa", sum := "fa8c1a99a01f6f0a58108b13c2ed28e5630f9f0e85daf6913405132cae1545c7", func := "hotspot/hotspotlaw07.FragmentOld", spec := "fragmentOld", unfollowed := true, recurses := true, plainKeys := false, apart := false, narrowed := true }
def FragmentOldUptoSaid : Prop := fragmentOldUptoRow.holds Try.pinned (OpenSpec.upto fragmentOldSpec)

end Rows
end Go.Proofs.Ytglmcnjkcmbefaa
