/-
  No cell of these rows narrows 'for every input' (looked for: loops, veiled, ifaces, maps, wideKeys, modest, calm, conditions, laid).
  DERIVED. THE GIVEN ROWS OF THIS SEAT. 4 by the template 'for every input the law returns true; each argument reads behind the call as it read before'; 0 by the template 'total and deterministic' (their statements: YtdhbgolbfkejcaaTotals.lean).
  GIVEN WITH THE SEED: the statements are not yours to turn. If you find one false, say at which input.
  Laid BY PROGRAM, IN A SANDBOX (cutbox-rows.mjs): the forced cells as the released guide's own fill.sh prints them over the translation f82bf5b2ebfe1496… (all of the seat's roots in one cut). By AI agents, Wed Nov 11 2026. No macro, syntax, notation, axiom, sorry.
-/
import Derived.Test.YtdhbgolbfkejcaaChecked
import GoSem.Claim
import GoSem.ClaimJoined
import GoSem.ClaimMapViews
import Derived.JoinedTies
import Derived.KernelRfl
namespace Go.Proofs.Ytdhbgolbfkejcaa
/- THE CELL 'sum', in the pinned program and in every row, IS THE sha256 OF THE DUMP (.gsa) THAT YtdhbgolbfkejcaaProg.lean LOADS. Nothing in Lean hashes anything: it is a label: what it is worth is what the hold of that sum in a sandbox is worth. -/
noncomputable def Try.pinned : Pinned := { name := "ytdhbgolbfkejcaa", sum := "f82bf5b2ebfe1496a934f46efa586ebbb09a4990e17caa9b50c30bce0d343c7c", checked := Try.checked }
namespace Rows
def none {H : Type} : Left H := { results := [], args := [] }

/-- 'hotspotlaw08.AggregateWhole': WHATEVER THE INPUT: true; the input reads as it did. -/
def aggregateWholeSpec : ChangeSpec := { name := "aggregateWhole", fn := fun _ => fun
  | [d] => { results := [.lit (.bool true)], args := [d] }
  | _ => none }
def aggregateWholeRow : OpenClaim := { program := "ytdhbgolbfkejcaa", sum := "f82bf5b2ebfe1496a934f46efa586ebbb09a4990e17caa9b50c30bce0d343c7c", func := "hotspot/hotspotlaw08.AggregateWhole", spec := "aggregateWhole", unfollowed := true, recurses := true, apart := false }
def AggregateWholeSaid : Prop := aggregateWholeRow.holds Try.pinned (OpenSpec.ofChange aggregateWholeSpec)

/-- ITS FALSE NEIGHBOUR: 'it returns false'. Refute it at one input. -/
def aggregateWholeWrong : ChangeSpec := { name := "aggregateWhole", fn := fun _ => fun
  | [d] => { results := [.lit (.bool false)], args := [d] }
  | _ => none }
def AggregateWholeWrongFalsely : Prop := aggregateWholeRow.holds Try.pinned (OpenSpec.ofChange aggregateWholeWrong)

/-- 'hotspotlaw08.AggregateDamage': WHATEVER THE INPUT: true; the input reads as it did. -/
def aggregateDamageSpec : ChangeSpec := { name := "aggregateDamage", fn := fun _ => fun
  | [d1, d2, d3, d4] => { results := [.lit (.bool true)], args := [d1, d2, d3, d4] }
  | _ => none }
def aggregateDamageRow : OpenClaim := { program := "ytdhbgolbfkejcaa", sum := "f82bf5b2ebfe1496a934f46efa586ebbb09a4990e17caa9b50c30bce0d343c7c", func := "hotspot/hotspotlaw08.AggregateDamage", spec := "aggregateDamage", unfollowed := true, recurses := true, apart := false }
def AggregateDamageSaid : Prop := aggregateDamageRow.holds Try.pinned (OpenSpec.ofChange aggregateDamageSpec)

/-- ITS FALSE NEIGHBOUR: 'it returns false'. Refute it at one input. -/
def aggregateDamageWrong : ChangeSpec := { name := "aggregateDamage", fn := fun _ => fun
  | [d1, d2, d3, d4] => { results := [.lit (.bool false)], args := [d1, d2, d3, d4] }
  | _ => none }
def AggregateDamageWrongFalsely : Prop := aggregateDamageRow.holds Try.pinned (OpenSpec.ofChange aggregateDamageWrong)

/-- 'hotspotlaw08.AggregateFront': WHATEVER THE INPUT: true; the input reads as it did. -/
def aggregateFrontSpec : ChangeSpec := { name := "aggregateFront", fn := fun _ => fun
  | [d1, d2, d3] => { results := [.lit (.bool true)], args := [d1, d2, d3] }
  | _ => none }
def aggregateFrontRow : OpenClaim := { program := "ytdhbgolbfkejcaa", sum := "f82bf5b2ebfe1496a934f46efa586ebbb09a4990e17caa9b50c30bce0d343c7c", func := "hotspot/hotspotlaw08.AggregateFront", spec := "aggregateFront", unfollowed := true, recurses := true, apart := false }
def AggregateFrontSaid : Prop := aggregateFrontRow.holds Try.pinned (OpenSpec.ofChange aggregateFrontSpec)

/-- ITS FALSE NEIGHBOUR: 'it returns false'. Refute it at one input. -/
def aggregateFrontWrong : ChangeSpec := { name := "aggregateFront", fn := fun _ => fun
  | [d1, d2, d3] => { results := [.lit (.bool false)], args := [d1, d2, d3] }
  | _ => none }
def AggregateFrontWrongFalsely : Prop := aggregateFrontRow.holds Try.pinned (OpenSpec.ofChange aggregateFrontWrong)

/-- 'hotspotlaw08.AggregateLost': WHATEVER THE INPUT: true; the input reads as it did. -/
def aggregateLostSpec : ChangeSpec := { name := "aggregateLost", fn := fun _ => fun
  | [d1, d2, d3] => { results := [.lit (.bool true)], args := [d1, d2, d3] }
  | _ => none }
def aggregateLostRow : OpenClaim := { program := "ytdhbgolbfkejcaa", sum := "f82bf5b2ebfe1496a934f46efa586ebbb09a4990e17caa9b50c30bce0d343c7c", func := "hotspot/hotspotlaw08.AggregateLost", spec := "aggregateLost", unfollowed := true, recurses := true, apart := false }
def AggregateLostSaid : Prop := aggregateLostRow.holds Try.pinned (OpenSpec.ofChange aggregateLostSpec)

/-- ITS FALSE NEIGHBOUR: 'it returns false'. Refute it at one input. -/
def aggregateLostWrong : ChangeSpec := { name := "aggregateLost", fn := fun _ => fun
  | [d1, d2, d3] => { results := [.lit (.bool false)], args := [d1, d2, d3] }
  | _ => none }
def AggregateLostWrongFalsely : Prop := aggregateLostRow.holds Try.pinned (OpenSpec.ofChange aggregateLostWrong)

/- THE SECOND FORM. 'bulk': how many values and letters a reading holds, each counted each time it is reached (what is shared counts as often as it is met; a slice's spare places count too). A statement '..UptoSaid' is the law's where the arguments, and the package variables that the reading takes, are together of bulk at most 1048576: NARROWER than '..Said'. Prove '..Said' where nothing that the law and all that it calls make is longer than what came in: it says more and counts as full. Else prove '..UptoSaid'. A law counts once. -/
mutual
def uptoBulk {H : Type} : DataW H → Nat
  | .lit (.string bytes) => bytes.length + 1
  | .lit _ => 1
  | .nil => 1
  | .ptr d => uptoBulk d + 1
  | .slice elems spare => uptoBulkAll elems + uptoBulkAll spare + 1
  | .agg parts => uptoBulkAll parts + 1
  | .iface _ d => uptoBulk d + 1
  | .map entries => uptoBulkEntries entries + 1
  | .held _ => 1
def uptoBulkAll {H : Type} : List (DataW H) → Nat
  | [] => 0
  | d :: r => uptoBulk d + uptoBulkAll r
def uptoBulkEntries {H : Type} : List (Lit × DataW H) → Nat
  | [] => 0
  | x :: r => uptoBulkEntry x + uptoBulkEntries r
def uptoBulkEntry {H : Type} : Lit × DataW H → Nat
  | (.string bytes, d) => bytes.length + uptoBulk d + 1
  | (_, d) => uptoBulk d + 1
 end
def uptoSmall : (H : Type) → List (DataW H) → Bool := fun _ ds => decide (uptoBulkAll ds ≤ 1048576)
def OpenSpec.upto (s : _root_.Go.ChangeSpec) : _root_.Go.OpenSpec := { _root_.Go.OpenSpec.ofChange s with cond := some uptoSmall }

/-- 'hotspotlaw08.AggregateWhole', WHERE WHAT IT READS IS OF BULK AT MOST 1048576: true; the input reads as it did. -/
def aggregateWholeUptoRow : OpenClaim := { program := "ytdhbgolbfkejcaa", sum := "f82bf5b2ebfe1496a934f46efa586ebbb09a4990e17caa9b50c30bce0d343c7c", func := "hotspot/hotspotlaw08.AggregateWhole", spec := "aggregateWhole", unfollowed := true, recurses := true, apart := false, narrowed := true }
def AggregateWholeUptoSaid : Prop := aggregateWholeUptoRow.holds Try.pinned (OpenSpec.upto aggregateWholeSpec)

/-- 'hotspotlaw08.AggregateDamage', WHERE WHAT IT READS IS OF BULK AT MOST 1048576: true; the input reads as it did. -/
def aggregateDamageUptoRow : OpenClaim := { program := "ytdhbgolbfkejcaa", sum := "f82bf5b2ebfe1496a934f46efa586ebbb09a4990e17caa9b50c30bce0d343c7c", func := "hotspot/hotspotlaw08.AggregateDamage", spec := "aggregateDamage", unfollowed := true, recurses := true, apart := false, narrowed := true }
def AggregateDamageUptoSaid : Prop := aggregateDamageUptoRow.holds Try.pinned (OpenSpec.upto aggregateDamageSpec)

/-- 'hotspotlaw08.AggregateFront', WHERE WHAT IT READS IS OF BULK AT MOST 1048576: true; the input reads as it did. -/
def aggregateFrontUptoRow : OpenClaim := { program := "ytdhbgolbfkejcaa", sum := "f82bf5b2ebfe1496a934f46efa586ebbb09a4990e17caa9b50c30bce0d343c7c", func := "hotspot/hotspotlaw08.AggregateFront", spec := "aggregateFront", unfollowed := true, recurses := true, apart := false, narrowed := true }
def AggregateFrontUptoSaid : Prop := aggregateFrontUptoRow.holds Try.pinned (OpenSpec.upto aggregateFrontSpec)

/-- 'hotspotlaw08.AggregateLost', WHERE WHAT IT READS IS OF BULK AT MOST 1048576: true; the input reads as it did. -/
def aggregateLostUptoRow : OpenClaim := { program := "ytdhbgolbfkejcaa", sum := "f82bf5b2ebfe1496a934f46efa586ebbb09a4990e17caa9b50c30bce0d343c7c", func := "hotspot/hotspotlaw08.AggregateLost", spec := "aggregateLost", unfollowed := true, recurses := true, apart := false, narrowed := true }
def AggregateLostUptoSaid : Prop := aggregateLostUptoRow.holds Try.pinned (OpenSpec.upto aggregateLostSpec)

end Rows
end Go.Proofs.Ytdhbgolbfkejcaa
