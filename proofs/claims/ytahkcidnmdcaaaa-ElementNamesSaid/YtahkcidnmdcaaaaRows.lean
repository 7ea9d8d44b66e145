/-
  NARROWER THAN 'FOR EVERY INPUT', by the rows' own cells (each row's printed sentence says how): ElementBack: loops · ElementJoins: loops · ElementUnknown: loops · ElementEncodes: loops · ElementFinds: loops.
  DERIVED. THE GIVEN ROWS OF THIS SEAT. 8 by the template 'for every input the law returns true; each argument reads behind the call as it read before'; 0 by the template 'total and deterministic' (their statements: YtahkcidnmdcaaaaTotals.lean).
  GIVEN WITH THE SEED: the statements are not yours to turn. If you find one false, say at which input.
  Laid BY PROGRAM, IN A SANDBOX (cutbox-rows.mjs): the forced cells as the released guide's own fill.sh prints them over the translation fc57737eb6ad2506… (all of the seat's roots in one cut). By AI agents, Wed Nov 11 2026. No macro, syntax, notation, axiom, sorry.
-/
import Derived.Test.YtahkcidnmdcaaaaChecked
import GoSem.Claim
import GoSem.ClaimJoined
import GoSem.ClaimMapViews
import Derived.JoinedTies
import Derived.KernelRfl
namespace Go.Proofs.Ytahkcidnmdcaaaa
/- THE CELL 'sum', in the pinned program and in every row, IS THE sha256 OF THE DUMP (.gsa) THAT YtahkcidnmdcaaaaProg.lean LOADS. Nothing in Lean hashes anything: it is a label: what it is worth is what the hold of that sum in a sandbox is worth. -/
noncomputable def Try.pinned : Pinned := { name := "ytahkcidnmdcaaaa", sum := "fc57737eb6ad2506af063ee39d2acac47c3b43652c9df8f892b53bc8ed82c53b", checked := Try.checked }
namespace Rows
def none {H : Type} : Left H := { results := [], args := [] }

/-- 'hotspotlaw04.ElementDecodes': WHATEVER THE INPUT: true; the input reads as it did. -/
def elementDecodesSpec : ChangeSpec := { name := "elementDecodes", fn := fun _ => fun
  | [d] => { results := [.lit (.bool true)], args := [d] }
  | _ => none }
def elementDecodesRow : OpenClaim := { program := "ytahkcidnmdcaaaa", sum := "fc57737eb6ad2506af063ee39d2acac47c3b43652c9df8f892b53bc8ed82c53b", func := "hotspot/hotspotlaw04.ElementDecodes", spec := "elementDecodes", unfollowed := true, recurses := true, apart := false }
def ElementDecodesSaid : Prop := elementDecodesRow.holds Try.pinned (OpenSpec.ofChange elementDecodesSpec)

/-- ITS FALSE NEIGHBOUR: 'it returns false'. Refute it at one input. -/
def elementDecodesWrong : ChangeSpec := { name := "elementDecodes", fn := fun _ => fun
  | [d] => { results := [.lit (.bool false)], args := [d] }
  | _ => none }
def ElementDecodesWrongFalsely : Prop := elementDecodesRow.holds Try.pinned (OpenSpec.ofChange elementDecodesWrong)

/-- 'hotspotlaw04.ElementBack': WHATEVER THE INPUT: true; the input reads as it did. -/
def elementBackSpec : ChangeSpec := { name := "elementBack", fn := fun _ => fun
  | [d1, d2] => { results := [.lit (.bool true)], args := [d1, d2] }
  | _ => none }
def elementBackRow : OpenClaim := { program := "ytahkcidnmdcaaaa", sum := "fc57737eb6ad2506af063ee39d2acac47c3b43652c9df8f892b53bc8ed82c53b", func := "hotspot/hotspotlaw04.ElementBack", spec := "elementBack", unfollowed := true, recurses := true, loops := true, apart := false }
def ElementBackSaid : Prop := elementBackRow.holds Try.pinned (OpenSpec.ofChange elementBackSpec)

/-- ITS FALSE NEIGHBOUR: 'it returns false'. Refute it at one input. -/
def elementBackWrong : ChangeSpec := { name := "elementBack", fn := fun _ => fun
  | [d1, d2] => { results := [.lit (.bool false)], args := [d1, d2] }
  | _ => none }
def ElementBackWrongFalsely : Prop := elementBackRow.holds Try.pinned (OpenSpec.ofChange elementBackWrong)

/-- 'hotspotlaw04.ElementJoins': WHATEVER THE INPUT: true; the input reads as it did. -/
def elementJoinsSpec : ChangeSpec := { name := "elementJoins", fn := fun _ => fun
  | [d1, d2] => { results := [.lit (.bool true)], args := [d1, d2] }
  | _ => none }
def elementJoinsRow : OpenClaim := { program := "ytahkcidnmdcaaaa", sum := "fc57737eb6ad2506af063ee39d2acac47c3b43652c9df8f892b53bc8ed82c53b", func := "hotspot/hotspotlaw04.ElementJoins", spec := "elementJoins", unfollowed := true, recurses := true, loops := true, apart := false }
def ElementJoinsSaid : Prop := elementJoinsRow.holds Try.pinned (OpenSpec.ofChange elementJoinsSpec)

/-- ITS FALSE NEIGHBOUR: 'it returns false'. Refute it at one input. -/
def elementJoinsWrong : ChangeSpec := { name := "elementJoins", fn := fun _ => fun
  | [d1, d2] => { results := [.lit (.bool false)], args := [d1, d2] }
  | _ => none }
def ElementJoinsWrongFalsely : Prop := elementJoinsRow.holds Try.pinned (OpenSpec.ofChange elementJoinsWrong)

/-- 'hotspotlaw04.ElementUnknown': WHATEVER THE INPUT: true; the input reads as it did. -/
def elementUnknownSpec : ChangeSpec := { name := "elementUnknown", fn := fun _ => fun
  | [d1, d2] => { results := [.lit (.bool true)], args := [d1, d2] }
  | _ => none }
def elementUnknownRow : OpenClaim := { program := "ytahkcidnmdcaaaa", sum := "fc57737eb6ad2506af063ee39d2acac47c3b43652c9df8f892b53bc8ed82c53b", func := "hotspot/hotspotlaw04.ElementUnknown", spec := "elementUnknown", unfollowed := true, recurses := true, loops := true, apart := false }
def ElementUnknownSaid : Prop := elementUnknownRow.holds Try.pinned (OpenSpec.ofChange elementUnknownSpec)

/-- ITS FALSE NEIGHBOUR: 'it returns false'. Refute it at one input. -/
def elementUnknownWrong : ChangeSpec := { name := "elementUnknown", fn := fun _ => fun
  | [d1, d2] => { results := [.lit (.bool false)], args := [d1, d2] }
  | _ => none }
def ElementUnknownWrongFalsely : Prop := elementUnknownRow.holds Try.pinned (OpenSpec.ofChange elementUnknownWrong)

/-- 'hotspotlaw04.ElementSizes': WHATEVER THE INPUT: true; the input reads as it did. -/
def elementSizesSpec : ChangeSpec := { name := "elementSizes", fn := fun _ => fun
  | [d1, d2, d3] => { results := [.lit (.bool true)], args := [d1, d2, d3] }
  | _ => none }
def elementSizesRow : OpenClaim := { program := "ytahkcidnmdcaaaa", sum := "fc57737eb6ad2506af063ee39d2acac47c3b43652c9df8f892b53bc8ed82c53b", func := "hotspot/hotspotlaw04.ElementSizes", spec := "elementSizes", unfollowed := true, recurses := true, apart := false }
def ElementSizesSaid : Prop := elementSizesRow.holds Try.pinned (OpenSpec.ofChange elementSizesSpec)

/-- ITS FALSE NEIGHBOUR: 'it returns false'. Refute it at one input. -/
def elementSizesWrong : ChangeSpec := { name := "elementSizes", fn := fun _ => fun
  | [d1, d2, d3] => { results := [.lit (.bool false)], args := [d1, d2, d3] }
  | _ => none }
def ElementSizesWrongFalsely : Prop := elementSizesRow.holds Try.pinned (OpenSpec.ofChange elementSizesWrong)

/-- 'hotspotlaw04.ElementEncodes': WHATEVER THE INPUT: true; the input reads as it did. -/
def elementEncodesSpec : ChangeSpec := { name := "elementEncodes", fn := fun _ => fun
  | [d1, d2, d3, d4] => { results := [.lit (.bool true)], args := [d1, d2, d3, d4] }
  | _ => none }
def elementEncodesRow : OpenClaim := { program := "ytahkcidnmdcaaaa", sum := "fc57737eb6ad2506af063ee39d2acac47c3b43652c9df8f892b53bc8ed82c53b", func := "hotspot/hotspotlaw04.ElementEncodes", spec := "elementEncodes", unfollowed := true, recurses := true, loops := true, apart := false }
def ElementEncodesSaid : Prop := elementEncodesRow.holds Try.pinned (OpenSpec.ofChange elementEncodesSpec)

/-- ITS FALSE NEIGHBOUR: 'it returns false'. Refute it at one input. -/
def elementEncodesWrong : ChangeSpec := { name := "elementEncodes", fn := fun _ => fun
  | [d1, d2, d3, d4] => { results := [.lit (.bool false)], args := [d1, d2, d3, d4] }
  | _ => none }
def ElementEncodesWrongFalsely : Prop := elementEncodesRow.holds Try.pinned (OpenSpec.ofChange elementEncodesWrong)

/-- 'hotspotlaw04.ElementNames': WHATEVER THE INPUT: true; the input reads as it did. -/
def elementNamesSpec : ChangeSpec := { name := "elementNames", fn := fun _ => fun
  | [] => { results := [.lit (.bool true)], args := [] }
  | _ => none }
def elementNamesRow : OpenClaim := { program := "ytahkcidnmdcaaaa", sum := "fc57737eb6ad2506af063ee39d2acac47c3b43652c9df8f892b53bc8ed82c53b", func := "hotspot/hotspotlaw04.ElementNames", spec := "elementNames", unfollowed := true, recurses := true, apart := false }
def ElementNamesSaid : Prop := elementNamesRow.holds Try.pinned (OpenSpec.ofChange elementNamesSpec)

/-- ITS FALSE NEIGHBOUR: 'it returns false'. Refute it at one input. -/
def elementNamesWrong : ChangeSpec := { name := "elementNames", fn := fun _ => fun
  | [] => { results := [.lit (.bool false)], args := [] }
  | _ => none }
def ElementNamesWrongFalsely : Prop := elementNamesRow.holds Try.pinned (OpenSpec.ofChange elementNamesWrong)

/-- 'hotspotlaw04.ElementFinds': WHATEVER THE INPUT: true; the input reads as it did. -/
def elementFindsSpec : ChangeSpec := { name := "elementFinds", fn := fun _ => fun
  | [d1, d2, d3] => { results := [.lit (.bool true)], args := [d1, d2, d3] }
  | _ => none }
def elementFindsRow : OpenClaim := { program := "ytahkcidnmdcaaaa", sum := "fc57737eb6ad2506af063ee39d2acac47c3b43652c9df8f892b53bc8ed82c53b", func := "hotspot/hotspotlaw04.ElementFinds", spec := "elementFinds", unfollowed := true, recurses := true, loops := true, apart := false }
def ElementFindsSaid : Prop := elementFindsRow.holds Try.pinned (OpenSpec.ofChange elementFindsSpec)

/-- ITS FALSE NEIGHBOUR: 'it returns false'. Refute it at one input. -/
def elementFindsWrong : ChangeSpec := { name := "elementFinds", fn := fun _ => fun
  | [d1, d2, d3] => { results := [.lit (.bool false)], args := [d1, d2, d3] }
  | _ => none }
def ElementFindsWrongFalsely : Prop := elementFindsRow.holds Try.pinned (OpenSpec.ofChange elementFindsWrong)

/- THE SECOND FORM. 'bulk': how many values and letters a reading holds, each counted each time it is reached (what is shared counts as often as it is met; a slice's spare places count too). A statement '..UptoSaid' is the law's where the arguments, and the package variables that the reading takes, are together of bulk at most 1048576: NARROWER than '..Said'. Prove '..Said' where nothing that the law and all that it calls make is longer than what came in: it says more and counts as full. Else prove '..UptoSaid'. A law counts once. -/
mutual
def uptoBulk {H : Type} : DataW H → Nat
  | .lit (.string bytes) => bytes.length + 1
  | .lit _ => 1
  | .nil => 1
  | .ptr d => uptoBulk d + 1
  | .slice elems spare => uptoBulkAll elems + uptoBulkAll spare + 1
  | .agg parts => uptoBulkAll parts + 1
  | .iface _ d => uptoBulk d + 1
  | .map entries => uptoBulkEntries entries + 1
  | .held _ => 1
def uptoBulkAll {H : Type} : List (DataW H) → Nat
  | [] => 0
  | d :: r => uptoBulk d + uptoBulkAll r
def uptoBulkEntries {H : Type} : List (Lit × DataW H) → Nat
  | [] => 0
  | x :: r => uptoBulkEntry x + uptoBulkEntries r
def uptoBulkEntry {H : Type} : Lit × DataW H → Nat
  | (.string bytes, d) => bytes.length + uptoBulk d + 1
  | (_, d) => uptoBulk d + 1
 end
def uptoSmall : (H : Type) → List (DataW H) → Bool := fun _ ds => decide (uptoBulkAll ds ≤ 1048576)
def OpenSpec.upto (s : _root_.Go.ChangeSpec) : _root_.Go.OpenSpec := { _root_.Go.OpenSpec.ofChange s with cond := some uptoSmall }

/-- 'hotspotlaw04.ElementDecodes', WHERE WHAT IT READS IS OF BULK AT MOST 1048576: true; the input reads as it did. -/
def elementDecodesUptoRow : OpenClaim := { program := "ytahkcidnmdcaaaa", sum := "fc57737eb6ad2506af063ee39d2acac47c3b43652c9df8f892b53bc8ed82c53b", func := "hotspot/hotspotlaw04.ElementDecodes", spec := "elementDecodes", unfollowed := true, recurses := true, apart := false, narrowed := true }
def ElementDecodesUptoSaid : Prop := elementDecodesUptoRow.holds Try.pinned (OpenSpec.upto elementDecodesSpec)

/-- 'hotspotlaw04.ElementBack', WHERE WHAT IT READS IS OF BULK AT MOST 1048576: true; the input reads as it did. -/
def elementBackUptoRow : OpenClaim := { program := "ytahkcidnmdcaaaa", sum := "fc57737eb6ad2506af063ee39d2acac47c3b43652c9df8f892b53bc8ed82c53b", func := "hotspot/hotspotlaw04.ElementBack", spec := "elementBack", unfollowed := true, recurses := true, loops := true, apart := false, narrowed := true }
def ElementBackUptoSaid : Prop := elementBackUptoRow.holds Try.pinned (OpenSpec.upto elementBackSpec)

/-- 'hotspotlaw04.ElementJoins', WHERE WHAT IT READS IS OF BULK AT MOST 1048576: true; the input reads as it did. -/
def elementJoinsUptoRow : OpenClaim := { program := "ytahkcidnmdcaaaa", sum := "fc57737eb6ad2506af063ee39d2acac47c3b43652c9df8f892b53bc8ed82c53b", func := "hotspot/hotspotlaw04.ElementJoins", spec := "elementJoins", unfollowed := true, recurses := true, loops := true, apart := false, narrowed := true }
def ElementJoinsUptoSaid : Prop := elementJoinsUptoRow.holds Try.pinned (OpenSpec.upto elementJoinsSpec)

/-- 'hotspotlaw04.ElementUnknown', WHERE WHAT IT READS IS OF BULK AT MOST 1048576: true; the input reads as it did. -/
def elementUnknownUptoRow : OpenClaim := { program := "ytahkcidnmdcaaaa", sum := "fc57737eb6ad2506af063ee39d2acac47c3b43652c9df8f892b53bc8ed82c53b", func := "hotspot/hotspotlaw04.ElementUnknown", spec := "elementUnknown", unfollowed := true, recurses := true, loops := true, apart := false, narrowed := true }
def ElementUnknownUptoSaid : Prop := elementUnknownUptoRow.holds Try.pinned (OpenSpec.upto elementUnknownSpec)

/-- 'hotspotlaw04.ElementSizes', WHERE WHAT IT READS IS OF BULK AT MOST 1048576: true; the input reads as it did. -/
def elementSizesUptoRow : OpenClaim := { program := "ytahkcidnmdcaaaa", sum := "fc57737eb6ad2506af063ee39d2acac47c3b43652c9df8f892b53bc8ed82c53b", func := "hotspot/hotspotlaw04.ElementSizes", spec := "elementSizes", unfollowed := true, recurses := true, apart := false, narrowed := true }
def ElementSizesUptoSaid : Prop := elementSizesUptoRow.holds Try.pinned (OpenSpec.upto elementSizesSpec)

/-- 'hotspotlaw04.ElementEncodes', WHERE WHAT IT READS IS OF BULK AT MOST 1048576: true; the input reads as it did. -/
def elementEncodesUptoRow : OpenClaim := { program := "ytahkcidnmdcaaaa", sum := "fc57737eb6ad2506af063ee39d2acac47c3b43652c9df8f892b53bc8ed82c53b", func := "hotspot/hotspotlaw04.ElementEncodes", spec := "elementEncodes", unfollowed := true, recurses := true, loops := true, apart := false, narrowed := true }
def ElementEncodesUptoSaid : Prop := elementEncodesUptoRow.holds Try.pinned (OpenSpec.upto elementEncodesSpec)

/-- 'hotspotlaw04.ElementNames', WHERE WHAT IT READS IS OF BULK AT MOST 1048576: true; the input reads as it did. -/
def elementNamesUptoRow : OpenClaim := { program := "ytahkcidnmdcaaaa", sum := "fc57737eb6ad2506af063ee39d2acac47c3b43652c9df8f892b53bc8ed82c53b", func := "hotspot/hotspotlaw04.ElementNames", spec := "elementNames", unfollowed := true, recurses := true, apart := false, narrowed := true }
def ElementNamesUptoSaid : Prop := elementNamesUptoRow.holds Try.pinned (OpenSpec.upto elementNamesSpec)

/-- 'hotspotlaw04.ElementFinds', WHERE WHAT IT READS IS OF BULK AT MOST 1048576: true; the input reads as it did. -/
def elementFindsUptoRow : OpenClaim := { program := "ytahkcidnmdcaaaa", sum := "fc57737eb6ad2506af063ee39d2acac47c3b43652c9df8f892b53bc8ed82c53b", func := "hotspot/hotspotlaw04.ElementFinds", spec := "elementFinds", unfollowed := true, recurses := true, loops := true, apart := false, narrowed := true }
def ElementFindsUptoSaid : Prop := elementFindsUptoRow.holds Try.pinned (OpenSpec.upto elementFindsSpec)

end Rows
end Go.Proofs.Ytahkcidnmdcaaaa
