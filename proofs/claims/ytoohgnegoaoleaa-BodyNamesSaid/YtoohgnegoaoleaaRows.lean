/-
  NARROWER THAN 'FOR EVERY INPUT', by the rows' own cells (each row's printed sentence says how): BodyEncodes: loops · BodyRequests: loops · BodyElements: loops · BodyBack: loops.
  DERIVED. THE GIVEN ROWS OF THIS SEAT. 7 by the template 'for every input the law returns true; each argument reads behind the call as it read before'; 0 by the template 'total and deterministic' (their statements: YtoohgnegoaoleaaTotals.lean).
  GIVEN WITH THE SEED: the statements are not yours to turn. If you find one false, say at which input.
  Laid BY PROGRAM, IN A SANDBOX (cutbox-rows.mjs): the forced cells as the released guide's own fill.sh prints them over the translation 0435093072d5a977… (all of the seat's roots in one cut). By AI agents, Wed Nov 11 2026. No macro, syntax, notation, axiom, sorry.
-/
import Derived.Test.YtoohgnegoaoleaaChecked
import GoSem.Claim
import GoSem.ClaimJoined
import GoSem.ClaimMapViews
import Derived.JoinedTies
import Derived.KernelRfl
namespace Go.Proofs.Ytoohgnegoaoleaa
/- THE CELL 'sum', in the pinned program and in every row, IS THE sha256 OF THE DUMP (.gsa) THAT YtoohgnegoaoleaaProg.lean LOADS. Nothing in Lean hashes anything: it is a label: what it is worth is what the hold of that sum in a sandbox is worth. -/
noncomputable def Try.pinned : Pinned := { name := "ytoohgnegoaoleaa", sum := "0435093072d5a9775028d0b5231a924f8288f9d3a060ec4ec972396683c210e8", checked := Try.checked }
namespace Rows
def none {H : Type} : Left H := { results := [], args := [] }

/-- 'hotspotlaw06.BodyEncodes': WHATEVER THE INPUT: true; the input reads as it did. -/
def bodyEncodesSpec : ChangeSpec := { name := "bodyEncodes", fn := fun _ => fun
  | [d] => { results := [.lit (.bool true)], args := [d] }
  | _ => none }
def bodyEncodesRow : OpenClaim := { program := "ytoohgnegoaoleaa", sum := "0435093072d5a9775028d0b5231a924f8288f9d3a060ec4ec972396683c210e8", func := "hotspot/hotspotlaw06.BodyEncodes", spec := "bodyEncodes", unfollowed := true, recurses := true, loops := true, apart := false }
def BodyEncodesSaid : Prop := bodyEncodesRow.holds Try.pinned (OpenSpec.ofChange bodyEncodesSpec)

/-- ITS FALSE NEIGHBOUR: 'it returns false'. Refute it at one input. -/
def bodyEncodesWrong : ChangeSpec := { name := "bodyEncodes", fn := fun _ => fun
  | [d] => { results := [.lit (.bool false)], args := [d] }
  | _ => none }
def BodyEncodesWrongFalsely : Prop := bodyEncodesRow.holds Try.pinned (OpenSpec.ofChange bodyEncodesWrong)

/-- 'hotspotlaw06.BodyRequests': WHATEVER THE INPUT: true; the input reads as it did. -/
def bodyRequestsSpec : ChangeSpec := { name := "bodyRequests", fn := fun _ => fun
  | [d] => { results := [.lit (.bool true)], args := [d] }
  | _ => none }
def bodyRequestsRow : OpenClaim := { program := "ytoohgnegoaoleaa", sum := "0435093072d5a9775028d0b5231a924f8288f9d3a060ec4ec972396683c210e8", func := "hotspot/hotspotlaw06.BodyRequests", spec := "bodyRequests", unfollowed := true, recurses := true, loops := true, apart := false }
def BodyRequestsSaid : Prop := bodyRequestsRow.holds Try.pinned (OpenSpec.ofChange bodyRequestsSpec)

/-- ITS FALSE NEIGHBOUR: 'it returns false'. Refute it at one input. -/
def bodyRequestsWrong : ChangeSpec := { name := "bodyRequests", fn := fun _ => fun
  | [d] => { results := [.lit (.bool false)], args := [d] }
  | _ => none }
def BodyRequestsWrongFalsely : Prop := bodyRequestsRow.holds Try.pinned (OpenSpec.ofChange bodyRequestsWrong)

/-- 'hotspotlaw06.BodyDecodes': WHATEVER THE INPUT: true; the input reads as it did. -/
def bodyDecodesSpec : ChangeSpec := { name := "bodyDecodes", fn := fun _ => fun
  | [d1, d2] => { results := [.lit (.bool true)], args := [d1, d2] }
  | _ => none }
def bodyDecodesRow : OpenClaim := { program := "ytoohgnegoaoleaa", sum := "0435093072d5a9775028d0b5231a924f8288f9d3a060ec4ec972396683c210e8", func := "hotspot/hotspotlaw06.BodyDecodes", spec := "bodyDecodes", unfollowed := true, recurses := true, apart := false }
def BodyDecodesSaid : Prop := bodyDecodesRow.holds Try.pinned (OpenSpec.ofChange bodyDecodesSpec)

/-- ITS FALSE NEIGHBOUR: 'it returns false'. Refute it at one input. -/
def bodyDecodesWrong : ChangeSpec := { name := "bodyDecodes", fn := fun _ => fun
  | [d1, d2] => { results := [.lit (.bool false)], args := [d1, d2] }
  | _ => none }
def BodyDecodesWrongFalsely : Prop := bodyDecodesRow.holds Try.pinned (OpenSpec.ofChange bodyDecodesWrong)

/-- 'hotspotlaw06.BodyElements': WHATEVER THE INPUT: true; the input reads as it did. -/
def bodyElementsSpec : ChangeSpec := { name := "bodyElements", fn := fun _ => fun
  | [d1, d2] => { results := [.lit (.bool true)], args := [d1, d2] }
  | _ => none }
def bodyElementsRow : OpenClaim := { program := "ytoohgnegoaoleaa", sum := "0435093072d5a9775028d0b5231a924f8288f9d3a060ec4ec972396683c210e8", func := "hotspot/hotspotlaw06.BodyElements", spec := "bodyElements", unfollowed := true, recurses := true, loops := true, apart := false }
def BodyElementsSaid : Prop := bodyElementsRow.holds Try.pinned (OpenSpec.ofChange bodyElementsSpec)

/-- ITS FALSE NEIGHBOUR: 'it returns false'. Refute it at one input. -/
def bodyElementsWrong : ChangeSpec := { name := "bodyElements", fn := fun _ => fun
  | [d1, d2] => { results := [.lit (.bool false)], args := [d1, d2] }
  | _ => none }
def BodyElementsWrongFalsely : Prop := bodyElementsRow.holds Try.pinned (OpenSpec.ofChange bodyElementsWrong)

/-- 'hotspotlaw06.BodyNames': WHATEVER THE INPUT: true; the input reads as it did. -/
def bodyNamesSpec : ChangeSpec := { name := "bodyNames", fn := fun _ => fun
  | [] => { results := [.lit (.bool true)], args := [] }
  | _ => none }
def bodyNamesRow : OpenClaim := { program := "ytoohgnegoaoleaa", sum := "0435093072d5a9775028d0b5231a924f8288f9d3a060ec4ec972396683c210e8", func := "hotspot/hotspotlaw06.BodyNames", spec := "bodyNames", unfollowed := true, recurses := true, apart := false }
def BodyNamesSaid : Prop := bodyNamesRow.holds Try.pinned (OpenSpec.ofChange bodyNamesSpec)

/-- ITS FALSE NEIGHBOUR: 'it returns false'. Refute it at one input. -/
def bodyNamesWrong : ChangeSpec := { name := "bodyNames", fn := fun _ => fun
  | [] => { results := [.lit (.bool false)], args := [] }
  | _ => none }
def BodyNamesWrongFalsely : Prop := bodyNamesRow.holds Try.pinned (OpenSpec.ofChange bodyNamesWrong)

/-- 'hotspotlaw06.BodyBack': WHATEVER THE INPUT: true; the input reads as it did. -/
def bodyBackSpec : ChangeSpec := { name := "bodyBack", fn := fun _ => fun
  | [d] => { results := [.lit (.bool true)], args := [d] }
  | _ => none }
def bodyBackRow : OpenClaim := { program := "ytoohgnegoaoleaa", sum := "0435093072d5a9775028d0b5231a924f8288f9d3a060ec4ec972396683c210e8", func := "hotspot/hotspotlaw06.BodyBack", spec := "bodyBack", unfollowed := true, recurses := true, loops := true, apart := false }
def BodyBackSaid : Prop := bodyBackRow.holds Try.pinned (OpenSpec.ofChange bodyBackSpec)

/-- ITS FALSE NEIGHBOUR: 'it returns false'. Refute it at one input. -/
def bodyBackWrong : ChangeSpec := { name := "bodyBack", fn := fun _ => fun
  | [d] => { results := [.lit (.bool false)], args := [d] }
  | _ => none }
def BodyBackWrongFalsely : Prop := bodyBackRow.holds Try.pinned (OpenSpec.ofChange bodyBackWrong)

/-- 'hotspotlaw06.BodyAgain': WHATEVER THE INPUT: true; the input reads as it did. -/
def bodyAgainSpec : ChangeSpec := { name := "bodyAgain", fn := fun _ => fun
  | [d1, d2] => { results := [.lit (.bool true)], args := [d1, d2] }
  | _ => none }
def bodyAgainRow : OpenClaim := { program := "ytoohgnegoaoleaa", sum := "0435093072d5a9775028d0b5231a924f8288f9d3a060ec4ec972396683c210e8", func := "hotspot/hotspotlaw06.BodyAgain", spec := "bodyAgain", unfollowed := true, recurses := true, apart := false }
def BodyAgainSaid : Prop := bodyAgainRow.holds Try.pinned (OpenSpec.ofChange bodyAgainSpec)

/-- ITS FALSE NEIGHBOUR: 'it returns false'. Refute it at one input. -/
def bodyAgainWrong : ChangeSpec := { name := "bodyAgain", fn := fun _ => fun
  | [d1, d2] => { results := [.lit (.bool false)], args := [d1, d2] }
  | _ => none }
def BodyAgainWrongFalsely : Prop := bodyAgainRow.holds Try.pinned (OpenSpec.ofChange bodyAgainWrong)

/- THE SECOND FORM. 'bulk': how many values and letters a reading holds, each counted each time it is reached (what is shared counts as often as it is met; a slice's spare places count too). A statement '..UptoSaid' is the law's where the arguments, and the package variables that the reading takes, are together of bulk at most 1048576: NARROWER than '..Said'. Prove '..Said' where nothing that the law and all that it calls make is longer than what came in: it says more and counts as full. Else prove '..UptoSaid'. A law counts once. -/
mutual
def uptoBulk {H : Type} : DataW H → Nat
  | .lit (.string bytes) => bytes.length + 1
  | .lit _ => 1
  | .nil => 1
  | .ptr d => uptoBulk d + 1
  | .slice elems spare => uptoBulkAll elems + uptoBulkAll spare + 1
  | .agg parts => uptoBulkAll parts + 1
  | .iface _ d => uptoBulk d + 1
  | .map entries => uptoBulkEntries entries + 1
  | .held _ => 1
def uptoBulkAll {H : Type} : List (DataW H) → Nat
  | [] => 0
  | d :: r => uptoBulk d + uptoBulkAll r
def uptoBulkEntries {H : Type} : List (Lit × DataW H) → Nat
  | [] => 0
  | x :: r => uptoBulkEntry x + uptoBulkEntries r
def uptoBulkEntry {H : Type} : Lit × DataW H → Nat
  | (.string bytes, d) => bytes.length + uptoBulk d + 1
  | (_, d) => uptoBulk d + 1
 end
def uptoSmall : (H : Type) → List (DataW H) → Bool := fun _ ds => decide (uptoBulkAll ds ≤ 1048576)
def OpenSpec.upto (s : _root_.Go.ChangeSpec) : _root_.Go.OpenSpec := { _root_.Go.OpenSpec.ofChange s with cond := some uptoSmall }

/-- 'hotspotlaw06.BodyEncodes', WHERE WHAT IT READS IS OF BULK AT MOST 1048576: true; the input reads as it did. -/
def bodyEncodesUptoRow : OpenClaim := { program := "ytoohgnegoaoleaa", sum := "0435093072d5a9775028d0b5231a924f8288f9d3a060ec4ec972396683c210e8", func := "hotspot/hotspotlaw06.BodyEncodes", spec := "bodyEncodes", unfollowed := true, recurses := true, loops := true, apart := false, narrowed := true }
def BodyEncodesUptoSaid : Prop := bodyEncodesUptoRow.holds Try.pinned (OpenSpec.upto bodyEncodesSpec)

/-- 'hotspotlaw06.BodyRequests', WHERE WHAT IT READS IS OF BULK AT MOST 1048576: true; the input reads as it did. -/
def bodyRequestsUptoRow : OpenClaim := { program := "ytoohgnegoaoleaa", sum := "0435093072d5a9775028d0b5231a924f8288f9d3a060ec4ec972396683c210e8", func := "hotspot/hotspotlaw06.BodyRequests", spec := "bodyRequests", unfollowed := true, recurses := true, loops := true, apart := false, narrowed := true }
def BodyRequestsUptoSaid : Prop := bodyRequestsUptoRow.holds Try.pinned (OpenSpec.upto bodyRequestsSpec)

/-- 'hotspotlaw06.BodyDecodes', WHERE WHAT IT READS IS OF BULK AT MOST 1048576: true; the input reads as it did. -/
def bodyDecodesUptoRow : OpenClaim := { program := "ytoohgnegoaoleaa", sum := "0435093072d5a9775028d0b5231a924f8288f9d3a060ec4ec972396683c210e8", func := "hotspot/hotspotlaw06.BodyDecodes", spec := "bodyDecodes", unfollowed := true, recurses := true, apart := false, narrowed := true }
def BodyDecodesUptoSaid : Prop := bodyDecodesUptoRow.holds Try.pinned (OpenSpec.upto bodyDecodesSpec)

/-- 'hotspotlaw06.BodyElements', WHERE WHAT IT READS IS OF BULK AT MOST 1048576: true; the input reads as it did. -/
def bodyElementsUptoRow : OpenClaim := { program := "ytoohgnegoaoleaa", sum := "0435093072d5a9775028d0b5231a924f8288f9d3a060ec4ec972396683c210e8", func := "hotspot/hotspotlaw06.BodyElements", spec := "bodyElements", unfollowed := true, recurses := true, loops := true, apart := false, narrowed := true }
def BodyElementsUptoSaid : Prop := bodyElementsUptoRow.holds Try.pinned (OpenSpec.upto bodyElementsSpec)

/-- 'hotspotlaw06.BodyNames', WHERE WHAT IT READS IS OF BULK AT MOST 1048576: true; the input reads as it did. -/
def bodyNamesUptoRow : OpenClaim := { program := "ytoohgnegoaoleaa", sum := "0435093072d5a9775028d0b5231a924f8288f9d3a060ec4ec972396683c210e8", func := "hotspot/hotspotlaw06.BodyNames", spec := "bodyNames", unfollowed := true, recurses := true, apart := false, narrowed := true }
def BodyNamesUptoSaid : Prop := bodyNamesUptoRow.holds Try.pinned (OpenSpec.upto bodyNamesSpec)

/-- 'hotspotlaw06.BodyBack', WHERE WHAT IT READS IS OF BULK AT MOST 1048576: true; the input reads as it did. -/
def bodyBackUptoRow : OpenClaim := { program := "ytoohgnegoaoleaa", sum := "0435093072d5a9775028d0b5231a924f8288f9d3a060ec4ec972396683c210e8", func := "hotspot/hotspotlaw06.BodyBack", spec := "bodyBack", unfollowed := true, recurses := true, loops := true, apart := false, narrowed := true }
def BodyBackUptoSaid : Prop := bodyBackUptoRow.holds Try.pinned (OpenSpec.upto bodyBackSpec)

/-- 'hotspotlaw06.BodyAgain', WHERE WHAT IT READS IS OF BULK AT MOST 1048576: true; the input reads as it did. -/
def bodyAgainUptoRow : OpenClaim := { program := "ytoohgnegoaoleaa", sum := "0435093072d5a9775028d0b5231a924f8288f9d3a060ec4ec972396683c210e8", func := "hotspot/hotspotlaw06.BodyAgain", spec := "bodyAgain", unfollowed := true, recurses := true, apart := false, narrowed := true }
def BodyAgainUptoSaid : Prop := bodyAgainUptoRow.holds Try.pinned (OpenSpec.upto bodyAgainSpec)

end Rows
end Go.Proofs.Ytoohgnegoaoleaa
