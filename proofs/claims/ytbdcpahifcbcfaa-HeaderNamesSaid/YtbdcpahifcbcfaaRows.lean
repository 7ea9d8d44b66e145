/-
  No cell of these rows narrows 'for every input' (looked for: loops, veiled, ifaces, maps, wideKeys, modest, calm, conditions, laid).
  DERIVED. THE GIVEN ROWS OF THIS SEAT. 7 by the template 'for every input the law returns true; each argument reads behind the call as it read before'; 0 by the template 'total and deterministic' (their statements: YtbdcpahifcbcfaaTotals.lean).
  GIVEN WITH THE SEED: the statements are not yours to turn. If you find one false, say at which input.
  Laid BY PROGRAM, IN A SANDBOX (cutbox-rows.mjs): the forced cells as the released guide's own fill.sh prints them over the translation 9ae2cc3bb0a7048b… (all of the seat's roots in one cut). By AI agents, Wed Nov 11 2026. No macro, syntax, notation, axiom, sorry.
-/
import Derived.Test.YtbdcpahifcbcfaaChecked
import GoSem.Claim
import GoSem.ClaimJoined
import GoSem.ClaimMapViews
import Derived.JoinedTies
import Derived.KernelRfl
namespace Go.Proofs.Ytbdcpahifcbcfaa
/- THE CELL 'sum', in the pinned program and in every row, IS THE sha256 OF THE DUMP (.gsa) THAT YtbdcpahifcbcfaaProg.lean LOADS. Nothing in Lean hashes anything: it is a label: what it is worth is what the hold of that sum in a sandbox is worth. -/
noncomputable def Try.pinned : Pinned := { name := "ytbdcpahifcbcfaa", sum := "9ae2cc3bb0a7048b6cf8b3d674c075161fb032830b5154083ae59ca463b8353e", checked := Try.checked }
namespace Rows
def none {H : Type} : Left H := { results := [], args := [] }

/-- 'hotspotlaw05.HeaderDecodes': WHATEVER THE INPUT: true; the input reads as it did. -/
def headerDecodesSpec : ChangeSpec := { name := "headerDecodes", fn := fun _ => fun
  | [d] => { results := [.lit (.bool true)], args := [d] }
  | _ => none }
def headerDecodesRow : OpenClaim := { program := "ytbdcpahifcbcfaa", sum := "9ae2cc3bb0a7048b6cf8b3d674c075161fb032830b5154083ae59ca463b8353e", func := "hotspot/hotspotlaw05.HeaderDecodes", spec := "headerDecodes", unfollowed := true, recurses := true, apart := false }
def HeaderDecodesSaid : Prop := headerDecodesRow.holds Try.pinned (OpenSpec.ofChange headerDecodesSpec)

/-- ITS FALSE NEIGHBOUR: 'it returns false'. Refute it at one input. -/
def headerDecodesWrong : ChangeSpec := { name := "headerDecodes", fn := fun _ => fun
  | [d] => { results := [.lit (.bool false)], args := [d] }
  | _ => none }
def HeaderDecodesWrongFalsely : Prop := headerDecodesRow.holds Try.pinned (OpenSpec.ofChange headerDecodesWrong)

/-- 'hotspotlaw05.HeaderEncodes': WHATEVER THE INPUT: true; the input reads as it did. -/
def headerEncodesSpec : ChangeSpec := { name := "headerEncodes", fn := fun _ => fun
  | [d1, d2, d3] => { results := [.lit (.bool true)], args := [d1, d2, d3] }
  | _ => none }
def headerEncodesRow : OpenClaim := { program := "ytbdcpahifcbcfaa", sum := "9ae2cc3bb0a7048b6cf8b3d674c075161fb032830b5154083ae59ca463b8353e", func := "hotspot/hotspotlaw05.HeaderEncodes", spec := "headerEncodes", unfollowed := true, recurses := true, apart := false }
def HeaderEncodesSaid : Prop := headerEncodesRow.holds Try.pinned (OpenSpec.ofChange headerEncodesSpec)

/-- ITS FALSE NEIGHBOUR: 'it returns false'. Refute it at one input. -/
def headerEncodesWrong : ChangeSpec := { name := "headerEncodes", fn := fun _ => fun
  | [d1, d2, d3] => { results := [.lit (.bool false)], args := [d1, d2, d3] }
  | _ => none }
def HeaderEncodesWrongFalsely : Prop := headerEncodesRow.holds Try.pinned (OpenSpec.ofChange headerEncodesWrong)

/-- 'hotspotlaw05.HeaderBack': WHATEVER THE INPUT: true; the input reads as it did. -/
def headerBackSpec : ChangeSpec := { name := "headerBack", fn := fun _ => fun
  | [d1, d2] => { results := [.lit (.bool true)], args := [d1, d2] }
  | _ => none }
def headerBackRow : OpenClaim := { program := "ytbdcpahifcbcfaa", sum := "9ae2cc3bb0a7048b6cf8b3d674c075161fb032830b5154083ae59ca463b8353e", func := "hotspot/hotspotlaw05.HeaderBack", spec := "headerBack", unfollowed := true, recurses := true, apart := false }
def HeaderBackSaid : Prop := headerBackRow.holds Try.pinned (OpenSpec.ofChange headerBackSpec)

/-- ITS FALSE NEIGHBOUR: 'it returns false'. Refute it at one input. -/
def headerBackWrong : ChangeSpec := { name := "headerBack", fn := fun _ => fun
  | [d1, d2] => { results := [.lit (.bool false)], args := [d1, d2] }
  | _ => none }
def HeaderBackWrongFalsely : Prop := headerBackRow.holds Try.pinned (OpenSpec.ofChange headerBackWrong)

/-- 'hotspotlaw05.HeaderDamage': WHATEVER THE INPUT: true; the input reads as it did. -/
def headerDamageSpec : ChangeSpec := { name := "headerDamage", fn := fun _ => fun
  | [d1, d2, d3, d4] => { results := [.lit (.bool true)], args := [d1, d2, d3, d4] }
  | _ => none }
def headerDamageRow : OpenClaim := { program := "ytbdcpahifcbcfaa", sum := "9ae2cc3bb0a7048b6cf8b3d674c075161fb032830b5154083ae59ca463b8353e", func := "hotspot/hotspotlaw05.HeaderDamage", spec := "headerDamage", unfollowed := true, recurses := true, apart := false }
def HeaderDamageSaid : Prop := headerDamageRow.holds Try.pinned (OpenSpec.ofChange headerDamageSpec)

/-- ITS FALSE NEIGHBOUR: 'it returns false'. Refute it at one input. -/
def headerDamageWrong : ChangeSpec := { name := "headerDamage", fn := fun _ => fun
  | [d1, d2, d3, d4] => { results := [.lit (.bool false)], args := [d1, d2, d3, d4] }
  | _ => none }
def HeaderDamageWrongFalsely : Prop := headerDamageRow.holds Try.pinned (OpenSpec.ofChange headerDamageWrong)

/-- 'hotspotlaw05.HeaderSizes': WHATEVER THE INPUT: true; the input reads as it did. -/
def headerSizesSpec : ChangeSpec := { name := "headerSizes", fn := fun _ => fun
  | [d1, d2, d3] => { results := [.lit (.bool true)], args := [d1, d2, d3] }
  | _ => none }
def headerSizesRow : OpenClaim := { program := "ytbdcpahifcbcfaa", sum := "9ae2cc3bb0a7048b6cf8b3d674c075161fb032830b5154083ae59ca463b8353e", func := "hotspot/hotspotlaw05.HeaderSizes", spec := "headerSizes", unfollowed := true, recurses := true, apart := false }
def HeaderSizesSaid : Prop := headerSizesRow.holds Try.pinned (OpenSpec.ofChange headerSizesSpec)

/-- ITS FALSE NEIGHBOUR: 'it returns false'. Refute it at one input. -/
def headerSizesWrong : ChangeSpec := { name := "headerSizes", fn := fun _ => fun
  | [d1, d2, d3] => { results := [.lit (.bool false)], args := [d1, d2, d3] }
  | _ => none }
def HeaderSizesWrongFalsely : Prop := headerSizesRow.holds Try.pinned (OpenSpec.ofChange headerSizesWrong)

/-- 'hotspotlaw05.HeaderEnds': WHATEVER THE INPUT: true; the input reads as it did. -/
def headerEndsSpec : ChangeSpec := { name := "headerEnds", fn := fun _ => fun
  | [d1, d2, d3, d4, d5] => { results := [.lit (.bool true)], args := [d1, d2, d3, d4, d5] }
  | _ => none }
def headerEndsRow : OpenClaim := { program := "ytbdcpahifcbcfaa", sum := "9ae2cc3bb0a7048b6cf8b3d674c075161fb032830b5154083ae59ca463b8353e", func := "hotspot/hotspotlaw05.HeaderEnds", spec := "headerEnds", unfollowed := true, recurses := true, apart := false }
def HeaderEndsSaid : Prop := headerEndsRow.holds Try.pinned (OpenSpec.ofChange headerEndsSpec)

/-- ITS FALSE NEIGHBOUR: 'it returns false'. Refute it at one input. -/
def headerEndsWrong : ChangeSpec := { name := "headerEnds", fn := fun _ => fun
  | [d1, d2, d3, d4, d5] => { results := [.lit (.bool false)], args := [d1, d2, d3, d4, d5] }
  | _ => none }
def HeaderEndsWrongFalsely : Prop := headerEndsRow.holds Try.pinned (OpenSpec.ofChange headerEndsWrong)

/-- 'hotspotlaw05.HeaderNames': WHATEVER THE INPUT: true; the input reads as it did. -/
def headerNamesSpec : ChangeSpec := { name := "headerNames", fn := fun _ => fun
  | [] => { results := [.lit (.bool true)], args := [] }
  | _ => none }
def headerNamesRow : OpenClaim := { program := "ytbdcpahifcbcfaa", sum := "9ae2cc3bb0a7048b6cf8b3d674c075161fb032830b5154083ae59ca463b8353e", func := "hotspot/hotspotlaw05.HeaderNames", spec := "headerNames", unfollowed := true, recurses := true, apart := false }
def HeaderNamesSaid : Prop := headerNamesRow.holds Try.pinned (OpenSpec.ofChange headerNamesSpec)

/-- ITS FALSE NEIGHBOUR: 'it returns false'. Refute it at one input. -/
def headerNamesWrong : ChangeSpec := { name := "headerNames", fn := fun _ => fun
  | [] => { results := [.lit (.bool false)], args := [] }
  | _ => none }
def HeaderNamesWrongFalsely : Prop := headerNamesRow.holds Try.pinned (OpenSpec.ofChange headerNamesWrong)

/- THE SECOND FORM. 'bulk': how many values and letters a reading holds, each counted each time it is reached (what is shared counts as often as it is met; a slice's spare places count too). A statement '..UptoSaid' is the law's where the arguments, and the package variables that the reading takes, are together of bulk at most 1048576: NARROWER than '..Said'. Prove '..Said' where nothing that the law and all that it calls make is longer than what came in: it says more and counts as full. Else prove '..UptoSaid'. A law counts once. -/
mutual
def uptoBulk {H : Type} : DataW H → Nat
  | .lit (.string bytes) => bytes.length + 1
  | .lit _ => 1
  | .nil => 1
  | .ptr d => uptoBulk d + 1
  | .slice elems spare => uptoBulkAll elems + uptoBulkAll spare + 1
  | .agg parts => uptoBulkAll parts + 1
  | .iface _ d => uptoBulk d + 1
  | .map entries => uptoBulkEntries entries + 1
  | .held _ => 1
def uptoBulkAll {H : Type} : List (DataW H) → Nat
  | [] => 0
  | d :: r => uptoBulk d + uptoBulkAll r
def uptoBulkEntries {H : Type} : List (Lit × DataW H) → Nat
  | [] => 0
  | x :: r => uptoBulkEntry x + uptoBulkEntries r
def uptoBulkEntry {H : Type} : Lit × DataW H → Nat
  | (.string bytes, d) => bytes.length + uptoBulk d + 1
  | (_, d) => uptoBulk d + 1
 end
def uptoSmall : (H : Type) → List (DataW H) → Bool := fun _ ds => decide (uptoBulkAll ds ≤ 1048576)
def OpenSpec.upto (s : _root_.Go.ChangeSpec) : _root_.Go.OpenSpec := { _root_.Go.OpenSpec.ofChange s with cond := some uptoSmall }

/-- 'hotspotlaw05.HeaderDecodes', WHERE WHAT IT READS IS OF BULK AT MOST 1048576: true; the input reads as it did. -/
def headerDecodesUptoRow : OpenClaim := { program := "ytbdcpahifcbcfaa", sum := "9ae2cc3bb0a7048b6cf8b3d674c075161fb032830b5154083ae59ca463b8353e", func := "hotspot/hotspotlaw05.HeaderDecodes", spec := "headerDecodes", unfollowed := true, recurses := true, apart := false, narrowed := true }
def HeaderDecodesUptoSaid : Prop := headerDecodesUptoRow.holds Try.pinned (OpenSpec.upto headerDecodesSpec)

/-- 'hotspotlaw05.HeaderEncodes', WHERE WHAT IT READS IS OF BULK AT MOST 1048576: true; the input reads as it did. -/
def headerEncodesUptoRow : OpenClaim := { program := "ytbdcpahifcbcfaa", sum := "9ae2cc3bb0a7048b6cf8b3d674c075161fb032830b5154083ae59ca463b8353e", func := "hotspot/hotspotlaw05.HeaderEncodes", spec := "headerEncodes", unfollowed := true, recurses := true, apart := false, narrowed := true }
def HeaderEncodesUptoSaid : Prop := headerEncodesUptoRow.holds Try.pinned (OpenSpec.upto headerEncodesSpec)

/-- 'hotspotlaw05.HeaderBack', WHERE WHAT IT READS IS OF BULK AT MOST 1048576: true; the input reads as it did. -/
def headerBackUptoRow : OpenClaim := { program := "ytbdcpahifcbcfaa", sum := "9ae2cc3bb0a7048b6cf8b3d674c075161fb032830b5154083ae59ca463b8353e", func := "hotspot/hotspotlaw05.HeaderBack", spec := "headerBack", unfollowed := true, recurses := true, apart := false, narrowed := true }
def HeaderBackUptoSaid : Prop := headerBackUptoRow.holds Try.pinned (OpenSpec.upto headerBackSpec)

/-- 'hotspotlaw05.HeaderDamage', WHERE WHAT IT READS IS OF BULK AT MOST 1048576: true; the input reads as it did. -/
def headerDamageUptoRow : OpenClaim := { program := "ytbdcpahifcbcfaa", sum := "9ae2cc3bb0a7048b6cf8b3d674c075161fb032830b5154083ae59ca463b8353e", func := "hotspot/hotspotlaw05.HeaderDamage", spec := "headerDamage", unfollowed := true, recurses := true, apart := false, narrowed := true }
def HeaderDamageUptoSaid : Prop := headerDamageUptoRow.holds Try.pinned (OpenSpec.upto headerDamageSpec)

/-- 'hotspotlaw05.HeaderSizes', WHERE WHAT IT READS IS OF BULK AT MOST 1048576: true; the input reads as it did. -/
def headerSizesUptoRow : OpenClaim := { program := "ytbdcpahifcbcfaa", sum := "9ae2cc3bb0a7048b6cf8b3d674c075161fb032830b5154083ae59ca463b8353e", func := "hotspot/hotspotlaw05.HeaderSizes", spec := "headerSizes", unfollowed := true, recurses := true, apart := false, narrowed := true }
def HeaderSizesUptoSaid : Prop := headerSizesUptoRow.holds Try.pinned (OpenSpec.upto headerSizesSpec)

/-- 'hotspotlaw05.HeaderEnds', WHERE WHAT IT READS IS OF BULK AT MOST 1048576: true; the input reads as it did. -/
def headerEndsUptoRow : OpenClaim := { program := "ytbdcpahifcbcfaa", sum := "9ae2cc3bb0a7048b6cf8b3d674c075161fb032830b5154083ae59ca463b8353e", func := "hotspot/hotspotlaw05.HeaderEnds", spec := "headerEnds", unfollowed := true, recurses := true, apart := false, narrowed := true }
def HeaderEndsUptoSaid : Prop := headerEndsUptoRow.holds Try.pinned (OpenSpec.upto headerEndsSpec)

/-- 'hotspotlaw05.HeaderNames', WHERE WHAT IT READS IS OF BULK AT MOST 1048576: true; the input reads as it did. -/
def headerNamesUptoRow : OpenClaim := { program := "ytbdcpahifcbcfaa", sum := "9ae2cc3bb0a7048b6cf8b3d674c075161fb032830b5154083ae59ca463b8353e", func := "hotspot/hotspotlaw05.HeaderNames", spec := "headerNames", unfollowed := true, recurses := true, apart := false, narrowed := true }
def HeaderNamesUptoSaid : Prop := headerNamesUptoRow.holds Try.pinned (OpenSpec.upto headerNamesSpec)

end Rows
end Go.Proofs.Ytbdcpahifcbcfaa
