/-
  DERIVED. GIVEN WITH THE SEED: THE CARDS: each row of YtdhbgolbfkejcaaDoorRows.lean that lists a variable, with what it lists TIED to the program's text (the seventh form; the later family's looks); each row that meets fmt, with fmt's text TOLD by the authors' own Lean function (tested against real Go, not proved from fmt's source: count such statements apart). THE CARD IS WHAT COUNTS. Prove the row's statement (the work); the ties are given (YtdhbgolbfkejcaaDoorTie.lean); close each card by the builder's one call (the guide's Derived/Test/ToyasCard.lean, 'card_holds'). Laid BY PROGRAM, IN A SANDBOX (cutbox-door.mjs). By AI agents, Wed Nov 11 2026. No macro, syntax, notation, axiom, sorry.
-/
import Derived.Test.YtdhbgolbfkejcaaDoorRows
import GoSem.ClaimSeven
namespace Go.Proofs.YtdhbgolbfkejcaaDoor
namespace Rows

/-- THE TIED CARD OF 'hotspotlaw08.AggregatePacks'. -/
def aggregatePacksCard : Claim7 := { stood := { row := aggregatePacksRow, standIns := [], harness := (true, "c64cc4c611c28ea405319225e50a65f6b6b3d52023eecbf6d782563f99c405a8"), looks := false }, kinds := [], alts := [], laidByText := true, laidKinds := [.data, .pinned], laidTests := true, laidLooks := .later }
def AggregatePacksCardSaid : Prop := Claim7.holds Tryd.pinned (.plain (OpenSpec.ofChange aggregatePacksSpec)) aggregatePacksCard

/-- THE TIED CARD OF 'hotspotlaw08.AggregateBack'. -/
def aggregateBackCard : Claim7 := { stood := { row := aggregateBackRow, standIns := [], harness := (true, "c64cc4c611c28ea405319225e50a65f6b6b3d52023eecbf6d782563f99c405a8"), looks := false }, kinds := [], alts := [], laidByText := true, laidKinds := [.data, .pinned], laidTests := true, laidLooks := .later }
def AggregateBackCardSaid : Prop := Claim7.holds Tryd.pinned (.plain (OpenSpec.ofChange aggregateBackSpec)) aggregateBackCard

/-- THE TIED CARD OF 'hotspotlaw08.AggregateNames'. -/
def aggregateNamesCard : Claim7 := { stood := { row := aggregateNamesRow, standIns := [], harness := (true, "c64cc4c611c28ea405319225e50a65f6b6b3d52023eecbf6d782563f99c405a8"), looks := false }, kinds := [], alts := [], laidByText := true, laidKinds := [.data, .pinned], laidTests := true, laidLooks := .later }
def AggregateNamesCardSaid : Prop := Claim7.holds Tryd.pinned (.plain (OpenSpec.ofChange aggregateNamesSpec)) aggregateNamesCard

/-- THE SECOND FORM's CARD OF 'hotspotlaw08.AggregatePacks'. -/
def aggregatePacksUptoCard : Claim7 := { stood := { row := aggregatePacksUptoRow, standIns := [], harness := (true, "c64cc4c611c28ea405319225e50a65f6b6b3d52023eecbf6d782563f99c405a8"), looks := false }, kinds := [], alts := [], laidByText := true, laidKinds := [.data, .pinned], laidTests := true, laidLooks := .later }
def AggregatePacksUptoCardSaid : Prop := Claim7.holds Tryd.pinned (.plain (OpenSpec.upto aggregatePacksSpec)) aggregatePacksUptoCard

/-- THE SECOND FORM's CARD OF 'hotspotlaw08.AggregateBack'. -/
def aggregateBackUptoCard : Claim7 := { stood := { row := aggregateBackUptoRow, standIns := [], harness := (true, "c64cc4c611c28ea405319225e50a65f6b6b3d52023eecbf6d782563f99c405a8"), looks := false }, kinds := [], alts := [], laidByText := true, laidKinds := [.data, .pinned], laidTests := true, laidLooks := .later }
def AggregateBackUptoCardSaid : Prop := Claim7.holds Tryd.pinned (.plain (OpenSpec.upto aggregateBackSpec)) aggregateBackUptoCard

/-- THE SECOND FORM's CARD OF 'hotspotlaw08.AggregateNames'. -/
def aggregateNamesUptoCard : Claim7 := { stood := { row := aggregateNamesUptoRow, standIns := [], harness := (true, "c64cc4c611c28ea405319225e50a65f6b6b3d52023eecbf6d782563f99c405a8"), looks := false }, kinds := [], alts := [], laidByText := true, laidKinds := [.data, .pinned], laidTests := true, laidLooks := .later }
def AggregateNamesUptoCardSaid : Prop := Claim7.holds Tryd.pinned (.plain (OpenSpec.upto aggregateNamesSpec)) aggregateNamesUptoCard
end Rows
end Go.Proofs.YtdhbgolbfkejcaaDoor
