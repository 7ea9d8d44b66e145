/-
  Packets packed by the reference; lists that are too large.
-/
import Derived.Test.YtdhbgolbfkejcaaDoorVMe
namespace Go.Proofs.YtdhbgolbfkejcaaDoor
open Go Go.RowKit Go.Hs C01 C08
/-- what stands when i entries are written. -/
def pdx (fs : List (List UInt8)) (i : Nat) : List UInt8 := if i < fs.length then pj (fs.take i) else jg fs
attribute [local irreducible] WL W WQ PL Runs Effs AllE Ent SubO FrIn Pick OneC Ones CellsE PartsE SeqE UZ By Sl Pt Ct

end Go.Proofs.YtdhbgolbfkejcaaDoor
