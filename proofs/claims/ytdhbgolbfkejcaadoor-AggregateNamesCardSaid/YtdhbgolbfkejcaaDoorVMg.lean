/-
  Packets packed by the reference.
-/
import Derived.Test.YtdhbgolbfkejcaaDoorVMf
namespace Go.Proofs.YtdhbgolbfkejcaaDoor
open Go Go.RowKit Go.Hs C01 C08
theorem ent_alN {Φ : List SP} {n : Nat} {ψ : Nat → SP} (h : n = 0) : Ent Φ (Al n ψ) := fun _ _ _ i hi => absurd hi (by omega)
attribute [local irreducible] WL W WQ PL Runs Effs AllE Ent SubO FrIn Pick OneC Ones CellsE PartsE SeqE UZ By Sl Pt Ct

end Go.Proofs.YtdhbgolbfkejcaaDoor
