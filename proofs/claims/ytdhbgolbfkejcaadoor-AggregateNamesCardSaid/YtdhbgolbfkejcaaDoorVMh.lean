/-
  Lists of packets compared.
-/
import Derived.Test.YtdhbgolbfkejcaaDoorVMg
namespace Go.Proofs.YtdhbgolbfkejcaaDoor
open Go Go.RowKit Go.Hs C01 C08
attribute [local irreducible] WL W WQ PL Runs Effs AllE Ent SubO FrIn Pick OneC Ones CellsE PartsE SeqE UZ By Sl Pt Ct

end Go.Proofs.YtdhbgolbfkejcaaDoor
