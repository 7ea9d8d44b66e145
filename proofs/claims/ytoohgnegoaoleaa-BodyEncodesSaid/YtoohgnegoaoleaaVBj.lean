/-
  Bodies of frames: the program's decoders (last part).
-/
import Derived.Test.YtoohgnegoaoleaaVBi
namespace Go.Proofs.Ytoohgnegoaoleaa
open Go Go.RowKit Go.Hs
def z0I (e : Int) (n : Nat) : Int := if e = 0 then (n : Int) else 0
attribute [local irreducible] WL W WQ PL Runs Effs AllE Ent SubO FrIn Pick OneC Ones CellsE PartsE SeqE UZ By Sl Pt Ct

end Go.Proofs.Ytoohgnegoaoleaa
