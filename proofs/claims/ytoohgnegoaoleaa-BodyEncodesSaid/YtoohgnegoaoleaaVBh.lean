/-
  Bodies of frames: the program's decoders (second part).
-/
import Derived.Test.YtoohgnegoaoleaaVBg
namespace Go.Proofs.Ytoohgnegoaoleaa
open Go Go.RowKit Go.Hs
def e8 (xs : List UInt8) (k : Nat) : Nat := C01.leN ((xs.drop k).take 8)
attribute [local irreducible] WL W WQ PL Runs Effs AllE Ent SubO FrIn Pick OneC Ones CellsE PartsE SeqE UZ By Sl Pt Ct

/-- the error of an association response: that of the number comes ahead of that of the elements. -/
def rpE (xs : List UInt8) : Int := if frE xs.length 6 = 0 ∧ 255 < twA xs 4 then 12 else drE xs 6
def rpF (xs : List UInt8) : Fo := if rpE xs = 0 then dlF (xs.drop 6) else .nil

end Go.Proofs.Ytoohgnegoaoleaa
