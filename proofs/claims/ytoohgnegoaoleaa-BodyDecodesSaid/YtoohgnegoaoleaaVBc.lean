/-
  Bodies of frames: the program's encoders.
-/
import Derived.Test.YtoohgnegoaoleaaVBa
import Derived.Test.YtoohgnegoaoleaaXd
namespace Go.Proofs.Ytoohgnegoaoleaa
open Go Go.RowKit Go.Hs
def fxReason (c : Nat) : List UInt8 := wr [] [c] 1
def fxAuth (a s t : Nat) : List UInt8 := wr [] [a, s, t] 3
def fxBeacon (t i c : Nat) : List UInt8 := wr (C01.leB 8 t) [i, c] 2
def fxReq (c l : Nat) (again : Bool) (old : A6) : List UInt8 := wr [] [c, l] 2 ++ (bif again then old.bytes else [])
attribute [local irreducible] WL W WQ PL Runs Effs AllE Ent SubO FrIn Pick OneC Ones CellsE PartsE SeqE UZ By Sl Pt Ct

end Go.Proofs.Ytoohgnegoaoleaa
