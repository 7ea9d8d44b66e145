/-
  Bodies of frames: the reader's further contracts.
-/
import Derived.Test.YtoohgnegoaoleaaVBb
import Derived.Test.YtoohgnegoaoleaaXc
namespace Go.Proofs.Ytoohgnegoaoleaa
open Go Go.RowKit Go.Hs
def dlF (ys : List UInt8) : Fo := (C04.dec ys.length ys 1 0).1
def dlE (ys : List UInt8) : Int := (C04.dec ys.length ys 1 0).2.2
def reF (xs : List UInt8) (at_ : Nat) (e : Int) : Fo := if e = 0 then dlF (xs.drop at_) else .nil
def reE (xs : List UInt8) (at_ : Nat) (e : Int) : Int := if e = 0 then dlE (xs.drop at_) else e
def rqI (is : Bool) (x e : Int) : Int := if e = 0 ∧ is = false then x else e
attribute [local irreducible] WL W WQ PL Runs Effs AllE Ent SubO FrIn Pick OneC Ones CellsE PartsE SeqE UZ By Sl Pt Ct

end Go.Proofs.Ytoohgnegoaoleaa
