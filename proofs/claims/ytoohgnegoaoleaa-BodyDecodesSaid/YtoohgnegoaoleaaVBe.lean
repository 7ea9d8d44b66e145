/-
  Bodies of frames: the program's encoders without elements.
-/
import Derived.Test.YtoohgnegoaoleaaVBd
namespace Go.Proofs.Ytoohgnegoaoleaa
open Go Go.RowKit Go.Hs
def acF (c k t : UInt8) : List UInt8 := [c, k, t]
def stP (tid first : Int) : Bool := (decide (tid < 0) || decide (7 < tid)) || (decide (first < 0) || decide (4095 < first))
def stE (tid first : Int) : Int := if stP tid first = true then 8 else 0
def stN (tid first : Int) : Nat := tid.toNat + 16 * first.toNat
def baY (tid first : Int) : List UInt8 := if stP tid first = true then [] else le2 (stN tid first)
def bkY (tid first : Int) (bits : Nat) : List UInt8 := if stP tid first = true then [] else le2 (stN tid first) ++ C01.leB 8 bits
attribute [local irreducible] WL W WQ PL Runs Effs AllE Ent SubO FrIn Pick OneC Ones CellsE PartsE SeqE UZ By Sl Pt Ct

end Go.Proofs.Ytoohgnegoaoleaa
