/-
  Contracts of the functions of layer 1: reading.
-/
import Derived.Test.YtdhbgolbfkejcaaRows
import Derived.Test.YtdhbgolbfkejcaaLn
namespace Go.Proofs.Ytdhbgolbfkejcaa
open Go Go.RowKit Go.Hs
attribute [local irreducible] WL W WQ PL Runs Effs AllE Ent SubO FrIn Pick OneC Ones CellsE PartsE SeqE UZ By Sl Pt Ct

def okE (len : Nat) (at_ : Int) : Int := if 0 ≤ at_ ∧ at_ ≤ len then 0 else 8

def tkE (len : Nat) (at_ n : Int) : Int := if ¬ (0 ≤ at_ ∧ at_ ≤ len) then 8 else if n < 0 then 2 else if len - at_ < n then 10 else 0
def tkB (xs : List UInt8) (at_ n : Int) : List UInt8 := if tkE xs.length at_ n = 0 then (xs.drop at_.toNat).take n.toNat else []
def tkD (xs : List UInt8) (at_ n : Int) : List UInt8 := if tkE xs.length at_ n = 0 then xs else []
def tkA (len : Nat) (at_ n : Int) : Int := if tkE len at_ n = 0 then at_ + n else 0

end Go.Proofs.Ytdhbgolbfkejcaa
