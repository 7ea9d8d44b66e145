/-
  Bodies of frames: the program's decoders (third part).
-/
import Derived.Test.YtoohgnegoaoleaaVBh
import Derived.Test.YtoohgnegoaoleaaXd
namespace Go.Proofs.Ytoohgnegoaoleaa
open Go Go.RowKit Go.Hs
def a6l (l : List UInt8) : A6 := ⟨l.getD 0 0, l.getD 1 0, l.getD 2 0, l.getD 3 0, l.getD 4 0, l.getD 5 0⟩
/-- what stands ahead of the elements of a request. -/
def rqN (again : Bool) : Nat := bif again then 10 else 4
def rqO (xs : List UInt8) (again : Bool) : A6 := if drE xs (rqN again) = 0 ∧ again = true then a6l ((xs.drop 4).take 6) else zA6
/-- a begin: the error, all in all. -/
def bgE (xs : List UInt8) (size : Nat) : Int := if frE xs.length size = 0 then (if twA xs 0 / 8 % 2 = 1 then 12 else if xs.length = size then 0 else 11) else frE xs.length size
def acB (xs : List UInt8) (i : Nat) : UInt8 := if frE xs.length 3 = 0 then xs.getD i 0 else 0
def acD (xs : List UInt8) : List UInt8 := if frE xs.length 3 = 0 then xs.drop 3 else []
attribute [local irreducible] WL W WQ PL Runs Effs AllE Ent SubO FrIn Pick OneC Ones CellsE PartsE SeqE UZ By Sl Pt Ct

end Go.Proofs.Ytoohgnegoaoleaa
