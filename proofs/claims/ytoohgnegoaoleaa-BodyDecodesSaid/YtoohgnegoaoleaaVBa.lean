/-
  Bodies of frames: what is written, and the writer's contracts.
-/
import Derived.Test.YtoohgnegoaoleaaRows
import Derived.Test.YtoohgnegoaoleaaXd
import Derived.Test.YtoohgnegoaoleaaXc
namespace Go.Proofs.Ytoohgnegoaoleaa
open Go Go.RowKit Go.Hs
def le2 (v : Nat) : List UInt8 := C01.leB 2 v
/-- numbers of two bytes behind a list, up to a place. -/
def wr (bs : List UInt8) (l : List Nat) : Nat → List UInt8
  | 0 => bs
  | k + 1 => wr bs l k ++ le2 (l.getD k 0)
def u16s (l : List Nat) : List Value := l.map fun v : Nat => Value.int .u16 ((v : Nat) : Int)
/-- the end of a body: the fixed part, then the bytes. -/
def edE (n m : Nat) : Int := if 2304 < n + m then 11 else 0
def edY (bs cs : List UInt8) : List UInt8 := if edE bs.length cs.length = 0 then bs ++ cs else []
/-- fixed fields followed by elements. -/
def fiE (bs : List UInt8) (f : Fo) : Int := if C04.chk f = 0 then edE bs.length (C04.enc f).length else C04.chk f
def fiY (bs : List UInt8) (f : Fo) : List UInt8 := if fiE bs f = 0 then bs ++ C04.enc f else []
attribute [local irreducible] WL W WQ PL Runs Effs AllE Ent SubO FrIn Pick OneC Ones CellsE PartsE SeqE UZ By Sl Pt Ct

end Go.Proofs.Ytoohgnegoaoleaa
