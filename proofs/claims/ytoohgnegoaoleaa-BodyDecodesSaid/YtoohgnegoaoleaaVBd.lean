/-
  Bodies of frames: the program's encoders, further ones.
-/
import Derived.Test.YtoohgnegoaoleaaVBc
import Derived.Test.YtoohgnegoaoleaaXd
import Derived.Test.YtoohgnegoaoleaaXc
namespace Go.Proofs.Ytoohgnegoaoleaa
open Go Go.RowKit Go.Hs
def rqP (again : Bool) (old : A6) : Bool := !again && !decide (old = zA6)
def rqE (c l : Nat) (again : Bool) (old : A6) (f : Fo) : Int := if rqP again old = true then 8 else fiE (fxReq c l again old) f
def rqY (c l : Nat) (again : Bool) (old : A6) (f : Fo) : List UInt8 := if rqP again old = true then [] else fiY (fxReq c l again old) f
def fxResp (c s a : Nat) : List UInt8 := wr [] [c, s, a] 3
def rsP (a : Int) : Bool := decide (a < 0) || decide (255 < a)
def rsE (c s : Nat) (a : Int) (f : Fo) : Int := if rsP a = true then 8 else fiE (fxResp c s a.toNat) f
def rsY (c s : Nat) (a : Int) (f : Fo) : List UInt8 := if rsP a = true then [] else fiY (fxResp c s a.toNat) f
attribute [local irreducible] WL W WQ PL Runs Effs AllE Ent SubO FrIn Pick OneC Ones CellsE PartsE SeqE UZ By Sl Pt Ct

end Go.Proofs.Ytoohgnegoaoleaa
