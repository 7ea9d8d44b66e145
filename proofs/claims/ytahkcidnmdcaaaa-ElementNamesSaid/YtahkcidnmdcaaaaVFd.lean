/-
  The law 'ElementSizes' walked.
-/
import Derived.Test.YtahkcidnmdcaaaaVFb
namespace Go.Proofs.Ytahkcidnmdcaaaa
open Go Go.RowKit Go.Hs
attribute [local irreducible] WL W WQ PL Runs Effs AllE Ent SubO FrIn Pick OneC Ones CellsE PartsE SeqE UZ By Sl Pt Ct

/-- the element of the law, with its Ext. -/
def xE (id ext : UInt8) : UInt8 := if id = 255 then ext else 0
def xF (id ext : UInt8) (data : List UInt8) : Fo := .cons id (xE id ext) data .nil .nil
def xN (id : UInt8) (data : List UInt8) : Nat := if id = 255 then data.length + 1 else data.length
end Go.Proofs.Ytahkcidnmdcaaaa
