/-
  The content of an element, as the reference reads it.
-/
import Derived.Test.YtahkcidnmdcaaaaVEa
namespace Go.Proofs.Ytahkcidnmdcaaaa
open Go Go.RowKit Go.Hs
attribute [local irreducible] WL W WQ PL Runs Effs AllE Ent SubO FrIn Pick OneC Ones CellsE PartsE SeqE UZ By Sl Pt Ct

end Go.Proofs.Ytahkcidnmdcaaaa
