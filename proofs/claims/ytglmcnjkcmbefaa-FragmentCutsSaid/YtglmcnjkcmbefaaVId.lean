/-
  Lists of partial frames: one taken out, the oldest.
-/
import Derived.Test.YtglmcnjkcmbefaaVIc
namespace Go.Proofs.Ytglmcnjkcmbefaa
open Go Go.RowKit Go.Hs C05
def mnP : Pa → List Pa → Pa
  | m, [] => m
  | m, x :: r => mnP (if x.since - m.since < 0 then x else m) r
def minP (l : List Pa) : Pa := mnP (l.getD 0 p0_) (l.drop 1)
attribute [local irreducible] WL W WQ PL Runs Effs AllE Ent SubO FrIn Pick OneC Ones CellsE PartsE SeqE UZ By Sl Pt Ct

end Go.Proofs.Ytglmcnjkcmbefaa
