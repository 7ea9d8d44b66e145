/-
  Collectors: 'Expire'.
-/
import Derived.Test.YtglmcnjkcmbefaaVIf
namespace Go.Proofs.Ytglmcnjkcmbefaa
open Go Go.RowKit Go.Hs C05
def exE (l : List Pz) (now : Int) : Int := if chkC l = 0 then (if lateB now = true then 2 else 0) else 8
def exL (l : List Pz) (now : Int) : List Pz := if exE l now = 0 then l.filter (freshP now) else []
def exN (l : List Pz) (now : Int) : Int := if exE l now = 0 then (l.length : Int) - ((exL l now).length : Int) else 0
attribute [local irreducible] WL W WQ PL Runs Effs AllE Ent SubO FrIn Pick OneC Ones CellsE PartsE SeqE UZ By Sl Pt Ct

end Go.Proofs.Ytglmcnjkcmbefaa
