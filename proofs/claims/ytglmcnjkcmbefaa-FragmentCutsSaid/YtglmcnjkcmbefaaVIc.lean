/-
  Lists of partial frames: searches, copies, removals.
-/
import Derived.Test.YtglmcnjkcmbefaaVIb
import Derived.Test.YtglmcnjkcmbefaaXd
namespace Go.Proofs.Ytglmcnjkcmbefaa
open Go Go.RowKit Go.Hs C05

/-- the first place below n where q holds. -/
def firstI (q : Nat → Bool) : Nat → Nat → Int
  | 0, _ => -1
  | f + 1, k => if q k then (k : Int) else firstI q f (k + 1)
def idxQ (n : Nat) (q : Nat → Bool) : Int := firstI q n 0
attribute [local irreducible] WL W WQ PL Runs Effs AllE Ent SubO FrIn Pick OneC Ones CellsE PartsE SeqE UZ By Sl Pt Ct

end Go.Proofs.Ytglmcnjkcmbefaa
