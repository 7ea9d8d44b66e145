/-
  Fragments: small contracts.
-/
import Derived.Test.YtglmcnjkcmbefaaVIa
import Derived.DeepKeys4
namespace Go.Proofs.Ytglmcnjkcmbefaa
open Go Go.RowKit Go.Hs C05

def stL (s : Stm) : List Lit := lA s.to_ ++ (lA s.frm ++ [.int .u8 (s.kind.toNat : Int), .bool s.traf, .int .i64 s.tid])
attribute [local irreducible] WL W WQ PL Runs Effs AllE Ent SubO FrIn Pick OneC Ones CellsE PartsE SeqE UZ By Sl Pt Ct

end Go.Proofs.Ytglmcnjkcmbefaa
