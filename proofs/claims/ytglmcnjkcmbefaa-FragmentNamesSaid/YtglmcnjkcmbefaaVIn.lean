/-
  The reference's Cut, whole.
-/
import Derived.Test.YtglmcnjkcmbefaaVIl
import Derived.Test.YtglmcnjkcmbefaaVIm
namespace Go.Proofs.Ytglmcnjkcmbefaa
open Go Go.RowKit Go.Hs C05
theorem ent_slF {Φ : List SP} {v : Value} {l : List Fm} (h : Sl 41 v l.length (fcF l) ∈ Φ) : Ent Φ (Rw 41 v l.length (fun i => (l.getD i f0_).cells)) := ent_slG fm_len f0_ h rfl rfl
attribute [local irreducible] WL W WQ PL Runs Effs AllE Ent SubO FrIn Pick OneC Ones CellsE PartsE SeqE UZ By Sl Pt Ct

end Go.Proofs.Ytglmcnjkcmbefaa
