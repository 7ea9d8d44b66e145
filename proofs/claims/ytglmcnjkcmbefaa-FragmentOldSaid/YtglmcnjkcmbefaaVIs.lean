/-
  The law 'FragmentPieces' walked.
-/
import Derived.Test.YtglmcnjkcmbefaaVIr
namespace Go.Proofs.Ytglmcnjkcmbefaa
open Go Go.RowKit Go.Hs C05
theorem ent_rwExt {Φ : List SP} {size n : Nat} {v : Value} {f g : Nat → List Value} (hm : Rw size v n f ∈ Φ) (h : ∀ i, i < n → f i = g i) : Ent Φ (Rw size v n g) := fun w O hw => by
  obtain ⟨A, c, hv, h1, h2, hr⟩ := hw _ hm
  refine ⟨A, c, hv, h1, h2, fun hn => ?_⟩
  obtain ⟨ad, q1, q2, q3, hcell⟩ := hr hn
  exact ⟨ad, q1, q2, q3, fun i hi j u hu => hcell i hi j u (by rw [h i hi]; exact hu)⟩
attribute [local irreducible] WL W WQ PL Runs Effs AllE Ent SubO FrIn Pick OneC Ones CellsE PartsE SeqE UZ By Sl Pt Ct

end Go.Proofs.Ytglmcnjkcmbefaa
