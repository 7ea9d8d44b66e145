/-
  Lists of frames compared by the reference.
-/
import Derived.Test.YtglmcnjkcmbefaaVIk
namespace Go.Proofs.Ytglmcnjkcmbefaa
open Go Go.RowKit Go.Hs C05
/-- the bodies of a list of frames last. -/
def Bf (l : List Fm) : SP := ⟨fun w O => ∀ p ∈ l, (By p.bv p.body).p w O, fun h hm ho p hp => (By p.bv p.body).st (h p hp) hm ho⟩
theorem ent_bf {Φ : List SP} {l : List Fm} {p : Fm} (hm : Bf l ∈ Φ) (hp : p ∈ l) : Ent Φ (By p.bv p.body) := fun _ _ h => h _ hm p hp
theorem getF {l : List Fm} {k : Nat} (h : k < l.length) : l.getD k f0_ ∈ l := by
  rw [List.getD_eq_getElem?_getD, List.getElem?_eq_getElem h]
  exact List.getElem_mem h
attribute [local irreducible] WL W WQ PL Runs Effs AllE Ent SubO FrIn Pick OneC Ones CellsE PartsE SeqE UZ By Sl Pt Ct

end Go.Proofs.Ytglmcnjkcmbefaa
