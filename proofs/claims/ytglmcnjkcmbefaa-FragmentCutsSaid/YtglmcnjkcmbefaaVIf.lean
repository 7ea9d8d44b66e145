/-
  Collectors: 'Check'.
-/
import Derived.Test.YtglmcnjkcmbefaaVIe
namespace Go.Proofs.Ytglmcnjkcmbefaa
open Go Go.RowKit Go.Hs C05
def Pa.w (p : Pa) : Prop := p.head.w ∧ w64 p.next ∧ w64 p.since
def stV (p : Pa) : Value := (stO p.head).val
/-- what the walk has seen is sound. -/
def goodT (l : List Pa) (k : Nat) : Prop := (∀ p ∈ l.take k, okP p.z = true) ∧ ((l.take k).map fun p => stO p.head).Nodup
theorem take_next {l : List Pa} {k : Nat} (h : k < l.length) : l.take (k + 1) = l.take k ++ [l.getD k p0_] := by
  rw [List.take_succ_eq_append_getElem h, List.getD_eq_getElem?_getD, List.getElem?_eq_getElem h]; rfl
attribute [local irreducible] WL W WQ PL Runs Effs AllE Ent SubO FrIn Pick OneC Ones CellsE PartsE SeqE UZ By Sl Pt Ct

end Go.Proofs.Ytglmcnjkcmbefaa
