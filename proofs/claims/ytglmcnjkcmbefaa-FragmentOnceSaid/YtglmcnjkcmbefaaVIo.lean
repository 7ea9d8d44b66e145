/-
  Own lists of frames lent.
-/
import Derived.Test.YtglmcnjkcmbefaaVIn
namespace Go.Proofs.Ytglmcnjkcmbefaa
open Go Go.RowKit Go.Hs C05
theorem own_bf {bt : TypeId} {w : World} {O : Nat → Prop} : ∀ (k : List Fm), Own (rowsL bt (dlF k)) w → (∀ j, fpL (rowsL bt (dlF k)) j → ¬ O j) → ∀ p ∈ k, (By p.bv p.body).p w O
  | [], _, _, p, hp => by cases hp
  | q :: r, h1, h2, p, hp => by
    rcases List.mem_cons.1 hp with rfl | hp
    · exact slP_of_row h1.1 fun j hj => h2 j (fpL_cons.2 (.inl hj))
    · exact own_bf r h1.2.2 (fun j hj => h2 j (fpL_cons.2 (.inr hj))) p hp
end Go.Proofs.Ytglmcnjkcmbefaa
