/-
  Own lists of frames lent.
-/
import Derived.Test.YtglmcnjkcmbefaaVIn
namespace Go.Proofs.Ytglmcnjkcmbefaa
open Go Go.RowKit Go.Hs C05
theorem own_bf {bt : TypeId} {w : World} {O : Nat → Prop} : ∀ (k : List Fm), Own (rowsL bt (dlF k)) w → (∀ j, fpL (rowsL bt (dlF k)) j → ¬ O j) → ∀ p ∈ k, (By p.bv p.body).p w O
  | [], _, _, p, hp => by cases hp
  | q :: r, h1, h2, p, hp => by
    rcases List.mem_cons.1 hp with rfl | hp
    · exact slP_of_row h1.1 fun j hj => h2 j (fpL_cons.2 (.inl hj))
    · exact own_bf r h1.2.2 (fun j hj => h2 j (fpL_cons.2 (.inr hj))) p hp
/-- a list of frames is lent with its bodies. -/
theorem Bor.fms {Φ : List SP} {et bt : TypeId} {o : Value} {l : List Fm} : Bor [.row o et 41 l.length (fcF l), pk (rowsL bt (dlF l))] Φ (Rw 41 o l.length (fun i => (l.getD i f0_).cells) :: Bf l :: Φ) := fun w O ho hd hΦ ψ hψ => by
  rcases List.mem_cons.1 hψ with rfl | hψ
  · exact Bor.rowG (cf := Fm.cells) (S := 41) (Φ := Φ) (et := et) fm_len f0_ rfl rfl w O ⟨ho.1, fun _ _ h => (by obtain ⟨a, ha, _⟩ := h; cases ha), trivial⟩ (fun k hk => hd k (by
      rcases fpL_cons.1 hk with hk | hk
      · exact fpL_cons.2 (.inl hk)
      · obtain ⟨a, ha, _⟩ := hk; cases ha)) hΦ _ List.mem_cons_self
  · rcases List.mem_cons.1 hψ with rfl | hψ
    · exact own_bf l ho.2.2.1 (fun k hk => hd k (fpL_cons.2 (.inr (fpL_cons.2 (.inl hk)))))
    · exact hΦ ψ hψ
end Go.Proofs.Ytglmcnjkcmbefaa
