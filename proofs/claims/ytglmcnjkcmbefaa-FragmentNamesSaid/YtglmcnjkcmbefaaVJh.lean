/-
  This text proves that the law 'hotspotlaw07.FragmentNames' answers true and leaves what was there as it was.
-/
import Derived.Test.YtglmcnjkcmbefaaVJg
import Derived.Test.YtglmcnjkcmbefaaXc
namespace Go.Proofs.Ytglmcnjkcmbefaa.fragmentNames
open Go Go.ChangeShapes Go.WideShapes Go.ChangeAt Go.RowKit Go.Hs

theorem own : ownKnob Try.prog.godebug = none := by kernel_rfl
theorem laidOut : laidOutB Try.prog = true := by kernel_rfl

set_option maxRecDepth 100000 in
theorem lifted (os : Os) (started : os.Started) (H : Type) (enc : TypeId × Value → H) :
    ReturnsInHanded {} Try.checked os 4 .any (Rows.fragmentNamesSpec.pre6 enc Try.prog Try.f4 Rows.fragmentNamesRow.domain false) (Rows.fragmentNamesSpec.post enc Try.prog Try.f4 false true false false) := by
  refine law_lift (C := Try.checked) (tb := 4) own started (by kernel_rfl) Try.func4
    (ChangeSpec.witness6 (enc := enc) (C := Try.checked) false ⟨#[], #[ ], []⟩ 8 (by kernel_rfl) (by kernel_rfl) (by kernel_rfl) (by kernel_rfl))
    laidOut (by kernel_rfl) rfl (by kernel_rfl) Try.underlying4 (fun ds h => ?_) ?_
  · rw [Try.params4] at h
    match ds, h with
    | [], _ => rfl
  intro W base args ds p hval hA hz
  rw [Try.params4] at hA hval hz
  obtain ⟨rfl, rfl, rfl⟩ := trodAll_none hA
  exact namesLaw_fn.below (fun ψ hψ => by cases hψ)

theorem over : Rows.fragmentNamesRow.holds Try.pinned (OpenSpec.ofChange Rows.fragmentNamesSpec) :=
  OpenClaim.holds_of_wide 4 Try.f4 rfl rfl rfl rfl rfl rfl rfl ⟨rfl, rfl, rfl, rfl, rfl⟩ rfl rfl rfl rfl rfl (by kernel_rfl) Try.func4 (by kernel_rfl)
    (of_decide_eq_true (by kernel_rfl)) (by unfold Func.isWrapper; first | (rw [if_pos (by decide +kernel)]; kernel_rfl) | (rw [if_neg (by decide +kernel)]; exact ⟨rfl, rfl⟩))
    (fun os started H enc _ => lifted os started H enc)

theorem proved : Rows.FragmentNamesSaid := over
#print axioms proved
end Go.Proofs.Ytglmcnjkcmbefaa.fragmentNames
