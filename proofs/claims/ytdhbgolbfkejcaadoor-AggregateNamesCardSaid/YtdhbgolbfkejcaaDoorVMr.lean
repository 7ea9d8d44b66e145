/-
  This text proves that the law 'hotspotlaw08.AggregateNames' answers true and leaves what it was handed as it was, and ties what its row lists to the program's text.
-/
import Derived.Test.YtdhbgolbfkejcaaDoorVMq
import Derived.Test.YtdhbgolbfkejcaaDoorVMl
import Derived.Test.YtdhbgolbfkejcaaDoorXc
import Derived.Test.YtdhbgolbfkejcaaDoorCards
import Derived.Test.YtdhbgolbfkejcaaDoorTie
namespace Go.Proofs.YtdhbgolbfkejcaaDoor.aggregateNames
open Go Go.ChangeShapes Go.WideShapes Go.ChangeAt Go.RowKit Go.Hs C08

theorem own : ownKnob Tryd.prog.godebug = none := by kernel_rfl
theorem laidOut : laidOutB Tryd.prog = true := by kernel_rfl

set_option maxRecDepth 100000 in
theorem lifted (os : Os) (started : os.Started) (H : Type) (enc : TypeId × Value → H) :
    ReturnsInHanded {} Tryd.checked os 5 .any (fun w args => (Rows.aggregateNamesSpec.pre enc Tryd.prog Tryd.f5 [] false w args ∧ laidMetH Tryd.prog laidT w) ∧ sizedMet enc Tryd.prog Tryd.f5 (OpenSpec.ofChange Rows.aggregateNamesSpec) false w args) (Rows.aggregateNamesSpec.post enc Tryd.prog Tryd.f5 false true false false) := by
  refine law_liftL (C := Tryd.checked) (tb := 4) (laid := laidT) own started (by kernel_rfl) Tryd.func5
    (ChangeSpec.witness_shaped (enc := enc) (C := Tryd.checked) (os := os) (X := fun w _ => laidMetH Tryd.prog laidT w) false (World.laidAll Tryd.prog os laidT) #[ ] 8 (World.laidAll_os _ _ _) (World.shaped_of_ZipB (by kernel_rfl) (by kernel_rfl)) (by kernel_rfl) (by kernel_rfl) (by kernel_rfl) (by rw [MakeChecks.laidMetH_plain _ _ _ (by kernel_rfl)]; exact laidMet_laidAll _ (by kernel_rfl) (by kernel_rfl)))
    laidOut rfl (by kernel_rfl) Tryd.underlying4 (fun ds h => ?_) (by kernel_rfl) ?_
  · rw [Tryd.params5] at h
    match ds, h with
    | [], _ => rfl
  intro W base args ds p hval hA hL
  rw [Tryd.params5] at hA hval
  obtain ⟨rfl, rfl, rfl⟩ := trodAll_none hA
  have htabs := tabs_of hL
  have hTF := tbF_of htabs
  have hTA := tbA_of htabs
  refine namesLaw_fn.below (fun ψ hψ => ?_)
  simp only [List.mem_cons, List.not_mem_nil, or_false] at hψ
  rcases hψ with rfl | rfl
  · exact hTF
  · exact hTA

theorem over : Rows.aggregateNamesRow.holds Tryd.pinned (OpenSpec.ofChange Rows.aggregateNamesSpec) :=
  OpenClaim.holds_of_wide 5 Tryd.f5 rfl rfl rfl rfl rfl rfl rfl ⟨rfl, rfl, rfl, rfl, rfl⟩ rfl rfl rfl rfl rfl (by kernel_rfl) Tryd.func5 (by kernel_rfl)
    (of_decide_eq_true (by kernel_rfl)) (by unfold Func.isWrapper; first | (rw [if_pos (by decide +kernel)]; kernel_rfl) | (rw [if_neg (by decide +kernel)]; exact ⟨rfl, rfl⟩))
    (fun os started H enc _ => lifted os started H enc)

theorem proved : Rows.AggregateNamesCardSaid :=
  Claim7.holds_tied_plain_at .later [] [.data, .pinned] true (true, "c64cc4c611c28ea405319225e50a65f6b6b3d52023eecbf6d782563f99c405a8") false over (fun _ h => by cases h) (by kernel_rfl) (fun _ h => by cases h) aggregateNames_row_tie rfl ⟨rfl, rfl⟩ (by kernel_rfl) rfl
    (fun f fn hf hfn => by
      obtain rfl : f = 5 := Option.some.inj ((show Tryd.prog.funcNamed "hotspot/hotspotlaw08.AggregateNames" = some 5 by kernel_rfl).symm.trans hf) |>.symm
      obtain rfl : fn = Tryd.f5 := (Option.some.inj (Tryd.func5.symm.trans hfn)).symm
      exact ⟨by kernel_rfl, fun j t ht => by
        rw [Tryd.params5] at ht
        simp at ht⟩)
    (by kernel_rfl)
#print axioms proved
end Go.Proofs.YtdhbgolbfkejcaaDoor.aggregateNames
