/-
  This text proves that the law 'hotspotlaw08.AggregatePacks' answers true at every input and leaves what it was handed as it was, and ties what its row lists to the program's text.
-/
import Derived.Test.YtdhbgolbfkejcaaDoorVMi
import Derived.Test.YtdhbgolbfkejcaaDoorVMl
import Derived.Test.YtdhbgolbfkejcaaDoorXb
import Derived.Test.YtdhbgolbfkejcaaDoorCards
import Derived.Test.YtdhbgolbfkejcaaDoorTie
import Derived.Test.YtdhbgolbfkejcaaDoorVMn
namespace Go.Proofs.YtdhbgolbfkejcaaDoor.aggregatePacks
open Go Go.ChangeShapes Go.WideShapes Go.ChangeAt Go.RowKit Go.Hs C08

theorem own : ownKnob Tryd.prog.godebug = none := by kernel_rfl
theorem laidOut : laidOutB Tryd.prog = true := by kernel_rfl

set_option maxRecDepth 100000 in
theorem lifted (os : Os) (started : os.Started) (H : Type) (enc : TypeId × Value → H) :
    ReturnsInHanded {} Tryd.checked os 3 .any (fun w args => (Rows.aggregatePacksSpec.pre enc Tryd.prog Tryd.f3 [] false w args ∧ laidMetH Tryd.prog laidT w) ∧ sizedMet enc Tryd.prog Tryd.f3 (OpenSpec.ofChange Rows.aggregatePacksSpec) false w args) (Rows.aggregatePacksSpec.post enc Tryd.prog Tryd.f3 false true false false) := by
  refine law_liftL (C := Tryd.checked) (tb := 4) (laid := laidT) own started (by kernel_rfl) Tryd.func3
    (ChangeSpec.witness_shaped (enc := enc) (C := Tryd.checked) (os := os) (X := fun w _ => laidMetH Tryd.prog laidT w) false (World.laidAll Tryd.prog os laidT) #[ .slice none 0 0, .slice none 0 0, .slice none 0 0] 8 (World.laidAll_os _ _ _) (World.shaped_of_ZipB (by kernel_rfl) (by kernel_rfl)) (by kernel_rfl) (by kernel_rfl) (by kernel_rfl) (by rw [MakeChecks.laidMetH_plain _ _ _ (by kernel_rfl)]; exact laidMet_laidAll _ (by kernel_rfl) (by kernel_rfl)))
    laidOut rfl (by kernel_rfl) Tryd.underlying4 (fun ds h => ?_) (by kernel_rfl) ?_
  · rw [Tryd.params3] at h
    match ds, h with
    | [_, _, _], _ => rfl
  intro W base args ds p hval hA hL
  rw [Tryd.params3] at hA hval
  obtain ⟨v0, vs0, d0, ds0, p0, q0, hargs, rfl, rfl, h0, r0⟩ := trodAll_cons hA
  obtain ⟨v1, vs1, d1, ds1, p1, q1, rfl, rfl, rfl, h1, r1⟩ := trodAll_cons r0
  obtain ⟨v2, vs2, d2, ds2, p2, q2, rfl, rfl, rfl, h2, r2⟩ := trodAll_cons r1
  obtain ⟨rfl, rfl, rfl⟩ := trodAll_nil r2
  obtain rfl : args = #[v0, v1, v2] := by cases args; simp_all
  have htabs := tabs_of hL
  have hTF := tbF_of htabs
  have hTA := tbA_of htabs
  obtain ⟨ps, hp1, hp2⟩ := open_pks (hval 0 22 v0 rfl rfl) h0
  obtain ⟨qs, hq1, hq2⟩ := open_pks (hval 1 22 v1 rfl rfl) h1
  obtain ⟨b2, hb2, hl2⟩ := open_bytes Tryd.underlying23 Tryd.underlying5 (by kernel_rfl) (hval 2 23 v2 rfl rfl) h2
  refine (packsLaw_fn v0 ps v1 qs v2 b2).below (fun ψ hψ => ?_)
  simp only [List.mem_cons, List.not_mem_nil, or_false] at hψ
  rcases hψ with rfl | rfl | rfl | rfl | rfl | rfl | rfl
  · exact hp1
  · exact hp2
  · exact hq1
  · exact hq2
  · exact hb2
  · exact hTF
  · exact hTA

theorem over : Rows.aggregatePacksRow.holds Tryd.pinned (OpenSpec.ofChange Rows.aggregatePacksSpec) :=
  OpenClaim.holds_of_wide 3 Tryd.f3 rfl rfl rfl rfl rfl rfl rfl ⟨rfl, rfl, rfl, rfl, rfl⟩ rfl rfl rfl rfl rfl (by kernel_rfl) Tryd.func3 (by kernel_rfl)
    (of_decide_eq_true (by kernel_rfl)) (by unfold Func.isWrapper; first | (rw [if_pos (by decide +kernel)]; kernel_rfl) | (rw [if_neg (by decide +kernel)]; exact ⟨rfl, rfl⟩))
    (fun os started H enc _ => lifted os started H enc)

theorem proved : Rows.AggregatePacksCardSaid :=
  Claim7.holds_tied_plain_at .later [] [.data, .pinned] true (true, "c64cc4c611c28ea405319225e50a65f6b6b3d52023eecbf6d782563f99c405a8") false over (fun _ h => by cases h) (by kernel_rfl) (fun _ h => by cases h) aggregatePacks_row_tie rfl ⟨rfl, rfl⟩ (by kernel_rfl) rfl
    (fun f fn hf hfn => by
      obtain rfl : f = 3 := Option.some.inj ((show Tryd.prog.funcNamed "hotspot/hotspotlaw08.AggregatePacks" = some 3 by kernel_rfl).symm.trans hf) |>.symm
      obtain rfl : fn = Tryd.f3 := (Option.some.inj (Tryd.func3.symm.trans hfn)).symm
      exact ⟨by kernel_rfl, fun j t ht => by
        rw [Tryd.params3] at ht
        have hm : t ∈ [22, 22, 23] := by simpa using Array.mem_of_getElem? ht
        have hall : ([22, 22, 23].all fun u => !Tryd.prog.wantsStandIn u) = true := by kernel_rfl
        exact (show Tryd.prog.wantsStandIn t = false by simpa using List.all_eq_true.1 hall t hm)⟩)
    (by kernel_rfl)
#print axioms proved
end Go.Proofs.YtdhbgolbfkejcaaDoor.aggregatePacks
