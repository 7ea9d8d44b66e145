/-
  This text proves that the law 'hotspottop.TopWire' answers true at every input and leaves what it was handed as it was, and ties what its row lists to the program's text.
-/
import Derived.Test.YteojehocflbgdaaDoorVVd
import Derived.Test.YteojehocflbgdaaDoorVVe
import Derived.Test.YteojehocflbgdaaDoorXg
import Derived.Test.YteojehocflbgdaaDoorXc
import Derived.Test.YteojehocflbgdaaDoorCards
import Derived.Test.YteojehocflbgdaaDoorTie
namespace Go.Proofs.YteojehocflbgdaaDoor.topWire
open Go Go.ChangeShapes Go.WideShapes Go.ChangeAt Go.RowKit Go.Hs C08d

theorem own : ownKnob Tryd.prog.godebug = none := by kernel_rfl
theorem laidOut : laidOutB Tryd.prog = true := by kernel_rfl

set_option maxRecDepth 100000 in
theorem lifted (os : Os) (started : os.Started) (H : Type) (enc : TypeId × Value → H) :
    ReturnsInHanded {} Tryd.checked os 3 .any (fun w args => (Rows.topWireSpec.pre enc Tryd.prog Tryd.f3 [] false w args ∧ laidMetH Tryd.prog laidT w) ∧ sizedMet enc Tryd.prog Tryd.f3 (OpenSpec.ofChange Rows.topWireSpec) false w args) (Rows.topWireSpec.post enc Tryd.prog Tryd.f3 false true false false) := by
  refine law_liftL (C := Tryd.checked) (tb := 4) (laid := laidT) own started (by kernel_rfl) Tryd.func3
    (ChangeSpec.witness_shaped (enc := enc) (C := Tryd.checked) (os := os) (X := fun w _ => laidMetH Tryd.prog laidT w) false (World.laidAll Tryd.prog os laidT) #[ .slice none 0 0, .slice none 0 0] 8 (World.laidAll_os _ _ _) (World.shaped_of_ZipB (by kernel_rfl) (by kernel_rfl)) (by kernel_rfl) (by kernel_rfl) (by kernel_rfl) (by rw [MakeChecks.laidMetH_plain _ _ _ (by kernel_rfl)]; exact laidMet_laidAll _ (by kernel_rfl) (by kernel_rfl)))
    laidOut rfl (by kernel_rfl) Tryd.underlying4 (fun ds h => ?_) (by kernel_rfl) ?_
  · rw [Tryd.params3] at h
    match ds, h with
    | [_, _], _ => rfl
  intro W base args ds p hval hA hL
  rw [Tryd.params3] at hA hval
  obtain ⟨v0, vs0, d0, ds0, p0, q0, hargs, rfl, rfl, h0, r0⟩ := trodAll_cons hA
  obtain ⟨v1, vs1, d1, ds1, p1, q1, rfl, rfl, rfl, h1, r1⟩ := trodAll_cons r0
  obtain ⟨rfl, rfl, rfl⟩ := trodAll_nil r1
  obtain rfl : args = #[v0, v1] := by cases args; simp_all
  have htabs := tabs_of hL
  have hTF := tbF_of htabs
  have hTA := tbA_of htabs
  obtain ⟨its, hi1, hi2⟩ := open_its (hval 0 22 v0 rfl rfl) h0
  obtain ⟨n, g, hg, hat⟩ := open_hits (hval 1 23 v1 rfl rfl) h1
  refine (topLaw_fn v0 its v1 n (fun i => (g i).1) (fun i => (g i).2.1) (fun i => (g i).2.2) (fun i hi => (hi2 i hi).1) hat).below (fun ψ hψ => ?_)
  simp only [List.mem_cons, List.not_mem_nil, or_false] at hψ
  rcases hψ with rfl | rfl | rfl | rfl | rfl | rfl
  · exact hi1
  · exact fun i hi => (hi2 i hi).2.1
  · exact fun i hi => (hi2 i hi).2.2
  · exact hg
  · exact hTF
  · exact hTA

theorem over : Rows.topWireRow.holds Tryd.pinned (OpenSpec.ofChange Rows.topWireSpec) :=
  OpenClaim.holds_of_wide 3 Tryd.f3 rfl rfl rfl rfl rfl rfl rfl ⟨rfl, rfl, rfl, rfl, rfl⟩ rfl rfl rfl rfl rfl (by kernel_rfl) Tryd.func3 (by kernel_rfl)
    (of_decide_eq_true (by kernel_rfl)) (by unfold Func.isWrapper; first | (rw [if_pos (by decide +kernel)]; kernel_rfl) | (rw [if_neg (by decide +kernel)]; exact ⟨rfl, rfl⟩))
    (fun os started H enc _ => lifted os started H enc)

theorem proved : Rows.TopWireCardSaid :=
  Claim7.holds_tied_plain_at .later [] [.data, .pinned] true (true, "3c81ca3bb2de688cdaa4f94da98d642c0c7a2400669f15cc4620894ef02d058a") false over (fun _ h => by cases h) (by kernel_rfl) (fun _ h => by cases h) topWire_row_tie rfl ⟨rfl, rfl⟩ (by kernel_rfl) rfl
    (fun f fn hf hfn => by
      obtain rfl : f = 3 := Option.some.inj ((show Tryd.prog.funcNamed "hotspot/hotspottop.TopWire" = some 3 by kernel_rfl).symm.trans hf) |>.symm
      obtain rfl : fn = Tryd.f3 := (Option.some.inj (Tryd.func3.symm.trans hfn)).symm
      exact ⟨by kernel_rfl, fun j t ht => by
        rw [Tryd.params3] at ht
        have hm : t ∈ [22, 23] := by simpa using Array.mem_of_getElem? ht
        have hall : ([22, 23].all fun u => !Tryd.prog.wantsStandIn u) = true := by kernel_rfl
        exact (show Tryd.prog.wantsStandIn t = false by simpa using List.all_eq_true.1 hall t hm)⟩)
    (by kernel_rfl)
#print axioms proved
end Go.Proofs.YteojehocflbgdaaDoor.topWire
