/-
  This text proves that the law 'hotspotlaw06.BodyElements' answers true at every input and leaves what it was handed as it was.
-/
import Derived.Test.YtoohgnegoaoleaaVBo
import Derived.Test.YtoohgnegoaoleaaVBm
namespace Go.Proofs.Ytoohgnegoaoleaa.bodyElements
open Go Go.ChangeShapes Go.WideShapes Go.ChangeAt Go.RowKit Go.Hs

theorem own : ownKnob Try.prog.godebug = none := by kernel_rfl
theorem laidOut : laidOutB Try.prog = true := by kernel_rfl

set_option maxRecDepth 100000 in
theorem lifted (os : Os) (started : os.Started) (H : Type) (enc : TypeId × Value → H) :
    ReturnsInHanded {} Try.checked os 6 .any (Rows.bodyElementsSpec.pre6 enc Try.prog Try.f6 Rows.bodyElementsRow.domain false) (Rows.bodyElementsSpec.post enc Try.prog Try.f6 false true false false) := by
  refine law_lift (C := Try.checked) (tb := 4) own started (by kernel_rfl) Try.func6
    (ChangeSpec.witness6 (enc := enc) (C := Try.checked) false ⟨#[], #[ .slice none 0 0, .int .u16 0], []⟩ 8 (by kernel_rfl) (by kernel_rfl) (by kernel_rfl) (by kernel_rfl))
    laidOut (by kernel_rfl) rfl (by kernel_rfl) Try.underlying4 (fun ds h => ?_) ?_
  · rw [Try.params6] at h
    match ds, h with
    | [_, _], _ => rfl
  intro W base args ds p hval hA hz
  rw [Try.params6] at hA hval hz
  obtain ⟨v0, vs0, d0, ds0, p0, q0, hargs, rfl, rfl, h0, r0⟩ := trodAll_cons hA
  obtain ⟨v1, vs1, d1, ds1, p1, q1, rfl, rfl, rfl, h1, r1⟩ := trodAll_cons r0
  obtain ⟨rfl, rfl, rfl⟩ := trodAll_nil r1
  obtain rfl : args = #[v0, v1] := by cases args; simp_all
  obtain ⟨t, g1_, g2_⟩ := C04.open_tree (hval 0 24 v0 rfl rfl) h0
  obtain ⟨a1, rfl, rfl, rfl, w1⟩ := open_int Try.underlying23 (hval 1 23 v1 rfl rfl) h1
  obtain ⟨kk, rfl, hkk⟩ := wf_u16 w1
  refine (elementsLaw_fn t v0 kk hkk).below (fun ψ hψ => ?_)
  simp only [List.mem_cons, List.not_mem_nil, or_false] at hψ
  rcases hψ with rfl | rfl
  · exact g1_
  · exact g2_

theorem over : Rows.bodyElementsRow.holds Try.pinned (OpenSpec.ofChange Rows.bodyElementsSpec) :=
  OpenClaim.holds_of_wide 6 Try.f6 rfl rfl rfl rfl rfl rfl rfl ⟨rfl, rfl, rfl, rfl, rfl⟩ rfl rfl rfl rfl rfl (by kernel_rfl) Try.func6 (by kernel_rfl)
    (of_decide_eq_true (by kernel_rfl)) (by unfold Func.isWrapper; first | (rw [if_pos (by decide +kernel)]; kernel_rfl) | (rw [if_neg (by decide +kernel)]; exact ⟨rfl, rfl⟩))
    (fun os started H enc _ => lifted os started H enc)

theorem proved : Rows.BodyElementsSaid := over
#print axioms proved
end Go.Proofs.Ytoohgnegoaoleaa.bodyElements
