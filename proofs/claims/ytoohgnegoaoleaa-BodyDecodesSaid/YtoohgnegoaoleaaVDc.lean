/-
  This text proves that the law 'hotspotlaw06.BodyDecodes' answers true at every input and leaves what it was handed as it was.
-/
import Derived.Test.YtoohgnegoaoleaaVDa
import Derived.Test.YtoohgnegoaoleaaXd
namespace Go.Proofs.Ytoohgnegoaoleaa.bodyDecodes
open Go Go.ChangeShapes Go.WideShapes Go.ChangeAt Go.RowKit Go.Hs

theorem own : ownKnob Try.prog.godebug = none := by kernel_rfl
theorem laidOut : laidOutB Try.prog = true := by kernel_rfl

set_option maxRecDepth 100000 in
theorem lifted (os : Os) (started : os.Started) (H : Type) (enc : TypeId × Value → H) :
    ReturnsInHanded {} Try.checked os 5 .any (Rows.bodyDecodesSpec.pre6 enc Try.prog Try.f5 Rows.bodyDecodesRow.domain false) (Rows.bodyDecodesSpec.post enc Try.prog Try.f5 false true false false) := by
  refine law_lift (C := Try.checked) (tb := 4) own started (by kernel_rfl) Try.func5
    (ChangeSpec.witness6 (enc := enc) (C := Try.checked) false ⟨#[], #[ .slice none 0 0, .bool false], []⟩ 8 (by kernel_rfl) (by kernel_rfl) (by kernel_rfl) (by kernel_rfl))
    laidOut (by kernel_rfl) rfl (by kernel_rfl) Try.underlying4 (fun ds h => ?_) ?_
  · rw [Try.params5] at h
    match ds, h with
    | [_, _], _ => rfl
  intro W base args ds p hval hA hz
  rw [Try.params5] at hA hval hz
  obtain ⟨v0, vs0, d0, ds0, p0, q0, hargs, rfl, rfl, h0, r0⟩ := trodAll_cons hA
  obtain ⟨v1, vs1, d1, ds1, p1, q1, rfl, rfl, rfl, h1, r1⟩ := trodAll_cons r0
  obtain ⟨rfl, rfl, rfl⟩ := trodAll_nil r1
  obtain rfl : args = #[v0, v1] := by cases args; simp_all
  obtain ⟨b0, hb0, hl0⟩ := open_bytes Try.underlying37 Try.underlying5 (by kernel_rfl) (hval 0 37 v0 rfl rfl) h0
  obtain ⟨g, rfl, _⟩ := open_bool Try.underlying4 (hval 1 4 v1 rfl rfl) h1
  refine (decLaw_fn v0 b0 g).below (fun ψ hψ => ?_)
  rcases List.mem_singleton.1 hψ with rfl
  exact hb0

theorem over : Rows.bodyDecodesRow.holds Try.pinned (OpenSpec.ofChange Rows.bodyDecodesSpec) :=
  OpenClaim.holds_of_wide 5 Try.f5 rfl rfl rfl rfl rfl rfl rfl ⟨rfl, rfl, rfl, rfl, rfl⟩ rfl rfl rfl rfl rfl (by kernel_rfl) Try.func5 (by kernel_rfl)
    (of_decide_eq_true (by kernel_rfl)) (by unfold Func.isWrapper; first | (rw [if_pos (by decide +kernel)]; kernel_rfl) | (rw [if_neg (by decide +kernel)]; exact ⟨rfl, rfl⟩))
    (fun os started H enc _ => lifted os started H enc)

theorem proved : Rows.BodyDecodesSaid := over
#print axioms proved
end Go.Proofs.Ytoohgnegoaoleaa.bodyDecodes
