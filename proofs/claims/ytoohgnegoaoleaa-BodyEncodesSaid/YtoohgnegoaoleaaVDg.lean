/-
  This text proves that the law 'hotspotlaw06.BodyEncodes' answers true at every input and leaves what it was handed as it was.
-/
import Derived.Test.YtoohgnegoaoleaaVDf
import Derived.Test.YtoohgnegoaoleaaVBm
namespace Go.Proofs.Ytoohgnegoaoleaa.bodyEncodes
open Go Go.ChangeShapes Go.WideShapes Go.ChangeAt Go.RowKit Go.Hs

theorem own : ownKnob Try.prog.godebug = none := by kernel_rfl
theorem laidOut : laidOutB Try.prog = true := by kernel_rfl

set_option maxRecDepth 100000 in
theorem lifted (os : Os) (started : os.Started) (H : Type) (enc : TypeId × Value → H) :
    ReturnsInHanded {} Try.checked os 3 .any (Rows.bodyEncodesSpec.pre6 enc Try.prog Try.f3 Rows.bodyEncodesRow.domain false) (Rows.bodyEncodesSpec.post enc Try.prog Try.f3 false true false false) := by
  refine law_lift (C := Try.checked) (tb := 4) own started (by kernel_rfl) Try.func3
    (ChangeSpec.witness6 (enc := enc) (C := Try.checked) false ⟨#[], #[ .agg #[.int .u64 0, .int .u16 0, .int .u16 0, .slice none 0 0, .int .u16 0, .int .u16 0, .int .u16 0, .slice none 0 0, .int .u16 0, .int .u16 0, .int .u8 0, .int .u8 0, .int .u8 0, .int .u8 0, .int .u8 0, .int .u8 0, .slice none 0 0, .bool false, .int .u16 0, .int .u16 0, .int .i64 0, .slice none 0 0, .int .u16 0, .slice none 0 0, .int .u8 0, .int .u8 0, .int .u8 0, .slice none 0 0, .int .i64 0, .int .i64 0, .int .i64 0, .int .i64 0, .int .u64 0]], []⟩ 8 (by kernel_rfl) (by kernel_rfl) (by kernel_rfl) (by kernel_rfl))
    laidOut (by kernel_rfl) rfl (by kernel_rfl) Try.underlying4 (fun ds h => ?_) ?_
  · rw [Try.params3] at h
    match ds, h with
    | [_], _ => rfl
  intro W base args ds p hval hA hz
  rw [Try.params3] at hA hval hz
  obtain ⟨v0, vs0, d0, ds0, p0, q0, hargs, rfl, rfl, h0, r0⟩ := trodAll_cons hA
  obtain ⟨rfl, rfl, rfl⟩ := trodAll_nil r0
  obtain rfl : args = #[v0] := by cases args; simp_all
  obtain ⟨x, rfl, wa, wi, hx⟩ := open_All (hval 0 45 v0 rfl rfl) h0
  exact (encLaw_fn x wa).below hx

theorem over : Rows.bodyEncodesRow.holds Try.pinned (OpenSpec.ofChange Rows.bodyEncodesSpec) :=
  OpenClaim.holds_of_wide 3 Try.f3 rfl rfl rfl rfl rfl rfl rfl ⟨rfl, rfl, rfl, rfl, rfl⟩ rfl rfl rfl rfl rfl (by kernel_rfl) Try.func3 (by kernel_rfl)
    (of_decide_eq_true (by kernel_rfl)) (by unfold Func.isWrapper; first | (rw [if_pos (by decide +kernel)]; kernel_rfl) | (rw [if_neg (by decide +kernel)]; exact ⟨rfl, rfl⟩))
    (fun os started H enc _ => lifted os started H enc)

theorem proved : Rows.BodyEncodesSaid := over
#print axioms proved
end Go.Proofs.Ytoohgnegoaoleaa.bodyEncodes
