/-
  This text proves that the law 'hotspotlaw08.AggregateLost' answers true at every input and leaves what it was handed as it was.
-/
import Derived.Test.YtdhbgolbfkejcaaAn
import Derived.Test.YtdhbgolbfkejcaaLv
import Derived.Test.YtdhbgolbfkejcaaKa
namespace Go.Proofs.Ytdhbgolbfkejcaa.aggregateLost
open Go Go.ChangeShapes Go.WideShapes Go.ChangeAt Go.RowKit Go.Hs

theorem own : ownKnob Try.prog.godebug = none := by kernel_rfl
theorem laidOut : laidOutB Try.prog = true := by kernel_rfl

set_option maxRecDepth 100000 in
theorem lifted (os : Os) (started : os.Started) (H : Type) (enc : TypeId × Value → H) :
    ReturnsInHanded {} Try.checked os 6 .any (Rows.aggregateLostSpec.pre6 enc Try.prog Try.f6 Rows.aggregateLostRow.domain false) (Rows.aggregateLostSpec.post enc Try.prog Try.f6 false true false false) := by
  refine law_lift (C := Try.checked) (tb := 4) own started (by kernel_rfl) Try.func6
    (ChangeSpec.witness6 (enc := enc) (C := Try.checked) false ⟨#[], #[ .slice none 0 0, .int .i64 0, .agg #[.int .u8 0, .int .u8 0, .int .u8 0, .int .u8 0]], []⟩ 8 (by kernel_rfl) (by kernel_rfl) (by kernel_rfl) (by kernel_rfl))
    laidOut (by kernel_rfl) rfl (by kernel_rfl) Try.underlying4 (fun ds h => ?_) ?_
  · rw [Try.params6] at h
    match ds, h with
    | [_, _, _], _ => rfl
  intro W base args ds p hval hA hz
  rw [Try.params6] at hA hval hz
  obtain ⟨v0, vs0, d0, ds0, p0, q0, hargs, rfl, rfl, h0, r0⟩ := trodAll_cons hA
  obtain ⟨v1, vs1, d1, ds1, p1, q1, rfl, rfl, rfl, h1, r1⟩ := trodAll_cons r0
  obtain ⟨v2, vs2, d2, ds2, p2, q2, rfl, rfl, rfl, h2, r2⟩ := trodAll_cons r1
  obtain ⟨rfl, rfl, rfl⟩ := trodAll_nil r2
  obtain rfl : args = #[v0, v1, v2] := by cases args; simp_all
  obtain ⟨fs, vs, hr, ha⟩ := open_lists Try.underlying22 Try.underlying25 Try.underlying5 (by kernel_rfl) (by kernel_rfl) (hval 0 22 v0 rfl rfl) h0
  obtain ⟨a1, rfl, rfl, rfl, w1⟩ := open_int Try.underlying3 (hval 1 3 v1 rfl rfl) h1
  obtain ⟨bs, hl, rfl⟩ := open_arr (n := 4) Try.underlying38 Try.underlying5 (by kernel_rfl) (by kernel_rfl) (hval 2 38 v2 rfl rfl) h2
  match bs, hl with
  | [x0, x1, x2, x3], _ =>
  refine (lostLaw_fn v0 fs vs a1 x0 x1 x2 x3).below (fun ψ hψ => ?_)
  simp only [List.mem_cons, List.not_mem_nil, or_false] at hψ
  rcases hψ with rfl | rfl
  · exact hr
  · exact ha

theorem over : Rows.aggregateLostRow.holds Try.pinned (OpenSpec.ofChange Rows.aggregateLostSpec) :=
  OpenClaim.holds_of_wide 6 Try.f6 rfl rfl rfl rfl rfl rfl rfl ⟨rfl, rfl, rfl, rfl, rfl⟩ rfl rfl rfl rfl rfl (by kernel_rfl) Try.func6 (by kernel_rfl)
    (of_decide_eq_true (by kernel_rfl)) (by unfold Func.isWrapper; first | (rw [if_pos (by decide +kernel)]; kernel_rfl) | (rw [if_neg (by decide +kernel)]; exact ⟨rfl, rfl⟩))
    (fun os started H enc _ => lifted os started H enc)

theorem proved : Rows.AggregateLostSaid := over
#print axioms proved
end Go.Proofs.Ytdhbgolbfkejcaa.aggregateLost
