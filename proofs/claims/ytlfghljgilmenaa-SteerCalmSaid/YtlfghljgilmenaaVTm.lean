/-
  This text proves that the law 'hotspotlaw32.SteerCalm' answers true at every input and leaves what it was handed as it was.
-/
import Derived.Test.YtlfghljgilmenaaVTg
import Derived.Test.YtlfghljgilmenaaVSs
namespace Go.Proofs.Ytlfghljgilmenaa.steerCalm
open Go Go.ChangeShapes Go.WideShapes Go.ChangeAt Go.RowKit Go.Hs

theorem own : ownKnob Try.prog.godebug = none := by kernel_rfl
theorem laidOut : laidOutB Try.prog = true := by kernel_rfl

set_option maxRecDepth 100000 in
theorem lifted (os : Os) (started : os.Started) (H : Type) (enc : TypeId × Value → H) :
    ReturnsInHanded {} Try.checked os 8 .any (Rows.steerCalmSpec.pre6 enc Try.prog Try.f8 Rows.steerCalmRow.domain false) (Rows.steerCalmSpec.post enc Try.prog Try.f8 false true false false) := by
  refine law_lift (C := Try.checked) (tb := 4) own started (by kernel_rfl) Try.func8
    (ChangeSpec.witness6 (enc := enc) (C := Try.checked) false ⟨#[], #[ .agg #[.int .i64 0, .int .i64 0, .int .i64 0, .int .i64 0, .int .i64 0, .int .u8 0, .int .u8 0, .int .u8 0, .int .u8 0, .int .u8 0, .int .u8 0, .int .i64 0, .slice none 0 0], .slice none 0 0, .slice none 0 0, .int .i64 0, .int .i64 0], []⟩ 8 (by kernel_rfl) (by kernel_rfl) (by kernel_rfl) (by kernel_rfl))
    laidOut (by kernel_rfl) rfl (by kernel_rfl) Try.underlying4 (fun ds h => ?_) ?_
  · rw [Try.params8] at h
    match ds, h with
    | [_, _, _, _, _], _ => rfl
  intro W base args ds p hval hA hz
  rw [Try.params8] at hA hval hz
  obtain ⟨v0, vs0, d0, ds0, p0, q0, hargs, rfl, rfl, h0, r0⟩ := trodAll_cons hA
  obtain ⟨v1, vs1, d1, ds1, p1, q1, rfl, rfl, rfl, h1, r1⟩ := trodAll_cons r0
  obtain ⟨v2, vs2, d2, ds2, p2, q2, rfl, rfl, rfl, h2, r2⟩ := trodAll_cons r1
  obtain ⟨v3, vs3, d3, ds3, p3, q3, rfl, rfl, rfl, h3, r3⟩ := trodAll_cons r2
  obtain ⟨v4, vs4, d4, ds4, p4, q4, rfl, rfl, rfl, h4, r4⟩ := trodAll_cons r3
  obtain ⟨rfl, rfl, rfl⟩ := trodAll_nil r4
  obtain rfl : args = #[v0, v1, v2, v3, v4] := by cases args; simp_all
  obtain ⟨s, rfl, hs, _, hf⟩ := open_stt (hval 0 28 v0 rfl rfl) h0
  obtain ⟨n, f, fuel, hr, _, hel⟩ := open_things (size := 9) Try.underlying42 (by kernel_rfl) (by decide) (hval 1 42 v1 rfl rfl) h1
  obtain ⟨l, _, hlr, _⟩ := list_nea hr fun i hi => by
    obtain ⟨_, y, hy⟩ := hel i hi
    exact op_nea hy
  obtain ⟨m, f2, fuel2, hr2, _, hel2⟩ := open_things (size := 9) Try.underlying42 (by kernel_rfl) (by decide) (hval 2 42 v2 rfl rfl) h2
  obtain ⟨l2, _, hlr2, _⟩ := list_nea hr2 fun i hi => by
    obtain ⟨_, y, hy⟩ := hel2 i hi
    exact op_nea hy
  obtain ⟨a3, rfl, rfl, rfl, w3⟩ := open_int Try.underlying3 (hval 3 3 v3 rfl rfl) h3
  obtain ⟨a4, rfl, rfl, rfl, w4⟩ := open_int Try.underlying3 (hval 4 3 v4 rfl rfl) h4
  refine (calmLaw_fn s v1 v2 l l2 a3 a4).below (fun ψ hψ => ?_)
  simp only [List.mem_cons, List.not_mem_nil, or_false] at hψ
  rcases hψ with rfl | rfl | rfl
  · exact hf
  · exact hlr
  · exact hlr2

theorem over : Rows.steerCalmRow.holds Try.pinned (OpenSpec.ofChange Rows.steerCalmSpec) :=
  OpenClaim.holds_of_wide 8 Try.f8 rfl rfl rfl rfl rfl rfl rfl ⟨rfl, rfl, rfl, rfl, rfl⟩ rfl rfl rfl rfl rfl (by kernel_rfl) Try.func8 (by kernel_rfl)
    (of_decide_eq_true (by kernel_rfl)) (by unfold Func.isWrapper; first | (rw [if_pos (by decide +kernel)]; kernel_rfl) | (rw [if_neg (by decide +kernel)]; exact ⟨rfl, rfl⟩))
    (fun os started H enc _ => lifted os started H enc)

theorem proved : Rows.SteerCalmSaid := over
#print axioms proved
end Go.Proofs.Ytlfghljgilmenaa.steerCalm
