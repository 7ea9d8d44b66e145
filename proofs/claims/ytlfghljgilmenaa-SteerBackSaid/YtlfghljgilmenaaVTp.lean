/-
  This text proves that the law 'hotspotlaw32.SteerBack' answers true at every input and leaves what it was handed as it was.
-/
import Derived.Test.YtlfghljgilmenaaVTi
import Derived.Test.YtlfghljgilmenaaVSs
namespace Go.Proofs.Ytlfghljgilmenaa.steerBack
open Go Go.ChangeShapes Go.WideShapes Go.ChangeAt Go.RowKit Go.Hs
set_option maxRecDepth 100000 in
theorem open_pla {H : Type} {enc : TypeId × Value → H} {w : World} {held : Bool} {r : Reach} {base : Nat} {v : Value} {d : DataW H} {ps : List MemPlace} (hval : Value.okWide Try.prog w r base 23 v) (h : DataW.Trod enc Try.prog w 0 (fun _ => true) held 23 v d ps) : ∃ p : Pla, v = p.val := by
  simp only [Value.okWide, Try.underlying23] at hval
  obtain ⟨cs, rfl, _, _⟩ := hval
  obtain ⟨fuel, hf⟩ := h
  obtain ⟨p, h1, _⟩ := op_pla hf
  have h1 : cs.toList = [.int .i64 p.low, .int .i64 p.gain, .int .i64 p.weight, .int .i64 p.stay, .int .i64 p.back] := h1
  refine ⟨p, ?_⟩
  have : cs = #[.int .i64 p.low, .int .i64 p.gain, .int .i64 p.weight, .int .i64 p.stay, .int .i64 p.back] := by
    apply Array.ext'
    exact h1
  rw [this]

theorem own : ownKnob Try.prog.godebug = none := by kernel_rfl
theorem laidOut : laidOutB Try.prog = true := by kernel_rfl

set_option maxRecDepth 100000 in
theorem lifted (os : Os) (started : os.Started) (H : Type) (enc : TypeId × Value → H) :
    ReturnsInHanded {} Try.checked os 6 .any (Rows.steerBackSpec.pre6 enc Try.prog Try.f6 Rows.steerBackRow.domain false) (Rows.steerBackSpec.post enc Try.prog Try.f6 false true false false) := by
  refine law_lift (C := Try.checked) (tb := 4) own started (by kernel_rfl) Try.func6
    (ChangeSpec.witness6 (enc := enc) (C := Try.checked) false ⟨#[], #[ .agg #[.int .i64 0, .int .i64 0, .int .i64 0, .int .i64 0, .int .i64 0], .slice none 0 0, .slice none 0 0], []⟩ 8 (by kernel_rfl) (by kernel_rfl) (by kernel_rfl) (by kernel_rfl))
    laidOut (by kernel_rfl) rfl (by kernel_rfl) Try.underlying4 (fun ds h => ?_) ?_
  · rw [Try.params6] at h
    match ds, h with
    | [_, _, _], _ => rfl
  intro W base args ds p hval hA hz
  rw [Try.params6] at hA hval hz
  obtain ⟨v0, vs0, d0, ds0, p0, q0, hargs, rfl, rfl, h0, r0⟩ := trodAll_cons hA
  obtain ⟨v1, vs1, d1, ds1, p1, q1, rfl, rfl, rfl, h1, r1⟩ := trodAll_cons r0
  obtain ⟨v2, vs2, d2, ds2, p2, q2, rfl, rfl, rfl, h2, r2⟩ := trodAll_cons r1
  obtain ⟨rfl, rfl, rfl⟩ := trodAll_nil r2
  obtain rfl : args = #[v0, v1, v2] := by cases args; simp_all
  obtain ⟨p, rfl⟩ := open_pla (hval 0 23 v0 rfl rfl) h0
  obtain ⟨b1, hb1, hl1⟩ := open_bytes Try.underlying43 Try.underlying5 (by kernel_rfl) (hval 1 43 v1 rfl rfl) h1
  obtain ⟨n, g, hn, _, hw⟩ := open_nums Try.underlying63 Try.underlying3 (by kernel_rfl) (hval 2 63 v2 rfl rfl) h2
  refine (backLaw_fn p v1 v2 b1 n g).below (fun ψ hψ => ?_)
  simp only [List.mem_cons, List.not_mem_nil, or_false] at hψ
  rcases hψ with rfl | rfl
  · exact hb1
  · exact hn

theorem over : Rows.steerBackRow.holds Try.pinned (OpenSpec.ofChange Rows.steerBackSpec) :=
  OpenClaim.holds_of_wide 6 Try.f6 rfl rfl rfl rfl rfl rfl rfl ⟨rfl, rfl, rfl, rfl, rfl⟩ rfl rfl rfl rfl rfl (by kernel_rfl) Try.func6 (by kernel_rfl)
    (of_decide_eq_true (by kernel_rfl)) (by unfold Func.isWrapper; first | (rw [if_pos (by decide +kernel)]; kernel_rfl) | (rw [if_neg (by decide +kernel)]; exact ⟨rfl, rfl⟩))
    (fun os started H enc _ => lifted os started H enc)

theorem proved : Rows.SteerBackSaid := over
#print axioms proved
end Go.Proofs.Ytlfghljgilmenaa.steerBack
