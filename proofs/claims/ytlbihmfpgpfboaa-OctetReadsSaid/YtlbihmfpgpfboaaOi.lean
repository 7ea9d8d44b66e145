/-
  This text proves that the law 'hotspotlaw01.OctetReads' answers true at every input and leaves what it was handed as it was.
-/
import Derived.Test.YtlbihmfpgpfboaaOh
import Derived.Test.YtlbihmfpgpfboaaLw
namespace Go.Proofs.Ytlbihmfpgpfboaa.octetReads
open Go Go.ChangeShapes Go.WideShapes Go.ChangeAt Go.RowKit Go.Hs

theorem own : ownKnob Try.prog.godebug = none := by kernel_rfl
theorem laidOut : laidOutB Try.prog = true := by kernel_rfl

set_option maxRecDepth 100000 in
theorem lifted (os : Os) (started : os.Started) (H : Type) (enc : TypeId × Value → H) :
    ReturnsInHanded {} Try.checked os 4 .any (Rows.octetReadsSpec.pre6 enc Try.prog Try.f4 Rows.octetReadsRow.domain false) (Rows.octetReadsSpec.post enc Try.prog Try.f4 false true false false) := by
  refine law_lift (C := Try.checked) (tb := 4) own started (by kernel_rfl) Try.func4
    (ChangeSpec.witness6 (enc := enc) (C := Try.checked) false ⟨#[], #[ .agg #[.slice none 0 0, .int .i64 0], .int .i64 0], []⟩ 8 (by kernel_rfl) (by kernel_rfl) (by kernel_rfl) (by kernel_rfl))
    laidOut (by kernel_rfl) rfl (by kernel_rfl) Try.underlying4 (fun ds h => ?_) ?_
  · rw [Try.params4] at h
    match ds, h with
    | [_, _], _ => rfl
  intro W base args ds p hval hA hz
  rw [Try.params4] at hA hval hz
  obtain ⟨v0, vs0, d0, ds0, p0, q0, hargs, rfl, rfl, h0, r0⟩ := trodAll_cons hA
  obtain ⟨v1, vs1, d1, ds1, p1, q1, rfl, rfl, rfl, h1, r1⟩ := trodAll_cons r0
  obtain ⟨rfl, rfl, rfl⟩ := trodAll_nil r1
  obtain rfl : args = #[v0, v1] := by cases args; simp_all
  obtain ⟨a1, rfl, rfl, rfl, w1⟩ := open_int Try.underlying3 (hval 1 3 v1 rfl rfl) h1
  obtain ⟨cs, rfl, hl, fuel, hf⟩ := open_struct Try.underlying33 (hval 0 33 v0 rfl rfl) h0
  rw [show Try.prog.cellsOf 33 = 2 by kernel_rfl] at hl
  match cs, hl with
  | [c0, c1], _ =>
  obtain ⟨y0, f0⟩ := fld hf 0 31 0 1 rfl rfl rfl (by kernel_rfl) rfl
  obtain ⟨y1, f1⟩ := fld hf 1 3 1 1 rfl rfl rfl (by kernel_rfl) rfl
  obtain ⟨dv, xs, e0, hb, _⟩ := op_bytes Try.underlying31 Try.underlying5 (by kernel_rfl) f0
  obtain ⟨n, e1, _⟩ := op_int Try.underlying3 f1
  obtain rfl : c0 = dv := by injection e0
  obtain rfl : c1 = .int .i64 n := by injection e1
  refine (readsLaw_fn c0 xs n a1).below (fun ψ hψ => ?_)
  rcases List.mem_singleton.1 hψ with rfl
  exact hb

theorem over : Rows.octetReadsRow.holds Try.pinned (OpenSpec.ofChange Rows.octetReadsSpec) :=
  OpenClaim.holds_of_wide 4 Try.f4 rfl rfl rfl rfl rfl rfl rfl ⟨rfl, rfl, rfl, rfl, rfl⟩ rfl rfl rfl rfl rfl (by kernel_rfl) Try.func4 (by kernel_rfl)
    (of_decide_eq_true (by kernel_rfl)) (by unfold Func.isWrapper; first | (rw [if_pos (by decide +kernel)]; kernel_rfl) | (rw [if_neg (by decide +kernel)]; exact ⟨rfl, rfl⟩))
    (fun os started H enc _ => lifted os started H enc)

theorem proved : Rows.OctetReadsSaid := over
#print axioms proved
end Go.Proofs.Ytlbihmfpgpfboaa.octetReads
