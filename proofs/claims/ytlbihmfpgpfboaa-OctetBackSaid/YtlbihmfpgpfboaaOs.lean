/-
  This text proves that the law 'hotspotlaw01.OctetBack' answers true at every input and leaves what it was handed as it was.
-/
import Derived.Test.YtlbihmfpgpfboaaOr
import Derived.Test.YtlbihmfpgpfboaaLv
namespace Go.Proofs.Ytlbihmfpgpfboaa.octetBack
open Go Go.ChangeShapes Go.WideShapes Go.ChangeAt Go.RowKit Go.Hs

theorem own : ownKnob Try.prog.godebug = none := by kernel_rfl
theorem laidOut : laidOutB Try.prog = true := by kernel_rfl

set_option maxRecDepth 100000 in
theorem lifted (os : Os) (started : os.Started) (H : Type) (enc : TypeId × Value → H) :
    ReturnsInHanded {} Try.checked os 8 .any (Rows.octetBackSpec.pre6 enc Try.prog Try.f8 Rows.octetBackRow.domain false) (Rows.octetBackSpec.post enc Try.prog Try.f8 false true false false) := by
  refine law_lift (C := Try.checked) (tb := 4) own started (by kernel_rfl) Try.func8
    (ChangeSpec.witness6 (enc := enc) (C := Try.checked) false ⟨#[], #[ .slice none 0 0], []⟩ 8 (by kernel_rfl) (by kernel_rfl) (by kernel_rfl) (by kernel_rfl))
    laidOut (by kernel_rfl) rfl (by kernel_rfl) Try.underlying4 (fun ds h => ?_) ?_
  · rw [Try.params8] at h
    match ds, h with
    | [_], _ => rfl
  intro W base args ds p hval hA hz
  rw [Try.params8] at hA hval hz
  obtain ⟨v0, vs0, d0, ds0, p0, q0, hargs, rfl, rfl, h0, r0⟩ := trodAll_cons hA
  obtain ⟨rfl, rfl, rfl⟩ := trodAll_nil r0
  obtain rfl : args = #[v0] := by cases args; simp_all
  obtain ⟨n, f, fuel, hr, _, hel⟩ := open_things (size := 3) Try.underlying81 (by kernel_rfl) (by decide) (hval 0 81 v0 rfl rfl) h0
  have hch : ∀ i, ∃ q : UInt8 × Nat × Value × List UInt8, q.2.1 < 18446744073709551616 ∧ (i < n → f i = [.int .u8 (q.1.toNat : Int), .int .u64 (q.2.1 : Int), q.2.2.1] ∧ (By q.2.2.1 q.2.2.2).p W (fun _ => False)) := fun i => by
    by_cases hi : i < n
    · obtain ⟨hl, y, hy⟩ := hel i hi
      obtain ⟨_, fu, hf⟩ := op_struct Try.underlying83 hy
      generalize f i = cs at *
      match cs, hl with
      | [c0, c1, c2], _ =>
      obtain ⟨y0, f0⟩ := fld hf 0 5 0 1 rfl rfl rfl (by kernel_rfl) rfl
      obtain ⟨y1, f1⟩ := fld hf 1 22 1 1 rfl rfl rfl (by kernel_rfl) rfl
      obtain ⟨y2, f2⟩ := fld hf 2 31 2 1 rfl rfl rfl (by kernel_rfl) rfl
      obtain ⟨a, e0, w0⟩ := op_int Try.underlying5 f0
      obtain ⟨b, e1, w1⟩ := op_int Try.underlying22 f1
      obtain ⟨v, bs, e2, hb, _⟩ := op_bytes Try.underlying31 Try.underlying5 (by kernel_rfl) f2
      obtain ⟨a', rfl⟩ := wf_u8 w0
      obtain ⟨b', rfl, hb'⟩ := wf_u64 w1
      injection e0 with e0
      injection e1 with e1
      injection e2 with e2
      subst e0; subst e1; subst e2
      exact ⟨(a', b', c2, bs), hb', fun _ => ⟨rfl, hb⟩⟩
    · exact ⟨(0, 0, .slice none 0 0, []), by decide, fun h => absurd h hi⟩
  obtain ⟨g, hg⟩ := Classical.axiomOfChoice hch
  refine (backLaw_fn v0 n (fun i => (g i).1) (fun i => (g i).2.1) (fun i => (hg i).1) (fun i => (g i).2.2.1) (fun i => (g i).2.2.2)).below (fun ψ hψ => ?_)
  simp only [List.mem_cons, List.not_mem_nil, or_false] at hψ
  rcases hψ with rfl | rfl
  · have hr' : rwP 3 v0 n f W (fun _ => False) := hr
    exact rwP_congr hr' fun i hi => ((hg i).2 hi).1
  · exact fun i hi => ((hg i).2 hi).2

theorem over : Rows.octetBackRow.holds Try.pinned (OpenSpec.ofChange Rows.octetBackSpec) :=
  OpenClaim.holds_of_wide 8 Try.f8 rfl rfl rfl rfl rfl rfl rfl ⟨rfl, rfl, rfl, rfl, rfl⟩ rfl rfl rfl rfl rfl (by kernel_rfl) Try.func8 (by kernel_rfl)
    (of_decide_eq_true (by kernel_rfl)) (by unfold Func.isWrapper; first | (rw [if_pos (by decide +kernel)]; kernel_rfl) | (rw [if_neg (by decide +kernel)]; exact ⟨rfl, rfl⟩))
    (fun os started H enc _ => lifted os started H enc)

theorem proved : Rows.OctetBackSaid := over
#print axioms proved
end Go.Proofs.Ytlbihmfpgpfboaa.octetBack
