/-
  States of stations that are handed in, opened.
-/
import Derived.Test.YtlfghljgilmenaaVSi
import Derived.Test.YtlfghljgilmenaaXc
import Derived.Test.YtlfghljgilmenaaXb
namespace Go.Proofs.Ytlfghljgilmenaa
open Go Go.ChangeShapes Go.WideShapes Go.ChangeAt Go.RowKit Go.Hs

section
variable {H : Type} {enc : TypeId × Value → H} {w : World} {held : Bool}
set_option maxRecDepth 100000 in
theorem op_vis {fuel : Nat} {cs : List Value} {x : DataW H × List MemPlace} (h : DataW.trod enc Try.prog w 0 (fun _ => true) held fuel 40 cs = some x) : ∃ v : Vis, cs = v.cells ∧ w64 v.left := by
  obtain ⟨hl, fu, hf⟩ := op_struct Try.underlying40 h
  have hl : cs.length = 7 := hl.trans (by kernel_rfl)
  match cs, hl with
  | [c0, c1, c2, c3, c4, c5, c6], _ =>
  obtain ⟨y0, f0⟩ := fld hf 0 25 0 6 rfl rfl rfl (by kernel_rfl) rfl
  obtain ⟨y1, f1⟩ := fld hf 1 3 6 1 rfl rfl rfl (by kernel_rfl) rfl
  obtain ⟨a, e0⟩ := op_a6 Try.underlying25 Try.underlying5 (by kernel_rfl) (by kernel_rfl) f0
  obtain ⟨n, e1, hn⟩ := op_int Try.underlying3 f1
  injection e1 with e1
  subst e1
  injection e0 with q0 e0
  injection e0 with q1 e0
  injection e0 with q2 e0
  injection e0 with q3 e0
  injection e0 with q4 e0
  injection e0 with q5 e0
  subst q0; subst q1; subst q2; subst q3; subst q4; subst q5
  exact ⟨⟨a, n⟩, rfl, hn⟩
set_option maxRecDepth 100000 in
theorem op_pla {fuel : Nat} {cs : List Value} {x : DataW H × List MemPlace} (h : DataW.trod enc Try.prog w 0 (fun _ => true) held fuel 23 cs = some x) : ∃ p : Pla, cs = [.int .i64 p.low, .int .i64 p.gain, .int .i64 p.weight, .int .i64 p.stay, .int .i64 p.back] ∧ p.w := by
  obtain ⟨hl, fu, hf⟩ := op_struct Try.underlying23 h
  have hl : cs.length = 5 := hl.trans (by kernel_rfl)
  match cs, hl with
  | [c0, c1, c2, c3, c4], _ =>
  obtain ⟨y0, f0⟩ := fld hf 0 3 0 1 rfl rfl rfl (by kernel_rfl) rfl
  obtain ⟨y1, f1⟩ := fld hf 1 3 1 1 rfl rfl rfl (by kernel_rfl) rfl
  obtain ⟨y2, f2⟩ := fld hf 2 3 2 1 rfl rfl rfl (by kernel_rfl) rfl
  obtain ⟨y3, f3⟩ := fld hf 3 3 3 1 rfl rfl rfl (by kernel_rfl) rfl
  obtain ⟨y4, f4⟩ := fld hf 4 3 4 1 rfl rfl rfl (by kernel_rfl) rfl
  obtain ⟨a, e0, w0⟩ := op_int Try.underlying3 f0
  obtain ⟨b, e1, w1⟩ := op_int Try.underlying3 f1
  obtain ⟨c, e2, w2⟩ := op_int Try.underlying3 f2
  obtain ⟨d, e3, w3⟩ := op_int Try.underlying3 f3
  obtain ⟨e, e4, w4⟩ := op_int Try.underlying3 f4
  injection e0 with e0
  injection e1 with e1
  injection e2 with e2
  injection e3 with e3
  injection e4 with e4
  subst e0; subst e1; subst e2; subst e3; subst e4
  exact ⟨⟨a, b, c, d, e⟩, rfl, w0, w1, w2, w3, w4⟩
/-- a list of visits that is handed in. -/
theorem list_vis {n : Nat} {v : Value} {f : Nat → List Value} (hr : (Rw 7 v n f).p w (fun _ => False)) (hel : ∀ i, i < n → ∃ u : Vis, f i = u.cells ∧ w64 u.left) :
    ∃ l : List Vis, l.length = n ∧ (Rw 7 v l.length (fun i => (l.getD i v0_).cells)).p w (fun _ => False) ∧ ∀ i, i < l.length → w64 (l.getD i v0_).left := by
  have hch : ∀ i, ∃ u : Vis, i < n → f i = u.cells ∧ w64 u.left := fun i => by
    by_cases hi : i < n
    · obtain ⟨u, h1, h2⟩ := hel i hi
      exact ⟨u, fun _ => ⟨h1, h2⟩⟩
    · exact ⟨v0_, fun h => absurd h hi⟩
  obtain ⟨g, hg⟩ := Classical.axiomOfChoice hch
  have hl : ((List.range n).map g).length = n := by simp
  have hget : ∀ i, i < n → ((List.range n).map g).getD i v0_ = g i := fun i hi => by
    rw [List.getD_eq_getElem?_getD, List.getElem?_map, List.getElem?_range hi]; rfl
  refine ⟨(List.range n).map g, hl, ?_, fun i hi => ?_⟩
  · rw [hl]
    have hr' : rwP 7 v n f w (fun _ => False) := hr
    exact rwP_congr hr' fun i hi => by rw [hget i hi]; exact (hg i hi).1
  · rw [hl] at hi
    rw [hget i hi]
    exact (hg i hi).2
set_option maxRecDepth 100000 in
theorem op_stt {fuel : Nat} {cs : List Value} {x : DataW H × List MemPlace} (h : DataW.trod enc Try.prog w 0 (fun _ => true) held fuel 28 cs = some x) : ∃ s : Stt, cs = s.cells ∧ s.w ∧ w64 s.since ∧ s.fact.p w (fun _ => False) := by
  obtain ⟨hl, fu, hf⟩ := op_struct Try.underlying28 h
  have hl : cs.length = 13 := hl.trans (by kernel_rfl)
  match cs, hl with
  | [c0, c1, c2, c3, c4, d0, d1, d2, d3, d4, d5, c6, c7], _ =>
  obtain ⟨y0, f0⟩ := fld hf 0 23 0 5 rfl rfl rfl (by kernel_rfl) rfl
  obtain ⟨y1, f1⟩ := fld hf 1 25 5 6 rfl rfl rfl (by kernel_rfl) rfl
  obtain ⟨y2, f2⟩ := fld hf 2 3 11 1 rfl rfl rfl (by kernel_rfl) rfl
  obtain ⟨y3, f3⟩ := fld hf 3 26 12 1 rfl rfl rfl (by kernel_rfl) rfl
  obtain ⟨p, e0, hp⟩ := op_pla f0
  obtain ⟨a, e1⟩ := op_a6 Try.underlying25 Try.underlying5 (by kernel_rfl) (by kernel_rfl) f1
  obtain ⟨n, e2, hn⟩ := op_int Try.underlying3 f2
  obtain ⟨v, m, f, fu2, e3, hr, _, hel⟩ := op_things (size := 7) Try.underlying26 (by kernel_rfl) (by decide) f3
  obtain ⟨l, hll, hlr, hlw⟩ := list_vis hr fun i hi => by
    obtain ⟨_, y, hy⟩ := hel i hi
    exact op_vis hy
  injection e0 with k0 e0
  injection e0 with k1 e0
  injection e0 with k2 e0
  injection e0 with k3 e0
  injection e0 with k4 e0
  injection e1 with q0 e1
  injection e1 with q1 e1
  injection e1 with q2 e1
  injection e1 with q3 e1
  injection e1 with q4 e1
  injection e1 with q5 e1
  injection e2 with e2
  injection e3 with e3
  subst k0; subst k1; subst k2; subst k3; subst k4; subst q0; subst q1; subst q2; subst q3; subst q4; subst q5; subst e2; subst e3
  exact ⟨⟨p, a, n, c7, l⟩, rfl, ⟨hp, hlw⟩, hn, hlr⟩
set_option maxRecDepth 100000 in
theorem open_stt {r : Reach} {base : Nat} {v : Value} {d : DataW H} {ps : List MemPlace} (hval : Value.okWide Try.prog w r base 28 v) (h : DataW.Trod enc Try.prog w 0 (fun _ => true) held 28 v d ps) : ∃ s : Stt, v = s.val ∧ s.w ∧ w64 s.since ∧ s.fact.p w (fun _ => False) := by
  simp only [Value.okWide, Try.underlying28] at hval
  obtain ⟨cs, rfl, _, _⟩ := hval
  obtain ⟨fuel, hf⟩ := h
  obtain ⟨s, h1, h2, h3, h4⟩ := op_stt hf
  refine ⟨s, ?_, h2, h3, h4⟩
  have h1 : cs.toList = s.cells := h1
  have : cs = s.cells.toArray := by rw [← h1]
  rw [this]
end
end Go.Proofs.Ytlfghljgilmenaa
