/-
  Neighbours that are handed in, opened.
-/
import Derived.Test.YtlfghljgilmenaaVSr
import Derived.Test.YtlfghljgilmenaaVSj
namespace Go.Proofs.Ytlfghljgilmenaa
open Go Go.ChangeShapes Go.WideShapes Go.ChangeAt Go.RowKit Go.Hs

section
variable {H : Type} {enc : TypeId × Value → H} {w : World} {held : Bool}
set_option maxRecDepth 100000 in
theorem op_nea {fuel : Nat} {cs : List Value} {x : DataW H × List MemPlace} (h : DataW.trod enc Try.prog w 0 (fun _ => true) held fuel 61 cs = some x) : ∃ v : Nea, cs = v.cells ∧ w64 v.ch ∧ w64 v.lv ∧ w64 v.ld := by
  obtain ⟨hl, fu, hf⟩ := op_struct Try.underlying61 h
  have hl : cs.length = 9 := hl.trans (by kernel_rfl)
  match cs, hl with
  | [c0, c1, c2, c3, c4, c5, c6, c7, c8], _ =>
  obtain ⟨y0, f0⟩ := fld hf 0 25 0 6 rfl rfl rfl (by kernel_rfl) rfl
  obtain ⟨y1, f1⟩ := fld hf 1 3 6 1 rfl rfl rfl (by kernel_rfl) rfl
  obtain ⟨y2, f2⟩ := fld hf 2 3 7 1 rfl rfl rfl (by kernel_rfl) rfl
  obtain ⟨y3, f3⟩ := fld hf 3 3 8 1 rfl rfl rfl (by kernel_rfl) rfl
  obtain ⟨a, e0⟩ := op_a6 Try.underlying25 Try.underlying5 (by kernel_rfl) (by kernel_rfl) f0
  obtain ⟨n, e1, hn⟩ := op_int Try.underlying3 f1
  obtain ⟨m, e2, hm⟩ := op_int Try.underlying3 f2
  obtain ⟨k, e3, hk⟩ := op_int Try.underlying3 f3
  injection e1 with e1
  injection e2 with e2
  injection e3 with e3
  subst e1; subst e2; subst e3
  injection e0 with q0 e0
  injection e0 with q1 e0
  injection e0 with q2 e0
  injection e0 with q3 e0
  injection e0 with q4 e0
  injection e0 with q5 e0
  subst q0; subst q1; subst q2; subst q3; subst q4; subst q5
  exact ⟨⟨a, n, m, k⟩, rfl, hn, hm, hk⟩
/-- a list of neighbours that is handed in. -/
theorem list_nea {n : Nat} {v : Value} {f : Nat → List Value} (hr : (Rw 9 v n f).p w (fun _ => False)) (hel : ∀ i, i < n → ∃ u : Nea, f i = u.cells ∧ w64 u.ch ∧ w64 u.lv ∧ w64 u.ld) :
    ∃ l : List Nea, l.length = n ∧ (Rw 9 v l.length (fun i => (l.getD i n0_).cells)).p w (fun _ => False) ∧ ∀ i, i < l.length → w64 (l.getD i n0_).ch ∧ w64 (l.getD i n0_).lv ∧ w64 (l.getD i n0_).ld := by
  have hch : ∀ i, ∃ u : Nea, i < n → f i = u.cells ∧ w64 u.ch ∧ w64 u.lv ∧ w64 u.ld := fun i => by
    by_cases hi : i < n
    · obtain ⟨u, h1, h2⟩ := hel i hi
      exact ⟨u, fun _ => ⟨h1, h2⟩⟩
    · exact ⟨n0_, fun h => absurd h hi⟩
  obtain ⟨g, hg⟩ := Classical.axiomOfChoice hch
  have hl : ((List.range n).map g).length = n := by simp
  have hget : ∀ i, i < n → ((List.range n).map g).getD i n0_ = g i := fun i hi => by
    rw [List.getD_eq_getElem?_getD, List.getElem?_map, List.getElem?_range hi]; rfl
  refine ⟨(List.range n).map g, hl, ?_, fun i hi => ?_⟩
  · rw [hl]
    have hr' : rwP 9 v n f w (fun _ => False) := hr
    exact rwP_congr hr' fun i hi => by rw [hget i hi]; exact (hg i hi).1
  · rw [hl] at hi
    rw [hget i hi]
    exact (hg i hi).2
end
end Go.Proofs.Ytlfghljgilmenaa
