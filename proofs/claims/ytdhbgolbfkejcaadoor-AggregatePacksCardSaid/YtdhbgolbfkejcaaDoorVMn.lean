/-
  Packets that are handed in, opened.
-/
import Derived.Test.YtdhbgolbfkejcaaDoorVMi
import Derived.Test.YtdhbgolbfkejcaaDoorRows
import Derived.Test.YtdhbgolbfkejcaaDoorXc
namespace Go.Proofs.YtdhbgolbfkejcaaDoor
open Go Go.ChangeShapes Go.WideShapes Go.ChangeAt Go.RowKit Go.Hs C08

section
variable {H : Type} {enc : TypeId × Value → H} {w : World} {held : Bool}
set_option maxRecDepth 100000 in
theorem op_pk {fuel : Nat} {cs : List Value} {x : DataW H × List MemPlace} (h : DataW.trod enc Tryd.prog w 0 (fun _ => true) held fuel 38 cs = some x) : ∃ p : PK, cs = p.cells ∧ (By p.dv p.data).p w (fun _ => False) := by
  obtain ⟨hl, fu, hf⟩ := op_struct Tryd.underlying38 h
  have hl : cs.length = 13 := hl.trans (by kernel_rfl)
  match cs, hl with
  | [c0, c1, c2, c3, c4, c5, c6, c7, c8, c9, c10, c11, c12], _ =>
  obtain ⟨y0, f0⟩ := fld hf 0 36 0 6 rfl rfl rfl (by kernel_rfl) rfl
  obtain ⟨y1, f1⟩ := fld hf 1 36 6 6 rfl rfl rfl (by kernel_rfl) rfl
  obtain ⟨y2, f2⟩ := fld hf 2 23 12 1 rfl rfl rfl (by kernel_rfl) rfl
  obtain ⟨a, e0⟩ := op_a6 Tryd.underlying36 Tryd.underlying5 (by kernel_rfl) (by kernel_rfl) f0
  obtain ⟨b, e1⟩ := op_a6 Tryd.underlying36 Tryd.underlying5 (by kernel_rfl) (by kernel_rfl) f1
  obtain ⟨v, bs, e2, hb, _⟩ := op_bytes Tryd.underlying23 Tryd.underlying5 (by kernel_rfl) f2
  refine ⟨⟨a, b, v, bs⟩, ?_, hb⟩
  have e0 : [c0, c1, c2, c3, c4, c5] = a.cells := e0
  have e1 : [c6, c7, c8, c9, c10, c11] = b.cells := e1
  have e2 : [c12] = [v] := e2
  show [c0, c1, c2, c3, c4, c5] ++ ([c6, c7, c8, c9, c10, c11] ++ [c12]) = a.cells ++ (b.cells ++ [v])
  rw [e0, e1, e2]
/-- a list of packets that is handed in. -/
theorem list_pk {n : Nat} {v : Value} {f : Nat → List Value} (hr : (Rw 13 v n f).p w (fun _ => False)) (hel : ∀ i, i < n → ∃ u : PK, f i = u.cells ∧ (By u.dv u.data).p w (fun _ => False)) :
    ∃ l : List PK, l.length = n ∧ (Rw 13 v l.length (fun i => (l.getD i pk0).cells)).p w (fun _ => False) ∧ (Al l.length (fun i => By (l.getD i pk0).dv (l.getD i pk0).data)).p w (fun _ => False) := by
  have hch : ∀ i, ∃ u : PK, i < n → f i = u.cells ∧ (By u.dv u.data).p w (fun _ => False) := fun i => by
    by_cases hi : i < n
    · obtain ⟨u, h1, h2⟩ := hel i hi
      exact ⟨u, fun _ => ⟨h1, h2⟩⟩
    · exact ⟨pk0, fun h => absurd h hi⟩
  obtain ⟨g, hg⟩ := Classical.axiomOfChoice hch
  have hl : ((List.range n).map g).length = n := by simp
  have hget : ∀ i, i < n → ((List.range n).map g).getD i pk0 = g i := fun i hi => by
    rw [List.getD_eq_getElem?_getD, List.getElem?_map, List.getElem?_range hi]; rfl
  refine ⟨(List.range n).map g, hl, ?_, fun i hi => ?_⟩
  · rw [hl]
    have hr' : rwP 13 v n f w (fun _ => False) := hr
    exact rwP_congr hr' fun i hi => by rw [hget i hi]; exact (hg i hi).1
  · rw [hl] at hi
    show (By _ _).p w _
    rw [hget i hi]
    exact (hg i hi).2
set_option maxRecDepth 100000 in
theorem open_pks {r : Reach} {base : Nat} {v : Value} {d : DataW H} {ps : List MemPlace} (hval : Value.okWide Tryd.prog w r base 22 v) (h : DataW.Trod enc Tryd.prog w 0 (fun _ => true) held 22 v d ps) :
    ∃ l : List PK, (Rw 13 v l.length (fun i => (l.getD i pk0).cells)).p w (fun _ => False) ∧ (Al l.length (fun i => By (l.getD i pk0).dv (l.getD i pk0).data)).p w (fun _ => False) := by
  obtain ⟨n, f, fuel, hr, _, hel⟩ := open_things (size := 13) Tryd.underlying22 (by kernel_rfl) (by decide) hval h
  obtain ⟨l, _, h1, h2⟩ := list_pk hr fun i hi => by
    obtain ⟨_, y, hy⟩ := hel i hi
    exact op_pk hy
  exact ⟨l, h1, h2⟩
end
end Go.Proofs.YtdhbgolbfkejcaaDoor
