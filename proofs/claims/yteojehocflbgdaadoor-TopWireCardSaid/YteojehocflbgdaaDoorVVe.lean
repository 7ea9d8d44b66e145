/-
  Items and hits that are handed in, opened.
-/
import Derived.Test.YteojehocflbgdaaDoorVVb
import Derived.Test.YteojehocflbgdaaDoorXg
import Derived.Test.YteojehocflbgdaaDoorXc
import Derived.Test.YteojehocflbgdaaDoorRows
namespace Go.Proofs.YteojehocflbgdaaDoor
open Go Go.ChangeShapes Go.WideShapes Go.ChangeAt Go.RowKit Go.Hs C05 C08 C08d

section
variable {H : Type} {enc : TypeId × Value → H} {w : World} {held : Bool}
set_option maxRecDepth 100000 in
theorem op_it {fuel : Nat} {cs : List Value} {x : DataW H × List MemPlace} (h : DataW.trod enc Tryd.prog w 0 (fun _ => true) held fuel 35 cs = some x) : ∃ x : It, cs = x.cells ∧ x.head.w ∧
    (Rw 13 x.pv x.pks.length (fun j => (x.pks.getD j pk0).cells)).p w (fun _ => False) ∧ (Al x.pks.length (fun j => By (x.pks.getD j pk0).dv (x.pks.getD j pk0).data)).p w (fun _ => False) := by
  obtain ⟨hl, fu, hf⟩ := op_struct Tryd.underlying35 h
  have hl : cs.length = 41 := hl.trans (by kernel_rfl)
  obtain ⟨y0, f0⟩ := fld hf 0 32 0 40 rfl rfl rfl (by kernel_rfl) rfl
  obtain ⟨y1, f1⟩ := fld hf 1 33 40 1 rfl rfl rfl (by kernel_rfl) rfl
  obtain ⟨hd, e0, hw⟩ := op_hd f0
  obtain ⟨v, n, f, fuel', e1, hr, _, hel⟩ := op_things (size := 13) Tryd.underlying33 (by kernel_rfl) (by decide) f1
  obtain ⟨l, _, h1, h2⟩ := list_pk hr fun i hi => by
    obtain ⟨_, y, hy⟩ := hel i hi
    exact op_pk hy
  refine ⟨⟨hd, v, l⟩, ?_, hw, h1, h2⟩
  have e2 : (cs.drop 40).take 1 = cs.drop 40 := List.take_of_length_le (by rw [List.length_drop]; omega)
  rw [e2] at e1
  rw [List.drop_zero] at e0
  show cs = hd.cells ++ [v]
  rw [← e0, ← e1, List.take_append_drop]
set_option maxRecDepth 100000 in
theorem op_hit {fuel : Nat} {cs : List Value} {x : DataW H × List MemPlace} (h : DataW.trod enc Tryd.prog w 0 (fun _ => true) held fuel 49 cs = some x) : ∃ q : Int × Nat × BitVec 32, cs = [.int .i64 q.1, .int .u16 (q.2.1 : Int), .int .u32 (q.2.2.toNat : Int)] ∧ q.2.1 < 65536 := by
  obtain ⟨hl, fu, hf⟩ := op_struct Tryd.underlying49 h
  have hl : cs.length = 3 := hl.trans (by kernel_rfl)
  match cs, hl with
  | [c0, c1, c2], _ =>
  obtain ⟨y0, f0⟩ := fld hf 0 3 0 1 rfl rfl rfl (by kernel_rfl) rfl
  obtain ⟨y1, f1⟩ := fld hf 1 46 1 1 rfl rfl rfl (by kernel_rfl) rfl
  obtain ⟨y2, f2⟩ := fld hf 2 47 2 1 rfl rfl rfl (by kernel_rfl) rfl
  obtain ⟨n, e0, _⟩ := op_int Tryd.underlying3 f0
  obtain ⟨m, e1, w1⟩ := op_int Tryd.underlying46 f1
  obtain ⟨k, e2, w2⟩ := op_int Tryd.underlying47 f2
  obtain ⟨m', rfl, hm⟩ := wf_u16 w1
  obtain ⟨k', rfl⟩ := wf_u32 w2
  injection e0 with e0
  injection e1 with e1
  injection e2 with e2
  subst e0; subst e1; subst e2
  exact ⟨⟨n, m', k'⟩, rfl, hm⟩
def ItP (w : World) (u : It) : Prop := u.head.w ∧ (Rw 13 u.pv u.pks.length (fun j => (u.pks.getD j pk0).cells)).p w (fun _ => False) ∧ (Al u.pks.length (fun j => By (u.pks.getD j pk0).dv (u.pks.getD j pk0).data)).p w (fun _ => False)
theorem list_it {n : Nat} {v : Value} {f : Nat → List Value} (hr : (Rw 41 v n f).p w (fun _ => False)) (hel : ∀ i, i < n → ∃ u : It, f i = u.cells ∧ ItP w u) :
    ∃ l : List It, (Rw 41 v l.length (fun i => (l.getD i it0).cells)).p w (fun _ => False) ∧ ∀ i, i < l.length → ItP w (l.getD i it0) := by
  have hch : ∀ i, ∃ u : It, i < n → f i = u.cells ∧ ItP w u := fun i => by
    by_cases hi : i < n
    · obtain ⟨u, h1, h2⟩ := hel i hi
      exact ⟨u, fun _ => ⟨h1, h2⟩⟩
    · exact ⟨it0, fun h => absurd h hi⟩
  obtain ⟨g, hg⟩ := Classical.axiomOfChoice hch
  have hl : ((List.range n).map g).length = n := by simp
  have hget : ∀ i, i < n → ((List.range n).map g).getD i it0 = g i := fun i hi => by
    rw [List.getD_eq_getElem?_getD, List.getElem?_map, List.getElem?_range hi]; rfl
  refine ⟨(List.range n).map g, ?_, fun i hi => ?_⟩
  · rw [hl]
    have hr' : rwP 41 v n f w (fun _ => False) := hr
    exact rwP_congr hr' fun i hi => by rw [hget i hi]; exact (hg i hi).1
  · rw [hl] at hi
    rw [hget i hi]
    exact (hg i hi).2
set_option maxRecDepth 100000 in
theorem open_its {r : Reach} {base : Nat} {v : Value} {d : DataW H} {ps : List MemPlace} (hval : Value.okWide Tryd.prog w r base 22 v) (h : DataW.Trod enc Tryd.prog w 0 (fun _ => true) held 22 v d ps) :
    ∃ l : List It, (Rw 41 v l.length (fun i => (l.getD i it0).cells)).p w (fun _ => False) ∧ ∀ i, i < l.length → ItP w (l.getD i it0) := by
  obtain ⟨n, f, fuel, hr, _, hel⟩ := open_things (size := 41) Tryd.underlying22 (by kernel_rfl) (by decide) hval h
  exact list_it hr fun i hi => by
    obtain ⟨_, y, hy⟩ := hel i hi
    exact op_it hy
set_option maxRecDepth 100000 in
theorem open_hits {r : Reach} {base : Nat} {v : Value} {d : DataW H} {ps : List MemPlace} (hval : Value.okWide Tryd.prog w r base 23 v) (h : DataW.Trod enc Tryd.prog w 0 (fun _ => true) held 23 v d ps) :
    ∃ (n : Nat) (g : Nat → Int × Nat × BitVec 32), (Rw 3 v n (fun i => [.int .i64 (g i).1, .int .u16 ((g i).2.1 : Int), .int .u32 ((g i).2.2.toNat : Int)])).p w (fun _ => False) ∧ ∀ i, (g i).2.1 < 65536 := by
  obtain ⟨n, f, fuel, hr, _, hel⟩ := open_things (size := 3) Tryd.underlying23 (by kernel_rfl) (by decide) hval h
  have hch : ∀ i, ∃ q : Int × Nat × BitVec 32, (i < n → f i = [.int .i64 q.1, .int .u16 (q.2.1 : Int), .int .u32 (q.2.2.toNat : Int)]) ∧ q.2.1 < 65536 := fun i => by
    by_cases hi : i < n
    · obtain ⟨_, y, hy⟩ := hel i hi
      obtain ⟨q, h1, h2⟩ := op_hit hy
      exact ⟨q, fun _ => h1, h2⟩
    · exact ⟨(0, 0, 0), fun h => absurd h hi, by decide⟩
  obtain ⟨g, hg⟩ := Classical.axiomOfChoice hch
  have hr' : rwP 3 v n f w (fun _ => False) := hr
  exact ⟨n, g, rwP_congr hr' fun i hi => (hg i).1 hi, fun i => (hg i).2⟩
end
end Go.Proofs.YteojehocflbgdaaDoor
