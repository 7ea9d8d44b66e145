/-
  Frames and collectors that are handed in, opened.
-/
import Derived.Test.YtglmcnjkcmbefaaVIw
import Derived.Test.YtglmcnjkcmbefaaXd
namespace Go.Proofs.Ytglmcnjkcmbefaa
open Go Go.ChangeShapes Go.WideShapes Go.ChangeAt Go.RowKit Go.Hs C05

section
variable {H : Type} {enc : TypeId × Value → H} {w : World} {held : Bool}
set_option maxRecDepth 100000 in
set_option maxHeartbeats 4000000 in
theorem op_pa {fuel : Nat} {cs : List Value} {x : DataW H × List MemPlace} (h : DataW.trod enc Try.prog w 0 (fun _ => true) held fuel 61 cs = some x) : ∃ p : Pa, cs = p.cells ∧ p.w ∧ (By p.bv p.body).p w (fun _ => False) := by
  obtain ⟨hl, fu, hf⟩ := op_struct Try.underlying61 h
  have hl : cs.length = 43 := hl.trans (by kernel_rfl)
  match cs, hl with
  | c0 :: c1 :: c2 :: c3 :: c4 :: c5 :: c6 :: c7 :: c8 :: c9 :: c10 :: c11 :: c12 :: c13 :: c14 :: c15 :: c16 :: c17 :: c18 :: c19 :: c20 :: c21 :: c22 :: c23 :: c24 :: c25 :: c26 :: c27 :: c28 :: c29 :: c30 :: c31 :: c32 :: c33 :: c34 :: c35 :: c36 :: c37 :: c38 :: c39 :: c40 :: c41 :: c42 :: [], _ =>
  obtain ⟨y0, f0⟩ := fld hf 0 25 0 40 rfl rfl rfl (by kernel_rfl) rfl
  obtain ⟨y1, f1⟩ := fld hf 1 3 40 1 rfl rfl rfl (by kernel_rfl) rfl
  obtain ⟨y2, f2⟩ := fld hf 2 26 41 1 rfl rfl rfl (by kernel_rfl) rfl
  obtain ⟨y3, f3⟩ := fld hf 3 3 42 1 rfl rfl rfl (by kernel_rfl) rfl
  obtain ⟨hd, e0, hw⟩ := op_hd f0
  obtain ⟨n, e1, hn⟩ := op_int Try.underlying3 f1
  obtain ⟨v, bs, e2, hb, _⟩ := op_bytes Try.underlying26 Try.underlying5 (by kernel_rfl) f2
  obtain ⟨m, e3, hm⟩ := op_int Try.underlying3 f3
  have hcs : c0 :: c1 :: c2 :: c3 :: c4 :: c5 :: c6 :: c7 :: c8 :: c9 :: c10 :: c11 :: c12 :: c13 :: c14 :: c15 :: c16 :: c17 :: c18 :: c19 :: c20 :: c21 :: c22 :: c23 :: c24 :: c25 :: c26 :: c27 :: c28 :: c29 :: c30 :: c31 :: c32 :: c33 :: c34 :: c35 :: c36 :: c37 :: c38 :: c39 :: [] = hd.cells := e0
  have e1 : [c40] = [Value.int .i64 n] := e1
  have e2 : [c41] = [v] := e2
  have e3 : [c42] = [Value.int .i64 m] := e3
  refine ⟨⟨hd, n, v, bs, m⟩, ?_, ⟨hw, hn, hm⟩, hb⟩
  show _ = hd.cells ++ ([Value.int .i64 n] ++ ([v] ++ [Value.int .i64 m]))
  rw [← hcs, ← e1, ← e2, ← e3]
  rfl
/-- a list of partial frames that is handed in. -/
theorem list_pa {n : Nat} {v : Value} {f : Nat → List Value} (hr : (Rw 43 v n f).p w (fun _ => False)) (hel : ∀ i, i < n → ∃ u : Pa, f i = u.cells ∧ u.w ∧ (By u.bv u.body).p w (fun _ => False)) :
    ∃ l : List Pa, l.length = n ∧ (Rw 43 v l.length (fun i => (l.getD i p0_).cells)).p w (fun _ => False) ∧ (Bd l).p w (fun _ => False) ∧ ∀ p ∈ l, p.w := by
  have hch : ∀ i, ∃ u : Pa, i < n → f i = u.cells ∧ u.w ∧ (By u.bv u.body).p w (fun _ => False) := fun i => by
    by_cases hi : i < n
    · obtain ⟨u, h1, h2⟩ := hel i hi
      exact ⟨u, fun _ => ⟨h1, h2⟩⟩
    · exact ⟨p0_, fun h => absurd h hi⟩
  obtain ⟨g, hg⟩ := Classical.axiomOfChoice hch
  have hl : ((List.range n).map g).length = n := by simp
  have hget : ∀ i, i < n → ((List.range n).map g).getD i p0_ = g i := fun i hi => by
    rw [List.getD_eq_getElem?_getD, List.getElem?_map, List.getElem?_range hi]; rfl
  refine ⟨(List.range n).map g, hl, ?_, fun p hp => ?_, fun p hp => ?_⟩
  · rw [hl]
    have hr' : rwP 43 v n f w (fun _ => False) := hr
    exact rwP_congr hr' fun i hi => by rw [hget i hi]; exact (hg i hi).1
  · obtain ⟨i, hi, rfl⟩ := List.mem_map.1 hp
    exact (hg i (List.mem_range.1 hi)).2.2
  · obtain ⟨i, hi, rfl⟩ := List.mem_map.1 hp
    exact (hg i (List.mem_range.1 hi)).2.1
set_option maxRecDepth 100000 in
theorem open_col {r : Reach} {base : Nat} {v : Value} {d : DataW H} {ps : List MemPlace} (hval : Value.okWide Try.prog w r base 43 v) (h : DataW.Trod enc Try.prog w 0 (fun _ => true) held 43 v d ps) :
    ∃ (u : Value) (l : List Pa), v = .agg #[u] ∧ (Rw 43 u l.length (fun i => (l.getD i p0_).cells)).p w (fun _ => False) ∧ (Bd l).p w (fun _ => False) ∧ ∀ p ∈ l, p.w := by
  simp only [Value.okWide, Try.underlying43] at hval
  obtain ⟨cs, rfl, _, _⟩ := hval
  obtain ⟨fuel, hf⟩ := h
  obtain ⟨hl, fu, hf⟩ := op_struct Try.underlying43 hf
  have hl : cs.toList.length = 1 := hl.trans (by kernel_rfl)
  obtain ⟨y0, f0⟩ := fld hf 0 41 0 1 rfl rfl rfl (by kernel_rfl) rfl
  obtain ⟨u, n, f, fuel', e0, hr, _, hel⟩ := op_things (size := 43) Try.underlying41 (by kernel_rfl) (by decide) f0
  obtain ⟨l, _, h1, h2, h3⟩ := list_pa hr fun i hi => by
    obtain ⟨_, y, hy⟩ := hel i hi
    exact op_pa hy
  refine ⟨u, l, ?_, h1, h2, h3⟩
  have : cs.toList = [u] := by
    have e0 : (cs.toList.drop 0).take 1 = [u] := e0
    match hc : cs.toList, hl with
    | [c], _ =>
      rw [hc] at e0
      exact e0
  have : cs = #[u] := by
    apply Array.toList_inj.1
    rw [this]
  rw [this]
end
end Go.Proofs.Ytglmcnjkcmbefaa
