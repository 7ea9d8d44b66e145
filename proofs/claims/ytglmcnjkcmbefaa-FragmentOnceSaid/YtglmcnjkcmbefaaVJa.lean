/-
  Frames and collectors that are handed in, opened.
-/
import Derived.Test.YtglmcnjkcmbefaaVIw
import Derived.Test.YtglmcnjkcmbefaaXd
namespace Go.Proofs.Ytglmcnjkcmbefaa
open Go Go.ChangeShapes Go.WideShapes Go.ChangeAt Go.RowKit Go.Hs C05

section
variable {H : Type} {enc : TypeId × Value → H} {w : World} {held : Bool}
/-- a list of frames that is handed in. -/
theorem list_fm {n : Nat} {v : Value} {f : Nat → List Value} (hr : (Rw 41 v n f).p w (fun _ => False)) (hel : ∀ i, i < n → ∃ u : Fm, f i = u.cells ∧ u.head.w ∧ u.fact.p w (fun _ => False)) :
    ∃ l : List Fm, l.length = n ∧ (Rw 41 v l.length (fun i => (l.getD i f0_).cells)).p w (fun _ => False) ∧ (Bf l).p w (fun _ => False) ∧ ∀ p ∈ l, p.head.w := by
  have hch : ∀ i, ∃ u : Fm, i < n → f i = u.cells ∧ u.head.w ∧ u.fact.p w (fun _ => False) := fun i => by
    by_cases hi : i < n
    · obtain ⟨u, h1, h2⟩ := hel i hi
      exact ⟨u, fun _ => ⟨h1, h2⟩⟩
    · exact ⟨f0_, fun h => absurd h hi⟩
  obtain ⟨g, hg⟩ := Classical.axiomOfChoice hch
  have hl : ((List.range n).map g).length = n := by simp
  have hget : ∀ i, i < n → ((List.range n).map g).getD i f0_ = g i := fun i hi => by
    rw [List.getD_eq_getElem?_getD, List.getElem?_map, List.getElem?_range hi]; rfl
  refine ⟨(List.range n).map g, hl, ?_, fun p hp => ?_, fun p hp => ?_⟩
  · rw [hl]
    have hr' : rwP 41 v n f w (fun _ => False) := hr
    exact rwP_congr hr' fun i hi => by rw [hget i hi]; exact (hg i hi).1
  · obtain ⟨i, hi, rfl⟩ := List.mem_map.1 hp
    exact (hg i (List.mem_range.1 hi)).2.2
  · obtain ⟨i, hi, rfl⟩ := List.mem_map.1 hp
    exact (hg i (List.mem_range.1 hi)).2.1
set_option maxRecDepth 100000 in
theorem open_fms {r : Reach} {base : Nat} {v : Value} {d : DataW H} {ps : List MemPlace} (hval : Value.okWide Try.prog w r base 31 v) (h : DataW.Trod enc Try.prog w 0 (fun _ => true) held 31 v d ps) :
    ∃ l : List Fm, (Rw 41 v l.length (fun i => (l.getD i f0_).cells)).p w (fun _ => False) ∧ (Bf l).p w (fun _ => False) ∧ ∀ p ∈ l, p.head.w := by
  obtain ⟨n, f, fuel, hr, _, hel⟩ := open_things (size := 41) Try.underlying31 (by kernel_rfl) (by decide) hval h
  obtain ⟨l, _, h1, h2, h3⟩ := list_fm hr fun i hi => by
    obtain ⟨_, y, hy⟩ := hel i hi
    exact op_fm hy
  exact ⟨l, h1, h2, h3⟩
end
end Go.Proofs.Ytglmcnjkcmbefaa
