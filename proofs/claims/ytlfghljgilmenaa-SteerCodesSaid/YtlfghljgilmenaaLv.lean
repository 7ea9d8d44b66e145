/-
  Arguments that are slices of things: what is read off their reading. No program is named here.
-/
import Derived.Test.YtlfghljgilmenaaLw
import Derived.Deep.Slices
namespace Go.Hs
open Go Go.RowKit Go.ChangeShapes Go.WideShapes Go.ChangeAt

theorem rwP_congr {size : Nat} {v : Value} {n : Nat} {f g : Nat → List Value} {w : World} {O : Nat → Prop} (h : rwP size v n f w O) (e : ∀ i, i < n → f i = g i) : rwP size v n g w O := by
  obtain ⟨A, c, hv, h1, h2, hr⟩ := h
  refine ⟨A, c, hv, h1, h2, fun hn => ?_⟩
  obtain ⟨ad, hA, hlt, hO, hcell⟩ := hr hn
  exact ⟨ad, hA, hlt, hO, fun i hi j u hu => hcell i hi j u (by rw [e i hi]; exact hu)⟩

section
variable {H : Type} {enc : TypeId × Value → H} {P : Program} {w : World} {held : Bool}

theorem op_things {t e : TypeId} {size fuel : Nat} {cs : List Value} {x : DataW H × List MemPlace} (ht : P.underlying t = some (.slice e)) (hs : P.cellsOf e = size) (h0 : 0 < size)
    (hf : DataW.trod enc P w 0 (fun _ => true) held fuel t cs = some x) : ∃ (v : Value) (n : Nat) (f : Nat → List Value) (fuel' : Nat), cs = [v] ∧ (Rw size v n f).p w (fun _ => False) ∧ n ≤ maxLen ∧
      ∀ i, i < n → (f i).length = size ∧ ∃ y, DataW.trod enc P w 0 (fun _ => true) held fuel' e (f i) = some y := by
  subst hs
  rcases Deep.open_slice ht hf with ⟨rfl, _⟩ | ⟨a, len, cap, m, n, D, Pl, rfl, _, hl, hm, hmm, _, hel⟩
  · exact ⟨_, 0, fun _ => [], 0, rfl, ⟨none, 0, rfl, Nat.le_refl _, by simp [maxLen], fun h => absurd h (by omega)⟩, by simp, fun i hi => absurd hi (by omega)⟩
  · simp only [if_true] at hmm
    have hch : ∀ i, ∃ cs', i < m → w.cells? 0 (a.add (i * P.cellsOf e)) (P.cellsOf e) = some cs' ∧ DataW.trod enc P w 0 (fun _ => true) held n e cs' = some (D i, Pl i) := fun i => by
      by_cases hi : i < m
      · obtain ⟨cs', h1, h2⟩ := hel i hi
        exact ⟨cs', fun _ => ⟨h1, h2⟩⟩
      · exact ⟨[], fun h => absurd h hi⟩
    obtain ⟨f, hf'⟩ := Classical.axiomOfChoice hch
    have hcell : ∀ i, i < len → (f i).length = P.cellsOf e ∧ ∀ j u, (f i)[j]? = some u → w.cell? (a.add (i * P.cellsOf e + j)) = some u := fun i hi => by
      obtain ⟨_, h2, h3⟩ := World.cells?_some (hf' i (by omega)).1
      refine ⟨h2, fun j u hu => ?_⟩
      have hj : j < (f i).length := (List.getElem?_eq_some_iff.1 hu).1
      have h4 := h3 j (by omega)
      rw [add_add'] at h4
      rw [h4, hu]
    refine ⟨_, len, f, n, rfl, ⟨some a, cap, rfl, hl, hm, fun hn => ⟨a, rfl, ?_, fun h => h, fun i hi j u hu => (hcell i hi).2 j u hu⟩⟩, by omega, fun i hi => ⟨(hcell i hi).1, _, (hf' i (by omega)).2⟩⟩
    obtain ⟨h1, h2⟩ := hcell 0 hn
    have h3 := h2 0 ((f 0)[0]'(by omega)) (List.getElem?_eq_getElem _)
    have := cell_block h3
    rwa [block_add] at this

theorem open_things {t e : TypeId} {size : Nat} {r : Reach} {base : Nat} {v : Value} {d : DataW H} {ps : List MemPlace} (ht : P.underlying t = some (.slice e)) (hs : P.cellsOf e = size) (h0 : 0 < size)
    (hval : Value.okWide P w r base t v) (h : DataW.Trod enc P w 0 (fun _ => true) held t v d ps) : ∃ (n : Nat) (f : Nat → List Value) (fuel' : Nat), (Rw size v n f).p w (fun _ => False) ∧ n ≤ maxLen ∧
      ∀ i, i < n → (f i).length = size ∧ ∃ y, DataW.trod enc P w 0 (fun _ => true) held fuel' e (f i) = some y := by
  obtain ⟨a, len, cap, rfl⟩ := okWide_slice ht hval
  obtain ⟨fuel, hf⟩ := h
  obtain ⟨v, n, f, fuel', e0, h1, h2, h3⟩ := op_things ht hs h0 hf
  have e0 : [Value.slice a len cap] = [v] := e0
  injection e0 with e0
  subst e0
  exact ⟨n, f, fuel', h1, h2, h3⟩

theorem open_lists {t e b : TypeId} {r : Reach} {base : Nat} {v : Value} {d : DataW H} {ps : List MemPlace} (ht : P.underlying t = some (.slice e)) (he : P.underlying e = some (.slice b)) (hb : P.underlying b = some (.int .u8)) (hce : P.cellsOf e = 1) (hcb : P.cellsOf b = 1)
    (hval : Value.okWide P w r base t v) (h : DataW.Trod enc P w 0 (fun _ => true) held t v d ps) : ∃ (fs : List (List UInt8)) (vs : Nat → Value), (Rw 1 v fs.length (fun i => [vs i])).p w (fun _ => False) ∧ (Al fs.length (fun i => By (vs i) (fs.getD i []))).p w (fun _ => False) := by
  obtain ⟨n, f, fuel, hr, _, hel⟩ := open_things ht hce (by decide) hval h
  have hch : ∀ i, ∃ q : Value × List UInt8, i < n → f i = [q.1] ∧ (By q.1 q.2).p w (fun _ => False) := fun i => by
    by_cases hi : i < n
    · obtain ⟨_, y, hy⟩ := hel i hi
      obtain ⟨v, bs, e0, h1, _⟩ := op_bytes he hb hcb hy
      exact ⟨(v, bs), fun _ => ⟨e0, h1⟩⟩
    · exact ⟨(.slice none 0 0, []), fun h => absurd h hi⟩
  obtain ⟨g, hg⟩ := Classical.axiomOfChoice hch
  have hl : ((List.range n).map fun i => (g i).2).length = n := by simp
  refine ⟨(List.range n).map fun i => (g i).2, fun i => (g i).1, ?_, fun i hi => ?_⟩
  · rw [hl]
    have hr' : rwP 1 v n f w (fun _ => False) := hr
    exact rwP_congr hr' fun i hi => (hg i hi).1
  · rw [hl] at hi
    have e : ((List.range n).map fun i => (g i).2).getD i [] = (g i).2 := by
      rw [List.getD_eq_getElem?_getD]
      simp [hi]
    show (By (g i).1 (((List.range n).map fun i => (g i).2).getD i [])).p w _
    rw [e]
    exact (hg i hi).2
end
end Go.Hs
