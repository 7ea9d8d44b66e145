/-
  Arguments that are slices of things, with the measure of their reading. No program is named here.
-/
import Derived.Test.YtahkcidnmdcaaaaLv
namespace Go.Hs
open Go Go.RowKit Go.ChangeShapes Go.WideShapes Go.ChangeAt

section
variable {H : Type} {enc : TypeId × Value → H} {P : Program} {w : World} {held : Bool}

theorem opf_things {t e : TypeId} {size fuel : Nat} {cs : List Value} {x : DataW H × List MemPlace} (ht : P.underlying t = some (.slice e)) (hs : P.cellsOf e = size) (h0 : 0 < size)
    (hf : DataW.trod enc P w 0 (fun _ => true) held fuel t cs = some x) : ∃ (v : Value) (n : Nat) (f : Nat → List Value), cs = [v] ∧ (Rw size v n f).p w (fun _ => False) ∧ n ≤ maxLen ∧
      ∀ i, i < n → (f i).length = size ∧ ∃ fuel' y, fuel' < fuel ∧ DataW.trod enc P w 0 (fun _ => true) held fuel' e (f i) = some y := by
  subst hs
  rcases DataW.trod_slice ht hf with ⟨rfl, _⟩ | ⟨a, len, cap, elems, rest, n, hfu, rfl, _, _, hl, hm, hel, hi1, _, _⟩
  · exact ⟨_, 0, fun _ => [], rfl, ⟨none, 0, rfl, Nat.le_refl _, by simp [maxLen], fun h => absurd h (by omega)⟩, by simp, fun i hi => absurd hi (by omega)⟩
  · have hch : ∀ i, ∃ cs', i < len → w.cells? 0 (a.add (i * P.cellsOf e)) (P.cellsOf e) = some cs' ∧ ∃ y, DataW.trod enc P w 0 (fun _ => true) held n e cs' = some y := fun i => by
      by_cases hi : i < len
      · have h1 := hi1 i hi
        rw [List.getElem?_eq_getElem (by omega)] at h1
        obtain ⟨cs', h2, h3⟩ := Option.bind_eq_some_iff.1 h1
        exact ⟨cs', fun _ => ⟨h2, _, h3⟩⟩
      · exact ⟨[], fun h => absurd h hi⟩
    obtain ⟨f, hf'⟩ := Classical.axiomOfChoice hch
    have hcell : ∀ i, i < len → (f i).length = P.cellsOf e ∧ ∀ j u, (f i)[j]? = some u → w.cell? (a.add (i * P.cellsOf e + j)) = some u := fun i hi => by
      obtain ⟨_, h2, h3⟩ := World.cells?_some (hf' i hi).1
      refine ⟨h2, fun j u hu => ?_⟩
      have hj : j < (f i).length := (List.getElem?_eq_some_iff.1 hu).1
      have h4 := h3 j (by omega)
      rw [add_add'] at h4
      rw [h4, hu]
    refine ⟨_, len, f, rfl, ⟨some a, cap, rfl, hl, hm, fun hn => ⟨a, rfl, ?_, fun h => h, fun i hi j u hu => (hcell i hi).2 j u hu⟩⟩, by omega, fun i hi => ⟨(hcell i hi).1, n, ?_⟩⟩
    · obtain ⟨h1, h2⟩ := hcell 0 hn
      have h3 := h2 0 ((f 0)[0]'(by omega)) (List.getElem?_eq_getElem _)
      have := cell_block h3
      rwa [block_add] at this
    · obtain ⟨y, hy⟩ := (hf' i hi).2
      exact ⟨y, by omega, hy⟩

theorem opf_struct {t : TypeId} {fs : Array Field} {fuel : Nat} {cs : List Value} {x : DataW H × List MemPlace} (ht : P.underlying t = some (.struct fs)) (h : DataW.trod enc P w 0 (fun _ => true) held fuel t cs = some x) :
    cs.length = P.cellsOf t ∧ ∃ fuel', fuel' < fuel ∧ ∀ {i : Nat} {f : Field}, fs[i]? = some f → ∃ y, DataW.trod enc P w 0 (fun _ => true) held fuel' f.type ((cs.drop f.offset).take (P.cellsOf f.type)) = some y := by
  cases fuel with
  | zero => simp [DataW.trod] at h
  | succ fuel =>
    unfold DataW.trod at h
    rw [ht] at h
    split at h <;> first | (rename_i heq; injection heq with heq; cases heq; done) | skip
    all_goals first | (exfalso; simp_all; done) | skip
    split at h
    · rename_i heq hl
      injection heq with heq
      injection heq with heq
      subst heq
      rw [Option.map_eq_some_iff] at h
      obtain ⟨ys, hm, _⟩ := h
      exact ⟨hl, fuel, Nat.lt_succ_self _, fun {i f} hf => mapM_get hm (by simpa using hf)⟩
    · cases h
end
end Go.Hs
