/-
  Openings of arguments that are arrays of bytes. No program is named here.
-/
import Derived.Test.YtlfghljgilmenaaLw
import Derived.Test.YtlfghljgilmenaaLd
namespace Go.Hs
open Go Go.RowKit

theorem cells_bytes : ∀ (cs : List Value), (∀ i, i < cs.length → ∃ b : UInt8, (cs.drop i).take 1 = [bcell b]) → ∃ bs : List UInt8, cs = bs.map bcell
  | [], _ => ⟨[], rfl⟩
  | c :: r, h => by
    obtain ⟨b, hb⟩ := h 0 (by simp)
    simp only [List.drop_zero, List.take_succ_cons, List.take_zero, List.cons.injEq, and_true] at hb
    obtain ⟨bs, hbs⟩ := cells_bytes r fun i hi => by
      obtain ⟨b', h'⟩ := h (i + 1) (by simpa using hi)
      exact ⟨b', by simpa using h'⟩
    exact ⟨b :: bs, by rw [hb, hbs]; rfl⟩
section
variable {H : Type} {enc : TypeId × Value → H} {P : Program} {w : World} {held : Bool}
theorem op_arr {t e : TypeId} {n fuel : Nat} {cs : List Value} {x : DataW H × List MemPlace} (ht : P.underlying t = some (.array n e)) (he : P.underlying e = some (.int .u8)) (hc : P.cellsOf e = 1) (hct : P.cellsOf t = n)
    (h : DataW.trod enc P w 0 (fun _ => true) held fuel t cs = some x) : ∃ bs : List UInt8, bs.length = n ∧ cs = bs.map bcell := by
  have key : cs.length = n ∧ ∃ fuel', ∀ i, i < n → ∃ y, DataW.trod enc P w 0 (fun _ => true) held fuel' e ((cs.drop i).take 1) = some y := by
    cases fuel with
    | zero => simp [DataW.trod] at h
    | succ fuel =>
      unfold DataW.trod at h
      rw [ht] at h
      split at h <;> first | (rename_i heq; injection heq with heq; cases heq; done) | skip
      all_goals first | (exfalso; simp_all; done) | skip
      split at h
      · rename_i heq hl
        injection heq with heq
        injection heq with h1 h2
        subst h1; subst h2
        rw [Option.map_eq_some_iff] at h
        obtain ⟨ys, hm, _⟩ := h
        refine ⟨by rw [hl, hct], fuel, fun i hi => ?_⟩
        obtain ⟨y, hy⟩ := mapM_get hm (i := i) (a := i) (by rw [List.getElem?_range hi])
        rw [hc, Nat.mul_one] at hy
        exact ⟨y, hy⟩
      · cases h
  obtain ⟨hl, fuel', hk⟩ := key
  obtain ⟨bs, hbs⟩ := cells_bytes cs fun i hi => by
    obtain ⟨y, hy⟩ := hk i (by omega)
    obtain ⟨k, h1, h2⟩ := op_int he hy
    obtain ⟨b, rfl⟩ := wf_u8 h2
    exact ⟨b, h1⟩
  exact ⟨bs, by rw [← hl, hbs, List.length_map], hbs⟩
theorem open_arr {t e : TypeId} {n : Nat} {r : Reach} {base : Nat} {v : Value} {d : DataW H} {ps : List MemPlace} (ht : P.underlying t = some (.array n e)) (he : P.underlying e = some (.int .u8)) (hc : P.cellsOf e = 1) (hct : P.cellsOf t = n)
    (hval : Value.okWide P w r base t v) (h : DataW.Trod enc P w 0 (fun _ => true) held t v d ps) : ∃ bs : List UInt8, bs.length = n ∧ v = .agg (bs.map bcell).toArray := by
  simp only [Value.okWide, ht] at hval
  obtain ⟨cs, rfl, _, _⟩ := hval
  obtain ⟨fuel, hf⟩ := h
  obtain ⟨bs, h1, h2⟩ := op_arr ht he hc hct hf
  refine ⟨bs, h1, ?_⟩
  have h2 : cs.toList = bs.map bcell := h2
  rw [← h2]
theorem open_a6 {t e : TypeId} {r : Reach} {base : Nat} {v : Value} {d : DataW H} {ps : List MemPlace} (ht : P.underlying t = some (.array 6 e)) (he : P.underlying e = some (.int .u8)) (hc : P.cellsOf e = 1) (hct : P.cellsOf t = 6)
    (hval : Value.okWide P w r base t v) (h : DataW.Trod enc P w 0 (fun _ => true) held t v d ps) : ∃ a : A6, v = .agg #[bcell a.a0, bcell a.a1, bcell a.a2, bcell a.a3, bcell a.a4, bcell a.a5] := by
  obtain ⟨bs, hl, rfl⟩ := open_arr ht he hc hct hval h
  match bs, hl with
  | [b0, b1, b2, b3, b4, b5], _ => exact ⟨⟨b0, b1, b2, b3, b4, b5⟩, rfl⟩
theorem op_a6 {t e : TypeId} {fuel : Nat} {cs : List Value} {x : DataW H × List MemPlace} (ht : P.underlying t = some (.array 6 e)) (he : P.underlying e = some (.int .u8)) (hc : P.cellsOf e = 1) (hct : P.cellsOf t = 6)
    (h : DataW.trod enc P w 0 (fun _ => true) held fuel t cs = some x) : ∃ a : A6, cs = a.cells := by
  obtain ⟨bs, hl, rfl⟩ := op_arr ht he hc hct h
  match bs, hl with
  | [b0, b1, b2, b3, b4, b5], _ => exact ⟨⟨b0, b1, b2, b3, b4, b5⟩, rfl⟩
end
end Go.Hs
