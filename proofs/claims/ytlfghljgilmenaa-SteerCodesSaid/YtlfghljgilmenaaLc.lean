/-
  The rules of the small logic for copy, and for rows whose cells are written. No program is named here.
-/
import Derived.Test.YtlfghljgilmenaaLb
import Derived.Laws.CopyRow
import Derived.Laws.IdiomCopy
namespace Go.Hs
open Go Go.RowKit

section
variable {C : Ctx} {fr : Fr} {Γ Γ' : List OA} {Φ : List SP}
  {d : Nat} {ty : TypeId} {pos : String} {aft : Array Edge} {g : Option (Nat × Bool)}

/-- an own row, its cells written anew. -/
theorem setRow_row {t : TypeId} {size n cap b : Nat} {xs us : List Value} {cur new : Array Value} {w : World} (h : Holds C (.row (.slice (some ⟨b, 0, none⟩) n cap) t size n xs :: Γ) Φ w)
    (hb : w.heap[b]? = some (.cells cur t (0, 0))) (hs : new.size = cur.size) (hu : new.toList.take (n * size) = us) : Holds C (.row (.slice (some ⟨b, 0, none⟩) n cap) t size n us :: Γ) Φ (w.setRow b new) := by
  have hother : ∀ k, k ≠ b → (w.setRow b new).heap[k]? = w.heap[k]? := fun k hk => setRow_other w b k _ hk
  have hfp : ∀ k, (OA.row (.slice (some ⟨b, 0, none⟩) n cap) t size n xs).fp k ↔ k = b := fun k => by
    constructor
    · intro (e : some b = some k)
      injection e with e
      exact e.symm
    · intro e
      subst e
      exact (rfl : some k = some k)
  refine h.move ⟨rfl, rfl, rfl, by simp, fun k _ hn => hother k fun e => hn (fpL_cons.2 (.inl ((hfp k).2 e)))⟩ ⟨?_, h.own.2.1, h.own.2.2.keep fun k _ hk => hother k fun e => h.own.2.1 k ((hfp k).2 e) hk⟩
    fun k _ hk => by
      rcases fpL_cons.1 hk with e | e
      · exact fpL_cons.2 (.inl e)
      · exact fpL_cons.2 (.inr e)
  obtain ⟨h1, h2⟩ := h.own.1
  rcases h2 with ⟨h2, _⟩ | ⟨g', cap', cur', he, _, hb', hc, hm, hsz, htk⟩
  · cases h2
  · injection he with he1 he2 he3
    injection he1 with he1
    injection he1 with he1
    subst he1
    subst he3
    rw [hb] at hb'
    injection hb' with hb'
    injection hb' with hb'
    subst hb'
    refine ⟨?_, .inr ⟨b, cap, new, rfl, Nat.zero_le _, setRow_heap w b _ _ t _ hb, hc, hm, by rw [hs, hsz], hu⟩⟩
    rw [← hu, List.length_take, Array.length_toList, hs, hsz]
    exact Nat.min_eq_left (Nat.mul_le_mul_right _ hc)

theorem E_copyBy {t t' e : TypeId} {x y : Operand} {v u : Value} {n : Nat} {bs : List UInt8} {xs us : List Value} (hx : evO fr x = some v) (hy : evO fr y = some u) (hp : Pick (.row v e 1 n xs) Γ Γ') (hm : By u bs ∈ Φ)
    (ht : C.P.underlying t = some (.slice e)) (hs : (C.P.info? e).map (·.size) = some 1) (hn : bs.length ≤ n) (hu : bs.map bcell ++ xs.drop bs.length = us) :
    Effs C fr Γ Φ ⟨some d, .call { callee := .builtin .copy, args := #[x, y], argTypes := #[t, t'] }, ty, pos, aft, g⟩ (X := Unit) (fun _ => True) (fun _ => .int .i64 (bs.length : Int)) (fun _ => .row v e 1 n us :: Γ') (fun _ => Φ) := by
  subst hu
  refine ⟨fun _ => AllIn.refl _, fun R a w ha hw => ?_⟩
  have hw' := pick_holds (pick_app hp R) hw
  obtain ⟨hl, B, c', hu', _, _, hr⟩ := hw'.sp _ hm
  have hown := hw'.own.1
  obtain ⟨hlx, h2⟩ := hown
  rcases Nat.eq_zero_or_pos bs.length with h0 | h0
  · have hbs : bs = [] := List.eq_nil_of_length_eq_zero h0
    subst hbs
    obtain ⟨A, c, hv, _⟩ := row_nil_or hw'.own.1
    refine .val (v := .int .i64 0) (w' := w) ?_ ⟨(), trivial, rfl, by simpa using hw'⟩
    subst hv
    subst hu'
    have hrun := run_copy_none (P := C.P) w t t' ty e A B n c 0 c' ht hs (Nat.zero_min _)
    simp only [List.length_nil] at *
    simp only [execOp, resolve, invoke, builtin, Sem.run_bind, Sem.run_pure, Result.andThen_ok, List.map_toArray, List.map_cons, List.map_nil, evO_sound ha hx, evO_sound ha hy, hrun, goInt]
  · obtain ⟨ad, rfl, _, _, hcell⟩ := hr h0
    rcases h2 with ⟨_, h2⟩ | ⟨b, cap, cur, rfl, _, hb, hc, hcm, hsz, htk⟩
    · omega
    · subst hu'
      have hle : bs.length ≤ cur.size := by omega
      have hrun := run_copy_row (P := C.P) w t t' ty e b 0 n cap ad bs.length c' cur e (bs.map bcell) ht hs hb (by rw [List.length_map]; exact (Nat.min_eq_left hn).symm) hcell (by simpa using hle) (bcells_one _)
      refine .val (v := .int .i64 (bs.length : Int)) (w' := _) ?_ ⟨(), trivial, rfl, setRow_row (new := (cur.toList.take 0 ++ bs.map bcell ++ cur.toList.drop (0 + (bs.map bcell).length)).toArray) hw' hb (by simp; omega) ?_⟩
      · simp only [execOp, resolve, invoke, builtin, Sem.run_bind, Sem.run_pure, Result.andThen_ok, List.map_toArray, List.map_cons, List.map_nil, evO_sound ha hx, evO_sound ha hy, hrun, goInt, List.length_map]
      · rw [← htk, List.take_zero, List.nil_append, List.length_map, Nat.zero_add, Nat.mul_one, List.take_append, List.length_map, List.drop_take]
        rw [List.take_of_length_le (by simpa using hn)]

/-- a row written over whole. -/
theorem E_copyAll {t t' e : TypeId} {x y : Operand} {v u : Value} {n : Nat} {bs : List UInt8} {xs : List Value} (hx : evO fr x = some v) (hy : evO fr y = some u) (hp : Pick (.row v e 1 n xs) Γ Γ') (hm : By u bs ∈ Φ)
    (ht : C.P.underlying t = some (.slice e)) (hs : (C.P.info? e).map (·.size) = some 1) (hn : bs.length = n) :
    Effs C fr Γ Φ ⟨some d, .call { callee := .builtin .copy, args := #[x, y], argTypes := #[t, t'] }, ty, pos, aft, g⟩ (X := Unit) (fun _ => True) (fun _ => .int .i64 (bs.length : Int)) (fun _ => .row v e 1 n (bs.map bcell) :: Γ') (fun _ => Φ) := by
  refine ⟨fun _ => AllIn.refl _, fun R a w ha hw => ?_⟩
  have hlx := (pick_holds (pick_app hp R) hw).own.1.1
  have e1 : bs.map bcell ++ xs.drop bs.length = bs.map bcell := by rw [List.drop_of_length_le (by omega), List.append_nil]
  exact (E_copyBy hx hy hp hm ht hs (by omega) e1).2 R a w ha hw
end

theorem one_map (b : UInt8) : [Value.int .u8 (b.toNat : Int)] = List.map bcell [b] := rfl
theorem two_map (b c : UInt8) : [Value.int .u8 (b.toNat : Int), .int .u8 (c.toNat : Int)] = List.map bcell [b, c] := rfl
end Go.Hs
