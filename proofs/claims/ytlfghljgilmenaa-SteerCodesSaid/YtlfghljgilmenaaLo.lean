/-
  The rules of the small logic for parts of slices of things, and for copies into a part of an own row. No program is named here.
-/
import Derived.Test.YtlfghljgilmenaaLh
import Derived.Test.YtlfghljgilmenaaLc
namespace Go.Hs
open Go Go.RowKit

theorem ent_alC {Φ : List SP} {n m : Nat} {ψ ψ' : Nat → SP} (hm : Al n ψ ∈ Φ) (h : m ≤ n) (e : ∀ i, i < m → ψ i = ψ' i) : Ent Φ (Al m ψ') := fun w O hw i hi => by
  rw [← e i hi]
  exact hw _ hm i (Nat.lt_of_lt_of_le hi h)
theorem ent_rwC {Φ : List SP} {size n m : Nat} {v : Value} {f f' : Nat → List Value} (hm : Rw size v n f ∈ Φ) (hn : n = m) (e : ∀ i, i < n → f i = f' i) : Ent Φ (Rw size v m f') := fun w O hw => by
  subst hn
  obtain ⟨A, c, hv, h1, h2, hr⟩ := hw _ hm
  refine ⟨A, c, hv, h1, h2, fun h0 => ?_⟩
  obtain ⟨ad, hA, hlt, hO, hc⟩ := hr h0
  exact ⟨ad, hA, hlt, hO, fun i hi => by rw [← e i hi]; exact hc i hi⟩
theorem ent_cutRw {Φ : List SP} {v : Value} {size n lo hi : Nat} {f : Nat → List Value} (hm : Rw size v n f ∈ Φ) (h1 : lo ≤ hi) (h2 : hi ≤ n) :
    Ent Φ (Rw size (cutV size lo hi v) (hi - lo) (fun i => f (lo + i))) := fun w O h => by
  obtain ⟨A, c, hv, hc, hcm, hr⟩ := h _ hm
  subst hv
  refine ⟨_, _, rfl, by omega, by omega, fun hn => ?_⟩
  obtain ⟨ad, rfl, hlt, hO, hcell⟩ := hr (by omega)
  rw [if_neg (by omega)]
  refine ⟨ad.add (lo * size), rfl, by rw [block_add]; exact hlt, by rw [block_add]; exact hO, fun i hi' j u hu => ?_⟩
  rw [add_add']
  have := hcell (lo + i) (by omega) j u hu
  rw [show lo * size + (i * size + j) = (lo + i) * size + j by rw [Nat.add_mul]; omega]
  exact this
section
variable {C : Ctx} {fr : Fr} {Γ Γ' Γ1 : List OA} {Φ : List SP}
  {d : Nat} {ty : TypeId} {pos : String} {aft : Array Edge} {g : Option (Nat × Bool)}
/-- x[lo:hi] of lasting things. -/
theorem R_cutRw {t e : TypeId} {x : Operand} {lo? hi? : Option Operand} {v : Value} {size n : Nat} {f f' : Nat → List Value} {ilo ihi : Int} {lo hi m : Nat}
    (hx : evO fr x = some v) (hm : Rw size v n f ∈ Φ) (ht : C.P.underlying t = some (.slice e)) (hs : ∀ w, (sizeOf e).run C.P w = .ok size w)
    (hlo : cutLo fr lo? = some ilo) (hhi : cutHi fr n hi? = some ihi) (el : ilo = (lo : Int)) (eh : ihi = (hi : Int)) (h1 : lo ≤ hi) (h2 : hi ≤ n) (hm' : hi - lo = m) (hf : ∀ i, i < m → f (lo + i) = f' i) :
    Runs C fr Γ Φ ⟨some d, .slice t x lo? hi? none, ty, pos, aft, g⟩ (cutV size lo hi v) ∧ Ent Φ (Rw size (cutV size lo hi v) m f') := by
  subst el; subst eh; subst hm'
  refine ⟨Runs.pure fun a w ha hw => ?_, fun w O h => ?_⟩
  · obtain ⟨A, c, hv, hc, _⟩ := hw.sp _ hm
    subst hv
    simp only [execOp, Sem.run_bind, evO_sound ha hx, run_cut ha ht hs hlo hhi h1 h2 hc, Option.map_none, Result.andThen_ok, Sem.run_pure, cutV]
  · obtain ⟨A, c, hv, hc, hcm, hr⟩ := ent_cutRw hm h1 h2 w O h
    refine ⟨A, c, hv, hc, hcm, fun hn => ?_⟩
    obtain ⟨ad, hA, hlt, hO, hcell⟩ := hr hn
    exact ⟨ad, hA, hlt, hO, fun i hi => by rw [← hf i hi]; exact hcell i hi⟩
/-- x[lo:hi] of an own row, as a value. -/
theorem R_cutRowV {t e rt : TypeId} {x : Operand} {lo? hi? : Option Operand} {v : Value} {size n : Nat} {xs : List Value} {ilo ihi : Int} {lo hi : Nat}
    (hx : evO fr x = some v) (hp : Pick (.row v rt size n xs) Γ Γ') (ht : C.P.underlying t = some (.slice e)) (hs : ∀ w, (sizeOf e).run C.P w = .ok size w)
    (hlo : cutLo fr lo? = some ilo) (hhi : cutHi fr n hi? = some ihi) (el : ilo = (lo : Int)) (eh : ihi = (hi : Int)) (h1 : lo ≤ hi) (h2 : hi ≤ n) :
    Runs C fr Γ Φ ⟨some d, .slice t x lo? hi? none, ty, pos, aft, g⟩ (cutV size lo hi v) := by
  subst el; subst eh
  refine Runs.pure fun a w ha hw => ?_
  obtain ⟨A, c, hv, hc⟩ := row_nil_or (pick_holds hp hw).own.1
  have hc : n ≤ c := by
    have := (pick_holds hp hw).own.1
    subst hv
    rcases this.2 with ⟨h3, h4⟩ | ⟨b, cap, cur, h3, _, _, h5, _⟩
    · omega
    · injection h3 with _ _ h3; omega
  subst hv
  simp only [execOp, Sem.run_bind, evO_sound ha hx, run_cut ha ht hs hlo hhi h1 h2 hc, Option.map_none, Result.andThen_ok, Sem.run_pure, cutV]
/-- bytes copied into a part of an own row. -/
theorem E_copyCut {t t' e : TypeId} {x y : Operand} {v u : Value} {n lo hi : Nat} {bs : List UInt8} {xs us : List Value} (hx : evO fr x = some (cutV 1 lo hi v)) (hy : evO fr y = some u) (hp : Pick (.row v e 1 n xs) Γ Γ') (hm : By u bs ∈ Φ)
    (ht : C.P.underlying t = some (.slice e)) (hs : (C.P.info? e).map (·.size) = some 1) (hn : bs.length = hi - lo) (h1 : lo < hi) (h2 : hi ≤ n) (hu : xs.take lo ++ bs.map bcell ++ xs.drop hi = us) :
    Effs C fr Γ Φ ⟨some d, .call { callee := .builtin .copy, args := #[x, y], argTypes := #[t, t'] }, ty, pos, aft, g⟩ (X := Unit) (fun _ => True) (fun _ => .int .i64 (bs.length : Int)) (fun _ => .row v e 1 n us :: Γ') (fun _ => Φ) := by
  subst hu
  refine ⟨fun _ => AllIn.refl _, fun R a w ha hw => ?_⟩
  have hw' := pick_holds (pick_app hp R) hw
  obtain ⟨hl, B, c', hu', _, _, hr⟩ := hw'.sp _ hm
  have hown := hw'.own.1
  obtain ⟨hlx, h3⟩ := hown
  obtain ⟨ad, rfl, _, _, hcell⟩ := hr (by omega)
  rcases h3 with ⟨_, h3⟩ | ⟨b, cap, cur, rfl, _, hb, hc, hcm, hsz, htk⟩
  · omega
  · subst hu'
    have hcut : cutV 1 lo hi (.slice (some ⟨b, 0, none⟩) n cap) = .slice (some ⟨b, lo, none⟩) (hi - lo) (cap - lo) := by
      simp only [cutV, Option.map_some, Addr.add_lit, Nat.mul_one, Nat.zero_add]
      rw [if_neg (by omega)]
    rw [hcut] at hx
    have e0 : lo + bs.length = hi := by clear hcut hcell hr hb htk hw' hw ha; omega
    have e3 : hi ≤ cur.size := by clear hcut hcell hr hb htk hw' hw ha; omega
    have e1 : lo ≤ cur.size := Nat.le_trans (Nat.le_of_lt h1) e3
    have e2 : (cur.toList.take lo ++ bs.map bcell).length = hi := by
      rw [List.length_append, List.length_take, List.length_map, Array.length_toList, Nat.min_eq_left e1, e0]
    have e4 : (cur.toList.take lo ++ bs.map bcell ++ cur.toList.drop (lo + (bs.map bcell).length)).toArray.size = cur.size := by
      rw [List.size_toArray, List.length_append, e2, List.length_map, e0, List.length_drop, Array.length_toList]
      exact Nat.add_sub_cancel' e3
    have hrun := run_copy_row (P := C.P) w t t' ty e b lo (hi - lo) (cap - lo) ad bs.length c' cur e (bs.map bcell) ht hs hb (by rw [List.length_map]; exact (Nat.min_eq_left (Nat.le_of_eq hn)).symm) hcell (by rw [List.length_map, e0]; exact e3) (bcells_one _)
    refine .val (v := .int .i64 (bs.length : Int)) (w' := _) ?_ ⟨(), trivial, rfl, setRow_row (new := (cur.toList.take lo ++ bs.map bcell ++ cur.toList.drop (lo + (bs.map bcell).length)).toArray) hw' hb e4 ?_⟩
    · simp only [execOp, resolve, invoke, builtin, Sem.run_bind, Sem.run_pure, Result.andThen_ok, List.map_toArray, List.map_cons, List.map_nil, evO_sound ha hx, evO_sound ha hy, hrun, goInt, List.length_map]
    · rw [← htk, Nat.mul_one, List.length_map, e0]
      rw [List.take_take, Nat.min_eq_left (Nat.le_trans (Nat.le_of_lt h1) h2), List.drop_take]
      show List.take n (cur.toList.take lo ++ bs.map bcell ++ cur.toList.drop hi) = _
      rw [List.take_append, e2, List.take_of_length_le (by rw [e2]; exact h2)]
/-- the elements of a list of byte strings, each one cell. -/
theorem ones_al {n : Nat} {vs : Nat → Value} {fs : Nat → List UInt8} (hm : Al n (fun i => By (vs i) (fs i)) ∈ Φ) : Ones C Γ Φ ((List.range n).map vs) := fun u hu R w hw => by
  obtain ⟨i, hi, rfl⟩ := List.mem_map.1 hu
  have h := hw.sp _ hm i (List.mem_range.1 hi)
  obtain ⟨_, A, c, e, _⟩ := h
  rw [e]
  rfl
theorem ent_rwR {n : Nat} {v : Value} {vs : Nat → Value} (hm : Rw 1 v n (fun i => [vs i]) ∈ Φ) : Ent Φ (Sl 1 v n ((List.range n).map vs)) := by
  refine ent_rwSl (f := fun i => [vs i]) (by decide) (by simp) (fun i hi => ?_) hm
  rw [Nat.mul_one]
  have h : (List.range n).map vs = ((List.range n).map vs).take i ++ vs i :: ((List.range n).map vs).drop (i + 1) := by
    have h1 : i < ((List.range n).map vs).length := by simpa using hi
    have h2 : ((List.range n).map vs)[i] = vs i := by simp
    rw [← h2, List.getElem_cons_drop, List.take_append_drop]
  have h3 : (((List.range n).map vs).take i).length = i := by simp; omega
  rw [h, List.drop_left' h3]
  rfl
end
end Go.Hs
