/-
  Collectors: lists of different streams.
-/
import Derived.Test.YtglmcnjkcmbefaaVIh
namespace Go.Proofs.Ytglmcnjkcmbefaa
open Go Go.RowKit Go.Hs C05
theorem all_not {L : List Pz} {h : Hd} (hq : ∀ p ∈ L, inS h p = false) : L.find? (inS h) = none ∧ (L.filter fun q => !inS h q) = L := by
  refine ⟨List.find?_eq_none.2 fun p hp => by rw [hq p hp]; decide, List.filter_eq_self.2 fun p hp => by rw [hq p hp]; rfl⟩
theorem inS_ne {h : Hd} {a b : Pz} (ha : inS h a = true) (hne : stP b ≠ stP a) : inS h b = false := by
  unfold inS at *
  rw [decide_eq_true_eq] at ha
  rw [decide_eq_false_iff_not]
  exact fun e => hne (e.trans ha.symm)
theorem nd_at (f : Pz → Pz) {h : Hd} : ∀ {L : List Pz}, (L.map stP).Nodup → ∀ {i : Nat} {p : Pz}, L[i]? = some p → inS h p = true →
    (L.filter fun q => !inS h q) = L.eraseIdx i ∧ L.find? (inS h) = some p ∧ (L.map fun q => if inS h q = true then f q else q) = L.set i (f p)
  | [], _, i, p, hi, _ => by simp at hi
  | a :: r, hn, 0, p, hi, hp => by
    simp only [List.getElem?_cons_zero, Option.some.injEq] at hi
    subst hi
    rw [List.map_cons, List.nodup_cons] at hn
    have hr : ∀ q ∈ r, inS h q = false := fun q hq => inS_ne hp fun e => hn.1 (e ▸ List.mem_map_of_mem hq)
    refine ⟨?_, ?_, ?_⟩
    · rw [List.filter_cons_of_neg (by rw [hp]; decide), (all_not hr).2]; rfl
    · rw [List.find?_cons_of_pos hp]
    · rw [List.map_cons, if_pos hp, List.set_cons_zero]
      congr 1
      have : ∀ (r : List Pz), (∀ q ∈ r, inS h q = false) → (r.map fun q => if inS h q = true then f q else q) = r := by
        intro r hr
        induction r with
        | nil => rfl
        | cons b s ih =>
          rw [List.map_cons, if_neg (by rw [hr b List.mem_cons_self]; decide), ih fun q hq => hr q (List.mem_cons_of_mem _ hq)]
      exact this r hr
  | a :: r, hn, i + 1, p, hi, hp => by
    rw [List.getElem?_cons_succ] at hi
    rw [List.map_cons, List.nodup_cons] at hn
    have hm : p ∈ r := List.mem_of_getElem? hi
    have ha : inS h a = false := inS_ne hp fun e => hn.1 (e ▸ List.mem_map_of_mem hm)
    obtain ⟨h1, h2, h3⟩ := nd_at f hn.2 hi hp
    refine ⟨?_, ?_, ?_⟩
    · rw [List.filter_cons_of_pos (by rw [ha]; decide), h1]; rfl
    · rw [List.find?_cons_of_neg (by rw [ha]; decide), h2]
    · rw [List.map_cons, if_neg (by rw [ha]; decide), h3]; rfl
theorem map_erase (l : List Pa) (i : Nat) : (l.eraseIdx i).map Pa.z = (l.map Pa.z).eraseIdx i := by
  rw [List.eraseIdx_eq_take_drop_succ, List.eraseIdx_eq_take_drop_succ, List.map_append, List.map_take, List.map_drop]
theorem getz {l : List Pa} {i : Nat} (hi : i < l.length) : (l.map Pa.z)[i]? = some (l.getD i p0_).z := by
  rw [List.getElem?_map, List.getD_eq_getElem?_getD, List.getElem?_eq_getElem hi]; rfl
theorem getz' {l : List Pa} {i : Nat} (hi : i < l.length) : (l.map Pa.z).getD i ⟨h0_, 0, [], 0⟩ = (l.getD i p0_).z := by
  rw [List.getD_eq_getElem?_getD, getz hi]; rfl
/-- where the stream stands. -/
theorem at_cases (l : List Pa) (h : Hd) : (idxQ l.length (fun i => decide (stO (l.getD i p0_).head = stO h)) = -1 ∧ ∀ p ∈ l.map Pa.z, inS h p = false) ∨
    ∃ i, i < l.length ∧ idxQ l.length (fun i => decide (stO (l.getD i p0_).head = stO h)) = (i : Int) ∧ inS h (l.getD i p0_).z = true := by
  by_cases hx : ∃ j, j < l.length ∧ decide (stO (l.getD j p0_).head = stO h) = true
  · right
    have key : ∀ n (j : Nat), j ≤ n → j < l.length → decide (stO (l.getD j p0_).head = stO h) = true → ∃ k, k < l.length ∧ decide (stO (l.getD k p0_).head = stO h) = true ∧ ∀ i, i < k → decide (stO (l.getD i p0_).head = stO h) = false := by
      intro n
      induction n with
      | zero =>
        intro j hj hl hq
        obtain rfl : j = 0 := by omega
        exact ⟨0, hl, hq, fun i hi => absurd hi (by omega)⟩
      | succ n ih =>
        intro j hj hl hq
        by_cases h2 : ∃ i, i < j ∧ decide (stO (l.getD i p0_).head = stO h) = true
        · obtain ⟨i, hi, hqi⟩ := h2
          exact ih i (by omega) (by omega) hqi
        · exact ⟨j, hl, hq, fun i hi => by cases e : decide (stO (l.getD i p0_).head = stO h); rfl; exact absurd ⟨i, hi, e⟩ h2⟩
    obtain ⟨j, hj, hq⟩ := hx
    obtain ⟨k, hk, hqk, hbk⟩ := key j j (Nat.le_refl _) hj hq
    exact ⟨k, hk, idxQ_at hbk hk hqk, hqk⟩
  · left
    have hall : ∀ j, j < l.length → decide (stO (l.getD j p0_).head = stO h) = false := fun j hj => by cases e : decide (stO (l.getD j p0_).head = stO h); rfl; exact absurd ⟨j, hj, e⟩ hx
    refine ⟨idxQ_none hall, fun p hp => ?_⟩
    obtain ⟨q, hq, rfl⟩ := List.mem_map.1 hp
    obtain ⟨i, hi, rfl⟩ := List.mem_iff_getElem.1 hq
    have := hall i hi
    rw [List.getD_eq_getElem?_getD, List.getElem?_eq_getElem hi] at this
    exact this
/-- the oldest, found. -/
theorem mnP_since : ∀ (m : Pa) (l : List Pa), (mnP m l).since = mnZ m.since (l.map Pa.z)
  | _, [] => rfl
  | m, x :: r => by
    rw [mnP, mnP_since, List.map_cons, mnZ]
    show mnZ (if x.since - m.since < 0 then x else m).since _ = mnZ (if x.since - m.since < 0 then x.since else m.since) _
    by_cases c : x.since - m.since < 0
    · rw [if_pos c, if_pos c]
    · rw [if_neg c, if_neg c]
theorem minP_since {l : List Pa} (h0 : 0 < l.length) : (minP l).since = minZ (l.map Pa.z) := by
  unfold minP minZ
  rw [mnP_since, getz' h0, List.map_drop]
  rfl
theorem minP_mem {l : List Pa} (h0 : 0 < l.length) : minP l ∈ l := by
  rcases mnP_mem (l.getD 0 p0_) (l.drop 1) with e | e
  · exact (show minP l = _ from e) ▸ getD_mem h0
  · exact List.mem_of_mem_drop e
theorem old_at {l : List Pa} (h0 : 0 < l.length) : ∃ i, i < l.length ∧ idxQ l.length (fun i => decide ((l.getD i p0_).since = (minP l).since)) = (i : Int) ∧ i = oldI (l.map Pa.z) := by
  have hq : (idxQ (l.map Pa.z).length (fun i => decide (((l.map Pa.z).getD i ⟨h0_, 0, [], 0⟩).since = minZ (l.map Pa.z)))) = idxQ l.length (fun i => decide ((l.getD i p0_).since = (minP l).since)) := by
    rw [List.length_map]
    have : ∀ (f : Nat) (k : Nat), k + f ≤ l.length → firstI (fun i => decide (((l.map Pa.z).getD i ⟨h0_, 0, [], 0⟩).since = minZ (l.map Pa.z))) f k = firstI (fun i => decide ((l.getD i p0_).since = (minP l).since)) f k := by
      intro f
      induction f with
      | zero => intro k _; rfl
      | succ f ih =>
        intro k hk
        rw [firstI, firstI, ih (k + 1) (by omega), getz' (show k < l.length by omega), minP_since h0]
        rfl
    exact this l.length 0 (by omega)
  obtain ⟨j, hj, hjm⟩ := List.mem_iff_getElem.1 (minP_mem h0)
  have hnn : 0 ≤ idxQ l.length (fun i => decide ((l.getD i p0_).since = (minP l).since)) ∧ idxQ l.length (fun i => decide ((l.getD i p0_).since = (minP l).since)) < l.length := by
    have key : ∀ (q : Nat → Bool) (f k : Nat), (∃ j, k ≤ j ∧ j < k + f ∧ q j = true) → (0 : Int) ≤ firstI q f k ∧ firstI q f k < ((k + f : Nat) : Int) := by
      intro q f
      induction f with
      | zero => rintro k ⟨j, h1, h2, _⟩; omega
      | succ f ih =>
        rintro k ⟨j, h1, h2, h3⟩
        rw [firstI]
        by_cases c : q k = true
        · rw [if_pos c]; omega
        · rw [if_neg c]
          have := ih (k + 1) ⟨j, by
            rcases Nat.lt_or_ge k j with h | h
            · exact h
            · obtain rfl : j = k := by omega
              exact absurd h3 c, by omega, h3⟩
          omega
    have := key (fun i => decide ((l.getD i p0_).since = (minP l).since)) l.length 0 ⟨j, Nat.zero_le _, by omega, by
      rw [List.getD_eq_getElem?_getD, List.getElem?_eq_getElem hj, Option.getD_some, hjm]; exact decide_eq_true rfl⟩
    unfold idxQ
    omega
  obtain ⟨i, hi⟩ := Int.eq_ofNat_of_zero_le hnn.1
  refine ⟨i, by omega, hi, ?_⟩
  unfold oldI
  rw [hq, hi]
  rfl
end Go.Proofs.Ytglmcnjkcmbefaa
