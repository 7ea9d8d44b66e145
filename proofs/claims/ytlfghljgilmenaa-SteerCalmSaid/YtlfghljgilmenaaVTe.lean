/-
  What a choice comes to: nothing beats it; a move to it.
-/
import Derived.Test.YtlfghljgilmenaaVTa
namespace Go.Proofs.Ytlfghljgilmenaa
open Go Go.RowKit Go.Hs

theorem betB_iff {p : Pla} {a b : Nea} : betB p a b = true ↔ scI p b < scI p a ∨ scI p a = scI p b ∧ numA a.pt < numA b.pt := by unfold betB; rw [decide_eq_true_eq]
theorem betB_f {p : Pla} {a b : Nea} (h : ¬ (scI p b < scI p a ∨ scI p a = scI p b ∧ numA a.pt < numA b.pt)) : betB p a b = false := by
  cases e : betB p a b
  · rfl
  · exact absurd (betB_iff.1 e) h
theorem betB_n {p : Pla} {a b : Nea} (h : betB p a b = false) : ¬ (scI p b < scI p a ∨ scI p a = scI p b ∧ numA a.pt < numA b.pt) := fun k => by
  rw [betB_iff.2 k] at h
  cases h
theorem betB_self (p : Pla) (a : Nea) : betB p a a = false := betB_f (by omega)
theorem betB_tr {p : Pla} {a b c : Nea} (h1 : betB p a b = false) (h2 : betB p b c = false) : betB p a c = false := by
  have h1 := betB_n h1
  have h2 := betB_n h2
  exact betB_f (by omega)
theorem pickN_spec (p : Pla) : ∀ (m : Nea) (l : List Nea), pickN p m l ∈ m :: l ∧ ∀ x, x ∈ m :: l → betB p x (pickN p m l) = false
  | m, [] => ⟨List.mem_cons_self, fun x hx => by
    rcases List.mem_cons.1 hx with rfl | hx
    · exact betB_self p x
    · cases hx⟩
  | m, y :: l => by
    obtain ⟨h1, h2⟩ := pickN_spec p (if betB p y m then y else m) l
    show pickN p (if betB p y m then y else m) l ∈ m :: y :: l ∧ ∀ x, x ∈ m :: y :: l → betB p x (pickN p (if betB p y m then y else m) l) = false
    generalize pickN p (if betB p y m then y else m) l = r at *
    cases c : betB p y m with
    | true =>
      rw [c, if_pos rfl] at h1 h2
      have hm : betB p m y = false := betB_f (by have := betB_iff.1 c; omega)
      refine ⟨List.mem_cons_of_mem _ h1, fun x hx => ?_⟩
      rcases List.mem_cons.1 hx with rfl | hx
      · exact betB_tr hm (h2 y List.mem_cons_self)
      · exact h2 x hx
    | false =>
      rw [c, if_neg (by decide)] at h1 h2
      refine ⟨?_, fun x hx => ?_⟩
      · rcases List.mem_cons.1 h1 with h | h
        · rw [h]; exact List.mem_cons_self
        · exact List.mem_cons_of_mem _ (List.mem_cons_of_mem _ h)
      · rcases List.mem_cons.1 hx with rfl | hx
        · exact h2 x List.mem_cons_self
        · rcases List.mem_cons.1 hx with rfl | hx
          · exact betB_tr c (h2 m List.mem_cons_self)
          · exact h2 x (List.mem_cons_of_mem _ hx)
theorem bestO_none {p : Pla} {L : List Nea} (h : bestO p L = none) : L = [] := by
  cases L with
  | nil => rfl
  | cons m r => cases h
theorem bestO_some {p : Pla} {L : List Nea} {n : Nea} (h : bestO p L = some n) : n ∈ L ∧ ∀ x, x ∈ L → betB p x n = false := by
  cases L with
  | nil => cases h
  | cons m r =>
    have h : some (pickN p m r) = some n := h
    injection h with h
    subst h
    exact pickN_spec p m r

/-- what the law reckons as it goes through the list: the need, the least score, the chosen one's score, whether some neighbour suffices. -/
def ndB (s : Stt) (l : List Nea) (nd : Bool) : Nat → Bool
  | 0 => nd
  | x + 1 => if ownQ s l x then ndB s l nd x && decide ((l.getD x n0_).lv < s.plan.low) else ndB s l nd x
def lsI (s : Stt) (l : List Nea) : Nat → Int
  | 0 => -1073741824
  | x + 1 => if ownQ s l x then scI s.plan (l.getD x n0_) + s.plan.gain else lsI s l x
def bsI (s : Stt) (l : List Nea) (to : A6) : Nat → Int
  | 0 => -1073741824
  | x + 1 => if decide ((l.getD x n0_).pt = to) then scI s.plan (l.getD x n0_) else bsI s l to x
def skB (s : Stt) (l : List Nea) (now L : Int) (x : Nat) : Bool := ownQ s l x || (barredB s (l.getD x n0_).pt now || decide (scI s.plan (l.getD x n0_) < L))
def smB (s : Stt) (l : List Nea) (now L : Int) : Nat → Bool
  | 0 => false
  | x + 1 => if skB s l now L x then smB s l now L x else true
theorem nd_iff (s : Stt) (l : List Nea) (nd : Bool) : ∀ x, ndB s l nd x = true ↔ nd = true ∧ ∀ j, j < x → ownQ s l j = true → (l.getD j n0_).lv < s.plan.low
  | 0 => ⟨fun h => ⟨h, fun j hj => absurd hj (by omega)⟩, fun h => h.1⟩
  | x + 1 => by
    unfold ndB
    have ih := nd_iff s l nd x
    cases c : ownQ s l x with
    | true =>
      rw [if_pos rfl, Bool.and_eq_true, ih, decide_eq_true_eq]
      constructor
      · rintro ⟨⟨h1, h2⟩, h3⟩
        exact ⟨h1, fun j hj hq => by
          by_cases e : j = x
          · subst e; exact h3
          · exact h2 j (by omega) hq⟩
      · rintro ⟨h1, h2⟩
        exact ⟨⟨h1, fun j hj hq => h2 j (by omega) hq⟩, h2 x (by omega) c⟩
    | false =>
      rw [if_neg (by decide), ih]
      constructor
      · rintro ⟨h1, h2⟩
        exact ⟨h1, fun j hj hq => by
          by_cases e : j = x
          · subst e; rw [c] at hq; cases hq
          · exact h2 j (by omega) hq⟩
      · rintro ⟨h1, h2⟩
        exact ⟨h1, fun j hj hq => h2 j (by omega) hq⟩
theorem ls_cases {s : Stt} {l : List Nea} (hl : listB l = true) : ∀ x, x ≤ l.length → ((∀ j, j < x → ownQ s l j = false) ∧ lsI s l x = -1073741824) ∨ ∃ k, k < x ∧ ownQ s l k = true ∧ lsI s l x = scI s.plan (l.getD k n0_) + s.plan.gain
  | 0, _ => .inl ⟨fun j hj => absurd hj (by omega), rfl⟩
  | x + 1, hx => by
    unfold lsI
    cases c : ownQ s l x with
    | true => exact .inr ⟨x, by omega, c, if_pos rfl⟩
    | false =>
      rw [if_neg (by decide)]
      rcases ls_cases hl x (by omega) with ⟨h1, h2⟩ | ⟨k, h1, h2, h3⟩
      · exact .inl ⟨fun j hj => by
          by_cases e : j = x
          · subst e; exact c
          · exact h1 j (by omega), h2⟩
      · exact .inr ⟨k, by omega, h2, h3⟩
theorem bs_at {s : Stt} {l : List Nea} {k : Nat} (hl : listB l = true) (hk : k < l.length) : ∀ x, k < x → x ≤ l.length → bsI s l (l.getD k n0_).pt x = scI s.plan (l.getD k n0_)
  | 0, h, _ => absurd h (by omega)
  | x + 1, h, hx => by
    unfold bsI
    by_cases e : x = k
    · subst e
      rw [decide_eq_true rfl]
      exact if_pos rfl
    · have hne : ∀ a b, a < b → b < l.length → ¬ (l.getD a n0_).pt = (l.getD b n0_).pt := fun a b hab hb => anyN_f.1 (goodN_iff.1 ((listB_iff.1 hl).2 b hb)).1 a hab
      rw [decide_eq_false (fun q => hne k x (by omega) hx q.symm), if_neg (by decide)]
      exact bs_at hl hk x (by omega) (by omega)
theorem sm_iff (s : Stt) (l : List Nea) (now L : Int) : ∀ x, smB s l now L x = true ↔ ∃ j, j < x ∧ skB s l now L j = false
  | 0 => ⟨fun h => (by cases h), fun ⟨j, hj, _⟩ => absurd hj (by omega)⟩
  | x + 1 => by
    unfold smB
    have ih := sm_iff s l now L x
    cases c : skB s l now L x with
    | true =>
      rw [if_pos rfl, ih]
      constructor
      · rintro ⟨j, h1, h2⟩
        exact ⟨j, by omega, h2⟩
      · rintro ⟨j, h1, h2⟩
        refine ⟨j, ?_, h2⟩
        have : j ≠ x := fun e => by subst e; rw [c] at h2; cases h2
        omega
    | false => exact ⟨fun _ => ⟨x, by omega, c⟩, fun _ => if_neg (by decide)⟩
theorem sk_iff {s : Stt} {l : List Nea} {now L : Int} {x : Nat} : skB s l now L x = false ↔ candB s now (l.getD x n0_) = true ∧ L ≤ scI s.plan (l.getD x n0_) := by
  unfold skB candB ownQ
  simp only [Bool.or_eq_false_iff, Bool.and_eq_true, Bool.not_eq_true', decide_eq_false_iff_not]
  constructor
  · rintro ⟨h1, h2, h3⟩; exact ⟨⟨h1, h2⟩, by omega⟩
  · rintro ⟨⟨h1, h2⟩, h3⟩; exact ⟨h1, h2, by omega⟩
theorem mem_at {V : Type} {l : List V} {n : V} (h : n ∈ l) (z : V) : ∃ k, k < l.length ∧ l.getD k z = n := by
  obtain ⟨i, hi, rfl⟩ := List.mem_iff_getElem.1 h
  exact ⟨i, hi, by rw [List.getD_eq_getElem?_getD, List.getElem?_eq_getElem hi]; rfl⟩
section
variable {s : Stt} {l : List Nea} {now : Int}
/-- what the choice is made of, by the law's own reckoning. -/
theorem suff_law (h0 : stopE s l now = 0) : suffL s l now = if ndB s l (decide (s.plan.stay ≤ now - s.since)) l.length then l.filter (okB s now (lsI s l l.length)) else [] := by
  obtain ⟨hv, hl, _⟩ := stop0 h0
  have hp := (vStB_iff.1 hv).1
  by_cases c1 : now < s.since + s.plan.stay
  · rw [suff_stay c1, if_neg (fun h => by have := ((nd_iff _ _ _ _).1 h).1; rw [decide_eq_true_eq] at this; omega)]
  · by_cases c2 : ∀ j, j < l.length → ownQ s l j = true → ¬ s.plan.low ≤ (l.getD j n0_).lv
    · rw [suff_all hp hl c1 c2, if_pos ((nd_iff _ _ _ _).2 ⟨decide_eq_true (by omega), fun j hj hq => by have := c2 j hj hq; omega⟩)]
      apply List.filter_congr
      intro n hn
      unfold okB
      congr 1
      obtain ⟨_, g2, g3⟩ := list_good hl hn
      have hsi := sc_in hp g3.1 g3.2 g2
      have e : (lstI s l l.length ≤ scI s.plan n) ↔ (lsI s l l.length ≤ scI s.plan n) := by
        rcases ls_cases (s := s) hl l.length (Nat.le_refl _) with ⟨h1, h2⟩ | ⟨k, h1, h2, h3⟩
        · have : lstI s l l.length = -1000000 := by
            unfold lstI
            rw [show ownI s l = -1 from idxQ_none h1]
            exact if_neg (by omega)
          rw [this, h2]
          omega
        · have : lstI s l l.length = scI s.plan (l.getD k n0_) + s.plan.gain := by
            unfold lstI
            rw [own_at hl h1 h2, if_pos (by omega)]
            rfl
          rw [this, h3]
      rw [decide_eq_decide]
      exact e
    · have c2' : ∃ j, j < l.length ∧ ownQ s l j = true ∧ s.plan.low ≤ (l.getD j n0_).lv := by
        apply Classical.byContradiction
        intro hn
        exact c2 fun j hj hq h => hn ⟨j, hj, hq, h⟩
      obtain ⟨j, hj, hq, hlow⟩ := c2'
      rw [suff_low hl hj hq hlow, if_neg (fun h => by have := ((nd_iff _ _ _ _).1 h).2 j hj hq; omega)]
/-- the law's answer where nothing is chosen. -/
theorem law_none (h0 : stopE s l now = 0) (h : choO s l now = none) : (ndB s l (decide (s.plan.stay ≤ now - s.since)) l.length && smB s l now (lsI s l l.length) l.length) = false := by
  have e : bestO s.plan (suffL s l now) = none := by
    have : choO s l now = bestO s.plan (suffL s l now) := if_pos h0
    rw [← this]; exact h
  have hE := bestO_none e
  rw [suff_law h0] at hE
  cases c : ndB s l (decide (s.plan.stay ≤ now - s.since)) l.length with
  | false => rfl
  | true =>
    rw [c, if_pos rfl] at hE
    rw [Bool.true_and]
    cases d : smB s l now (lsI s l l.length) l.length with
    | false => rfl
    | true =>
      obtain ⟨j, hj, hs⟩ := (sm_iff _ _ _ _ _).1 d
      obtain ⟨k1, k2⟩ := sk_iff.1 hs
      have : l.getD j n0_ ∈ l.filter (okB s now (lsI s l l.length)) := List.mem_filter.2 ⟨getD_mem hj n0_, by unfold okB; rw [k1, decide_eq_true k2]; rfl⟩
      rw [hE] at this
      cases this
/-- the law's answers where one is chosen. -/
theorem law_some {n : Nea} (h0 : stopE s l now = 0) (h : choO s l now = some n) : ndB s l (decide (s.plan.stay ≤ now - s.since)) l.length = true ∧ smB s l now (lsI s l l.length) l.length = true ∧
    bsI s l n.pt l.length = scI s.plan n ∧ lsI s l l.length ≤ scI s.plan n ∧ n ∈ l ∧ ¬ n.pt = s.pt ∧ barredB s n.pt now = false ∧ ¬ now < s.since + s.plan.stay ∧ (∀ x, x < l.length → skB s l now (lsI s l l.length) x = false → betB s.plan (l.getD x n0_) n = false) := by
  obtain ⟨hv, hl, _⟩ := stop0 h0
  have e : bestO s.plan (suffL s l now) = some n := by
    have : choO s l now = bestO s.plan (suffL s l now) := if_pos h0
    rw [← this]; exact h
  obtain ⟨hm, hb⟩ := bestO_some e
  rw [suff_law h0] at hm hb
  cases c : ndB s l (decide (s.plan.stay ≤ now - s.since)) l.length with
  | false => rw [c, if_neg (by decide)] at hm; cases hm
  | true =>
    rw [c, if_pos rfl] at hm hb
    obtain ⟨hm1, hm2⟩ := List.mem_filter.1 hm
    unfold okB at hm2
    rw [Bool.and_eq_true, decide_eq_true_eq] at hm2
    obtain ⟨hm2, hm3⟩ := hm2
    obtain ⟨k, hk, rfl⟩ := mem_at hm1 n0_
    have hc : candB s now (l.getD k n0_) = true := hm2
    unfold candB at hc
    rw [Bool.and_eq_true, Bool.not_eq_true', Bool.not_eq_true', decide_eq_false_iff_not] at hc
    have hd := ((nd_iff _ _ _ _).1 c).1
    rw [decide_eq_true_eq] at hd
    refine ⟨rfl, (sm_iff _ _ _ _ _).2 ⟨k, hk, sk_iff.2 ⟨hm2, hm3⟩⟩, bs_at hl hk l.length hk (Nat.le_refl _), hm3, hm1, hc.1, hc.2, by omega, fun x hx hs => ?_⟩
    obtain ⟨k1, k2⟩ := sk_iff.1 hs
    exact hb _ (List.mem_filter.2 ⟨getD_mem hx n0_, by unfold okB; rw [k1, decide_eq_true k2]; rfl⟩)
theorem law_move {n : Nea} (h0 : stopE s l now = 0) (h : choO s l now = some n) : movE s n.pt now = 22 ∨ movE s n.pt now = 0 := by
  obtain ⟨hv, _, hi⟩ := stop0 h0
  obtain ⟨_, _, _, _, _, h1, h2, h3, _⟩ := law_some h0 h
  have e : stE s now = 0 := by unfold stE; rw [if_pos hv, if_pos hi]
  unfold movE
  rw [if_pos e, if_neg h1, if_neg (by rintro (k | k); exact h3 k; rw [h2] at k; cases k)]
  by_cases c : (keptL s now).length = 32
  · exact .inl (if_pos c)
  · exact .inr (if_neg c)
end
end Go.Proofs.Ytlfghljgilmenaa
