/-
  Sequences of moves: what a state's visits are among all visits.
-/
import Derived.Test.YtlfghljgilmenaaVSi
namespace Go.Proofs.Ytlfghljgilmenaa
open Go Go.RowKit Go.Hs

theorem vis_get {l : List Vis} {i : Nat} (h : i < l.length) : l.getD i v0_ = l[i] := by
  rw [List.getD_eq_getElem?_getD, List.getElem?_eq_getElem h]; rfl
theorem vSt_list {s : Stt} : vStB s = true ↔ vPlanB s.plan = true ∧ (0 ≤ s.since ∧ s.since ≤ 1099511627776) ∧ s.past.length ≤ 32 ∧ s.past.Pairwise (fun u v => ¬ u.pt = v.pt ∧ u.left ≤ v.left) ∧
    ∀ v ∈ s.past, ¬ v.pt = s.pt ∧ 0 ≤ v.left ∧ v.left ≤ s.since := by
  rw [vStB_iff]
  have hsin : inB s.since 0 1099511627776 = true ↔ 0 ≤ s.since ∧ s.since ≤ 1099511627776 := by simp only [inB, decide_eq_true_eq]
  rw [hsin]
  refine and_congr Iff.rfl (and_congr Iff.rfl (and_congr Iff.rfl ?_))
  generalize s.past = l
  generalize s.since = n
  generalize s.pt = p
  constructor
  · intro h
    have hin : ∀ i, i < l.length → lastOf l i ≤ (l.getD i v0_).left ∧ (l.getD i v0_).left ≤ n := fun i hi => by
      have := (goodB_iff.1 (h i hi)).2.2
      simpa only [inB, decide_eq_true_eq] using this
    have h0 : ∀ i, i ≤ l.length → 0 ≤ lastOf l i := fun i hi => last_ge (fun j hj => h j (by omega))
    have hmono : ∀ j i, i ≤ j → j < l.length → (l.getD i v0_).left ≤ (l.getD j v0_).left := by
      intro j
      induction j with
      | zero =>
        intro i hi _
        obtain rfl : i = 0 := by omega
        exact Int.le_refl (l.getD 0 v0_).left
      | succ j ih =>
        intro i hi hj
        by_cases e : i = j + 1
        · subst e; exact Int.le_refl _
        · have h1 := ih i (by omega) (by omega)
          have h2 : (l.getD j v0_).left ≤ (l.getD (j + 1) v0_).left := (hin (j + 1) hj).1
          omega
    refine ⟨List.pairwise_iff_getElem.2 fun i j hi hj hij => ⟨fun e => ?_, ?_⟩, fun v hv => ?_⟩
    · have h1 := (goodB_iff.1 (h j hj)).1
      have h2 : anyQ j (twice l j) = true := anyQ_iff.2 ⟨i, hij, by unfold twice; rw [vis_get hi, vis_get hj]; exact decide_eq_true e⟩
      rw [h1] at h2
      cases h2
    · have := hmono j i (by omega) hj
      rw [vis_get hi, vis_get hj] at this
      exact this
    · obtain ⟨i, hi, rfl⟩ := List.mem_iff_getElem.1 hv
      have h1 := (goodB_iff.1 (h i hi)).2.1
      have h2 := hin i hi
      have h3 := h0 i (by omega)
      rw [vis_get hi] at h1 h2
      exact ⟨h1, by omega, h2.2⟩
  · rintro ⟨h1, h2⟩ i hi
    rw [List.pairwise_iff_getElem] at h1
    have hv := h2 l[i] (List.getElem_mem hi)
    refine goodB_iff.2 ⟨?_, ?_, ?_⟩
    · cases e : anyQ i (twice l i)
      · rfl
      · obtain ⟨k, hk, hq⟩ := anyQ_iff.1 e
        have hq : (l.getD k v0_).pt = (l.getD i v0_).pt := of_decide_eq_true hq
        rw [vis_get (by omega), vis_get hi] at hq
        exact absurd hq (h1 k i (by omega) hi hk).1
    · rw [vis_get hi]; exact hv.1
    · simp only [inB, decide_eq_true_eq]
      rw [vis_get hi]
      refine ⟨?_, hv.2.2⟩
      cases i with
      | zero => exact hv.2.1
      | succ i =>
        show (l.getD i v0_).left ≤ _
        rw [vis_get (by omega)]
        exact (h1 i (i + 1) (by omega) hi (by omega)).2
theorem kept_mem {s : Stt} {now : Int} {v : Vis} : v ∈ keptL s now ↔ v ∈ s.past ∧ now < v.left + s.plan.back := by
  unfold keptL barB
  rw [List.mem_filter]
  simp only [Bool.not_not, decide_eq_true_eq]
theorem barred_iff {s : Stt} {pt : A6} {now : Int} (h : vStB s = true) : barredB s pt now = true ↔ ∃ v ∈ s.past, v.pt = pt ∧ now < v.left + s.plan.back := by
  unfold barredB
  rw [h, Bool.true_and, anyQ_iff]
  constructor
  · rintro ⟨j, hj, hq⟩
    unfold barI barB at hq
    rw [Bool.and_eq_true, decide_eq_true_eq, decide_eq_true_eq, vis_get hj] at hq
    exact ⟨_, List.getElem_mem hj, hq⟩
  · rintro ⟨v, hv, h1, h2⟩
    obtain ⟨i, hi, rfl⟩ := List.mem_iff_getElem.1 hv
    refine ⟨i, hi, ?_⟩
    unfold barI barB
    rw [Bool.and_eq_true, decide_eq_true_eq, decide_eq_true_eq, vis_get hi]
    exact ⟨h1, h2⟩
theorem mov0 {s : Stt} {to : A6} {now : Int} (h : movE s to now = 0) : vStB s = true ∧ (s.since ≤ now ∧ now ≤ 1099511627776) ∧ ¬ to = s.pt ∧ ¬ now < s.since + s.plan.stay ∧ barredB s to now = false ∧ ¬ (keptL s now).length = 32 := by
  unfold movE at h
  by_cases c0 : stE s now = 0
  · rw [if_pos c0] at h
    obtain ⟨hv, hi⟩ := st0 c0
    by_cases c1 : to = s.pt
    · rw [if_pos c1] at h; cases h
    · rw [if_neg c1] at h
      by_cases c2 : now < s.since + s.plan.stay ∨ barredB s to now = true
      · rw [if_pos c2] at h; cases h
      · rw [if_neg c2] at h
        by_cases c3 : (keptL s now).length = 32
        · rw [if_pos c3] at h; cases h
        · refine ⟨hv, of_decide_eq_true hi, c1, fun k => c2 (.inl k), ?_, c3⟩
          cases e : barredB s to now
          · rfl
          · exact absurd (.inr e) c2
  · rw [if_neg c0] at h
    exact absurd h c0
theorem mov_valid {s : Stt} {to : A6} {now : Int} {x : Value} (h : movE s to now = 0) : vStB ⟨s.plan, to, now, x, keptL s now ++ [⟨s.pt, now⟩]⟩ = true := by
  obtain ⟨hv, ⟨hn1, hn2⟩, h1, h2, h3, h4⟩ := mov0 h
  obtain ⟨v1, ⟨v2, v2'⟩, v3, v4, v5⟩ := vSt_list.1 hv
  have hk : (keptL s now).length ≤ 32 := Nat.le_trans (List.length_filter_le _ _) v3
  refine vSt_list.2 ⟨v1, ⟨by show 0 ≤ now; omega, hn2⟩, ?_, ?_, ?_⟩
  · show (keptL s now ++ [(⟨s.pt, now⟩ : Vis)]).length ≤ 32
    rw [List.length_append]
    simp only [List.length_cons, List.length_nil]
    omega
  · show (keptL s now ++ [(⟨s.pt, now⟩ : Vis)]).Pairwise _
    rw [List.pairwise_append]
    refine ⟨List.Pairwise.sublist List.filter_sublist v4, List.pairwise_singleton _ _, fun u hu v hv' => ?_⟩
    obtain ⟨hu1, _⟩ := kept_mem.1 hu
    have := v5 u hu1
    rw [List.mem_singleton] at hv'
    subst hv'
    exact ⟨this.1, by show u.left ≤ now; omega⟩
  · intro v hv'
    rcases List.mem_append.1 hv' with hv' | hv'
    · obtain ⟨hu1, hu2⟩ := kept_mem.1 hv'
      have := v5 v hu1
      refine ⟨fun e => ?_, this.2.1, by show v.left ≤ now; omega⟩
      have e : v.pt = to := e
      have := (barred_iff hv).2 ⟨v, hu1, e, hu2⟩
      rw [h3] at this
      cases this
    · rw [List.mem_singleton] at hv'
      subst hv'
      exact ⟨fun e => h1 (show to = s.pt from e.symm), by show 0 ≤ now; omega, by show now ≤ now; omega⟩

def adr (b : UInt8) : A6 := ⟨0, b, 0, 0, 0, 0⟩
theorem adr_inj {a b : UInt8} (h : adr a = adr b) : a = b := congrArg A6.a1 h
def lfI (L : List Int) (b : UInt8) : Int := L.getD b.toNat 0
structure Hist (s : Stt) (L : List Int) (a : UInt8) : Prop where
  v : vStB s = true
  pt : s.pt = adr a
  len : L.length = 256
  vis : ∀ v ∈ s.past, ∃ b : UInt8, v.pt = adr b ∧ lfI L b = v.left
  all : ∀ b : UInt8, 0 ≤ lfI L b → (∃ v ∈ s.past, v.pt = adr b ∧ v.left = lfI L b) ∨ lfI L b + s.plan.back ≤ s.since
  bnd : ∀ b : UInt8, -1 ≤ lfI L b ∧ lfI L b ≤ 1099511627776
theorem lf_set {L : List Int} {a b : UInt8} {n : Int} (h : L.length = 256) : lfI (L.set a.toNat n) b = if b = a then n else lfI L b := by
  have hb := b.toNat_lt
  have ha := a.toNat_lt
  unfold lfI
  rw [List.getD_eq_getElem?_getD, List.getElem?_set]
  by_cases e : b = a
  · subst e
    rw [if_pos rfl, if_pos rfl, if_pos (by omega)]; rfl
  · rw [if_neg e, if_neg (fun k => e (UInt8.toNat_inj.1 k.symm))]
    rw [List.getD_eq_getElem?_getD]
/-- what the law allows. -/
def alwP (s : Stt) (L : List Int) (a to : UInt8) (now : Int) : Prop := s.since ≤ now ∧ now ≤ 1099511627776 ∧ ¬ to = a ∧ s.plan.stay ≤ now - s.since ∧ (lfI L to < 0 ∨ s.plan.back ≤ now - lfI L to)
theorem bar_hist {s : Stt} {L : List Int} {a to : UInt8} {now : Int} (h : Hist s L a) (hn : s.since ≤ now) : barredB s (adr to) now = true ↔ 0 ≤ lfI L to ∧ now < lfI L to + s.plan.back := by
  obtain ⟨_, _, _, _, v5⟩ := vSt_list.1 h.v
  rw [barred_iff h.v]
  constructor
  · rintro ⟨v, hv, h1, h2⟩
    obtain ⟨b, hb1, hb2⟩ := h.vis v hv
    have e : b = to := adr_inj (hb1.symm.trans h1)
    subst e
    have := v5 v hv
    rw [hb2]
    exact ⟨this.2.1, h2⟩
  · rintro ⟨h1, h2⟩
    rcases h.all to h1 with ⟨v, hv, k1, k2⟩ | k
    · exact ⟨v, hv, k1, by rw [k2]; exact h2⟩
    · omega
theorem mov_alw {s : Stt} {L : List Int} {a to : UInt8} {now : Int} (h : Hist s L a) (h0 : movE s (adr to) now = 0) : alwP s L a to now := by
  obtain ⟨_, ⟨hn1, hn2⟩, h1, h2, h3, _⟩ := mov0 h0
  refine ⟨hn1, hn2, fun e => h1 (by rw [h.pt, e]), by omega, ?_⟩
  have hb := bar_hist (to := to) h hn1
  by_cases c : lfI L to < 0
  · exact .inl c
  · right
    apply Classical.byContradiction
    intro hc
    have := hb.2 ⟨by omega, by omega⟩
    rw [h3] at this
    cases this
theorem mov_full {s : Stt} {L : List Int} {a to : UInt8} {now : Int} (h : Hist s L a) (h0 : ¬ movE s (adr to) now = 0) (ha : alwP s L a to now) : movE s (adr to) now = 22 := by
  obtain ⟨a1, a2, a3, a4, a5⟩ := ha
  have e0 : inB now s.since 1099511627776 = true := decide_eq_true ⟨a1, a2⟩
  have e : stE s now = 0 := by unfold stE; rw [if_pos h.v, if_pos e0]
  have hnb : barredB s (adr to) now = false := by
    cases c : barredB s (adr to) now
    · rfl
    · have := (bar_hist h a1).1 c
      omega
  unfold movE at h0 ⊢
  rw [if_pos e, if_neg (by rw [h.pt]; exact fun k => a3 (adr_inj k)), if_neg (by rintro (k | k); omega; rw [hnb] at k; cases k)] at h0 ⊢
  by_cases c : (keptL s now).length = 32
  · exact if_pos c
  · rw [if_neg c] at h0
    exact absurd rfl h0
theorem mov_hist {s : Stt} {L : List Int} {a to : UInt8} {now : Int} {x : Value} (h : Hist s L a) (h0 : movE s (adr to) now = 0) : Hist ⟨s.plan, adr to, now, x, keptL s now ++ [⟨s.pt, now⟩]⟩ (L.set a.toNat now) to := by
  obtain ⟨_, ⟨hn1, hn2⟩, h1, h2, h3, _⟩ := mov0 h0
  obtain ⟨_, ⟨v2, _⟩, _, _, v5⟩ := vSt_list.1 h.v
  refine ⟨mov_valid h0, rfl, by rw [List.length_set]; exact h.len, fun v hv => ?_, fun b hb => ?_, fun b => ?_⟩
  · rcases List.mem_append.1 hv with hv | hv
    · obtain ⟨k1, k2⟩ := kept_mem.1 hv
      obtain ⟨b, hb1, hb2⟩ := h.vis v k1
      refine ⟨b, hb1, ?_⟩
      rw [lf_set h.len, if_neg (fun e => (v5 v k1).1 (by rw [hb1, h.pt, e])), hb2]
    · rw [List.mem_singleton] at hv
      subst hv
      exact ⟨a, h.pt, by rw [lf_set h.len, if_pos rfl]⟩
  · rw [lf_set h.len] at hb ⊢
    by_cases e : b = a
    · subst e
      rw [if_pos rfl]
      exact .inl ⟨⟨s.pt, now⟩, List.mem_append_right _ (List.mem_singleton.2 rfl), h.pt, rfl⟩
    · rw [if_neg e] at hb ⊢
      rcases h.all b hb with ⟨v, hv, k1, k2⟩ | k
      · by_cases c : now < v.left + s.plan.back
        · exact .inl ⟨v, List.mem_append_left _ (kept_mem.2 ⟨hv, c⟩), k1, k2⟩
        · right
          show lfI L b + s.plan.back ≤ now
          omega
      · right
        show lfI L b + s.plan.back ≤ now
        omega
  · rw [lf_set h.len]
    have := h.bnd b
    split
    · exact ⟨by omega, hn2⟩
    · exact this
end Go.Proofs.Ytlfghljgilmenaa
