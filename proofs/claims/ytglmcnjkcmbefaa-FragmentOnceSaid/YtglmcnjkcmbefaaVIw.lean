/-
  Plain laws of collectors: what is collected stays valid; what is collected is what was cut.
-/
import Derived.Test.YtglmcnjkcmbefaaVIs
namespace Go.Proofs.Ytglmcnjkcmbefaa
open Go Go.RowKit Go.Hs C05
theorem w64_of {n : Int} (h0 : 0 ≤ n) (h1 : n ≤ 1099511627776) : w64 n := by
  have h : (Lit.int .i64 n).wf = true := by
    simp [Lit.wf, IntKind.min, IntKind.max, IntKind.signed, IntKind.bits] <;> omega
  exact h
theorem rng_iff {h : Hd} (e : hdB h = true) : (0 ≤ h.dur ∧ h.dur ≤ 32767) ∧ (0 ≤ h.seq ∧ h.seq ≤ 4095) ∧ (0 ≤ h.frag ∧ h.frag ≤ 15) ∧ (0 ≤ h.tid ∧ h.tid ≤ 7) := by
  unfold hdB at e
  rw [Bool.and_eq_true, Bool.and_eq_true, Bool.and_eq_true] at e
  have e2 := e.2.2.1
  unfold rngB at e2
  simp only [Bool.and_eq_true, decide_eq_true_eq] at e2
  exact ⟨e2.1, e2.2.1, e2.2.2.1, e2.2.2.2.1⟩
theorem hd_w_of {h : Hd} (e : hdB h = true) : h.w := by
  obtain ⟨a, b, c, d⟩ := rng_iff e
  exact ⟨w64_of a.1 (by omega), w64_of b.1 (by omega), w64_of c.1 (by omega), w64_of d.1 (by omega)⟩
theorem valid_w {l : List Pa} (h : validC (l.map Pa.z) = true) : ∀ p ∈ l, p.w := fun p hp => by
  have h1 := (valid_nd h).1 p.z (List.mem_map_of_mem hp)
  obtain ⟨a, _, _, _, n1, n2, _, s1, s2⟩ := okP_iff.1 h1
  have n1' : 1 ≤ p.next := n1
  have n2' : p.next ≤ 16 := n2
  have s1' : 0 ≤ p.since := s1
  have s2' : p.since ≤ maxT := s2
  unfold maxT at s2'
  exact ⟨hd_w_of a, w64_of (by omega) (by omega), w64_of s1' s2'⟩
theorem snd_hd {h : Hd} {b : List UInt8} (e : sndB h b = true) : hdB h = true := by
  unfold sndB at e
  rw [Bool.and_eq_true] at e
  exact e.1
theorem nodup_inj {α β : Type} {f : α → β} : ∀ {l : List α}, (l.map f).Nodup → ∀ {a b : α}, a ∈ l → b ∈ l → f a = f b → a = b
  | [], _, a, b, ha, _, _ => by cases ha
  | c :: r, h, a, b, ha, hb, e => by
    rw [List.map_cons, List.nodup_cons] at h
    rcases List.mem_cons.1 ha with h1 | h1
    · rcases List.mem_cons.1 hb with h2 | h2
      · rw [h1, h2]
      · exact absurd (h1 ▸ e ▸ List.mem_map_of_mem h2) h.1
    · rcases List.mem_cons.1 hb with h2 | h2
      · exact absurd (h2 ▸ e ▸ List.mem_map_of_mem h1) h.1
      · exact nodup_inj h.2 h1 h2 e
theorem room_sub (k : List Pz) : (roomL k).Sublist k := by
  unfold roomL
  split
  · exact List.eraseIdx_sublist _ _
  · exact List.Sublist.refl _
theorem old_lt (k : List Pz) (h : 0 < k.length) : oldI k < k.length := by
  have e : (k.map fun p => (⟨p.head, p.next, .slice none 0 0, p.body, p.since⟩ : Pa)).map Pa.z = k := by
    rw [List.map_map]
    exact List.map_id k
  obtain ⟨i, h1, _, h3⟩ := old_at (l := k.map fun p => (⟨p.head, p.next, .slice none 0 0, p.body, p.since⟩ : Pa)) (by rw [List.length_map]; exact h)
  rw [e] at h3
  rw [← h3]
  rwa [List.length_map] at h1
theorem room_le (k : List Pz) (h : k.length ≤ 8) : (roomL k).length ≤ 7 := by
  unfold roomL
  split
  · next e => rw [List.length_eraseIdx_of_lt (old_lt k (by omega))]; omega
  · omega
theorem inS_iff {h : Hd} {p : Pz} : inS h p = true ↔ stP p = stO h := by unfold inS; rw [decide_eq_true_eq]
theorem col_cases {L : List Pz} {h : Hd} {b : List UInt8} {now : Int} : (colR L h b now = badR (colR L h b now).e ∧ (colR L h b now).e ≠ 0) ∨
    (colR L h b now = colG (L.filter (freshP now)) h b now ∧ validC L = true ∧ 0 ≤ now ∧ now ≤ maxT ∧ sndB h b = true ∧ b.length ≤ 2304 ∧ ¬ h.kind.toNat = 1) := by
  unfold colR
  by_cases c1 : exE L now = 0
  · rw [if_neg (fun e => e c1)]
    by_cases c2 : sndB h b = false ∨ 2304 < b.length
    · rw [if_pos c2]
      exact .inl ⟨rfl, by decide⟩
    · rw [if_neg c2]
      by_cases c3 : h.kind.toNat = 1
      · rw [if_pos c3]
        exact .inl ⟨rfl, by decide⟩
      · rw [if_neg c3]
        obtain ⟨h1, h2, h3, h4⟩ := ex_z c1
        refine .inr ⟨by rw [h1], h2, h3, h4, ?_, ?_, c3⟩
        · cases e : sndB h b
          · exact absurd (.inl e) c2
          · rfl
        · apply Nat.le_of_not_lt
          exact fun e => c2 (.inr e)
  · rw [if_pos c1]
    exact .inl ⟨rfl, c1⟩
theorem colG_cases (K : List Pz) (h : Hd) (b : List UInt8) (now : Int) :
    (∃ e, e ≠ 0 ∧ colG K h b now = badR e) ∨
    (h.frag = 0 ∧ h.more = true ∧ colG K h b now = ⟨0, false, h0_, [], roomL (K.filter fun q => !inS h q) ++ [⟨h, 1, b, now⟩]⟩) ∨
    (h.frag = 0 ∧ h.more = false ∧ colG K h b now = ⟨0, true, whH h, b, K.filter fun q => !inS h q⟩) ∨
    (¬ h.frag = 0 ∧ ∃ p ∈ K, inS h p = true ∧ p.head.seq = h.seq ∧ p.next = h.frag ∧ p.body.length + b.length ≤ 2304 ∧
      ((h.more = true ∧ colG K h b now = ⟨0, false, h0_, [], K.map fun q => if inS h q = true then ⟨q.head, q.next + 1, q.body ++ b, q.since⟩ else q⟩) ∨
       (h.more = false ∧ colG K h b now = ⟨0, true, whH p.head, p.body ++ b, K.filter fun q => !inS h q⟩))) := by
  unfold colG
  by_cases c1 : h.frag = 0
  · rw [if_pos c1]
    unfold colF
    by_cases c2 : h.more = true
    · rw [if_pos c2]
      exact .inr (.inl ⟨c1, c2, rfl⟩)
    · rw [if_neg c2]
      exact .inr (.inr (.inl ⟨c1, by simpa using c2, rfl⟩))
  · rw [if_neg c1]
    cases hf : K.find? (inS h) with
    | none => exact .inl ⟨6, by decide, rfl⟩
    | some p =>
      have hp : p ∈ K := List.mem_of_find?_eq_some hf
      have hi : inS h p = true := List.find?_some hf
      show (∃ e, e ≠ 0 ∧ colN p K h b = badR e) ∨ (_ ∧ _ ∧ colN p K h b = _) ∨ (_ ∧ _ ∧ colN p K h b = _) ∨ (_ ∧ ∃ q ∈ K, _ ∧ _ ∧ _ ∧ _ ∧ ((_ ∧ colN p K h b = _) ∨ (_ ∧ colN p K h b = _)))
      unfold colN
      by_cases d1 : ¬ p.head.seq = h.seq
      · rw [if_pos d1]; exact .inl ⟨6, by decide, rfl⟩
      rw [if_neg d1]
      by_cases d2 : h.frag < p.next
      · rw [if_pos d2]; exact .inl ⟨21, by decide, rfl⟩
      rw [if_neg d2]
      by_cases d3 : p.next < h.frag
      · rw [if_pos d3]; exact .inl ⟨20, by decide, rfl⟩
      rw [if_neg d3]
      by_cases d4 : 2304 < p.body.length + b.length
      · rw [if_pos d4]; exact .inl ⟨11, by decide, rfl⟩
      rw [if_neg d4]
      refine .inr (.inr (.inr ⟨c1, p, hp, hi, Classical.not_not.1 d1, by omega, by omega, ?_⟩))
      by_cases d5 : h.more = true
      · rw [if_pos d5]; exact .inl ⟨d5, rfl⟩
      · rw [if_neg d5]; exact .inr ⟨by simpa using d5, rfl⟩
theorem valid_of {L : List Pz} (h1 : ∀ p ∈ L, okP p = true) (h2 : (L.map stP).Nodup) (h3 : L.length ≤ 8) : validC L = true := by
  unfold validC
  rw [Bool.and_eq_true, Bool.and_eq_true, List.all_eq_true, decide_eq_true_eq, decide_eq_true_eq]
  exact ⟨h1, h2, h3⟩
theorem valid_filter {L : List Pz} (q : Pz → Bool) (h : validC L = true) : validC (L.filter q) = true := by
  obtain ⟨h1, h2, h3⟩ := fresh_nd q h
  exact valid_of h1 h2 h3
theorem colG_valid {K : List Pz} {h : Hd} {b : List UInt8} {now : Int} (hK : validC K = true) (hn : 0 ≤ now ∧ now ≤ maxT) (hs : sndB h b = true) (hb : b.length ≤ 2304) (hk : ¬ h.kind.toNat = 1) (he : (colG K h b now).e = 0) : validC (colG K h b now).nl = true := by
  rcases colG_cases K h b now with ⟨e, h1, h2⟩ | ⟨h1, h2, h3⟩ | ⟨h1, h2, h3⟩ | ⟨h1, p, hp, hi, hq, hx, hl, h⟩
  · rw [h2] at he
    exact absurd he h1
  · rw [h3]
    obtain ⟨v1, v2, v3⟩ := valid_nd (valid_filter (fun q => !inS h q) hK)
    have hsub := room_sub (K.filter fun q => !inS h q)
    refine valid_of (fun q hq => ?_) ?_ ?_
    · rcases List.mem_append.1 hq with hq | hq
      · exact v1 q (hsub.subset hq)
      · rcases List.mem_singleton.1 hq with rfl
        exact okP_iff.2 ⟨snd_hd hs, hk, h1, h2, Int.le_refl 1, (by decide : (1 : Int) ≤ 16), hb, hn.1, hn.2⟩
    · rw [List.map_append, List.nodup_append]
      refine ⟨v2.sublist (hsub.map _), by simp, fun a ha c hc => ?_⟩
      rcases List.mem_singleton.1 hc with rfl
      obtain ⟨q, hq, rfl⟩ := List.mem_map.1 ha
      have := (List.mem_filter.1 (hsub.subset hq)).2
      intro e
      rw [inS_iff.2 e] at this
      cases this
    · rw [List.length_append]
      have := room_le _ v3
      show _ + 1 ≤ 8
      omega
  · rw [h3]
    exact valid_filter _ hK
  · obtain ⟨v1, v2, v3⟩ := valid_nd hK
    rcases h with ⟨h2, h3⟩ | ⟨h2, h3⟩
    · rw [h3]
      refine valid_of (fun q hq => ?_) ?_ ?_
      · obtain ⟨u, hu, rfl⟩ := List.mem_map.1 hq
        by_cases c : inS h u = true
        · rw [if_pos c]
          obtain rfl : u = p := nodup_inj v2 hu hp ((inS_iff.1 c).trans (inS_iff.1 hi).symm)
          obtain ⟨a1, a2, a3, a4, a5, a6, a7, a8, a9⟩ := okP_iff.1 (v1 u hu)
          have := (rng_iff (snd_hd hs)).2.2.1
          exact okP_iff.2 ⟨a1, a2, a3, a4, (by omega : 1 ≤ u.next + 1), (by omega : u.next + 1 ≤ 16), by rw [List.length_append]; omega, a8, a9⟩
        · rw [if_neg c]
          exact v1 u hu
      · have : (K.map fun q => if inS h q = true then (⟨q.head, q.next + 1, q.body ++ b, q.since⟩ : Pz) else q).map stP = K.map stP := by
          rw [List.map_map]
          refine List.map_congr_left fun q _ => ?_
          show stP (if inS h q = true then _ else _) = stP q
          split <;> rfl
        rw [this]
        exact v2
      · rw [List.length_map]; exact v3
    · rw [h3]
      exact valid_filter _ hK
theorem col_valid {L : List Pz} {h : Hd} {b : List UInt8} {now : Int} (he : (colR L h b now).e = 0) : validC (colR L h b now).nl = true := by
  rcases col_cases (L := L) (h := h) (b := b) (now := now) with ⟨_, h2⟩ | ⟨h1, v, n1, n2, hs, hb, hk⟩
  · exact absurd he h2
  · rw [h1] at he ⊢
    exact colG_valid (valid_filter _ v) ⟨n1, n2⟩ hs hb hk he

/-- a frame that is cut, and the length of its pieces. -/
structure Cx where
  h : Hd
  b : List UInt8
  s : Nat
def Cx.n (c : Cx) : Nat := manyN c.b.length c.s
def Cx.ok (c : Cx) : Prop := c.h.more = false ∧ c.h.frag = 0 ∧ 1 ≤ c.s ∧ c.n ≤ 16
def Cx.pc (c : Cx) (j : Nat) (r : Bool) : Hd := { c.h with frag := (j : Int), more := decide (j + 1 < c.n), retry := r }
def InvP (F : List Cx) (p : Pz) : Prop := ∃ c ∈ F, ∃ r, p.head = c.pc 0 r ∧ ∃ n : Nat, p.next = n ∧ 1 ≤ n ∧ n < c.n ∧ p.body = c.b.take (n * c.s)
def difF (F : List Cx) : Prop := ∀ c ∈ F, ∀ d ∈ F, stO c.h = stO d.h → c.h.seq = d.h.seq → c = d
end Go.Proofs.Ytglmcnjkcmbefaa
