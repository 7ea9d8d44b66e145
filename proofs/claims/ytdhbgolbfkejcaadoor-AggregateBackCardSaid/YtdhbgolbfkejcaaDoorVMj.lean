/-
  Plain law: what is packed is unpacked, and the other way round.
-/
import Derived.Test.YtdhbgolbfkejcaaDoorVMi
namespace Go.Proofs.YtdhbgolbfkejcaaDoor
open Go Go.RowKit Go.Hs C01 C08
def entz (z : Kz) : List UInt8 := z.to_.bytes ++ (z.fr_.bytes ++ (dl2 z.data.length ++ z.data))
theorem entz_length (z : Kz) : (entz z).length = 14 + z.data.length := by simp [entz, A6.bytes, dl2]; omega
def okZ (z : Kz) : Prop := grp z.fr_.a0 = false ∧ z.data.length ≤ 1500
theorem dl2_num {n : Nat} (h : n < 65536) (r : List UInt8) : num2 (dl2 n ++ r) = n := by
  unfold num2 dl2
  simp
  omega
/-- what is read at the front of an entry. -/
theorem up_ent {z : Kz} (h : okZ z) (T : List UInt8) : upE (entz z ++ T) = 0 ∧ upP (entz z ++ T) = z ∧ upN (entz z ++ T) = z.data.length ∧ (entz z ++ T).drop (14 + upN (entz z ++ T)) = T := by
  obtain ⟨⟨a0, a1, a2, a3, a4, a5⟩, ⟨b0, b1, b2, b3, b4, b5⟩, data⟩ := z
  obtain ⟨h1, h2⟩ := h
  replace h1 : grp b0 = false := h1
  replace h2 : data.length ≤ 1500 := h2
  have e : entz ⟨⟨a0, a1, a2, a3, a4, a5⟩, ⟨b0, b1, b2, b3, b4, b5⟩, data⟩ ++ T = [a0, a1, a2, a3, a4, a5, b0, b1, b2, b3, b4, b5] ++ (dl2 data.length ++ (data ++ T)) := by
    simp [entz, A6.bytes]
  rw [e]
  have hn : upN ([a0, a1, a2, a3, a4, a5, b0, b1, b2, b3, b4, b5] ++ (dl2 data.length ++ (data ++ T))) = data.length := by
    unfold upN
    exact dl2_num (by omega) (data ++ T)
  have hF : upF ([a0, a1, a2, a3, a4, a5, b0, b1, b2, b3, b4, b5] ++ (dl2 data.length ++ (data ++ T))) = ⟨b0, b1, b2, b3, b4, b5⟩ := rfl
  have hT : upT ([a0, a1, a2, a3, a4, a5, b0, b1, b2, b3, b4, b5] ++ (dl2 data.length ++ (data ++ T))) = ⟨a0, a1, a2, a3, a4, a5⟩ := rfl
  have hl : ([a0, a1, a2, a3, a4, a5, b0, b1, b2, b3, b4, b5] ++ (dl2 data.length ++ (data ++ T))).length = 14 + data.length + T.length := by
    simp [dl2]
    omega
  have hd : ([a0, a1, a2, a3, a4, a5, b0, b1, b2, b3, b4, b5] ++ (dl2 data.length ++ (data ++ T))).drop 14 = data ++ T := rfl
  refine ⟨?_, ?_, hn, ?_⟩
  · unfold upE
    rw [hn, hF, hl, if_neg (by omega), if_neg (by rw [h1]; decide), if_neg (by omega), if_neg (by omega)]
  · unfold upP
    rw [hn, hF, hT, hd, List.take_left' rfl]
  · rw [hn, ← List.drop_drop, hd, List.drop_left' rfl]
theorem nz_zer (n : Nat) (r : List UInt8) : nzB ((zer n ++ r).take n) = false := by
  rw [List.take_left' (zer_length n)]
  unfold nzB zer
  rw [List.any_eq_false]
  intro b hb
  rw [List.eq_of_mem_replicate hb]
  decide
theorem upk_jg : ∀ (l : List Kz) (k : Nat) (acc : List Kz), l ≠ [] → (∀ z ∈ l, okZ z) → l.length ≤ k → upk k acc (jg (l.map entz)) = (acc ++ l, 0)
  | [], _, _, h, _, _ => absurd rfl h
  | z :: r, k, acc, _, hok, hk => by
    obtain ⟨k, rfl⟩ : ∃ j, k = j + 1 := ⟨k - 1, by simp at hk; omega⟩
    have hz := hok z List.mem_cons_self
    by_cases hr : r = []
    · subst hr
      rw [List.map_cons, List.map_nil, jg_one]
      obtain ⟨u1, u2, u3, u4⟩ := up_ent hz []
      rw [List.append_nil] at u1 u2 u3 u4
      unfold upk
      rw [if_neg (fun h => h u1), u4, u2, if_pos (show ([] : List UInt8).length = 0 from rfl)]
    · have hrm : r.map entz ≠ [] := by simpa using hr
      rw [List.map_cons, jg_cons hrm]
      obtain ⟨u1, u2, u3, u4⟩ := up_ent hz (zer (pad4 (entz z).length) ++ jg (r.map entz))
      have hM : 14 + upN (entz z ++ (zer (pad4 (entz z).length) ++ jg (r.map entz))) = (entz z).length := by rw [u3, entz_length]
      have hj : 0 < (jg (r.map entz)).length := by
        cases r with
        | nil => exact absurd rfl hr
        | cons y s =>
          rw [List.map_cons, jg, List.length_append, entz_length]
          omega
      unfold upk
      rw [if_neg (fun h => h u1), u4, u2, hM, if_neg (by rw [List.length_append]; omega), if_neg (by rw [List.length_append, zer_length]; omega), if_neg (by rw [List.length_append, zer_length]; omega), nz_zer, if_neg (by decide), List.drop_left' (zer_length _)]
      rw [upk_jg r k (acc ++ [z]) hr (fun y hy => hok y (List.mem_cons_of_mem _ hy)) (by simp at hk; omega), List.append_assoc]
      rfl
theorem a6k_bytes {l : List UInt8} (h : l.length = 6) : (a6k l).bytes = l := by
  match l, h with
  | [_, _, _, _, _, _], _ => rfl
theorem dl2_of {l : List UInt8} (h : 2 ≤ l.length) : dl2 (num2 l) = l.take 2 := by
  match l, h with
  | x :: y :: r, _ =>
    have hx := x.toNat_lt
    have hy := y.toNat_lt
    have e : num2 (x :: y :: r) = x.toNat + 256 * y.toNat := rfl
    rw [e]
    unfold dl2
    show _ = [x, y]
    have h1 : UInt8.ofNat (x.toNat + 256 * y.toNat) = x := by
      apply UInt8.toNat_inj.1
      rw [UInt8.toNat_ofNat']
      omega
    have h2 : UInt8.ofNat ((x.toNat + 256 * y.toNat) / 256) = y := by
      apply UInt8.toNat_inj.1
      rw [UInt8.toNat_ofNat']
      omega
    rw [h1, h2]
/-- what is read is an entry. -/
theorem up_back {b : List UInt8} (h : upE b = 0) : okZ (upP b) ∧ (upP b).data.length = upN b ∧ 14 + upN b ≤ b.length ∧ b = entz (upP b) ++ b.drop (14 + upN b) := by
  unfold upE at h
  split at h
  · cases h
  next h1 =>
  split at h
  · cases h
  next h2 =>
  split at h
  · cases h
  next h3 =>
  split at h
  · cases h
  next h4 =>
  have hl : ((b.drop 14).take (upN b)).length = upN b := by rw [List.length_take, List.length_drop]; omega
  refine ⟨⟨?_, ?_⟩, hl, by omega, ?_⟩
  · show grp (upF b).a0 = false
    cases e : grp (upF b).a0
    · rfl
    · exact absurd e h2
  · show ((b.drop 14).take (upN b)).length ≤ 1500
    omega
  · have e1 : (upT b).bytes = b.take 6 := a6k_bytes (by rw [List.length_take]; omega)
    have e2 : (upF b).bytes = (b.drop 6).take 6 := a6k_bytes (by rw [List.length_take, List.length_drop]; omega)
    have e3 : dl2 (upN b) = (b.drop 12).take 2 := dl2_of (by rw [List.length_drop]; omega)
    show b = ((upT b).bytes ++ ((upF b).bytes ++ (dl2 ((b.drop 14).take (upN b)).length ++ (b.drop 14).take (upN b)))) ++ b.drop (14 + upN b)
    rw [hl, e1, e2, e3]
    have q1 : (b.drop 14).take (upN b) ++ b.drop (14 + upN b) = b.drop 14 := by
      rw [← List.drop_drop, List.take_append_drop]
    have q2 : (b.drop 12).take 2 ++ b.drop 14 = b.drop 12 := by
      have := List.take_append_drop 2 (b.drop 12)
      rwa [List.drop_drop] at this
    have q3 : (b.drop 6).take 6 ++ b.drop 12 = b.drop 6 := by
      have := List.take_append_drop 6 (b.drop 6)
      rwa [List.drop_drop] at this
    simp only [List.append_assoc]
    rw [q1, q2, q3, List.take_append_drop]
theorem zer_of {l : List UInt8} {n : Nat} (h : nzB (l.take n) = false) (hl : n ≤ l.length) : l.take n = zer n := by
  unfold zer
  rw [List.eq_replicate_iff]
  refine ⟨by rw [List.length_take]; omega, fun b hb => ?_⟩
  unfold nzB at h
  rw [List.any_eq_false] at h
  have := h b hb
  simpa using this
theorem upk_err : ∀ (k : Nat) (acc : List Kz) (b : List UInt8), (upk k acc b).2 ≠ 0 → (upk k acc b).1 = []
  | 0, _, _, _ => rfl
  | k + 1, acc, b, h => by
    unfold upk at h ⊢
    by_cases c1 : upE b = 0
    case neg => rw [if_pos c1]
    rw [if_neg (fun e => e c1)] at h ⊢
    by_cases c2 : (b.drop (14 + upN b)).length = 0
    · rw [if_pos c2] at h
      exact absurd rfl h
    rw [if_neg c2] at h ⊢
    by_cases c3 : (b.drop (14 + upN b)).length < pad4 (14 + upN b)
    · rw [if_pos c3]
    rw [if_neg c3] at h ⊢
    by_cases c4 : (b.drop (14 + upN b)).length = pad4 (14 + upN b)
    · rw [if_pos c4]
    rw [if_neg c4] at h ⊢
    by_cases c5 : nzB ((b.drop (14 + upN b)).take (pad4 (14 + upN b))) = true
    · rw [if_pos c5]
    rw [if_neg c5] at h ⊢
    exact upk_err k _ _ h
theorem upk_back : ∀ (k : Nat) (acc : List Kz) (b : List UInt8), (upk k acc b).2 = 0 → ∃ l, (upk k acc b).1 = acc ++ l ∧ l ≠ [] ∧ l.length ≤ k ∧ (∀ z ∈ l, okZ z) ∧ jg (l.map entz) = b
  | 0, _, _, h => absurd (show (4 : Int) = 0 from h) (by decide)
  | k + 1, acc, b, h => by
    unfold upk at h ⊢
    by_cases c1 : upE b = 0
    case neg =>
      rw [if_pos c1] at h
      exact absurd h c1
    rw [if_neg (fun e => e c1)] at h ⊢
    obtain ⟨v1, v2, v3, v4⟩ := up_back c1
    have hel : (entz (upP b)).length = 14 + upN b := by rw [entz_length, v2]
    generalize hT : b.drop (14 + upN b) = T at *
    by_cases c2 : T.length = 0
    · rw [if_pos c2] at h ⊢
      refine ⟨[upP b], rfl, by simp, by simp, fun z hz => ?_, ?_⟩
      · rcases List.mem_singleton.1 hz with rfl
        exact v1
      · rw [List.map_cons, List.map_nil, jg_one]
        rw [List.length_eq_zero_iff.1 c2, List.append_nil] at v4
        exact v4.symm
    rw [if_neg c2] at h ⊢
    by_cases c3 : T.length < pad4 (14 + upN b)
    · rw [if_pos c3] at h
      exact absurd h (by decide)
    rw [if_neg c3] at h ⊢
    by_cases c4 : T.length = pad4 (14 + upN b)
    · rw [if_pos c4] at h
      exact absurd h (by decide)
    rw [if_neg c4] at h ⊢
    by_cases c5 : nzB (T.take (pad4 (14 + upN b))) = true
    · rw [if_pos c5] at h
      exact absurd h (by decide)
    rw [if_neg c5] at h ⊢
    obtain ⟨l, w1, w2, w3, w4, w5⟩ := upk_back k _ _ h
    refine ⟨upP b :: l, by rw [w1, List.append_assoc]; rfl, by simp, by rw [List.length_cons]; omega, fun z hz => ?_, ?_⟩
    · rcases List.mem_cons.1 hz with rfl | hz
      · exact v1
      · exact w4 z hz
    · rw [List.map_cons, jg_cons (by simpa using w2), w5, hel]
      have hz := zer_of (l := T) (n := pad4 (14 + upN b)) (by cases e : nzB (T.take (pad4 (14 + upN b))); rfl; exact absurd e c5) (by omega)
      rw [← hz, List.take_append_drop]
      exact v4.symm
theorem jk_z (ps : List PK) : jk ps = jg ((ps.map PKz).map entz) := by
  unfold jk
  rw [List.map_map]
  rfl
/-- what is packed is unpacked. -/
theorem jkE_un {ps : List PK} (h : (jkE ps).2 = 0) : unE (jkE ps).1 = (ps.map PKz, 0) := by
  unfold jkE at h ⊢
  by_cases c1 : ps.length = 0
  · rw [if_pos c1] at h; cases h
  rw [if_neg c1] at h ⊢
  by_cases c2 : 32 < ps.length
  · rw [if_pos c2] at h; cases h
  rw [if_neg c2] at h ⊢
  by_cases c3 : pckE ps = 0
  case neg =>
    rw [if_neg c3] at h
    exact absurd h c3
  rw [if_pos c3] at h ⊢
  by_cases c4 : 2304 < (jk ps).length
  · rw [if_pos c4] at h; cases h
  rw [if_neg c4]
  unfold unE
  rw [if_neg c4, jk_z]
  have hok := pckE_ok.1 c3
  rw [upk_jg (ps.map PKz) 32 [] (by
    intro e
    rw [List.map_eq_nil_iff] at e
    rw [e] at c1
    exact c1 rfl) (fun z hz => by
    obtain ⟨p, hp, rfl⟩ := List.mem_map.1 hz
    exact hok p hp) (by rw [List.length_map]; omega)]
  rfl
/-- what is unpacked is packed. -/
theorem un_jkE {b : List UInt8} {ps : List PK} (h : (unE b).2 = 0) (hp : ps.map PKz = (unE b).1) : jkE ps = (b, 0) := by
  unfold unE at h hp
  by_cases c1 : 2304 < b.length
  · rw [if_pos c1] at h; cases h
  rw [if_neg c1] at h hp
  obtain ⟨l, w1, w2, w3, w4, w5⟩ := upk_back 32 [] b h
  rw [w1, List.nil_append] at hp
  have hl : ps.length = l.length := by rw [← hp, List.length_map]
  have hl0 : l.length ≠ 0 := fun e => w2 (List.length_eq_zero_iff.1 e)
  have hok : okKL ps := fun p hm => w4 (PKz p) (by rw [← hp]; exact List.mem_map_of_mem hm)
  have hj : jk ps = b := by rw [jk_z, hp, w5]
  unfold jkE
  rw [if_neg (by omega), if_neg (by omega), if_pos (pckE_ok.2 hok), hj, if_neg c1]
theorem un_err {b : List UInt8} (h : (unE b).2 ≠ 0) : (unE b).1 = [] := by
  unfold unE at h ⊢
  by_cases c1 : 2304 < b.length
  · rw [if_pos c1]
  · rw [if_neg c1] at h ⊢
    exact upk_err _ _ _ h
end Go.Proofs.YtdhbgolbfkejcaaDoor
