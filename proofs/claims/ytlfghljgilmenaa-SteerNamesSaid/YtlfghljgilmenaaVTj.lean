/-
  Encodings decoded, and the other way round.
-/
import Derived.Test.YtlfghljgilmenaaVSr
namespace Go.Proofs.Ytlfghljgilmenaa
open Go Go.RowKit Go.Hs
theorem fm_at : ∀ (l : List Nea) (i k : Nat), i < l.length → k < 10 → (l.flatMap encN).getD (10 * i + k) 0 = (encN (l.getD i n0_)).getD k 0
  | [], i, _, h, _ => absurd h (by simp)
  | n :: r, 0, k, _, hk => by
    rw [List.flatMap_cons, Nat.mul_zero, Nat.zero_add, List.getD_cons_zero, List.getD_eq_getElem?_getD, List.getElem?_append_left (by rw [encN_length]; exact hk), List.getD_eq_getElem?_getD]
  | n :: r, i + 1, k, h, hk => by
    have e : 10 * (i + 1) + k - (encN n).length = 10 * i + k := by rw [encN_length]; omega
    rw [List.flatMap_cons, List.getD_cons_succ, List.getD_eq_getElem?_getD, List.getElem?_append_right (by rw [encN_length]; omega), e, ← List.getD_eq_getElem?_getD]
    exact fm_at r i k (Nat.lt_of_succ_lt_succ h) hk
theorem enc_at (l : List Nea) (i k : Nat) (h : i < l.length) (hk : k < 10) : (encL l).getD (1 + 10 * i + k) 0 = (encN (l.getD i n0_)).getD k 0 := by
  have e : 1 + 10 * i + k = (10 * i + k) + 1 := by omega
  unfold encL
  rw [e, List.getD_cons_succ]
  exact fm_at l i k h hk
theorem encL_length (l : List Nea) : (encL l).length = 1 + 10 * l.length := by rw [← encT_all, encT_length l l.length (Nat.le_refl _)]
theorem enc_many {l : List Nea} (h : l.length ≤ 32) : manyB (encL l) = l.length := by
  show (UInt8.ofNat l.length).toNat = l.length
  rw [UInt8.toNat_ofNat', Nat.mod_eq_of_lt (by omega)]
theorem u8n' (n : Nat) (h : n < 256) : (UInt8.ofNat n).toNat = n := by rw [UInt8.toNat_ofNat', Nat.mod_eq_of_lt (by omega)]
theorem enc_nea {l : List Nea} (hl : listB l = true) {i : Nat} (h : i < l.length) : neaAt (encL l) (1 + 10 * i) = l.getD i n0_ := by
  obtain ⟨⟨k1, k2⟩, ⟨k3, k4⟩, k5, k6⟩ := goodN_in ((listB_iff.1 hl).2 i h)
  unfold neaAt a6At
  have e0 := enc_at l i 0 h (by decide)
  rw [e0, enc_at l i 1 h (by decide), enc_at l i 2 h (by decide), enc_at l i 3 h (by decide), enc_at l i 4 h (by decide), enc_at l i 5 h (by decide), enc_at l i 6 h (by decide), enc_at l i 7 h (by decide), enc_at l i 8 h (by decide), enc_at l i 9 h (by decide)]
  generalize l.getD i n0_ = n at *
  obtain ⟨⟨a0, a1, a2, a3, a4, a5⟩, c, v, d⟩ := n
  replace k1 : 1 ≤ c := k1
  replace k2 : c ≤ 64 := k2
  replace k3 : -2000 ≤ v := k3
  replace k4 : v ≤ 1000 := k4
  replace k5 : 0 ≤ d := k5
  replace k6 : d ≤ 255 := k6
  have g6 : (UInt8.ofNat c.toNat).toNat = c.toNat := u8n' _ (by omega)
  have g8 : (UInt8.ofNat ((v + 2000).toNat / 256)).toNat = (v + 2000).toNat / 256 := u8n' _ (by omega)
  have g7 : (UInt8.ofNat (v + 2000).toNat).toNat = (v + 2000).toNat % 256 := by rw [UInt8.toNat_ofNat']
  have g9 : (UInt8.ofNat d.toNat).toNat = d.toNat := u8n' _ (by omega)
  show (⟨⟨a0, a1, a2, a3, a4, a5⟩, ((UInt8.ofNat c.toNat).toNat : Int), _, ((UInt8.ofNat d.toNat).toNat : Int)⟩ : Nea) = _
  rw [g6, g9]
  congr 1
  · omega
  · show (((UInt8.ofNat (v + 2000).toNat).toNat : Int) + 256 * ((UInt8.ofNat ((v + 2000).toNat / 256)).toNat : Int) - 2000) = v
    rw [g7, g8]
    omega
  · omega
theorem wire_dec {l : List Nea} (hl : listB l = true) : decE (encL l) = 0 ∧ decR (encL l) = l := by
  have h32 := (listB_iff.1 hl).1
  have hm := enc_many h32
  have hg : gotL (encL l) (manyB (encL l)) = l := by
    rw [hm]
    apply List.ext_getElem
    · rw [gotL_length]
    · intro i h1 h2
      have : (gotL (encL l) l.length)[i] = neaAt (encL l) (1 + 10 * i) := by simp [gotL]
      rw [this, enc_nea hl h2, List.getD_eq_getElem?_getD, List.getElem?_eq_getElem h2]; rfl
  have hE : decE (encL l) = 0 := by
    unfold decE
    rw [hg, hl, hm, encL_length, if_neg (by omega), if_neg (by omega)]
    rfl
  exact ⟨hE, by unfold decR; rw [if_pos hE, hg]⟩
theorem nea_enc {xs : List UInt8} {p : Nat} (h : p + 10 ≤ xs.length) : encN (neaAt xs p) = (xs.drop p).take 10 := by
  have hb : ∀ k, (xs.getD k 0).toNat < 256 := fun k => (xs.getD k 0).toNat_lt
  have h6 := hb (p + 6)
  have h7 := hb (p + 7)
  have h8 := hb (p + 8)
  have h9 := hb (p + 9)
  have e1 : UInt8.ofNat (((xs.getD (p + 6) 0).toNat : Int)).toNat = xs.getD (p + 6) 0 := by rw [Int.toNat_natCast, UInt8.ofNat_toNat]
  have e2 : UInt8.ofNat (((xs.getD (p + 9) 0).toNat : Int)).toNat = xs.getD (p + 9) 0 := by rw [Int.toNat_natCast, UInt8.ofNat_toNat]
  have e3 : ((((xs.getD (p + 7) 0).toNat : Int) + 256 * ((xs.getD (p + 8) 0).toNat : Int) - 2000) + 2000).toNat = (xs.getD (p + 7) 0).toNat + 256 * (xs.getD (p + 8) 0).toNat := by omega
  have e4 : UInt8.ofNat ((xs.getD (p + 7) 0).toNat + 256 * (xs.getD (p + 8) 0).toNat) = xs.getD (p + 7) 0 := by
    apply UInt8.toNat_inj.1
    rw [UInt8.toNat_ofNat']
    omega
  have e5 : UInt8.ofNat (((xs.getD (p + 7) 0).toNat + 256 * (xs.getD (p + 8) 0).toNat) / 256) = xs.getD (p + 8) 0 := by
    apply UInt8.toNat_inj.1
    rw [UInt8.toNat_ofNat']
    omega
  have hl : encN (neaAt xs p) = [xs.getD p 0, xs.getD (p + 1) 0, xs.getD (p + 2) 0, xs.getD (p + 3) 0, xs.getD (p + 4) 0, xs.getD (p + 5) 0, xs.getD (p + 6) 0, xs.getD (p + 7) 0, xs.getD (p + 8) 0, xs.getD (p + 9) 0] := by
    unfold encN neaAt a6At A6.bytes
    dsimp only
    rw [e1, e2, e3, e4, e5]
    rfl
  rw [hl]
  apply List.ext_getElem
  · rw [List.length_take, List.length_drop]; simp only [List.length_cons, List.length_nil]; omega
  · intro i h1 h2
    have hi : i < 10 := h1
    rw [List.getElem_take, List.getElem_drop]
    have hget : ∀ k, k < 10 → xs[p + k]? = some (xs.getD (p + k) 0) := fun k hk => by
      rw [List.getD_eq_getElem?_getD, List.getElem?_eq_getElem (by omega)]; rfl
    have := hget i hi
    rw [List.getElem?_eq_getElem (by omega)] at this
    injection this with this
    rw [this]
    match i, hi with
    | 0, _ => rfl
    | 1, _ => rfl
    | 2, _ => rfl
    | 3, _ => rfl
    | 4, _ => rfl
    | 5, _ => rfl
    | 6, _ => rfl
    | 7, _ => rfl
    | 8, _ => rfl
    | 9, _ => rfl
theorem wire_enc {xs : List UInt8} (h : decE xs = 0) : listB (decR xs) = true ∧ encL (decR xs) = xs := by
  have hR : decR xs = gotL xs (manyB xs) := by unfold decR; rw [if_pos h]
  unfold decE at h
  by_cases c1 : xs.length < 1 + 10 * manyB xs
  · rw [if_pos c1] at h; cases h
  · rw [if_neg c1] at h
    by_cases c2 : 1 + 10 * manyB xs < xs.length
    · rw [if_pos c2] at h; cases h
    · rw [if_neg c2] at h
      cases c3 : listB (gotL xs (manyB xs)) with
      | false => rw [c3] at h; cases h
      | true =>
        rw [hR]
        refine ⟨c3, ?_⟩
        have hgl := gotL_length xs (manyB xs)
        have key : ∀ x, x ≤ manyB xs → encT (gotL xs (manyB xs)) x = xs.take (1 + 10 * x) := by
          intro x
          induction x with
          | zero =>
            intro _
            unfold encT
            rw [List.take_zero, List.flatMap_nil, hgl]
            unfold manyB
            rw [UInt8.ofNat_toNat]
            cases xs with
            | nil => exact absurd c1 (by simp)
            | cons b r => rfl
          | succ x ih =>
            intro hx
            rw [encT_next _ _ (by rw [hgl]; omega), ih (by omega)]
            have e : (gotL xs (manyB xs)).getD x n0_ = neaAt xs (1 + 10 * x) := by
              unfold gotL
              rw [List.getD_eq_getElem?_getD, List.getElem?_map, List.getElem?_range (by omega)]; rfl
            rw [e, nea_enc (by omega), show 1 + 10 * (x + 1) = (1 + 10 * x) + 10 by omega]
            symm
            exact List.take_add
        have e := encT_all (gotL xs (manyB xs))
        rw [hgl] at e
        rw [← e, key _ (Nat.le_refl _)]
        exact List.take_of_length_le (by omega)
end Go.Proofs.Ytlfghljgilmenaa
