/-
  Bodies of frames, there and back: plain law.
-/
import Derived.Test.YtoohgnegoaoleaaVBk
import Derived.Test.YtoohgnegoaoleaaVBl
import Derived.Test.YtoohgnegoaoleaaXe
namespace Go.Proofs.Ytoohgnegoaoleaa
open Go Go.RowKit Go.Hs
theorem leb2 (n : Nat) : C01.leB 2 n = [UInt8.ofNat n, UInt8.ofNat (n / 256)] := by simp [C01.leB, List.range_succ]
theorem le2_eq (n : Nat) : le2 n = [UInt8.ofNat n, UInt8.ofNat (n / 256)] := leb2 n
theorem tw_le {n : Nat} (h : n < 65536) : (UInt8.ofNat n).toNat + 256 * (UInt8.ofNat (n / 256)).toNat = n := by
  rw [UInt8.toNat_ofNat', UInt8.toNat_ofNat']
  omega
theorem twA_at {p r : List UInt8} {v : Nat} (h : v < 65536) : twA (p ++ (le2 v ++ r)) p.length = v := by
  unfold twA
  rw [le2_eq]
  have e1 : (p ++ ([UInt8.ofNat v, UInt8.ofNat (v / 256)] ++ r)).getD p.length 0 = UInt8.ofNat v := by
    rw [List.getD_eq_getElem?_getD, List.getElem?_append_right (Nat.le_refl _), Nat.sub_self]; rfl
  have e2 : (p ++ ([UInt8.ofNat v, UInt8.ofNat (v / 256)] ++ r)).getD (p.length + 1) 0 = UInt8.ofNat (v / 256) := by
    rw [List.getD_eq_getElem?_getD, List.getElem?_append_right (by omega), show p.length + 1 - p.length = 1 by omega]; rfl
  rw [e1, e2]
  exact tw_le h
theorem e8_at {p r : List UInt8} {v : Nat} (h : v < 18446744073709551616) : e8 (p ++ (C01.leB 8 v ++ r)) p.length = v := by
  unfold e8
  have e : (C01.leB 8 v ++ r).take 8 = C01.leB 8 v := by
    have := List.take_left (l₁ := C01.leB 8 v) (l₂ := r)
    rw [C01.leB_length] at this
    exact this
  rw [List.drop_left, e, C01.leN_leB]
  exact Nat.mod_eq_of_lt (Nat.lt_of_lt_of_le h (by decide))
/-- what is encoded is decoded: the elements. -/
theorem el_back {bs : List UInt8} {f : Fo} (h : fiE bs f = 0) : drE (fiY bs f) bs.length = 0 ∧ drF (fiY bs f) bs.length = f := by
  obtain ⟨h1, h2⟩ := fiE_le h
  rw [fiY_ok h]
  have hd : (bs ++ C04.enc f).drop bs.length = C04.enc f := List.drop_left
  have hf : frE (bs ++ C04.enc f).length bs.length = 0 := by
    unfold frE
    rw [List.length_append, if_neg (by omega), if_neg (by omega)]
  have hq := C04.enc_dec h1
  have e1 : dlE (C04.enc f) = 0 := by unfold dlE; rw [hq]
  have e2 : dlF (C04.enc f) = f := by unfold dlF; rw [hq]
  have e3 : drE (bs ++ C04.enc f) bs.length = 0 := by unfold drE; rw [if_pos hf, hd, e1]
  refine ⟨e3, ?_⟩
  unfold drF
  rw [if_pos e3, hd, e2]
theorem wr1 (b : List UInt8) (x : Nat) : wr b [x] 1 = b ++ le2 x := rfl
theorem wr2 (b : List UInt8) (x y : Nat) : wr b [x, y] 2 = b ++ le2 x ++ le2 y := rfl
theorem wr3 (b : List UInt8) (x y z : Nat) : wr b [x, y, z] 3 = b ++ le2 x ++ le2 y ++ le2 z := rfl
theorem reason_len (c : Nat) : (fxReason c).length = 2 := by unfold fxReason; rw [wr_length]; rfl
theorem auth_len (a s d : Nat) : (fxAuth a s d).length = 6 := by unfold fxAuth; rw [wr_length]; rfl
theorem beacon_len (m i c : Nat) : (fxBeacon m i c).length = 12 := by unfold fxBeacon; rw [wr_length, C01.leB_length]
theorem resp_len (c s a : Nat) : (fxResp c s a).length = 6 := by unfold fxResp; rw [wr_length]; rfl
theorem req_len (c l : Nat) (again : Bool) (old : A6) : (fxReq c l again old).length = rqN again := by
  unfold fxReq
  rw [List.length_append, wr_length]
  cases again <;> rfl
theorem reason_nums {c : Nat} (hc : c < 65536) (r : List UInt8) : twA (fxReason c ++ r) 0 = c := by
  have := twA_at (p := []) (r := r) hc
  exact this
theorem two_at {a b : Nat} (q r : List UInt8) (hb : b < 65536) (hq : q.length = a) : twA (q ++ (le2 b ++ r)) a = b := by rw [← hq]; exact twA_at hb
theorem auth_nums {a s d : Nat} (ha : a < 65536) (hs : s < 65536) (hd : d < 65536) (r : List UInt8) : twA (fxAuth a s d ++ r) 0 = a ∧ twA (fxAuth a s d ++ r) 2 = s ∧ twA (fxAuth a s d ++ r) 4 = d := by
  unfold fxAuth
  rw [wr3, List.nil_append]
  refine ⟨?_, ?_, ?_⟩
  · rw [List.append_assoc, List.append_assoc]
    exact two_at [] _ ha rfl
  · rw [List.append_assoc, List.append_assoc]
    exact two_at (le2 a) _ hs (le2_length a)
  · rw [List.append_assoc]
    exact two_at (le2 a ++ le2 s) _ hd (by rw [List.length_append, le2_length, le2_length])
theorem beacon_nums {m i c : Nat} (hm : m < 18446744073709551616) (hi : i < 65536) (hc : c < 65536) (r : List UInt8) : e8 (fxBeacon m i c ++ r) 0 = m ∧ twA (fxBeacon m i c ++ r) 8 = i ∧ twA (fxBeacon m i c ++ r) 10 = c := by
  unfold fxBeacon
  rw [wr2]
  refine ⟨?_, ?_, ?_⟩
  · rw [List.append_assoc, List.append_assoc]
    exact e8_at (p := []) hm
  · rw [List.append_assoc, List.append_assoc]
    exact two_at (C01.leB 8 m) _ hi (C01.leB_length 8 m)
  · rw [List.append_assoc]
    exact two_at (C01.leB 8 m ++ le2 i) _ hc (by rw [List.length_append, le2_length, C01.leB_length])
theorem resp_nums {c s a : Nat} (hc : c < 65536) (hs : s < 65536) (ha : a < 65536) (r : List UInt8) : twA (fxResp c s a ++ r) 0 = c ∧ twA (fxResp c s a ++ r) 2 = s ∧ twA (fxResp c s a ++ r) 4 = a := auth_nums hc hs ha r
theorem req_nums {c l : Nat} (again : Bool) (old : A6) (hc : c < 65536) (hl : l < 65536) (r : List UInt8) : twA (fxReq c l again old ++ r) 0 = c ∧ twA (fxReq c l again old ++ r) 2 = l ∧ (again = true → a6l (((fxReq c l again old ++ r).drop 4).take 6) = old) := by
  unfold fxReq
  rw [wr2, List.nil_append]
  refine ⟨?_, ?_, fun h => ?_⟩
  · rw [List.append_assoc, List.append_assoc]
    exact two_at [] _ hc rfl
  · rw [List.append_assoc, List.append_assoc]
    exact two_at (le2 c) _ hl (le2_length c)
  · subst h
    have h4 : (le2 c ++ le2 l).length = 4 := by rw [List.length_append, le2_length, le2_length]
    rw [show (bif true then old.bytes else []) = old.bytes from rfl, List.append_assoc, ← h4, List.drop_left]
    rfl
theorem bar_nums {t f : Int} (h : stP t f = false) : stN t f < 65536 ∧ ((stN t f % 8 : Nat) : Int) = t ∧ ((stN t f / 16 : Nat) : Int) = f ∧ ¬ stN t f / 8 % 2 = 1 := by
  obtain ⟨h1, h2, h3, h4⟩ := st_ok h
  unfold stN
  omega
theorem bar_back {t f : Int} (h : stP t f = false) : bgE (baY t f) 2 = 0 ∧ twA (baY t f) 0 = stN t f := by
  obtain ⟨h1, -, -, h4⟩ := bar_nums h
  have hY : baY t f = le2 (stN t f) := if_neg (by rw [h]; exact Bool.false_ne_true)
  have ht : twA (le2 (stN t f)) 0 = stN t f := by have := two_at [] [] h1 rfl; rw [List.append_nil] at this; exact this
  rw [hY]
  refine ⟨?_, ht⟩
  unfold bgE
  rw [ht, le2_length, if_neg h4, if_pos rfl]
  decide
theorem back_back {t f : Int} {n : Nat} (h : stP t f = false) (hn : n < 18446744073709551616) : bgE (bkY t f n) 10 = 0 ∧ twA (bkY t f n) 0 = stN t f ∧ e8 (bkY t f n) 2 = n := by
  obtain ⟨h1, -, -, h4⟩ := bar_nums h
  have hY : bkY t f n = le2 (stN t f) ++ C01.leB 8 n := if_neg (by rw [h]; exact Bool.false_ne_true)
  have ht : twA (le2 (stN t f) ++ C01.leB 8 n) 0 = stN t f := two_at [] _ h1 rfl
  rw [hY]
  refine ⟨?_, ht, ?_⟩
  · unfold bgE
    rw [ht, List.length_append, le2_length, C01.leB_length, if_neg h4, if_pos rfl]
    decide
  · have := e8_at (p := le2 (stN t f)) (r := []) hn
    rw [List.append_nil, le2_length] at this
    exact this
end Go.Proofs.Ytoohgnegoaoleaa
