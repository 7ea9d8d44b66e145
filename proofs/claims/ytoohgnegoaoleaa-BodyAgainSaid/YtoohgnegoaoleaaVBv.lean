/-
  Bodies that are decoded, encoded again: plain law.
-/
import Derived.Test.YtoohgnegoaoleaaVBs
namespace Go.Proofs.Ytoohgnegoaoleaa
open Go Go.RowKit Go.Hs
theorem twA_lt (xs : List UInt8) (k : Nat) : twA xs k < 65536 := by
  have h0 := (xs.getD k 0).toNat_lt
  have h1 := (xs.getD (k + 1) 0).toNat_lt
  unfold twA
  omega
theorem z0_lt {e : Int} {n m : Nat} (h : n < m) : z0 e n < m := by
  unfold z0; split
  · exact h
  · omega
theorem e8_lt (xs : List UInt8) (k : Nat) : e8 xs k < 18446744073709551616 := by
  unfold e8
  have h := C01.leN_lt ((xs.drop k).take 8)
  have h2 : ((xs.drop k).take 8).length ≤ 8 := by rw [List.length_take]; omega
  have h3 : (256 : Nat) ^ ((xs.drop k).take 8).length ≤ 256 ^ 8 := Nat.pow_le_pow_right (by decide) h2
  have h4 : (256 : Nat) ^ 8 = 18446744073709551616 := by decide
  omega
theorem le_ofs (x y : UInt8) : le2 (x.toNat + 256 * y.toNat) = [x, y] := by
  have hx := x.toNat_lt
  rw [le2_eq]
  congr 1
  · apply UInt8.toNat_inj.mp
    rw [UInt8.toNat_ofNat']
    omega
  · congr 1
    rw [show (x.toNat + 256 * y.toNat) / 256 = y.toNat by omega]
    exact UInt8.ofNat_toNat
theorem le_tw (xs : List UInt8) (k : Nat) (h : k + 2 ≤ xs.length) : le2 (twA xs k) = (xs.drop k).take 2 := by
  unfold twA
  rw [le_ofs]
  have h1 : xs.drop k = xs[k] :: xs.drop (k + 1) := List.drop_eq_getElem_cons (by omega)
  have h2 : xs.drop (k + 1) = xs[k + 1] :: xs.drop (k + 2) := List.drop_eq_getElem_cons (by omega)
  rw [h1, h2, List.getD_eq_getElem?_getD, List.getElem?_eq_getElem (by omega), List.getD_eq_getElem?_getD, List.getElem?_eq_getElem (by omega)]
  rfl
theorem leB_leN : ∀ (l : List UInt8), C01.leB l.length (C01.leN l) = l
  | [] => rfl
  | b :: r => by
    have hb := b.toNat_lt
    have ih := leB_leN r
    have e : ∀ n v, C01.leB (n + 1) v = UInt8.ofNat v :: C01.leB n (v / 256) := fun n v => by
      unfold C01.leB
      rw [List.range_succ_eq_map, List.map_cons, List.map_map]
      congr 1
      · rw [Nat.pow_zero, Nat.div_one]
      · apply List.map_congr_left
        intro i _
        show UInt8.ofNat (v / 256 ^ (i + 1)) = UInt8.ofNat (v / 256 / 256 ^ i)
        rw [Nat.pow_succ, Nat.mul_comm, Nat.div_div_eq_div_mul]
    show C01.leB (r.length + 1) (b.toNat + 256 * C01.leN r) = _
    rw [e, show (b.toNat + 256 * C01.leN r) / 256 = C01.leN r by omega, ih]
    congr 1
    apply UInt8.toNat_inj.mp
    rw [UInt8.toNat_ofNat']
    omega
theorem le_e8 (xs : List UInt8) (k : Nat) (h : k + 8 ≤ xs.length) : C01.leB 8 (e8 xs k) = (xs.drop k).take 8 := by
  unfold e8
  have hl : ((xs.drop k).take 8).length = 8 := by rw [List.length_take, List.length_drop]; omega
  have := leB_leN ((xs.drop k).take 8)
  rw [hl] at this
  exact this
theorem dr_0 {b : List UInt8} {n : Nat} (h : drE b n = 0) : n ≤ b.length ∧ b.length ≤ 2304 ∧ C04.chk (drF b n) = 0 ∧ C04.enc (drF b n) = b.drop n := by
  have hf : frE b.length n = 0 := by
    unfold drE at h
    by_cases c : frE b.length n = 0
    · exact c
    · rw [if_neg c] at h; exact absurd h c
  have hd : dlE (b.drop n) = 0 := by unfold drE at h; rw [if_pos hf] at h; exact h
  obtain ⟨h1, h2⟩ := frE_0 hf
  have hF : drF b n = dlF (b.drop n) := if_pos h
  have hq : C04.dec (b.drop n).length (b.drop n) 1 0 = (dlF (b.drop n), (C04.dec (b.drop n).length (b.drop n) 1 0).2.1, 0) := by
    unfold dlF
    have : (C04.dec (b.drop n).length (b.drop n) 1 0).2.2 = 0 := hd
    rw [← this]
  obtain ⟨g1, g2⟩ := C04.dec_ok hq
  rw [hF]
  exact ⟨h2, h1, g2, g1⟩
theorem dr_sm (b : List UInt8) (n : Nat) : C04.Sm (drF b n) := by
  by_cases h : drE b n = 0
  · obtain ⟨h1, h2, h3, h4⟩ := dr_0 h
    exact C04.chk_sm h3 (by rw [h4, List.length_drop]; omega)
  · rw [drF_bad h]; exact sm_nil
theorem fi_again {b fx : List UInt8} {n : Nat} (h : drE b n = 0) (hx : fx = b.take n) : fiE fx (drF b n) = 0 ∧ fiY fx (drF b n) = b := by
  obtain ⟨h1, h2, h3, h4⟩ := dr_0 h
  have e : fiE fx (drF b n) = 0 := by
    unfold fiE edE
    rw [if_pos h3, h4, hx, List.length_take, List.length_drop, if_neg (by omega)]
  exact ⟨e, by rw [fiY_ok e, hx, h4, List.take_append_drop]⟩
theorem tk2 (b : List UInt8) (k m : Nat) : b.take (k + m) = b.take k ++ (b.drop k).take m := List.take_add ..
theorem reason_again {b : List UInt8} (h : drE b 2 = 0) : fiE (fxReason (z0 (drE b 2) (twA b 0))) (drF b 2) = 0 ∧ fiY (fxReason (z0 (drE b 2) (twA b 0))) (drF b 2) = b := by
  obtain ⟨h1, -, -, -⟩ := dr_0 h
  refine fi_again h ?_
  rw [z0_ok h]
  unfold fxReason
  rw [wr1, List.nil_append, le_tw b 0 (by omega)]
  rfl
theorem auth_again {b : List UInt8} (h : drE b 6 = 0) : fiE (fxAuth (z0 (drE b 6) (twA b 0)) (z0 (drE b 6) (twA b 2)) (z0 (drE b 6) (twA b 4))) (drF b 6) = 0 ∧ fiY (fxAuth (z0 (drE b 6) (twA b 0)) (z0 (drE b 6) (twA b 2)) (z0 (drE b 6) (twA b 4))) (drF b 6) = b := by
  obtain ⟨h1, -, -, -⟩ := dr_0 h
  refine fi_again h ?_
  rw [z0_ok h, z0_ok h, z0_ok h]
  unfold fxAuth
  rw [wr3, List.nil_append, le_tw b 0 (by omega), le_tw b 2 (by omega), le_tw b 4 (by omega), show (6 : Nat) = 4 + 2 from rfl, tk2 b 4 2, show (4 : Nat) = 2 + 2 from rfl, tk2 b 2 2]
  rfl
theorem beacon_again {b : List UInt8} (h : drE b 12 = 0) : fiE (fxBeacon (z0 (drE b 12) (e8 b 0)) (z0 (drE b 12) (twA b 8)) (z0 (drE b 12) (twA b 10))) (drF b 12) = 0 ∧ fiY (fxBeacon (z0 (drE b 12) (e8 b 0)) (z0 (drE b 12) (twA b 8)) (z0 (drE b 12) (twA b 10))) (drF b 12) = b := by
  obtain ⟨h1, -, -, -⟩ := dr_0 h
  refine fi_again h ?_
  rw [z0_ok h, z0_ok h, z0_ok h]
  unfold fxBeacon
  rw [wr2, le_e8 b 0 (by omega), le_tw b 8 (by omega), le_tw b 10 (by omega), show (12 : Nat) = 10 + 2 from rfl, tk2 b 10 2, show (10 : Nat) = 8 + 2 from rfl, tk2 b 8 2]
  rfl
theorem a6l_bytes {l : List UInt8} (h : l.length = 6) : (a6l l).bytes = l := by
  match l, h with
  | [_, _, _, _, _, _], _ => rfl
theorem req_again {b : List UInt8} (g : Bool) (h : drE b (rqN g) = 0) : rqE (z0 (drE b (rqN g)) (twA b 0)) (z0 (drE b (rqN g)) (twA b 2)) g (rqO b g) (drF b (rqN g)) = 0 ∧ rqY (z0 (drE b (rqN g)) (twA b 0)) (z0 (drE b (rqN g)) (twA b 2)) g (rqO b g) (drF b (rqN g)) = b := by
  obtain ⟨h1, -, -, -⟩ := dr_0 h
  rw [z0_ok h, z0_ok h]
  cases g with
  | false =>
    have h1 : 4 ≤ b.length := h1
    have hO : rqO b false = zA6 := if_neg (fun k => Bool.noConfusion k.2)
    have hp : ¬ rqP false (rqO b false) = true := by rw [hO]; unfold rqP; rw [decide_eq_true rfl]; exact Bool.noConfusion
    unfold rqE rqY
    rw [if_neg hp, if_neg hp]
    refine fi_again h ?_
    show wr [] [twA b 0, twA b 2] 2 ++ [] = b.take 4
    rw [List.append_nil, wr2, List.nil_append, le_tw b 0 (by omega), le_tw b 2 (by omega), show (4 : Nat) = 2 + 2 from rfl, tk2 b 2 2]
    rfl
  | true =>
    have h1 : 10 ≤ b.length := h1
    have hO : rqO b true = a6l ((b.drop 4).take 6) := if_pos ⟨h, rfl⟩
    have hp : ¬ rqP true (rqO b true) = true := Bool.noConfusion
    unfold rqE rqY
    rw [if_neg hp, if_neg hp, hO]
    refine fi_again h ?_
    show wr [] [twA b 0, twA b 2] 2 ++ (a6l ((b.drop 4).take 6)).bytes = b.take 10
    rw [a6l_bytes (by rw [List.length_take, List.length_drop]; omega), wr2, List.nil_append, le_tw b 0 (by omega), le_tw b 2 (by omega), show (10 : Nat) = 4 + 6 from rfl, tk2 b 4 6, show (4 : Nat) = 2 + 2 from rfl, tk2 b 2 2]
    rfl
theorem rp_0 {b : List UInt8} (h : rpE b = 0) : drE b 6 = 0 ∧ ¬ 255 < twA b 4 ∧ rpF b = drF b 6 := by
  have h' := h
  unfold rpE at h
  by_cases c : frE b.length 6 = 0 ∧ 255 < twA b 4
  · rw [if_pos c] at h; cases h
  · rw [if_neg c] at h
    have hf : frE b.length 6 = 0 := by
      unfold drE at h
      by_cases c : frE b.length 6 = 0
      · exact c
      · rw [if_neg c] at h; exact absurd h c
    refine ⟨h, fun k => c ⟨hf, k⟩, ?_⟩
    unfold rpF drF
    rw [if_pos h', if_pos h]
theorem rp_sm (b : List UInt8) : C04.Sm (rpF b) := by
  by_cases h : rpE b = 0
  · rw [(rp_0 h).2.2]; exact dr_sm b 6
  · rw [show rpF b = .nil from if_neg h]; exact sm_nil
theorem resp_again {b : List UInt8} (h : rpE b = 0) : rsE (z0 (rpE b) (twA b 0)) (z0 (rpE b) (twA b 2)) ((z0 (rpE b) (twA b 4) : Nat) : Int) (rpF b) = 0 ∧ rsY (z0 (rpE b) (twA b 0)) (z0 (rpE b) (twA b 2)) ((z0 (rpE b) (twA b 4) : Nat) : Int) (rpF b) = b := by
  obtain ⟨h0, h2, h3⟩ := rp_0 h
  obtain ⟨h1, -, -, -⟩ := dr_0 h0
  rw [z0_ok h, z0_ok h, z0_ok h, h3]
  have hp : ¬ rsP ((twA b 4 : Nat) : Int) = true := by
    unfold rsP
    rw [decide_eq_false (by omega), decide_eq_false (by omega)]
    exact Bool.noConfusion
  unfold rsE rsY
  rw [if_neg hp, if_neg hp, Int.toNat_natCast]
  refine fi_again h0 ?_
  unfold fxResp
  rw [wr3, List.nil_append, le_tw b 0 (by omega), le_tw b 2 (by omega), le_tw b 4 (by omega), show (6 : Nat) = 4 + 2 from rfl, tk2 b 4 2, show (4 : Nat) = 2 + 2 from rfl, tk2 b 2 2]
  rfl
theorem action_again {b : List UInt8} (h : frE b.length 3 = 0) : edE 3 (acD b).length = 0 ∧ edY (acF (acB b 0) (acB b 1) (acB b 2)) (acD b) = b := by
  obtain ⟨h1, h2⟩ := frE_0 h
  have hD : acD b = b.drop 3 := if_pos h
  have e : edE 3 (acD b).length = 0 := by rw [hD, List.length_drop]; exact if_neg (by omega)
  refine ⟨e, ?_⟩
  rw [show edY (acF (acB b 0) (acB b 1) (acB b 2)) (acD b) = acF (acB b 0) (acB b 1) (acB b 2) ++ acD b from if_pos e, acB_ok h, acB_ok h, acB_ok h, hD]
  match b, h2 with
  | x :: y :: z :: r, _ => rfl
theorem bg_0 {b : List UInt8} {n : Nat} (h : bgE b n = 0) : b.length = n ∧ ¬ twA b 0 / 8 % 2 = 1 := by
  unfold bgE at h
  by_cases c : frE b.length n = 0
  · rw [if_pos c] at h
    by_cases d : twA b 0 / 8 % 2 = 1
    · rw [if_pos d] at h; cases h
    · rw [if_neg d] at h
      by_cases e : b.length = n
      · exact ⟨e, d⟩
      · rw [if_neg e] at h; cases h
  · rw [if_neg c] at h; exact absurd h c
theorem st_again {v : Nat} (hv : v < 65536) (hb : ¬ v / 8 % 2 = 1) : stP ((v % 8 : Nat) : Int) ((v / 16 : Nat) : Int) = false ∧ stN ((v % 8 : Nat) : Int) ((v / 16 : Nat) : Int) = v := by
  constructor
  · unfold stP
    rw [decide_eq_false (by omega), decide_eq_false (by omega), decide_eq_false (by omega), decide_eq_false (by omega)]
    rfl
  · unfold stN
    omega
theorem bar_again {b : List UInt8} (h : bgE b 2 = 0) : stE (z0I (bgE b 2) (twA b 0 % 8)) (z0I (bgE b 2) (twA b 0 / 16)) = 0 ∧ baY (z0I (bgE b 2) (twA b 0 % 8)) (z0I (bgE b 2) (twA b 0 / 16)) = b := by
  obtain ⟨h1, h2⟩ := bg_0 h
  obtain ⟨s1, s2⟩ := st_again (twA_lt b 0) h2
  unfold z0I
  rw [if_pos h, if_pos h]
  unfold stE baY
  rw [s1, s2, if_neg Bool.false_ne_true, if_neg Bool.false_ne_true, le_tw b 0 (by omega)]
  refine ⟨rfl, ?_⟩
  rw [List.drop_zero, List.take_of_length_le (by omega)]
theorem back_again {b : List UInt8} (h : bgE b 10 = 0) : stE (z0I (bgE b 10) (twA b 0 % 8)) (z0I (bgE b 10) (twA b 0 / 16)) = 0 ∧ bkY (z0I (bgE b 10) (twA b 0 % 8)) (z0I (bgE b 10) (twA b 0 / 16)) (z0 (bgE b 10) (e8 b 2)) = b := by
  obtain ⟨h1, h2⟩ := bg_0 h
  obtain ⟨s1, s2⟩ := st_again (twA_lt b 0) h2
  unfold z0I
  rw [if_pos h, if_pos h, z0_ok h]
  unfold stE bkY
  rw [s1, s2, if_neg Bool.false_ne_true, if_neg Bool.false_ne_true, le_tw b 0 (by omega), le_e8 b 2 (by omega)]
  refine ⟨rfl, ?_⟩
  rw [List.drop_zero, List.take_of_length_le (l := b.drop 2) (by rw [List.length_drop]; omega), List.take_append_drop]
end Go.Proofs.Ytoohgnegoaoleaa
