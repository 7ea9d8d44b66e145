/-
  Bodies of each kind, encoded and decoded: plain law.
-/
import Derived.Test.YtoohgnegoaoleaaVBr
namespace Go.Proofs.Ytoohgnegoaoleaa
open Go Go.RowKit Go.Hs
theorem fiY_len (bs : List UInt8) (f : Fo) : (fiY bs f).length ≤ 2304 := by
  by_cases h : fiE bs f = 0
  · rw [fiY_ok h, List.length_append]; exact (fiE_le h).2
  · rw [show fiY bs f = [] from if_neg h]; exact Nat.zero_le _
theorem rqY_len (c l : Nat) (g : Bool) (o : A6) (f : Fo) : (rqY c l g o f).length ≤ 2304 := by
  unfold rqY; split
  · exact Nat.zero_le _
  · exact fiY_len _ _
theorem rsY_len (c s : Nat) (a : Int) (f : Fo) : (rsY c s a f).length ≤ 2304 := by
  unfold rsY; split
  · exact Nat.zero_le _
  · exact fiY_len _ _
theorem edY_len (bs cs : List UInt8) : (edY bs cs).length ≤ 2304 := by
  unfold edY edE
  by_cases h : 2304 < bs.length + cs.length
  · rw [if_pos h, if_neg (by decide)]; exact Nat.zero_le _
  · rw [if_neg h, if_pos rfl, List.length_append]; omega
theorem baY_len (t f : Int) : (baY t f).length ≤ 2304 := by
  unfold baY; split
  · exact Nat.zero_le _
  · rw [le2_length]; decide
theorem bkY_len (t f : Int) (n : Nat) : (bkY t f n).length ≤ 2304 := by
  unfold bkY; split
  · exact Nat.zero_le _
  · rw [List.length_append, le2_length, C01.leB_length]; decide
theorem beacon_ok {m i c : Nat} {f : Fo} (hm : m < 18446744073709551616) (hi : i < 65536) (hc : c < 65536) (h : fiE (fxBeacon m i c) f = 0) : drE (fiY (fxBeacon m i c) f) 12 = 0 ∧ drF (fiY (fxBeacon m i c) f) 12 = f ∧
    z0 (drE (fiY (fxBeacon m i c) f) 12) (e8 (fiY (fxBeacon m i c) f) 0) = m ∧ z0 (drE (fiY (fxBeacon m i c) f) 12) (twA (fiY (fxBeacon m i c) f) 8) = i ∧ z0 (drE (fiY (fxBeacon m i c) f) 12) (twA (fiY (fxBeacon m i c) f) 10) = c := by
  obtain ⟨b1, b2⟩ := el_back h
  rw [beacon_len] at b1 b2
  obtain ⟨n1, n2, n3⟩ := beacon_nums hm hi hc (C04.enc f)
  rw [← fiY_ok h] at n1 n2 n3
  rw [b1, b2, z0_ok rfl, z0_ok rfl, z0_ok rfl]
  exact ⟨rfl, rfl, n1, n2, n3⟩
theorem auth_ok {a s d : Nat} {f : Fo} (ha : a < 65536) (hs : s < 65536) (hd : d < 65536) (h : fiE (fxAuth a s d) f = 0) : drE (fiY (fxAuth a s d) f) 6 = 0 ∧ drF (fiY (fxAuth a s d) f) 6 = f ∧
    z0 (drE (fiY (fxAuth a s d) f) 6) (twA (fiY (fxAuth a s d) f) 0) = a ∧ z0 (drE (fiY (fxAuth a s d) f) 6) (twA (fiY (fxAuth a s d) f) 2) = s ∧ z0 (drE (fiY (fxAuth a s d) f) 6) (twA (fiY (fxAuth a s d) f) 4) = d := by
  obtain ⟨b1, b2⟩ := el_back h
  rw [auth_len] at b1 b2
  obtain ⟨n1, n2, n3⟩ := auth_nums ha hs hd (C04.enc f)
  rw [← fiY_ok h] at n1 n2 n3
  rw [b1, b2, z0_ok rfl, z0_ok rfl, z0_ok rfl]
  exact ⟨rfl, rfl, n1, n2, n3⟩
theorem reason_ok {c : Nat} {f : Fo} (hc : c < 65536) (h : fiE (fxReason c) f = 0) : drE (fiY (fxReason c) f) 2 = 0 ∧ drF (fiY (fxReason c) f) 2 = f ∧ z0 (drE (fiY (fxReason c) f) 2) (twA (fiY (fxReason c) f) 0) = c := by
  obtain ⟨b1, b2⟩ := el_back h
  rw [reason_len] at b1 b2
  have n1 := reason_nums hc (C04.enc f)
  rw [← fiY_ok h] at n1
  rw [b1, b2, z0_ok rfl]
  exact ⟨rfl, rfl, n1⟩
theorem req_ok {c l : Nat} {g : Bool} {o : A6} {f : Fo} (hc : c < 65536) (hl : l < 65536) (h : rqE c l g o f = 0) : drE (rqY c l g o f) (rqN g) = 0 ∧ drF (rqY c l g o f) (rqN g) = f ∧ rqO (rqY c l g o f) g = o ∧
    z0 (drE (rqY c l g o f) (rqN g)) (twA (rqY c l g o f) 0) = c ∧ z0 (drE (rqY c l g o f) (rqN g)) (twA (rqY c l g o f) 2) = l := by
  unfold rqE at h
  by_cases hp : rqP g o = true
  · rw [if_pos hp] at h; cases h
  rw [if_neg hp] at h
  have hY : rqY c l g o f = fiY (fxReq c l g o) f := if_neg hp
  rw [hY]
  obtain ⟨b1, b2⟩ := el_back h
  rw [req_len] at b1 b2
  obtain ⟨n1, n2, n3⟩ := req_nums g o hc hl (C04.enc f)
  rw [← fiY_ok h] at n1 n2 n3
  have hO : rqO (fiY (fxReq c l g o) f) g = o := by
    unfold rqO
    cases g with
    | true => rw [if_pos ⟨b1, rfl⟩]; exact n3 rfl
    | false =>
      rw [if_neg (fun k => Bool.noConfusion k.2)]
      unfold rqP at hp
      by_cases ho : o = zA6
      · exact ho.symm
      · rw [decide_eq_false ho] at hp; exact absurd rfl hp
  rw [b1, b2, z0_ok rfl, z0_ok rfl]
  exact ⟨rfl, rfl, hO, n1, n2⟩
theorem resp_ok {c s : Nat} {a : Int} {f : Fo} (hc : c < 65536) (hs : s < 65536) (h : rsE c s a f = 0) : rpE (rsY c s a f) = 0 ∧ rpF (rsY c s a f) = f ∧
    z0 (rpE (rsY c s a f)) (twA (rsY c s a f) 0) = c ∧ z0 (rpE (rsY c s a f)) (twA (rsY c s a f) 2) = s ∧ ((z0 (rpE (rsY c s a f)) (twA (rsY c s a f) 4) : Nat) : Int) = a := by
  unfold rsE at h
  by_cases hp : rsP a = true
  · rw [if_pos hp] at h; cases h
  rw [if_neg hp] at h
  have hY : rsY c s a f = fiY (fxResp c s a.toNat) f := if_neg hp
  have hr : 0 ≤ a ∧ a ≤ 255 := by
    unfold rsP at hp
    by_cases c1 : a < 0
    · rw [decide_eq_true c1] at hp; exact absurd rfl hp
    · by_cases c2 : 255 < a
      · rw [decide_eq_true c2, Bool.or_true] at hp; exact absurd rfl hp
      · omega
  rw [hY]
  obtain ⟨b1, b2⟩ := el_back h
  rw [resp_len] at b1 b2
  obtain ⟨n1, n2, n3⟩ := resp_nums hc hs (show a.toNat < 65536 by omega) (C04.enc f)
  rw [← fiY_ok h] at n1 n2 n3
  have e1 : rpE (fiY (fxResp c s a.toNat) f) = 0 := by
    unfold rpE
    rw [if_neg (fun k => by rw [n3] at k; omega)]
    exact b1
  have e2 : rpF (fiY (fxResp c s a.toNat) f) = f := by
    unfold rpF
    rw [if_pos e1]
    unfold drF at b2
    rw [if_pos b1] at b2
    exact b2
  rw [e1, e2, z0_ok rfl, z0_ok rfl, z0_ok rfl, n3]
  exact ⟨rfl, rfl, n1, n2, by omega⟩
theorem action_ok {c k t : UInt8} {ds : List UInt8} (h : edE 3 ds.length = 0) : frE (edY (acF c k t) ds).length 3 = 0 ∧ acB (edY (acF c k t) ds) 0 = c ∧ acB (edY (acF c k t) ds) 1 = k ∧ acB (edY (acF c k t) ds) 2 = t ∧ acD (edY (acF c k t) ds) = ds := by
  have hY : edY (acF c k t) ds = acF c k t ++ ds := if_pos h
  have hl : 3 + ds.length ≤ 2304 := by
    unfold edE at h
    by_cases c1 : 2304 < 3 + ds.length
    · rw [if_pos c1] at h; cases h
    · omega
  rw [hY]
  have e : frE (acF c k t ++ ds).length 3 = 0 := by
    unfold frE
    rw [List.length_append, show (acF c k t).length = 3 from rfl, if_neg (by omega), if_neg (by omega)]
  refine ⟨e, ?_, ?_, ?_, ?_⟩
  · rw [acB_ok e]; rfl
  · rw [acB_ok e]; rfl
  · rw [acB_ok e]; rfl
  · unfold acD; rw [if_pos e]; rfl
theorem stE_0 {t f : Int} (h : stE t f = 0) : stP t f = false := by
  unfold stE at h
  cases hp : stP t f with
  | false => rfl
  | true => rw [hp, if_pos rfl] at h; cases h
theorem bar_ok {t f : Int} (h : stE t f = 0) : bgE (baY t f) 2 = 0 ∧ z0I (bgE (baY t f) 2) (twA (baY t f) 0 % 8) = t ∧ z0I (bgE (baY t f) 2) (twA (baY t f) 0 / 16) = f := by
  obtain ⟨e1, e2⟩ := bar_back (stE_0 h)
  obtain ⟨-, h2, h3, -⟩ := bar_nums (stE_0 h)
  unfold z0I
  rw [e1, e2, if_pos rfl, if_pos rfl]
  exact ⟨rfl, h2, h3⟩
theorem back_ok {t f : Int} {n : Nat} (hn : n < 18446744073709551616) (h : stE t f = 0) : bgE (bkY t f n) 10 = 0 ∧ z0I (bgE (bkY t f n) 10) (twA (bkY t f n) 0 % 8) = t ∧ z0I (bgE (bkY t f n) 10) (twA (bkY t f n) 0 / 16) = f ∧ z0 (bgE (bkY t f n) 10) (e8 (bkY t f n) 2) = n := by
  obtain ⟨e1, e2, e3⟩ := back_back (stE_0 h) hn
  obtain ⟨-, h2, h3, -⟩ := bar_nums (stE_0 h)
  unfold z0I
  rw [e1, e2, e3, if_pos rfl, if_pos rfl, z0_ok rfl]
  exact ⟨rfl, h2, h3, rfl⟩
end Go.Proofs.Ytoohgnegoaoleaa
