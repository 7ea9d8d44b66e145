/-
  What the cursor's parts are, by places: plain law.
-/
import Derived.Test.YtbdcpahifcbcfaaVGs
namespace Go.Proofs.Ytbdcpahifcbcfaa
open Go Go.RowKit Go.Hs
def tw (ys : List UInt8) (k : Nat) : Nat := (ys.getD k 0).toNat + 256 * (ys.getD (k + 1) 0).toNat
def aAt (ys : List UInt8) (k : Nat) : A6 := ⟨ys.getD k 0, ys.getD (k + 1) 0, ys.getD (k + 2) 0, ys.getD (k + 3) 0, ys.getD (k + 4) 0, ys.getD (k + 5) 0⟩
theorem tw_lt (ys : List UInt8) (k : Nat) : tw ys k < 65536 := by
  have h0 := (ys.getD k 0).toNat_lt
  have h1 := (ys.getD (k + 1) 0).toNat_lt
  unfold tw
  omega
theorem getD_dt (ys : List UInt8) (k n i : Nat) (h : i < n) : ((ys.drop k).take n).getD i 0 = ys.getD (k + i) 0 := by
  rw [List.getD_eq_getElem?_getD, List.getD_eq_getElem?_getD, List.getElem?_take_of_lt h, List.getElem?_drop]
theorem c2N_at (ys : List UInt8) (k : Nat) (h : k + 2 ≤ ys.length) : c2N (tkV (at_ ys k) 2) = tw ys k := by
  rw [at_val _ _ _ h]
  unfold c2N tw
  rw [getD_dt _ _ _ _ (by decide), getD_dt _ _ _ _ (by decide)]
  rfl
theorem a6v_at (ys : List UInt8) (k : Nat) (h : k + 6 ≤ ys.length) : a6v (tkV (at_ ys k) 6) = aAt ys k := by
  rw [at_val _ _ _ h]
  unfold a6v aAt
  rw [getD_dt _ _ _ _ (by decide), getD_dt _ _ _ _ (by decide), getD_dt _ _ _ _ (by decide), getD_dt _ _ _ _ (by decide), getD_dt _ _ _ _ (by decide), getD_dt _ _ _ _ (by decide)]
  rfl
theorem dB_at (ys : List UInt8) (i : Nat) (hi : i < 2) (h : 2 ≤ ys.length) : dB ys i = ys.getD i 0 := by
  unfold dB
  rw [show (ys, false) = at_ ys 0 by unfold at_; rw [if_pos (Nat.zero_le _)]; rfl, at_val _ _ _ (by omega), getD_dt _ _ _ _ hi, Nat.zero_add]
/-- the header that stands at the front of a list. -/
def hG (ys : List UInt8) (a : Hd) : Hd :=
  { a with
    dur := (tw ys 2 : Int)
    a1 := aAt ys 4
    a2 := bif !ctsB a then aAt ys 10 else a.a2
    a3 := bif !ctlB a then aAt ys 16 else a.a3
    a4 := bif fourB a then aAt ys 24 else a.a4
    seq := bif prtB a.kind then ((tw ys 22 / 16 : Nat) : Int) else a.seq
    frag := bif prtB a.kind then ((tw ys 22 % 16 : Nat) : Int) else a.frag
    tid := bif trafB a.kind a.sub then ((tw ys (hdS a - 2) % 8 : Nat) : Int) else a.tid
    eosp := bif trafB a.kind a.sub then flq (tw ys (hdS a - 2)) 4 else a.eosp
    ack := bif trafB a.kind a.sub then UInt8.ofNat (tw ys (hdS a - 2) / 32 % 4) else a.ack
    amsdu := bif trafB a.kind a.sub then flq (tw ys (hdS a - 2)) 7 else a.amsdu }
theorem kn_kind {k s : UInt8} (h : knB k s = true) : k.toNat = 0 ∨ k.toNat = 1 ∨ k.toNat = 2 := by
  unfold knB at h
  by_cases h0 : k.toNat = 0
  · exact .inl h0
  · rw [if_neg h0] at h
    by_cases h1 : k.toNat = 1
    · exact .inr (.inl h1)
    · rw [if_neg h1] at h
      by_cases h2 : k.toNat = 2
      · exact .inr (.inr h2)
      · rw [if_neg h2] at h; cases h
theorem hF_at (ys : List UInt8) (hk : knB (hA ys).kind (hA ys).sub = true) (hn : hdS (hA ys) ≤ ys.length) : hF ys = hG ys (hA ys) ∧ oddB ys = (trB ys && oddV (tw ys (hdS (hA ys) - 2))) := by
  have e1 : tkV (s1 ys) 2 = tkV (at_ ys 2) 2 := by rw [s1_at]
  have hB_ : hB ys = setD (hA ys) (c2N (tkV (at_ ys 2) 2)) := by unfold hB; rw [s1_at]
  have hC_ : hC ys = adH (at_ ys 4) (hB ys) (befN (hA ys)) := by unfold hC; rw [s2_at]
  have hD_ : hD ys = stH (prtB (hA ys).kind) (at_ ys (4 + 6 * befN (hA ys))) (hC ys) := by unfold hD; rw [s3_at]
  have hE_ : hE ys = ftH (fourB (hA ys)) (at_ ys (4 + 6 * befN (hA ys) + bN (prtB (hA ys).kind) 2)) (hD ys) := by unfold hE; rw [s4_at]
  have hF_ : hF ys = qtH (trB ys) (at_ ys (hdS (hA ys) - 2)) (hE ys) ∧ oddB ys = oddP (trB ys) (at_ ys (hdS (hA ys) - 2)) := by
    unfold hF oddB
    rw [s5_at]
    have : trB ys = trafB (hA ys).kind (hA ys).sub := rfl
    cases ht : trB ys
    · exact ⟨rfl, rfl⟩
    · rw [show 4 + 6 * befN (hA ys) + bN (prtB (hA ys).kind) 2 + bN (fourB (hA ys)) 6 = hdS (hA ys) - 2 by unfold hdS; rw [← this, ht]; rfl]
      exact ⟨rfl, rfl⟩
  have hS : hdS (hA ys) = 4 + 6 * befN (hA ys) + bN (prtB (hA ys).kind) 2 + bN (fourB (hA ys)) 6 + bN (trB ys) 2 := rfl
  rw [hF_.1, hF_.2, hE_, hD_, hC_, hB_]
  have hkk := kn_kind hk
  have h3 : (ctsB (hA ys) = true ∧ ctlB (hA ys) = true ∧ befN (hA ys) = 1 ∧ prtB (hA ys).kind = false ∧ fourB (hA ys) = false ∧ trB ys = false) ∨
    (ctsB (hA ys) = false ∧ ctlB (hA ys) = true ∧ befN (hA ys) = 2 ∧ prtB (hA ys).kind = false ∧ fourB (hA ys) = false ∧ trB ys = false) ∨
    (ctsB (hA ys) = false ∧ ctlB (hA ys) = false ∧ befN (hA ys) = 3 ∧ prtB (hA ys).kind = true) := by
    unfold befN ctsB ctlB prtB fourB trB trafB
    rcases hkk with k | k | k
    · refine .inr (.inr ?_); rw [k]; exact ⟨rfl, rfl, rfl, rfl⟩
    · rw [k]
      by_cases d : (hA ys).sub.toNat = 12 ∨ (hA ys).sub.toNat = 13
      · refine .inl ?_
        rw [decide_eq_true (show 1 = 1 ∧ ((hA ys).sub.toNat = 12 ∨ (hA ys).sub.toNat = 13) from ⟨rfl, d⟩)]
        exact ⟨rfl, rfl, rfl, rfl, rfl, rfl⟩
      · refine .inr (.inl ?_)
        rw [decide_eq_false (show ¬ (1 = 1 ∧ ((hA ys).sub.toNat = 12 ∨ (hA ys).sub.toNat = 13)) from fun h => d h.2)]
        exact ⟨rfl, rfl, rfl, rfl, rfl, rfl⟩
    · refine .inr (.inr ?_); rw [k]; exact ⟨rfl, rfl, rfl, rfl⟩
  have ht : trafB (hA ys).kind (hA ys).sub = trB ys := rfl
  rcases h3 with ⟨x1, x2, x3, x4, x5, x6⟩ | ⟨x1, x2, x3, x4, x5, x6⟩ | ⟨x1, x2, x3, x4⟩
  · rw [x3, x4, x5, x6] at hS
    unfold hG
    rw [ht, x1, x2, x3, x4, x5, x6]
    have l : 10 ≤ ys.length := Nat.le_trans (Nat.le_of_eq hS.symm) hn
    refine ⟨?_, rfl⟩
    show setA (setD (hA ys) (c2N (tkV (at_ ys 2) 2))) 0 (a6v (tkV (at_ ys 4) 6)) = _
    rw [c2N_at _ _ (by omega), a6v_at _ _ (by omega)]
    rfl
  · rw [x3, x4, x5, x6] at hS
    unfold hG
    rw [ht, x1, x2, x3, x4, x5, x6]
    have l : 16 ≤ ys.length := Nat.le_trans (Nat.le_of_eq hS.symm) hn
    refine ⟨?_, rfl⟩
    show setA (setA (setD (hA ys) (c2N (tkV (at_ ys 2) 2))) 0 (a6v (tkV (at_ ys 4) 6))) 1 (a6v (tkV (tkC (at_ ys 4) 6) 6)) = _
    rw [at_step _ _ _ (by decide), c2N_at _ _ (by omega), a6v_at _ _ (by omega), a6v_at _ _ (by omega)]
    rfl
  · rw [x3, x4] at hS
    unfold hG
    rw [ht, x1, x2, x3, x4]
    have l : 24 ≤ ys.length := by
      refine Nat.le_trans ?_ hn
      rw [hS]
      show 24 ≤ 4 + 6 * 3 + 2 + _ + _
      omega
    have key : adH (at_ ys 4) (setD (hA ys) (c2N (tkV (at_ ys 2) 2))) 3 = setA (setA (setA (setD (hA ys) (tw ys 2)) 0 (aAt ys 4)) 1 (aAt ys 10)) 2 (aAt ys 16) := by
      show setA (setA (setA (setD (hA ys) (c2N (tkV (at_ ys 2) 2))) 0 (a6v (tkV (at_ ys 4) 6))) 1 (a6v (tkV (tkC (at_ ys 4) 6) 6))) 2 (a6v (tkV (tkC (tkC (at_ ys 4) 6) 6) 6)) = _
      rw [at_step _ _ _ (by decide), at_step _ _ _ (by decide), c2N_at _ _ (by omega), a6v_at _ _ (by omega), a6v_at _ _ (by omega), a6v_at _ _ (by omega)]
    rw [key]
    have hq : stH true (at_ ys (4 + 6 * 3)) (setA (setA (setA (setD (hA ys) (tw ys 2)) 0 (aAt ys 4)) 1 (aAt ys 10)) 2 (aAt ys 16)) = setS (setA (setA (setA (setD (hA ys) (tw ys 2)) 0 (aAt ys 4)) 1 (aAt ys 10)) 2 (aAt ys 16)) (tw ys 22) := by
      show setS _ (c2N (tkV (at_ ys 22) 2)) = _
      rw [c2N_at _ _ (by omega)]
    rw [hq]
    have hv : trB ys = true → c2N (tkV (at_ ys (hdS (hA ys) - 2)) 2) = tw ys (hdS (hA ys) - 2) := fun _ => c2N_at _ _ (by omega)
    have hu : fourB (hA ys) = true → a6v (tkV (at_ ys (4 + 6 * 3 + bN true 2)) 6) = aAt ys 24 := fun h => by
      show a6v (tkV (at_ ys 24) 6) = _
      refine a6v_at _ _ ?_
      refine Nat.le_trans ?_ hn
      rw [hS, h]
      show 30 ≤ 4 + 6 * 3 + 2 + 6 + _
      omega
    generalize hdS (hA ys) = n at *
    cases xf : fourB (hA ys) <;> cases xt : trB ys
    · exact ⟨rfl, rfl⟩
    · refine ⟨?_, ?_⟩
      · show setQ _ (c2N (tkV (at_ ys (n - 2)) 2)) = _
        rw [hv xt]; rfl
      · show oddV (c2N (tkV (at_ ys (n - 2)) 2)) = _
        rw [hv xt]; rfl
    · refine ⟨?_, rfl⟩
      show setA _ 3 (a6v (tkV (at_ ys (4 + 6 * 3 + bN true 2)) 6)) = _
      rw [hu xf]; rfl
    · refine ⟨?_, ?_⟩
      · show setQ (setA _ 3 (a6v (tkV (at_ ys (4 + 6 * 3 + bN true 2)) 6))) (c2N (tkV (at_ ys (n - 2)) 2)) = _
        rw [hv xt, hu xf]; rfl
      · show oddV (c2N (tkV (at_ ys (n - 2)) 2)) = _
        rw [hv xt]; rfl
end Go.Proofs.Ytbdcpahifcbcfaa
