/-
  The cursor's parts as offsets: plain law. (not built yet)
-/
import Derived.Test.YtbdcpahifcbcfaaVGn
import Derived.Test.YtbdcpahifcbcfaaVGi
namespace Go.Proofs.Ytbdcpahifcbcfaa
open Go Go.RowKit Go.Hs
theorem tkC_ok {c : Cu} {n : Nat} (h : n ≤ c.1.length) : tkC c n = (c.1.drop n, c.2) := by unfold tkC; rw [if_pos h]
theorem tkC_bad {c : Cu} {n : Nat} (h : ¬ n ≤ c.1.length) : tkC c n = ([], true) := by unfold tkC; rw [if_neg h]
theorem tkV_ok {c : Cu} {n : Nat} (h : n ≤ c.1.length) : tkV c n = c.1.take n := by unfold tkV; rw [if_pos h]
/-- the cursor at a place: what is left, or short. -/
def at_ (ys : List UInt8) (k : Nat) : Cu := if k ≤ ys.length then (ys.drop k, false) else ([], true)
theorem at_step (ys : List UInt8) (k n : Nat) (hn : 0 < n) : tkC (at_ ys k) n = at_ ys (k + n) := by
  unfold at_
  by_cases h : k ≤ ys.length
  · rw [if_pos h]
    by_cases h2 : k + n ≤ ys.length
    · rw [if_pos h2, tkC_ok (by show n ≤ (ys.drop k).length; rw [List.length_drop]; omega), List.drop_drop]
    · rw [if_neg h2, tkC_bad (by show ¬ n ≤ (ys.drop k).length; rw [List.length_drop]; omega)]
  · rw [if_neg h, if_neg (by omega), tkC_bad (by show ¬ n ≤ 0; omega)]
theorem at_adC (ys : List UInt8) (k : Nat) : ∀ n, adC (at_ ys k) n = at_ ys (k + 6 * n)
  | 0 => rfl
  | n + 1 => by
    show tkC (adC (at_ ys k) n) 6 = _
    rw [at_adC ys k n, at_step ys _ 6 (by decide)]
    congr 1
theorem s1_at (ys : List UInt8) : s1 ys = at_ ys 2 := by
  have h0 : (ys, false) = at_ ys 0 := by unfold at_; rw [if_pos (Nat.zero_le _)]; rfl
  show tkC (ys, false) 2 = _
  rw [h0, at_step _ _ _ (by decide)]
theorem s2_at (ys : List UInt8) : s2 ys = at_ ys 4 := by show tkC (s1 ys) 2 = _; rw [s1_at, at_step _ _ _ (by decide)]
theorem s3_at (ys : List UInt8) : s3 ys = at_ ys (4 + 6 * befN (hA ys)) := by show adC (s2 ys) _ = _; rw [s2_at, at_adC]
theorem stS_at (p : Bool) (ys : List UInt8) (k : Nat) : stS p (at_ ys k) = at_ ys (k + bN p 2) := by
  cases p
  · rfl
  · exact at_step ys k 2 (by decide)
theorem ftS_at (p : Bool) (ys : List UInt8) (k : Nat) : ftS p (at_ ys k) = at_ ys (k + bN p 6) := by
  cases p
  · rfl
  · exact at_step ys k 6 (by decide)
theorem s4_at (ys : List UInt8) : s4 ys = at_ ys (4 + 6 * befN (hA ys) + bN (prtB (hA ys).kind) 2) := by show stS _ (s3 ys) = _; rw [s3_at, stS_at]
theorem s5_at (ys : List UInt8) : s5 ys = at_ ys (4 + 6 * befN (hA ys) + bN (prtB (hA ys).kind) 2 + bN (fourB (hA ys)) 6) := by show ftS _ (s4 ys) = _; rw [s4_at, ftS_at]
/-- the cursor behind the header stands at the header's size. -/
theorem s6_at (ys : List UInt8) : s6 ys = at_ ys (hdS (hA ys)) := by show stS (trB ys) (s5 ys) = _; rw [s5_at, stS_at]; rfl
theorem s6_short (ys : List UInt8) : (s6 ys).2 = decide (ys.length < hdS (hA ys)) := by
  rw [s6_at]
  unfold at_
  by_cases h : hdS (hA ys) ≤ ys.length
  · rw [if_pos h, decide_eq_false (by omega)]
  · rw [if_neg h, decide_eq_true (by omega)]
theorem at_val (ys : List UInt8) (k n : Nat) (h : k + n ≤ ys.length) : tkV (at_ ys k) n = (ys.drop k).take n := by
  unfold at_
  rw [if_pos (by omega), tkV_ok (by show n ≤ (ys.drop k).length; rw [List.length_drop]; omega)]
end Go.Proofs.Ytbdcpahifcbcfaa
