/-
  Contracts of the functions of layer 1 that read and set bits.
-/
import Derived.Test.YtlfghljgilmenaaRows
import Derived.Test.YtlfghljgilmenaaLn
namespace Go.Proofs.Ytlfghljgilmenaa.C01
open Go Go.RowKit Go.Hs
attribute [local irreducible] WL W WQ PL Runs Effs AllE Ent SubO FrIn Pick OneC Ones CellsE PartsE SeqE UZ By Sl Pt Ct

theorem pow63 {k : Nat} (h : k ≤ 63) : (2 : Int) ^ k ≤ 9223372036854775808 := by
  have : (2 : Nat) ^ k ≤ 2 ^ 63 := Nat.pow_le_pow_right (by decide) h
  have h2 : ((2 ^ k : Nat) : Int) ≤ ((2 ^ 63 : Nat) : Int) := Int.ofNat_le.2 this
  simpa using h2
theorem powc (k : Nat) : ((2 ^ k : Nat) : Int) = 2 ^ k := by simp

def inB (a n : Int) : Prop := 0 ≤ a ∧ a ≤ 64 ∧ 1 ≤ n ∧ n ≤ 64 - a
instance (a n : Int) : Decidable (inB a n) := by unfold inB; infer_instance

theorem mask_eq {m : Nat} (h : m ≤ 64) : (18446744073709551615 : Int).fdiv (2 ^ (min ((64 : Int) - (m : Int)).toNat IntKind.u64.bits)) = ((2 ^ m - 1 : Nat) : Int) := by
  have e : ((64 : Int) - (m : Int)).toNat = 64 - m := by omega
  have e2 : min (64 - m) IntKind.u64.bits = 64 - m := Nat.min_eq_left (show 64 - m ≤ 64 by omega)
  rw [e, e2]
  have : ∀ m, m < 65 → (18446744073709551615 : Int).fdiv (2 ^ (64 - m)) = ((2 ^ m - 1 : Nat) : Int) := by decide
  exact this m (by omega)

theorem p64 : (2 : Nat) ^ 64 = 18446744073709551616 := by decide
theorem ple {a b : Nat} (h : a ≤ b) : (2 : Nat) ^ a ≤ 2 ^ b := Nat.pow_le_pow_right (by decide) h
theorem plt {a : Nat} (h : a ≤ 64) : (2 : Nat) ^ a ≤ 18446744073709551616 := p64 ▸ ple h
theorem ppos (a : Nat) : 0 < (2 : Nat) ^ a := Nat.pow_pos (by decide)

theorem shr_eq (v k : Nat) (hk : k ≤ 64) : (v : Int).fdiv (2 ^ (min ((k : Int)).toNat IntKind.u64.bits)) = ((v / 2 ^ k : Nat) : Int) := by
  have e2 : min ((k : Int)).toNat IntKind.u64.bits = k := by
    rw [Int.toNat_natCast]
    exact Nat.min_eq_left (show k ≤ 64 by omega)
  rw [e2, ← powc, Int.fdiv_eq_ediv_of_nonneg _ (Int.natCast_nonneg _)]
  rfl
theorem shl_eq (v k : Nat) (hk : k ≤ 64) (hv : v * 2 ^ k < 18446744073709551616) : IntKind.u64.wrap ((v : Int) * (2 ^ (min ((k : Int)).toNat IntKind.u64.bits))) = ((v * 2 ^ k : Nat) : Int) := by
  have e2 : min ((k : Int)).toNat IntKind.u64.bits = k := by
    rw [Int.toNat_natCast]
    exact Nat.min_eq_left (show k ≤ 64 by omega)
  rw [e2, ← powc, ← Int.natCast_mul]
  exact wx_u64 (by omega)

theorem and_eq (v k m : Nat) (hv : v < 18446744073709551616) (hm : m ≤ 64) : bits .and .u64 ((v / 2 ^ k : Nat) : Int) ((2 ^ m - 1 : Nat) : Int) = ((v / 2 ^ k % 2 ^ m : Nat) : Int) := by
  have := plt hm
  have := ppos m
  rw [u64_and_nat _ _ (Nat.lt_of_le_of_lt (Nat.div_le_self _ _) hv) (by omega), Nat.and_two_pow_sub_one_eq_mod]

theorem over_eq (x m : Nat) (hx : x < 18446744073709551616) (hm : m ≤ 64) : bits .andNot .u64 (x : Int) ((2 ^ m - 1 : Nat) : Int) = ((x / 2 ^ m * 2 ^ m : Nat) : Int) := by
  have := plt hm
  have := ppos m
  rw [u64_andNot_nat _ _ hx (by omega)]
  congr 1
  apply Nat.eq_of_testBit_eq
  intro i
  rw [show (18446744073709551615 : Nat) - (2 ^ m - 1) = 2 ^ 64 - ((2 ^ m - 1) + 1) by rw [p64]; omega, Nat.mul_comm]
  rw [Nat.testBit_and, Nat.testBit_two_pow_sub_succ (by rw [p64]; omega), Nat.testBit_two_pow_sub_one, Nat.testBit_two_pow_mul, Nat.testBit_div_two_pow]
  by_cases h : i < 64
  · by_cases h2 : i < m
    · simp [h2, h, Nat.not_le.2 h2]
    · simp [h2, h, Nat.not_lt.1 h2]
  · have : x.testBit i = false := Nat.testBit_lt_two_pow (Nat.lt_of_lt_of_le hx (p64 ▸ ple (by omega)))
    have h2 : m ≤ i := by omega
    simp [h2, this]

theorem mid_le (v k m : Nat) : v / 2 ^ k % 2 ^ m * 2 ^ k ≤ v := Nat.le_trans (Nat.mul_le_mul_right _ (Nat.mod_le _ _)) (Nat.div_mul_le_self _ _)

theorem parts_eq (v k m : Nat) : v = 2 ^ (k + m) * (v / 2 ^ (k + m)) + v / 2 ^ k % 2 ^ m * 2 ^ k + v % 2 ^ k := by
  have h1 := Nat.div_add_mod v (2 ^ k)
  have h2 := Nat.div_add_mod (v / 2 ^ k) (2 ^ m)
  rw [Nat.div_div_eq_div_mul, ← Nat.pow_add] at h2
  have h3 : 2 ^ (k + m) * (v / 2 ^ (k + m)) + v / 2 ^ k % 2 ^ m * 2 ^ k = 2 ^ k * (v / 2 ^ k) := by
    conv => rhs; rw [← h2]
    rw [Nat.mul_add, ← Nat.mul_assoc, ← Nat.pow_add, Nat.mul_comm (2 ^ k) (_ % _)]
  omega

theorem hole_eq (v k m : Nat) (hv : v < 18446744073709551616) (hm : k + m ≤ 64) :
    bits .andNot .u64 (v : Int) (((2 ^ m - 1) * 2 ^ k : Nat) : Int) = ((2 ^ (k + m) * (v / 2 ^ (k + m)) ||| v % 2 ^ k : Nat) : Int) := by
  have h1 := plt hm
  have h2 := ppos k
  have h3 : (2 ^ m - 1) * 2 ^ k < 2 ^ (k + m) := by
    rw [Nat.pow_add, Nat.mul_comm]
    exact Nat.mul_lt_mul_of_pos_left (by have := ppos m; omega) h2
  rw [u64_andNot_nat _ _ hv (by omega)]
  congr 1
  apply Nat.eq_of_testBit_eq
  intro i
  rw [show (18446744073709551615 : Nat) - (2 ^ m - 1) * 2 ^ k = 2 ^ 64 - ((2 ^ m - 1) * 2 ^ k + 1) by rw [p64]; omega]
  rw [Nat.testBit_and, Nat.testBit_two_pow_sub_succ (by rw [p64]; omega), Nat.mul_comm (2 ^ m - 1), Nat.testBit_two_pow_mul, Nat.testBit_two_pow_sub_one, Nat.testBit_or, Nat.testBit_two_pow_mul, Nat.testBit_div_two_pow, Nat.testBit_mod_two_pow]
  by_cases h : i < 64
  · by_cases ha : i < k
    · simp [h, ha, show ¬ k ≤ i by omega, show ¬ k + m ≤ i by omega]
    · by_cases hb : i < k + m
      · simp [h, ha, show k ≤ i by omega, show ¬ k + m ≤ i by omega, show i - k < m by omega]
      · simp [h, ha, show k ≤ i by omega, show k + m ≤ i by omega, show ¬ i - k < m by omega, show i - (k + m) + (k + m) = i by omega]
  · have : v.testBit i = false := Nat.testBit_lt_two_pow (Nat.lt_of_lt_of_le hv (p64 ▸ ple (by omega)))
    have h2 : k + m ≤ i := by omega
    simp [h2, this]

theorem put_eq (v k m x : Nat) (hv : v < 18446744073709551616) (hm : k + m ≤ 64) (hx : x < 2 ^ m) :
    bits .or .u64 ((2 ^ (k + m) * (v / 2 ^ (k + m)) ||| v % 2 ^ k : Nat) : Int) ((x * 2 ^ k : Nat) : Int) = ((v - v / 2 ^ k % 2 ^ m * 2 ^ k + x * 2 ^ k : Nat) : Int) := by
  have h1 := plt hm
  have h2 := ppos k
  have hl : v % 2 ^ k < 2 ^ k := Nat.mod_lt _ h2
  have h3 : x * 2 ^ k + v % 2 ^ k < 2 ^ (k + m) := by
    have : (x + 1) * 2 ^ k ≤ 2 ^ m * 2 ^ k := Nat.mul_le_mul_right _ hx
    rw [Nat.pow_add, Nat.mul_comm (2 ^ k)]
    rw [Nat.add_mul] at this
    omega
  have e := parts_eq v k m
  have hlk : v % 2 ^ k < 2 ^ (k + m) := by omega
  rw [← Nat.two_pow_add_eq_or_of_lt hlk]
  rw [u64_or_nat _ _ (by omega) (by omega)]
  congr 1
  have e2 : v - v / 2 ^ k % 2 ^ m * 2 ^ k + x * 2 ^ k = 2 ^ (k + m) * (v / 2 ^ (k + m)) + (x * 2 ^ k + v % 2 ^ k) := by omega
  rw [e2, Nat.two_pow_add_eq_or_of_lt hlk, Nat.two_pow_add_eq_or_of_lt h3, Nat.mul_comm x, Nat.two_pow_add_eq_or_of_lt hl]
  rw [Nat.or_assoc, Nat.or_comm (v % 2 ^ k)]
end Go.Proofs.Ytlfghljgilmenaa.C01
