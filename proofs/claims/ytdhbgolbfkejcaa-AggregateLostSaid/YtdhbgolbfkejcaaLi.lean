/-
  Bits of numbers of 64 signed bits. No program is named here.
-/
import Derived.Test.YtdhbgolbfkejcaaLx
import Derived.Laws.BitsAllLaws
import Derived.Laws.Bits128
namespace Go.Hs
open Go Go.RowKit

theorem i64_low (n : Int) (k : Nat) (hk : k ≤ 62) : bits .and .i64 n ((2 ^ k - 1 : Nat) : Int) = n % ((2 ^ k : Nat) : Int) := by
  have hp : 2 ^ k ≤ 2 ^ 62 := Nat.pow_le_pow_right (by decide) hk
  have h0 : 0 < 2 ^ k := Nat.two_pow_pos k
  have h2 : (2 : Nat) ^ 62 = 4611686018427387904 := by decide
  have hm : (BitVec.ofInt 64 ((2 ^ k - 1 : Nat) : Int)).toNat = 2 ^ k - 1 := by
    rw [BitVec.ofInt_natCast, BitVec.toNat_ofNat]; exact Nat.mod_eq_of_lt (by omega)
  have key : (BitVec.ofInt 64 n &&& BitVec.ofInt 64 ((2 ^ k - 1 : Nat) : Int)).toNat = (n % ((2 ^ 64 : Nat) : Int)).toNat % 2 ^ k := by
    rw [BitVec.toNat_and, BitVec.toNat_ofInt, hm, Nat.and_two_pow_sub_one_eq_mod]
  show IntKind.i64.wrap ((BitVec.ofInt 64 n &&& BitVec.ofInt 64 ((2 ^ k - 1 : Nat) : Int)).toNat : Nat) = _
  have hd : ((2 ^ k : Nat) : Int) ∣ ((2 ^ 64 : Nat) : Int) := Int.natCast_dvd_natCast.2 (Nat.pow_dvd_pow 2 (by omega))
  have e : (((n % ((2 ^ 64 : Nat) : Int)).toNat % 2 ^ k : Nat) : Int) = n % ((2 ^ k : Nat) : Int) := by
    rw [Int.natCast_emod, Int.toNat_of_nonneg (Int.emod_nonneg _ (by decide)), Int.emod_emod_of_dvd n hd]
  have hlt := Int.emod_lt_of_pos n (show (0 : Int) < ((2 ^ k : Nat) : Int) by omega)
  have hge := Int.emod_nonneg n (show ((2 ^ k : Nat) : Int) ≠ 0 by omega)
  rw [key, e, wx_i64 (by omega)]
theorem i64_and3 (n : Int) : bits .and .i64 n 3 = n % 4 := i64_low n 2 (by decide)
theorem i64_and7 (n : Int) : bits .and .i64 n 7 = n % 8 := i64_low n 3 (by decide)
theorem i64_and15 (n : Int) : bits .and .i64 n 15 = n % 16 := i64_low n 4 (by decide)
theorem i64_or_nat (a b : Nat) (ha : a < 4611686018427387904) (hb : b < 4611686018427387904) : bits .or .i64 (a : Int) (b : Int) = ((a ||| b : Nat) : Int) := by
  have hx : a ||| b < 2 ^ 62 := Nat.or_lt_two_pow (by omega) (by omega)
  have h2 : (2 : Nat) ^ 62 = 4611686018427387904 := by decide
  show IntKind.i64.wrap ((BitVec.ofInt 64 (a : Int) ||| BitVec.ofInt 64 (b : Int)).toNat : Int) = _
  rw [BitVec.toNat_or, BitVec.ofInt_natCast, BitVec.ofInt_natCast, BitVec.toNat_ofNat, BitVec.toNat_ofNat, Nat.mod_eq_of_lt (by omega), Nat.mod_eq_of_lt (by omega)]
  exact wx_i64 (by omega)
/-- a low part and a high one. -/
theorem i64_or_lo (k a b : Nat) (ha : a < 2 ^ k) (hs : a + b * 2 ^ k < 4611686018427387904) : bits .or .i64 (a : Int) ((b * 2 ^ k : Nat) : Int) = ((a + b * 2 ^ k : Nat) : Int) := by
  rw [i64_or_nat _ _ (by omega) (by omega)]
  congr 1
  rw [Nat.or_comm, Nat.mul_comm, ← Nat.two_pow_add_eq_or_of_lt ha, Nat.add_comm]
theorem i64_or8 (a b : UInt8) : bits .or .i64 (a.toNat : Int) ((b.toNat * 256 : Nat) : Int) = ((a.toNat + 256 * b.toNat : Nat) : Int) := by
  have ha := a.toNat_lt
  have hb := b.toNat_lt
  have h := i64_or_lo 8 a.toNat b.toNat ha (by omega)
  rw [show (2 : Nat) ^ 8 = 256 from rfl] at h
  rw [h, Nat.mul_comm]
theorem i64_shl8 (a : UInt8) : IntKind.i64.wrap ((a.toNat : Int) * 2 ^ (min (8 : Int).toNat IntKind.i64.bits)) = ((a.toNat * 256 : Nat) : Int) := by
  have ha := a.toNat_lt
  rw [show ((2 : Int) ^ (min (8 : Int).toNat IntKind.i64.bits)) = 256 from rfl]
  rw [wx_i64 (by omega)]
  omega
theorem i64_shr8 (n : Nat) : ((n : Int)).fdiv (2 ^ (min (8 : Int).toNat IntKind.i64.bits)) = ((n / 256 : Nat) : Int) := by
  rw [show ((2 : Int) ^ (min (8 : Int).toNat IntKind.i64.bits)) = 256 from rfl, Int.fdiv_eq_ediv_of_nonneg _ (by decide)]
  omega
end Go.Hs
