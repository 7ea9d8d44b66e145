/-
  Bodies that are decoded, encoded again: plain law.
-/
import Derived.Test.YtoohgnegoaoleaaVBs
namespace Go.Proofs.Ytoohgnegoaoleaa
open Go Go.RowKit Go.Hs
theorem twA_lt (xs : List UInt8) (k : Nat) : twA xs k < 65536 := by
  have h0 := (xs.getD k 0).toNat_lt
  have h1 := (xs.getD (k + 1) 0).toNat_lt
  unfold twA
  omega
theorem z0_lt {e : Int} {n m : Nat} (h : n < m) : z0 e n < m := by
  unfold z0; split
  · exact h
  · omega
theorem e8_lt (xs : List UInt8) (k : Nat) : e8 xs k < 18446744073709551616 := by
  unfold e8
  have h := C01.leN_lt ((xs.drop k).take 8)
  have h2 : ((xs.drop k).take 8).length ≤ 8 := by rw [List.length_take]; omega
  have h3 : (256 : Nat) ^ ((xs.drop k).take 8).length ≤ 256 ^ 8 := Nat.pow_le_pow_right (by decide) h2
  have h4 : (256 : Nat) ^ 8 = 18446744073709551616 := by decide
  omega
end Go.Proofs.Ytoohgnegoaoleaa
