/-
  Contracts of the functions of layer 1 that write numbers and texts.
-/
import Derived.Test.YtdhbgolbfkejcaaOe
import Derived.Test.YtdhbgolbfkejcaaOb
namespace Go.Proofs.Ytdhbgolbfkejcaa
open Go Go.RowKit Go.Hs
attribute [local irreducible] WL W WQ PL Runs Effs AllE Ent SubO FrIn Pick OneC Ones CellsE PartsE SeqE UZ By Sl Pt Ct

/-- the n lowest bytes of a number, the lowest first. -/
def leB (n v : Nat) : List UInt8 := (List.range n).map fun i => UInt8.ofNat (v / 256 ^ i)
theorem leB_length (n v : Nat) : (leB n v).length = n := by simp [leB]
theorem leB_succ (n v : Nat) : leB (n + 1) v = leB n v ++ [UInt8.ofNat (v / 256 ^ n)] := by simp [leB, List.range_succ]

theorem shr8_eq (v k : Nat) (hk : k ≤ 8) : (v : Int).fdiv (2 ^ (min ((8 * (k : Int))).toNat IntKind.u64.bits)) = ((v / 256 ^ k : Nat) : Int) := by
  rw [show (8 * (k : Int)) = ((8 * k : Nat) : Int) by omega, shr_eq v (8 * k) (by omega), Nat.pow_mul]
theorem low8 (x : Nat) : IntKind.u8.wrap (x : Int) = (((UInt8.ofNat x).toNat : Nat) : Int) := by
  rw [IntKind.wrap_u8]
  simp

end Go.Proofs.Ytdhbgolbfkejcaa
