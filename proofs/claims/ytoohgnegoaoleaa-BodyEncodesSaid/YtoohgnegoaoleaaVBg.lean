/-
  Bodies of frames: the program's decoders (first part).
-/
import Derived.Test.YtoohgnegoaoleaaVBf
import Derived.Test.YtoohgnegoaoleaaXc
namespace Go.Proofs.Ytoohgnegoaoleaa
open Go Go.RowKit Go.Hs
/-- the error of reading the first n bytes. -/
def frE (len n : Nat) : Int := if 2304 < len then 11 else if len < n then 10 else 0
def twA (xs : List UInt8) (k : Nat) : Nat := (xs.getD k 0).toNat + 256 * (xs.getD (k + 1) 0).toNat
def drE (xs : List UInt8) (n : Nat) : Int := if frE xs.length n = 0 then dlE (xs.drop n) else frE xs.length n
def drF (xs : List UInt8) (n : Nat) : Fo := if drE xs n = 0 then dlF (xs.drop n) else .nil
def z0 (e : Int) (n : Nat) : Nat := if e = 0 then n else 0
/-- a reader that has read k bytes, or stands at an error. -/
structure Rs (xs : List UInt8) (k a : Nat) (e : Int) : Prop where
  er : e = frE xs.length k
  at_ : e = 0 → a = k
  le : a ≤ xs.length
theorem Rs.next {xs : List UInt8} {k a : Nat} {e : Int} (h : Rs xs k a e) (n : Nat) : Rs xs (k + n) (rdA xs.length a e n) (rdE xs.length a e n) ∧ (rdE xs.length a e n = 0 → rdB xs a e n = (xs.drop k).take n) := by
  have hle := rdA_le e n h.le
  have h1 := h.er
  have h2 := h.at_
  have he : rdE xs.length a e n = frE xs.length (k + n) := by
    unfold rdE
    unfold frE at h1 ⊢
    by_cases c1 : 2304 < xs.length
    · rw [if_pos c1] at h1 ⊢
      rw [if_neg (by omega)]; exact h1
    · rw [if_neg c1] at h1 ⊢
      by_cases c2 : xs.length < k
      · rw [if_pos c2] at h1
        rw [if_neg (by omega), if_pos (by omega)]; exact h1
      · rw [if_neg c2] at h1
        rw [if_pos h1, h2 h1]
  refine ⟨⟨he, fun h0 => ?_, hle⟩, fun h0 => ?_⟩
  · have e0 : e = 0 := by
      unfold rdE at h0
      by_cases c : e = 0
      · exact c
      · rw [if_neg c] at h0; exact h0
    unfold rdA
    rw [if_pos h0, h2 e0]
  · have e0 : e = 0 := by
      unfold rdE at h0
      by_cases c : e = 0
      · exact c
      · rw [if_neg c] at h0; exact h0
    unfold rdB
    rw [if_pos h0, h2 e0]
theorem Rs.zero {xs : List UInt8} {k a n : Nat} {e : Int} (h : rdE xs.length a e n = 0) : e = 0 := by
  unfold rdE at h
  by_cases c : e = 0
  · exact c
  · rw [if_neg c] at h; exact h
attribute [local irreducible] WL W WQ PL Runs Effs AllE Ent SubO FrIn Pick OneC Ones CellsE PartsE SeqE UZ By Sl Pt Ct

end Go.Proofs.Ytoohgnegoaoleaa
