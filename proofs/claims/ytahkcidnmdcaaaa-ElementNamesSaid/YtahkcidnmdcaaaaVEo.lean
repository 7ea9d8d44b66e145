/-
  The reference's Valid, Bytes, long, Check, Encode.
-/
import Derived.Test.YtahkcidnmdcaaaaVEn
namespace Go.Proofs.Ytahkcidnmdcaaaa
open Go Go.RowKit Go.Hs
attribute [local irreducible] WL W WQ PL Runs Effs AllE Ent SubO FrIn Pick OneC Ones CellsE PartsE SeqE UZ By Sl Pt Ct

theorem bod_len : ∀ (n : Nat) (c : List UInt8), c.length = n → (bod c.length c).length ≤ 2 * c.length + 1 := by
  intro n
  induction n using Nat.strongRecOn with
  | _ n ih =>
    intro c hn
    by_cases h1 : 255 ≤ c.length
    · rw [bod_big h1]
      have := ih (n - 255) (by omega) (c.drop 255) (by rw [List.length_drop]; omega)
      simp only [List.length_cons, List.length_append, List.length_take]
      rw [List.length_drop] at this ⊢
      omega
    · rw [bod_small (by omega)]
      simp only [List.length_cons]
      omega
theorem enc_len : ∀ (t : Fo), (enc t).length ≤ 2 ^ dep t * (dat t + 4 * cnt t)
  | .nil => by simp [enc]
  | .cons id ext data subs next => by
    have h1 := enc_len subs
    have h2 := enc_len next
    have h3 := bod_len _ (withX id ext (inn id data (enc subs))) rfl
    have h4 : (withX id ext (inn id data (enc subs))).length ≤ data.length + (enc subs).length + 1 := by
      have : (inn id data (enc subs)).length ≤ data.length + (enc subs).length := by
        unfold inn
        split <;> omega
      unfold withX
      split
      · simp only [List.length_cons]; omega
      · omega
    have p1 : 2 * 2 ^ dep subs ≤ 2 ^ dep (.cons id ext data subs next) := by
      rw [← Nat.pow_succ']
      exact Nat.pow_le_pow_right (by decide) (by simp only [dep]; omega)
    have p2 : 2 ^ dep next ≤ 2 ^ dep (.cons id ext data subs next) := Nat.pow_le_pow_right (by decide) (by simp only [dep]; omega)
    have p0 : 1 ≤ 2 ^ dep subs := Nat.one_le_two_pow
    generalize 2 ^ dep (.cons id ext data subs next) = A at *
    have q1 := Nat.mul_le_mul_right (dat subs + 4 * cnt subs) p1
    have q2 := Nat.mul_le_mul_right (dat next + 4 * cnt next) p2
    have q3 : 2 * (data.length + 4) ≤ A * (data.length + 4) := Nat.mul_le_mul_right _ (by omega)
    rw [Nat.mul_assoc] at q1
    have e : A * (dat (.cons id ext data subs next) + 4 * cnt (.cons id ext data subs next)) = A * (data.length + 4) + A * (dat subs + 4 * cnt subs) + A * (dat next + 4 * cnt next) := by
      rw [← Nat.mul_add, ← Nat.mul_add]
      congr 1
      simp only [dat, cnt]
      omega
    rw [e, enc, List.length_append, List.length_cons]
    omega
theorem Sm.enc_le {t : Fo} (h : Sm t) : (enc t).length ≤ 60000000 := by
  have h1 := enc_len t
  have h2 : 2 ^ dep t ≤ 2 ^ 10 := Nat.pow_le_pow_right (by decide) h.2.1
  have h3 := Nat.mul_le_mul_right (dat t + 4 * cnt t) h2
  have := h.1
  have := h.2.2
  omega
theorem u8is {id : UInt8} {n : Nat} (hn : n < 256) : id = UInt8.ofNat n ↔ id.toNat = n := by
  constructor
  · intro h
    rw [h, UInt8.toNat_ofNat']
    omega
  · intro h
    apply UInt8.toNat_inj.1
    rw [UInt8.toNat_ofNat', h]
    omega

end Go.Proofs.Ytahkcidnmdcaaaa
