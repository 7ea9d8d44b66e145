/-
  Choices: candidates, what is better, the best of a list; addresses as numbers.
-/
import Derived.Test.YtlfghljgilmenaaVSu
import Derived.Test.YtlfghljgilmenaaXc
namespace Go.Proofs.Ytlfghljgilmenaa
open Go Go.RowKit Go.Hs

def numA (a : A6) : Nat := ((((a.a0.toNat * 256 + a.a1.toNat) * 256 + a.a2.toNat) * 256 + a.a3.toNat) * 256 + a.a4.toNat) * 256 + a.a5.toNat
theorem numA_lt (a : A6) : numA a < 281474976710656 := by
  have h0 := a.a0.toNat_lt
  have h1 := a.a1.toNat_lt
  have h2 := a.a2.toNat_lt
  have h3 := a.a3.toNat_lt
  have h4 := a.a4.toNat_lt
  have h5 := a.a5.toNat_lt
  unfold numA
  omega
theorem numA_inj {a b : A6} (h : numA a = numA b) : a = b := by
  cases a with | mk a0 a1 a2 a3 a4 a5 =>
  cases b with | mk b0 b1 b2 b3 b4 b5 =>
  have h0 := a0.toNat_lt
  have h1 := a1.toNat_lt
  have h2 := a2.toNat_lt
  have h3 := a3.toNat_lt
  have h4 := a4.toNat_lt
  have h5 := a5.toNat_lt
  have k0 := b0.toNat_lt
  have k1 := b1.toNat_lt
  have k2 := b2.toNat_lt
  have k3 := b3.toNat_lt
  have k4 := b4.toNat_lt
  have k5 := b5.toNat_lt
  simp only [numA] at h
  have e5 : a5.toNat = b5.toNat := by omega
  have e4 : a4.toNat = b4.toNat := by omega
  have e3 : a3.toNat = b3.toNat := by omega
  have e2 : a2.toNat = b2.toNat := by omega
  have e1 : a1.toNat = b1.toNat := by omega
  have e0 : a0.toNat = b0.toNat := by omega
  rw [UInt8.toNat_inj.1 e0, UInt8.toNat_inj.1 e1, UInt8.toNat_inj.1 e2, UInt8.toNat_inj.1 e3, UInt8.toNat_inj.1 e4, UInt8.toNat_inj.1 e5]
def cmpN (m n : Nat) : Int := if m < n then -1 else if n < m then 1 else 0
def cmpA (a b : A6) : Int := cmpN (numA a) (numA b)
theorem cmp_step (a b : UInt8) (xs bs : List UInt8) (m n M : Nat) (hm : m < M) (hn : n < M) (h : Lib.compareBytes xs bs = cmpN m n) : Lib.compareBytes (a :: xs) (b :: bs) = cmpN (a.toNat * M + m) (b.toNat * M + n) := by
  unfold Lib.compareBytes
  rw [h]
  unfold cmpN
  by_cases h1 : a < b
  · have h1' : a.toNat < b.toNat := h1
    have : (a.toNat + 1) * M ≤ b.toNat * M := Nat.mul_le_mul_right M h1'
    rw [Nat.succ_mul] at this
    generalize a.toNat * M = z at *
    generalize b.toNat * M = y at *
    rw [if_pos h1, if_pos (by omega)]
  · by_cases h2 : b < a
    · have h2' : b.toNat < a.toNat := h2
      have : (b.toNat + 1) * M ≤ a.toNat * M := Nat.mul_le_mul_right M h2'
      rw [Nat.succ_mul] at this
      generalize a.toNat * M = z at *
      generalize b.toNat * M = y at *
      rw [if_neg h1, if_pos h2, if_neg (by omega), if_pos (by omega)]
    · have e : a.toNat = b.toNat := by
        have h1' : ¬ a.toNat < b.toNat := h1
        have h2' : ¬ b.toNat < a.toNat := h2
        omega
      rw [if_neg h1, if_neg h2, e]
      generalize b.toNat * M = z
      by_cases h3 : m < n
      · rw [if_pos h3, if_pos (by omega)]
      · rw [if_neg h3, if_neg (show ¬ z + m < z + n by omega)]
        by_cases h4 : n < m
        · rw [if_pos h4, if_pos (by omega)]
        · rw [if_neg h4, if_neg (by omega)]
theorem cmpA_bytes (a b : A6) : Lib.compareBytes a.bytes b.bytes = cmpA a b := by
  have h0 : Lib.compareBytes [] [] = cmpN 0 0 := rfl
  have h1 := cmp_step a.a5 b.a5 [] [] 0 0 1 (by decide) (by decide) h0
  have h2 := cmp_step a.a4 b.a4 _ _ _ _ 256 (by have := a.a5.toNat_lt; omega) (by have := b.a5.toNat_lt; omega) h1
  have h3 := cmp_step a.a3 b.a3 _ _ _ _ 65536 (by have := a.a5.toNat_lt; have := a.a4.toNat_lt; omega) (by have := b.a5.toNat_lt; have := b.a4.toNat_lt; omega) h2
  have h4 := cmp_step a.a2 b.a2 _ _ _ _ 16777216 (by have := a.a5.toNat_lt; have := a.a4.toNat_lt; have := a.a3.toNat_lt; omega) (by have := b.a5.toNat_lt; have := b.a4.toNat_lt; have := b.a3.toNat_lt; omega) h3
  have h5 := cmp_step a.a1 b.a1 _ _ _ _ 4294967296 (by have := a.a5.toNat_lt; have := a.a4.toNat_lt; have := a.a3.toNat_lt; have := a.a2.toNat_lt; omega) (by have := b.a5.toNat_lt; have := b.a4.toNat_lt; have := b.a3.toNat_lt; have := b.a2.toNat_lt; omega) h4
  have h6 := cmp_step a.a0 b.a0 _ _ _ _ 1099511627776 (by have := a.a5.toNat_lt; have := a.a4.toNat_lt; have := a.a3.toNat_lt; have := a.a2.toNat_lt; have := a.a1.toNat_lt; omega) (by have := b.a5.toNat_lt; have := b.a4.toNat_lt; have := b.a3.toNat_lt; have := b.a2.toNat_lt; have := b.a1.toNat_lt; omega) h5
  have e : ∀ c : A6, c.a0.toNat * 1099511627776 + (c.a1.toNat * 4294967296 + (c.a2.toNat * 16777216 + (c.a3.toNat * 65536 + (c.a4.toNat * 256 + (c.a5.toNat * 1 + 0))))) = numA c := fun c => by
    unfold numA
    omega
  rw [e, e] at h6
  exact h6

/-- the error of the arguments of a choice. -/
def stopE (s : Stt) (l : List Nea) (now : Int) : Int := if vStB s then (if listB l && inB now s.since 1099511627776 then 0 else 2) else 8
theorem stop0 {s : Stt} {l : List Nea} {now : Int} (h : stopE s l now = 0) : vStB s = true ∧ listB l = true ∧ inB now s.since 1099511627776 = true := by
  unfold stopE at h
  split at h
  · next h1 =>
    split at h
    · next h2 =>
      rw [Bool.and_eq_true] at h2
      exact ⟨h1, h2⟩
    · cases h
  · cases h
def candB (s : Stt) (now : Int) (n : Nea) : Bool := !(decide (n.pt = s.pt)) && !(barredB s n.pt now)
def candL (s : Stt) (l : List Nea) (now : Int) : List Nea := if now < s.since + s.plan.stay then [] else l.filter (candB s now)
def betB (p : Pla) (a b : Nea) : Bool := decide (scI p b < scI p a ∨ scI p a = scI p b ∧ numA a.pt < numA b.pt)
def pickN (p : Pla) : Nea → List Nea → Nea
  | m, [] => m
  | m, x :: r => pickN p (if betB p x m then x else m) r
def bestO (p : Pla) : List Nea → Option Nea
  | [] => none
  | x :: r => some (pickN p x r)
def ownQ (s : Stt) (l : List Nea) (i : Nat) : Bool := decide ((l.getD i n0_).pt = s.pt)
def ownI (s : Stt) (l : List Nea) : Int := idxQ l.length (ownQ s l)
/-- what the choice is made of. -/
def suffL (s : Stt) (l : List Nea) (now : Int) : List Nea :=
  if 0 ≤ ownI s l then
    if s.plan.low ≤ (l.getD (ownI s l).toNat n0_).lv then []
    else (candL s l now).filter (fun n => !(decide (scI s.plan n < scI s.plan (l.getD (ownI s l).toNat n0_) + s.plan.gain)))
  else candL s l now
def choO (s : Stt) (l : List Nea) (now : Int) : Option Nea := if stopE s l now = 0 then bestO s.plan (suffL s l now) else none
def ptO : Option Nea → A6
  | none => zA6
  | some n => n.pt
def askO (s : Stt) (l : List Nea) (now : Int) : Option Nea := if stopE s l now = 0 then (candL s l now).find? (fun n => decide (s.plan.low ≤ n.lv)) else none

/-- own places of a list. -/
theorem idxQ_cases (n : Nat) (q : Nat → Bool) : (idxQ n q = -1 ∧ ∀ j, j < n → q j = false) ∨ ∃ k, k < n ∧ idxQ n q = (k : Int) ∧ q k = true ∧ ∀ j, j < k → q j = false := by
  by_cases h : ∃ j, j < n ∧ q j = true
  · right
    obtain ⟨j, hj, hq⟩ := h
    induction j using Nat.strongRecOn with
    | _ j ih =>
      by_cases hx : ∃ k, k < j ∧ q k = true
      · obtain ⟨k, hk, hqk⟩ := hx
        exact ih k hk (by omega) hqk
      · have hb : ∀ k, k < j → q k = false := fun k hk => by cases e : q k; rfl; exact absurd ⟨k, hk, e⟩ hx
        exact ⟨j, hj, idxQ_at hb hj hq, hq, hb⟩
  · left
    have hb : ∀ k, k < n → q k = false := fun k hk => by cases e : q k; rfl; exact absurd ⟨k, hk, e⟩ h
    exact ⟨idxQ_none hb, hb⟩
/-- scores of a valid list's neighbours are small. -/
theorem sc_in {p : Pla} {n : Nea} (hp : vPlanB p = true) (h3 : 0 ≤ n.ld) (h4 : n.ld ≤ 255) (h5 : -2000 ≤ n.lv ∧ n.lv ≤ 1000) : -3000 ≤ scI p n ∧ scI p n ≤ 1000 := by
  obtain ⟨_, _, w1, w2⟩ := plan_w hp
  have := pen_in w1 w2 h3 h4
  unfold scI
  omega
theorem list_good {l : List Nea} (h : listB l = true) {n : Nea} (hn : n ∈ l) : (1 ≤ n.ch ∧ n.ch ≤ 64) ∧ (-2000 ≤ n.lv ∧ n.lv ≤ 1000) ∧ 0 ≤ n.ld ∧ n.ld ≤ 255 := by
  obtain ⟨i, hi, rfl⟩ := List.mem_iff_getElem.1 hn
  have h1 := (listB_iff.1 h).2 i hi
  obtain ⟨_, h1, h2, h3⟩ := goodN_iff.1 h1
  rw [List.getD_eq_getElem?_getD, List.getElem?_eq_getElem hi] at h1 h2 h3
  simp only [Option.getD_some, inB, decide_eq_true_eq] at h1 h2 h3
  exact ⟨h1, h2, h3⟩
theorem good_one {n : Nea} (h1 : 1 ≤ n.ch ∧ n.ch ≤ 64) (h2 : -2000 ≤ n.lv ∧ n.lv ≤ 1000) (h3 : 0 ≤ n.ld ∧ n.ld ≤ 255) : listB [n] = true := by
  refine listB_iff.2 ⟨Nat.le_of_ble_eq_true rfl, fun i hi => ?_⟩
  obtain rfl : i = 0 := by simp at hi; exact hi
  refine goodN_iff.2 ⟨anyN_f.2 fun k hk => absurd hk (by omega), ?_, ?_, ?_⟩ <;> simp only [inB, decide_eq_true_eq, List.getD_cons_zero] <;> assumption
theorem scB_good {p : Pla} {l : List Nea} {n : Nea} (hp : vPlanB p = true) (h : listB l = true) (hn : n ∈ l) : scB p n = scI p n := by
  obtain ⟨h1, h2, h3⟩ := list_good h hn
  unfold scB oneB
  rw [hp, good_one h1 h2 h3]
  rfl
theorem getD_mem {V : Type} {l : List V} {i : Nat} (h : i < l.length) (z : V) : l.getD i z ∈ l := by
  rw [List.getD_eq_getElem?_getD, List.getElem?_eq_getElem h]
  exact List.getElem_mem h
theorem own_uniq {s : Stt} {l : List Nea} (h : listB l = true) {i j : Nat} (hi : i < l.length) (hj : j < l.length) (h1 : ownQ s l i = true) (h2 : ownQ s l j = true) : i = j := by
  have e1 : (l.getD i n0_).pt = s.pt := of_decide_eq_true h1
  have e2 : (l.getD j n0_).pt = s.pt := of_decide_eq_true h2
  have hne : ∀ a b, a < b → b < l.length → ¬ (l.getD a n0_).pt = (l.getD b n0_).pt := fun a b hab hb => anyN_f.1 (goodN_iff.1 ((listB_iff.1 h).2 b hb)).1 a hab
  rcases Nat.lt_trichotomy i j with h3 | h3 | h3
  · exact absurd (e1.trans e2.symm) (hne i j h3 hj)
  · exact h3
  · exact absurd (e2.trans e1.symm) (hne j i h3 hi)
end Go.Proofs.Ytlfghljgilmenaa
