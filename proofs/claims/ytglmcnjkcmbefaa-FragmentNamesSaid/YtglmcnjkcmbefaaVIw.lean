/-
  Plain laws of collectors: what is collected stays valid; what is collected is what was cut.
-/
import Derived.Test.YtglmcnjkcmbefaaVIs
namespace Go.Proofs.Ytglmcnjkcmbefaa
open Go Go.RowKit Go.Hs C05
theorem rng_iff {h : Hd} (e : hdB h = true) : (0 ≤ h.dur ∧ h.dur ≤ 32767) ∧ (0 ≤ h.seq ∧ h.seq ≤ 4095) ∧ (0 ≤ h.frag ∧ h.frag ≤ 15) ∧ (0 ≤ h.tid ∧ h.tid ≤ 7) := by
  unfold hdB at e
  rw [Bool.and_eq_true, Bool.and_eq_true, Bool.and_eq_true] at e
  have e2 := e.2.2.1
  unfold rngB at e2
  simp only [Bool.and_eq_true, decide_eq_true_eq] at e2
  exact ⟨e2.1, e2.2.1, e2.2.2.1, e2.2.2.2.1⟩
/-- a frame that is cut, and the length of its pieces. -/
structure Cx where
  h : Hd
  b : List UInt8
  s : Nat
def Cx.n (c : Cx) : Nat := manyN c.b.length c.s
def Cx.ok (c : Cx) : Prop := c.h.more = false ∧ c.h.frag = 0 ∧ 1 ≤ c.s ∧ c.n ≤ 16
def Cx.pc (c : Cx) (j : Nat) (r : Bool) : Hd := { c.h with frag := (j : Int), more := decide (j + 1 < c.n), retry := r }
def InvP (F : List Cx) (p : Pz) : Prop := ∃ c ∈ F, ∃ r, p.head = c.pc 0 r ∧ ∃ n : Nat, p.next = n ∧ 1 ≤ n ∧ n < c.n ∧ p.body = c.b.take (n * c.s)
def difF (F : List Cx) : Prop := ∀ c ∈ F, ∀ d ∈ F, stO c.h = stO d.h → c.h.seq = d.h.seq → c = d
end Go.Proofs.Ytglmcnjkcmbefaa
