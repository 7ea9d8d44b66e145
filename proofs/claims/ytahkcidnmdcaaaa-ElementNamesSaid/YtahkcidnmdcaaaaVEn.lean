/-
  Sizes of lists, and the reference's Count, Depth, weight, Great.
-/
import Derived.Test.YtahkcidnmdcaaaaVEm
import Derived.Test.YtahkcidnmdcaaaaVEg
import Derived.Test.YtahkcidnmdcaaaaXb
namespace Go.Proofs.Ytahkcidnmdcaaaa
open Go Go.RowKit Go.Hs
attribute [local irreducible] WL W WQ PL Runs Effs AllE Ent SubO FrIn Pick OneC Ones CellsE PartsE SeqE UZ By Sl Pt Ct

def dat : Fo → Nat
  | .nil => 0
  | .cons _ _ data subs next => data.length + dat subs + dat next
/-- a list as the statements bound it. -/
def Sm (t : Fo) : Prop := cnt t ≤ 400 ∧ dep t ≤ 10 ∧ dat t ≤ 50000
theorem flen_cnt : ∀ (t : Fo), flen t ≤ cnt t
  | .nil => Nat.le_refl _
  | .cons _ _ _ subs next => by
    have h2 := flen_cnt next
    simp only [flen, cnt]
    omega
theorem len_cnt (t : T) : t.len ≤ cnt t.er := by
  rw [← flen_er]
  exact flen_cnt _
theorem at_sub : ∀ {t : T} {k : Nat} {id ext : UInt8} {dv : Value} {data : List UInt8} {sv : Value} {subs next : T}, t.drop k = .cons id ext dv data sv subs next →
    1 + cnt subs.er + cnt next.er ≤ cnt t.er ∧ 1 + dep subs.er ≤ dep t.er ∧ dep next.er ≤ dep t.er ∧ data.length + dat subs.er + dat next.er ≤ dat t.er
  | .nil, k, _, _, _, _, _, _, _, h => by rw [T.drop_nil] at h; cases h
  | .cons _ _ _ _ _ _ _, 0, _, _, _, _, _, _, _, h => by
    simp only [T.drop, T.cons.injEq] at h
    obtain ⟨rfl, rfl, rfl, rfl, rfl, rfl, rfl⟩ := h
    simp only [T.er, cnt, dep, dat]
    omega
  | .cons _ _ _ _ _ s n, k + 1, _, _, _, _, _, _, _, h => by
    have := at_sub (t := n) h
    simp only [T.er, cnt, dep, dat]
    omega
theorem Sm.sub {t : T} {k : Nat} {id ext : UInt8} {dv : Value} {data : List UInt8} {sv : Value} {subs next : T} (h : Sm t.er) (e : t.drop k = .cons id ext dv data sv subs next) : Sm subs.er := by
  obtain ⟨h1, h2, h3⟩ := h
  have := at_sub e
  exact ⟨by omega, by omega, by omega⟩

end Go.Proofs.Ytahkcidnmdcaaaa
