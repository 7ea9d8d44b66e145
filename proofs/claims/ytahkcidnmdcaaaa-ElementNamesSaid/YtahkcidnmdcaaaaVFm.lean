/-
  The law 'ElementFinds' walked.
-/
import Derived.Test.YtahkcidnmdcaaaaVFk
namespace Go.Proofs.Ytahkcidnmdcaaaa
open Go Go.RowKit Go.Hs

abbrev one_ (id ext : UInt8) (dv : Value) (data : List UInt8) (sv : Value) (subs : T) : T := .cons id ext dv data sv subs .nil
theorem ent_cutT {Φ : List SP} {v : Value} {t : T} {k : Nat} {id ext : UInt8} {dv : Value} {data : List UInt8} {sv : Value} {subs next : T} (h : Sl 4 v t.len t.cells ∈ Φ) (e : t.drop k = .cons id ext dv data sv subs next) (hk : k < t.len) :
    Ent Φ (Rw 4 (cutV 4 k (k + 1) v) (one_ id ext dv data sv subs).len (one_ id ext dv data sv subs).at_) := fun w O hw => by
  have h1 := ent_cut (lo := k) (hi := k + 1) h (by omega) (by omega) w O hw
  have e1 : (t.cells.drop (k * 4)).take ((k + 1 - k) * 4) = (one_ id ext dv data sv subs).cells := by
    rw [show (k + 1 - k) * 4 = 4 by omega, T.cells_at t k hk, T.at_cons e]
    rfl
  rw [e1, show k + 1 - k = 1 by omega] at h1
  exact slT_rw h1

attribute [local irreducible] WL W WQ PL Runs Effs AllE Ent SubO FrIn Pick OneC Ones CellsE PartsE SeqE UZ By Sl Pt Ct
end Go.Proofs.Ytahkcidnmdcaaaa
