/-
  The reference's Bytes, long, Check, Encode.
-/
import Derived.Test.YtahkcidnmdcaaaaVEo
namespace Go.Proofs.Ytahkcidnmdcaaaa
open Go Go.RowKit Go.Hs
attribute [local irreducible] WL W WQ PL Runs Effs AllE Ent SubO FrIn Pick OneC Ones CellsE PartsE SeqE UZ By Sl Pt Ct

def BytesCt (N : Nat) : Prop := ∀ (t : T) (v : Value), t.size < N → Sm t.er → Ct Try.prog 37 [v] [] [Rw 4 v t.len t.at_, t.tf]
    (X := Value) (fun _ => True) (fun x => x) (fun x => [.row x 5 1 (enc t.er).length ((enc t.er).map bcell)]) (fun _ => [])
def LF (t : T) (v : Value) : List SP := [Rw 4 v t.len t.at_, t.tf]

theorem inn_le {t : T} {k : Nat} {id ext : UInt8} {dv : Value} {data : List UInt8} {sv : Value} {subs next : T} (h : Sm t.er) (e : t.drop k = .cons id ext dv data sv subs next) : (inn id data (enc subs.er)).length ≤ 60000000 := by
  have h1 := (h.sub e).enc_le
  have h2 := (at_sub e).2.2.2
  have h3 := h.2.2
  unfold inn
  split <;> omega
theorem enc_drop {t : T} {k : Nat} {id ext : UInt8} {dv : Value} {data : List UInt8} {sv : Value} {subs next : T} (e : t.drop k = .cons id ext dv data sv subs next) :
    enc (t.drop k).er = (id :: bod (withX id ext (inn id data (enc subs.er))).length (withX id ext (inn id data (enc subs.er)))) ++ enc (t.drop (k + 1)).er := by
  rw [T.drop_next e, e]
  rfl

end Go.Proofs.Ytahkcidnmdcaaaa
