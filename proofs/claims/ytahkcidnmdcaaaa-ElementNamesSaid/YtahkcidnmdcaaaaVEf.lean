/-
  What the reference decodes.
-/
import Derived.Test.YtahkcidnmdcaaaaVEe
namespace Go.Proofs.Ytahkcidnmdcaaaa
open Go Go.RowKit Go.Hs
attribute [local irreducible] WL W WQ PL Runs Effs AllE Ent SubO FrIn Pick OneC Ones CellsE PartsE SeqE UZ By Sl Pt Ct

def RdecCt (f : Nat) : Prop := ∀ (v : Value) (xs : List UInt8) (dep m : Nat), xs.length ≤ f → xs.length ≤ 1000000000 → (dep ≤ 4 ∨ xs.length = 0) → m ≤ 64 →
  Ct Try.prog 33 [v, .int .i64 (dep : Int), .int .i64 (m : Int)] [] [By v xs]
    (X := Value × T × Nat × Int) (fun x => dec f xs dep m = (x.2.1.er, x.2.2.1, x.2.2.2)) (fun x => .tuple #[x.1, .int .i64 (x.2.2.1 : Int), .int .i64 x.2.2.2])
    (fun _ => []) (fun x => [Rw 4 x.1 x.2.1.len x.2.1.at_, x.2.1.tf])

theorem WQ_none2 {C : Ctx} {fr : Fr} {Γ : List OA} {Φ : List SP} {Q : Exit → Act → World → Prop} {e : Exit}
    (h : WQ C e fr Γ (T.nil.tf :: Rw 4 (.slice none 0 0) T.nil.len T.nil.at_ :: Φ) Q) : WQ C e fr Γ Φ Q := WQ_ent ent_nilRw (WQ_ent ent_tf0 h)

end Go.Proofs.Ytahkcidnmdcaaaa
