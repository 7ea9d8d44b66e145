/-
  The law 'FragmentTrue' walked.
-/
import Derived.Test.YtglmcnjkcmbefaaVIv
namespace Go.Proofs.Ytglmcnjkcmbefaa
open Go Go.RowKit Go.Hs C05
/-- an event. -/
structure Mv where
  wait : Int
  frame : Int
  piece : Int
  retry : Bool
@[reducible] def Mv.cells (v : Mv) : List Value := [.int .i64 v.wait, .int .i64 v.frame, .int .i64 v.piece, .bool v.retry]
/-- lists of frames last. -/
def Cs (C : List (Value × List Fm)) : SP := ⟨fun w O => ∀ x ∈ C, (Rw 41 x.1 x.2.length (fun i => (x.2.getD i f0_).cells)).p w O ∧ (Bf x.2).p w O, fun h hm ho x hx => ⟨(Rw 41 x.1 x.2.length (fun i => (x.2.getD i f0_).cells)).st (h x hx).1 hm ho, (Bf x.2).st (h x hx).2 hm ho⟩⟩
def c0_ : Value × List Fm := (.slice none 0 0, [])
def cutI (D : List Fm) (n : Nat) (g : Nat → Int) (C : List (Value × List Fm)) (k : Nat) : Prop :=
  cutE (D.getD k f0_).head (D.getD k f0_).body (g (k % n)) = 0 ∧ (C.getD k c0_).2.map Fmz = cutL (D.getD k f0_).head (D.getD k f0_).body (g (k % n))
def cx (D : List Fm) (n : Nat) (g : Nat → Int) (k : Nat) : Cx := ⟨(D.getD k f0_).head, (D.getD k f0_).body, (g (k % n)).toNat⟩
attribute [local irreducible] WL W WQ PL Runs Effs AllE Ent SubO FrIn Pick OneC Ones CellsE PartsE SeqE UZ By Sl Pt Ct

end Go.Proofs.Ytglmcnjkcmbefaa
