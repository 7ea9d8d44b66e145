/-
  The law 'FragmentOld' walked.
-/
import Derived.Test.YtglmcnjkcmbefaaVJb
namespace Go.Proofs.Ytglmcnjkcmbefaa
open Go Go.RowKit Go.Hs C05
/-- what is made of partial frames, told as lasting. -/
theorem Ct.letP {P : Program} {f : FuncId} {args : List Value} {Γ : List OA} {Φ : List SP} {X : Type} {pf : X → Prop} {ret : X → Value} {t bt : TypeId} {o : X → Value} {D : X → List Pa}
    (h : Ct P f args Γ Φ pf ret (fun x => [.row (o x) t 43 (D x).length (fcP (D x)), pk (rowsL bt (dlP (D x)))]) (fun _ => [])) :
    Ct P f args Γ Φ pf ret (fun _ => []) (fun x => [Rw 43 (o x) (D x).length (fun i => ((D x).getD i p0_).cells), Bd (D x)]) := by
  intro w O0 h0 ho hs
  refine (h w O0 h0 ho hs).mono fun e w' ⟨x, hp, he, hm, ho', hf, hs'⟩ => ⟨x, hp, he, hm, trivial, fun k hk => ?_, ?_⟩
  · obtain ⟨y, hy, _⟩ := hk
    cases hy
  · have hh : Holds { P := P, n := 0, w0 := w, O0 := O0, M := fpL Γ, rd := none, ds := [] } [.row (o x) t 43 (D x).length (fcP (D x)), pk (rowsL bt (dlP (D x)))] [] w' := ⟨hm, ho', hf, h0, hs'⟩
    have h1 := (Holds.letgo hh)
    have h3 : Holds { P := P, n := 0, w0 := w, O0 := O0, M := fpL Γ, rd := none, ds := [] } [] (Bd (D x) :: [Sl 43 (o x) (D x).length (fcP (D x))]) w' := Holds.bd h1
    intro ψ hψ
    rcases List.mem_cons.1 hψ with rfl | hψ
    · exact ent_slP (Φ := Bd (D x) :: [Sl 43 (o x) (D x).length (fcP (D x))]) (List.mem_cons_of_mem _ List.mem_cons_self) w' _ h3.sp
    · rcases List.mem_singleton.1 hψ with rfl
      exact h3.sp _ List.mem_cons_self
theorem expS_fn (v : Value) (l : List Pa) (now : Int) (e n : Int) (L : List Pz) (he : exE (l.map Pa.z) now = e) (hn : exN (l.map Pa.z) now = n) (hL : exL (l.map Pa.z) now = L) (hw : ∀ p ∈ l, p.w) : Ct Try.prog 17 [.agg #[v], .int .i64 now] [] [Rw 43 v l.length (fun i => (l.getD i p0_).cells), Bd l]
    (X := Value × List Pa) (fun x => x.2.map Pa.z = L) (fun x => .tuple #[.agg #[x.1], .int .i64 n, .int .i64 e]) (fun _ => []) (fun x => [Rw 43 x.1 x.2.length (fun i => (x.2.getD i p0_).cells), Bd x.2]) := by
  subst he; subst hn; subst hL
  exact Ct.letP (expire_fn v l now hw)
/-- partial frames that are fresh, counted. -/
def cntF (now : Int) (L : List Pz) (k : Nat) : Nat := ((L.take k).filter (freshP now)).length
attribute [local irreducible] WL W WQ PL Runs Effs AllE Ent SubO FrIn Pick OneC Ones CellsE PartsE SeqE UZ By Sl Pt Ct

end Go.Proofs.Ytglmcnjkcmbefaa
