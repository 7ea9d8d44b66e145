/-
  The law 'AggregatePacks' walked.
-/
import Derived.Test.YtdhbgolbfkejcaaDoorVMh
namespace Go.Proofs.YtdhbgolbfkejcaaDoor
open Go Go.RowKit Go.Hs C01 C08
theorem own_pks {bt : TypeId} {w : World} {O : Nat → Prop} : ∀ (k : List PK), Own (rowsL bt (dlK k)) w → (∀ j, fpL (rowsL bt (dlK k)) j → ¬ O j) → ∀ p ∈ k, (By p.dv p.data).p w O
  | [], _, _, p, hp => by cases hp
  | q :: r, h1, h2, p, hp => by
    rcases List.mem_cons.1 hp with rfl | hp
    · exact slP_of_row h1.1 fun j hj => h2 j (fpL_cons.2 (.inl hj))
    · exact own_pks r h1.2.2 (fun j hj => h2 j (fpL_cons.2 (.inr hj))) p hp
theorem getPK {l : List PK} {i : Nat} (h : i < l.length) : l.getD i pk0 ∈ l := by
  rw [List.getD_eq_getElem?_getD, List.getElem?_eq_getElem h]
  exact List.getElem_mem h
/-- a list of packets is lent with its data. -/
theorem Bor.pks {Φ : List SP} {et bt : TypeId} {o : Value} {l : List PK} : Bor [.row o et 13 l.length (fcK l), pk (rowsL bt (dlK l))] Φ (Rw 13 o l.length (fun i => (l.getD i pk0).cells) :: Al l.length (fun i => By (l.getD i pk0).dv (l.getD i pk0).data) :: Φ) := fun w O ho hd hΦ ψ hψ => by
  rcases List.mem_cons.1 hψ with rfl | hψ
  · exact Bor.rowG (cf := PK.cells) (S := 13) (Φ := Φ) (et := et) pk_len pk0 rfl rfl w O ⟨ho.1, fun _ _ h => (by obtain ⟨a, ha, _⟩ := h; cases ha), trivial⟩ (fun k hk => hd k (by
      rcases fpL_cons.1 hk with hk | hk
      · exact fpL_cons.2 (.inl hk)
      · obtain ⟨a, ha, _⟩ := hk; cases ha)) hΦ _ List.mem_cons_self
  · rcases List.mem_cons.1 hψ with rfl | hψ
    · exact fun i hi => own_pks l ho.2.2.1 (fun k hk => hd k (fpL_cons.2 (.inr (fpL_cons.2 (.inl hk))))) _ (getPK hi)
    · exact hΦ ψ hψ
theorem Holds.pks {C : Ctx} {Γ : List OA} {Φ : List SP} {bt : TypeId} {k : List PK} {w : World} (h : Holds C (pk (rowsL bt (dlK k)) :: Γ) Φ w) : Holds C Γ (Al k.length (fun i => By (k.getD i pk0).dv (k.getD i pk0).data) :: Φ) w := by
  have hd : ∀ j, fpL (rowsL bt (dlK k)) j → ¬ avo C.O0 Γ j := fun j hj hn => by
    rcases hn with hn | hn
    · have h1 := h.o0 j hn
      rcases h.ofp j (fpL_cons.2 (.inl hj)) with h2 | h2
      · exact h1.2 h2
      · omega
    · exact h.own.2.1 j hj hn
  have ho : Own (rowsL bt (dlK k)) w := h.own.1
  exact h.drop.cons (fun i hi => own_pks k ho hd _ (getPK hi))
/-- what Unpack makes, told as lasting. -/
theorem Ct.letK {P : Program} {f : FuncId} {args : List Value} {Γ : List OA} {Φ : List SP} {X : Type} {pf : X → Prop} {ret : X → Value} {t bt : TypeId} {o : X → Value} {D : X → List PK}
    (h : Ct P f args Γ Φ pf ret (fun x => [.row (o x) t 13 (D x).length (fcK (D x)), pk (rowsL bt (dlK (D x)))]) (fun _ => [])) :
    Ct P f args Γ Φ pf ret (fun _ => []) (fun x => [Rw 13 (o x) (D x).length (fun i => ((D x).getD i pk0).cells), Al (D x).length (fun i => By ((D x).getD i pk0).dv ((D x).getD i pk0).data)]) := by
  intro w O0 h0 ho hs
  refine (h w O0 h0 ho hs).mono fun e w' ⟨x, hp, he, hm, ho', hf, hs'⟩ => ⟨x, hp, he, hm, trivial, fun k hk => ?_, ?_⟩
  · obtain ⟨y, hy, _⟩ := hk
    cases hy
  · have hh : Holds { P := P, n := 0, w0 := w, O0 := O0, M := fpL Γ, rd := none, ds := [] } [.row (o x) t 13 (D x).length (fcK (D x)), pk (rowsL bt (dlK (D x)))] [] w' := ⟨hm, ho', hf, h0, hs'⟩
    have h1 := (Holds.letgo hh)
    have h3 := Holds.pks h1
    intro ψ hψ
    rcases List.mem_cons.1 hψ with rfl | hψ
    · exact ent_slG (cf := PK.cells) (Φ := [Al (D x).length (fun i => By ((D x).getD i pk0).dv ((D x).getD i pk0).data), Sl 13 (o x) (D x).length (fcK (D x))]) pk_len pk0 (List.mem_cons_of_mem _ List.mem_cons_self) rfl rfl w' _ h3.sp
    · rcases List.mem_singleton.1 hψ with rfl
      exact h3.sp _ List.mem_cons_self
theorem unpackL_fn (v : Value) (bs : List UInt8) : Ct Tryd.prog 9 [v] [] [By v bs, tbF, tbA]
    (X := Value × List PK) (fun x => x.2.map PKz = (unE bs).1) (fun x => .tuple #[x.1, .int .i64 (unE bs).2]) (fun _ => []) (fun x => [Rw 13 x.1 x.2.length (fun i => (x.2.getD i pk0).cells), Al x.2.length (fun i => By (x.2.getD i pk0).dv (x.2.getD i pk0).data)]) := Ct.letK (unpack_fn v bs)
theorem packL_fn (v : Value) (ps : List PK) : Ct Tryd.prog 7 [v] [] [Rw 13 v ps.length (fun i => (ps.getD i pk0).cells), Al ps.length (fun i => By (ps.getD i pk0).dv (ps.getD i pk0).data)]
    (X := Value) (fun _ => True) (fun x => .tuple #[x, .int .i64 (jkE ps).2]) (fun _ => []) (fun x => [By x (jkE ps).1]) := Ct.letB (bs := fun _ => (jkE ps).1) (pack_fn v ps) (fun _ => rfl)
def flip8 (a : UInt8) : UInt8 := a ^^^ 255
attribute [local irreducible] WL W WQ PL Runs Effs AllE Ent SubO FrIn Pick OneC Ones CellsE PartsE SeqE UZ By Sl Pt Ct

end Go.Proofs.YtdhbgolbfkejcaaDoor
