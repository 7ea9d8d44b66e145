/-
  The law 'AggregatePacks' walked.
-/
import Derived.Test.YtdhbgolbfkejcaaDoorVMh
namespace Go.Proofs.YtdhbgolbfkejcaaDoor
open Go Go.RowKit Go.Hs C01 C08
theorem own_pks {bt : TypeId} {w : World} {O : Nat → Prop} : ∀ (k : List PK), Own (rowsL bt (dlK k)) w → (∀ j, fpL (rowsL bt (dlK k)) j → ¬ O j) → ∀ p ∈ k, (By p.dv p.data).p w O
  | [], _, _, p, hp => by cases hp
  | q :: r, h1, h2, p, hp => by
    rcases List.mem_cons.1 hp with rfl | hp
    · exact slP_of_row h1.1 fun j hj => h2 j (fpL_cons.2 (.inl hj))
    · exact own_pks r h1.2.2 (fun j hj => h2 j (fpL_cons.2 (.inr hj))) p hp
theorem getPK {l : List PK} {i : Nat} (h : i < l.length) : l.getD i pk0 ∈ l := by
  rw [List.getD_eq_getElem?_getD, List.getElem?_eq_getElem h]
  exact List.getElem_mem h
/-- a list of packets is lent with its data. -/
theorem Bor.pks {Φ : List SP} {et bt : TypeId} {o : Value} {l : List PK} : Bor [.row o et 13 l.length (fcK l), pk (rowsL bt (dlK l))] Φ (Rw 13 o l.length (fun i => (l.getD i pk0).cells) :: Al l.length (fun i => By (l.getD i pk0).dv (l.getD i pk0).data) :: Φ) := fun w O ho hd hΦ ψ hψ => by
  rcases List.mem_cons.1 hψ with rfl | hψ
  · exact Bor.rowG (cf := PK.cells) (S := 13) (Φ := Φ) (et := et) pk_len pk0 rfl rfl w O ⟨ho.1, fun _ _ h => (by obtain ⟨a, ha, _⟩ := h; cases ha), trivial⟩ (fun k hk => hd k (by
      rcases fpL_cons.1 hk with hk | hk
      · exact fpL_cons.2 (.inl hk)
      · obtain ⟨a, ha, _⟩ := hk; cases ha)) hΦ _ List.mem_cons_self
  · rcases List.mem_cons.1 hψ with rfl | hψ
    · exact fun i hi => own_pks l ho.2.2.1 (fun k hk => hd k (fpL_cons.2 (.inr (fpL_cons.2 (.inl hk))))) _ (getPK hi)
    · exact hΦ ψ hψ
theorem Holds.pks {C : Ctx} {Γ : List OA} {Φ : List SP} {bt : TypeId} {k : List PK} {w : World} (h : Holds C (pk (rowsL bt (dlK k)) :: Γ) Φ w) : Holds C Γ (Al k.length (fun i => By (k.getD i pk0).dv (k.getD i pk0).data) :: Φ) w := by
  have hd : ∀ j, fpL (rowsL bt (dlK k)) j → ¬ avo C.O0 Γ j := fun j hj hn => by
    rcases hn with hn | hn
    · have h1 := h.o0 j hn
      rcases h.ofp j (fpL_cons.2 (.inl hj)) with h2 | h2
      · exact h1.2 h2
      · omega
    · exact h.own.2.1 j hj hn
  have ho : Own (rowsL bt (dlK k)) w := h.own.1
  exact h.drop.cons (fun i hi => own_pks k ho hd _ (getPK hi))
/-- what Unpack makes, told as lasting. -/
theorem Ct.letK {P : Program} {f : FuncId} {args : List Value} {Γ : List OA} {Φ : List SP} {X : Type} {pf : X → Prop} {ret : X → Value} {t bt : TypeId} {o : X → Value} {D : X → List PK}
    (h : Ct P f args Γ Φ pf ret (fun x => [.row (o x) t 13 (D x).length (fcK (D x)), pk (rowsL bt (dlK (D x)))]) (fun _ => [])) :
    Ct P f args Γ Φ pf ret (fun _ => []) (fun x => [Rw 13 (o x) (D x).length (fun i => ((D x).getD i pk0).cells), Al (D x).length (fun i => By ((D x).getD i pk0).dv ((D x).getD i pk0).data)]) := by
  intro w O0 h0 ho hs
  refine (h w O0 h0 ho hs).mono fun e w' ⟨x, hp, he, hm, ho', hf, hs'⟩ => ⟨x, hp, he, hm, trivial, fun k hk => ?_, ?_⟩
  · obtain ⟨y, hy, _⟩ := hk
    cases hy
  · have hh : Holds { P := P, n := 0, w0 := w, O0 := O0, M := fpL Γ, rd := none, ds := [] } [.row (o x) t 13 (D x).length (fcK (D x)), pk (rowsL bt (dlK (D x)))] [] w' := ⟨hm, ho', hf, h0, hs'⟩
    have h1 := (Holds.letgo hh)
    have h3 := Holds.pks h1
    intro ψ hψ
    rcases List.mem_cons.1 hψ with rfl | hψ
    · exact ent_slG (cf := PK.cells) (Φ := [Al (D x).length (fun i => By ((D x).getD i pk0).dv ((D x).getD i pk0).data), Sl 13 (o x) (D x).length (fcK (D x))]) pk_len pk0 (List.mem_cons_of_mem _ List.mem_cons_self) rfl rfl w' _ h3.sp
    · rcases List.mem_singleton.1 hψ with rfl
      exact h3.sp _ List.mem_cons_self
theorem runpackL_fn (v : Value) (bs : List UInt8) : Ct Tryd.prog 10 [v] [] [By v bs]
    (X := Value × List PK) (fun x => x.2.map PKz = (unE bs).1) (fun x => .tuple #[x.1, .int .i64 (unE bs).2]) (fun _ => []) (fun x => [Rw 13 x.1 x.2.length (fun i => (x.2.getD i pk0).cells), Al x.2.length (fun i => By (x.2.getD i pk0).dv (x.2.getD i pk0).data)]) := Ct.letK (runpack_fn v bs)
theorem packL_fn (v : Value) (ps : List PK) : Ct Tryd.prog 7 [v] [] [Rw 13 v ps.length (fun i => (ps.getD i pk0).cells), Al ps.length (fun i => By (ps.getD i pk0).dv (ps.getD i pk0).data)]
    (X := Value) (fun _ => True) (fun x => .tuple #[x, .int .i64 (jkE ps).2]) (fun _ => []) (fun x => [By x (jkE ps).1]) := Ct.letB (bs := fun _ => (jkE ps).1) (pack_fn v ps) (fun _ => rfl)
theorem rpackL_fn (v : Value) (ps : List PK) : Ct Tryd.prog 8 [v] [] [Rw 13 v ps.length (fun i => (ps.getD i pk0).cells), Al ps.length (fun i => By (ps.getD i pk0).dv (ps.getD i pk0).data)]
    (X := Value) (fun _ => True) (fun x => .tuple #[x, .int .i64 (jkE ps).2]) (fun _ => []) (fun x => [By x (jkE ps).1]) := Ct.letB (bs := fun _ => (jkE ps).1) (rpack_fn v ps) (fun _ => rfl)
theorem fcK_dv {D : List PK} {k : Nat} (h : k < D.length) : (fcK D)[k * 13 + 12]? = some (D.getD k pk0).dv := by
  have e := fc_at pk_len D k h pk0
  have e2 : ((D.getD k pk0).cells)[12]? = some (D.getD k pk0).dv := rfl
  rw [← e, List.getElem?_take_of_lt (by omega), List.getElem?_drop] at e2
  exact e2
theorem dlK_at {D : List PK} {k : Nat} {L : List (Value × List UInt8)} (hL : L.map Prod.fst = (dlK D).map Prod.fst) (h : k < D.length) : ∃ bs, L[k]? = some ((D.getD k pk0).dv, bs) := by
  have e : (L.map Prod.fst)[k]? = some (D.getD k pk0).dv := by
    rw [hL]
    unfold dlK
    rw [List.map_map, List.getElem?_map, List.getD_eq_getElem?_getD, List.getElem?_eq_getElem h]
    rfl
  rw [List.getElem?_map] at e
  cases h2 : L[k]? with
  | none => rw [h2] at e; cases e
  | some p =>
    rw [h2] at e
    refine ⟨p.2, ?_⟩
    rw [← Option.some.inj e]
theorem cell_setB (ys : List UInt8) (k : Nat) (b : UInt8) : (ys.map bcell).set k (.int .u8 (b.toNat : Int)) = (ys.set k b).map bcell := by
  rw [List.map_set]
  rfl
theorem set_same {α β : Type} {l : List (α × β)} {i : Nat} {a : α} {b c : β} (h : l[i]? = some (a, b)) : (l.set i (a, c)).map Prod.fst = l.map Prod.fst := by
  rw [List.map_set]
  obtain ⟨hl, e⟩ := List.getElem?_eq_some_iff.1 h
  have e2 : (l.map Prod.fst)[i]'(by rw [List.length_map]; exact hl) = a := by rw [List.getElem_map, e]
  show (l.map Prod.fst).set i a = _
  rw [← e2, List.set_getElem_self]
theorem bc_at {ys : List UInt8} {j : Nat} (h : j < ys.length) : (ys.map bcell)[j]? = some (bcell (ys.getD j 0)) := by
  rw [List.getElem?_map, List.getElem?_eq_getElem h, List.getD_eq_getElem?_getD, List.getElem?_eq_getElem h]
  rfl
def flip8 (a : UInt8) : UInt8 := a ^^^ 255
theorem xor_ff (a : UInt8) : bits .xor .u8 (a.toNat : Int) 255 = ((flip8 a).toNat : Int) := by
  have h : ∀ n : Fin 256, bits .xor .u8 (n.val : Int) 255 = ((flip8 (UInt8.ofNat n.val)).toNat : Int) := by decide +kernel
  have := h ⟨a.toNat, a.toNat_lt⟩
  rwa [show UInt8.ofNat a.toNat = a from UInt8.ofNat_toNat] at this
attribute [local irreducible] WL W WQ PL Runs Effs AllE Ent SubO FrIn Pick OneC Ones CellsE PartsE SeqE UZ By Sl Pt Ct

set_option maxRecDepth 100000 in
set_option maxHeartbeats 32000000 in
theorem packsLaw_fn (v : Value) (ps : List PK) (u : Value) (qs : List PK) (z : Value) (bs : List UInt8) : CtD Tryd.prog 3 [v, u, z]
    [Rw 13 v ps.length (fun i => (ps.getD i pk0).cells), Al ps.length (fun i => By (ps.getD i pk0).dv (ps.getD i pk0).data), Rw 13 u qs.length (fun i => (qs.getD i pk0).cells), Al qs.length (fun i => By (qs.getD i pk0).dv (qs.getD i pk0).data), By z bs, tbF, tbA] (.bool true) := by
  refine Ct_intro Tryd.func3 rfl Tryd.ntmps3 (by simp) _ rfl (fun w0 O0 => ?_)
  refine W_pure (by_le (v := z) (bs := bs) (by repeat' (first | exact mcs | apply mct))) fun hle => ?_
  repeat (first | refine n1 ?_ | refine n2 (fun b _ => ?_) | refine n3 (fun _ _ => ?_) | refine n4 ?_ | refine n5 ?_ | refine WL_nil ?_ | refine W_seq ?_ | refine W_region ?_ | refine n7 ?_ | refine n8 ?_ | refine W_block ?_ | refine W_skip ?_ | refine W_ret ?_ | refine W_exit ?_ | refine WQ_then ?_ | refine WQ_then_ret ?_ | refine WQ_then_exit ?_ | refine WQ_block_normal ?_ | refine WQ_block_ret ?_ | refine WQ_block_exit ?_ | refine n9 ?_)
  (apply WL_effs; exact rfl; exact rfl; exact rfl; apply E_call; exact rfl; (intro _ _; simp); exact greatK_fn v ps; (repeat (first | exact AllE.nil _ | (apply AllE.cons; (focus (first | exact ent_nilBy | exact ent_nilSl | (apply Ent.mem; repeat' (first | exact mcs | apply mct))))))); (intro _; exact rfl); (intro _; exact rfl))
  intro g1 _
  cases g1 with
  | true =>
    repeat (first | refine n1 ?_ | refine n2 (fun b _ => ?_) | refine n3 (fun _ _ => ?_) | refine n4 ?_ | refine n5 ?_ | refine WL_nil ?_ | refine W_seq ?_ | refine W_region ?_ | refine n7 ?_ | refine n8 ?_ | refine W_block ?_ | refine W_skip ?_ | refine W_ret ?_ | refine W_exit ?_ | refine WQ_then ?_ | refine WQ_then_ret ?_ | refine WQ_then_exit ?_ | refine WQ_block_normal ?_ | refine WQ_block_ret ?_ | refine WQ_block_exit ?_ | refine n9 ?_)
    ((apply ret1 Tryd.results3 ( ())); (focus (first | trivial | assumption | omega)); (focus (first | exact RV_tmp rfl | (apply RV_cellN; exact rfl; (repeat' (first | exact Pick.head _ _ | apply Pick.tail)); (intro _; exact rfl); (intro _; exact rfl); exact rfl) | (apply RV_cell1; exact rfl; (repeat' (first | exact Pick.head _ _ | apply Pick.tail)); (intro _; exact rfl); exact rfl)));  (focus (first | exact rfl | (simp; done))); (focus (repeat (first | exact SubO.nil _ | (apply SubO.cons; (focus (repeat' (first | exact Pick.head _ _ | apply Pick.tail))))))); (focus (repeat (first | exact AllE.nil _ | (apply AllE.cons; (focus (first | exact ent_nilBy | exact ent_nilSl | (apply Ent.mem; repeat' (first | exact mcs | apply mct)))))))))
  | false =>
  repeat (first | refine n1 ?_ | refine n2 (fun b _ => ?_) | refine n3 (fun _ _ => ?_) | refine n4 ?_ | refine n5 ?_ | refine WL_nil ?_ | refine W_seq ?_ | refine W_region ?_ | refine n7 ?_ | refine n8 ?_ | refine W_block ?_ | refine W_skip ?_ | refine W_ret ?_ | refine W_exit ?_ | refine WQ_then ?_ | refine WQ_then_ret ?_ | refine WQ_then_exit ?_ | refine WQ_block_normal ?_ | refine WQ_block_ret ?_ | refine WQ_block_exit ?_ | refine n9 ?_)
  (apply WL_effs; exact rfl; exact rfl; exact rfl; apply E_call; exact rfl; (intro _ _; simp); exact greatK_fn u qs; (repeat (first | exact AllE.nil _ | (apply AllE.cons; (focus (first | exact ent_nilBy | exact ent_nilSl | (apply Ent.mem; repeat' (first | exact mcs | apply mct))))))); (intro _; exact rfl); (intro _; exact rfl))
  intro g2 _
  cases g2 with
  | true =>
    repeat (first | refine n1 ?_ | refine n2 (fun b _ => ?_) | refine n3 (fun _ _ => ?_) | refine n4 ?_ | refine n5 ?_ | refine WL_nil ?_ | refine W_seq ?_ | refine W_region ?_ | refine n7 ?_ | refine n8 ?_ | refine W_block ?_ | refine W_skip ?_ | refine W_ret ?_ | refine W_exit ?_ | refine WQ_then ?_ | refine WQ_then_ret ?_ | refine WQ_then_exit ?_ | refine WQ_block_normal ?_ | refine WQ_block_ret ?_ | refine WQ_block_exit ?_ | refine n9 ?_)
    ((apply ret1 Tryd.results3 ( ())); (focus (first | trivial | assumption | omega)); (focus (first | exact RV_tmp rfl | (apply RV_cellN; exact rfl; (repeat' (first | exact Pick.head _ _ | apply Pick.tail)); (intro _; exact rfl); (intro _; exact rfl); exact rfl) | (apply RV_cell1; exact rfl; (repeat' (first | exact Pick.head _ _ | apply Pick.tail)); (intro _; exact rfl); exact rfl)));  (focus (first | exact rfl | (simp; done))); (focus (repeat (first | exact SubO.nil _ | (apply SubO.cons; (focus (repeat' (first | exact Pick.head _ _ | apply Pick.tail))))))); (focus (repeat (first | exact AllE.nil _ | (apply AllE.cons; (focus (first | exact ent_nilBy | exact ent_nilSl | (apply Ent.mem; repeat' (first | exact mcs | apply mct)))))))))
  | false =>
  by_cases c1 : 2400 < bs.length
  · repeat (first | refine n1 ?_ | refine n2 (fun b _ => ?_) | refine n3 (fun _ _ => ?_) | refine n4 ?_ | refine n5 ?_ | refine WL_nil ?_ | refine W_seq ?_ | refine W_region ?_ | refine n7 ?_ | refine n8 ?_ | refine W_block ?_ | refine W_skip ?_ | refine W_ret ?_ | refine W_exit ?_ | refine WQ_then ?_ | refine WQ_then_ret ?_ | refine WQ_then_exit ?_ | refine WQ_block_normal ?_ | refine WQ_block_ret ?_ | refine WQ_block_exit ?_ | refine n9 ?_)
    ((apply ret1 Tryd.results3 ( ())); (focus (first | trivial | assumption | omega)); (focus (first | exact RV_tmp rfl | (apply RV_cellN; exact rfl; (repeat' (first | exact Pick.head _ _ | apply Pick.tail)); (intro _; exact rfl); (intro _; exact rfl); exact rfl) | (apply RV_cell1; exact rfl; (repeat' (first | exact Pick.head _ _ | apply Pick.tail)); (intro _; exact rfl); exact rfl)));  (focus (first | exact rfl | (simp; done))); (focus (repeat (first | exact SubO.nil _ | (apply SubO.cons; (focus (repeat' (first | exact Pick.head _ _ | apply Pick.tail))))))); (focus (repeat (first | exact AllE.nil _ | (apply AllE.cons; (focus (first | exact ent_nilBy | exact ent_nilSl | (apply Ent.mem; repeat' (first | exact mcs | apply mct)))))))))
  repeat (first | refine n1 ?_ | refine n2 (fun b _ => ?_) | refine n3 (fun _ _ => ?_) | refine n4 ?_ | refine n5 ?_ | refine WL_nil ?_ | refine W_seq ?_ | refine W_region ?_ | refine n7 ?_ | refine n8 ?_ | refine W_block ?_ | refine W_skip ?_ | refine W_ret ?_ | refine W_exit ?_ | refine WQ_then ?_ | refine WQ_then_ret ?_ | refine WQ_then_exit ?_ | refine WQ_block_normal ?_ | refine WQ_block_ret ?_ | refine WQ_block_exit ?_ | refine n9 ?_)
  (apply WL_effs; exact rfl; exact rfl; exact rfl; apply E_call; exact rfl; (intro _ _; simp); exact packL_fn v ps; (repeat (first | exact AllE.nil _ | (apply AllE.cons; (focus (first | exact ent_nilBy | exact ent_nilSl | (apply Ent.mem; repeat' (first | exact mcs | apply mct))))))); (intro _; exact rfl); (intro _; exact rfl))
  intro a _
  repeat (first | refine n1 ?_ | refine n2 (fun b _ => ?_) | refine n3 (fun _ _ => ?_) | refine n4 ?_ | refine n5 ?_ | refine WL_nil ?_ | refine W_seq ?_ | refine W_region ?_ | refine n7 ?_ | refine n8 ?_ | refine W_block ?_ | refine W_skip ?_ | refine W_ret ?_ | refine W_exit ?_ | refine WQ_then ?_ | refine WQ_then_ret ?_ | refine WQ_then_exit ?_ | refine WQ_block_normal ?_ | refine WQ_block_ret ?_ | refine WQ_block_exit ?_ | refine n9 ?_)
  (apply WL_effs; exact rfl; exact rfl; exact rfl; apply E_call; exact rfl; (intro _ _; simp); exact rpackL_fn v ps; (repeat (first | exact AllE.nil _ | (apply AllE.cons; (focus (first | exact ent_nilBy | exact ent_nilSl | (apply Ent.mem; repeat' (first | exact mcs | apply mct))))))); (intro _; exact rfl); (intro _; exact rfl))
  intro c _
  repeat (first | refine n1 ?_ | refine n2 (fun b _ => ?_) | refine n3 (fun _ _ => ?_) | refine n4 ?_ | refine n5 ?_ | refine WL_nil ?_ | refine W_seq ?_ | refine W_region ?_ | refine n7 ?_ | refine n8 ?_ | refine W_block ?_ | refine W_skip ?_ | refine W_ret ?_ | refine W_exit ?_ | refine WQ_then ?_ | refine WQ_then_ret ?_ | refine WQ_then_exit ?_ | refine WQ_block_normal ?_ | refine WQ_block_ret ?_ | refine WQ_block_exit ?_ | refine n9 ?_)
  (apply WL_effs; exact rfl; exact rfl; exact rfl; apply E_call; exact rfl; (intro _ _; simp); exact unpack_fn z bs; (repeat (first | exact AllE.nil _ | (apply AllE.cons; (focus (first | exact ent_nilBy | exact ent_nilSl | (apply Ent.mem; repeat' (first | exact mcs | apply mct))))))); (intro _; exact rfl); (intro _; exact rfl))
  rintro ⟨o, D⟩ hD
  replace hD : D.map PKz = (unE bs).1 := hD
  dsimp only
  repeat (first | refine n1 ?_ | refine n2 (fun b _ => ?_) | refine n3 (fun _ _ => ?_) | refine n4 ?_ | refine n5 ?_ | refine WL_nil ?_ | refine W_seq ?_ | refine W_region ?_ | refine n7 ?_ | refine n8 ?_ | refine W_block ?_ | refine W_skip ?_ | refine W_ret ?_ | refine W_exit ?_ | refine WQ_then ?_ | refine WQ_then_ret ?_ | refine WQ_then_exit ?_ | refine WQ_block_normal ?_ | refine WQ_block_ret ?_ | refine WQ_block_exit ?_ | refine n9 ?_)
  (apply WL_effs; exact rfl; exact rfl; exact rfl; apply E_call; exact rfl; (intro _ _; simp); exact runpackL_fn z bs; (repeat (first | exact AllE.nil _ | (apply AllE.cons; (focus (first | exact ent_nilBy | exact ent_nilSl | (apply Ent.mem; repeat' (first | exact mcs | apply mct))))))); (intro _; exact rfl); (intro _; exact rfl))
  rintro ⟨y, E⟩ hE
  replace hE : E.map PKz = (unE bs).1 := hE
  dsimp only
  generalize jkE ps = J at *
  generalize unE bs = R at *
  obtain ⟨J1, J2⟩ := J
  obtain ⟨R1, R2⟩ := R
  dsimp only at hD hE ⊢
  obtain ⟨gb, hgb⟩ : ∃ b : Bool, b = true ↔ ps.map PKz = qs.map PKz := by
    classical exact ⟨decide _, decide_eq_true_iff⟩
  have m1 := sameK_fn v ps u qs gb hgb
  have m2 := rsameK_fn v ps u qs gb hgb
  have x1 := rsameK_fn o D y E true ⟨fun _ => hD.trans hE.symm, fun _ => rfl⟩
  have x2 := sameK_fn o D y E true ⟨fun _ => hD.trans hE.symm, fun _ => rfl⟩
  have hbb : (gb == gb) = true := by cases gb <;> rfl
  repeat (first | refine n1 ?_ | refine n2 (fun b _ => ?_) | refine n3 (fun _ _ => ?_) | refine n4 ?_ | refine n5 ?_ | refine WL_nil ?_ | refine W_seq ?_ | refine W_region ?_ | refine n7 ?_ | refine n8 ?_ | refine W_block ?_ | refine W_skip ?_ | refine W_ret ?_ | refine W_exit ?_ | refine WQ_then ?_ | refine WQ_then_ret ?_ | refine WQ_then_exit ?_ | refine WQ_block_normal ?_ | refine WQ_block_ret ?_ | refine WQ_block_exit ?_ | refine n9 ?_)
  refine WL_runs rfl rfl rfl (R_callB (Γb := [.row o 38 13 D.length (fcK D), pk (rowsL 5 (dlK D))]) rfl (by intro _ _; simp) x1 (List.Perm.refl _) (Bor.sub Bor.pks (AllIn.cons (by repeat' (first | exact mcs | apply mct)) (AllIn.cons (by repeat' (first | exact mcs | apply mct)) (AllIn.cons (by repeat' (first | exact mcs | apply mct)) (AllIn.cons (by repeat' (first | exact mcs | apply mct)) (AllIn.nil _))))))) ?_
  repeat (first | refine n1 ?_ | refine n2 (fun b _ => ?_) | refine n3 (fun _ _ => ?_) | refine n4 ?_ | refine n5 ?_ | refine n6 (m1) ?_ | refine n6 (m2) ?_ | refine n6v (m1) ?_ | refine n6v (m2) ?_ | refine WL_nil ?_ | refine W_seq ?_ | refine W_region ?_ | refine n7 ?_ | refine n8 ?_ | refine W_block ?_ | refine W_skip ?_ | refine W_ret ?_ | refine W_exit ?_ | refine WQ_then ?_ | refine WQ_then_ret ?_ | refine WQ_then_exit ?_ | refine WQ_block_normal ?_ | refine WQ_block_ret ?_ | refine WQ_block_exit ?_ | refine n9 ?_)
  conv => arg 4; rw [hbb]
  repeat (first | refine n1 ?_ | refine n2 (fun b _ => ?_) | refine n3 (fun _ _ => ?_) | refine n4 ?_ | refine n5 ?_ | refine WL_nil ?_ | refine W_seq ?_ | refine W_region ?_ | refine n7 ?_ | refine n8 ?_ | refine W_block ?_ | refine W_skip ?_ | refine W_ret ?_ | refine W_exit ?_ | refine WQ_then ?_ | refine WQ_then_ret ?_ | refine WQ_then_exit ?_ | refine WQ_block_normal ?_ | refine WQ_block_ret ?_ | refine WQ_block_exit ?_ | refine n9 ?_)
  refine WL_runs rfl rfl rfl (R_callB (Γb := [.row o 38 13 D.length (fcK D), pk (rowsL 5 (dlK D))]) rfl (by intro _ _; simp) x2 (List.Perm.refl _) (Bor.sub Bor.pks (AllIn.cons (by repeat' (first | exact mcs | apply mct)) (AllIn.cons (by repeat' (first | exact mcs | apply mct)) (AllIn.cons (by repeat' (first | exact mcs | apply mct)) (AllIn.cons (by repeat' (first | exact mcs | apply mct)) (AllIn.nil _))))))) ?_
  repeat (first | refine n1 ?_ | refine n2 (fun b _ => ?_) | refine n3 (fun _ _ => ?_) | refine n4 ?_ | refine n5 ?_ | refine WL_nil ?_ | refine W_seq ?_ | refine W_region ?_ | refine n7 ?_ | refine n8 ?_ | refine W_block ?_ | refine W_skip ?_ | refine W_ret ?_ | refine W_exit ?_ | refine WQ_then ?_ | refine WQ_then_ret ?_ | refine WQ_then_exit ?_ | refine WQ_block_normal ?_ | refine WQ_block_ret ?_ | refine WQ_block_exit ?_ | refine n9 ?_)
  refine W_pure (row_le (v := o) (n := D.length) (by repeat' (first | exact Pick.head _ _ | apply Pick.tail))) fun hlo => ?_
  ((apply W_loopK (X := Nat × List (Value × List UInt8)) [17, 18] [1] (fun x => x.1 ≤ D.length ∧ x.2.map Prod.fst = (dlK D).map Prod.fst) (fun x => [(17, .int .i64 (x.1 : Int))]) (fun x => [pk (rowsL 5 x.2)]) (fun _ => []) (fun x => D.length - x.1) ((0, dlK D))); (focus exact ⟨Nat.zero_le _, rfl⟩); exact rfl; exact rfl; (intro _; exact rfl); (intro _; exact rfl); (intro _; exact rfl); (focus (repeat (first | exact FrIn.nil _ | (apply FrIn.cons; exact rfl; (first | exact rfl | (congr 1; first | omega | (dsimp only; omega)) | (simp; done)))))); (focus (repeat (first | exact SubO.nil _ | (apply SubO.cons; (focus (repeat' (first | exact Pick.head _ _ | apply Pick.tail))))))); (focus (repeat (first | exact AllE.nil _ | (apply AllE.cons; (focus (first | exact ent_nilBy | exact ent_nilSl | (apply Ent.mem; repeat' (first | exact mcs | apply mct)))))))); intro x hx)
  obtain ⟨k, L⟩ := x
  obtain ⟨i1, i2⟩ := hx
  replace i1 : k ≤ D.length := i1
  replace i2 : L.map Prod.fst = (dlK D).map Prod.fst := i2
  dsimp only
  by_cases c2 : k < D.length
  · obtain ⟨xs, hd⟩ := dlK_at i2 c2
    have hcell := fcK_dv c2
    have hil : k < L.length := (List.getElem?_eq_some_iff.1 hd).1
    repeat (first | refine n1 ?_ | refine n2 (fun b _ => ?_) | refine n3 (fun _ _ => ?_) | refine n4 ?_ | refine n5 ?_ | refine WL_nil ?_ | refine W_seq ?_ | refine W_region ?_ | refine n7 ?_ | refine n8 ?_ | refine W_block ?_ | refine W_skip ?_ | refine W_ret ?_ | refine W_exit ?_ | refine WQ_then ?_ | refine WQ_then_ret ?_ | refine WQ_then_exit ?_ | refine WQ_block_normal ?_ | refine WQ_block_ret ?_ | refine WQ_block_exit ?_ | refine n9 ?_)
    refine W_takeL (bt := 5) hd (by repeat' (first | exact Pick.head _ _ | apply Pick.tail)) ?_
    refine W_pure (row_le (v := (D.getD k pk0).dv) (n := xs.length) (by repeat' (first | exact Pick.head _ _ | apply Pick.tail))) fun hbl => ?_
    ((apply W_loopK (X := Nat × List UInt8) [18] [0] (fun x => x.1 ≤ xs.length ∧ x.2.length = xs.length) (fun x => [(18, .int .i64 (x.1 : Int))]) (fun x => [.row (D.getD k pk0).dv 5 1 xs.length (x.2.map bcell)]) (fun _ => []) (fun x => xs.length - x.1) ((0, xs))); (focus exact ⟨Nat.zero_le _, rfl⟩); exact rfl; exact rfl; (intro _; exact rfl); (intro _; exact rfl); (intro _; exact rfl); (focus (repeat (first | exact FrIn.nil _ | (apply FrIn.cons; exact rfl; (first | exact rfl | (congr 1; first | omega | (dsimp only; omega)) | (simp; done)))))); (focus (repeat (first | exact SubO.nil _ | (apply SubO.cons; (focus (repeat' (first | exact Pick.head _ _ | apply Pick.tail))))))); (focus (repeat (first | exact AllE.nil _ | (apply AllE.cons; (focus (first | exact ent_nilBy | exact ent_nilSl | (apply Ent.mem; repeat' (first | exact mcs | apply mct)))))))); intro x hx)
    obtain ⟨j, ys⟩ := x
    obtain ⟨hj, hy⟩ := hx
    replace hj : j ≤ xs.length := hj
    replace hy : ys.length = xs.length := hy
    dsimp only
    by_cases c3 : j < xs.length
    · have hcg : (ys.map bcell)[j]? = some (bcell (ys.getD j 0)) := bc_at (by omega)
      have hxo := xor_ff (ys.getD j 0)
      repeat (first | refine n1 ?_ | refine n2 (fun b _ => ?_) | refine n3 (fun _ _ => ?_) | refine n4 ?_ | refine n5 ?_ | refine WL_nil ?_ | refine W_seq ?_ | refine W_region ?_ | refine n7 ?_ | refine n8 ?_ | refine W_block ?_ | refine W_skip ?_ | refine W_ret ?_ | refine W_exit ?_ | refine WQ_then ?_ | refine WQ_then_ret ?_ | refine WQ_then_exit ?_ | refine WQ_block_normal ?_ | refine WQ_block_ret ?_ | refine WQ_block_exit ?_ | refine n9 ?_)
      (refine W_regionP' [16] [] [0, 1, 2, 3, 4, 5, 6, 7, 8, 9, 10, 11, 12, 13, 14, 15, 16] [] (by kernel_rfl) (by kernel_rfl) (by repeat (first | exact UZ.nil _ _ | (apply UZ.cons; exact rfl; (intro _; exact rfl)))) (by exact rfl) (by (repeat (first | exact SubO.nil _ | (apply SubO.cons; (focus (repeat' (first | exact Pick.head _ _ | apply Pick.tail))))))) ?_)
      repeat (first | refine p1 ?_ | refine p2 (fun b _ => ?_) | refine p3 (fun _ _ => ?_) | refine p4 ?_ | refine p5 ?_ | refine p7 (fun b => ?_) | refine PL_nil ?_)
      refine PL_runs rfl rfl rfl rfl rfl (R_xor rfl rfl hxo) ?_
      repeat (first | refine p1 ?_ | refine p2 (fun b _ => ?_) | refine p3 (fun _ _ => ?_) | refine p4 ?_ | refine p5 ?_ | refine p7 (fun b => ?_) | refine PL_nil ?_)
      refine PL_doL rfl rfl rfl rfl (E_storeRow (i := j) rfl rfl (by repeat' (first | exact Pick.head _ _ | apply Pick.tail)) rfl (by intro _; exact rfl) c3) (by kernel_rfl) (fun _ _ => ?_)
      rw [show (ys.map bcell).set j (.int .u8 ((flip8 (ys.getD j 0)).toNat : Int)) = (ys.set j (flip8 (ys.getD j 0))).map bcell from cell_setB ys j _]
      repeat (first | refine n1 ?_ | refine n2 (fun b _ => ?_) | refine n3 (fun _ _ => ?_) | refine n4 ?_ | refine n5 ?_ | refine WL_nil ?_ | refine W_seq ?_ | refine W_region ?_ | refine n7 ?_ | refine n8 ?_ | refine W_block ?_ | refine W_skip ?_ | refine W_ret ?_ | refine W_exit ?_ | refine WQ_then ?_ | refine WQ_then_ret ?_ | refine WQ_then_exit ?_ | refine WQ_block_normal ?_ | refine WQ_block_ret ?_ | refine WQ_block_exit ?_ | refine n9 ?_)
      have hn : j + 1 ≤ xs.length ∧ (ys.set j (flip8 (ys.getD j 0))).length = xs.length := ⟨c3, (List.length_set ..).trans hy⟩
      ((apply WQ_again ((j + 1, ys.set j (flip8 (ys.getD j 0))))); (focus exact hn); (focus (exact (show xs.length - (j + 1) < xs.length - j by omega))); (focus (repeat (first | exact FrIn.nil _ | (apply FrIn.cons; exact rfl; (first | exact rfl | (congr 1; first | omega | (dsimp only; omega)) | (simp; done)))))); (focus (repeat (first | exact SubO.nil _ | (apply SubO.cons; (focus (repeat' (first | exact Pick.head _ _ | apply Pick.tail))))))); (focus (repeat (first | exact AllE.nil _ | (apply AllE.cons; (focus (first | exact ent_nilBy | exact ent_nilSl | (apply Ent.mem; repeat' (first | exact mcs | apply mct)))))))))
    · repeat (first | refine n1 ?_ | refine n2 (fun b _ => ?_) | refine n3 (fun _ _ => ?_) | refine n4 ?_ | refine n5 ?_ | refine WL_nil ?_ | refine W_seq ?_ | refine W_region ?_ | refine n7 ?_ | refine n8 ?_ | refine W_block ?_ | refine W_skip ?_ | refine W_ret ?_ | refine W_exit ?_ | refine WQ_then ?_ | refine WQ_then_ret ?_ | refine WQ_then_exit ?_ | refine WQ_block_normal ?_ | refine WQ_block_ret ?_ | refine WQ_block_exit ?_ | refine n9 ?_)
      refine WQ_putL (bt := 5) (L := L) (i := k) (v := (D.getD k pk0).dv) ys rfl (by repeat' (first | exact Pick.head _ _ | apply Pick.tail)) (by repeat' (first | exact Pick.head _ _ | apply Pick.tail)) hil ?_
      have hn : k + 1 ≤ D.length ∧ (L.set k ((D.getD k pk0).dv, ys)).map Prod.fst = (dlK D).map Prod.fst := ⟨c2, (set_same hd).trans i2⟩
      ((apply WQ_again ((k + 1, L.set k ((D.getD k pk0).dv, ys)))); (focus exact hn); (focus (exact (show D.length - (k + 1) < D.length - k by omega))); (focus (repeat (first | exact FrIn.nil _ | (apply FrIn.cons; exact rfl; (first | exact rfl | (congr 1; first | omega | (dsimp only; omega)) | (simp; done)))))); (focus (repeat (first | exact SubO.nil _ | (apply SubO.cons; (focus (repeat' (first | exact Pick.head _ _ | apply Pick.tail))))))); (focus (repeat (first | exact AllE.nil _ | (apply AllE.cons; (focus (first | exact ent_nilBy | exact ent_nilSl | (apply Ent.mem; repeat' (first | exact mcs | apply mct)))))))))
  · repeat (first | refine n1 ?_ | refine n2 (fun b _ => ?_) | refine n3 (fun _ _ => ?_) | refine n4 ?_ | refine n5 ?_ | refine WL_nil ?_ | refine W_seq ?_ | refine W_region ?_ | refine n7 ?_ | refine n8 ?_ | refine W_block ?_ | refine W_skip ?_ | refine W_ret ?_ | refine W_exit ?_ | refine WQ_then ?_ | refine WQ_then_ret ?_ | refine WQ_then_exit ?_ | refine WQ_block_normal ?_ | refine WQ_block_ret ?_ | refine WQ_block_exit ?_ | refine n9 ?_)
    ((apply ret1 Tryd.results3 ( ())); (focus (first | trivial | assumption | omega)); (focus (first | exact RV_tmp rfl | (apply RV_cellN; exact rfl; (repeat' (first | exact Pick.head _ _ | apply Pick.tail)); (intro _; exact rfl); (intro _; exact rfl); exact rfl) | (apply RV_cell1; exact rfl; (repeat' (first | exact Pick.head _ _ | apply Pick.tail)); (intro _; exact rfl); exact rfl)));  (focus (first | exact rfl | (simp; done))); (focus (repeat (first | exact SubO.nil _ | (apply SubO.cons; (focus (repeat' (first | exact Pick.head _ _ | apply Pick.tail))))))); (focus (repeat (first | exact AllE.nil _ | (apply AllE.cons; (focus (first | exact ent_nilBy | exact ent_nilSl | (apply Ent.mem; repeat' (first | exact mcs | apply mct)))))))))
end Go.Proofs.YtdhbgolbfkejcaaDoor
