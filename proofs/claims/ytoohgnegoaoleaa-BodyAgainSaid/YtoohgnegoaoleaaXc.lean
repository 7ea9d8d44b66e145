/-
  Rules for walks, merged.
-/
import Derived.Test.YtoohgnegoaoleaaXb
import Derived.Test.YtoohgnegoaoleaaXa
import Derived.Laws.BitsAllLaws
import Derived.Laws.Bits128
/-
  Contract of the decoder's list.
-/
namespace Go.Proofs.Ytoohgnegoaoleaa.C04
open Go Go.RowKit Go.Hs
attribute [local irreducible] WL W WQ PL Runs Effs AllE Ent SubO FrIn Pick OneC Ones CellsE PartsE SeqE UZ By Sl Pt Ct

theorem dcat_nil (q : DR) (h : ¬ q.2.2 = 0 → q.1 = .nil) : dcat .nil q = q := by
  obtain ⟨a, b, e⟩ := q
  unfold dcat
  by_cases h0 : e = 0
  · subst h0
    rfl
  · have h1 := h h0
    simp only at h1
    subst h1
    rw [if_neg h0]
theorem dec_err : ∀ (f : Nat) (b : List UInt8) (d m : Nat), ¬ (dec f b d m).2.2 = 0 → (dec f b d m).1 = .nil
  | 0, _, _, _, h => absurd rfl h
  | f + 1, b, d, m, h => by
    unfold dec at h ⊢
    split at h
    · exact absurd rfl h
    · next h1 =>
      rw [if_neg h1]
      split at h
      · next h2 =>
        rw [if_pos h2]
      · next h2 =>
        rw [if_neg h2]
        unfold dcat at h ⊢
        split at h
        · next h3 => exact absurd h3 h
        · next h3 => rw [if_neg h3]

set_option maxRecDepth 100000 in
set_option maxHeartbeats 8000000 in
theorem list_fn (F : Nat) : ListCt F := by
  induction F using Nat.strongRecOn with
  | _ F IH =>
    intro d v0 xs dep m0 hF hx hd hm0
    refine Ct_intro Try.func79 rfl Try.ntmps79 (by simp) _ rfl (fun w0 O0 => ?_)
    repeat (first | refine n1 ?_ | refine n2 (fun b _ => ?_) | refine n3 (fun _ _ => ?_) | refine n4 ?_ | refine n5 ?_ | refine WL_nil ?_ | refine W_seq ?_ | refine W_region ?_ | refine n7 ?_ | refine n8 ?_ | refine W_block ?_ | refine W_skip ?_ | refine W_ret ?_ | refine W_exit ?_ | refine WQ_then ?_ | refine WQ_then_ret ?_ | refine WQ_then_exit ?_ | refine WQ_block_normal ?_ | refine WQ_block_ret ?_ | refine WQ_block_exit ?_ | refine n9 ?_)
    apply W_nilRow 106 4
    apply W_nilL 5
    refine W_ent ent_ts0 ?_
    ((apply W_loopK (X := Nat × T × Value × Value × List UInt8 × Nat) [9, 1] [0, 1, 2] (fun x => dec F xs dep m0 = dcat x.2.1.er (dec x.1 x.2.2.2.2.1 dep x.2.2.2.2.2) ∧ x.2.2.2.2.1.length ≤ x.1 ∧ x.2.2.2.2.2 ≤ 64 ∧ x.2.1.len + x.2.2.2.2.1.length ≤ 1000000000 ∧ x.1 ≤ F ∧ (dep ≤ 4 ∨ x.2.2.2.2.1.length = 0)) (fun x => [(9, x.2.2.1), (1, x.2.2.2.1)]) (fun x => [pk (rowsL 5 x.2.1.dls), .row x.2.2.1 106 4 x.2.1.len x.2.1.cells, .blk d 156 [.int .i64 (x.2.2.2.2.2 : Int)]]) (fun x => [x.2.1.ts, By x.2.2.2.1 x.2.2.2.2.1]) (fun x => x.1) ((F, .nil, .slice none 0 0, v0, xs, m0))); (focus (exact ⟨(dcat_nil _ (dec_err _ _ _ _)).symm, hF, hm0, by simpa [T.len] using hx, Nat.le_refl _, hd⟩)); exact rfl; exact rfl; (intro _; exact rfl); (intro _; exact rfl); (intro _; exact rfl); (focus (repeat (first | exact FrIn.nil _ | (apply FrIn.cons; exact rfl; (first | exact rfl | (congr 1; first | omega | (dsimp only; omega)) | (simp; done)))))); (focus (repeat (first | exact SubO.nil _ | (apply SubO.cons; (focus (repeat' (first | exact Pick.head _ _ | apply Pick.tail))))))); (focus (repeat (first | exact AllE.nil _ | (apply AllE.cons; (focus (first | exact ent_nilBy | exact ent_nilSl | (apply Ent.mem; repeat' (first | exact mcs | apply mct)))))))); intro x hx)
    obtain ⟨k, acc, o, v, cur, m⟩ := x
    obtain ⟨i1, i2, i3, i4, i5, i6⟩ := hx
    replace i1 : dec F xs dep m0 = dcat acc.er (dec k cur dep m) := i1
    replace i2 : cur.length ≤ k := i2
    replace i3 : m ≤ 64 := i3
    replace i4 : acc.len + cur.length ≤ 1000000000 := i4
    replace i5 : k ≤ F := i5
    replace i6 : dep ≤ 4 ∨ cur.length = 0 := i6
    dsimp only
    by_cases c1 : cur.length = 0
    · obtain rfl : cur = [] := List.eq_nil_of_length_eq_zero c1
      rw [dec_nil] at i1
      replace i1 : dec F xs dep m0 = (acc.er, m, 0) := by rw [i1, dcat, if_pos rfl, fapp_nil]
      repeat (first | refine n1 ?_ | refine n2 (fun b _ => ?_) | refine n3 (fun _ _ => ?_) | refine n4 ?_ | refine n5 ?_ | refine WL_nil ?_ | refine W_seq ?_ | refine W_region ?_ | refine n7 ?_ | refine n8 ?_ | refine W_block ?_ | refine W_skip ?_ | refine W_ret ?_ | refine W_exit ?_ | refine WQ_then ?_ | refine WQ_then_ret ?_ | refine WQ_then_exit ?_ | refine WQ_block_normal ?_ | refine WQ_block_ret ?_ | refine WQ_block_exit ?_ | refine n9 ?_)
      ((apply ret2 Try.results79 ( (o, acc, m, 0))); (focus (first | trivial | assumption | omega)); (focus (first | exact RV_tmp rfl | (apply RV_cellN; exact rfl; (repeat' (first | exact Pick.head _ _ | apply Pick.tail)); (intro _; exact rfl); (intro _; exact rfl); exact rfl) | (apply RV_cell1; exact rfl; (repeat' (first | exact Pick.head _ _ | apply Pick.tail)); (intro _; exact rfl); exact rfl))); (focus (first | exact RV_tmp rfl | (apply RV_cellN; exact rfl; (repeat' (first | exact Pick.head _ _ | apply Pick.tail)); (intro _; exact rfl); (intro _; exact rfl); exact rfl) | (apply RV_cell1; exact rfl; (repeat' (first | exact Pick.head _ _ | apply Pick.tail)); (intro _; exact rfl); exact rfl)));  (focus (first | exact rfl | (simp; done))); (focus (repeat (first | exact SubO.nil _ | (apply SubO.cons; (focus (repeat' (first | exact Pick.head _ _ | apply Pick.tail))))))); (focus (repeat (first | exact AllE.nil _ | (apply AllE.cons; (focus (first | exact ent_nilBy | exact ent_nilSl | (apply Ent.mem; repeat' (first | exact mcs | apply mct)))))))))
    · obtain ⟨k, rfl⟩ : ∃ j, k = j + 1 := ⟨k - 1, by omega⟩
      have hone := one_fn k (IH k (by omega)) d v cur dep m (by omega) i2 (by omega) (i6.elim id fun h => absurd h c1) i3
      rw [dec, if_neg c1] at i1
      repeat (first | refine n1 ?_ | refine n2 (fun b _ => ?_) | refine n3 (fun _ _ => ?_) | refine n4 ?_ | refine n5 ?_ | refine WL_nil ?_ | refine W_seq ?_ | refine W_region ?_ | refine n7 ?_ | refine n8 ?_ | refine W_block ?_ | refine W_skip ?_ | refine W_ret ?_ | refine W_exit ?_ | refine WQ_then ?_ | refine WQ_then_ret ?_ | refine WQ_then_exit ?_ | refine WQ_block_normal ?_ | refine WQ_block_ret ?_ | refine WQ_block_exit ?_ | refine n9 ?_)
      apply WL_effs
      · exact rfl
      · exact rfl
      · exact rfl
      · apply E_callG (first := #[.pointer (some ⟨d, 0, none⟩)]) (captured := #[])
        · exact rfl
        · exact rfl
        · exact rfl
        · intro _ _
          simp
        · exact hone
        · exact perm1 (by repeat' (first | exact Pick.head _ _ | apply Pick.tail))
        · exact (by (repeat (first | exact AllE.nil _ | (apply AllE.cons; (focus (first | exact ent_nilBy | exact ent_nilSl | (apply Ent.mem; repeat' (first | exact mcs | apply mct))))))))
        · intro _
          exact rfl
        · intro _
          exact rfl
      rintro ⟨id, ext, dv, data, sv, subs, rv, rest, m2, e⟩ hq
      replace hq : one1 (dec k) cur dep m = ⟨id, ext, data, subs.er, rest, m2, e⟩ := hq
      have hm2 := one1_many (rec := dec k) (b := cur) (d := dep) (m := m) (fun c d m => dec_many k c d m) i3
      have hrest := one1_rest (rec := dec k) (b := cur) (d := dep) (m := m)
      rw [hq] at i1 hm2 hrest
      replace hm2 : m2 ≤ 64 := hm2
      replace hrest : e = 0 → rest.length + 2 ≤ cur.length := hrest
      dsimp only
      by_cases c2 : e = 0
      · subst c2
        have hr := hrest rfl
        rw [if_neg (fun h => h rfl), dcat_dcat] at i1
        replace i1 : dec F xs dep m0 = dcat (acc.app (.cons id ext dv data sv subs .nil)).er (dec k rest dep m2) := by rw [i1, er_app]; rfl
        have hl : acc.len + 1 = (acc.app (.cons id ext dv data sv subs .nil)).len := T.len_snoc ..
        repeat (first | refine n1 ?_ | refine n2 (fun b _ => ?_) | refine n3 (fun _ _ => ?_) | refine n4 ?_ | refine n5 ?_ | refine WL_nil ?_ | refine W_seq ?_ | refine W_region ?_ | refine n7 ?_ | refine n8 ?_ | refine W_block ?_ | refine W_skip ?_ | refine W_ret ?_ | refine W_exit ?_ | refine WQ_then ?_ | refine WQ_then_ret ?_ | refine WQ_then_exit ?_ | refine WQ_block_normal ?_ | refine WQ_block_ret ?_ | refine WQ_block_exit ?_ | refine n9 ?_)
        (apply WL_effs; exact rfl; exact rfl; exact rfl; (apply E_buildSlice; exact rfl; (focus (repeat (first | apply SeqE.nil | (apply SeqE.cons; exact rfl; (focus (first | (apply CellsE.lit; exact rfl) | (apply CellsE.one; (first | (apply OneC.lit; exact rfl) | (apply OneC.by_; (repeat' (first | exact mcs | apply mct)); done) | (apply OneC.sl; (repeat' (first | exact mcs | apply mct)); done) | (apply OneC.rw; (repeat' (first | exact mcs | apply mct)); done) | (apply OneC.row; (repeat' (first | exact Pick.head _ _ | apply Pick.tail))))))); exact rfl) | exact rfl))); exact rfl; (first | (intro _; exact (rfl : _ = Result.ok 1 _)) | (intro _; exact (rfl : _ = Result.ok 2 _)) | (intro _; exact (rfl : _ = Result.ok 3 _)) | (intro _; exact (rfl : _ = Result.ok 4 _)) | (intro _; exact (rfl : _ = Result.ok 5 _)) | (intro _; exact (rfl : _ = Result.ok 6 _)) | (intro _; exact (rfl : _ = Result.ok 7 _)) | (intro _; exact (rfl : _ = Result.ok 8 _)) | (intro _; exact (rfl : _ = Result.ok 9 _)) | (intro _; exact (rfl : _ = Result.ok 13 _)) | (intro _; exact (rfl : _ = Result.ok 14 _)) | (intro _; exact (rfl : _ = Result.ok 26 _)) | (intro _; exact (rfl : _ = Result.ok 40 _)) | (intro _; exact (rfl : _ = Result.ok 41 _)) | (intro _; exact (rfl : _ = Result.ok 42 _)) | (intro _; exact (rfl : _ = Result.ok 43 _)) | (intro _; exact (rfl : _ = Result.ok 44 _)) | (intro _; exact (rfl : _ = Result.ok 45 _)) | (intro _; exact (rfl : _ = Result.ok 46 _))); (intro _; exact rfl); exact rfl; exact Nat.le_of_ble_eq_true rfl; exact Nat.le_of_ble_eq_true rfl); skip)
        intro q _
        apply WL_effs
        · exact rfl
        · exact rfl
        · exact rfl
        · apply E_appendRowO (nm := (acc.app (.cons id ext dv data sv subs .nil)).len) (all := (acc.app (.cons id ext dv data sv subs .nil)).cells)
          · exact rfl
          · exact rfl
          · exact (by repeat' (first | exact Pick.head _ _ | apply Pick.tail))
          · exact (by repeat' (first | exact Pick.head _ _ | apply Pick.tail))
          · exact rfl
          · exact rfl
          · exact rfl
          · exact rfl
          · exact rfl
          · exact Nat.le_of_ble_eq_true rfl
          · (focus (repeat (first | apply Ones.nil | exact Ones.bytes | (apply Ones.cons; (focus (first | (apply OneC.lit; exact rfl) | (apply OneC.by_; (repeat' (first | exact mcs | apply mct)); done) | (apply OneC.sl; (repeat' (first | exact mcs | apply mct)); done) | (apply OneC.rw; (repeat' (first | exact mcs | apply mct)); done) | (apply OneC.row; (repeat' (first | exact Pick.head _ _ | apply Pick.tail)))))))))
          · exact Nat.le_of_ble_eq_true rfl
          · omega
          · exact hl
          · exact T.cells_snoc ..
        intro o2 _
        repeat (first | refine n1 ?_ | refine n2 (fun b _ => ?_) | refine n3 (fun _ _ => ?_) | refine n4 ?_ | refine n5 ?_ | refine WL_nil ?_ | refine W_seq ?_ | refine W_region ?_ | refine n7 ?_ | refine n8 ?_ | refine W_block ?_ | refine W_skip ?_ | refine W_ret ?_ | refine W_exit ?_ | refine WQ_then ?_ | refine WQ_then_ret ?_ | refine WQ_then_exit ?_ | refine WQ_block_normal ?_ | refine WQ_block_ret ?_ | refine WQ_block_exit ?_ | refine n9 ?_)
        refine WQ_addL (v := dv) data rfl (by repeat' (first | exact Pick.head _ _ | apply Pick.tail)) (by repeat' (first | exact Pick.head _ _ | apply Pick.tail)) ?_
        rw [show acc.dls ++ [(dv, data)] = (acc.app (.cons id ext dv data sv subs .nil)).dls from T.dls_snoc ..]
        refine WQ_ent (ent_ts1 (id := id) (ext := ext) (dv := dv) (data := data) (sv := sv) (subs := subs) (by repeat' (first | exact mcs | apply mct)) (by repeat' (first | exact mcs | apply mct))) (WQ_ent (ent_tsapp (t := acc) (u := .cons id ext dv data sv subs .nil) (by repeat' (first | exact mcs | apply mct)) (by repeat' (first | exact mcs | apply mct))) ?_)
        have j2 : rest.length ≤ k := by omega
        have j4 : (acc.app (.cons id ext dv data sv subs .nil)).len + rest.length ≤ 1000000000 := by omega
        have j5 : k ≤ F := by omega
        ((apply WQ_again ((k, acc.app (.cons id ext dv data sv subs .nil), o2, rv, rest, m2))); (focus (exact ⟨i1, j2, hm2, j4, j5, .inl (i6.elim (fun h => h) fun h => absurd h c1)⟩)); (focus exact Nat.lt_succ_self k); (focus (repeat (first | exact FrIn.nil _ | (apply FrIn.cons; exact rfl; (first | exact rfl | (congr 1; first | omega | (dsimp only; omega)) | (simp; done)))))); (focus (repeat (first | exact SubO.nil _ | (apply SubO.cons; (focus (repeat' (first | exact Pick.head _ _ | apply Pick.tail))))))); (focus (repeat (first | exact AllE.nil _ | (apply AllE.cons; (focus (first | exact ent_nilBy | exact ent_nilSl | (apply Ent.mem; repeat' (first | exact mcs | apply mct)))))))))
      · rw [if_pos c2] at i1
        replace i1 : dec F xs dep m0 = (.nil, m2, e) := by rw [i1]; exact if_neg c2
        repeat (first | refine n1 ?_ | refine n2 (fun b _ => ?_) | refine n3 (fun _ _ => ?_) | refine n4 ?_ | refine n5 ?_ | refine WL_nil ?_ | refine W_seq ?_ | refine W_region ?_ | refine n7 ?_ | refine n8 ?_ | refine W_block ?_ | refine W_skip ?_ | refine W_ret ?_ | refine W_exit ?_ | refine WQ_then ?_ | refine WQ_then_ret ?_ | refine WQ_then_exit ?_ | refine WQ_block_normal ?_ | refine WQ_block_ret ?_ | refine WQ_block_exit ?_ | refine n9 ?_)
        apply WQ_nilRow 106 4
        apply WQ_nilL 5
        refine WQ_ent ent_ts0 ?_
        ((apply ret2 Try.results79 ( (Value.slice none 0 0, T.nil, m2, e))); (focus (first | trivial | assumption | omega)); (focus (first | exact RV_tmp rfl | (apply RV_cellN; exact rfl; (repeat' (first | exact Pick.head _ _ | apply Pick.tail)); (intro _; exact rfl); (intro _; exact rfl); exact rfl) | (apply RV_cell1; exact rfl; (repeat' (first | exact Pick.head _ _ | apply Pick.tail)); (intro _; exact rfl); exact rfl))); (focus (first | exact RV_tmp rfl | (apply RV_cellN; exact rfl; (repeat' (first | exact Pick.head _ _ | apply Pick.tail)); (intro _; exact rfl); (intro _; exact rfl); exact rfl) | (apply RV_cell1; exact rfl; (repeat' (first | exact Pick.head _ _ | apply Pick.tail)); (intro _; exact rfl); exact rfl)));  (focus (first | exact rfl | (simp; done))); (focus (repeat (first | exact SubO.nil _ | (apply SubO.cons; (focus (repeat' (first | exact Pick.head _ _ | apply Pick.tail))))))); (focus (repeat (first | exact AllE.nil _ | (apply AllE.cons; (focus (first | exact ent_nilBy | exact ent_nilSl | (apply Ent.mem; repeat' (first | exact mcs | apply mct)))))))))
end Go.Proofs.Ytoohgnegoaoleaa.C04

/-
  What the reference decodes.
-/
namespace Go.Proofs.Ytoohgnegoaoleaa.C04
open Go Go.RowKit Go.Hs
attribute [local irreducible] WL W WQ PL Runs Effs AllE Ent SubO FrIn Pick OneC Ones CellsE PartsE SeqE UZ By Sl Pt Ct

def RdecCt (f : Nat) : Prop := ∀ (v : Value) (xs : List UInt8) (dep m : Nat), xs.length ≤ f → xs.length ≤ 1000000000 → (dep ≤ 4 ∨ xs.length = 0) → m ≤ 64 →
  Ct Try.prog 88 [v, .int .i64 (dep : Int), .int .i64 (m : Int)] [] [By v xs]
    (X := Value × T × Nat × Int) (fun x => dec f xs dep m = (x.2.1.er, x.2.2.1, x.2.2.2)) (fun x => .tuple #[x.1, .int .i64 (x.2.2.1 : Int), .int .i64 x.2.2.2])
    (fun _ => []) (fun x => [Rw 4 x.1 x.2.1.len x.2.1.at_, x.2.1.tf])

theorem WQ_none2 {C : Ctx} {fr : Fr} {Γ : List OA} {Φ : List SP} {Q : Exit → Act → World → Prop} {e : Exit}
    (h : WQ C e fr Γ (T.nil.tf :: Rw 4 (.slice none 0 0) T.nil.len T.nil.at_ :: Φ) Q) : WQ C e fr Γ Φ Q := WQ_ent ent_nilRw (WQ_ent ent_tf0 h)

set_option maxRecDepth 100000 in
set_option maxHeartbeats 16000000 in
theorem rdec_fn (F : Nat) : RdecCt F := by
  induction F using Nat.strongRecOn with
  | _ F IH =>
    intro v0 xs dep m0 hF hx hd hm0
    refine Ct_intro Try.func88 rfl Try.ntmps88 (by simp) _ rfl (fun w0 O0 => ?_)
    repeat (first | refine n1 ?_ | refine n2 (fun b _ => ?_) | refine n3 (fun _ _ => ?_) | refine n4 ?_ | refine n5 ?_ | refine WL_nil ?_ | refine W_seq ?_ | refine W_region ?_ | refine n7 ?_ | refine n8 ?_ | refine W_block ?_ | refine W_skip ?_ | refine W_ret ?_ | refine W_exit ?_ | refine WQ_then ?_ | refine WQ_then_ret ?_ | refine WQ_then_exit ?_ | refine WQ_block_normal ?_ | refine WQ_block_ret ?_ | refine WQ_block_exit ?_ | refine n9 ?_)
    apply W_nilRow 106 4
    refine W_ent ent_tf0 ?_
    ((apply W_loopK (X := Nat × T × Value × Value × List UInt8 × Nat) [9, 0, 2] [0] (fun x => dec F xs dep m0 = dcat x.2.1.er (dec x.1 x.2.2.2.2.1 dep x.2.2.2.2.2) ∧ x.2.2.2.2.1.length ≤ x.1 ∧ x.2.2.2.2.2 ≤ 64 ∧ x.2.1.len + x.2.2.2.2.1.length ≤ 1000000000 ∧ x.1 ≤ F ∧ (dep ≤ 4 ∨ x.2.2.2.2.1.length = 0)) (fun x => [(9, x.2.2.1), (0, x.2.2.2.1), (2, .int .i64 (x.2.2.2.2.2 : Int))]) (fun x => [.row x.2.2.1 106 4 x.2.1.len x.2.1.cells]) (fun x => [x.2.1.tf, By x.2.2.2.1 x.2.2.2.2.1]) (fun x => x.1) ((F, .nil, .slice none 0 0, v0, xs, m0))); (focus (exact ⟨(dcat_nil _ (dec_err _ _ _ _)).symm, hF, hm0, by simpa [T.len] using hx, Nat.le_refl _, hd⟩)); exact rfl; exact rfl; (intro _; exact rfl); (intro _; exact rfl); (intro _; exact rfl); (focus (repeat (first | exact FrIn.nil _ | (apply FrIn.cons; exact rfl; (first | exact rfl | (congr 1; first | omega | (dsimp only; omega)) | (simp; done)))))); (focus (repeat (first | exact SubO.nil _ | (apply SubO.cons; (focus (repeat' (first | exact Pick.head _ _ | apply Pick.tail))))))); (focus (repeat (first | exact AllE.nil _ | (apply AllE.cons; (focus (first | exact ent_nilBy | exact ent_nilSl | (apply Ent.mem; repeat' (first | exact mcs | apply mct)))))))); intro x hx)
    obtain ⟨k, acc, o, v, cur, m⟩ := x
    obtain ⟨i1, i2, i3, i4, i5, i6⟩ := hx
    replace i1 : dec F xs dep m0 = dcat acc.er (dec k cur dep m) := i1
    replace i2 : cur.length ≤ k := i2
    replace i3 : m ≤ 64 := i3
    replace i4 : acc.len + cur.length ≤ 1000000000 := i4
    replace i5 : k ≤ F := i5
    replace i6 : dep ≤ 4 ∨ cur.length = 0 := i6
    dsimp only
    by_cases c0 : cur.length = 0
    · obtain rfl : cur = [] := List.eq_nil_of_length_eq_zero c0
      rw [dec_nil] at i1
      replace i1 : dec F xs dep m0 = (acc.er, m, 0) := by rw [i1, dcat, if_pos rfl, fapp_nil]
      repeat (first | refine n1 ?_ | refine n2 (fun b _ => ?_) | refine n3 (fun _ _ => ?_) | refine n4 ?_ | refine n5 ?_ | refine WL_nil ?_ | refine W_seq ?_ | refine W_region ?_ | refine n7 ?_ | refine n8 ?_ | refine W_block ?_ | refine W_skip ?_ | refine W_ret ?_ | refine W_exit ?_ | refine WQ_then ?_ | refine WQ_then_ret ?_ | refine WQ_then_exit ?_ | refine WQ_block_normal ?_ | refine WQ_block_ret ?_ | refine WQ_block_exit ?_ | refine n9 ?_)
      refine WQ_letgo (v := o) (by repeat' (first | exact Pick.head _ _ | apply Pick.tail)) ?_
      refine WQ_ent (ent_slT (v := o) (t := acc) (by repeat' (first | exact mcs | apply mct))) ?_
      ((apply ret3 Try.results88 ( (o, acc, m, 0))); (focus (first | trivial | assumption | omega)); (focus (first | exact RV_tmp rfl | (apply RV_cellN; exact rfl; (repeat' (first | exact Pick.head _ _ | apply Pick.tail)); (intro _; exact rfl); (intro _; exact rfl); exact rfl) | (apply RV_cell1; exact rfl; (repeat' (first | exact Pick.head _ _ | apply Pick.tail)); (intro _; exact rfl); exact rfl))); (focus (first | exact RV_tmp rfl | (apply RV_cellN; exact rfl; (repeat' (first | exact Pick.head _ _ | apply Pick.tail)); (intro _; exact rfl); (intro _; exact rfl); exact rfl) | (apply RV_cell1; exact rfl; (repeat' (first | exact Pick.head _ _ | apply Pick.tail)); (intro _; exact rfl); exact rfl))); (focus (first | exact RV_tmp rfl | (apply RV_cellN; exact rfl; (repeat' (first | exact Pick.head _ _ | apply Pick.tail)); (intro _; exact rfl); (intro _; exact rfl); exact rfl) | (apply RV_cell1; exact rfl; (repeat' (first | exact Pick.head _ _ | apply Pick.tail)); (intro _; exact rfl); exact rfl)));  (focus (first | exact rfl | (simp; done))); (focus (repeat (first | exact SubO.nil _ | (apply SubO.cons; (focus (repeat' (first | exact Pick.head _ _ | apply Pick.tail))))))); (focus (repeat (first | exact AllE.nil _ | (apply AllE.cons; (focus (first | exact ent_nilBy | exact ent_nilSl | (apply Ent.mem; repeat' (first | exact mcs | apply mct)))))))))
    · obtain ⟨k, rfl⟩ : ∃ j, k = j + 1 := ⟨k - 1, by omega⟩
      have hd4 : dep ≤ 4 := i6.elim id fun h => absurd h c0
      rw [dec, if_neg c0] at i1
      have bad : ∀ {id ext : UInt8} {data : List UInt8} {subs : Fo} {rest : List UInt8} {m2 : Nat} {e : Int}, one1 (dec k) cur dep m = ⟨id, ext, data, subs, rest, m2, e⟩ → ¬ e = 0 → dec F xs dep m0 = (.nil, m2, e) := fun h1 h2 => by
        rw [h1, if_pos h2] at i1
        rw [i1]
        exact if_neg h2
      have good : ∀ {id ext : UInt8} {dv : Value} {data : List UInt8} {sv : Value} {subs : T} {rest : List UInt8} {m2 : Nat}, one1 (dec k) cur dep m = ⟨id, ext, data, subs.er, rest, m2, 0⟩ → dec F xs dep m0 = dcat (acc.app (.cons id ext dv data sv subs .nil)).er (dec k rest dep m2) := fun h1 => by
        rw [h1, if_neg (fun h => h rfl), dcat_dcat] at i1
        rw [i1, er_app]
        rfl
      have hlen : ∀ {id ext : UInt8} {dv : Value} {data : List UInt8} {sv : Value} {subs : T}, acc.len + 1 = (acc.app (.cons id ext dv data sv subs .nil)).len := T.len_snoc ..
      have hl : (cur.drop 1).length = cur.length - 1 := List.length_drop
      by_cases c1 : m = 64
      · have e1 := bad (if_pos c1) (by decide)
        repeat (first | refine n1 ?_ | refine n2 (fun b _ => ?_) | refine n3 (fun _ _ => ?_) | refine n4 ?_ | refine n5 ?_ | refine WL_nil ?_ | refine W_seq ?_ | refine W_region ?_ | refine n7 ?_ | refine n8 ?_ | refine W_block ?_ | refine W_skip ?_ | refine W_ret ?_ | refine W_exit ?_ | refine WQ_then ?_ | refine WQ_then_ret ?_ | refine WQ_then_exit ?_ | refine WQ_block_normal ?_ | refine WQ_block_ret ?_ | refine WQ_block_exit ?_ | refine n9 ?_)
        apply WQ_none2
        ((apply ret3 Try.results88 ( (Value.slice none 0 0, T.nil, m, 4))); (focus (first | trivial | assumption | omega)); (focus (first | exact RV_tmp rfl | (apply RV_cellN; exact rfl; (repeat' (first | exact Pick.head _ _ | apply Pick.tail)); (intro _; exact rfl); (intro _; exact rfl); exact rfl) | (apply RV_cell1; exact rfl; (repeat' (first | exact Pick.head _ _ | apply Pick.tail)); (intro _; exact rfl); exact rfl))); (focus (first | exact RV_tmp rfl | (apply RV_cellN; exact rfl; (repeat' (first | exact Pick.head _ _ | apply Pick.tail)); (intro _; exact rfl); (intro _; exact rfl); exact rfl) | (apply RV_cell1; exact rfl; (repeat' (first | exact Pick.head _ _ | apply Pick.tail)); (intro _; exact rfl); exact rfl))); (focus (first | exact RV_tmp rfl | (apply RV_cellN; exact rfl; (repeat' (first | exact Pick.head _ _ | apply Pick.tail)); (intro _; exact rfl); (intro _; exact rfl); exact rfl) | (apply RV_cell1; exact rfl; (repeat' (first | exact Pick.head _ _ | apply Pick.tail)); (intro _; exact rfl); exact rfl)));  (focus (first | exact rfl | (simp; done))); (focus (repeat (first | exact SubO.nil _ | (apply SubO.cons; (focus (repeat' (first | exact Pick.head _ _ | apply Pick.tail))))))); (focus (repeat (first | exact AllE.nil _ | (apply AllE.cons; (focus (first | exact ent_nilBy | exact ent_nilSl | (apply Ent.mem; repeat' (first | exact mcs | apply mct)))))))))
      · by_cases c2 : cur.getD 0 0 = 254
        · have e1 := bad (show one1 (dec k) cur dep m = ⟨0, 0, [], .nil, [], m + 1, 12⟩ by rw [one1, if_neg c1, if_pos c2]) (by decide)
          have c2' : (cur.getD 0 0).toNat = 254 := by
            rw [c2]
            rfl
          repeat (first | refine n1 ?_ | refine n2 (fun b _ => ?_) | refine n3 (fun _ _ => ?_) | refine n4 ?_ | refine n5 ?_ | refine WL_nil ?_ | refine W_seq ?_ | refine W_region ?_ | refine n7 ?_ | refine n8 ?_ | refine W_block ?_ | refine W_skip ?_ | refine W_ret ?_ | refine W_exit ?_ | refine WQ_then ?_ | refine WQ_then_ret ?_ | refine WQ_then_exit ?_ | refine WQ_block_normal ?_ | refine WQ_block_ret ?_ | refine WQ_block_exit ?_ | refine n9 ?_)
          apply WQ_none2
          ((apply ret3 Try.results88 ( (Value.slice none 0 0, T.nil, m + 1, 12))); (focus (first | trivial | assumption | omega)); (focus (first | exact RV_tmp rfl | (apply RV_cellN; exact rfl; (repeat' (first | exact Pick.head _ _ | apply Pick.tail)); (intro _; exact rfl); (intro _; exact rfl); exact rfl) | (apply RV_cell1; exact rfl; (repeat' (first | exact Pick.head _ _ | apply Pick.tail)); (intro _; exact rfl); exact rfl))); (focus (first | exact RV_tmp rfl | (apply RV_cellN; exact rfl; (repeat' (first | exact Pick.head _ _ | apply Pick.tail)); (intro _; exact rfl); (intro _; exact rfl); exact rfl) | (apply RV_cell1; exact rfl; (repeat' (first | exact Pick.head _ _ | apply Pick.tail)); (intro _; exact rfl); exact rfl))); (focus (first | exact RV_tmp rfl | (apply RV_cellN; exact rfl; (repeat' (first | exact Pick.head _ _ | apply Pick.tail)); (intro _; exact rfl); (intro _; exact rfl); exact rfl) | (apply RV_cell1; exact rfl; (repeat' (first | exact Pick.head _ _ | apply Pick.tail)); (intro _; exact rfl); exact rfl)));  (focus (first | exact rfl | (simp; done))); (focus (repeat (first | exact SubO.nil _ | (apply SubO.cons; (focus (repeat' (first | exact Pick.head _ _ | apply Pick.tail))))))); (focus (repeat (first | exact AllE.nil _ | (apply AllE.cons; (focus (first | exact ent_nilBy | exact ent_nilSl | (apply Ent.mem; repeat' (first | exact mcs | apply mct)))))))))
        · have c2' : ¬ (cur.getD 0 0).toNat = 254 := by
            have := u8ne (n := 254) c2 (by decide)
            omega
          repeat (first | refine n1 ?_ | refine n2 (fun b _ => ?_) | refine n3 (fun _ _ => ?_) | refine n4 ?_ | refine n5 ?_ | refine WL_nil ?_ | refine W_seq ?_ | refine W_region ?_ | refine n7 ?_ | refine n8 ?_ | refine W_block ?_ | refine W_skip ?_ | refine W_ret ?_ | refine W_exit ?_ | refine WQ_then ?_ | refine WQ_then_ret ?_ | refine WQ_then_exit ?_ | refine WQ_block_normal ?_ | refine WQ_block_ret ?_ | refine WQ_block_exit ?_ | refine n9 ?_)
          rw [take_end]
          (apply WL_effs; exact rfl; exact rfl; exact rfl; apply E_call; exact rfl; (intro _ _; simp); (exact rwhole_fn _ (cur.drop 1) (by omega)); (repeat (first | exact AllE.nil _ | (apply AllE.cons; (focus (first | exact ent_nilBy | exact ent_nilSl | (apply Ent.mem; repeat' (first | exact mcs | apply mct))))))); (intro _; exact rfl); (intro _; exact rfl))
          rintro ⟨cv, rv, c, rs, e⟩ hq
          dsimp only
          refine WL_letgoB (v := cv) (by repeat' (first | exact Pick.head _ _ | apply Pick.tail)) rfl ?_
          replace hq : whole (cur.drop 1).length (cur.drop 1) = (c, rs, e) := hq
          rw [hl] at hq
          by_cases c3 : e = 0
          · subst c3
            have hw := whole_len _ _ (show (whole (cur.length - 1) (cur.drop 1)).2.2 = 0 by rw [hq])
            rw [hq] at hw
            replace hw : c.length + rs.length + 1 ≤ (cur.drop 1).length := hw
            by_cases c4 : cur.getD 0 0 = 255
            · have c4' : (cur.getD 0 0).toNat = 255 := by
                rw [c4]
                rfl
              by_cases c5 : 1025 < c.length
              · have e1 := bad (show one1 (dec k) cur dep m = ⟨cur.getD 0 0, 0, [], .nil, [], m + 1, 11⟩ by
                  rw [one1, if_neg c1, if_neg c2, hq, if_neg (fun h => h rfl), if_pos (show lim (cur.getD 0 0) < c.length by rw [lim, if_pos c4]; exact c5)]) (by decide)
                repeat (first | refine n1 ?_ | refine n2 (fun b _ => ?_) | refine n3 (fun _ _ => ?_) | refine n4 ?_ | refine n5 ?_ | refine WL_nil ?_ | refine W_seq ?_ | refine W_region ?_ | refine n7 ?_ | refine n8 ?_ | refine W_block ?_ | refine W_skip ?_ | refine W_ret ?_ | refine W_exit ?_ | refine WQ_then ?_ | refine WQ_then_ret ?_ | refine WQ_then_exit ?_ | refine WQ_block_normal ?_ | refine WQ_block_ret ?_ | refine WQ_block_exit ?_ | refine n9 ?_)
                apply WQ_none2
                ((apply ret3 Try.results88 ( (Value.slice none 0 0, T.nil, m + 1, 11))); (focus (first | trivial | assumption | omega)); (focus (first | exact RV_tmp rfl | (apply RV_cellN; exact rfl; (repeat' (first | exact Pick.head _ _ | apply Pick.tail)); (intro _; exact rfl); (intro _; exact rfl); exact rfl) | (apply RV_cell1; exact rfl; (repeat' (first | exact Pick.head _ _ | apply Pick.tail)); (intro _; exact rfl); exact rfl))); (focus (first | exact RV_tmp rfl | (apply RV_cellN; exact rfl; (repeat' (first | exact Pick.head _ _ | apply Pick.tail)); (intro _; exact rfl); (intro _; exact rfl); exact rfl) | (apply RV_cell1; exact rfl; (repeat' (first | exact Pick.head _ _ | apply Pick.tail)); (intro _; exact rfl); exact rfl))); (focus (first | exact RV_tmp rfl | (apply RV_cellN; exact rfl; (repeat' (first | exact Pick.head _ _ | apply Pick.tail)); (intro _; exact rfl); (intro _; exact rfl); exact rfl) | (apply RV_cell1; exact rfl; (repeat' (first | exact Pick.head _ _ | apply Pick.tail)); (intro _; exact rfl); exact rfl)));  (focus (first | exact rfl | (simp; done))); (focus (repeat (first | exact SubO.nil _ | (apply SubO.cons; (focus (repeat' (first | exact Pick.head _ _ | apply Pick.tail))))))); (focus (repeat (first | exact AllE.nil _ | (apply AllE.cons; (focus (first | exact ent_nilBy | exact ent_nilSl | (apply Ent.mem; repeat' (first | exact mcs | apply mct)))))))))
              · by_cases c6 : c.length = 0
                · have e1 := bad (show one1 (dec k) cur dep m = ⟨cur.getD 0 0, 0, [], .nil, [], m + 1, 12⟩ by
                    rw [one1, if_neg c1, if_neg c2, hq, if_neg (fun h => h rfl), if_neg (show ¬ lim (cur.getD 0 0) < c.length by rw [lim, if_pos c4]; exact c5), if_pos c4]
                    exact if_pos c6) (by decide)
                  repeat (first | refine n1 ?_ | refine n2 (fun b _ => ?_) | refine n3 (fun _ _ => ?_) | refine n4 ?_ | refine n5 ?_ | refine WL_nil ?_ | refine W_seq ?_ | refine W_region ?_ | refine n7 ?_ | refine n8 ?_ | refine W_block ?_ | refine W_skip ?_ | refine W_ret ?_ | refine W_exit ?_ | refine WQ_then ?_ | refine WQ_then_ret ?_ | refine WQ_then_exit ?_ | refine WQ_block_normal ?_ | refine WQ_block_ret ?_ | refine WQ_block_exit ?_ | refine n9 ?_)
                  apply WQ_none2
                  ((apply ret3 Try.results88 ( (Value.slice none 0 0, T.nil, m + 1, 12))); (focus (first | trivial | assumption | omega)); (focus (first | exact RV_tmp rfl | (apply RV_cellN; exact rfl; (repeat' (first | exact Pick.head _ _ | apply Pick.tail)); (intro _; exact rfl); (intro _; exact rfl); exact rfl) | (apply RV_cell1; exact rfl; (repeat' (first | exact Pick.head _ _ | apply Pick.tail)); (intro _; exact rfl); exact rfl))); (focus (first | exact RV_tmp rfl | (apply RV_cellN; exact rfl; (repeat' (first | exact Pick.head _ _ | apply Pick.tail)); (intro _; exact rfl); (intro _; exact rfl); exact rfl) | (apply RV_cell1; exact rfl; (repeat' (first | exact Pick.head _ _ | apply Pick.tail)); (intro _; exact rfl); exact rfl))); (focus (first | exact RV_tmp rfl | (apply RV_cellN; exact rfl; (repeat' (first | exact Pick.head _ _ | apply Pick.tail)); (intro _; exact rfl); (intro _; exact rfl); exact rfl) | (apply RV_cell1; exact rfl; (repeat' (first | exact Pick.head _ _ | apply Pick.tail)); (intro _; exact rfl); exact rfl)));  (focus (first | exact rfl | (simp; done))); (focus (repeat (first | exact SubO.nil _ | (apply SubO.cons; (focus (repeat' (first | exact Pick.head _ _ | apply Pick.tail))))))); (focus (repeat (first | exact AllE.nil _ | (apply AllE.cons; (focus (first | exact ent_nilBy | exact ent_nilSl | (apply Ent.mem; repeat' (first | exact mcs | apply mct)))))))))
                · have e1 : one1 (dec k) cur dep m = ⟨cur.getD 0 0, c.getD 0 0, c.drop 1, .nil, rs, m + 1, 0⟩ := by
                    rw [one1, if_neg c1, if_neg c2, hq, if_neg (fun h => h rfl), if_neg (show ¬ lim (cur.getD 0 0) < c.length by rw [lim, if_pos c4]; exact c5), if_pos c4]
                    exact if_neg c6
                  have hc : contB (cur.getD 0 0) = false := by
                    rw [c4]
                    rfl
                  have hcf := rcont_fn (cur.getD 0 0)
                  rw [hc] at hcf
                  repeat (first | refine n1 ?_ | refine n2 (fun b _ => ?_) | refine n3 (fun _ _ => ?_) | refine n4 ?_ | refine n5 ?_ | refine n6 (hcf) ?_ | refine n6v (hcf) ?_ | refine WL_nil ?_ | refine W_seq ?_ | refine W_region ?_ | refine n7 ?_ | refine n8 ?_ | refine W_block ?_ | refine W_skip ?_ | refine W_ret ?_ | refine W_exit ?_ | refine WQ_then ?_ | refine WQ_then_ret ?_ | refine WQ_then_exit ?_ | refine WQ_block_normal ?_ | refine WQ_block_ret ?_ | refine WQ_block_exit ?_ | refine n9 ?_)
                  rw [take_end]
                  repeat (first | refine n1 ?_ | refine n2 (fun b _ => ?_) | refine n3 (fun _ _ => ?_) | refine n4 ?_ | refine n5 ?_ | refine n6 (hcf) ?_ | refine n6v (hcf) ?_ | refine WL_nil ?_ | refine W_seq ?_ | refine W_region ?_ | refine n7 ?_ | refine n8 ?_ | refine W_block ?_ | refine W_skip ?_ | refine W_ret ?_ | refine W_exit ?_ | refine WQ_then ?_ | refine WQ_then_ret ?_ | refine WQ_then_exit ?_ | refine WQ_block_normal ?_ | refine WQ_block_ret ?_ | refine WQ_block_exit ?_ | refine n9 ?_)
                  (apply WL_effs; exact rfl; exact rfl; exact rfl; (apply E_buildSlice; exact rfl; (focus (repeat (first | apply SeqE.nil | (apply SeqE.cons; exact rfl; (focus (first | (apply CellsE.lit; exact rfl) | (apply CellsE.one; (first | (apply OneC.lit; exact rfl) | (apply OneC.by_; (repeat' (first | exact mcs | apply mct)); done) | (apply OneC.sl; (repeat' (first | exact mcs | apply mct)); done) | (apply OneC.rw; (repeat' (first | exact mcs | apply mct)); done) | (apply OneC.row; (repeat' (first | exact Pick.head _ _ | apply Pick.tail))))))); exact rfl) | exact rfl))); exact rfl; (first | (intro _; exact (rfl : _ = Result.ok 1 _)) | (intro _; exact (rfl : _ = Result.ok 2 _)) | (intro _; exact (rfl : _ = Result.ok 3 _)) | (intro _; exact (rfl : _ = Result.ok 4 _)) | (intro _; exact (rfl : _ = Result.ok 5 _)) | (intro _; exact (rfl : _ = Result.ok 6 _)) | (intro _; exact (rfl : _ = Result.ok 7 _)) | (intro _; exact (rfl : _ = Result.ok 8 _)) | (intro _; exact (rfl : _ = Result.ok 9 _)) | (intro _; exact (rfl : _ = Result.ok 13 _)) | (intro _; exact (rfl : _ = Result.ok 14 _)) | (intro _; exact (rfl : _ = Result.ok 26 _)) | (intro _; exact (rfl : _ = Result.ok 40 _)) | (intro _; exact (rfl : _ = Result.ok 41 _)) | (intro _; exact (rfl : _ = Result.ok 42 _)) | (intro _; exact (rfl : _ = Result.ok 43 _)) | (intro _; exact (rfl : _ = Result.ok 44 _)) | (intro _; exact (rfl : _ = Result.ok 45 _)) | (intro _; exact (rfl : _ = Result.ok 46 _))); (intro _; exact rfl); exact rfl; exact Nat.le_of_ble_eq_true rfl; exact Nat.le_of_ble_eq_true rfl); skip)
                  intro q0 _
                  repeat (first | refine n1 ?_ | refine n2 (fun b _ => ?_) | refine n3 (fun _ _ => ?_) | refine n4 ?_ | refine n5 ?_ | refine WL_nil ?_ | refine W_seq ?_ | refine W_region ?_ | refine n7 ?_ | refine n8 ?_ | refine W_block ?_ | refine W_skip ?_ | refine W_ret ?_ | refine W_exit ?_ | refine WQ_then ?_ | refine WQ_then_ret ?_ | refine WQ_then_exit ?_ | refine WQ_block_normal ?_ | refine WQ_block_ret ?_ | refine WQ_block_exit ?_ | refine n9 ?_)
                  refine WL_effs rfl rfl rfl (E_appendBy (bs := []) rfl rfl (by repeat' (first | exact Pick.head _ _ | apply Pick.tail)) (by repeat' (first | exact mcs | apply mct)) rfl rfl rfl rfl rfl rfl (Nat.le_of_ble_eq_true rfl) (by rw [List.length_drop]; omega) (Nat.zero_add _) rfl) ?_
                  intro w _
                  rw [List.nil_append]
                  refine WL_letgoB (v := w) (by repeat' (first | exact Pick.head _ _ | apply Pick.tail)) rfl ?_
                  refine WL_ent (ψ := Rw 4 (.slice none 0 0) T.nil.len T.nil.at_) ent_nilRw (WL_ent ent_tf0 ?_)
                  repeat (first | refine n1 ?_ | refine n2 (fun b _ => ?_) | refine n3 (fun _ _ => ?_) | refine n4 ?_ | refine n5 ?_ | refine WL_nil ?_ | refine W_seq ?_ | refine W_region ?_ | refine n7 ?_ | refine n8 ?_ | refine W_block ?_ | refine W_skip ?_ | refine W_ret ?_ | refine W_exit ?_ | refine WQ_then ?_ | refine WQ_then_ret ?_ | refine WQ_then_exit ?_ | refine WQ_block_normal ?_ | refine WQ_block_ret ?_ | refine WQ_block_exit ?_ | refine n9 ?_)
                  (apply WL_effs; exact rfl; exact rfl; exact rfl; (apply E_buildSlice; exact rfl; (focus (repeat (first | apply SeqE.nil | (apply SeqE.cons; exact rfl; (focus (first | (apply CellsE.lit; exact rfl) | (apply CellsE.one; (first | (apply OneC.lit; exact rfl) | (apply OneC.by_; (repeat' (first | exact mcs | apply mct)); done) | (apply OneC.sl; (repeat' (first | exact mcs | apply mct)); done) | (apply OneC.rw; (repeat' (first | exact mcs | apply mct)); done) | (apply OneC.row; (repeat' (first | exact Pick.head _ _ | apply Pick.tail))))))); exact rfl) | exact rfl))); exact rfl; (first | (intro _; exact (rfl : _ = Result.ok 1 _)) | (intro _; exact (rfl : _ = Result.ok 2 _)) | (intro _; exact (rfl : _ = Result.ok 3 _)) | (intro _; exact (rfl : _ = Result.ok 4 _)) | (intro _; exact (rfl : _ = Result.ok 5 _)) | (intro _; exact (rfl : _ = Result.ok 6 _)) | (intro _; exact (rfl : _ = Result.ok 7 _)) | (intro _; exact (rfl : _ = Result.ok 8 _)) | (intro _; exact (rfl : _ = Result.ok 9 _)) | (intro _; exact (rfl : _ = Result.ok 13 _)) | (intro _; exact (rfl : _ = Result.ok 14 _)) | (intro _; exact (rfl : _ = Result.ok 26 _)) | (intro _; exact (rfl : _ = Result.ok 40 _)) | (intro _; exact (rfl : _ = Result.ok 41 _)) | (intro _; exact (rfl : _ = Result.ok 42 _)) | (intro _; exact (rfl : _ = Result.ok 43 _)) | (intro _; exact (rfl : _ = Result.ok 44 _)) | (intro _; exact (rfl : _ = Result.ok 45 _)) | (intro _; exact (rfl : _ = Result.ok 46 _))); (intro _; exact rfl); exact rfl; exact Nat.le_of_ble_eq_true rfl; exact Nat.le_of_ble_eq_true rfl); skip)
                  intro q _
                  apply WL_effs
                  · exact rfl
                  · exact rfl
                  · exact rfl
                  · apply E_appendRowO (nm := (acc.app (.cons (cur.getD 0 0) (c.getD 0 0) w (c.drop 1) (.slice none 0 0) .nil .nil)).len) (all := (acc.app (.cons (cur.getD 0 0) (c.getD 0 0) w (c.drop 1) (.slice none 0 0) .nil .nil)).cells)
                    · exact rfl
                    · exact rfl
                    · exact (by repeat' (first | exact Pick.head _ _ | apply Pick.tail))
                    · exact (by repeat' (first | exact Pick.head _ _ | apply Pick.tail))
                    · exact rfl
                    · exact rfl
                    · exact rfl
                    · exact rfl
                    · exact rfl
                    · exact Nat.le_of_ble_eq_true rfl
                    · (focus (repeat (first | apply Ones.nil | exact Ones.bytes | (apply Ones.cons; (focus (first | (apply OneC.lit; exact rfl) | (apply OneC.by_; (repeat' (first | exact mcs | apply mct)); done) | (apply OneC.sl; (repeat' (first | exact mcs | apply mct)); done) | (apply OneC.rw; (repeat' (first | exact mcs | apply mct)); done) | (apply OneC.row; (repeat' (first | exact Pick.head _ _ | apply Pick.tail)))))))))
                    · exact Nat.le_of_ble_eq_true rfl
                    · omega
                    · exact hlen
                    · exact T.cells_snoc ..
                  intro o2 _
                  repeat (first | refine n1 ?_ | refine n2 (fun b _ => ?_) | refine n3 (fun _ _ => ?_) | refine n4 ?_ | refine n5 ?_ | refine WL_nil ?_ | refine W_seq ?_ | refine W_region ?_ | refine n7 ?_ | refine n8 ?_ | refine W_block ?_ | refine W_skip ?_ | refine W_ret ?_ | refine W_exit ?_ | refine WQ_then ?_ | refine WQ_then_ret ?_ | refine WQ_then_exit ?_ | refine WQ_block_normal ?_ | refine WQ_block_ret ?_ | refine WQ_block_exit ?_ | refine n9 ?_)
                  have i1' := good (dv := w) (sv := .slice none 0 0) (subs := .nil) e1
                  refine WQ_ent (ent_tf1 (id := cur.getD 0 0) (ext := c.getD 0 0) (dv := w) (data := c.drop 1) (sv := .slice none 0 0) (subs := .nil) (by repeat' (first | exact mcs | apply mct)) (by repeat' (first | exact mcs | apply mct)) (by repeat' (first | exact mcs | apply mct))) (WQ_ent (ent_tfapp (t := acc) (u := .cons (cur.getD 0 0) (c.getD 0 0) w (c.drop 1) (.slice none 0 0) .nil .nil) (by repeat' (first | exact mcs | apply mct)) (by repeat' (first | exact mcs | apply mct))) ?_)
                  have hln := hlen (id := cur.getD 0 0) (ext := c.getD 0 0) (dv := w) (data := c.drop 1) (sv := .slice none 0 0) (subs := .nil)
                  have j2 : rs.length ≤ k := by omega
                  have j4 : (acc.app (.cons (cur.getD 0 0) (c.getD 0 0) w (c.drop 1) (.slice none 0 0) .nil .nil)).len + rs.length ≤ 1000000000 := by omega
                  have j5 : k ≤ F := by omega
                  have j6 : m + 1 ≤ 64 := by omega
                  ((apply WQ_again ((k, acc.app (.cons (cur.getD 0 0) (c.getD 0 0) w (c.drop 1) (.slice none 0 0) .nil .nil), o2, rv, rs, m + 1))); (focus exact ⟨i1', j2, j6, j4, j5, .inl hd4⟩); (focus exact Nat.lt_succ_self k); (focus (repeat (first | exact FrIn.nil _ | (apply FrIn.cons; exact rfl; (first | exact rfl | (congr 1; first | omega | (dsimp only; omega)) | (simp; done)))))); (focus (repeat (first | exact SubO.nil _ | (apply SubO.cons; (focus (repeat' (first | exact Pick.head _ _ | apply Pick.tail))))))); (focus (repeat (first | exact AllE.nil _ | (apply AllE.cons; (focus (first | exact ent_nilBy | exact ent_nilSl | (apply Ent.mem; repeat' (first | exact mcs | apply mct)))))))))
            · have c4' : ¬ (cur.getD 0 0).toNat = 255 := by
                have := u8ne (n := 255) c4 (by decide)
                omega
              have hlim : lim (cur.getD 0 0) = 1024 := if_neg c4
              by_cases c5 : 1024 < c.length
              · have e1 := bad (show one1 (dec k) cur dep m = ⟨cur.getD 0 0, 0, [], .nil, [], m + 1, 11⟩ by
                  rw [one1, if_neg c1, if_neg c2, hq, if_neg (fun h => h rfl), if_pos (show lim (cur.getD 0 0) < c.length by rw [hlim]; exact c5)]) (by decide)
                by_cases c5b : 1025 < c.length
                · repeat (first | refine n1 ?_ | refine n2 (fun b _ => ?_) | refine n3 (fun _ _ => ?_) | refine n4 ?_ | refine n5 ?_ | refine WL_nil ?_ | refine W_seq ?_ | refine W_region ?_ | refine n7 ?_ | refine n8 ?_ | refine W_block ?_ | refine W_skip ?_ | refine W_ret ?_ | refine W_exit ?_ | refine WQ_then ?_ | refine WQ_then_ret ?_ | refine WQ_then_exit ?_ | refine WQ_block_normal ?_ | refine WQ_block_ret ?_ | refine WQ_block_exit ?_ | refine n9 ?_)
                  apply WQ_none2
                  ((apply ret3 Try.results88 ( (Value.slice none 0 0, T.nil, m + 1, 11))); (focus (first | trivial | assumption | omega)); (focus (first | exact RV_tmp rfl | (apply RV_cellN; exact rfl; (repeat' (first | exact Pick.head _ _ | apply Pick.tail)); (intro _; exact rfl); (intro _; exact rfl); exact rfl) | (apply RV_cell1; exact rfl; (repeat' (first | exact Pick.head _ _ | apply Pick.tail)); (intro _; exact rfl); exact rfl))); (focus (first | exact RV_tmp rfl | (apply RV_cellN; exact rfl; (repeat' (first | exact Pick.head _ _ | apply Pick.tail)); (intro _; exact rfl); (intro _; exact rfl); exact rfl) | (apply RV_cell1; exact rfl; (repeat' (first | exact Pick.head _ _ | apply Pick.tail)); (intro _; exact rfl); exact rfl))); (focus (first | exact RV_tmp rfl | (apply RV_cellN; exact rfl; (repeat' (first | exact Pick.head _ _ | apply Pick.tail)); (intro _; exact rfl); (intro _; exact rfl); exact rfl) | (apply RV_cell1; exact rfl; (repeat' (first | exact Pick.head _ _ | apply Pick.tail)); (intro _; exact rfl); exact rfl)));  (focus (first | exact rfl | (simp; done))); (focus (repeat (first | exact SubO.nil _ | (apply SubO.cons; (focus (repeat' (first | exact Pick.head _ _ | apply Pick.tail))))))); (focus (repeat (first | exact AllE.nil _ | (apply AllE.cons; (focus (first | exact ent_nilBy | exact ent_nilSl | (apply Ent.mem; repeat' (first | exact mcs | apply mct)))))))))
                · repeat (first | refine n1 ?_ | refine n2 (fun b _ => ?_) | refine n3 (fun _ _ => ?_) | refine n4 ?_ | refine n5 ?_ | refine WL_nil ?_ | refine W_seq ?_ | refine W_region ?_ | refine n7 ?_ | refine n8 ?_ | refine W_block ?_ | refine W_skip ?_ | refine W_ret ?_ | refine W_exit ?_ | refine WQ_then ?_ | refine WQ_then_ret ?_ | refine WQ_then_exit ?_ | refine WQ_block_normal ?_ | refine WQ_block_ret ?_ | refine WQ_block_exit ?_ | refine n9 ?_)
                  apply WQ_none2
                  ((apply ret3 Try.results88 ( (Value.slice none 0 0, T.nil, m + 1, 11))); (focus (first | trivial | assumption | omega)); (focus (first | exact RV_tmp rfl | (apply RV_cellN; exact rfl; (repeat' (first | exact Pick.head _ _ | apply Pick.tail)); (intro _; exact rfl); (intro _; exact rfl); exact rfl) | (apply RV_cell1; exact rfl; (repeat' (first | exact Pick.head _ _ | apply Pick.tail)); (intro _; exact rfl); exact rfl))); (focus (first | exact RV_tmp rfl | (apply RV_cellN; exact rfl; (repeat' (first | exact Pick.head _ _ | apply Pick.tail)); (intro _; exact rfl); (intro _; exact rfl); exact rfl) | (apply RV_cell1; exact rfl; (repeat' (first | exact Pick.head _ _ | apply Pick.tail)); (intro _; exact rfl); exact rfl))); (focus (first | exact RV_tmp rfl | (apply RV_cellN; exact rfl; (repeat' (first | exact Pick.head _ _ | apply Pick.tail)); (intro _; exact rfl); (intro _; exact rfl); exact rfl) | (apply RV_cell1; exact rfl; (repeat' (first | exact Pick.head _ _ | apply Pick.tail)); (intro _; exact rfl); exact rfl)));  (focus (first | exact rfl | (simp; done))); (focus (repeat (first | exact SubO.nil _ | (apply SubO.cons; (focus (repeat' (first | exact Pick.head _ _ | apply Pick.tail))))))); (focus (repeat (first | exact AllE.nil _ | (apply AllE.cons; (focus (first | exact ent_nilBy | exact ent_nilSl | (apply Ent.mem; repeat' (first | exact mcs | apply mct)))))))))
              · have hcf := rcont_fn (cur.getD 0 0)
                cases c6 : contB (cur.getD 0 0) with
                | false =>
                  rw [c6] at hcf
                  have e1 : one1 (dec k) cur dep m = ⟨cur.getD 0 0, 0, c, .nil, rs, m + 1, 0⟩ := by
                    rw [one1, if_neg c1, if_neg c2, hq, if_neg (fun h => h rfl), if_neg (show ¬ lim (cur.getD 0 0) < c.length by rw [hlim]; exact c5), if_neg c4, if_pos c6]
                  repeat (first | refine n1 ?_ | refine n2 (fun b _ => ?_) | refine n3 (fun _ _ => ?_) | refine n4 ?_ | refine n5 ?_ | refine n6 (hcf) ?_ | refine n6v (hcf) ?_ | refine WL_nil ?_ | refine W_seq ?_ | refine W_region ?_ | refine n7 ?_ | refine n8 ?_ | refine W_block ?_ | refine W_skip ?_ | refine W_ret ?_ | refine W_exit ?_ | refine WQ_then ?_ | refine WQ_then_ret ?_ | refine WQ_then_exit ?_ | refine WQ_block_normal ?_ | refine WQ_block_ret ?_ | refine WQ_block_exit ?_ | refine n9 ?_)
                  (apply WL_effs; exact rfl; exact rfl; exact rfl; (apply E_buildSlice; exact rfl; (focus (repeat (first | apply SeqE.nil | (apply SeqE.cons; exact rfl; (focus (first | (apply CellsE.lit; exact rfl) | (apply CellsE.one; (first | (apply OneC.lit; exact rfl) | (apply OneC.by_; (repeat' (first | exact mcs | apply mct)); done) | (apply OneC.sl; (repeat' (first | exact mcs | apply mct)); done) | (apply OneC.rw; (repeat' (first | exact mcs | apply mct)); done) | (apply OneC.row; (repeat' (first | exact Pick.head _ _ | apply Pick.tail))))))); exact rfl) | exact rfl))); exact rfl; (first | (intro _; exact (rfl : _ = Result.ok 1 _)) | (intro _; exact (rfl : _ = Result.ok 2 _)) | (intro _; exact (rfl : _ = Result.ok 3 _)) | (intro _; exact (rfl : _ = Result.ok 4 _)) | (intro _; exact (rfl : _ = Result.ok 5 _)) | (intro _; exact (rfl : _ = Result.ok 6 _)) | (intro _; exact (rfl : _ = Result.ok 7 _)) | (intro _; exact (rfl : _ = Result.ok 8 _)) | (intro _; exact (rfl : _ = Result.ok 9 _)) | (intro _; exact (rfl : _ = Result.ok 13 _)) | (intro _; exact (rfl : _ = Result.ok 14 _)) | (intro _; exact (rfl : _ = Result.ok 26 _)) | (intro _; exact (rfl : _ = Result.ok 40 _)) | (intro _; exact (rfl : _ = Result.ok 41 _)) | (intro _; exact (rfl : _ = Result.ok 42 _)) | (intro _; exact (rfl : _ = Result.ok 43 _)) | (intro _; exact (rfl : _ = Result.ok 44 _)) | (intro _; exact (rfl : _ = Result.ok 45 _)) | (intro _; exact (rfl : _ = Result.ok 46 _))); (intro _; exact rfl); exact rfl; exact Nat.le_of_ble_eq_true rfl; exact Nat.le_of_ble_eq_true rfl); skip)
                  intro q0 _
                  repeat (first | refine n1 ?_ | refine n2 (fun b _ => ?_) | refine n3 (fun _ _ => ?_) | refine n4 ?_ | refine n5 ?_ | refine WL_nil ?_ | refine W_seq ?_ | refine W_region ?_ | refine n7 ?_ | refine n8 ?_ | refine W_block ?_ | refine W_skip ?_ | refine W_ret ?_ | refine W_exit ?_ | refine WQ_then ?_ | refine WQ_then_ret ?_ | refine WQ_then_exit ?_ | refine WQ_block_normal ?_ | refine WQ_block_ret ?_ | refine WQ_block_exit ?_ | refine n9 ?_)
                  refine WL_effs rfl rfl rfl (E_appendBy (bs := []) rfl rfl (by repeat' (first | exact Pick.head _ _ | apply Pick.tail)) (by repeat' (first | exact mcs | apply mct)) rfl rfl rfl rfl rfl rfl (Nat.le_of_ble_eq_true rfl) (by omega) (Nat.zero_add _) rfl) ?_
                  intro w _
                  rw [List.nil_append]
                  refine WL_letgoB (v := w) (by repeat' (first | exact Pick.head _ _ | apply Pick.tail)) rfl ?_
                  refine WL_ent (ψ := Rw 4 (.slice none 0 0) T.nil.len T.nil.at_) ent_nilRw (WL_ent ent_tf0 ?_)
                  repeat (first | refine n1 ?_ | refine n2 (fun b _ => ?_) | refine n3 (fun _ _ => ?_) | refine n4 ?_ | refine n5 ?_ | refine WL_nil ?_ | refine W_seq ?_ | refine W_region ?_ | refine n7 ?_ | refine n8 ?_ | refine W_block ?_ | refine W_skip ?_ | refine W_ret ?_ | refine W_exit ?_ | refine WQ_then ?_ | refine WQ_then_ret ?_ | refine WQ_then_exit ?_ | refine WQ_block_normal ?_ | refine WQ_block_ret ?_ | refine WQ_block_exit ?_ | refine n9 ?_)
                  (apply WL_effs; exact rfl; exact rfl; exact rfl; (apply E_buildSlice; exact rfl; (focus (repeat (first | apply SeqE.nil | (apply SeqE.cons; exact rfl; (focus (first | (apply CellsE.lit; exact rfl) | (apply CellsE.one; (first | (apply OneC.lit; exact rfl) | (apply OneC.by_; (repeat' (first | exact mcs | apply mct)); done) | (apply OneC.sl; (repeat' (first | exact mcs | apply mct)); done) | (apply OneC.rw; (repeat' (first | exact mcs | apply mct)); done) | (apply OneC.row; (repeat' (first | exact Pick.head _ _ | apply Pick.tail))))))); exact rfl) | exact rfl))); exact rfl; (first | (intro _; exact (rfl : _ = Result.ok 1 _)) | (intro _; exact (rfl : _ = Result.ok 2 _)) | (intro _; exact (rfl : _ = Result.ok 3 _)) | (intro _; exact (rfl : _ = Result.ok 4 _)) | (intro _; exact (rfl : _ = Result.ok 5 _)) | (intro _; exact (rfl : _ = Result.ok 6 _)) | (intro _; exact (rfl : _ = Result.ok 7 _)) | (intro _; exact (rfl : _ = Result.ok 8 _)) | (intro _; exact (rfl : _ = Result.ok 9 _)) | (intro _; exact (rfl : _ = Result.ok 13 _)) | (intro _; exact (rfl : _ = Result.ok 14 _)) | (intro _; exact (rfl : _ = Result.ok 26 _)) | (intro _; exact (rfl : _ = Result.ok 40 _)) | (intro _; exact (rfl : _ = Result.ok 41 _)) | (intro _; exact (rfl : _ = Result.ok 42 _)) | (intro _; exact (rfl : _ = Result.ok 43 _)) | (intro _; exact (rfl : _ = Result.ok 44 _)) | (intro _; exact (rfl : _ = Result.ok 45 _)) | (intro _; exact (rfl : _ = Result.ok 46 _))); (intro _; exact rfl); exact rfl; exact Nat.le_of_ble_eq_true rfl; exact Nat.le_of_ble_eq_true rfl); skip)
                  intro q _
                  apply WL_effs
                  · exact rfl
                  · exact rfl
                  · exact rfl
                  · apply E_appendRowO (nm := (acc.app (.cons (cur.getD 0 0) (0) (w) (c) (.slice none 0 0) (.nil) .nil)).len) (all := (acc.app (.cons (cur.getD 0 0) (0) (w) (c) (.slice none 0 0) (.nil) .nil)).cells)
                    · exact rfl
                    · exact rfl
                    · exact (by repeat' (first | exact Pick.head _ _ | apply Pick.tail))
                    · exact (by repeat' (first | exact Pick.head _ _ | apply Pick.tail))
                    · exact rfl
                    · exact rfl
                    · exact rfl
                    · exact rfl
                    · exact rfl
                    · exact Nat.le_of_ble_eq_true rfl
                    · (focus (repeat (first | apply Ones.nil | exact Ones.bytes | (apply Ones.cons; (focus (first | (apply OneC.lit; exact rfl) | (apply OneC.by_; (repeat' (first | exact mcs | apply mct)); done) | (apply OneC.sl; (repeat' (first | exact mcs | apply mct)); done) | (apply OneC.rw; (repeat' (first | exact mcs | apply mct)); done) | (apply OneC.row; (repeat' (first | exact Pick.head _ _ | apply Pick.tail)))))))))
                    · exact Nat.le_of_ble_eq_true rfl
                    · omega
                    · exact hlen
                    · exact T.cells_snoc acc (cur.getD 0 0) (0) (w) (c) (.slice none 0 0) (.nil)
                  intro o2 _
                  repeat (first | refine n1 ?_ | refine n2 (fun b _ => ?_) | refine n3 (fun _ _ => ?_) | refine n4 ?_ | refine n5 ?_ | refine WL_nil ?_ | refine W_seq ?_ | refine W_region ?_ | refine n7 ?_ | refine n8 ?_ | refine W_block ?_ | refine W_skip ?_ | refine W_ret ?_ | refine W_exit ?_ | refine WQ_then ?_ | refine WQ_then_ret ?_ | refine WQ_then_exit ?_ | refine WQ_block_normal ?_ | refine WQ_block_ret ?_ | refine WQ_block_exit ?_ | refine n9 ?_)
                  have i1' := good (dv := w) (sv := .slice none 0 0) (subs := .nil) e1
                  refine WQ_ent (ent_tf1 (id := cur.getD 0 0) (ext := 0) (dv := w) (data := c) (sv := .slice none 0 0) (subs := .nil) (by repeat' (first | exact mcs | apply mct)) (by repeat' (first | exact mcs | apply mct)) (by repeat' (first | exact mcs | apply mct))) (WQ_ent (ent_tfapp (t := acc) (u := .cons (cur.getD 0 0) (0) (w) (c) (.slice none 0 0) (.nil) .nil) (by repeat' (first | exact mcs | apply mct)) (by repeat' (first | exact mcs | apply mct))) ?_)
                  have hln := hlen (id := cur.getD 0 0) (ext := 0) (dv := w) (data := c) (sv := .slice none 0 0) (subs := .nil)
                  have j2 : rs.length ≤ k := by omega
                  have j4 : (acc.app (.cons (cur.getD 0 0) (0) (w) (c) (.slice none 0 0) (.nil) .nil)).len + rs.length ≤ 1000000000 := by omega
                  have j5 : k ≤ F := by omega
                  have j6 : m + 1 ≤ 64 := by omega
                  ((apply WQ_again ((k, acc.app (.cons (cur.getD 0 0) (0) (w) (c) (.slice none 0 0) (.nil) .nil), o2, rv, rs, m + 1))); (focus exact ⟨i1', j2, j6, j4, j5, .inl hd4⟩); (focus exact Nat.lt_succ_self k); (focus (repeat (first | exact FrIn.nil _ | (apply FrIn.cons; exact rfl; (first | exact rfl | (congr 1; first | omega | (dsimp only; omega)) | (simp; done)))))); (focus (repeat (first | exact SubO.nil _ | (apply SubO.cons; (focus (repeat' (first | exact Pick.head _ _ | apply Pick.tail))))))); (focus (repeat (first | exact AllE.nil _ | (apply AllE.cons; (focus (first | exact ent_nilBy | exact ent_nilSl | (apply Ent.mem; repeat' (first | exact mcs | apply mct)))))))))
                | true =>
                  rw [c6] at hcf
                  by_cases c7 : dep = 4 ∧ 0 < c.length
                  · have e1 := bad (show one1 (dec k) cur dep m = ⟨cur.getD 0 0, 0, [], .nil, [], m + 1, 4⟩ by
                      rw [one1, if_neg c1, if_neg c2, hq, if_neg (fun h => h rfl), if_neg (show ¬ lim (cur.getD 0 0) < c.length by rw [hlim]; exact c5), if_neg c4, if_neg (by rw [c6]; exact Bool.noConfusion)]
                      exact if_pos c7) (by decide)
                    obtain ⟨c8, c9⟩ := c7
                    repeat (first | refine n1 ?_ | refine n2 (fun b _ => ?_) | refine n3 (fun _ _ => ?_) | refine n4 ?_ | refine n5 ?_ | refine n6 (hcf) ?_ | refine n6v (hcf) ?_ | refine WL_nil ?_ | refine W_seq ?_ | refine W_region ?_ | refine n7 ?_ | refine n8 ?_ | refine W_block ?_ | refine W_skip ?_ | refine W_ret ?_ | refine W_exit ?_ | refine WQ_then ?_ | refine WQ_then_ret ?_ | refine WQ_then_exit ?_ | refine WQ_block_normal ?_ | refine WQ_block_ret ?_ | refine WQ_block_exit ?_ | refine n9 ?_)
                    apply WQ_none2
                    ((apply ret3 Try.results88 ( (Value.slice none 0 0, T.nil, m + 1, 4))); (focus (first | trivial | assumption | omega)); (focus (first | exact RV_tmp rfl | (apply RV_cellN; exact rfl; (repeat' (first | exact Pick.head _ _ | apply Pick.tail)); (intro _; exact rfl); (intro _; exact rfl); exact rfl) | (apply RV_cell1; exact rfl; (repeat' (first | exact Pick.head _ _ | apply Pick.tail)); (intro _; exact rfl); exact rfl))); (focus (first | exact RV_tmp rfl | (apply RV_cellN; exact rfl; (repeat' (first | exact Pick.head _ _ | apply Pick.tail)); (intro _; exact rfl); (intro _; exact rfl); exact rfl) | (apply RV_cell1; exact rfl; (repeat' (first | exact Pick.head _ _ | apply Pick.tail)); (intro _; exact rfl); exact rfl))); (focus (first | exact RV_tmp rfl | (apply RV_cellN; exact rfl; (repeat' (first | exact Pick.head _ _ | apply Pick.tail)); (intro _; exact rfl); (intro _; exact rfl); exact rfl) | (apply RV_cell1; exact rfl; (repeat' (first | exact Pick.head _ _ | apply Pick.tail)); (intro _; exact rfl); exact rfl)));  (focus (first | exact rfl | (simp; done))); (focus (repeat (first | exact SubO.nil _ | (apply SubO.cons; (focus (repeat' (first | exact Pick.head _ _ | apply Pick.tail))))))); (focus (repeat (first | exact AllE.nil _ | (apply AllE.cons; (focus (first | exact ent_nilBy | exact ent_nilSl | (apply Ent.mem; repeat' (first | exact mcs | apply mct)))))))))
                  · have e0 : one1 (dec k) cur dep m = ⟨cur.getD 0 0, 0, [], (dec k c (dep + 1) (m + 1)).1, rs, (dec k c (dep + 1) (m + 1)).2.1, (dec k c (dep + 1) (m + 1)).2.2⟩ := by
                      rw [one1, if_neg c1, if_neg c2, hq, if_neg (fun h => h rfl), if_neg (show ¬ lim (cur.getD 0 0) < c.length by rw [hlim]; exact c5), if_neg c4, if_neg (by rw [c6]; exact Bool.noConfusion)]
                      exact if_neg c7
                    have hd' : dep + 1 ≤ 4 ∨ c.length = 0 := by
                      rcases Nat.eq_zero_or_pos c.length with h | h
                      · exact .inr h
                      · exact .inl (by rcases Nat.lt_or_ge dep 4 with h2 | h2; omega; exact absurd ⟨by omega, h⟩ c7)
                    have hcall := IH k (by omega) cv c (dep + 1) (m + 1) (by omega) (by omega) hd' (by omega)
                    have hmm := dec_many k c (dep + 1) (m + 1) (by omega)
                    have c8 : (dep < 4) ∨ (¬ dep < 4 ∧ c.length = 0) := by omega
                    rcases c8 with c8 | ⟨c8, c9⟩
                    · repeat (first | refine n1 ?_ | refine n2 (fun b _ => ?_) | refine n3 (fun _ _ => ?_) | refine n4 ?_ | refine n5 ?_ | refine n6 (hcf) ?_ | refine n6v (hcf) ?_ | refine WL_nil ?_ | refine W_seq ?_ | refine W_region ?_ | refine n7 ?_ | refine n8 ?_ | refine W_block ?_ | refine W_skip ?_ | refine W_ret ?_ | refine W_exit ?_ | refine WQ_then ?_ | refine WQ_then_ret ?_ | refine WQ_then_exit ?_ | refine WQ_block_normal ?_ | refine WQ_block_ret ?_ | refine WQ_block_exit ?_ | refine n9 ?_)
                      (apply WL_effs; exact rfl; exact rfl; exact rfl; apply E_call; exact rfl; (intro _ _; simp); exact hcall; (repeat (first | exact AllE.nil _ | (apply AllE.cons; (focus (first | exact ent_nilBy | exact ent_nilSl | (apply Ent.mem; repeat' (first | exact mcs | apply mct))))))); (intro _; exact rfl); (intro _; exact rfl))
                      rintro ⟨ov, t, m2, e2⟩ hr
                      replace hr : dec k c (dep + 1) (m + 1) = (t.er, m2, e2) := hr
                      rw [hr] at e0 hmm
                      replace hmm : m2 ≤ 64 := hmm
                      dsimp only
                      by_cases c10 : e2 = 0
                      · subst c10
                        have e1 := e0
                        refine WL_ent ent_nilBy ?_
                        repeat (first | refine n1 ?_ | refine n2 (fun b _ => ?_) | refine n3 (fun _ _ => ?_) | refine n4 ?_ | refine n5 ?_ | refine WL_nil ?_ | refine W_seq ?_ | refine W_region ?_ | refine n7 ?_ | refine n8 ?_ | refine W_block ?_ | refine W_skip ?_ | refine W_ret ?_ | refine W_exit ?_ | refine WQ_then ?_ | refine WQ_then_ret ?_ | refine WQ_then_exit ?_ | refine WQ_block_normal ?_ | refine WQ_block_ret ?_ | refine WQ_block_exit ?_ | refine n9 ?_)
                        (apply WL_effs; exact rfl; exact rfl; exact rfl; (apply E_buildSlice; exact rfl; (focus (repeat (first | apply SeqE.nil | (apply SeqE.cons; exact rfl; (focus (first | (apply CellsE.lit; exact rfl) | (apply CellsE.one; (first | (apply OneC.lit; exact rfl) | (apply OneC.by_; (repeat' (first | exact mcs | apply mct)); done) | (apply OneC.sl; (repeat' (first | exact mcs | apply mct)); done) | (apply OneC.rw; (repeat' (first | exact mcs | apply mct)); done) | (apply OneC.row; (repeat' (first | exact Pick.head _ _ | apply Pick.tail))))))); exact rfl) | exact rfl))); exact rfl; (first | (intro _; exact (rfl : _ = Result.ok 1 _)) | (intro _; exact (rfl : _ = Result.ok 2 _)) | (intro _; exact (rfl : _ = Result.ok 3 _)) | (intro _; exact (rfl : _ = Result.ok 4 _)) | (intro _; exact (rfl : _ = Result.ok 5 _)) | (intro _; exact (rfl : _ = Result.ok 6 _)) | (intro _; exact (rfl : _ = Result.ok 7 _)) | (intro _; exact (rfl : _ = Result.ok 8 _)) | (intro _; exact (rfl : _ = Result.ok 9 _)) | (intro _; exact (rfl : _ = Result.ok 13 _)) | (intro _; exact (rfl : _ = Result.ok 14 _)) | (intro _; exact (rfl : _ = Result.ok 26 _)) | (intro _; exact (rfl : _ = Result.ok 40 _)) | (intro _; exact (rfl : _ = Result.ok 41 _)) | (intro _; exact (rfl : _ = Result.ok 42 _)) | (intro _; exact (rfl : _ = Result.ok 43 _)) | (intro _; exact (rfl : _ = Result.ok 44 _)) | (intro _; exact (rfl : _ = Result.ok 45 _)) | (intro _; exact (rfl : _ = Result.ok 46 _))); (intro _; exact rfl); exact rfl; exact Nat.le_of_ble_eq_true rfl; exact Nat.le_of_ble_eq_true rfl); skip)
                        intro q _
                        apply WL_effs
                        · exact rfl
                        · exact rfl
                        · exact rfl
                        · apply E_appendRowO (nm := (acc.app (.cons (cur.getD 0 0) (0) (.slice none 0 0) ([]) (ov) (t) .nil)).len) (all := (acc.app (.cons (cur.getD 0 0) (0) (.slice none 0 0) ([]) (ov) (t) .nil)).cells)
                          · exact rfl
                          · exact rfl
                          · exact (by repeat' (first | exact Pick.head _ _ | apply Pick.tail))
                          · exact (by repeat' (first | exact Pick.head _ _ | apply Pick.tail))
                          · exact rfl
                          · exact rfl
                          · exact rfl
                          · exact rfl
                          · exact rfl
                          · exact Nat.le_of_ble_eq_true rfl
                          · (focus (repeat (first | apply Ones.nil | exact Ones.bytes | (apply Ones.cons; (focus (first | (apply OneC.lit; exact rfl) | (apply OneC.by_; (repeat' (first | exact mcs | apply mct)); done) | (apply OneC.sl; (repeat' (first | exact mcs | apply mct)); done) | (apply OneC.rw; (repeat' (first | exact mcs | apply mct)); done) | (apply OneC.row; (repeat' (first | exact Pick.head _ _ | apply Pick.tail)))))))))
                          · exact Nat.le_of_ble_eq_true rfl
                          · omega
                          · exact hlen
                          · exact T.cells_snoc acc (cur.getD 0 0) (0) (.slice none 0 0) ([]) (ov) (t)
                        intro o2 _
                        repeat (first | refine n1 ?_ | refine n2 (fun b _ => ?_) | refine n3 (fun _ _ => ?_) | refine n4 ?_ | refine n5 ?_ | refine WL_nil ?_ | refine W_seq ?_ | refine W_region ?_ | refine n7 ?_ | refine n8 ?_ | refine W_block ?_ | refine W_skip ?_ | refine W_ret ?_ | refine W_exit ?_ | refine WQ_then ?_ | refine WQ_then_ret ?_ | refine WQ_then_exit ?_ | refine WQ_block_normal ?_ | refine WQ_block_ret ?_ | refine WQ_block_exit ?_ | refine n9 ?_)
                        have i1' := good (dv := .slice none 0 0) (sv := ov) (subs := t) e1
                        refine WQ_ent (ent_tf1 (id := cur.getD 0 0) (ext := 0) (dv := .slice none 0 0) (data := []) (sv := ov) (subs := t) (by repeat' (first | exact mcs | apply mct)) (by repeat' (first | exact mcs | apply mct)) (by repeat' (first | exact mcs | apply mct))) (WQ_ent (ent_tfapp (t := acc) (u := .cons (cur.getD 0 0) (0) (.slice none 0 0) ([]) (ov) (t) .nil) (by repeat' (first | exact mcs | apply mct)) (by repeat' (first | exact mcs | apply mct))) ?_)
                        have hln := hlen (id := cur.getD 0 0) (ext := 0) (dv := .slice none 0 0) (data := []) (sv := ov) (subs := t)
                        have j2 : rs.length ≤ k := by omega
                        have j4 : (acc.app (.cons (cur.getD 0 0) (0) (.slice none 0 0) ([]) (ov) (t) .nil)).len + rs.length ≤ 1000000000 := by omega
                        have j5 : k ≤ F := by omega
                        have j6 : m2 ≤ 64 := by omega
                        ((apply WQ_again ((k, acc.app (.cons (cur.getD 0 0) (0) (.slice none 0 0) ([]) (ov) (t) .nil), o2, rv, rs, m2))); (focus exact ⟨i1', j2, j6, j4, j5, .inl hd4⟩); (focus exact Nat.lt_succ_self k); (focus (repeat (first | exact FrIn.nil _ | (apply FrIn.cons; exact rfl; (first | exact rfl | (congr 1; first | omega | (dsimp only; omega)) | (simp; done)))))); (focus (repeat (first | exact SubO.nil _ | (apply SubO.cons; (focus (repeat' (first | exact Pick.head _ _ | apply Pick.tail))))))); (focus (repeat (first | exact AllE.nil _ | (apply AllE.cons; (focus (first | exact ent_nilBy | exact ent_nilSl | (apply Ent.mem; repeat' (first | exact mcs | apply mct)))))))))
                      · have e1 := bad e0 c10
                        repeat (first | refine n1 ?_ | refine n2 (fun b _ => ?_) | refine n3 (fun _ _ => ?_) | refine n4 ?_ | refine n5 ?_ | refine WL_nil ?_ | refine W_seq ?_ | refine W_region ?_ | refine n7 ?_ | refine n8 ?_ | refine W_block ?_ | refine W_skip ?_ | refine W_ret ?_ | refine W_exit ?_ | refine WQ_then ?_ | refine WQ_then_ret ?_ | refine WQ_then_exit ?_ | refine WQ_block_normal ?_ | refine WQ_block_ret ?_ | refine WQ_block_exit ?_ | refine n9 ?_)
                        apply WQ_none2
                        ((apply ret3 Try.results88 ( (Value.slice none 0 0, T.nil, m2, e2))); (focus (first | trivial | assumption | omega)); (focus (first | exact RV_tmp rfl | (apply RV_cellN; exact rfl; (repeat' (first | exact Pick.head _ _ | apply Pick.tail)); (intro _; exact rfl); (intro _; exact rfl); exact rfl) | (apply RV_cell1; exact rfl; (repeat' (first | exact Pick.head _ _ | apply Pick.tail)); (intro _; exact rfl); exact rfl))); (focus (first | exact RV_tmp rfl | (apply RV_cellN; exact rfl; (repeat' (first | exact Pick.head _ _ | apply Pick.tail)); (intro _; exact rfl); (intro _; exact rfl); exact rfl) | (apply RV_cell1; exact rfl; (repeat' (first | exact Pick.head _ _ | apply Pick.tail)); (intro _; exact rfl); exact rfl))); (focus (first | exact RV_tmp rfl | (apply RV_cellN; exact rfl; (repeat' (first | exact Pick.head _ _ | apply Pick.tail)); (intro _; exact rfl); (intro _; exact rfl); exact rfl) | (apply RV_cell1; exact rfl; (repeat' (first | exact Pick.head _ _ | apply Pick.tail)); (intro _; exact rfl); exact rfl)));  (focus (first | exact rfl | (simp; done))); (focus (repeat (first | exact SubO.nil _ | (apply SubO.cons; (focus (repeat' (first | exact Pick.head _ _ | apply Pick.tail))))))); (focus (repeat (first | exact AllE.nil _ | (apply AllE.cons; (focus (first | exact ent_nilBy | exact ent_nilSl | (apply Ent.mem; repeat' (first | exact mcs | apply mct)))))))))
                    · repeat (first | refine n1 ?_ | refine n2 (fun b _ => ?_) | refine n3 (fun _ _ => ?_) | refine n4 ?_ | refine n5 ?_ | refine n6 (hcf) ?_ | refine n6v (hcf) ?_ | refine WL_nil ?_ | refine W_seq ?_ | refine W_region ?_ | refine n7 ?_ | refine n8 ?_ | refine W_block ?_ | refine W_skip ?_ | refine W_ret ?_ | refine W_exit ?_ | refine WQ_then ?_ | refine WQ_then_ret ?_ | refine WQ_then_exit ?_ | refine WQ_block_normal ?_ | refine WQ_block_ret ?_ | refine WQ_block_exit ?_ | refine n9 ?_)
                      (apply WL_effs; exact rfl; exact rfl; exact rfl; apply E_call; exact rfl; (intro _ _; simp); exact hcall; (repeat (first | exact AllE.nil _ | (apply AllE.cons; (focus (first | exact ent_nilBy | exact ent_nilSl | (apply Ent.mem; repeat' (first | exact mcs | apply mct))))))); (intro _; exact rfl); (intro _; exact rfl))
                      rintro ⟨ov, t, m2, e2⟩ hr
                      replace hr : dec k c (dep + 1) (m + 1) = (t.er, m2, e2) := hr
                      rw [hr] at e0 hmm
                      replace hmm : m2 ≤ 64 := hmm
                      dsimp only
                      by_cases c10 : e2 = 0
                      · subst c10
                        have e1 := e0
                        refine WL_ent ent_nilBy ?_
                        repeat (first | refine n1 ?_ | refine n2 (fun b _ => ?_) | refine n3 (fun _ _ => ?_) | refine n4 ?_ | refine n5 ?_ | refine WL_nil ?_ | refine W_seq ?_ | refine W_region ?_ | refine n7 ?_ | refine n8 ?_ | refine W_block ?_ | refine W_skip ?_ | refine W_ret ?_ | refine W_exit ?_ | refine WQ_then ?_ | refine WQ_then_ret ?_ | refine WQ_then_exit ?_ | refine WQ_block_normal ?_ | refine WQ_block_ret ?_ | refine WQ_block_exit ?_ | refine n9 ?_)
                        (apply WL_effs; exact rfl; exact rfl; exact rfl; (apply E_buildSlice; exact rfl; (focus (repeat (first | apply SeqE.nil | (apply SeqE.cons; exact rfl; (focus (first | (apply CellsE.lit; exact rfl) | (apply CellsE.one; (first | (apply OneC.lit; exact rfl) | (apply OneC.by_; (repeat' (first | exact mcs | apply mct)); done) | (apply OneC.sl; (repeat' (first | exact mcs | apply mct)); done) | (apply OneC.rw; (repeat' (first | exact mcs | apply mct)); done) | (apply OneC.row; (repeat' (first | exact Pick.head _ _ | apply Pick.tail))))))); exact rfl) | exact rfl))); exact rfl; (first | (intro _; exact (rfl : _ = Result.ok 1 _)) | (intro _; exact (rfl : _ = Result.ok 2 _)) | (intro _; exact (rfl : _ = Result.ok 3 _)) | (intro _; exact (rfl : _ = Result.ok 4 _)) | (intro _; exact (rfl : _ = Result.ok 5 _)) | (intro _; exact (rfl : _ = Result.ok 6 _)) | (intro _; exact (rfl : _ = Result.ok 7 _)) | (intro _; exact (rfl : _ = Result.ok 8 _)) | (intro _; exact (rfl : _ = Result.ok 9 _)) | (intro _; exact (rfl : _ = Result.ok 13 _)) | (intro _; exact (rfl : _ = Result.ok 14 _)) | (intro _; exact (rfl : _ = Result.ok 26 _)) | (intro _; exact (rfl : _ = Result.ok 40 _)) | (intro _; exact (rfl : _ = Result.ok 41 _)) | (intro _; exact (rfl : _ = Result.ok 42 _)) | (intro _; exact (rfl : _ = Result.ok 43 _)) | (intro _; exact (rfl : _ = Result.ok 44 _)) | (intro _; exact (rfl : _ = Result.ok 45 _)) | (intro _; exact (rfl : _ = Result.ok 46 _))); (intro _; exact rfl); exact rfl; exact Nat.le_of_ble_eq_true rfl; exact Nat.le_of_ble_eq_true rfl); skip)
                        intro q _
                        apply WL_effs
                        · exact rfl
                        · exact rfl
                        · exact rfl
                        · apply E_appendRowO (nm := (acc.app (.cons (cur.getD 0 0) (0) (.slice none 0 0) ([]) (ov) (t) .nil)).len) (all := (acc.app (.cons (cur.getD 0 0) (0) (.slice none 0 0) ([]) (ov) (t) .nil)).cells)
                          · exact rfl
                          · exact rfl
                          · exact (by repeat' (first | exact Pick.head _ _ | apply Pick.tail))
                          · exact (by repeat' (first | exact Pick.head _ _ | apply Pick.tail))
                          · exact rfl
                          · exact rfl
                          · exact rfl
                          · exact rfl
                          · exact rfl
                          · exact Nat.le_of_ble_eq_true rfl
                          · (focus (repeat (first | apply Ones.nil | exact Ones.bytes | (apply Ones.cons; (focus (first | (apply OneC.lit; exact rfl) | (apply OneC.by_; (repeat' (first | exact mcs | apply mct)); done) | (apply OneC.sl; (repeat' (first | exact mcs | apply mct)); done) | (apply OneC.rw; (repeat' (first | exact mcs | apply mct)); done) | (apply OneC.row; (repeat' (first | exact Pick.head _ _ | apply Pick.tail)))))))))
                          · exact Nat.le_of_ble_eq_true rfl
                          · omega
                          · exact hlen
                          · exact T.cells_snoc acc (cur.getD 0 0) (0) (.slice none 0 0) ([]) (ov) (t)
                        intro o2 _
                        repeat (first | refine n1 ?_ | refine n2 (fun b _ => ?_) | refine n3 (fun _ _ => ?_) | refine n4 ?_ | refine n5 ?_ | refine WL_nil ?_ | refine W_seq ?_ | refine W_region ?_ | refine n7 ?_ | refine n8 ?_ | refine W_block ?_ | refine W_skip ?_ | refine W_ret ?_ | refine W_exit ?_ | refine WQ_then ?_ | refine WQ_then_ret ?_ | refine WQ_then_exit ?_ | refine WQ_block_normal ?_ | refine WQ_block_ret ?_ | refine WQ_block_exit ?_ | refine n9 ?_)
                        have i1' := good (dv := .slice none 0 0) (sv := ov) (subs := t) e1
                        refine WQ_ent (ent_tf1 (id := cur.getD 0 0) (ext := 0) (dv := .slice none 0 0) (data := []) (sv := ov) (subs := t) (by repeat' (first | exact mcs | apply mct)) (by repeat' (first | exact mcs | apply mct)) (by repeat' (first | exact mcs | apply mct))) (WQ_ent (ent_tfapp (t := acc) (u := .cons (cur.getD 0 0) (0) (.slice none 0 0) ([]) (ov) (t) .nil) (by repeat' (first | exact mcs | apply mct)) (by repeat' (first | exact mcs | apply mct))) ?_)
                        have hln := hlen (id := cur.getD 0 0) (ext := 0) (dv := .slice none 0 0) (data := []) (sv := ov) (subs := t)
                        have j2 : rs.length ≤ k := by omega
                        have j4 : (acc.app (.cons (cur.getD 0 0) (0) (.slice none 0 0) ([]) (ov) (t) .nil)).len + rs.length ≤ 1000000000 := by omega
                        have j5 : k ≤ F := by omega
                        have j6 : m2 ≤ 64 := by omega
                        ((apply WQ_again ((k, acc.app (.cons (cur.getD 0 0) (0) (.slice none 0 0) ([]) (ov) (t) .nil), o2, rv, rs, m2))); (focus exact ⟨i1', j2, j6, j4, j5, .inl hd4⟩); (focus exact Nat.lt_succ_self k); (focus (repeat (first | exact FrIn.nil _ | (apply FrIn.cons; exact rfl; (first | exact rfl | (congr 1; first | omega | (dsimp only; omega)) | (simp; done)))))); (focus (repeat (first | exact SubO.nil _ | (apply SubO.cons; (focus (repeat' (first | exact Pick.head _ _ | apply Pick.tail))))))); (focus (repeat (first | exact AllE.nil _ | (apply AllE.cons; (focus (first | exact ent_nilBy | exact ent_nilSl | (apply Ent.mem; repeat' (first | exact mcs | apply mct)))))))))
                      · have e1 := bad e0 c10
                        repeat (first | refine n1 ?_ | refine n2 (fun b _ => ?_) | refine n3 (fun _ _ => ?_) | refine n4 ?_ | refine n5 ?_ | refine WL_nil ?_ | refine W_seq ?_ | refine W_region ?_ | refine n7 ?_ | refine n8 ?_ | refine W_block ?_ | refine W_skip ?_ | refine W_ret ?_ | refine W_exit ?_ | refine WQ_then ?_ | refine WQ_then_ret ?_ | refine WQ_then_exit ?_ | refine WQ_block_normal ?_ | refine WQ_block_ret ?_ | refine WQ_block_exit ?_ | refine n9 ?_)
                        apply WQ_none2
                        ((apply ret3 Try.results88 ( (Value.slice none 0 0, T.nil, m2, e2))); (focus (first | trivial | assumption | omega)); (focus (first | exact RV_tmp rfl | (apply RV_cellN; exact rfl; (repeat' (first | exact Pick.head _ _ | apply Pick.tail)); (intro _; exact rfl); (intro _; exact rfl); exact rfl) | (apply RV_cell1; exact rfl; (repeat' (first | exact Pick.head _ _ | apply Pick.tail)); (intro _; exact rfl); exact rfl))); (focus (first | exact RV_tmp rfl | (apply RV_cellN; exact rfl; (repeat' (first | exact Pick.head _ _ | apply Pick.tail)); (intro _; exact rfl); (intro _; exact rfl); exact rfl) | (apply RV_cell1; exact rfl; (repeat' (first | exact Pick.head _ _ | apply Pick.tail)); (intro _; exact rfl); exact rfl))); (focus (first | exact RV_tmp rfl | (apply RV_cellN; exact rfl; (repeat' (first | exact Pick.head _ _ | apply Pick.tail)); (intro _; exact rfl); (intro _; exact rfl); exact rfl) | (apply RV_cell1; exact rfl; (repeat' (first | exact Pick.head _ _ | apply Pick.tail)); (intro _; exact rfl); exact rfl)));  (focus (first | exact rfl | (simp; done))); (focus (repeat (first | exact SubO.nil _ | (apply SubO.cons; (focus (repeat' (first | exact Pick.head _ _ | apply Pick.tail))))))); (focus (repeat (first | exact AllE.nil _ | (apply AllE.cons; (focus (first | exact ent_nilBy | exact ent_nilSl | (apply Ent.mem; repeat' (first | exact mcs | apply mct)))))))))
          · have e1 := bad (show one1 (dec k) cur dep m = ⟨cur.getD 0 0, 0, [], .nil, [], m + 1, e⟩ by
              rw [one1, if_neg c1, if_neg c2, hq, if_pos c3]) c3
            repeat (first | refine n1 ?_ | refine n2 (fun b _ => ?_) | refine n3 (fun _ _ => ?_) | refine n4 ?_ | refine n5 ?_ | refine WL_nil ?_ | refine W_seq ?_ | refine W_region ?_ | refine n7 ?_ | refine n8 ?_ | refine W_block ?_ | refine W_skip ?_ | refine W_ret ?_ | refine W_exit ?_ | refine WQ_then ?_ | refine WQ_then_ret ?_ | refine WQ_then_exit ?_ | refine WQ_block_normal ?_ | refine WQ_block_ret ?_ | refine WQ_block_exit ?_ | refine n9 ?_)
            apply WQ_none2
            ((apply ret3 Try.results88 ( (Value.slice none 0 0, T.nil, m + 1, e))); (focus (first | trivial | assumption | omega)); (focus (first | exact RV_tmp rfl | (apply RV_cellN; exact rfl; (repeat' (first | exact Pick.head _ _ | apply Pick.tail)); (intro _; exact rfl); (intro _; exact rfl); exact rfl) | (apply RV_cell1; exact rfl; (repeat' (first | exact Pick.head _ _ | apply Pick.tail)); (intro _; exact rfl); exact rfl))); (focus (first | exact RV_tmp rfl | (apply RV_cellN; exact rfl; (repeat' (first | exact Pick.head _ _ | apply Pick.tail)); (intro _; exact rfl); (intro _; exact rfl); exact rfl) | (apply RV_cell1; exact rfl; (repeat' (first | exact Pick.head _ _ | apply Pick.tail)); (intro _; exact rfl); exact rfl))); (focus (first | exact RV_tmp rfl | (apply RV_cellN; exact rfl; (repeat' (first | exact Pick.head _ _ | apply Pick.tail)); (intro _; exact rfl); (intro _; exact rfl); exact rfl) | (apply RV_cell1; exact rfl; (repeat' (first | exact Pick.head _ _ | apply Pick.tail)); (intro _; exact rfl); exact rfl)));  (focus (first | exact rfl | (simp; done))); (focus (repeat (first | exact SubO.nil _ | (apply SubO.cons; (focus (repeat' (first | exact Pick.head _ _ | apply Pick.tail))))))); (focus (repeat (first | exact AllE.nil _ | (apply AllE.cons; (focus (first | exact ent_nilBy | exact ent_nilSl | (apply Ent.mem; repeat' (first | exact mcs | apply mct)))))))))
end Go.Proofs.Ytoohgnegoaoleaa.C04

/-
  Contracts of both Decode, of the reference's Same, and of the law 'ElementDecodes'.
-/
namespace Go.Proofs.Ytoohgnegoaoleaa.C04
open Go Go.RowKit Go.Hs
attribute [local irreducible] WL W WQ PL Runs Effs AllE Ent SubO FrIn Pick OneC Ones CellsE PartsE SeqE UZ By Sl Pt Ct

set_option maxRecDepth 100000 in
set_option maxHeartbeats 4000000 in
theorem decode_fn (v : Value) (xs : List UInt8) (hx : xs.length ≤ 1000000000) : Ct Try.prog 46 [v] [] [By v xs]
    (X := Value × T × Int) (fun x => ∃ m, dec xs.length xs 1 0 = (x.2.1.er, m, x.2.2)) (fun x => .tuple #[x.1, .int .i64 x.2.2]) (fun x => [.row x.1 106 4 x.2.1.len x.2.1.cells, pk (rowsL 5 x.2.1.dls)]) (fun x => [x.2.1.ts]) := by
  refine Ct_intro Try.func46 rfl Try.ntmps46 (by simp) _ rfl (fun w0 O0 => ?_)
  repeat (first | refine n1 ?_ | refine n2 (fun b _ => ?_) | refine n3 (fun _ _ => ?_) | refine n4 ?_ | refine n5 ?_ | refine WL_nil ?_ | refine W_seq ?_ | refine W_region ?_ | refine n7 ?_ | refine n8 ?_ | refine W_block ?_ | refine W_skip ?_ | refine W_ret ?_ | refine W_exit ?_ | refine WQ_then ?_ | refine WQ_then_ret ?_ | refine WQ_then_exit ?_ | refine WQ_block_normal ?_ | refine WQ_block_ret ?_ | refine WQ_block_exit ?_ | refine n9 ?_)
  (apply WL_effs; exact rfl; exact rfl; exact rfl; apply E_callO; exact rfl; (intro _ _; simp); (exact list_fn xs.length _ v xs 1 0 (Nat.le_refl _) hx (.inl (by decide)) (by decide)); (first | (apply perm1; (focus (repeat' (first | exact Pick.head _ _ | apply Pick.tail)))) | (apply perm2; (focus (repeat' (first | exact Pick.head _ _ | apply Pick.tail))); (focus (repeat' (first | exact Pick.head _ _ | apply Pick.tail)))) | (apply perm3; (focus (repeat' (first | exact Pick.head _ _ | apply Pick.tail))); (focus (repeat' (first | exact Pick.head _ _ | apply Pick.tail))); (focus (repeat' (first | exact Pick.head _ _ | apply Pick.tail))))); (repeat (first | exact AllE.nil _ | (apply AllE.cons; (focus (first | exact ent_nilBy | exact ent_nilSl | (apply Ent.mem; repeat' (first | exact mcs | apply mct))))))); (intro _; exact rfl); (intro _; exact rfl))
  rintro ⟨o, t, m, e⟩ hq
  replace hq : dec xs.length xs 1 0 = (t.er, m, e) := hq
  dsimp only
  repeat (first | refine n1 ?_ | refine n2 (fun b _ => ?_) | refine n3 (fun _ _ => ?_) | refine n4 ?_ | refine n5 ?_ | refine WL_nil ?_ | refine W_seq ?_ | refine W_region ?_ | refine n7 ?_ | refine n8 ?_ | refine W_block ?_ | refine W_skip ?_ | refine W_ret ?_ | refine W_exit ?_ | refine WQ_then ?_ | refine WQ_then_ret ?_ | refine WQ_then_exit ?_ | refine WQ_block_normal ?_ | refine WQ_block_ret ?_ | refine WQ_block_exit ?_ | refine n9 ?_)
  have hq' : ∃ m, dec xs.length xs 1 0 = (t.er, m, e) := ⟨m, hq⟩
  ((apply ret2 Try.results46 ( (o, t, e))); (focus (first | trivial | assumption | omega)); (focus (first | exact RV_tmp rfl | (apply RV_cellN; exact rfl; (repeat' (first | exact Pick.head _ _ | apply Pick.tail)); (intro _; exact rfl); (intro _; exact rfl); exact rfl) | (apply RV_cell1; exact rfl; (repeat' (first | exact Pick.head _ _ | apply Pick.tail)); (intro _; exact rfl); exact rfl))); (focus (first | exact RV_tmp rfl | (apply RV_cellN; exact rfl; (repeat' (first | exact Pick.head _ _ | apply Pick.tail)); (intro _; exact rfl); (intro _; exact rfl); exact rfl) | (apply RV_cell1; exact rfl; (repeat' (first | exact Pick.head _ _ | apply Pick.tail)); (intro _; exact rfl); exact rfl)));  (focus (first | exact rfl | (simp; done))); (focus (repeat (first | exact SubO.nil _ | (apply SubO.cons; (focus (repeat' (first | exact Pick.head _ _ | apply Pick.tail))))))); (focus (repeat (first | exact AllE.nil _ | (apply AllE.cons; (focus (first | exact ent_nilBy | exact ent_nilSl | (apply Ent.mem; repeat' (first | exact mcs | apply mct)))))))))

set_option maxRecDepth 100000 in
set_option maxHeartbeats 4000000 in
theorem rdecode_fn (v : Value) (xs : List UInt8) (hx : xs.length ≤ 1000000000) : Ct Try.prog 65 [v] [] [By v xs]
    (X := Value × T × Int) (fun x => ∃ m, dec xs.length xs 1 0 = (x.2.1.er, m, x.2.2)) (fun x => .tuple #[x.1, .int .i64 x.2.2]) (fun _ => []) (fun x => [Rw 4 x.1 x.2.1.len x.2.1.at_, x.2.1.tf]) := by
  refine Ct_intro Try.func65 rfl Try.ntmps65 (by simp) _ rfl (fun w0 O0 => ?_)
  repeat (first | refine n1 ?_ | refine n2 (fun b _ => ?_) | refine n3 (fun _ _ => ?_) | refine n4 ?_ | refine n5 ?_ | refine WL_nil ?_ | refine W_seq ?_ | refine W_region ?_ | refine n7 ?_ | refine n8 ?_ | refine W_block ?_ | refine W_skip ?_ | refine W_ret ?_ | refine W_exit ?_ | refine WQ_then ?_ | refine WQ_then_ret ?_ | refine WQ_then_exit ?_ | refine WQ_block_normal ?_ | refine WQ_block_ret ?_ | refine WQ_block_exit ?_ | refine n9 ?_)
  (apply WL_effs; exact rfl; exact rfl; exact rfl; apply E_call; exact rfl; (intro _ _; simp); (exact rdec_fn xs.length v xs 1 0 (Nat.le_refl _) hx (.inl (by decide)) (by decide)); (repeat (first | exact AllE.nil _ | (apply AllE.cons; (focus (first | exact ent_nilBy | exact ent_nilSl | (apply Ent.mem; repeat' (first | exact mcs | apply mct))))))); (intro _; exact rfl); (intro _; exact rfl))
  rintro ⟨o, t, m, e⟩ hq
  replace hq : dec xs.length xs 1 0 = (t.er, m, e) := hq
  have hq' : ∃ m, dec xs.length xs 1 0 = (t.er, m, e) := ⟨m, hq⟩
  dsimp only
  by_cases h : e = 0
  · subst h
    repeat (first | refine n1 ?_ | refine n2 (fun b _ => ?_) | refine n3 (fun _ _ => ?_) | refine n4 ?_ | refine n5 ?_ | refine WL_nil ?_ | refine W_seq ?_ | refine W_region ?_ | refine n7 ?_ | refine n8 ?_ | refine W_block ?_ | refine W_skip ?_ | refine W_ret ?_ | refine W_exit ?_ | refine WQ_then ?_ | refine WQ_then_ret ?_ | refine WQ_then_exit ?_ | refine WQ_block_normal ?_ | refine WQ_block_ret ?_ | refine WQ_block_exit ?_ | refine n9 ?_)
    ((apply ret2 Try.results65 ( (o, t, 0))); (focus (first | trivial | assumption | omega)); (focus (first | exact RV_tmp rfl | (apply RV_cellN; exact rfl; (repeat' (first | exact Pick.head _ _ | apply Pick.tail)); (intro _; exact rfl); (intro _; exact rfl); exact rfl) | (apply RV_cell1; exact rfl; (repeat' (first | exact Pick.head _ _ | apply Pick.tail)); (intro _; exact rfl); exact rfl))); (focus (first | exact RV_tmp rfl | (apply RV_cellN; exact rfl; (repeat' (first | exact Pick.head _ _ | apply Pick.tail)); (intro _; exact rfl); (intro _; exact rfl); exact rfl) | (apply RV_cell1; exact rfl; (repeat' (first | exact Pick.head _ _ | apply Pick.tail)); (intro _; exact rfl); exact rfl)));  (focus (first | exact rfl | (simp; done))); (focus (repeat (first | exact SubO.nil _ | (apply SubO.cons; (focus (repeat' (first | exact Pick.head _ _ | apply Pick.tail))))))); (focus (repeat (first | exact AllE.nil _ | (apply AllE.cons; (focus (first | exact ent_nilBy | exact ent_nilSl | (apply Ent.mem; repeat' (first | exact mcs | apply mct)))))))))
  · have h1 : t.er = .nil := by
      have := dec_err xs.length xs 1 0 (by rw [hq]; exact h)
      rw [hq] at this
      exact this
    rw [h1] at hq'
    repeat (first | refine n1 ?_ | refine n2 (fun b _ => ?_) | refine n3 (fun _ _ => ?_) | refine n4 ?_ | refine n5 ?_ | refine WL_nil ?_ | refine W_seq ?_ | refine W_region ?_ | refine n7 ?_ | refine n8 ?_ | refine W_block ?_ | refine W_skip ?_ | refine W_ret ?_ | refine W_exit ?_ | refine WQ_then ?_ | refine WQ_then_ret ?_ | refine WQ_then_exit ?_ | refine WQ_block_normal ?_ | refine WQ_block_ret ?_ | refine WQ_block_exit ?_ | refine n9 ?_)
    apply WQ_none2
    ((apply ret2 Try.results65 ( (Value.slice none 0 0, T.nil, e))); (focus (first | trivial | assumption | omega)); (focus (first | exact RV_tmp rfl | (apply RV_cellN; exact rfl; (repeat' (first | exact Pick.head _ _ | apply Pick.tail)); (intro _; exact rfl); (intro _; exact rfl); exact rfl) | (apply RV_cell1; exact rfl; (repeat' (first | exact Pick.head _ _ | apply Pick.tail)); (intro _; exact rfl); exact rfl))); (focus (first | exact RV_tmp rfl | (apply RV_cellN; exact rfl; (repeat' (first | exact Pick.head _ _ | apply Pick.tail)); (intro _; exact rfl); (intro _; exact rfl); exact rfl) | (apply RV_cell1; exact rfl; (repeat' (first | exact Pick.head _ _ | apply Pick.tail)); (intro _; exact rfl); exact rfl)));  (focus (first | exact rfl | (simp; done))); (focus (repeat (first | exact SubO.nil _ | (apply SubO.cons; (focus (repeat' (first | exact Pick.head _ _ | apply Pick.tail))))))); (focus (repeat (first | exact AllE.nil _ | (apply AllE.cons; (focus (first | exact ent_nilBy | exact ent_nilSl | (apply Ent.mem; repeat' (first | exact mcs | apply mct)))))))))

def flen : Fo → Nat
  | .nil => 0
  | .cons _ _ _ _ next => flen next + 1
theorem flen_er : ∀ (t : T), flen t.er = t.len
  | .nil => rfl
  | .cons _ _ _ _ _ _ next => by simp only [T.er, flen, T.len, flen_er next]
theorem drop_all {t : T} : ∀ {k : Nat}, t.drop k = .nil → t.len ≤ k := by
  induction t with
  | nil => intro k _; exact Nat.zero_le _
  | cons id ext dv data sv subs next _ ih =>
    intro k h
    cases k with
    | zero => cases h
    | succ k => exact Nat.succ_le_succ (ih h)
theorem drop_end {t : T} {k : Nat} (h : k = t.len) : t.drop k = .nil := by
  subst h
  induction t with
  | nil => rfl
  | cons id ext dv data sv subs next _ ih => exact ih

set_option maxRecDepth 100000 in
set_option maxHeartbeats 4000000 in
theorem rsame_fn : ∀ (N : Nat) (t u : T) (v w : Value), t.size < N → CtD Try.prog 80 [v, w] [Rw 4 v t.len t.at_, t.tf, Rw 4 w u.len u.at_, u.tf] (.bool (decide (t.er = u.er))) := by
  intro N
  induction N with
  | zero => intro t u v w h; omega
  | succ N IH =>
    intro t u v w hN
    refine Ct_intro Try.func80 rfl Try.ntmps80 (by simp) _ rfl (fun w0 O0 => ?_)
    refine W_pure (rw_le (n := t.len) (by repeat' (first | exact mcs | apply mct))) fun hle => ?_
    by_cases c1 : t.len = u.len
    · repeat (first | refine n1 ?_ | refine n2 (fun b _ => ?_) | refine n3 (fun _ _ => ?_) | refine n4 ?_ | refine n5 ?_ | refine WL_nil ?_ | refine W_seq ?_ | refine W_region ?_ | refine n7 ?_ | refine n8 ?_ | refine W_block ?_ | refine W_skip ?_ | refine W_ret ?_ | refine W_exit ?_ | refine WQ_then ?_ | refine WQ_then_ret ?_ | refine WQ_then_exit ?_ | refine WQ_block_normal ?_ | refine WQ_block_ret ?_ | refine WQ_block_exit ?_ | refine n9 ?_)
      ((apply W_loopK (X := Nat) [5] [] (fun x => x ≤ t.len ∧ (t.er = u.er ↔ (t.drop x).er = (u.drop x).er)) (fun x => [(5, .int .i64 (x : Int))]) (fun _ => []) (fun _ => []) (fun x => t.len - x) (0)); (focus exact ⟨Nat.zero_le _, Iff.rfl⟩); exact rfl; exact rfl; (intro _; exact rfl); (intro _; exact rfl); (intro _; exact rfl); (focus (repeat (first | exact FrIn.nil _ | (apply FrIn.cons; exact rfl; (first | exact rfl | (congr 1; first | omega | (dsimp only; omega)) | (simp; done)))))); (focus (repeat (first | exact SubO.nil _ | (apply SubO.cons; (focus (repeat' (first | exact Pick.head _ _ | apply Pick.tail))))))); (focus (repeat (first | exact AllE.nil _ | (apply AllE.cons; (focus (first | exact ent_nilBy | exact ent_nilSl | (apply Ent.mem; repeat' (first | exact mcs | apply mct)))))))); intro x hx)
      obtain ⟨hk, hi⟩ := hx
      by_cases c2 : x < t.len
      · obtain ⟨id, ext, dv, data, sv, subs, next, e1⟩ := T.get c2
        obtain ⟨id', ext', dv', data', sv', subs', next', e2⟩ := T.get (c1 ▸ c2)
        rw [e1, e2] at hi
        simp only [T.er, Fo.cons.injEq] at hi
        have a1 := T.at_cons e1
        have a2 := T.at_cons e2
        refine W_ent (ent_tree (t := t) (by repeat' (first | exact mcs | apply mct)) e1).1 (W_ent (ent_tree (t := t) (by repeat' (first | exact mcs | apply mct)) e1).2.1 (W_ent (ent_tree (t := t) (by repeat' (first | exact mcs | apply mct)) e1).2.2 ?_))
        refine W_ent (ent_tree (t := u) (by repeat' (first | exact mcs | apply mct)) e2).1 (W_ent (ent_tree (t := u) (by repeat' (first | exact mcs | apply mct)) e2).2.1 (W_ent (ent_tree (t := u) (by repeat' (first | exact mcs | apply mct)) e2).2.2 ?_))
        repeat (first | refine n1 ?_ | refine n2 (fun b _ => ?_) | refine n3 (fun _ _ => ?_) | refine n4 ?_ | refine n5 ?_ | refine WL_nil ?_ | refine W_seq ?_ | refine W_region ?_ | refine n7 ?_ | refine n8 ?_ | refine W_block ?_ | refine W_skip ?_ | refine W_ret ?_ | refine W_exit ?_ | refine WQ_then ?_ | refine WQ_then_ret ?_ | refine WQ_then_exit ?_ | refine WQ_block_normal ?_ | refine WQ_block_ret ?_ | refine WQ_block_exit ?_ | refine n9 ?_)
        (refine W_regionP' [] [] [0, 1, 2, 3, 4, 5, 6, 7, 8, 9, 10, 11, 12, 13, 14, 15, 16, 17, 18, 19, 20, 21, 22, 23, 24, 25, 26, 27, 28, 29, 30, 31, 32, 33, 34, 35, 36, 37, 38, 39, 40, 41, 42, 43, 44, 45, 46, 47, 48, 49, 50, 51, 52] [] (by kernel_rfl) (by kernel_rfl) (by repeat (first | exact UZ.nil _ _ | (apply UZ.cons; exact rfl; (intro _; exact rfl)))) (by exact rfl) (by (repeat (first | exact SubO.nil _ | (apply SubO.cons; (focus (repeat' (first | exact Pick.head _ _ | apply Pick.tail))))))) ?_)
        by_cases c3 : id = id'
        · subst c3
          by_cases c4 : ext = ext'
          · subst c4
            by_cases c5 : data = data'
            · subst c5
              have hs := IH subs subs' sv sv' (by have := T.drop_size e1; omega)
              by_cases c6 : subs.er = subs'.er
              · rw [decide_eq_true c6] at hs
                have hn : x + 1 ≤ t.len ∧ (t.er = u.er ↔ (t.drop (x + 1)).er = (u.drop (x + 1)).er) := ⟨c2, by rw [hi, T.drop_next e1, T.drop_next e2]; simp [c6]⟩
                repeat (first | refine p1 ?_ | refine p2 (fun b _ => ?_) | refine p3 (fun _ _ => ?_) | refine p4 ?_ | refine p5 ?_ | refine p6 (hs) ?_ | refine p6v (hs) ?_ | refine p7 (fun b => ?_) | refine PL_nil ?_)
                repeat (first | refine n1 ?_ | refine n2 (fun b _ => ?_) | refine n3 (fun _ _ => ?_) | refine n4 ?_ | refine n5 ?_ | refine WL_nil ?_ | refine W_seq ?_ | refine W_region ?_ | refine n7 ?_ | refine n8 ?_ | refine W_block ?_ | refine W_skip ?_ | refine W_ret ?_ | refine W_exit ?_ | refine WQ_then ?_ | refine WQ_then_ret ?_ | refine WQ_then_exit ?_ | refine WQ_block_normal ?_ | refine WQ_block_ret ?_ | refine WQ_block_exit ?_ | refine n9 ?_)
                ((apply WQ_again (x + 1)); (focus exact hn); (focus (omega)); (focus (repeat (first | exact FrIn.nil _ | (apply FrIn.cons; exact rfl; (first | exact rfl | (congr 1; first | omega | (dsimp only; omega)) | (simp; done)))))); (focus (repeat (first | exact SubO.nil _ | (apply SubO.cons; (focus (repeat' (first | exact Pick.head _ _ | apply Pick.tail))))))); (focus (repeat (first | exact AllE.nil _ | (apply AllE.cons; (focus (first | exact ent_nilBy | exact ent_nilSl | (apply Ent.mem; repeat' (first | exact mcs | apply mct)))))))))
              · rw [decide_eq_false c6] at hs
                have : ¬ t.er = u.er := fun h => c6 (hi.1 h).2.2.2.1
                rw [decide_eq_false this]
                repeat (first | refine p1 ?_ | refine p2 (fun b _ => ?_) | refine p3 (fun _ _ => ?_) | refine p4 ?_ | refine p5 ?_ | refine p6 (hs) ?_ | refine p6v (hs) ?_ | refine p7 (fun b => ?_) | refine PL_nil ?_)
                repeat (first | refine n1 ?_ | refine n2 (fun b _ => ?_) | refine n3 (fun _ _ => ?_) | refine n4 ?_ | refine n5 ?_ | refine WL_nil ?_ | refine W_seq ?_ | refine W_region ?_ | refine n7 ?_ | refine n8 ?_ | refine W_block ?_ | refine W_skip ?_ | refine W_ret ?_ | refine W_exit ?_ | refine WQ_then ?_ | refine WQ_then_ret ?_ | refine WQ_then_exit ?_ | refine WQ_block_normal ?_ | refine WQ_block_ret ?_ | refine WQ_block_exit ?_ | refine n9 ?_)
                ((apply ret1 Try.results80 ( ())); (focus (first | trivial | assumption | omega)); (focus (first | exact RV_tmp rfl | (apply RV_cellN; exact rfl; (repeat' (first | exact Pick.head _ _ | apply Pick.tail)); (intro _; exact rfl); (intro _; exact rfl); exact rfl) | (apply RV_cell1; exact rfl; (repeat' (first | exact Pick.head _ _ | apply Pick.tail)); (intro _; exact rfl); exact rfl)));  (focus (first | exact rfl | (simp; done))); (focus (repeat (first | exact SubO.nil _ | (apply SubO.cons; (focus (repeat' (first | exact Pick.head _ _ | apply Pick.tail))))))); (focus (repeat (first | exact AllE.nil _ | (apply AllE.cons; (focus (first | exact ent_nilBy | exact ent_nilSl | (apply Ent.mem; repeat' (first | exact mcs | apply mct)))))))))
            · have : ¬ t.er = u.er := fun h => c5 (hi.1 h).2.2.1
              rw [decide_eq_false this]
              repeat (first | refine p1 ?_ | refine p2 (fun b _ => ?_) | refine p3 (fun _ _ => ?_) | refine p4 ?_ | refine p5 ?_ | refine p7 (fun b => ?_) | refine PL_nil ?_)
              repeat (first | refine n1 ?_ | refine n2 (fun b _ => ?_) | refine n3 (fun _ _ => ?_) | refine n4 ?_ | refine n5 ?_ | refine WL_nil ?_ | refine W_seq ?_ | refine W_region ?_ | refine n7 ?_ | refine n8 ?_ | refine W_block ?_ | refine W_skip ?_ | refine W_ret ?_ | refine W_exit ?_ | refine WQ_then ?_ | refine WQ_then_ret ?_ | refine WQ_then_exit ?_ | refine WQ_block_normal ?_ | refine WQ_block_ret ?_ | refine WQ_block_exit ?_ | refine n9 ?_)
              ((apply ret1 Try.results80 ( ())); (focus (first | trivial | assumption | omega)); (focus (first | exact RV_tmp rfl | (apply RV_cellN; exact rfl; (repeat' (first | exact Pick.head _ _ | apply Pick.tail)); (intro _; exact rfl); (intro _; exact rfl); exact rfl) | (apply RV_cell1; exact rfl; (repeat' (first | exact Pick.head _ _ | apply Pick.tail)); (intro _; exact rfl); exact rfl)));  (focus (first | exact rfl | (simp; done))); (focus (repeat (first | exact SubO.nil _ | (apply SubO.cons; (focus (repeat' (first | exact Pick.head _ _ | apply Pick.tail))))))); (focus (repeat (first | exact AllE.nil _ | (apply AllE.cons; (focus (first | exact ent_nilBy | exact ent_nilSl | (apply Ent.mem; repeat' (first | exact mcs | apply mct)))))))))
          · have : ¬ t.er = u.er := fun h => c4 (hi.1 h).2.1
            rw [decide_eq_false this]
            have c4' : ¬ ext.toNat = ext'.toNat := fun h => c4 (UInt8.toNat_inj.1 h)
            repeat (first | refine p1 ?_ | refine p2 (fun b _ => ?_) | refine p3 (fun _ _ => ?_) | refine p4 ?_ | refine p5 ?_ | refine p7 (fun b => ?_) | refine PL_nil ?_)
            repeat (first | refine n1 ?_ | refine n2 (fun b _ => ?_) | refine n3 (fun _ _ => ?_) | refine n4 ?_ | refine n5 ?_ | refine WL_nil ?_ | refine W_seq ?_ | refine W_region ?_ | refine n7 ?_ | refine n8 ?_ | refine W_block ?_ | refine W_skip ?_ | refine W_ret ?_ | refine W_exit ?_ | refine WQ_then ?_ | refine WQ_then_ret ?_ | refine WQ_then_exit ?_ | refine WQ_block_normal ?_ | refine WQ_block_ret ?_ | refine WQ_block_exit ?_ | refine n9 ?_)
            ((apply ret1 Try.results80 ( ())); (focus (first | trivial | assumption | omega)); (focus (first | exact RV_tmp rfl | (apply RV_cellN; exact rfl; (repeat' (first | exact Pick.head _ _ | apply Pick.tail)); (intro _; exact rfl); (intro _; exact rfl); exact rfl) | (apply RV_cell1; exact rfl; (repeat' (first | exact Pick.head _ _ | apply Pick.tail)); (intro _; exact rfl); exact rfl)));  (focus (first | exact rfl | (simp; done))); (focus (repeat (first | exact SubO.nil _ | (apply SubO.cons; (focus (repeat' (first | exact Pick.head _ _ | apply Pick.tail))))))); (focus (repeat (first | exact AllE.nil _ | (apply AllE.cons; (focus (first | exact ent_nilBy | exact ent_nilSl | (apply Ent.mem; repeat' (first | exact mcs | apply mct)))))))))
        · have : ¬ t.er = u.er := fun h => c3 (hi.1 h).1
          rw [decide_eq_false this]
          have c3' : ¬ id.toNat = id'.toNat := fun h => c3 (UInt8.toNat_inj.1 h)
          repeat (first | refine p1 ?_ | refine p2 (fun b _ => ?_) | refine p3 (fun _ _ => ?_) | refine p4 ?_ | refine p5 ?_ | refine p7 (fun b => ?_) | refine PL_nil ?_)
          repeat (first | refine n1 ?_ | refine n2 (fun b _ => ?_) | refine n3 (fun _ _ => ?_) | refine n4 ?_ | refine n5 ?_ | refine WL_nil ?_ | refine W_seq ?_ | refine W_region ?_ | refine n7 ?_ | refine n8 ?_ | refine W_block ?_ | refine W_skip ?_ | refine W_ret ?_ | refine W_exit ?_ | refine WQ_then ?_ | refine WQ_then_ret ?_ | refine WQ_then_exit ?_ | refine WQ_block_normal ?_ | refine WQ_block_ret ?_ | refine WQ_block_exit ?_ | refine n9 ?_)
          ((apply ret1 Try.results80 ( ())); (focus (first | trivial | assumption | omega)); (focus (first | exact RV_tmp rfl | (apply RV_cellN; exact rfl; (repeat' (first | exact Pick.head _ _ | apply Pick.tail)); (intro _; exact rfl); (intro _; exact rfl); exact rfl) | (apply RV_cell1; exact rfl; (repeat' (first | exact Pick.head _ _ | apply Pick.tail)); (intro _; exact rfl); exact rfl)));  (focus (first | exact rfl | (simp; done))); (focus (repeat (first | exact SubO.nil _ | (apply SubO.cons; (focus (repeat' (first | exact Pick.head _ _ | apply Pick.tail))))))); (focus (repeat (first | exact AllE.nil _ | (apply AllE.cons; (focus (first | exact ent_nilBy | exact ent_nilSl | (apply Ent.mem; repeat' (first | exact mcs | apply mct)))))))))
      · have h1 : t.er = u.er := hi.2 (by rw [drop_end (by omega), drop_end (by omega)])
        rw [decide_eq_true h1]
        repeat (first | refine n1 ?_ | refine n2 (fun b _ => ?_) | refine n3 (fun _ _ => ?_) | refine n4 ?_ | refine n5 ?_ | refine WL_nil ?_ | refine W_seq ?_ | refine W_region ?_ | refine n7 ?_ | refine n8 ?_ | refine W_block ?_ | refine W_skip ?_ | refine W_ret ?_ | refine W_exit ?_ | refine WQ_then ?_ | refine WQ_then_ret ?_ | refine WQ_then_exit ?_ | refine WQ_block_normal ?_ | refine WQ_block_ret ?_ | refine WQ_block_exit ?_ | refine n9 ?_)
        ((apply ret1 Try.results80 ( ())); (focus (first | trivial | assumption | omega)); (focus (first | exact RV_tmp rfl | (apply RV_cellN; exact rfl; (repeat' (first | exact Pick.head _ _ | apply Pick.tail)); (intro _; exact rfl); (intro _; exact rfl); exact rfl) | (apply RV_cell1; exact rfl; (repeat' (first | exact Pick.head _ _ | apply Pick.tail)); (intro _; exact rfl); exact rfl)));  (focus (first | exact rfl | (simp; done))); (focus (repeat (first | exact SubO.nil _ | (apply SubO.cons; (focus (repeat' (first | exact Pick.head _ _ | apply Pick.tail))))))); (focus (repeat (first | exact AllE.nil _ | (apply AllE.cons; (focus (first | exact ent_nilBy | exact ent_nilSl | (apply Ent.mem; repeat' (first | exact mcs | apply mct)))))))))
    · have : ¬ t.er = u.er := fun h => c1 (by rw [← flen_er, ← flen_er, h])
      rw [decide_eq_false this]
      repeat (first | refine n1 ?_ | refine n2 (fun b _ => ?_) | refine n3 (fun _ _ => ?_) | refine n4 ?_ | refine n5 ?_ | refine WL_nil ?_ | refine W_seq ?_ | refine W_region ?_ | refine n7 ?_ | refine n8 ?_ | refine W_block ?_ | refine W_skip ?_ | refine W_ret ?_ | refine W_exit ?_ | refine WQ_then ?_ | refine WQ_then_ret ?_ | refine WQ_then_exit ?_ | refine WQ_block_normal ?_ | refine WQ_block_ret ?_ | refine WQ_block_exit ?_ | refine n9 ?_)
      ((apply ret1 Try.results80 ( ())); (focus (first | trivial | assumption | omega)); (focus (first | exact RV_tmp rfl | (apply RV_cellN; exact rfl; (repeat' (first | exact Pick.head _ _ | apply Pick.tail)); (intro _; exact rfl); (intro _; exact rfl); exact rfl) | (apply RV_cell1; exact rfl; (repeat' (first | exact Pick.head _ _ | apply Pick.tail)); (intro _; exact rfl); exact rfl)));  (focus (first | exact rfl | (simp; done))); (focus (repeat (first | exact SubO.nil _ | (apply SubO.cons; (focus (repeat' (first | exact Pick.head _ _ | apply Pick.tail))))))); (focus (repeat (first | exact AllE.nil _ | (apply AllE.cons; (focus (first | exact ent_nilBy | exact ent_nilSl | (apply Ent.mem; repeat' (first | exact mcs | apply mct)))))))))
end Go.Proofs.Ytoohgnegoaoleaa.C04

/-
  A call that is handed some own things and reads others. No program is named here.
-/
namespace Go.Hs
open Go Go.RowKit
section
variable {C : Ctx} {fr : Fr} {Γ : List OA} {Φ : List SP}
  {ty : TypeId} {pos : String} {aft : Array Edge} {g : Option (Nat × Bool)}
theorem E_callOB {dst : Option Tmp} {f : FuncId} {args : List Operand} {argTypes : Array TypeId} {vs : List Value}
    {Γp Γb Γr : List OA} {Φp : List SP} {X : Type} {pf : X → Prop} {ret : X → Value} {Γ' : X → List OA} {Γ'' : X → List OA}
    (ha : evOs fr args = some vs)
    (hrun : ∀ (aas : Array Value) (w : World), (callFunc f aas).run C.P w = .ok (.enter f aas) w)
    (hfn : Ct C.P f vs Γp Φp pf ret Γ' (fun _ => [])) (hp : Γ.Perm (Γp ++ (Γb ++ Γr))) (hb : Bor Γb Φ Φp) (hΓ : ∀ x, appO (Γ' x) (Γb ++ Γr) = some (Γ'' x)) :
    Effs C fr Γ Φ ⟨dst, .call { callee := .value (.func f), args := args.toArray, argTypes := argTypes }, ty, pos, aft, g⟩ pf ret Γ'' (fun _ => Φ) := by
  refine ⟨fun x => AllIn.refl _, fun R a w hfa hw => ?_⟩
  have hw' := hw.perm (hp.append_right R)
  rw [List.append_assoc] at hw'
  obtain ⟨ho1, ho2, ho3⟩ := Own.append.1 hw'.own
  have ho2' := ho2
  rw [List.append_assoc] at ho2'
  obtain ⟨hb1, hb2, hb3⟩ := Own.append.1 ho2'
  have hin : ∀ k, fpL (Γr ++ R) k → fpL ((Γb ++ Γr) ++ R) k := fun k hk => by
    rw [List.append_assoc]
    exact fpL_append.2 (.inr hk)
  have hO : ∀ k, avo C.O0 (Γr ++ R) k → k < w.heap.size ∧ ¬ fpL Γp k := fun k hk => by
    rcases hk with hk | hk
    · have h1 := hw'.o0 k hk
      refine ⟨Nat.lt_of_lt_of_le h1.1 hw'.mod.size, fun hn => ?_⟩
      rcases hw'.ofp k (fpL_append.2 (.inl hn)) with h2 | h2
      · exact h1.2 h2
      · omega
    · exact ⟨Own.lt hb2 hk, fun hn => ho3 k hn (hin k hk)⟩
  have hd : ∀ k, fpL Γb k → ¬ avo (avo C.O0 (Γr ++ R)) Γp k := fun k hk hn => by
    have hk' : fpL ((Γb ++ Γr) ++ R) k := fpL_append.2 (.inl (fpL_append.2 (.inl hk)))
    rcases hn with (hn | hn) | hn
    · have h1 := hw'.o0 k hn
      rcases hw'.ofp k (fpL_append.2 (.inr hk')) with h2 | h2
      · exact h1.2 h2
      · omega
    · exact hb3 k hk hn
    · exact ho3 k hn hk'
  have hΦ : ∀ ψ ∈ Φ, ψ.p w (avo (avo C.O0 (Γr ++ R)) Γp) := fun ψ hψ => ψ.st (hw'.sp ψ hψ) (Mod.refl _ _) fun k _ hk => by
    rcases hk with (hk | hk) | hk
    · exact .inl hk
    · exact .inr (fpL_append.2 (.inr (hin k hk)))
    · exact .inr (fpL_append.2 (.inl hk))
  have hcall := hfn w (avo C.O0 (Γr ++ R)) hO ho1 (fun ψ hψ => hb w _ hb1 hd hΦ ψ hψ)
  have hrun' : (execOp a.eval ⟨dst, .call { callee := .value (.func f), args := args.toArray, argTypes := argTypes }, ty, pos, aft, g⟩).run C.P w = .ok (.enter f vs.toArray) w := by
    have e2 := evOs_sound hfa ha
    simp only [execOp, resolve, Act.eval, Deferred.ofValue, List.map_toArray, e2, Sem.run_bind, Sem.run_pure, Result.andThen_ok, invoke]
    rw [hrun]
    congr 2
    apply Array.ext'
    simp
  rw [hrun']
  show Calls _ _ _ _ _
  refine hcall.mono fun e w1 ⟨x, hx, he, hm, ho, hf, _⟩ => ⟨_, he, x, hx, rfl, ?_⟩
  have hdis : ∀ k, fpL (Γ' x) k → ¬ fpL ((Γb ++ Γr) ++ R) k := fun k hk hn => by
    rcases hf k hk with h1 | h1
    · exact ho3 k h1 hn
    · have := Own.lt ho2 hn
      omega
  have hmove : Holds C (Γ' x ++ ((Γb ++ Γr) ++ R)) Φ w1 := by
    refine hw'.move (hm.mono fun k _ hk => fpL_append.2 (.inl hk)) (Own.append.2 ⟨ho, ho2.keep fun k hlt hk => hm.block k hlt fun hn => ho3 k hn hk, hdis⟩) fun k hlt hk => ?_
    rcases fpL_append.1 hk with hk | hk
    · rcases hf k hk with h1 | h1
      · exact fpL_append.2 (.inl h1)
      · omega
    · exact fpL_append.2 (.inr hk)
  rw [← appO_eq (hΓ x), List.append_assoc (Γ' x)]
  exact hmove
/-- own blocks lent: what they hold. -/
theorem Bor.blks {Φ : List SP} {bs : List (Nat × TypeId × List Value)} : Bor (bs.map fun b => .blk b.1 b.2.1 b.2.2) Φ ((bs.map fun b => Pt (.pointer (some ⟨b.1, 0, none⟩)) b.2.2) ++ Φ) := fun w O ho hd hΦ ψ hψ => by
  rcases List.mem_append.1 hψ with hψ | hψ
  · obtain ⟨q, hq, rfl⟩ := List.mem_map.1 hψ
    have key : ∀ (l : List (Nat × TypeId × List Value)), Own (l.map fun b => .blk b.1 b.2.1 b.2.2) w → q ∈ l → w.heap[q.1]? = some (.cells q.2.2.toArray q.2.1 (0, 0)) := by
      intro l
      induction l with
      | nil => intro _ h; cases h
      | cons p r ih =>
        intro h1 h2
        rcases List.mem_cons.1 h2 with rfl | h2
        · exact h1.1
        · exact ih h1.2.2 h2
    have hh := key bs ho hq
    refine ⟨⟨q.1, 0, none⟩, rfl, (Array.getElem?_eq_some_iff.1 hh).1, hd q.1 ⟨.blk q.1 q.2.1 q.2.2, List.mem_map.2 ⟨q, hq, rfl⟩, rfl⟩, fun j u hu => ?_⟩
    rw [Addr.add_lit, Nat.zero_add]
    simp only [World.cell?, hh]
    simpa using hu
  · exact hΦ ψ hψ
theorem Bor.ent {Γb : List OA} {Φb Φc : List SP} (h : Bor Γb Φ Φb) (hs : AllE Φc Φb) : Bor Γb Φ Φc := fun w O ho hd hΦ ψ hψ => hs ψ hψ w O (h w O ho hd hΦ)
end
end Go.Hs

/-
  Elements of own rows of structs, boxes let go, own rows cut and cleared, max. No program is named here.
-/
namespace Go.Hs
open Go Go.RowKit

/-- a truth kept out of the way of reckoning tactics. -/
structure Kp (p : Prop) : Prop where
  out : p

theorem row_cell {w : World} {v : Value} {t : TypeId} {size n : Nat} {xs : List Value} (h : w.ownsRow 0 t size v n xs) {k : Nat} {u : Value} (hk : xs[k]? = some u) :
    ∃ b c cur, v = .slice (some ⟨b, 0, none⟩) n c ∧ w.heap[b]? = some (.cells cur t (0, 0)) ∧ n ≤ c ∧ cur.size = c * size ∧ cur.toList.take (n * size) = xs ∧ w.cell? ⟨b, k, none⟩ = some u := by
  obtain ⟨h1, h2⟩ := h
  have hlt := (List.getElem?_eq_some_iff.1 hk).1
  rcases h2 with ⟨rfl, rfl⟩ | ⟨g, cap, cur, rfl, _, hh, hc, hm, hs, ht⟩
  · omega
  · refine ⟨g, cap, cur, rfl, hh, hc, hs, ht, ?_⟩
    simp only [World.cell?, hh]
    rw [← ht, List.getElem?_take_of_lt (by omega)] at hk
    simpa using hk

theorem putN_mk : ∀ (off : Nat) (us cs : List Value), off + us.length ≤ cs.length → putN off us cs = some (cs.take off ++ us ++ cs.drop (off + us.length)) := by
  intro off
  induction off with
  | zero =>
    intro us
    induction us with
    | nil => intro cs _; rw [putN_nil]; simp
    | cons u us ih =>
      intro cs hcs
      cases cs with
      | nil => simp at hcs
      | cons c cs =>
        have ih' := ih cs (by simp at hcs; omega)
        simp only [putN, ih']
        simp
  | succ off ih =>
    intro us cs hcs
    cases cs with
    | nil => simp at hcs
    | cons c cs =>
      have ih' := ih us cs (by simp at hcs; omega)
      simp only [putN, ih']
      simp [Nat.add_right_comm]

section
variable {C : Ctx} {ops : Array Oper} {l : List Oper} {fr : Fr} {Γ Γ' Γ1 : List OA} {Φ : List SP} {Q : Exit → Act → World → Prop}
  {d : Nat} {ty : TypeId} {pos : String} {aft : Array Edge} {g : Option (Nat × Bool)}

/-- an 'if' stands next. -/
theorem W_isIf {id : Nat} {o : Array Oper} {bb : Bool} {c : Operand} {x y z : Code} (h : W C (.seq (.seq (.region id o bb) (.cond c x y)) z) fr Γ Φ Q) : W C (.seq (.seq (.region id o bb) (.cond c x y)) z) fr Γ Φ Q := h

theorem R_max2 {x y : Operand} {kd : IntKind} {a b m : Int} {ts : Array TypeId} (hx : evO fr x = some (.int kd a)) (hy : evO fr y = some (.int kd b))
    (hr : (if b > a then b else a) = m) : Runs C fr Γ Φ ⟨some d, .call { callee := .builtin .max, args := #[x, y], argTypes := ts }, ty, pos, aft, g⟩ (.int kd m) :=
  Runs.pure fun a' w ha _ => by
    subst hr
    simp [execOp, resolve, invoke, builtin, evO_sound ha hx, evO_sound ha hy, Builtin.max_, Builtin.max2]
theorem R_min2 {x y : Operand} {kd : IntKind} {a b m : Int} {ts : Array TypeId} (hx : evO fr x = some (.int kd a)) (hy : evO fr y = some (.int kd b))
    (hr : (if b < a then b else a) = m) : Runs C fr Γ Φ ⟨some d, .call { callee := .builtin .min, args := #[x, y], argTypes := ts }, ty, pos, aft, g⟩ (.int kd m) :=
  Runs.pure fun a' w ha _ => by
    subst hr
    simp [execOp, resolve, invoke, builtin, evO_sound ha hx, evO_sound ha hy, Builtin.min_, Builtin.min2]

theorem R_addS {x y : Operand} {t t' : TypeId} {a b : List UInt8} (hx : evO fr x = some (strV a)) (hy : evO fr y = some (strV b)) (hl : a.length + b.length ≤ 9223372036854775807) :
    Runs C fr Γ Φ ⟨some d, .binOp .add t x y t', ty, pos, aft, g⟩ (strV (a ++ b)) :=
  Runs.pure fun a' w ha _ => by
    have e1 := evO_sound ha hx
    have e2 := evO_sound ha hy
    simp only [strV] at e1 e2
    have hb : (⟨a.toArray⟩ : ByteArray) ++ ⟨b.toArray⟩ = ⟨(a ++ b).toArray⟩ := by
      apply ByteArray.ext
      rw [ByteArray.data_append]
      simp
    have hn : ¬ ((((⟨a.toArray⟩ : ByteArray).size + (⟨b.toArray⟩ : ByteArray).size : Nat) : Int) > IntKind.i64.max) := by
      have e3 : (⟨a.toArray⟩ : ByteArray).size = a.length := by simp [ByteArray.size]
      have e4 : (⟨b.toArray⟩ : ByteArray).size = b.length := by simp [ByteArray.size]
      rw [e3, e4]
      have : IntKind.i64.max = 9223372036854775807 := rfl
      omega
    have hg : (eqGuard .add t x y (.string ⟨a.toArray⟩) (.string ⟨b.toArray⟩)).run C.P w = .ok () w := by simp [eqGuard]
    simp only [execOp, e1, e2, hg, binOp, Op.stringOp, Sem.run_bind, if_neg hn, Sem.run_pure, Result.andThen_ok, hb, strV]

/-- a list laid open: all its cells. -/
theorem ent_rwSl {v : Value} {size n : Nat} {f : Nat → List Value} {xs : List Value} (h0 : 0 < size) (hl : xs.length = n * size) (hf : ∀ i, i < n → (xs.drop (i * size)).take size = f i) (hm : Rw size v n f ∈ Φ) : Ent Φ (Sl size v n xs) := fun w O h => by
  obtain ⟨A, c, hv, h1, h2, hr⟩ := h _ hm
  refine ⟨hl, A, c, hv, h1, h2, fun hn => ?_⟩
  obtain ⟨ad, hA, hlt, hO, hcell⟩ := hr hn
  refine ⟨ad, hA, hlt, hO, fun j u hu => ?_⟩
  have hj : j < n * size := by rw [← hl]; exact (List.getElem?_eq_some_iff.1 hu).1
  have hi : j / size < n := (Nat.div_lt_iff_lt_mul h0).2 hj
  have hj2 : j / size * size + j % size = j := by rw [Nat.mul_comm]; exact Nat.div_add_mod j size
  have h3 := hcell (j / size) hi (j % size) u (by
    rw [← hf _ hi, List.getElem?_take_of_lt (Nat.mod_lt _ h0), List.getElem?_drop, hj2]
    exact hu)
  rwa [hj2] at h3

theorem Ones.append {us vs : List Value} (h : Ones C Γ Φ us) (k : Ones C Γ Φ vs) : Ones C Γ Φ (us ++ vs) := fun u hu => (List.mem_append.1 hu).elim (h u) (k u)
theorem ones_tree {t : T} (hm : t.tf ∈ Φ) : Ones C Γ Φ t.cells := by
  have key : ∀ (t : T) (O : Nat → Prop) (w : World), t.tfP w O → ∀ u ∈ t.cells, u.oneCell' = true := by
    intro t O w
    induction t with
    | nil => intro _ u hu; cases hu
    | cons id ext dv data sv subs next _ ih =>
      intro h u hu
      simp only [T.cells, List.mem_cons] at hu
      rcases hu with rfl | rfl | rfl | rfl | hu
      · rfl
      · rfl
      · obtain ⟨_, A, c, rfl, _⟩ := (show slP 1 u data.length (data.map bcell) w O from h.1)
        rfl
      · obtain ⟨A, c, rfl, _⟩ := (show rwP 4 u subs.len subs.at_ w O from h.2.1)
        rfl
      · exact ih h.2.2.2 u hu
  exact fun u hu R w hw => key t _ w (hw.sp _ hm) u hu
theorem ent_rwT {v : Value} {t : T} (hm : Rw 4 v t.len t.at_ ∈ Φ) : Ent Φ (Sl 4 v t.len t.cells) := ent_rwSl (by decide) (T.cells_length t) (fun i hi => T.cells_at t i hi) hm

/-- append to an own row, of lasting data whose cells are each one. -/
theorem E_appendO {t e : TypeId} {x y : Operand} {v u : Value} {size n m nm : Nat} {xs news all : List Value} {i : TypeInfo} {z : Value}
    (hx : evO fr x = some v) (hy : evO fr y = some u) (hp : Pick (.row v e size n xs) Γ Γ') (hm : Sl size u m news ∈ Φ)
    (ht : C.P.underlying t = some (.slice e)) (hi : C.P.info? e = some i) (hz : i.zero = some z) (hsize : i.size = size) (hzs : z.cells.size = size) (hsz : 0 < size) (h1 : Ones C Γ Φ news)
    (hby : i.bytes ≤ 128) (hb : n + m ≤ 1099511627776) (hnm : n + m = nm) (hall : xs ++ news = all) :
    Effs C fr Γ Φ ⟨some d, .call { callee := .builtin .append, args := #[x, y], argTypes := #[t, t] }, ty, pos, aft, g⟩ (X := Value) (fun _ => True) (fun q => q) (fun v' => .row v' e size nm all :: Γ') (fun _ => Φ) := by
  refine ⟨fun _ => AllIn.refl _, fun R a w ha hw => ?_⟩
  exact (E_append hx hy hp hm ht hi hz hsize hzs hsz (fun u hu => h1 u hu R w hw) hby hb hnm hall).2 R a w ha hw

/-- a field's address in an element of an own row. -/
theorem R_fieldRow {t ft rt : TypeId} {fs : Array Field} {x : Operand} {v : Value} {i j n fo bo size sz : Nat} {xs : List Value} {nm tag pk : String} {emb : Bool} (hx : evO fr x = some (idxV size i v))
    (hp : Pick (.row v rt size n xs) Γ Γ') (hi : i < n)
    (ht : C.P.underlying t = some (.struct fs)) (hf : fs[j]? = some ⟨nm, ft, fo, emb, tag, pk, bo⟩) (hs : ∀ w, (sizeOf ft).run C.P w = .ok sz w) (hn : Nat.beq sz 0 = false) :
    Runs C fr Γ Φ ⟨some d, .fieldAddr t x j, ty, pos, aft, g⟩ (fldV fo (idxV size i v)) :=
  Runs.pure fun a w ha hw => by
    obtain ⟨hl, h2⟩ := (pick_holds hp hw).own.1
    rcases h2 with ⟨h2, _⟩ | ⟨b, cap, cur, rfl, _, hb, hc, hm, hsz, htk⟩
    · omega
    · have h := run_fieldAt (P := C.P) (a := (⟨b, 0, none⟩ : Addr).add (i * size)) ht hf hs hn w
      simp only [execOp, evO_sound ha hx, idxV, Sem.run_bind, h, Result.andThen_ok, Sem.run_pure, fldV]

theorem R_loadRowF {t rt : TypeId} {x : Operand} {v u : Value} {n i off size : Nat} {xs : List Value} (hx : evO fr x = some (fldV off (idxV size i v))) (hp : Pick (.row v rt size n xs) Γ Γ') (hagg : ∀ w, (isAgg t).run C.P w = .ok false w)
    (hc : xs[i * size + off]? = some u) : Runs C fr Γ Φ ⟨some d, .load t x, ty, pos, aft, g⟩ u :=
  Runs.pure fun a w ha hw => by
    obtain ⟨b, c, cur, rfl, hb, _, _, _, h0⟩ := row_cell (pick_holds hp hw).own.1 hc
    have h0 : w.cell? (((⟨b, 0, none⟩ : Addr).add (i * size)).add off) = some u := by
      rw [Addr.add_lit, Addr.add_lit, Nat.zero_add]
      exact h0
    simp [execOp, evO_sound ha hx, idxV, fldV, Instr.loadAt, Instr.sureAddr, run_loadVar_one hagg h0]

theorem R_loadRowN {t rt : TypeId} {x : Operand} {v : Value} {n i size : Nat} {xs us : List Value} (hx : evO fr x = some (idxV size i v)) (hp : Pick (.row v rt size n xs) Γ Γ') (hagg : ∀ w, (isAgg t).run C.P w = .ok true w)
    (hs : ∀ w, (sizeOf t).run C.P w = .ok us.length w) (hi : i < n) (hc : ∀ j u, us[j]? = some u → xs[i * size + j]? = some u) : Runs C fr Γ Φ ⟨some d, .load t x, ty, pos, aft, g⟩ (.agg us.toArray) :=
  Runs.pure fun a w ha hw => by
    obtain ⟨hl, h2⟩ := (pick_holds hp hw).own.1
    rcases h2 with ⟨h2, _⟩ | ⟨b, cap, cur, rfl, _, hb, hcc, hm, hsz, htk⟩
    · omega
    · have hcell : ∀ j u, us[j]? = some u → w.cell? (((⟨b, 0, none⟩ : Addr).add (i * size)).add j) = some u := fun j u hu => by
        obtain ⟨b', c, cur', e, _, _, _, _, h0⟩ := row_cell (pick_holds hp hw).own.1 (hc j u hu)
        injection e with e
        injection e with e
        injection e with e
        subst e
        rw [Addr.add_lit, Addr.add_lit, Nat.zero_add]
        exact h0
      simp [execOp, evO_sound ha hx, idxV, Instr.loadAt, Instr.sureAddr, run_loadVar_agg hagg hs hcell]

/-- a store into an own row, at whatever place. -/
theorem E_storeRowK {t rt : TypeId} {x y : Operand} {v z : Value} {n i off size k : Nat} {xs us ds : List Value} (hx : evO fr x = some (fldV off (idxV size i v))) (hy : evO fr y = some z) (hp : Pick (.row v rt size n xs) Γ Γ')
    (hv : CellsE C Γ Φ z us) (h1 : Ones C Γ Φ us) (hs : ∀ w, (sizeOf t).run C.P w = .ok us.length w) (hi : i < n) (hk : i * size + off = k) (hn : putN k us xs = some ds) :
    Effs C fr Γ Φ ⟨none, .store t x y, ty, pos, aft, g⟩ (X := Unit) (fun _ => True) (fun _ => undef) (fun _ => .row v rt size n ds :: Γ') (fun _ => Φ) := by
  subst hk
  refine ⟨fun _ => AllIn.refl _, fun R a w ha hw => ?_⟩
  have hv := hv R w hw
  have h1 : ∀ u ∈ us, u.oneCell' = true := fun u hu => h1 u hu R w hw
  have hw' := pick_holds (pick_app hp R) hw
  obtain ⟨hl, h2⟩ := hw'.own.1
  rcases h2 with ⟨h2, _⟩ | ⟨b, cap, cur, rfl, _, hb, hcc, hm, hsz, htk⟩
  · omega
  · obtain ⟨hlen, hds⟩ := putN_eq hn
    have hle : xs.length ≤ cur.size := by rw [← htk]; simp; omega
    have hb' : w.heap[b]? = some (.cells cur.toList.toArray rt (0, 0)) := by simpa using hb
    have hpp := putN_mk (i * size + off) us cur.toList (by simp; omega)
    have hst := run_storeVar_own (P := C.P) (w := w) (t := t) (us := us) (v := z) hb' hs hv h1 hpp
    have hna : (off + i * size) = i * size + off := by omega
    refine .skip (w' := w.setRow b (cur.toList.take (i * size + off) ++ us ++ cur.toList.drop (i * size + off + us.length)).toArray) ?_ ⟨(), trivial, rfl, setRow_row hw' hb ?_ ?_⟩
    · simp only [execOp, evO_sound ha hx, evO_sound ha hy, fldV, idxV, Addr.add_lit, Nat.zero_add]
      simp [Instr.storeAt, Instr.sureAddr, hst]
    · simp
      omega
    · rw [hds, ← htk]
      apply List.ext_getElem?
      intro j
      have hcs : n * size ≤ cur.size := by rw [hsz]; exact Nat.mul_le_mul_right _ hcc
      simp only [List.getElem?_append, List.getElem?_take, List.getElem?_drop, List.length_append, List.length_take, Array.length_toList]
      rw [Nat.min_eq_left (show i * size + off ≤ cur.size by omega), Nat.min_eq_left hcs, Nat.min_eq_left (show i * size + off ≤ n * size by omega)]
      by_cases c1 : j < i * size + off
      · rw [if_pos (show j < n * size by omega), if_pos (show j < i * size + off + us.length by omega), if_pos c1, if_pos c1, if_pos (show j < i * size + off + us.length by omega), if_pos c1, if_pos c1, if_pos (show j < n * size by omega)]
      · by_cases c2 : j < i * size + off + us.length
        · rw [if_pos (show j < n * size by omega), if_pos c2, if_neg c1, if_pos c2, if_neg c1]
        · by_cases c3 : j < n * size
          · rw [if_pos c3, if_neg c2, if_neg c2, if_pos (by omega)]
          · rw [if_neg c3, if_neg c2, if_neg (by omega)]

theorem E_storeRowN {t rt : TypeId} {x y : Operand} {v z : Value} {n i size k : Nat} {xs us ds : List Value} (hx : evO fr x = some (idxV size i v)) (hy : evO fr y = some z) (hp : Pick (.row v rt size n xs) Γ Γ')
    (hv : CellsE C Γ Φ z us) (h1 : Ones C Γ Φ us) (hs : ∀ w, (sizeOf t).run C.P w = .ok us.length w) (hi : i < n) (hk : i * size = k) (hn : putN k us xs = some ds) :
    Effs C fr Γ Φ ⟨none, .store t x y, ty, pos, aft, g⟩ (X := Unit) (fun _ => True) (fun _ => undef) (fun _ => .row v rt size n ds :: Γ') (fun _ => Φ) := by
  have key : ∀ (O : List OA) (w : World), Holds C (Γ ++ O) Φ w → fldV 0 (idxV size i v) = idxV size i v := fun O w hw => by
    obtain ⟨hl, h2⟩ := (pick_holds (pick_app hp O) hw).own.1
    rcases h2 with ⟨h2, _⟩ | ⟨b, cap, cur, rfl, _, hb, hcc, hm, hsz, htk⟩
    · omega
    · simp only [idxV, fldV, Addr.add_lit, Nat.add_zero]
  refine ⟨fun _ => AllIn.refl _, fun R a w ha hw => ?_⟩
  have hx' : evO fr x = some (fldV 0 (idxV size i v)) := by rw [key R w hw]; exact hx
  exact (E_storeRowK hx' hy hp hv h1 hs hi (by rw [Nat.add_zero]; exact hk) hn).2 R a w ha hw

/-- an own block, let go. -/
theorem Holds.letgoK {b : Nat} {t : TypeId} {cs : List Value} {w : World} (h : Holds C (.blk b t cs :: Γ) Φ w) : Holds C Γ (Pt (.pointer (some ⟨b, 0, none⟩)) cs :: Φ) w := by
  have ho := h.own
  refine h.drop.cons ⟨⟨b, 0, none⟩, rfl, OA.lt ho.1 rfl, fun hO => ?_, fun j u hu => ?_⟩
  · rcases hO with hO | hO
    · have h1 := h.o0 b hO
      rcases h.ofp b (fpL_cons.2 (.inl rfl)) with h2 | h2
      · exact h1.2 h2
      · have := h1.1
        omega
    · exact ho.2.1 b rfl hO
  · rw [Addr.add_lit, Nat.zero_add, blk_cell ho.1]
    exact hu
theorem W_letgoK {c : Code} {b : Nat} {t : TypeId} {cs : List Value} (hp : Pick (.blk b t cs) Γ Γ1) (h : W C c fr Γ1 (Pt (.pointer (some ⟨b, 0, none⟩)) cs :: Φ) Q) : W C c fr Γ Φ Q := fun a w ha hw => h a w ha (pick_holds hp hw).letgoK
theorem WL_letgoK {b : Nat} {t : TypeId} {cs : List Value} (hp : Pick (.blk b t cs) Γ Γ1) (h : WL C ops l fr Γ1 (Pt (.pointer (some ⟨b, 0, none⟩)) cs :: Φ) Q) : WL C ops l fr Γ Φ Q := fun a w ha hw => h a w ha (pick_holds hp hw).letgoK
theorem WQ_letgoK {e : Exit} {b : Nat} {t : TypeId} {cs : List Value} (hp : Pick (.blk b t cs) Γ Γ1) (h : WQ C e fr Γ1 (Pt (.pointer (some ⟨b, 0, none⟩)) cs :: Φ) Q) : WQ C e fr Γ Φ Q := fun a w ha hw => h a w ha (pick_holds hp hw).letgoK

/-- the front of an own row. -/
theorem E_cutRow {t e rt : TypeId} {x y : Operand} {v : Value} {size n j : Nat} {kd : IntKind} {ii : Int} {xs us : List Value} (hx : evO fr x = some v) (hy : evO fr y = some (.int kd ii)) (hp : Pick (.row v rt size n xs) Γ Γ')
    (ht : C.P.underlying t = some (.slice e)) (hs : ∀ w, (sizeOf e).run C.P w = .ok size w) (hii : ii = (j : Int)) (hj : j ≤ n) (hu : xs.take (j * size) = us) :
    Effs C fr Γ Φ ⟨some d, .slice t x none (some y) none, ty, pos, aft, g⟩ (X := Unit) (fun _ => True) (fun _ => cutV size 0 j v) (fun _ => .row (cutV size 0 j v) rt size j us :: Γ') (fun _ => Φ) := by
  subst hii
  subst hu
  refine ⟨fun _ => AllIn.refl _, fun R a w ha hw => ?_⟩
  have hw' := pick_holds (pick_app hp R) hw
  obtain ⟨hl, h2⟩ := hw'.own.1
  have hrun : ∀ A c, v = .slice A n c → n ≤ c → (execOp a.eval ⟨some d, .slice t x none (some y) none, ty, pos, aft, g⟩).run C.P w = .ok (.value (cutV size 0 j v)) w := fun A c hv hc => by
    subst hv
    have h := run_slice_data_h (P := C.P) (w := w) (n := n) (A := A) (c := c) (kh := kd) ht hs (show j ≤ c by omega)
    simp [execOp, evO_sound ha hx, evO_sound ha hy, h, cutV]
  rcases h2 with ⟨rfl, rfl⟩ | ⟨b, cap, cur, rfl, _, hb, hcc, hm, hsz, htk⟩
  · obtain rfl : j = 0 := by omega
    refine .val (hrun none 0 rfl (Nat.le_refl _)) ⟨(), trivial, rfl, ?_⟩
    have e : cutV size 0 0 (.slice none 0 0) = .slice none 0 0 := rfl
    rw [e]
    refine hw'.move (Mod.refl _ _) ⟨⟨by simp, .inl ⟨rfl, rfl⟩⟩, hw'.own.2.1, hw'.own.2.2⟩ fun k _ hk => ?_
    rcases fpL_cons.1 hk with hk | hk
    · exact fpL_cons.2 (.inl hk)
    · exact fpL_cons.2 (.inr hk)
  · refine .val (hrun _ cap rfl hcc) ⟨(), trivial, rfl, ?_⟩
    have e : cutV size 0 j (.slice (some ⟨b, 0, none⟩) n cap) = .slice (some ⟨b, 0, none⟩) j cap := by
      simp only [cutV, Nat.zero_mul, Nat.sub_zero, Option.map_some, Addr.add_lit, Nat.zero_add]
      split <;> rfl
    rw [e]
    have hj2 : j * size ≤ n * size := Nat.mul_le_mul_right _ hj
    refine hw'.move (Mod.refl _ _) ⟨⟨by simp; omega, .inr ⟨b, cap, cur, rfl, Nat.zero_le _, hb, by omega, hm, hsz, ?_⟩⟩, hw'.own.2.1, hw'.own.2.2⟩ fun k _ hk => ?_
    · rw [← htk, List.take_take, Nat.min_eq_left hj2]
    · rcases fpL_cons.1 hk with hk | hk
      · exact fpL_cons.2 (.inl hk)
      · exact fpL_cons.2 (.inr hk)

/-- the end of an own row made zero. -/
theorem E_clearRow {t e rt : TypeId} {x : Operand} {v z : Value} {size n j : Nat} {xs : List Value} (hx : evO fr x = some (cutV size j n v)) (hp : Pick (.row v rt size n xs) Γ Γ')
    (ht : C.P.underlying t = some (.slice e)) (hz : ∀ w, (zeroValue e).run C.P w = .ok z w) (hzs : z.cells.size = size) (hz1 : z.cells.toList.all (fun u => u.oneCell') = true) (hj : j ≤ n) :
    Effs C fr Γ Φ ⟨none, .call { callee := .builtin .clear, args := #[x], argTypes := #[t] }, ty, pos, aft, g⟩ (X := List Value) (fun _ => True) (fun _ => .tuple #[]) (fun zs => .row v rt size n (xs.take (j * size) ++ zs) :: Γ') (fun _ => Φ) := by
  refine ⟨fun _ => AllIn.refl _, fun R a w ha hw => ?_⟩
  have hw' := pick_holds (pick_app hp R) hw
  obtain ⟨hl, h2⟩ := hw'.own.1
  by_cases hjn : j = n
  · subst hjn
    refine .val (w' := w) (v := .tuple #[]) ?_ ⟨[], trivial, rfl, ?_⟩
    · rcases h2 with ⟨rfl, rfl⟩ | ⟨b, cap, cur, rfl, _, hb, hcc, hm, hsz, htk⟩
      · simp [execOp, resolve, invoke, builtin, evO_sound ha hx, cutV, Builtin.clear_, run_underlying ht]
      · by_cases hcn : cap = j
        · simp [execOp, resolve, invoke, builtin, evO_sound ha hx, cutV, Builtin.clear_, run_underlying ht, hcn]
        · simp [execOp, resolve, invoke, builtin, evO_sound ha hx, cutV, Builtin.clear_, run_underlying ht, hcn]
    · show Holds C (.row v rt size j (xs.take (j * size) ++ []) :: Γ' ++ R) Φ w
      rw [List.append_nil, List.take_of_length_le (by omega)]
      exact hw'
  · rcases h2 with ⟨rfl, rfl⟩ | ⟨b, cap, cur, rfl, _, hb, hcc, hm, hsz, htk⟩
    · omega
    · have hz1' : ∀ u ∈ (Builtin.zeroCells z.cells (n - j)).toList, u.oneCell' = true := by
        intro u hu
        have hall : ∀ u ∈ z.cells.toList, u.oneCell' = true := List.all_eq_true.1 hz1
        simp only [Builtin.zeroCells, Array.toList_map, List.mem_map] at hu
        obtain ⟨i, hi, rfl⟩ := hu
        have hi' : i < (n - j) * z.cells.size := by simpa using hi
        have h0 : 0 < z.cells.size := by
          rcases Nat.eq_zero_or_pos z.cells.size with h | h
          · rw [h] at hi'; omega
          · exact h
        have hlt : i % z.cells.size < z.cells.size := Nat.mod_lt _ h0
        rw [getElem!_pos z.cells _ hlt]
        exact hall _ (by simp)
      have hzl : (Builtin.zeroCells z.cells (n - j)).toList.length = (n - j) * size := by simp [Builtin.zeroCells, hzs]
      have hsum : j * size + (n - j) * size = n * size := by rw [← Nat.add_mul]; congr 1; omega
      have hcap : n * size ≤ cap * size := Nat.mul_le_mul_right _ hcc
      have hst := run_storeCells_at C.P b (j * size) rt (Builtin.zeroCells z.cells (n - j)).toList 0 cur w hb (by rw [hzl]; omega) hz1'
      rw [Nat.add_zero] at hst
      refine .val (w' := w.setRow b (cur.toList.take (j * size) ++ (Builtin.zeroCells z.cells (n - j)).toList ++ cur.toList.drop (j * size + (Builtin.zeroCells z.cells (n - j)).toList.length)).toArray) (v := .tuple #[]) ?_ ⟨(Builtin.zeroCells z.cells (n - j)).toList, trivial, rfl, setRow_row hw' hb ?_ ?_⟩
      · have hne : ¬ cap = j := by omega
        obtain ⟨m', hpos⟩ : ∃ m', n - j = m' + 1 := ⟨n - j - 1, by omega⟩
        simp only [execOp, resolve, invoke, builtin, evO_sound ha hx, cutV, hne, if_false, Option.map_some, Addr.add_lit, Nat.zero_add]
        rw [hpos] at hst ⊢
        simp [hpos, Deferred.ofValue, Builtin.clear_, run_underlying ht, hz, evO_sound ha hx, cutV, hne, Addr.add_lit, hst]
      · simp only [List.size_toArray, List.length_append, List.length_take, List.length_drop, hzl, Array.length_toList]
        omega
      · have l1 : (cur.toList.take (j * size)).length = j * size := by rw [List.length_take, Array.length_toList]; omega
        rw [List.take_left' (by rw [List.length_append, l1, hzl]; exact hsum), ← htk, List.take_take, Nat.min_eq_left (by omega)]

/-- where ways meet again, ahead of what follows. -/
theorem W_cutKT {x y : Code} {X : Type} (ds ps : List Nat) (I : X → Prop) (ch : X → Fr) (gn : X → List OA) (hn : X → List SP) {fr1 : Fr} {Γ1 : List OA} {F : X → Fr} {G : X → List OA} {H : X → List SP}
    (hf : keepO ds fr = some fr1) (hg : dropO ps 0 Γ = some Γ1) (hF : ∀ x, appO (ch x) fr1 = some (F x)) (hG : ∀ x, appO (gn x) Γ1 = some (G x)) (hH : ∀ x, appO (hn x) Φ = some (H x))
    (h : W C x fr Γ Φ (Exit.then (fun a w => ∃ z, I z ∧ fok C (F z) a ∧ Holds C (G z) (H z) w) Q)) (k : ∀ z, I z → W C y (F z) (G z) (H z) Q) : W C x fr Γ Φ (Exit.then (y.wpIn (fenceOf C.rd) 0 C.P Q) Q) := by
  intro a w ha hw
  refine wpIn_mono (h a w ha hw) fun e a' w' he => ?_
  cases e <;> first | exact he | (obtain ⟨z, h0, h1, h2⟩ := he; exact k z h0 a' w' h1 h2)
end
end Go.Hs

/-
  Loops whose rounds hold a range over a function: the marks that such a statement leaves. No program is named here.
-/
namespace Go.Hs
open Go Go.RowKit

theorem perm4 {x y z u : OA} {Γ Γ1 Γ2 Γ3 Γr : List OA} (h : Pick x Γ Γ1) (k : Pick y Γ1 Γ2) (l : Pick z Γ2 Γ3) (m : Pick u Γ3 Γr) : Γ.Perm ([x, y, z, u] ++ Γr) := h.trans (List.Perm.cons x (k.trans (List.Perm.cons y (l.trans (List.Perm.cons z m)))))

/-- the marks of ranges over functions, and their blocks. -/
def Mk (Ds : List Nat) : List Deferred := Ds.map fun D => ⟨.collected D, #[]⟩
def mkO (Ds : List Nat) : List OA := Ds.map fun D => ob D (.deferred (some []))

section
variable {P : Program} {n : Nat} {w0 : World} {O0 M : Nat → Prop} {fr : Fr} {Γ Γ1 : List OA} {Φ : List SP} {Q : Exit → Act → World → Prop}

theorem Holds.consPk {C : Ctx} {x : OA} {Δ Γ : List OA} {Φ : List SP} {w : World} (h : Holds C (x :: pk Δ :: Γ) Φ w) : Holds C (pk (x :: Δ) :: Γ) Φ w := by
  have h1 := (h.perm (.swap _ _ _)).unpack
  exact (h1.perm (List.perm_middle)).pack
theorem WQ_mark {C : Ctx} {e : Exit} {x : OA} {Δ Γ2 : List OA} (hp : Pick x Γ Γ1) (hp' : Pick (pk Δ) Γ1 Γ2) (h : WQ C e fr (pk (x :: Δ) :: Γ2) Φ Q) : WQ C e fr Γ Φ Q :=
  fun a w ha hw => h a w ha (((pick_holds hp hw).perm (List.Perm.cons _ hp')).consPk)

theorem W_mark0 {C : Ctx} {c : Code} (h : W C c fr (pk (mkO []) :: Γ) Φ Q) : W C c fr Γ Φ Q := fun a w ha hw => h a w ha (Holds.pack (by exact hw))

theorem W_loopM {c : Code} {X : Type} {ds : List Deferred} (D : X → List Nat) (I : X → Prop) (F : X → Fr) (G : X → List OA) (H : X → List SP) (μ : X → Nat) (x0 : X) (hI : I x0) (hd : Mk (D x0) = ds)
    (h0 : WQ ⟨P, n, w0, O0, M, none, ds⟩ .normal fr Γ Φ (fun _ a w => fok ⟨P, n, w0, O0, M, none, ds⟩ (F x0) a ∧ Holds ⟨P, n, w0, O0, M, none, ds⟩ (G x0) (H x0) w))
    (round : ∀ x, I x → W ⟨P, n, w0, O0, M, none, Mk (D x)⟩ c (F x) (G x) (H x) (Exit.then (fun a w => ∃ x', I x' ∧ μ x' < μ x ∧ fok ⟨P, n, w0, O0, M, none, Mk (D x')⟩ (F x') a ∧ Holds ⟨P, n, w0, O0, M, none, Mk (D x')⟩ (G x') (H x') w) Q)) :
    W ⟨P, n, w0, O0, M, none, ds⟩ (.loop c) fr Γ Φ Q := by
  subst hd
  intro a w ha hw b k cs hro hb hr
  have key : ∀ m x a w, I x → μ x = m → fok ⟨P, n, w0, O0, M, none, Mk (D x)⟩ (F x) a → Holds ⟨P, n, w0, O0, M, none, Mk (D x)⟩ (G x) (H x) w →
      ∃ e a' w', Q e a' w' ∧ ArrivesIn (Machine.fenced P (fenceOf none)) P (lone (b.atR a (.code c :: .inLoop c :: k)) cs w) b k cs e a' w' := by
    intro m
    induction m using Nat.strongRecOn with
    | _ m ih =>
      intro x a w hi hn hfa hh
      obtain ⟨e, a₁, w₁, hq, harr⟩ := round x hi a w hfa hh b (.inLoop c :: k) cs hro hb hr
      cases e with
      | normal =>
        obtain ⟨x', hi', hlt, hfa', hh'⟩ := hq
        obtain ⟨e₂, a₂, w₂, hq₂, harr₂⟩ := ih (μ x') (hn ▸ hlt) x' a₁ w₁ hi' rfl hfa' hh'
        exact ⟨e₂, a₂, w₂, hq₂, .of_steps (StepsIn.trans harr (.one (fenced_calm hb hr rfl) stepR_inLoop)) harr₂⟩
      | exit id => exact ⟨_, a₁, w₁, hq, .pass (x := .inLoop c) rfl (fun _ _ => .inl (by simp)) harr⟩
      | goto l => exact ⟨_, a₁, w₁, hq, .pass (x := .inLoop c) rfl (fun _ _ => .inl (by simp)) harr⟩
      | ret => exact ⟨_, a₁, w₁, hq, .pass (x := .inLoop c) rfl (fun _ _ => .inl (by simp)) harr⟩
      | panic ch => exact ⟨_, a₁, w₁, hq, .pass (x := .inLoop c) rfl (fun _ _ => .inl (by simp)) harr⟩
      | outgrown => exact ⟨_, a₁, w₁, hq, .pass (x := .inLoop c) rfl (fun _ _ => .inl (by simp)) harr⟩
  obtain ⟨hfa, hh⟩ := h0 a w ha hw
  obtain ⟨e, a', w', hq, harr⟩ := key _ x0 a w hI rfl hfa hh
  exact ⟨e, a', w', hq, .of_steps (.one (fenced_calm hb hr rfl) stepR_loop) harr⟩

theorem W_loopKM {c : Code} {X : Type} {dv : List Deferred} (D : X → List Nat) (ds ps : List Nat) (I : X → Prop) (ch : X → Fr) (gn : X → List OA) (hn : X → List SP) (μ : X → Nat) (x0 : X) (hd : Mk (D x0) = dv) (hI : I x0) {fr1 : Fr} {Γ1 : List OA} {F : X → Fr} {G : X → List OA} {H : X → List SP}
    (hf : keepO ds fr = some fr1) (hg : dropO ps 0 Γ = some Γ1) (hF : ∀ x, appO (ch x) fr1 = some (F x)) (hG : ∀ x, appO (gn x) Γ1 = some (G x)) (hH : ∀ x, appO (hn x) Φ = some (H x))
    (h1 : FrIn fr (ch x0)) (h2 : SubO Γ (G x0)) (h3 : AllE (hn x0) Φ)
    (round : ∀ x, I x → W ⟨P, n, w0, O0, M, none, Mk (D x)⟩ c (F x) (G x) (H x) (Exit.then (fun a w => ∃ x', I x' ∧ μ x' < μ x ∧ fok ⟨P, n, w0, O0, M, none, Mk (D x')⟩ (F x') a ∧ Holds ⟨P, n, w0, O0, M, none, Mk (D x')⟩ (G x') (H x') w) Q)) :
    W ⟨P, n, w0, O0, M, none, dv⟩ (.loop c) fr Γ Φ Q := by
  refine W_loopM D I F G H μ x0 hI hd (WQ_fit ?_ h2 ?_) round
  · rw [← appO_eq (hF x0)]
    exact FrIn.append h1 (keepO_in hf)
  · rw [← appO_eq (hH x0)]
    exact AllE.append h3 fun ψ hψ => Ent.mem hψ

theorem WQ_againM {X : Type} {D : X → List Nat} {I : X → Prop} {F : X → Fr} {G : X → List OA} {H : X → List SP} {μ : X → Nat} {m : Nat} {dv : List Deferred} (x : X) (hd : Mk (D x) = dv) (hi : I x) (hμ : μ x < m) (h1 : FrIn fr (F x)) (h2 : SubO Γ (G x)) (h3 : AllE (H x) Φ) :
    WQ ⟨P, n, w0, O0, M, none, dv⟩ .normal fr Γ Φ (Exit.then (fun a w => ∃ x', I x' ∧ μ x' < m ∧ fok ⟨P, n, w0, O0, M, none, Mk (D x')⟩ (F x') a ∧ Holds ⟨P, n, w0, O0, M, none, Mk (D x')⟩ (G x') (H x') w) Q) := by
  subst hd
  exact fun _ _ ha hw => ⟨x, hi, hμ, ha.sub h1, (hw.subOwn h2).allE h3⟩

theorem ret_endMs {fn : Func} {X : Type} {pf : X → Prop} {ret : X → Value} {Γ' : X → List OA} {Φ' : X → List SP} {e : Exit} (he : e = .ret ∨ e = .normal) (Ds : List Nat) (x : X) (hp : pf x)
    (hD : Pick (pk (mkO Ds)) Γ Γ1)
    (hr : ∀ a w, fok ⟨P, n, w0, O0, M, none, Mk Ds⟩ fr a → Holds ⟨P, n, w0, O0, M, none, Mk Ds⟩ Γ1 Φ w → (results fn a.tmps).run P w = .ok (ret x) w) (h2 : SubO Γ1 (Γ' x)) (h3 : AllE (Φ' x) Φ) :
    WQ ⟨P, n, w0, O0, M, none, Mk Ds⟩ e fr Γ Φ (bodyPostM Fence.wide 0 P fn (FnPost w0 O0 M pf ret Γ' Φ')) := by
  intro a w ha hw
  have key : ∀ (Es : List Nat) (w : World), Holds ⟨P, n, w0, O0, M, none, Mk Ds⟩ (mkO Es ++ Γ1) Φ w → LeavesInM Fence.wide 0 P fn a.tmps (FnPost w0 O0 M pf ret Γ' Φ') (Mk Es) .returning w := by
    intro Es
    induction Es with
    | nil =>
      intro w hw
      have hw3 := (Holds.subOwn hw h2).allE h3
      exact ⟨_, hr a w ha hw, x, hp, rfl, hw3.mod, hw3.own, hw3.ofp, hw3.sp⟩
    | cons D Es ih =>
      intro w hw
      have hat := ob_at hw
      have hw2 := (hw.putO (.deferred none)).drop
      exact ⟨(fun h => by cases h), .inl ⟨D, _, rfl, run_takeDeferred hat, ih _ hw2⟩⟩
  have hw1 := (pick_holds hD hw).unpack
  have hl := key Ds w hw1
  rw [← show a.defers = Mk Ds from ha.1] at hl
  rcases he with rfl | rfl
  · exact hl
  · exact hl
end

section
variable {P : Program} {n : Nat} {w0 : World} {O0 M : Nat → Prop} {fn : Func} {fr : Fr} {Γ Γ1 : List OA} {Φ : List SP} {X : Type} {pf : X → Prop} {ret : X → Value} {Γ' : X → List OA} {Φ' : X → List SP}
theorem ret2Ms {r1 r2 : ResultVar} {v1 v2 : Value} (Ds : List Nat) (hres : fn.results = #[r1, r2]) (x : X) (hp : pf x) (hD : Pick (pk (mkO Ds)) Γ Γ1)
    (h1 : RV ⟨P, n, w0, O0, M, none, Mk Ds⟩ fr Γ1 Φ r1 v1) (h1' : RV ⟨P, n, w0, O0, M, none, Mk Ds⟩ fr Γ1 Φ r2 v2) (hv : .tuple #[v1, v2] = ret x) (h2 : SubO Γ1 (Γ' x)) (h3 : AllE (Φ' x) Φ) :
    WQ ⟨P, n, w0, O0, M, none, Mk Ds⟩ .ret fr Γ Φ (bodyPostM Fence.wide 0 P fn (FnPost w0 O0 M pf ret Γ' Φ')) :=
  ret_endMs (.inl rfl) Ds x hp hD (fun a w ha hw => by rw [← hv, results_run, hres]; simp [h1 a w ha hw, h1' a w ha hw]) h2 h3
end
end Go.Hs

/-
  Own rows sliced, own trees lent, rows let go by parts. No program is named here.
-/
namespace Go.Hs
open Go Go.RowKit

section
variable {C : Ctx} {ops : Array Oper} {l : List Oper} {fr : Fr} {Γ Γ' Γ1 : List OA} {Φ : List SP} {Q : Exit → Act → World → Prop}
  {d : Nat} {ty : TypeId} {pos : String} {aft : Array Edge} {g : Option (Nat × Bool)}

/-- the end of an own row, as a value. -/
theorem R_sliceRow {t e rt : TypeId} {x y : Operand} {v : Value} {size n j : Nat} {kd : IntKind} {ii : Int} {xs : List Value} (hx : evO fr x = some v) (hy : evO fr y = some (.int kd ii)) (hp : Pick (.row v rt size n xs) Γ Γ')
    (ht : C.P.underlying t = some (.slice e)) (hs : ∀ w, (sizeOf e).run C.P w = .ok size w) (hii : ii = (j : Int)) (hj : j ≤ n) :
    Runs C fr Γ Φ ⟨some d, .slice t x (some y) none none, ty, pos, aft, g⟩ (cutV size j n v) :=
  Runs.pure fun a w ha hw => by
    subst hii
    obtain ⟨A, c, rfl, hc, _⟩ := row_nil_or (pick_holds hp hw).own.1
    have h := run_slice_data_l (P := C.P) (w := w) (n := n) (A := A) (c := c) (kl := kd) ht hs hj
    simp [execOp, evO_sound ha hx, evO_sound ha hy, h, cutV]

theorem Ones.lits {us : List Value} (h : ∀ u ∈ us, u.oneCell' = true) : Ones C Γ Φ us := fun u hu => OneC.lit (h u hu)

theorem Holds.dropAll : ∀ {Δ Γ : List OA} {w : World}, Holds C (Δ ++ Γ) Φ w → Holds C Γ Φ w
  | [], _, _, h => h
  | _ :: Δ, _, _, h => Holds.dropAll (Δ := Δ) (Holds.drop h)
/-- of many rows some. -/
theorem Holds.subL {bt : TypeId} {L L' K : List (Value × List UInt8)} {w : World} (hp : L.Perm (L' ++ K)) (h : Holds C (pk (rowsL bt L) :: Γ) Φ w) : Holds C (pk (rowsL bt L') :: Γ) Φ w := by
  have h1 := h.unpack
  have h2 : Holds C ((rowsL bt L' ++ rowsL bt K) ++ Γ) Φ w := by
    rw [← rowsL_append]
    exact h1.perm ((hp.map fun (p : Value × List UInt8) => OA.row p.1 bt 1 p.2.length (p.2.map bcell)).append_right Γ)
  have h3 : Holds C (rowsL bt K ++ (rowsL bt L' ++ Γ)) Φ w := h2.perm (by
    rw [← List.append_assoc]
    exact List.perm_append_comm.append_right Γ)
  exact h3.dropAll.pack
theorem WL_subL {bt : TypeId} {L L' K : List (Value × List UInt8)} (hpk : Pick (pk (rowsL bt L)) Γ Γ1) (hp : L.Perm (L' ++ K)) (h : WL C ops l fr (pk (rowsL bt L') :: Γ1) Φ Q) : WL C ops l fr Γ Φ Q := fun a w ha hw => h a w ha ((pick_holds hpk hw).subL hp)
theorem WQ_subL {e : Exit} {bt : TypeId} {L L' K : List (Value × List UInt8)} (hpk : Pick (pk (rowsL bt L)) Γ Γ1) (hp : L.Perm (L' ++ K)) (h : WQ C e fr (pk (rowsL bt L') :: Γ1) Φ Q) : WQ C e fr Γ Φ Q := fun a w ha hw => h a w ha ((pick_holds hpk hw).subL hp)

theorem WL_takeL {bt : TypeId} {L : List (Value × List UInt8)} {i : Nat} {p : Value × List UInt8} (hi : L[i]? = some p) (hp : Pick (pk (rowsL bt L)) Γ Γ1)
    (h : WL C ops l fr (.row p.1 bt 1 p.2.length (p.2.map bcell) :: pk (rowsL bt (L.eraseIdx i)) :: Γ1) Φ Q) : WL C ops l fr Γ Φ Q := fun a w ha hw => h a w ha ((pick_holds hp hw).takeL hi)

theorem slT_rw {v : Value} {t : T} {w : World} {O : Nat → Prop} (h : slP 4 v t.len t.cells w O) : rwP 4 v t.len t.at_ w O := by
  have h1 := ent_slT (Φ := [Sl 4 v t.len t.cells]) (v := v) (t := t) List.mem_cons_self w O (fun χ hχ => by rcases List.mem_singleton.1 hχ with rfl; exact h)
  exact h1
/-- an own list of elements lent. -/
theorem Bor.rowT {v : Value} {et : TypeId} {t : T} : Bor [.row v et 4 t.len t.cells] Φ (Rw 4 v t.len t.at_ :: Φ) := fun w O ho hd hΦ ψ hψ => by
  rcases List.mem_cons.1 hψ with rfl | hψ
  · exact slT_rw (slP_of_row ho.1 fun k hk => hd k (fpL_cons.2 (.inl hk)))
  · exact hΦ ψ hψ
theorem Bor.both {v : Value} {et bt : TypeId} {t : T} (hm : t.ts ∈ Φ) : Bor [.row v et 4 t.len t.cells, pk (rowsL bt t.dls)] Φ (Rw 4 v t.len t.at_ :: t.tf :: Φ) := fun w O ho hd hΦ ψ hψ => by
  rcases List.mem_cons.1 hψ with rfl | hψ
  · exact slT_rw (slP_of_row ho.1 fun k hk => hd k (fpL_cons.2 (.inl hk)))
  · rcases List.mem_cons.1 hψ with rfl | hψ
    · exact T.tf_of_ts ho.2.2.1 (fun k hk => hd k (fpL_cons.2 (.inr (fpL_cons.2 (.inl hk))))) (hΦ _ hm)
    · exact hΦ ψ hψ
theorem Bor.sub {Γb : List OA} {Φb Φc : List SP} (h : Bor Γb Φ Φb) (hs : AllIn Φc Φb) : Bor Γb Φ Φc := fun w O ho hd hΦ ψ hψ => h w O ho hd hΦ ψ (hs ψ hψ)

/-- the cells of an own tree are one each. -/
theorem tree_ones {bt : TypeId} {t : T} (hp : Pick (pk (rowsL bt t.dls)) Γ Γ1) (hm : t.ts ∈ Φ) : ∀ w, Holds C Γ Φ w → ∀ u ∈ t.cells, u.oneCell' = true := fun w hw => by
  have key : ∀ (t : T), Own (rowsL bt t.dls) w → t.tsP w (avo C.O0 Γ) → ∀ u ∈ t.cells, u.oneCell' = true := by
    intro t
    induction t with
    | nil => intro _ _ u hu; cases hu
    | cons id ext dv data sv subs next _ ih =>
      intro ho h u hu
      simp only [T.cells, List.mem_cons] at hu
      rcases hu with rfl | rfl | rfl | rfl | hu
      · rfl
      · rfl
      · obtain ⟨A, c, hu, _⟩ := row_nil_or ho.1
        have hu : u = .slice A data.length c := hu
        rw [hu]
        rfl
      · obtain ⟨A, c, rfl, _⟩ := (show rwP 4 u subs.len subs.at_ w _ from h.1)
        rfl
      · exact ih ho.2.2 h.2.2 u hu
  exact key t (pick_holds hp hw).own.1 (hw.sp _ hm)

/-- a list of elements that is made, told as lasting at once. -/
theorem Effs.letT {o : Oper} {X : Type} {pf : X → Prop} {vx : X → Value} {G : X → List OA} {H : X → List SP} {v : X → Value} {et : TypeId} {n : Nat} {cs : List Value} (t : T) (hn : n = t.len) (hc : cs = t.cells)
    (h : Effs C fr Γ Φ o pf vx (fun x => .row (v x) et 4 n cs :: G x) H) : Effs C fr Γ Φ o pf vx G (fun x => Rw 4 (v x) t.len t.at_ :: H x) := by
  subst hn; subst hc
  refine ⟨fun x ψ hψ => List.mem_cons_of_mem _ (h.1 x ψ hψ), fun R a w ha hw => (h.2 R a w ha hw).mono fun v' w' ⟨x, hp, hv, hw'⟩ => ⟨x, hp, hv, ?_⟩⟩
  have h1 : Holds C (G x ++ R) (Sl 4 (v x) t.len t.cells :: H x) w' := Holds.letgo hw'
  refine ⟨h1.mod, h1.own, h1.ofp, h1.o0, fun ψ hψ => ?_⟩
  rcases List.mem_cons.1 hψ with rfl | hψ
  · exact slT_rw (h1.sp _ List.mem_cons_self)
  · exact h1.sp ψ (List.mem_cons_of_mem _ hψ)
end
end Go.Hs

/-
  Rules for walks: what 'make' lays.
-/
namespace Go.Hs
open Go Go.RowKit
theorem made_one (c : Value) (k : Nat) : (madeCells #[c] k).toList = List.replicate k c := by
  unfold madeCells
  rw [Array.toList_map, Array.toList_range, List.eq_replicate_iff]
  refine ⟨by rw [List.length_map, List.length_range], fun b hb => ?_⟩
  obtain ⟨i, _, rfl⟩ := List.mem_map.1 hb
  show (#[c])[i % 1]! = c
  rw [Nat.mod_one]
  rfl
theorem made_u8 (k : Nat) : (madeCells (Value.int .u8 0).cells (k * 1)).toList.take (k * 1) = (List.replicate k (0 : UInt8)).map bcell := by
  rw [Nat.mul_one, show (Value.int .u8 0).cells = #[.int .u8 0] from rfl, made_one, List.take_of_length_le (by rw [List.length_replicate]; exact Nat.le_refl _), List.map_replicate]
  rfl
/-- of what is handed back one row of bytes may be told as lasting, the rest stays one's own. -/
theorem Ct.letR {P : Program} {f : FuncId} {args : List Value} {Γ : List OA} {Φ : List SP} {X : Type} {pf : X → Prop} {ret : X → Value} {t : TypeId} {n : X → Nat} {cs : X → List Value} {v : X → Value} {bs : X → List UInt8} {G : X → List OA} {H : X → List SP}
    (h : Ct P f args Γ Φ pf ret (fun x => .row (v x) t 1 (n x) (cs x) :: G x) H) (hc : ∀ x, cs x = (bs x).map bcell) : Ct P f args Γ Φ pf ret G (fun x => By (v x) (bs x) :: H x) := by
  intro w O0 h0 ho hs
  refine (h w O0 h0 ho hs).mono fun e w' ⟨x, hp, he, hm, ho', hf, hs'⟩ => ?_
  have hh : Holds { P := P, n := 0, w0 := w, O0 := O0, M := fpL Γ, rd := none, ds := [] } (.row (v x) t 1 (n x) (cs x) :: G x) (H x) w' := ⟨hm, ho', hf, h0, hs'⟩
  have h2 := hh.letgoB (hc x)
  exact ⟨x, hp, he, hm, h2.own, h2.ofp, h2.sp⟩
end Go.Hs

/-
  Bits of numbers of 64 signed bits. No program is named here.
-/
namespace Go.Hs
open Go Go.RowKit

theorem i64_low (n : Int) (k : Nat) (hk : k ≤ 62) : bits .and .i64 n ((2 ^ k - 1 : Nat) : Int) = n % ((2 ^ k : Nat) : Int) := by
  have hp : 2 ^ k ≤ 2 ^ 62 := Nat.pow_le_pow_right (by decide) hk
  have h0 : 0 < 2 ^ k := Nat.two_pow_pos k
  have h2 : (2 : Nat) ^ 62 = 4611686018427387904 := by decide
  have hm : (BitVec.ofInt 64 ((2 ^ k - 1 : Nat) : Int)).toNat = 2 ^ k - 1 := by
    rw [BitVec.ofInt_natCast, BitVec.toNat_ofNat]; exact Nat.mod_eq_of_lt (by omega)
  have key : (BitVec.ofInt 64 n &&& BitVec.ofInt 64 ((2 ^ k - 1 : Nat) : Int)).toNat = (n % ((2 ^ 64 : Nat) : Int)).toNat % 2 ^ k := by
    rw [BitVec.toNat_and, BitVec.toNat_ofInt, hm, Nat.and_two_pow_sub_one_eq_mod]
  show IntKind.i64.wrap ((BitVec.ofInt 64 n &&& BitVec.ofInt 64 ((2 ^ k - 1 : Nat) : Int)).toNat : Nat) = _
  have hd : ((2 ^ k : Nat) : Int) ∣ ((2 ^ 64 : Nat) : Int) := Int.natCast_dvd_natCast.2 (Nat.pow_dvd_pow 2 (by omega))
  have e : (((n % ((2 ^ 64 : Nat) : Int)).toNat % 2 ^ k : Nat) : Int) = n % ((2 ^ k : Nat) : Int) := by
    rw [Int.natCast_emod, Int.toNat_of_nonneg (Int.emod_nonneg _ (by decide)), Int.emod_emod_of_dvd n hd]
  have hlt := Int.emod_lt_of_pos n (show (0 : Int) < ((2 ^ k : Nat) : Int) by omega)
  have hge := Int.emod_nonneg n (show ((2 ^ k : Nat) : Int) ≠ 0 by omega)
  rw [key, e, wx_i64 (by omega)]
theorem i64_and3 (n : Int) : bits .and .i64 n 3 = n % 4 := i64_low n 2 (by decide)
theorem i64_and7 (n : Int) : bits .and .i64 n 7 = n % 8 := i64_low n 3 (by decide)
theorem i64_and15 (n : Int) : bits .and .i64 n 15 = n % 16 := i64_low n 4 (by decide)
theorem i64_or_nat (a b : Nat) (ha : a < 4611686018427387904) (hb : b < 4611686018427387904) : bits .or .i64 (a : Int) (b : Int) = ((a ||| b : Nat) : Int) := by
  have hx : a ||| b < 2 ^ 62 := Nat.or_lt_two_pow (by omega) (by omega)
  have h2 : (2 : Nat) ^ 62 = 4611686018427387904 := by decide
  show IntKind.i64.wrap ((BitVec.ofInt 64 (a : Int) ||| BitVec.ofInt 64 (b : Int)).toNat : Int) = _
  rw [BitVec.toNat_or, BitVec.ofInt_natCast, BitVec.ofInt_natCast, BitVec.toNat_ofNat, BitVec.toNat_ofNat, Nat.mod_eq_of_lt (by omega), Nat.mod_eq_of_lt (by omega)]
  exact wx_i64 (by omega)
/-- a low part and a high one. -/
theorem i64_or_lo (k a b : Nat) (ha : a < 2 ^ k) (hs : a + b * 2 ^ k < 4611686018427387904) : bits .or .i64 (a : Int) ((b * 2 ^ k : Nat) : Int) = ((a + b * 2 ^ k : Nat) : Int) := by
  rw [i64_or_nat _ _ (by omega) (by omega)]
  congr 1
  rw [Nat.or_comm, Nat.mul_comm, ← Nat.two_pow_add_eq_or_of_lt ha, Nat.add_comm]
theorem i64_or8 (a b : UInt8) : bits .or .i64 (a.toNat : Int) ((b.toNat * 256 : Nat) : Int) = ((a.toNat + 256 * b.toNat : Nat) : Int) := by
  have ha := a.toNat_lt
  have hb := b.toNat_lt
  have h := i64_or_lo 8 a.toNat b.toNat ha (by omega)
  rw [show (2 : Nat) ^ 8 = 256 from rfl] at h
  rw [h, Nat.mul_comm]
theorem i64_shl8 (a : UInt8) : IntKind.i64.wrap ((a.toNat : Int) * 2 ^ (min (8 : Int).toNat IntKind.i64.bits)) = ((a.toNat * 256 : Nat) : Int) := by
  have ha := a.toNat_lt
  rw [show ((2 : Int) ^ (min (8 : Int).toNat IntKind.i64.bits)) = 256 from rfl]
  rw [wx_i64 (by omega)]
  omega
theorem i64_shr8 (n : Nat) : ((n : Int)).fdiv (2 ^ (min (8 : Int).toNat IntKind.i64.bits)) = ((n / 256 : Nat) : Int) := by
  rw [show ((2 : Int) ^ (min (8 : Int).toNat IntKind.i64.bits)) = 256 from rfl, Int.fdiv_eq_ediv_of_nonneg _ (by decide)]
  omega
end Go.Hs

/-
  Contracts of the functions of layer 1 that read numbers and texts, of the reference's, and of the comparisons.
-/
namespace Go.Proofs.Ytoohgnegoaoleaa.C01
open Go Go.RowKit Go.Hs
attribute [local irreducible] WL W WQ PL Runs Effs AllE Ent SubO FrIn Pick OneC Ones CellsE PartsE SeqE UZ By Sl Pt Ct

def leN : List UInt8 → Nat
  | [] => 0
  | b :: r => b.toNat + 256 * leN r

theorem leN_lt : ∀ bs : List UInt8, leN bs < 256 ^ bs.length
  | [] => by simp [leN]
  | b :: r => by
    have := leN_lt r
    have := b.toNat_lt
    simp only [leN, List.length_cons, Nat.pow_succ]
    omega

theorem leN_snoc : ∀ (bs : List UInt8) (i : Nat), i < bs.length → leN (bs.take (i + 1)) = leN (bs.take i) + (bs.getD i 0).toNat * 256 ^ i
  | [], i, h => by simp at h
  | b :: r, 0, h => by simp [leN]
  | b :: r, i + 1, h => by
    have ih := leN_snoc r i (by simpa using h)
    simp only [List.take_succ_cons, leN, ih, List.getD_cons_succ, Nat.pow_succ]
    rw [Nat.mul_add, Nat.mul_comm (256 ^ i) 256, Nat.mul_left_comm]
    omega

theorem leN_cons (bs : List UInt8) (i : Nat) (h : i < bs.length) : leN (bs.drop i) = leN (bs.drop (i + 1)) * 256 + (bs.getD i 0).toNat := by
  rw [List.drop_eq_getElem_cons h, leN]
  simp [List.getD, List.getElem?_eq_getElem h]
  omega

set_option maxRecDepth 100000 in
theorem copy_fn (v : Value) (xs : List UInt8) (hx : xs.length ≤ 1000000000) : Ct Try.prog 87 [v] [] [By v xs]
    (X := Value) (fun _ => True) (fun x => x) (fun x => [.row x 5 1 xs.length (xs.map bcell)]) (fun _ => []) := by
  refine Ct_intro Try.func87 rfl Try.ntmps87 (by simp) _ rfl (fun w0 O0 => ?_)
  repeat (first | refine n1 ?_ | refine n2 (fun b _ => ?_) | refine n3 (fun _ _ => ?_) | refine n4 ?_ | refine n5 ?_ | refine WL_nil ?_ | refine W_seq ?_ | refine W_region ?_ | refine n7 ?_ | refine n8 ?_ | refine W_block ?_ | refine W_skip ?_ | refine W_ret ?_ | refine W_exit ?_ | refine WQ_then ?_ | refine WQ_then_ret ?_ | refine WQ_then_exit ?_ | refine WQ_block_normal ?_ | refine WQ_block_ret ?_ | refine WQ_block_exit ?_ | refine n9 ?_)
  (apply WL_effs; exact rfl; exact rfl; exact rfl; (apply E_buildSlice; exact rfl; (focus (repeat (first | apply SeqE.nil | (apply SeqE.cons; exact rfl; (focus (first | (apply CellsE.lit; exact rfl) | (apply CellsE.one; (first | (apply OneC.lit; exact rfl) | (apply OneC.by_; (repeat' (first | exact mcs | apply mct)); done) | (apply OneC.sl; (repeat' (first | exact mcs | apply mct)); done) | (apply OneC.rw; (repeat' (first | exact mcs | apply mct)); done) | (apply OneC.row; (repeat' (first | exact Pick.head _ _ | apply Pick.tail))))))); exact rfl) | exact rfl))); exact rfl; (first | (intro _; exact (rfl : _ = Result.ok 1 _)) | (intro _; exact (rfl : _ = Result.ok 2 _)) | (intro _; exact (rfl : _ = Result.ok 3 _)) | (intro _; exact (rfl : _ = Result.ok 4 _)) | (intro _; exact (rfl : _ = Result.ok 5 _)) | (intro _; exact (rfl : _ = Result.ok 6 _)) | (intro _; exact (rfl : _ = Result.ok 7 _)) | (intro _; exact (rfl : _ = Result.ok 8 _)) | (intro _; exact (rfl : _ = Result.ok 9 _)) | (intro _; exact (rfl : _ = Result.ok 13 _)) | (intro _; exact (rfl : _ = Result.ok 14 _)) | (intro _; exact (rfl : _ = Result.ok 26 _)) | (intro _; exact (rfl : _ = Result.ok 40 _)) | (intro _; exact (rfl : _ = Result.ok 41 _)) | (intro _; exact (rfl : _ = Result.ok 42 _)) | (intro _; exact (rfl : _ = Result.ok 43 _)) | (intro _; exact (rfl : _ = Result.ok 44 _)) | (intro _; exact (rfl : _ = Result.ok 45 _)) | (intro _; exact (rfl : _ = Result.ok 46 _))); (intro _; exact rfl); exact rfl; exact Nat.le_of_ble_eq_true rfl; exact Nat.le_of_ble_eq_true rfl); skip)
  intro out _
  repeat (first | refine n1 ?_ | refine n2 (fun b _ => ?_) | refine n3 (fun _ _ => ?_) | refine n4 ?_ | refine n5 ?_ | refine WL_nil ?_ | refine W_seq ?_ | refine W_region ?_ | refine n7 ?_ | refine n8 ?_ | refine W_block ?_ | refine W_skip ?_ | refine W_ret ?_ | refine W_exit ?_ | refine WQ_then ?_ | refine WQ_then_ret ?_ | refine WQ_then_exit ?_ | refine WQ_block_normal ?_ | refine WQ_block_ret ?_ | refine WQ_block_exit ?_ | refine n9 ?_)
  (apply WL_effs; exact rfl; exact rfl; exact rfl; (apply E_appendBy; exact rfl; exact rfl; (repeat' (first | exact Pick.head _ _ | apply Pick.tail)); (repeat' (first | exact mcs | apply mct)); (first | exact nil_map | exact one_map _ | exact two_map _ _ | exact rfl); exact rfl; exact rfl; exact rfl; exact rfl; exact rfl; exact Nat.le_of_ble_eq_true rfl; (first | omega | (simp only [List.length_take, List.length_drop, List.length_append, List.length_cons, List.length_nil, List.length_map, List.length_replicate]; omega)); (focus (first | exact Nat.zero_add _ | exact rfl)); (focus ((try (conv => lhs; simp only [Nat.add_sub_cancel_left, Nat.sub_zero, List.drop_zero, List.nil_append])); (first | done | exact rfl)))); skip)
  intro u _
  repeat (first | refine n1 ?_ | refine n2 (fun b _ => ?_) | refine n3 (fun _ _ => ?_) | refine n4 ?_ | refine n5 ?_ | refine WL_nil ?_ | refine W_seq ?_ | refine W_region ?_ | refine n7 ?_ | refine n8 ?_ | refine W_block ?_ | refine W_skip ?_ | refine W_ret ?_ | refine W_exit ?_ | refine WQ_then ?_ | refine WQ_then_ret ?_ | refine WQ_then_exit ?_ | refine WQ_block_normal ?_ | refine WQ_block_ret ?_ | refine WQ_block_exit ?_ | refine n9 ?_)
  ((apply ret1 Try.results87 ( u)); (focus (first | trivial | assumption | omega)); (focus (first | exact RV_tmp rfl | (apply RV_cellN; exact rfl; (repeat' (first | exact Pick.head _ _ | apply Pick.tail)); (intro _; exact rfl); (intro _; exact rfl); exact rfl) | (apply RV_cell1; exact rfl; (repeat' (first | exact Pick.head _ _ | apply Pick.tail)); (intro _; exact rfl); exact rfl)));  (focus (first | exact rfl | (simp; done))); (focus (repeat (first | exact SubO.nil _ | (apply SubO.cons; (focus (repeat' (first | exact Pick.head _ _ | apply Pick.tail))))))); (focus (repeat (first | exact AllE.nil _ | (apply AllE.cons; (focus (first | exact ent_nilBy | exact ent_nilSl | (apply Ent.mem; repeat' (first | exact mcs | apply mct)))))))))

set_option maxRecDepth 100000 in
theorem valid_fn (dv : Value) (xs : List UInt8) (at_ : Int) : CtD Try.prog 99 [.agg #[dv, .int .i64 at_]] [By dv xs] (.bool (decide (0 ≤ at_ ∧ at_ ≤ xs.length))) := by
  by_cases h1 : 0 ≤ at_
  · by_cases h2 : at_ ≤ xs.length
    · rw [decide_eq_true (show 0 ≤ at_ ∧ at_ ≤ xs.length from ⟨h1, h2⟩)]
      refine Ct_intro Try.func99 rfl Try.ntmps99 (by simp) _ rfl (fun w0 O0 => ?_)
      repeat (first | refine n1 ?_ | refine n2 (fun b _ => ?_) | refine n3 (fun _ _ => ?_) | refine n4 ?_ | refine n5 ?_ | refine WL_nil ?_ | refine W_seq ?_ | refine W_region ?_ | refine n7 ?_ | refine n8 ?_ | refine W_block ?_ | refine W_skip ?_ | refine W_ret ?_ | refine W_exit ?_ | refine WQ_then ?_ | refine WQ_then_ret ?_ | refine WQ_then_exit ?_ | refine WQ_block_normal ?_ | refine WQ_block_ret ?_ | refine WQ_block_exit ?_ | refine n9 ?_)
      ((apply ret1 Try.results99 ( ())); (focus (first | trivial | assumption | omega)); (focus (first | exact RV_tmp rfl | (apply RV_cellN; exact rfl; (repeat' (first | exact Pick.head _ _ | apply Pick.tail)); (intro _; exact rfl); (intro _; exact rfl); exact rfl) | (apply RV_cell1; exact rfl; (repeat' (first | exact Pick.head _ _ | apply Pick.tail)); (intro _; exact rfl); exact rfl)));  (focus (first | exact rfl | (simp; done))); (focus (repeat (first | exact SubO.nil _ | (apply SubO.cons; (focus (repeat' (first | exact Pick.head _ _ | apply Pick.tail))))))); (focus (repeat (first | exact AllE.nil _ | (apply AllE.cons; (focus (first | exact ent_nilBy | exact ent_nilSl | (apply Ent.mem; repeat' (first | exact mcs | apply mct)))))))))
    · rw [decide_eq_false (show ¬ (0 ≤ at_ ∧ at_ ≤ xs.length) from fun h => h2 h.2)]
      refine Ct_intro Try.func99 rfl Try.ntmps99 (by simp) _ rfl (fun w0 O0 => ?_)
      repeat (first | refine n1 ?_ | refine n2 (fun b _ => ?_) | refine n3 (fun _ _ => ?_) | refine n4 ?_ | refine n5 ?_ | refine WL_nil ?_ | refine W_seq ?_ | refine W_region ?_ | refine n7 ?_ | refine n8 ?_ | refine W_block ?_ | refine W_skip ?_ | refine W_ret ?_ | refine W_exit ?_ | refine WQ_then ?_ | refine WQ_then_ret ?_ | refine WQ_then_exit ?_ | refine WQ_block_normal ?_ | refine WQ_block_ret ?_ | refine WQ_block_exit ?_ | refine n9 ?_)
      ((apply ret1 Try.results99 ( ())); (focus (first | trivial | assumption | omega)); (focus (first | exact RV_tmp rfl | (apply RV_cellN; exact rfl; (repeat' (first | exact Pick.head _ _ | apply Pick.tail)); (intro _; exact rfl); (intro _; exact rfl); exact rfl) | (apply RV_cell1; exact rfl; (repeat' (first | exact Pick.head _ _ | apply Pick.tail)); (intro _; exact rfl); exact rfl)));  (focus (first | exact rfl | (simp; done))); (focus (repeat (first | exact SubO.nil _ | (apply SubO.cons; (focus (repeat' (first | exact Pick.head _ _ | apply Pick.tail))))))); (focus (repeat (first | exact AllE.nil _ | (apply AllE.cons; (focus (first | exact ent_nilBy | exact ent_nilSl | (apply Ent.mem; repeat' (first | exact mcs | apply mct)))))))))
  · rw [decide_eq_false (show ¬ (0 ≤ at_ ∧ at_ ≤ xs.length) from fun h => h1 h.1)]
    refine Ct_intro Try.func99 rfl Try.ntmps99 (by simp) _ rfl (fun w0 O0 => ?_)
    repeat (first | refine n1 ?_ | refine n2 (fun b _ => ?_) | refine n3 (fun _ _ => ?_) | refine n4 ?_ | refine n5 ?_ | refine WL_nil ?_ | refine W_seq ?_ | refine W_region ?_ | refine n7 ?_ | refine n8 ?_ | refine W_block ?_ | refine W_skip ?_ | refine W_ret ?_ | refine W_exit ?_ | refine WQ_then ?_ | refine WQ_then_ret ?_ | refine WQ_then_exit ?_ | refine WQ_block_normal ?_ | refine WQ_block_ret ?_ | refine WQ_block_exit ?_ | refine n9 ?_)
    ((apply ret1 Try.results99 ( ())); (focus (first | trivial | assumption | omega)); (focus (first | exact RV_tmp rfl | (apply RV_cellN; exact rfl; (repeat' (first | exact Pick.head _ _ | apply Pick.tail)); (intro _; exact rfl); (intro _; exact rfl); exact rfl) | (apply RV_cell1; exact rfl; (repeat' (first | exact Pick.head _ _ | apply Pick.tail)); (intro _; exact rfl); exact rfl)));  (focus (first | exact rfl | (simp; done))); (focus (repeat (first | exact SubO.nil _ | (apply SubO.cons; (focus (repeat' (first | exact Pick.head _ _ | apply Pick.tail))))))); (focus (repeat (first | exact AllE.nil _ | (apply AllE.cons; (focus (first | exact ent_nilBy | exact ent_nilSl | (apply Ent.mem; repeat' (first | exact mcs | apply mct)))))))))

def doE (len : Nat) (at_ : Int) : Int := if ¬ (0 ≤ at_ ∧ at_ ≤ len) then 8 else if at_ < len then 11 else 0

end Go.Proofs.Ytoohgnegoaoleaa.C01

/-
  Contracts of the readers of numbers and texts of layer 1.
-/
namespace Go.Proofs.Ytoohgnegoaoleaa.C01
open Go Go.RowKit Go.Hs
attribute [local irreducible] WL W WQ PL Runs Effs AllE Ent SubO FrIn Pick OneC Ones CellsE PartsE SeqE UZ By Sl Pt Ct

set_option maxRecDepth 100000 in
set_option maxHeartbeats 1000000 in
theorem rtake_fn (dv : Value) (xs : List UInt8) (at_ n : Int) (hx : xs.length ≤ 1000000000) : Ct Try.prog 89 [.agg #[dv, .int .i64 at_], .int .i64 n] [] [By dv xs]
    (X := Value × Value) (fun _ => True) (fun x => .tuple #[x.1, .agg #[x.2, .int .i64 (tkA xs.length at_ n)], .int .i64 (tkE xs.length at_ n)]) (fun _ => []) (fun x => [By x.1 (tkB xs at_ n), By x.2 (tkD xs at_ n)]) := by
  have hc := valid_fn dv xs at_
  by_cases h1 : ¬ (0 ≤ at_ ∧ at_ ≤ xs.length)
  · have e : tkE xs.length at_ n = 8 := if_pos h1
    rw [decide_eq_false h1] at hc
    simp only [tkB, tkD, tkA, e, show ((8 : Int) = 0) = False from by simp, if_false]
    refine Ct_intro Try.func89 rfl Try.ntmps89 (by simp) _ rfl (fun w0 O0 => ?_)
    repeat (first | refine n1 ?_ | refine n2 (fun b _ => ?_) | refine n3 (fun _ _ => ?_) | refine n4 ?_ | refine n5 ?_ | refine n6 (hc) ?_ | refine n6v (hc) ?_ | refine WL_nil ?_ | refine W_seq ?_ | refine W_region ?_ | refine n7 ?_ | refine n8 ?_ | refine W_block ?_ | refine W_skip ?_ | refine W_ret ?_ | refine W_exit ?_ | refine WQ_then ?_ | refine WQ_then_ret ?_ | refine WQ_then_exit ?_ | refine WQ_block_normal ?_ | refine WQ_block_ret ?_ | refine WQ_block_exit ?_ | refine n9 ?_)
    ((apply ret3 Try.results89 ( ((Value.slice none 0 0, Value.slice none 0 0) : Value × Value))); (focus (first | trivial | assumption | omega)); (focus (first | exact RV_tmp rfl | (apply RV_cellN; exact rfl; (repeat' (first | exact Pick.head _ _ | apply Pick.tail)); (intro _; exact rfl); (intro _; exact rfl); exact rfl) | (apply RV_cell1; exact rfl; (repeat' (first | exact Pick.head _ _ | apply Pick.tail)); (intro _; exact rfl); exact rfl))); (focus (first | exact RV_tmp rfl | (apply RV_cellN; exact rfl; (repeat' (first | exact Pick.head _ _ | apply Pick.tail)); (intro _; exact rfl); (intro _; exact rfl); exact rfl) | (apply RV_cell1; exact rfl; (repeat' (first | exact Pick.head _ _ | apply Pick.tail)); (intro _; exact rfl); exact rfl))); (focus (first | exact RV_tmp rfl | (apply RV_cellN; exact rfl; (repeat' (first | exact Pick.head _ _ | apply Pick.tail)); (intro _; exact rfl); (intro _; exact rfl); exact rfl) | (apply RV_cell1; exact rfl; (repeat' (first | exact Pick.head _ _ | apply Pick.tail)); (intro _; exact rfl); exact rfl)));  (focus (first | exact rfl | (simp; done))); (focus (repeat (first | exact SubO.nil _ | (apply SubO.cons; (focus (repeat' (first | exact Pick.head _ _ | apply Pick.tail))))))); (focus (repeat (first | exact AllE.nil _ | (apply AllE.cons; (focus (first | exact ent_nilBy | exact ent_nilSl | (apply Ent.mem; repeat' (first | exact mcs | apply mct)))))))))
  · have h2 : 0 ≤ at_ ∧ at_ ≤ xs.length := Classical.not_not.1 h1
    rw [decide_eq_true h2] at hc
    by_cases h3 : n < 0
    · have e : tkE xs.length at_ n = 2 := by simp only [tkE, if_neg h1, if_pos h3]
      simp only [tkB, tkD, tkA, e, show ((2 : Int) = 0) = False from by simp, if_false]
      refine Ct_intro Try.func89 rfl Try.ntmps89 (by simp) _ rfl (fun w0 O0 => ?_)
      repeat (first | refine n1 ?_ | refine n2 (fun b _ => ?_) | refine n3 (fun _ _ => ?_) | refine n4 ?_ | refine n5 ?_ | refine n6 (hc) ?_ | refine n6v (hc) ?_ | refine WL_nil ?_ | refine W_seq ?_ | refine W_region ?_ | refine n7 ?_ | refine n8 ?_ | refine W_block ?_ | refine W_skip ?_ | refine W_ret ?_ | refine W_exit ?_ | refine WQ_then ?_ | refine WQ_then_ret ?_ | refine WQ_then_exit ?_ | refine WQ_block_normal ?_ | refine WQ_block_ret ?_ | refine WQ_block_exit ?_ | refine n9 ?_)
      ((apply ret3 Try.results89 ( ((Value.slice none 0 0, Value.slice none 0 0) : Value × Value))); (focus (first | trivial | assumption | omega)); (focus (first | exact RV_tmp rfl | (apply RV_cellN; exact rfl; (repeat' (first | exact Pick.head _ _ | apply Pick.tail)); (intro _; exact rfl); (intro _; exact rfl); exact rfl) | (apply RV_cell1; exact rfl; (repeat' (first | exact Pick.head _ _ | apply Pick.tail)); (intro _; exact rfl); exact rfl))); (focus (first | exact RV_tmp rfl | (apply RV_cellN; exact rfl; (repeat' (first | exact Pick.head _ _ | apply Pick.tail)); (intro _; exact rfl); (intro _; exact rfl); exact rfl) | (apply RV_cell1; exact rfl; (repeat' (first | exact Pick.head _ _ | apply Pick.tail)); (intro _; exact rfl); exact rfl))); (focus (first | exact RV_tmp rfl | (apply RV_cellN; exact rfl; (repeat' (first | exact Pick.head _ _ | apply Pick.tail)); (intro _; exact rfl); (intro _; exact rfl); exact rfl) | (apply RV_cell1; exact rfl; (repeat' (first | exact Pick.head _ _ | apply Pick.tail)); (intro _; exact rfl); exact rfl)));  (focus (first | exact rfl | (simp; done))); (focus (repeat (first | exact SubO.nil _ | (apply SubO.cons; (focus (repeat' (first | exact Pick.head _ _ | apply Pick.tail))))))); (focus (repeat (first | exact AllE.nil _ | (apply AllE.cons; (focus (first | exact ent_nilBy | exact ent_nilSl | (apply Ent.mem; repeat' (first | exact mcs | apply mct)))))))))
    · by_cases h4 : xs.length - at_ < n
      · have e : tkE xs.length at_ n = 10 := by simp only [tkE, if_neg h1, if_neg h3, if_pos h4]
        simp only [tkB, tkD, tkA, e, show ((10 : Int) = 0) = False from by simp, if_false]
        refine Ct_intro Try.func89 rfl Try.ntmps89 (by simp) _ rfl (fun w0 O0 => ?_)
        repeat (first | refine n1 ?_ | refine n2 (fun b _ => ?_) | refine n3 (fun _ _ => ?_) | refine n4 ?_ | refine n5 ?_ | refine n6 (hc) ?_ | refine n6v (hc) ?_ | refine WL_nil ?_ | refine W_seq ?_ | refine W_region ?_ | refine n7 ?_ | refine n8 ?_ | refine W_block ?_ | refine W_skip ?_ | refine W_ret ?_ | refine W_exit ?_ | refine WQ_then ?_ | refine WQ_then_ret ?_ | refine WQ_then_exit ?_ | refine WQ_block_normal ?_ | refine WQ_block_ret ?_ | refine WQ_block_exit ?_ | refine n9 ?_)
        ((apply ret3 Try.results89 ( ((Value.slice none 0 0, Value.slice none 0 0) : Value × Value))); (focus (first | trivial | assumption | omega)); (focus (first | exact RV_tmp rfl | (apply RV_cellN; exact rfl; (repeat' (first | exact Pick.head _ _ | apply Pick.tail)); (intro _; exact rfl); (intro _; exact rfl); exact rfl) | (apply RV_cell1; exact rfl; (repeat' (first | exact Pick.head _ _ | apply Pick.tail)); (intro _; exact rfl); exact rfl))); (focus (first | exact RV_tmp rfl | (apply RV_cellN; exact rfl; (repeat' (first | exact Pick.head _ _ | apply Pick.tail)); (intro _; exact rfl); (intro _; exact rfl); exact rfl) | (apply RV_cell1; exact rfl; (repeat' (first | exact Pick.head _ _ | apply Pick.tail)); (intro _; exact rfl); exact rfl))); (focus (first | exact RV_tmp rfl | (apply RV_cellN; exact rfl; (repeat' (first | exact Pick.head _ _ | apply Pick.tail)); (intro _; exact rfl); (intro _; exact rfl); exact rfl) | (apply RV_cell1; exact rfl; (repeat' (first | exact Pick.head _ _ | apply Pick.tail)); (intro _; exact rfl); exact rfl)));  (focus (first | exact rfl | (simp; done))); (focus (repeat (first | exact SubO.nil _ | (apply SubO.cons; (focus (repeat' (first | exact Pick.head _ _ | apply Pick.tail))))))); (focus (repeat (first | exact AllE.nil _ | (apply AllE.cons; (focus (first | exact ent_nilBy | exact ent_nilSl | (apply Ent.mem; repeat' (first | exact mcs | apply mct)))))))))
      · have e : tkE xs.length at_ n = 0 := by simp only [tkE, if_neg h1, if_neg h3, if_neg h4]
        simp only [tkB, tkD, tkA, e, if_true]
        clear e
        obtain ⟨k, rfl⟩ := Int.eq_ofNat_of_zero_le h2.1
        obtain ⟨m, rfl⟩ := Int.eq_ofNat_of_zero_le (Int.not_lt.1 h3)
        have h5 : k + m ≤ xs.length := by omega
        simp only [Int.toNat_natCast]
        refine Ct_intro Try.func89 rfl Try.ntmps89 (by simp) _ rfl (fun w0 O0 => ?_)
        repeat (first | refine n1 ?_ | refine n2 (fun b _ => ?_) | refine n3 (fun _ _ => ?_) | refine n4 ?_ | refine n5 ?_ | refine n6 (hc) ?_ | refine n6v (hc) ?_ | refine WL_nil ?_ | refine W_seq ?_ | refine W_region ?_ | refine n7 ?_ | refine n8 ?_ | refine W_block ?_ | refine W_skip ?_ | refine W_ret ?_ | refine W_exit ?_ | refine WQ_then ?_ | refine WQ_then_ret ?_ | refine WQ_then_exit ?_ | refine WQ_block_normal ?_ | refine WQ_block_ret ?_ | refine WQ_block_exit ?_ | refine n9 ?_)
        (refine W_regionP' [9, 18] [] [0, 1, 2, 3, 4, 5, 6, 7, 8, 10, 11, 12, 13, 14, 15, 16, 9, 17, 18, 19] [0] (by kernel_rfl) (by kernel_rfl) (by repeat (first | exact UZ.nil _ _ | (apply UZ.cons; exact rfl; (intro _; exact rfl)))) (by exact rfl) (by (repeat (first | exact SubO.nil _ | (apply SubO.cons; (focus (repeat' (first | exact Pick.head _ _ | apply Pick.tail))))))) ?_)
        repeat (first | refine p1 ?_ | refine p2 (fun b _ => ?_) | refine p3 (fun _ _ => ?_) | refine p4 ?_ | refine p5 ?_ | refine p7 (fun b => ?_) | refine PL_nil ?_)
        (apply PL_effs; exact rfl; exact rfl; exact rfl; exact rfl; exact rfl; apply E_call; exact rfl; (intro _ _; simp); (exact copy_fn _ ((xs.drop k).take m) (by simp only [List.length_take, List.length_drop]; omega)); (repeat (first | exact AllE.nil _ | (apply AllE.cons; (focus (first | exact ent_nilBy | exact ent_nilSl | (apply Ent.mem; repeat' (first | exact mcs | apply mct))))))); (intro _; exact rfl); (intro _; exact rfl); (intro _; (repeat (first | exact SubO.nil _ | (apply SubO.cons; (focus (repeat' (first | exact Pick.head _ _ | apply Pick.tail))))))))
        intro v _
        repeat (first | refine p1 ?_ | refine p2 (fun b _ => ?_) | refine p3 (fun _ _ => ?_) | refine p4 ?_ | refine p5 ?_ | refine p7 (fun b => ?_) | refine PL_nil ?_)
        repeat (first | refine n1 ?_ | refine n2 (fun b _ => ?_) | refine n3 (fun _ _ => ?_) | refine n4 ?_ | refine n5 ?_ | refine WL_nil ?_ | refine W_seq ?_ | refine W_region ?_ | refine n7 ?_ | refine n8 ?_ | refine W_block ?_ | refine W_skip ?_ | refine W_ret ?_ | refine W_exit ?_ | refine WQ_then ?_ | refine WQ_then_ret ?_ | refine WQ_then_exit ?_ | refine WQ_block_normal ?_ | refine WQ_block_ret ?_ | refine WQ_block_exit ?_ | refine n9 ?_)
        refine WQ_letgoB (by repeat' (first | exact Pick.head _ _ | apply Pick.tail)) rfl ?_
        ((apply ret3 Try.results89 ( ((v, dv) : Value × Value))); (focus (first | trivial | assumption | omega)); (focus (first | exact RV_tmp rfl | (apply RV_cellN; exact rfl; (repeat' (first | exact Pick.head _ _ | apply Pick.tail)); (intro _; exact rfl); (intro _; exact rfl); exact rfl) | (apply RV_cell1; exact rfl; (repeat' (first | exact Pick.head _ _ | apply Pick.tail)); (intro _; exact rfl); exact rfl))); (focus (first | exact RV_tmp rfl | (apply RV_cellN; exact rfl; (repeat' (first | exact Pick.head _ _ | apply Pick.tail)); (intro _; exact rfl); (intro _; exact rfl); exact rfl) | (apply RV_cell1; exact rfl; (repeat' (first | exact Pick.head _ _ | apply Pick.tail)); (intro _; exact rfl); exact rfl))); (focus (first | exact RV_tmp rfl | (apply RV_cellN; exact rfl; (repeat' (first | exact Pick.head _ _ | apply Pick.tail)); (intro _; exact rfl); (intro _; exact rfl); exact rfl) | (apply RV_cell1; exact rfl; (repeat' (first | exact Pick.head _ _ | apply Pick.tail)); (intro _; exact rfl); exact rfl)));  (focus (first | exact rfl | (simp; done))); (focus (repeat (first | exact SubO.nil _ | (apply SubO.cons; (focus (repeat' (first | exact Pick.head _ _ | apply Pick.tail))))))); (focus (repeat (first | exact AllE.nil _ | (apply AllE.cons; (focus (first | exact ent_nilBy | exact ent_nilSl | (apply Ent.mem; repeat' (first | exact mcs | apply mct)))))))))

theorem tkB_length {xs : List UInt8} {at_ n : Int} (h : tkE xs.length at_ n = 0) : ((tkB xs at_ n).length : Int) = n := by
  have h0 := h
  unfold tkE at h
  split at h
  · cases h
  · split at h
    · cases h
    · split at h
      · cases h
      · rw [tkB, if_pos h0, List.length_take, List.length_drop]
        omega

theorem or_step (bs : List UInt8) (i : Nat) (h : i < bs.length) (h8 : i < 8) : bits .or .u64 (leN (bs.take i) : Int) (((bs.getD i 0).toNat * 2 ^ (8 * i) : Nat) : Int) = (leN (bs.take (i + 1)) : Int) := by
  have h1 := leN_lt (bs.take i)
  rw [List.length_take, Nat.min_eq_left (Nat.le_of_lt h)] at h1
  have h2 := leN_lt (bs.take (i + 1))
  rw [List.length_take, Nat.min_eq_left h] at h2
  have h3 := leN_snoc bs i h
  have e : (256 : Nat) ^ i = 2 ^ (8 * i) := by rw [Nat.pow_mul]
  have h4 : (256 : Nat) ^ (i + 1) ≤ 256 ^ 8 := Nat.pow_le_pow_right (by decide) h8
  have h5 : (256 : Nat) ^ 8 = 18446744073709551616 := by decide
  rw [e] at h1 h3
  rw [u64_or_nat _ _ (by omega) (by omega), h3, Nat.or_comm, Nat.mul_comm, ← Nat.two_pow_add_eq_or_of_lt h1]
  congr 1
  omega

theorem sh_step (c : UInt8) (i : Nat) (h8 : i < 8) : IntKind.u64.wrap ((c.toNat : Int) * (2 ^ (min ((8 * (i : Int))).toNat IntKind.u64.bits))) = ((c.toNat * 2 ^ (8 * i) : Nat) : Int) := by
  have e2 : min ((8 * (i : Int))).toNat IntKind.u64.bits = 8 * i := by
    rw [show (8 * (i : Int)).toNat = 8 * i by omega]
    exact Nat.min_eq_left (show 8 * i ≤ 64 by omega)
  have h4 : (256 : Nat) ^ (i + 1) ≤ 256 ^ 8 := Nat.pow_le_pow_right (by decide) h8
  have h5 : (256 : Nat) ^ 8 = 18446744073709551616 := by decide
  have e : (256 : Nat) ^ i = 2 ^ (8 * i) := by rw [Nat.pow_mul]
  rw [e2, show ((2 : Int) ^ (8 * i)) = ((2 ^ (8 * i) : Nat) : Int) by simp, ← Int.natCast_mul]
  apply wx_u64
  have := c.toNat_lt
  have h6 : c.toNat * 2 ^ (8 * i) ≤ 255 * 256 ^ i := by rw [e]; exact Nat.mul_le_mul_right _ (by omega)
  rw [Nat.pow_succ] at h4
  omega

theorem leN_lt8 {bs : List UInt8} {n : Nat} (h : bs.length ≤ n) (h8 : n ≤ 8) : leN bs ≤ 18446744073709551615 := by
  have h1 := leN_lt bs
  have h4 : (256 : Nat) ^ bs.length ≤ 256 ^ 8 := Nat.pow_le_pow_right (by decide) (by omega)
  have h5 : (256 : Nat) ^ 8 = 18446744073709551616 := by decide
  omega

set_option maxRecDepth 100000 in
set_option maxHeartbeats 1000000 in
theorem rnum_fn (dv : Value) (xs : List UInt8) (at_ : Int) (n : Nat) (hx : xs.length ≤ 1000000000) (h8 : n ≤ 8) : Ct Try.prog 66 [.agg #[dv, .int .i64 at_], .int .i64 (n : Int)] [] [By dv xs]
    (X := Value) (fun _ => True) (fun x => .tuple #[.int .u64 (leN (tkB xs at_ n) : Int), .agg #[x, .int .i64 (tkA xs.length at_ n)], .int .i64 (tkE xs.length at_ n)]) (fun _ => []) (fun x => [By x (tkD xs at_ n)]) := by
  by_cases he : tkE xs.length at_ n = 0
  · have hl : (tkB xs at_ n).length = n := by
      have := tkB_length he
      omega
    have ht := rtake_fn dv xs at_ n (by omega)
    rw [he] at ht ⊢
    generalize tkB xs at_ n = bs at *
    have e0 : leN (bs.drop n) = 0 := by rw [List.drop_of_length_le (by omega)]; rfl
    refine Ct_intro Try.func66 rfl Try.ntmps66 (by simp) _ rfl (fun w0 O0 => ?_)
    repeat (first | refine n1 ?_ | refine n2 (fun b _ => ?_) | refine n3 (fun _ _ => ?_) | refine n4 ?_ | refine n5 ?_ | refine WL_nil ?_ | refine W_seq ?_ | refine W_region ?_ | refine n7 ?_ | refine n8 ?_ | refine W_block ?_ | refine W_skip ?_ | refine W_ret ?_ | refine W_exit ?_ | refine WQ_then ?_ | refine WQ_then_ret ?_ | refine WQ_then_exit ?_ | refine WQ_block_normal ?_ | refine WQ_block_ret ?_ | refine WQ_block_exit ?_ | refine n9 ?_)
    (apply WL_effs; exact rfl; exact rfl; exact rfl; apply E_call; exact rfl; (intro _ _; simp); exact ht; (repeat (first | exact AllE.nil _ | (apply AllE.cons; (focus (first | exact ent_nilBy | exact ent_nilSl | (apply Ent.mem; repeat' (first | exact mcs | apply mct))))))); (intro _; exact rfl); (intro _; exact rfl))
    intro x _
    repeat (first | refine n1 ?_ | refine n2 (fun b _ => ?_) | refine n3 (fun _ _ => ?_) | refine n4 ?_ | refine n5 ?_ | refine WL_nil ?_ | refine W_seq ?_ | refine W_region ?_ | refine n7 ?_ | refine n8 ?_ | refine W_block ?_ | refine W_skip ?_ | refine W_ret ?_ | refine W_exit ?_ | refine WQ_then ?_ | refine WQ_then_ret ?_ | refine WQ_then_exit ?_ | refine WQ_block_normal ?_ | refine WQ_block_ret ?_ | refine WQ_block_exit ?_ | refine n9 ?_)
    ((apply W_loopK (X := Nat) [10, 11] [] (fun k => k ≤ n) (fun k => [(10, .int .u64 (leN (bs.drop k) : Int)), (11, .int .i64 ((k : Int) - 1))]) (fun _ => []) (fun _ => []) (fun k => k) (n)); (focus (omega)); exact rfl; exact rfl; (intro _; exact rfl); (intro _; exact rfl); (intro _; exact rfl); (focus (repeat (first | exact FrIn.nil _ | (apply FrIn.cons; exact rfl; (first | exact rfl | (congr 1; first | omega | (dsimp only; omega)) | (simp; done)))))); (focus (repeat (first | exact SubO.nil _ | (apply SubO.cons; (focus (repeat' (first | exact Pick.head _ _ | apply Pick.tail))))))); (focus (repeat (first | exact AllE.nil _ | (apply AllE.cons; (focus (first | exact ent_nilBy | exact ent_nilSl | (apply Ent.mem; repeat' (first | exact mcs | apply mct)))))))); intro x hx)
    by_cases hk : 1 ≤ x
    · obtain ⟨y, rfl⟩ : ∃ y, x = y + 1 := ⟨x - 1, by omega⟩
      have hc := (bs.getD y 0).toNat_lt
      have e := leN_cons bs y (by omega)
      have h2 := leN_lt8 (bs := bs.drop y) (n := n) (by simp; omega) h8
      rw [show (((y + 1 : Nat) : Int) - 1) = (y : Int) by omega]
      repeat (first | refine n1 ?_ | refine n2 (fun b _ => ?_) | refine n3 (fun _ _ => ?_) | refine n4 ?_ | refine n5 ?_ | refine WL_nil ?_ | refine W_seq ?_ | refine W_region ?_ | refine n7 ?_ | refine n8 ?_ | refine W_block ?_ | refine W_skip ?_ | refine W_ret ?_ | refine W_exit ?_ | refine WQ_then ?_ | refine WQ_then_ret ?_ | refine WQ_then_exit ?_ | refine WQ_block_normal ?_ | refine WQ_block_ret ?_ | refine WQ_block_exit ?_ | refine n9 ?_)
      ((apply WQ_again (y)); (focus (first | trivial | omega | assumption | exact ⟨by omega, by omega⟩ | (simp; done))); (focus (omega)); (focus (repeat (first | exact FrIn.nil _ | (apply FrIn.cons; exact rfl; (first | exact rfl | (congr 1; first | omega | (dsimp only; omega)) | (simp; done)))))); (focus (repeat (first | exact SubO.nil _ | (apply SubO.cons; (focus (repeat' (first | exact Pick.head _ _ | apply Pick.tail))))))); (focus (repeat (first | exact AllE.nil _ | (apply AllE.cons; (focus (first | exact ent_nilBy | exact ent_nilSl | (apply Ent.mem; repeat' (first | exact mcs | apply mct)))))))))
    · obtain rfl : x = 0 := by omega
      rw [List.drop_zero]
      repeat (first | refine n1 ?_ | refine n2 (fun b _ => ?_) | refine n3 (fun _ _ => ?_) | refine n4 ?_ | refine n5 ?_ | refine WL_nil ?_ | refine W_seq ?_ | refine W_region ?_ | refine n7 ?_ | refine n8 ?_ | refine W_block ?_ | refine W_skip ?_ | refine W_ret ?_ | refine W_exit ?_ | refine WQ_then ?_ | refine WQ_then_ret ?_ | refine WQ_then_exit ?_ | refine WQ_block_normal ?_ | refine WQ_block_ret ?_ | refine WQ_block_exit ?_ | refine n9 ?_)
      (refine W_regionP' [3] [] [0, 1, 2, 3, 4] [1] (by kernel_rfl) (by kernel_rfl) (by repeat (first | exact UZ.nil _ _ | (apply UZ.cons; exact rfl; (intro _; exact rfl)))) (by exact rfl) (by (repeat (first | exact SubO.nil _ | (apply SubO.cons; (focus (repeat' (first | exact Pick.head _ _ | apply Pick.tail))))))) ?_)
      repeat (first | refine p1 ?_ | refine p2 (fun b _ => ?_) | refine p3 (fun _ _ => ?_) | refine p4 ?_ | refine p5 ?_ | refine p7 (fun b => ?_) | refine PL_nil ?_)
      repeat (first | refine n1 ?_ | refine n2 (fun b _ => ?_) | refine n3 (fun _ _ => ?_) | refine n4 ?_ | refine n5 ?_ | refine WL_nil ?_ | refine W_seq ?_ | refine W_region ?_ | refine n7 ?_ | refine n8 ?_ | refine W_block ?_ | refine W_skip ?_ | refine W_ret ?_ | refine W_exit ?_ | refine WQ_then ?_ | refine WQ_then_ret ?_ | refine WQ_then_exit ?_ | refine WQ_block_normal ?_ | refine WQ_block_ret ?_ | refine WQ_block_exit ?_ | refine n9 ?_)
      ((apply ret3 Try.results66 ( _)); (focus (first | trivial | assumption | omega)); (focus (first | exact RV_tmp rfl | (apply RV_cellN; exact rfl; (repeat' (first | exact Pick.head _ _ | apply Pick.tail)); (intro _; exact rfl); (intro _; exact rfl); exact rfl) | (apply RV_cell1; exact rfl; (repeat' (first | exact Pick.head _ _ | apply Pick.tail)); (intro _; exact rfl); exact rfl))); (focus (first | exact RV_tmp rfl | (apply RV_cellN; exact rfl; (repeat' (first | exact Pick.head _ _ | apply Pick.tail)); (intro _; exact rfl); (intro _; exact rfl); exact rfl) | (apply RV_cell1; exact rfl; (repeat' (first | exact Pick.head _ _ | apply Pick.tail)); (intro _; exact rfl); exact rfl))); (focus (first | exact RV_tmp rfl | (apply RV_cellN; exact rfl; (repeat' (first | exact Pick.head _ _ | apply Pick.tail)); (intro _; exact rfl); (intro _; exact rfl); exact rfl) | (apply RV_cell1; exact rfl; (repeat' (first | exact Pick.head _ _ | apply Pick.tail)); (intro _; exact rfl); exact rfl)));  (focus (first | exact rfl | (simp; done))); (focus (repeat (first | exact SubO.nil _ | (apply SubO.cons; (focus (repeat' (first | exact Pick.head _ _ | apply Pick.tail))))))); (focus (repeat (first | exact AllE.nil _ | (apply AllE.cons; (focus (first | exact ent_nilBy | exact ent_nilSl | (apply Ent.mem; repeat' (first | exact mcs | apply mct)))))))))
  · have hb : tkB xs at_ n = [] := if_neg he
    have hd : tkD xs at_ n = [] := if_neg he
    have ha : tkA xs.length at_ n = 0 := if_neg he
    have ht := rtake_fn dv xs at_ n (by omega)
    rw [hb, hd, ha] at ht ⊢
    generalize tkE xs.length at_ n = e at *
    refine Ct_intro Try.func66 rfl Try.ntmps66 (by simp) _ rfl (fun w0 O0 => ?_)
    repeat (first | refine n1 ?_ | refine n2 (fun b _ => ?_) | refine n3 (fun _ _ => ?_) | refine n4 ?_ | refine n5 ?_ | refine WL_nil ?_ | refine W_seq ?_ | refine W_region ?_ | refine n7 ?_ | refine n8 ?_ | refine W_block ?_ | refine W_skip ?_ | refine W_ret ?_ | refine W_exit ?_ | refine WQ_then ?_ | refine WQ_then_ret ?_ | refine WQ_then_exit ?_ | refine WQ_block_normal ?_ | refine WQ_block_ret ?_ | refine WQ_block_exit ?_ | refine n9 ?_)
    (apply WL_effs; exact rfl; exact rfl; exact rfl; apply E_call; exact rfl; (intro _ _; simp); exact ht; (repeat (first | exact AllE.nil _ | (apply AllE.cons; (focus (first | exact ent_nilBy | exact ent_nilSl | (apply Ent.mem; repeat' (first | exact mcs | apply mct))))))); (intro _; exact rfl); (intro _; exact rfl))
    intro x _
    repeat (first | refine n1 ?_ | refine n2 (fun b _ => ?_) | refine n3 (fun _ _ => ?_) | refine n4 ?_ | refine n5 ?_ | refine WL_nil ?_ | refine W_seq ?_ | refine W_region ?_ | refine n7 ?_ | refine n8 ?_ | refine W_block ?_ | refine W_skip ?_ | refine W_ret ?_ | refine W_exit ?_ | refine WQ_then ?_ | refine WQ_then_ret ?_ | refine WQ_then_exit ?_ | refine WQ_block_normal ?_ | refine WQ_block_ret ?_ | refine WQ_block_exit ?_ | refine n9 ?_)
    ((apply ret3 Try.results66 ( Value.slice none 0 0)); (focus (first | trivial | assumption | omega)); (focus (first | exact RV_tmp rfl | (apply RV_cellN; exact rfl; (repeat' (first | exact Pick.head _ _ | apply Pick.tail)); (intro _; exact rfl); (intro _; exact rfl); exact rfl) | (apply RV_cell1; exact rfl; (repeat' (first | exact Pick.head _ _ | apply Pick.tail)); (intro _; exact rfl); exact rfl))); (focus (first | exact RV_tmp rfl | (apply RV_cellN; exact rfl; (repeat' (first | exact Pick.head _ _ | apply Pick.tail)); (intro _; exact rfl); (intro _; exact rfl); exact rfl) | (apply RV_cell1; exact rfl; (repeat' (first | exact Pick.head _ _ | apply Pick.tail)); (intro _; exact rfl); exact rfl))); (focus (first | exact RV_tmp rfl | (apply RV_cellN; exact rfl; (repeat' (first | exact Pick.head _ _ | apply Pick.tail)); (intro _; exact rfl); (intro _; exact rfl); exact rfl) | (apply RV_cell1; exact rfl; (repeat' (first | exact Pick.head _ _ | apply Pick.tail)); (intro _; exact rfl); exact rfl)));  (focus (first | exact rfl | (simp; done))); (focus (repeat (first | exact SubO.nil _ | (apply SubO.cons; (focus (repeat' (first | exact Pick.head _ _ | apply Pick.tail))))))); (focus (repeat (first | exact AllE.nil _ | (apply AllE.cons; (focus (first | exact ent_nilBy | exact ent_nilSl | (apply Ent.mem; repeat' (first | exact mcs | apply mct)))))))))
end Go.Proofs.Ytoohgnegoaoleaa.C01

/-
  The mathematics of encoding and decoding: what is encoded is decoded to the same, and what is decoded was encoded so. No program is named here.
-/
namespace Go.Proofs.Ytoohgnegoaoleaa.C04
open Go Go.RowKit Go.Hs

/-- a content after the Id, part by part. -/
def bod : Nat → List UInt8 → List UInt8
  | 0, c => UInt8.ofNat c.length :: c
  | f + 1, c => if 255 ≤ c.length then 255 :: (c.take 255 ++ 254 :: bod f (c.drop 255)) else UInt8.ofNat c.length :: c
def withX (id ext : UInt8) (c : List UInt8) : List UInt8 := if id = 255 then ext :: c else c
def inn (id : UInt8) (data sub : List UInt8) : List UInt8 := if contB id then sub else data
def enc : Fo → List UInt8
  | .nil => []
  | .cons id ext data subs next => (id :: bod (withX id ext (inn id data (enc subs))).length (withX id ext (inn id data (enc subs)))) ++ enc next
def cnt : Fo → Nat
  | .nil => 0
  | .cons _ _ _ subs next => 1 + cnt subs + cnt next
def dep : Fo → Nat
  | .nil => 0
  | .cons _ _ _ subs next => max (1 + dep subs) (dep next)
def isN : Fo → Bool
  | .nil => true
  | _ => false
/-- an element by itself, its list aside. -/
def own (id ext : UInt8) (data : List UInt8) (subs : Fo) : Bool :=
  (! decide (id = 254)) && (decide (id = 255) || decide (ext = 0)) && (if contB id then data.isEmpty else isN subs)
def val : Fo → Bool
  | .nil => true
  | .cons id ext data subs next => own id ext data subs && val subs && val next
def fit : Fo → Bool
  | .nil => true
  | .cons id _ data subs next => decide ((inn id data (enc subs)).length ≤ 1024) && (! contB id || fit subs) && fit next
def chk (t : Fo) : Int := if 64 < cnt t ∨ 4 < dep t then 4 else if val t = false then 8 else if fit t = false then 11 else 0

theorem isN_iff {t : Fo} : isN t = true ↔ t = .nil := by cases t <;> simp [isN]
theorem bod_fuel : ∀ (f : Nat) (c : List UInt8), c.length ≤ f → bod f c = bod c.length c := by
  intro f
  induction f using Nat.strongRecOn with
  | _ f ih =>
    intro c h
    cases f with
    | zero =>
      obtain rfl : c = [] := List.eq_nil_of_length_eq_zero (by omega)
      rfl
    | succ f =>
      by_cases h1 : 255 ≤ c.length
      · obtain ⟨k, hk⟩ : ∃ k, c.length = k + 1 := ⟨c.length - 1, by omega⟩
        rw [hk, bod, bod, if_pos h1, if_pos h1, ih f (by omega) _ (by rw [List.length_drop]; omega), ih k (by omega) _ (by rw [List.length_drop]; omega)]
      · have e : ∀ g, bod g c = UInt8.ofNat c.length :: c := fun g => by
          cases g with
          | zero => rfl
          | succ g => rw [bod, if_neg h1]
        rw [e, e]
theorem bod_small {f : Nat} {c : List UInt8} (h : c.length < 255) : bod f c = UInt8.ofNat c.length :: c := by
  cases f with
  | zero => rfl
  | succ g => rw [bod, if_neg (by omega)]
theorem bod_big {c : List UInt8} (h : 255 ≤ c.length) : bod c.length c = 255 :: (c.take 255 ++ 254 :: bod (c.drop 255).length (c.drop 255)) := by
  obtain ⟨k, hk⟩ : ∃ k, c.length = k + 1 := ⟨c.length - 1, by omega⟩
  rw [hk, bod, if_pos h, bod_fuel k _ (by rw [List.length_drop]; omega)]
theorem bod_pos (f : Nat) (c : List UInt8) : 0 < (bod f c).length := by
  cases f with
  | zero => simp [bod]
  | succ f =>
    rw [bod]
    split <;> simp

theorem whole_bod : ∀ (n : Nat) (c rest : List UInt8) (g : Nat), c.length = n → (bod c.length c ++ rest).length ≤ g → whole g (bod c.length c ++ rest) = (c, rest, 0) := by
  intro n
  induction n using Nat.strongRecOn with
  | _ n ih =>
    intro c rest g hn hg
    cases g with
    | zero =>
      have := bod_pos c.length c
      rw [List.length_append] at hg
      omega
    | succ g =>
      by_cases h1 : 255 ≤ c.length
      · rw [bod_big h1] at hg ⊢
        have e1 : ((255 :: (c.take 255 ++ 254 :: bod (c.drop 255).length (c.drop 255)) ++ rest : List UInt8)) = 255 :: (c.take 255 ++ 254 :: (bod (c.drop 255).length (c.drop 255) ++ rest)) := by simp
        rw [e1] at hg ⊢
        have hl : (c.take 255).length = 255 := by rw [List.length_take]; omega
        have hp := bod_pos (c.drop 255).length (c.drop 255)
        have e2 : (c.take 255 ++ 254 :: (bod (c.drop 255).length (c.drop 255) ++ rest)).length = 256 + (bod (c.drop 255).length (c.drop 255)).length + rest.length := by
          simp only [List.length_append, List.length_cons, hl]
          omega
        rw [List.length_cons, e2] at hg
        have h255 : (255 : UInt8).toNat = 255 := rfl
        rw [whole, if_neg (by rw [List.length_cons, e2]; simp only [List.getD_cons_zero, h255]; omega), if_neg (by simp only [List.getD_cons_zero, h255]; omega), if_neg (by rw [List.length_cons, e2]; omega)]
        have e3 : (255 :: (c.take 255 ++ 254 :: (bod (c.drop 255).length (c.drop 255) ++ rest))).getD 256 0 = 254 := by
          rw [List.getD_cons_succ, List.getD_eq_getElem?_getD, List.getElem?_append_right (by omega), hl]
          rfl
        have e4 : (255 :: (c.take 255 ++ 254 :: (bod (c.drop 255).length (c.drop 255) ++ rest))).drop 257 = bod (c.drop 255).length (c.drop 255) ++ rest := by
          rw [show (257 : Nat) = 256 + 1 from rfl, List.drop_succ_cons]
          generalize c.take 255 = u at hl
          rw [List.drop_append, List.drop_of_length_le (by omega), hl]
          rfl
        have e5 : ((255 :: (c.take 255 ++ 254 :: (bod (c.drop 255).length (c.drop 255) ++ rest))).drop 1).take 255 = c.take 255 := by
          rw [List.drop_succ_cons, List.drop_zero]
          exact List.take_left' hl
        rw [if_neg (fun h => h e3), e4, e5]
        have hd : (c.drop 255).length = n - 255 := by rw [List.length_drop, hn]
        rw [ih (n - 255) (by omega) (c.drop 255) rest g hd (by rw [List.length_append]; omega), wcat, if_pos rfl, List.take_append_drop]
      · rw [bod_small (by omega)] at hg ⊢
        have ec : (UInt8.ofNat c.length).toNat = c.length := by rw [UInt8.toNat_ofNat']; omega
        rw [List.cons_append] at hg ⊢
        rw [whole, if_neg (by simp only [List.length_cons, List.getD_cons_zero, ec, List.length_append]; omega), if_pos (by simp only [List.getD_cons_zero, ec]; omega)]
        simp only [List.getD_cons_zero, ec, List.drop_succ_cons, List.drop_zero, Nat.add_comm 1]
        rw [List.take_left' rfl, List.drop_left' rfl]

theorem getD_cons_drop {b : List UInt8} {i : Nat} (h : i < b.length) : b.drop i = b.getD i 0 :: b.drop (i + 1) := by
  rw [List.getD_eq_getElem?_getD, List.getElem?_eq_getElem h]
  exact List.drop_eq_getElem_cons h
theorem whole_inv : ∀ (g : Nat) (b c rest : List UInt8), whole g b = (c, rest, 0) → b = bod c.length c ++ rest
  | 0, _, _, _, h => by cases h
  | g + 1, b, c, rest, h => by
    rw [whole] at h
    split at h
    · cases h
    · next h1 =>
      have h0 : 0 < b.length := by omega
      have hn := u8le (b.getD 0 0)
      have hb := getD_cons_drop h0
      rw [List.drop_zero] at hb
      split at h
      · next h2 =>
        injection h with e1 e2
        injection e2 with e2 e3
        have hl : c.length = (b.getD 0 0).toNat := by rw [← e1, List.length_take, List.length_drop]; omega
        rw [bod_small (by omega), hl]
        have e0 : UInt8.ofNat (b.getD 0 0).toNat = b.getD 0 0 := UInt8.ofNat_toNat
        rw [e0, List.cons_append, ← e1, ← e2, ← List.drop_drop, List.take_append_drop]
        exact hb
      · next h2 =>
        split at h
        · cases h
        · next h3 =>
          split at h
          · cases h
          · next h4 =>
            rw [wcat] at h
            split at h
            · next h5 =>
              obtain ⟨c', r', e'⟩ : ∃ c' r', whole g (b.drop 257) = (c', r', 0) := ⟨_, _, by rw [← h5]⟩
              have ih := whole_inv g _ _ _ e'
              rw [e'] at h
              injection h with e1 e2
              injection e2 with e2 e3
              subst e1
              subst e2
              have h255 : b.getD 0 0 = 255 := by
                apply UInt8.toNat_inj.1
                rw [show (255 : UInt8).toNat = 255 from rfl]
                omega
              have hl : ((b.drop 1).take 255).length = 255 := by rw [List.length_take, List.length_drop]; omega
              have hl2 : ((b.drop 1).take 255 ++ c').length = 255 + c'.length := by rw [List.length_append, hl]
              rw [bod_big (show 255 ≤ ((b.drop 1).take 255 ++ c').length by omega), List.take_left' hl, List.drop_left' hl]
              have h256 := getD_cons_drop (b := b) (i := 256) (by omega)
              rw [Decidable.not_not.1 h4, ih] at h256
              have e6 : b = 255 :: b.drop 1 := by rw [← h255]; exact hb
              have e7 : b.drop 1 = (b.drop 1).take 255 ++ b.drop 256 := by
                have := (List.take_append_drop 255 (b.drop 1)).symm
                rwa [List.drop_drop] at this
              rw [h256] at e7
              rw [List.cons_append, List.append_assoc, List.cons_append, ← e7]
              exact e6
            · next h5 => exact absurd (by injection h with _ e2; injection e2) h5

theorem bod_head {id : UInt8} {c rest : List UInt8} : ((id :: bod c.length c) ++ rest).getD 0 0 = id := rfl
theorem whole_at {id : UInt8} {c rest : List UInt8} : whole (((id :: bod c.length c) ++ rest).length - 1) (((id :: bod c.length c) ++ rest).drop 1) = (c, rest, 0) :=
  whole_bod _ c rest _ rfl (by simp)
theorem cont255 : contB 255 = false := rfl
theorem cont254 : contB 254 = false := rfl

theorem dec_enc : ∀ (t : Fo) (F d m : Nat), val t = true → fit t = true → d + dep t ≤ 5 → (enc t).length ≤ F → m ≤ 64 →
    dec F (enc t) d m = if m + cnt t ≤ 64 then (t, m + cnt t, 0) else (.nil, 64, 4)
  | .nil, F, d, m, _, _, _, _, hm => by
    rw [enc, dec_nil, cnt, if_pos (by omega)]
    rfl
  | .cons id ext data subs next, F, d, m, hv, hf, hd, hF, hm => by
    simp only [val, fit, dep, Bool.and_eq_true, decide_eq_true_eq] at hv hf hd
    obtain ⟨⟨hv1, hv2⟩, hv3⟩ := hv
    obtain ⟨⟨hf1, hf2⟩, hf3⟩ := hf
    simp only [own, Bool.and_eq_true, Bool.or_eq_true, decide_eq_true_eq, Bool.not_eq_true', decide_eq_false_iff_not] at hv1
    obtain ⟨⟨o1, o2⟩, o3⟩ := hv1
    rw [enc] at hF ⊢
    cases F with
    | zero => simp at hF
    | succ F =>
      have hlen : (enc next).length ≤ F ∧ (withX id ext (inn id data (enc subs))).length ≤ F := by
        have h1 := bod_pos (withX id ext (inn id data (enc subs))).length (withX id ext (inn id data (enc subs)))
        have h2 := whole_len _ _ (show (whole (((id :: bod (withX id ext (inn id data (enc subs))).length (withX id ext (inn id data (enc subs)))) ++ enc next).length - 1) (((id :: bod (withX id ext (inn id data (enc subs))).length (withX id ext (inn id data (enc subs)))) ++ enc next).drop 1)).2.2 = 0 by rw [whole_at])
        rw [whole_at] at h2
        simp only [List.length_drop] at h2
        omega
      have ihs := fun (hc : contB id = true) (h1 : m + 1 ≤ 64) => dec_enc subs F (d + 1) (m + 1) hv2 (by rw [hc] at hf2; simpa using hf2) (by omega) (by
        have := hlen.2
        rw [inn, if_pos hc, withX] at this
        split at this
        · simp at this; omega
        · exact this) h1
      have ihn := fun m' (h : m' ≤ 64) => dec_enc next F d m' hv3 hf3 (by omega) hlen.1 h
      rw [dec, if_neg (by simp)]
      by_cases c1 : m = 64
      · have e1 : one1 (dec F) ((id :: bod (withX id ext (inn id data (enc subs))).length (withX id ext (inn id data (enc subs)))) ++ enc next) d m = ⟨0, 0, [], .nil, [], m, 4⟩ := if_pos c1
        rw [e1, if_pos (show ¬ (4 : Int) = 0 by decide), cnt, if_neg (by omega), c1]
      · have base : one1 (dec F) ((id :: bod (withX id ext (inn id data (enc subs))).length (withX id ext (inn id data (enc subs)))) ++ enc next) d m =
            if lim id < (withX id ext (inn id data (enc subs))).length then ⟨id, 0, [], .nil, [], m + 1, 11⟩
            else if id = 255 then
              (if (withX id ext (inn id data (enc subs))).length = 0 then ⟨id, 0, [], .nil, [], m + 1, 12⟩
               else ⟨id, (withX id ext (inn id data (enc subs))).getD 0 0, (withX id ext (inn id data (enc subs))).drop 1, .nil, enc next, m + 1, 0⟩)
            else if contB id = false then ⟨id, 0, (withX id ext (inn id data (enc subs))), .nil, enc next, m + 1, 0⟩
            else if d = 4 ∧ 0 < (withX id ext (inn id data (enc subs))).length then ⟨id, 0, [], .nil, [], m + 1, 4⟩
            else ⟨id, 0, [], (dec F (withX id ext (inn id data (enc subs))) (d + 1) (m + 1)).1, enc next, (dec F (withX id ext (inn id data (enc subs))) (d + 1) (m + 1)).2.1, (dec F (withX id ext (inn id data (enc subs))) (d + 1) (m + 1)).2.2⟩ := by
          rw [one1, if_neg c1, bod_head, if_neg o1, whole_at, if_neg (fun h => h rfl)]
        have fin : ∀ (id ext : UInt8) (data : List UInt8) (subs : Fo) (k : Nat), m + 1 + k ≤ 64 → dcat (.cons id ext data subs .nil) (dec F (enc next) d (m + 1 + k)) = if m + (1 + k + cnt next) ≤ 64 then (.cons id ext data subs next, m + (1 + k + cnt next), 0) else (.nil, 64, 4) := fun id ext data subs k hk => by
          rw [ihn _ hk]
          by_cases h5 : m + 1 + k + cnt next ≤ 64
          · rw [if_pos h5, if_pos (by omega), dcat, if_pos rfl]
            simp only [fapp, Prod.mk.injEq, and_true, true_and]
            omega
          · rw [if_neg h5, if_neg (by omega), dcat, if_neg (by decide)]
        by_cases c2 : id = 255
        · subst c2
          have hw : withX 255 ext (inn 255 data (enc subs)) = ext :: data := rfl
          rw [show inn 255 data (enc subs) = data from rfl] at hf1
          have hs : subs = .nil := isN_iff.1 o3
          subst hs
          have e1 : one1 (dec F) ((255 :: bod (withX 255 ext (inn 255 data (enc .nil))).length (withX 255 ext (inn 255 data (enc .nil)))) ++ enc next) d m = ⟨255, ext, data, .nil, enc next, m + 1, 0⟩ := by
            rw [base, hw, if_neg (by rw [lim, if_pos rfl, List.length_cons]; omega), if_pos rfl, if_neg (by simp)]
            rfl
          rw [e1, if_neg (fun h => h rfl), cnt, cnt]
          exact fin 255 ext data .nil 0 (by omega)
        · have he : ext = 0 := o2.resolve_left c2
          subst he
          have hw : withX id 0 (inn id data (enc subs)) = inn id data (enc subs) := if_neg c2
          rw [hw] at hlen base ⊢
          rw [if_neg (by rw [lim, if_neg c2]; omega), if_neg c2] at base
          cases c3 : contB id with
          | false =>
            rw [c3] at o3
            have hs : subs = .nil := isN_iff.1 o3
            subst hs
            rw [if_pos c3, show inn id data (enc .nil) = data by rw [inn, c3]; rfl] at base
            rw [show inn id data (enc .nil) = data by rw [inn, c3]; rfl, base, if_neg (fun h => h rfl), cnt, cnt]
            exact fin id 0 data .nil 0 (by omega)
          | true =>
            rw [c3] at o3
            have hdt : data = [] := List.isEmpty_iff.1 o3
            subst hdt
            have hi : inn id [] (enc subs) = enc subs := by rw [inn, c3]; rfl
            have ihs' := ihs c3 (by omega)
            rw [hi] at hf1 hlen base ⊢
            have c4 : ¬ (d = 4 ∧ 0 < (enc subs).length) := fun ⟨h1, h2⟩ => by
              cases subs with
              | nil => simp [enc] at h2
              | cons _ _ _ s n => simp only [dep] at hd; omega
            rw [if_neg (by rw [c3]; exact Bool.noConfusion), if_neg c4, ihs'] at base
            rw [base]
            by_cases h4 : m + 1 + cnt subs ≤ 64
            · rw [if_pos h4, if_neg (fun h => h rfl), cnt]
              exact fin id 0 [] subs (cnt subs) h4
            · rw [if_neg h4, if_pos (show ¬ (4 : Int) = 0 by decide), cnt, if_neg (by omega)]

theorem cat_inv {acc t : Fo} {q : DR} {m' : Nat} (h : dcat acc q = (t, m', 0)) : t = fapp acc q.1 ∧ q.2.1 = m' ∧ q.2.2 = 0 := by
  obtain ⟨q1, q2, q3⟩ := q
  rw [dcat] at h
  split at h
  · next h0 =>
    injection h with e1 e2
    injection e2 with e2 e3
    exact ⟨e1.symm, e2, e3⟩
  · next h0 =>
    injection h with e1 e2
    injection e2 with e2 e3
    exact absurd e3 h0

theorem dec_inv : ∀ (F : Nat) (b : List UInt8) (d m : Nat) (t : Fo) (m' : Nat), dec F b d m = (t, m', 0) → b.length ≤ F → d ≤ 4 ∨ b.length = 0 → d ≤ 5 → m ≤ 64 →
    enc t = b ∧ val t = true ∧ fit t = true ∧ d + dep t ≤ 5 ∧ m' = m + cnt t
  | 0, b, d, m, t, m', h, hF, hd, hd5, hm => by
    have hb : b = [] := List.eq_nil_of_length_eq_zero (by omega)
    subst hb
    rw [dec] at h
    injection h with e1 e2
    injection e2 with e2 _
    subst e1
    subst e2
    exact ⟨rfl, rfl, rfl, hd5, rfl⟩
  | F + 1, b, d, m, t, m', h, hF, hd, hd5, hm => by
    rw [dec] at h
    split at h
    · next h0 =>
      have hb : b = [] := List.eq_nil_of_length_eq_zero h0
      subst hb
      injection h with e1 e2
      injection e2 with e2 _
      subst e1
      subst e2
      exact ⟨rfl, rfl, rfl, hd5, rfl⟩
    · next h0 =>
      have hd4 : d ≤ 4 := hd.resolve_right h0
      split at h
      · next h1 => exact absurd (by injection h with _ e2; injection e2) h1
      · next h1 =>
        have h1 := Decidable.not_not.1 h1
        obtain ⟨et, em, ee⟩ := cat_inv h
        have hrest := one1_rest h1
        have hmany := one1_many (rec := dec F) (b := b) (d := d) (fun c d m h => dec_many F c d m h) hm
        generalize hdn : dec F (one1 (dec F) b d m).rest d (one1 (dec F) b d m).many = q at *
        obtain ⟨q1, q2, q3⟩ := q
        simp only at em ee et
        subst em
        subst ee
        have ihn := dec_inv F _ d _ q1 q2 hdn (by omega) (.inl hd4) hd5 hmany
        obtain ⟨n1, n2, n3, n4, n5⟩ := ihn
        have hb := getD_cons_drop (b := b) (i := 0) (by omega)
        rw [List.drop_zero] at hb
        generalize hid : b.getD 0 0 = id at *
        rw [one1, hid] at h1 n1 n5 et
        split at h1
        · cases h1
        · next c1 =>
          rw [if_neg c1] at n1 n5 et
          split at h1
          · cases h1
          · next c2 =>
            rw [if_neg c2] at n1 n5 et
            split at h1
            · next c3 => exact absurd h1 c3
            · next c3 =>
              rw [if_neg c3] at n1 n5 et
              have hl := whole_len _ _ (Decidable.not_not.1 c3)
              generalize hw : whole (b.length - 1) (b.drop 1) = w at *
              obtain ⟨c, r, e⟩ := w
              obtain rfl : e = 0 := Decidable.not_not.1 c3
              have hinv := whole_inv _ _ _ _ hw
              simp only at h1 n1 n5 et hl
              rw [List.length_drop] at hl
              split at h1
              · cases h1
              · next c4 =>
                rw [if_neg c4] at n1 n5 et
                split at h1
                · next c5 =>
                  rw [if_pos c5] at n1 n5 et
                  subst c5
                  split at h1
                  · cases h1
                  · next c6 =>
                    rw [if_neg c6] at n1 n5 et
                    simp only [fapp] at n1 n5 et
                    subst et
                    have hc : c.getD 0 0 :: c.drop 1 = c := (getD_cons_drop (b := c) (i := 0) (by omega)).symm
                    have hlim : c.length ≤ 1025 := by simpa [lim] using c4
                    refine ⟨?_, ?_, ?_, ?_, ?_⟩
                    · rw [enc, show inn 255 (c.drop 1) (enc .nil) = c.drop 1 from rfl, show withX 255 (c.getD 0 0) (c.drop 1) = c from hc, n1, List.cons_append, ← hinv]
                      exact hb.symm
                    · simp [val, own, n2, cont255, isN]
                    · simp only [fit, n3, show inn 255 (c.drop 1) (enc .nil) = c.drop 1 from rfl, cont255, List.length_drop]
                      simp
                      omega
                    · simp only [dep] at n4 ⊢; omega
                    · simp only [cnt]; omega
                · next c5 =>
                  rw [if_neg c5] at n1 n5 et
                  have hlim : c.length ≤ 1024 := by simpa [lim, c5] using c4
                  split at h1
                  · next c6 =>
                    rw [if_pos c6] at n1 n5 et
                    simp only [fapp] at n1 n5 et
                    subst et
                    have hi : inn id c (enc .nil) = c := by rw [inn, c6]; rfl
                    refine ⟨?_, ?_, ?_, ?_, ?_⟩
                    · rw [enc, hi, show withX id 0 c = c from if_neg c5, n1, List.cons_append, ← hinv]
                      exact hb.symm
                    · simp [val, own, n2, c2, c6, isN]
                    · simp only [fit, n3, hi, c6]
                      simpa using hlim
                    · simp only [dep] at n4 ⊢; omega
                    · simp only [cnt]; omega
                  · next c6 =>
                    rw [if_neg c6] at n1 n5 et
                    have c6' : contB id = true := by simpa using c6
                    split at h1
                    · cases h1
                    · next c7 =>
                      rw [if_neg c7] at n1 n5 et
                      generalize hds : dec F c (d + 1) (m + 1) = s at *
                      obtain ⟨s1, s2, s3⟩ := s
                      simp only at h1
                      subst h1
                      simp only [fapp] at n1 n5 et
                      subst et
                      have ihs := dec_inv F c (d + 1) (m + 1) s1 s2 hds (by omega) (by omega) (by omega) (by omega)
                      obtain ⟨s4, s5, s6, s7, s8⟩ := ihs
                      have hi : inn id [] (enc s1) = c := by rw [inn, c6', s4]; rfl
                      refine ⟨?_, ?_, ?_, ?_, ?_⟩
                      · rw [enc, hi, show withX id 0 c = c from if_neg c5, n1, List.cons_append, ← hinv]
                        exact hb.symm
                      · simp [val, own, n2, s5, c2, c6']
                      · simp only [fit, n3, s6, hi, c6']
                        simpa using hlim
                      · simp only [dep] at n4 ⊢; omega
                      · simp only [cnt]; omega
end Go.Proofs.Ytoohgnegoaoleaa.C04
