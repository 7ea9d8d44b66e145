/-
  Contract of the decoder's list.
-/
import Derived.Test.YtahkcidnmdcaaaaVEd
namespace Go.Proofs.Ytahkcidnmdcaaaa
open Go Go.RowKit Go.Hs
attribute [local irreducible] WL W WQ PL Runs Effs AllE Ent SubO FrIn Pick OneC Ones CellsE PartsE SeqE UZ By Sl Pt Ct

theorem dcat_nil (q : DR) (h : ¬ q.2.2 = 0 → q.1 = .nil) : dcat .nil q = q := by
  obtain ⟨a, b, e⟩ := q
  unfold dcat
  by_cases h0 : e = 0
  · subst h0
    rfl
  · have h1 := h h0
    simp only at h1
    subst h1
    rw [if_neg h0]
theorem dec_err : ∀ (f : Nat) (b : List UInt8) (d m : Nat), ¬ (dec f b d m).2.2 = 0 → (dec f b d m).1 = .nil
  | 0, _, _, _, h => absurd rfl h
  | f + 1, b, d, m, h => by
    unfold dec at h ⊢
    split at h
    · exact absurd rfl h
    · next h1 =>
      rw [if_neg h1]
      split at h
      · next h2 =>
        rw [if_pos h2]
      · next h2 =>
        rw [if_neg h2]
        unfold dcat at h ⊢
        split at h
        · next h3 => exact absurd h3 h
        · next h3 => rw [if_neg h3]

set_option maxRecDepth 100000 in
set_option maxHeartbeats 8000000 in
theorem list_fn (F : Nat) : ListCt F := by
  induction F using Nat.strongRecOn with
  | _ F IH =>
    intro d v0 xs dep m0 hF hx hd hm0
    refine Ct_intro Try.func32 rfl Try.ntmps32 (by simp) _ rfl (fun w0 O0 => ?_)
    repeat (first | refine n1 ?_ | refine n2 (fun b _ => ?_) | refine n3 (fun _ _ => ?_) | refine n4 ?_ | refine n5 ?_ | refine WL_nil ?_ | refine W_seq ?_ | refine W_region ?_ | refine n7 ?_ | refine n8 ?_ | refine W_block ?_ | refine W_skip ?_ | refine W_ret ?_ | refine W_exit ?_ | refine WQ_then ?_ | refine WQ_then_ret ?_ | refine WQ_then_exit ?_ | refine WQ_block_normal ?_ | refine WQ_block_ret ?_ | refine WQ_block_exit ?_ | refine n9 ?_)
    apply W_nilRow 31 4
    apply W_nilL 5
    refine W_ent ent_ts0 ?_
    ((apply W_loopK (X := Nat × T × Value × Value × List UInt8 × Nat) [9, 1] [0, 1, 2] (fun x => dec F xs dep m0 = dcat x.2.1.er (dec x.1 x.2.2.2.2.1 dep x.2.2.2.2.2) ∧ x.2.2.2.2.1.length ≤ x.1 ∧ x.2.2.2.2.2 ≤ 64 ∧ x.2.1.len + x.2.2.2.2.1.length ≤ 1000000000 ∧ x.1 ≤ F ∧ (dep ≤ 4 ∨ x.2.2.2.2.1.length = 0)) (fun x => [(9, x.2.2.1), (1, x.2.2.2.1)]) (fun x => [pk (rowsL 5 x.2.1.dls), .row x.2.2.1 31 4 x.2.1.len x.2.1.cells, .blk d 58 [.int .i64 (x.2.2.2.2.2 : Int)]]) (fun x => [x.2.1.ts, By x.2.2.2.1 x.2.2.2.2.1]) (fun x => x.1) ((F, .nil, .slice none 0 0, v0, xs, m0))); (focus (exact ⟨(dcat_nil _ (dec_err _ _ _ _)).symm, hF, hm0, by simpa [T.len] using hx, Nat.le_refl _, hd⟩)); exact rfl; exact rfl; (intro _; exact rfl); (intro _; exact rfl); (intro _; exact rfl); (focus (repeat (first | exact FrIn.nil _ | (apply FrIn.cons; exact rfl; (first | exact rfl | (congr 1; first | omega | (dsimp only; omega)) | (simp; done)))))); (focus (repeat (first | exact SubO.nil _ | (apply SubO.cons; (focus (repeat' (first | exact Pick.head _ _ | apply Pick.tail))))))); (focus (repeat (first | exact AllE.nil _ | (apply AllE.cons; (focus (first | exact ent_nilBy | exact ent_nilSl | (apply Ent.mem; repeat' (first | exact mcs | apply mct)))))))); intro x hx)
    obtain ⟨k, acc, o, v, cur, m⟩ := x
    obtain ⟨i1, i2, i3, i4, i5, i6⟩ := hx
    replace i1 : dec F xs dep m0 = dcat acc.er (dec k cur dep m) := i1
    replace i2 : cur.length ≤ k := i2
    replace i3 : m ≤ 64 := i3
    replace i4 : acc.len + cur.length ≤ 1000000000 := i4
    replace i5 : k ≤ F := i5
    replace i6 : dep ≤ 4 ∨ cur.length = 0 := i6
    dsimp only
    by_cases c1 : cur.length = 0
    · obtain rfl : cur = [] := List.eq_nil_of_length_eq_zero c1
      rw [dec_nil] at i1
      replace i1 : dec F xs dep m0 = (acc.er, m, 0) := by rw [i1, dcat, if_pos rfl, fapp_nil]
      repeat (first | refine n1 ?_ | refine n2 (fun b _ => ?_) | refine n3 (fun _ _ => ?_) | refine n4 ?_ | refine n5 ?_ | refine WL_nil ?_ | refine W_seq ?_ | refine W_region ?_ | refine n7 ?_ | refine n8 ?_ | refine W_block ?_ | refine W_skip ?_ | refine W_ret ?_ | refine W_exit ?_ | refine WQ_then ?_ | refine WQ_then_ret ?_ | refine WQ_then_exit ?_ | refine WQ_block_normal ?_ | refine WQ_block_ret ?_ | refine WQ_block_exit ?_ | refine n9 ?_)
      ((apply ret2 Try.results32 ( (o, acc, m, 0))); (focus (first | trivial | assumption | omega)); (focus (first | exact RV_tmp rfl | (apply RV_cellN; exact rfl; (repeat' (first | exact Pick.head _ _ | apply Pick.tail)); (intro _; exact rfl); (intro _; exact rfl); exact rfl) | (apply RV_cell1; exact rfl; (repeat' (first | exact Pick.head _ _ | apply Pick.tail)); (intro _; exact rfl); exact rfl))); (focus (first | exact RV_tmp rfl | (apply RV_cellN; exact rfl; (repeat' (first | exact Pick.head _ _ | apply Pick.tail)); (intro _; exact rfl); (intro _; exact rfl); exact rfl) | (apply RV_cell1; exact rfl; (repeat' (first | exact Pick.head _ _ | apply Pick.tail)); (intro _; exact rfl); exact rfl)));  (focus (first | exact rfl | (simp; done))); (focus (repeat (first | exact SubO.nil _ | (apply SubO.cons; (focus (repeat' (first | exact Pick.head _ _ | apply Pick.tail))))))); (focus (repeat (first | exact AllE.nil _ | (apply AllE.cons; (focus (first | exact ent_nilBy | exact ent_nilSl | (apply Ent.mem; repeat' (first | exact mcs | apply mct)))))))))
    · obtain ⟨k, rfl⟩ : ∃ j, k = j + 1 := ⟨k - 1, by omega⟩
      have hone := one_fn k (IH k (by omega)) d v cur dep m (by omega) i2 (by omega) (i6.elim id fun h => absurd h c1) i3
      rw [dec, if_neg c1] at i1
      repeat (first | refine n1 ?_ | refine n2 (fun b _ => ?_) | refine n3 (fun _ _ => ?_) | refine n4 ?_ | refine n5 ?_ | refine WL_nil ?_ | refine W_seq ?_ | refine W_region ?_ | refine n7 ?_ | refine n8 ?_ | refine W_block ?_ | refine W_skip ?_ | refine W_ret ?_ | refine W_exit ?_ | refine WQ_then ?_ | refine WQ_then_ret ?_ | refine WQ_then_exit ?_ | refine WQ_block_normal ?_ | refine WQ_block_ret ?_ | refine WQ_block_exit ?_ | refine n9 ?_)
      apply WL_effs
      · exact rfl
      · exact rfl
      · exact rfl
      · apply E_callG (first := #[.pointer (some ⟨d, 0, none⟩)]) (captured := #[])
        · exact rfl
        · exact rfl
        · exact rfl
        · intro _ _
          simp
        · exact hone
        · exact perm1 (by repeat' (first | exact Pick.head _ _ | apply Pick.tail))
        · exact (by (repeat (first | exact AllE.nil _ | (apply AllE.cons; (focus (first | exact ent_nilBy | exact ent_nilSl | (apply Ent.mem; repeat' (first | exact mcs | apply mct))))))))
        · intro _
          exact rfl
        · intro _
          exact rfl
      rintro ⟨id, ext, dv, data, sv, subs, rv, rest, m2, e⟩ hq
      replace hq : one1 (dec k) cur dep m = ⟨id, ext, data, subs.er, rest, m2, e⟩ := hq
      have hm2 := one1_many (rec := dec k) (b := cur) (d := dep) (m := m) (fun c d m => dec_many k c d m) i3
      have hrest := one1_rest (rec := dec k) (b := cur) (d := dep) (m := m)
      rw [hq] at i1 hm2 hrest
      replace hm2 : m2 ≤ 64 := hm2
      replace hrest : e = 0 → rest.length + 2 ≤ cur.length := hrest
      dsimp only
      by_cases c2 : e = 0
      · subst c2
        have hr := hrest rfl
        rw [if_neg (fun h => h rfl), dcat_dcat] at i1
        replace i1 : dec F xs dep m0 = dcat (acc.app (.cons id ext dv data sv subs .nil)).er (dec k rest dep m2) := by rw [i1, er_app]; rfl
        have hl : acc.len + 1 = (acc.app (.cons id ext dv data sv subs .nil)).len := T.len_snoc ..
        repeat (first | refine n1 ?_ | refine n2 (fun b _ => ?_) | refine n3 (fun _ _ => ?_) | refine n4 ?_ | refine n5 ?_ | refine WL_nil ?_ | refine W_seq ?_ | refine W_region ?_ | refine n7 ?_ | refine n8 ?_ | refine W_block ?_ | refine W_skip ?_ | refine W_ret ?_ | refine W_exit ?_ | refine WQ_then ?_ | refine WQ_then_ret ?_ | refine WQ_then_exit ?_ | refine WQ_block_normal ?_ | refine WQ_block_ret ?_ | refine WQ_block_exit ?_ | refine n9 ?_)
        (apply WL_effs; exact rfl; exact rfl; exact rfl; (apply E_buildSlice; exact rfl; (focus (repeat (first | apply SeqE.nil | (apply SeqE.cons; exact rfl; (focus (first | (apply CellsE.lit; exact rfl) | (apply CellsE.one; (first | (apply OneC.lit; exact rfl) | (apply OneC.by_; (repeat' (first | exact mcs | apply mct)); done) | (apply OneC.sl; (repeat' (first | exact mcs | apply mct)); done) | (apply OneC.rw; (repeat' (first | exact mcs | apply mct)); done) | (apply OneC.row; (repeat' (first | exact Pick.head _ _ | apply Pick.tail))))))); exact rfl) | exact rfl))); exact rfl; (first | (intro _; exact (rfl : _ = Result.ok 1 _)) | (intro _; exact (rfl : _ = Result.ok 2 _)) | (intro _; exact (rfl : _ = Result.ok 3 _)) | (intro _; exact (rfl : _ = Result.ok 4 _)) | (intro _; exact (rfl : _ = Result.ok 5 _)) | (intro _; exact (rfl : _ = Result.ok 6 _)) | (intro _; exact (rfl : _ = Result.ok 7 _)) | (intro _; exact (rfl : _ = Result.ok 8 _)) | (intro _; exact (rfl : _ = Result.ok 9 _)) | (intro _; exact (rfl : _ = Result.ok 13 _)) | (intro _; exact (rfl : _ = Result.ok 14 _)) | (intro _; exact (rfl : _ = Result.ok 26 _)) | (intro _; exact (rfl : _ = Result.ok 40 _)) | (intro _; exact (rfl : _ = Result.ok 41 _)) | (intro _; exact (rfl : _ = Result.ok 42 _)) | (intro _; exact (rfl : _ = Result.ok 43 _)) | (intro _; exact (rfl : _ = Result.ok 44 _)) | (intro _; exact (rfl : _ = Result.ok 45 _)) | (intro _; exact (rfl : _ = Result.ok 46 _))); (intro _; exact rfl); exact rfl; exact Nat.le_of_ble_eq_true rfl; exact Nat.le_of_ble_eq_true rfl); skip)
        intro q _
        apply WL_effs
        · exact rfl
        · exact rfl
        · exact rfl
        · apply E_appendRowO (nm := (acc.app (.cons id ext dv data sv subs .nil)).len) (all := (acc.app (.cons id ext dv data sv subs .nil)).cells)
          · exact rfl
          · exact rfl
          · exact (by repeat' (first | exact Pick.head _ _ | apply Pick.tail))
          · exact (by repeat' (first | exact Pick.head _ _ | apply Pick.tail))
          · exact rfl
          · exact rfl
          · exact rfl
          · exact rfl
          · exact rfl
          · exact Nat.le_of_ble_eq_true rfl
          · (focus (repeat (first | apply Ones.nil | exact Ones.bytes | (apply Ones.cons; (focus (first | (apply OneC.lit; exact rfl) | (apply OneC.by_; (repeat' (first | exact mcs | apply mct)); done) | (apply OneC.sl; (repeat' (first | exact mcs | apply mct)); done) | (apply OneC.rw; (repeat' (first | exact mcs | apply mct)); done) | (apply OneC.row; (repeat' (first | exact Pick.head _ _ | apply Pick.tail)))))))))
          · exact Nat.le_of_ble_eq_true rfl
          · omega
          · exact hl
          · exact T.cells_snoc ..
        intro o2 _
        repeat (first | refine n1 ?_ | refine n2 (fun b _ => ?_) | refine n3 (fun _ _ => ?_) | refine n4 ?_ | refine n5 ?_ | refine WL_nil ?_ | refine W_seq ?_ | refine W_region ?_ | refine n7 ?_ | refine n8 ?_ | refine W_block ?_ | refine W_skip ?_ | refine W_ret ?_ | refine W_exit ?_ | refine WQ_then ?_ | refine WQ_then_ret ?_ | refine WQ_then_exit ?_ | refine WQ_block_normal ?_ | refine WQ_block_ret ?_ | refine WQ_block_exit ?_ | refine n9 ?_)
        refine WQ_addL (v := dv) data rfl (by repeat' (first | exact Pick.head _ _ | apply Pick.tail)) (by repeat' (first | exact Pick.head _ _ | apply Pick.tail)) ?_
        rw [show acc.dls ++ [(dv, data)] = (acc.app (.cons id ext dv data sv subs .nil)).dls from T.dls_snoc ..]
        refine WQ_ent (ent_ts1 (id := id) (ext := ext) (dv := dv) (data := data) (sv := sv) (subs := subs) (by repeat' (first | exact mcs | apply mct)) (by repeat' (first | exact mcs | apply mct))) (WQ_ent (ent_tsapp (t := acc) (u := .cons id ext dv data sv subs .nil) (by repeat' (first | exact mcs | apply mct)) (by repeat' (first | exact mcs | apply mct))) ?_)
        have j2 : rest.length ≤ k := by omega
        have j4 : (acc.app (.cons id ext dv data sv subs .nil)).len + rest.length ≤ 1000000000 := by omega
        have j5 : k ≤ F := by omega
        ((apply WQ_again ((k, acc.app (.cons id ext dv data sv subs .nil), o2, rv, rest, m2))); (focus (exact ⟨i1, j2, hm2, j4, j5, .inl (i6.elim (fun h => h) fun h => absurd h c1)⟩)); (focus exact Nat.lt_succ_self k); (focus (repeat (first | exact FrIn.nil _ | (apply FrIn.cons; exact rfl; (first | exact rfl | (congr 1; first | omega | (dsimp only; omega)) | (simp; done)))))); (focus (repeat (first | exact SubO.nil _ | (apply SubO.cons; (focus (repeat' (first | exact Pick.head _ _ | apply Pick.tail))))))); (focus (repeat (first | exact AllE.nil _ | (apply AllE.cons; (focus (first | exact ent_nilBy | exact ent_nilSl | (apply Ent.mem; repeat' (first | exact mcs | apply mct)))))))))
      · rw [if_pos c2] at i1
        replace i1 : dec F xs dep m0 = (.nil, m2, e) := by rw [i1]; exact if_neg c2
        repeat (first | refine n1 ?_ | refine n2 (fun b _ => ?_) | refine n3 (fun _ _ => ?_) | refine n4 ?_ | refine n5 ?_ | refine WL_nil ?_ | refine W_seq ?_ | refine W_region ?_ | refine n7 ?_ | refine n8 ?_ | refine W_block ?_ | refine W_skip ?_ | refine W_ret ?_ | refine W_exit ?_ | refine WQ_then ?_ | refine WQ_then_ret ?_ | refine WQ_then_exit ?_ | refine WQ_block_normal ?_ | refine WQ_block_ret ?_ | refine WQ_block_exit ?_ | refine n9 ?_)
        apply WQ_nilRow 31 4
        apply WQ_nilL 5
        refine WQ_ent ent_ts0 ?_
        ((apply ret2 Try.results32 ( (Value.slice none 0 0, T.nil, m2, e))); (focus (first | trivial | assumption | omega)); (focus (first | exact RV_tmp rfl | (apply RV_cellN; exact rfl; (repeat' (first | exact Pick.head _ _ | apply Pick.tail)); (intro _; exact rfl); (intro _; exact rfl); exact rfl) | (apply RV_cell1; exact rfl; (repeat' (first | exact Pick.head _ _ | apply Pick.tail)); (intro _; exact rfl); exact rfl))); (focus (first | exact RV_tmp rfl | (apply RV_cellN; exact rfl; (repeat' (first | exact Pick.head _ _ | apply Pick.tail)); (intro _; exact rfl); (intro _; exact rfl); exact rfl) | (apply RV_cell1; exact rfl; (repeat' (first | exact Pick.head _ _ | apply Pick.tail)); (intro _; exact rfl); exact rfl)));  (focus (first | exact rfl | (simp; done))); (focus (repeat (first | exact SubO.nil _ | (apply SubO.cons; (focus (repeat' (first | exact Pick.head _ _ | apply Pick.tail))))))); (focus (repeat (first | exact AllE.nil _ | (apply AllE.cons; (focus (first | exact ent_nilBy | exact ent_nilSl | (apply Ent.mem; repeat' (first | exact mcs | apply mct)))))))))
end Go.Proofs.Ytahkcidnmdcaaaa
