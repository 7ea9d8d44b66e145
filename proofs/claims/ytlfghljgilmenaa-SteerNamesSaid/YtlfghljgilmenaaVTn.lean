/-
  Lists of neighbours: removals by a closure.
-/
import Derived.Test.YtlfghljgilmenaaVSl
namespace Go.Proofs.Ytlfghljgilmenaa
open Go Go.RowKit Go.Hs
attribute [local irreducible] WL W WQ PL Runs Effs AllE Ent SubO FrIn Pick OneC Ones CellsE PartsE SeqE UZ By Sl Pt Ct

set_option maxRecDepth 100000 in
set_option maxHeartbeats 8000000 in
theorem deleteN_fn (l : List Nea) (o : Value) (g : FuncId) (hg : ∀ (a : Array Value) (w : World), (callFunc g a).run Try.prog w = .ok (.enter g a) w) (caps : List Value) (ψ : SP) (q : Nea → Bool) (hc : ∀ v, v ∈ l → CtD Try.prog g (v.val :: caps) [ψ] (.bool (q v))) :
    Ct Try.prog 59 [o, .func (.func g) #[] caps.toArray] [.row o 61 9 l.length (fcN l)] [ψ]
    (X := Value) (fun _ => True) (fun x => x) (fun x => [.row x 61 9 (l.filter (fun v => !q v)).length (fcN (l.filter (fun v => !q v)))]) (fun _ => []) := by
  have hmem : ∀ i, i < l.length → l.getD i n0_ ∈ l := fun i hi => by rw [List.getD_eq_getElem?_getD, List.getElem?_eq_getElem hi]; exact List.getElem_mem hi
  have hix := indexN_fn o l l.length (Nat.le_refl _) g hg caps ψ (fun i => q (l.getD i n0_)) (fun i hi => hc _ (hmem i hi))
  refine Ct_intro Try.func59 rfl Try.ntmps59 (by simp) _ rfl (fun w0 O0 => ?_)
  refine W_pure (row_le (v := o) (n := l.length) (by repeat' (first | exact Pick.head _ _ | apply Pick.tail))) fun hle => ?_
  repeat (first | refine n1 ?_ | refine n2 (fun b _ => ?_) | refine n3 (fun _ _ => ?_) | refine n4 ?_ | refine n5 ?_ | refine WL_nil ?_ | refine W_seq ?_ | refine W_region ?_ | refine n7 ?_ | refine n8 ?_ | refine W_block ?_ | refine W_skip ?_ | refine W_ret ?_ | refine W_exit ?_ | refine WQ_then ?_ | refine WQ_then_ret ?_ | refine WQ_then_exit ?_ | refine WQ_block_normal ?_ | refine WQ_block_ret ?_ | refine WQ_block_exit ?_ | refine n9 ?_)
  apply WL_runs
  · exact rfl
  · exact rfl
  · exact rfl
  · apply R_callB (Γb := [.row o 61 9 l.length (fcN l)])
    · exact rfl
    · intro _ _
      simp
    · exact hix
    · exact perm1 (by repeat' (first | exact Pick.head _ _ | apply Pick.tail))
    · exact Bor.sub (Bor.rowG (cf := Nea.cells) (S := 9) (l := l) nea_len n0_ rfl rfl) (AllIn.cons (by repeat' (first | exact mcs | apply mct)) (AllIn.cons (by repeat' (first | exact mcs | apply mct)) (AllIn.nil _)))
  rcases idx_filter q n0_ l with ⟨hf, hr⟩ | ⟨k, hk, hf, hr⟩
  · rw [hf, hr]
    repeat (first | refine n1 ?_ | refine n2 (fun b _ => ?_) | refine n3 (fun _ _ => ?_) | refine n4 ?_ | refine n5 ?_ | refine WL_nil ?_ | refine W_seq ?_ | refine W_region ?_ | refine n7 ?_ | refine n8 ?_ | refine W_block ?_ | refine W_skip ?_ | refine W_ret ?_ | refine W_exit ?_ | refine WQ_then ?_ | refine WQ_then_ret ?_ | refine WQ_then_exit ?_ | refine WQ_block_normal ?_ | refine WQ_block_ret ?_ | refine WQ_block_exit ?_ | refine n9 ?_)
    ((apply ret1 Try.results59 ( o)); (focus (first | trivial | assumption | omega)); (focus (first | exact RV_tmp rfl | (apply RV_cellN; exact rfl; (repeat' (first | exact Pick.head _ _ | apply Pick.tail)); (intro _; exact rfl); (intro _; exact rfl); exact rfl) | (apply RV_cell1; exact rfl; (repeat' (first | exact Pick.head _ _ | apply Pick.tail)); (intro _; exact rfl); exact rfl)));  (focus (first | exact rfl | (simp; done))); (focus (repeat (first | exact SubO.nil _ | (apply SubO.cons; (focus (repeat' (first | exact Pick.head _ _ | apply Pick.tail))))))); (focus (repeat (first | exact AllE.nil _ | (apply AllE.cons; (focus (first | exact ent_nilBy | exact ent_nilSl | (apply Ent.mem; repeat' (first | exact mcs | apply mct)))))))))
  · rw [hf]
    have h5 : (fcN l).length = l.length * 9 := fcN_length l
    have h0 : k < k + 1 ∧ k + 1 ≤ l.length ∧ (fcN l).length = l.length * 9 ∧ (l.take k).length = k ∧ (fcN l).take (k * 9) = fcN (l.take k) ∧ (fcN l).drop ((k + 1) * 9) = fcN (l.drop (k + 1)) ∧ l.take k ++ (l.drop (k + 1)).filter (fun v => !q v) = l.filter (fun v => !q v) := ⟨Nat.lt_succ_self _, hk, h5, by rw [List.length_take]; omega, fc_take nea_len l k (Nat.le_of_lt hk), fc_drop nea_len l (k + 1) hk, hr⟩
    repeat (first | refine n1 ?_ | refine n2 (fun b _ => ?_) | refine n3 (fun _ _ => ?_) | refine n4 ?_ | refine n5 ?_ | refine WL_nil ?_ | refine W_seq ?_ | refine W_region ?_ | refine n7 ?_ | refine n8 ?_ | refine W_block ?_ | refine W_skip ?_ | refine W_ret ?_ | refine W_exit ?_ | refine WQ_then ?_ | refine WQ_then_ret ?_ | refine WQ_then_exit ?_ | refine WQ_block_normal ?_ | refine WQ_block_ret ?_ | refine WQ_block_exit ?_ | refine n9 ?_)
    ((apply W_loopK (X := Nat × Nat × List Value × List Nea) [5, 6, 7] [0] (fun x => x.1 < x.2.1 ∧ x.2.1 ≤ l.length ∧ x.2.2.1.length = l.length * 9 ∧ x.2.2.2.length = x.1 ∧ x.2.2.1.take (x.1 * 9) = fcN x.2.2.2 ∧ x.2.2.1.drop (x.2.1 * 9) = fcN (l.drop x.2.1) ∧ x.2.2.2 ++ (l.drop x.2.1).filter (fun v => !q v) = l.filter (fun v => !q v)) (fun x => [(5, .int .i64 (x.1 : Int)), (6, .int .i64 (x.2.1 : Int))]) (fun x => [.row o 61 9 l.length x.2.2.1]) (fun _ => []) (fun x => l.length - x.2.1) ((k, k + 1, fcN l, l.take k))); (focus exact h0); exact rfl; exact rfl; (intro _; exact rfl); (intro _; exact rfl); (intro _; exact rfl); (focus (repeat (first | exact FrIn.nil _ | (apply FrIn.cons; exact rfl; (first | exact rfl | (congr 1; first | omega | (dsimp only; omega)) | (simp; done)))))); (focus (repeat (first | exact SubO.nil _ | (apply SubO.cons; (focus (repeat' (first | exact Pick.head _ _ | apply Pick.tail))))))); (focus (repeat (first | exact AllE.nil _ | (apply AllE.cons; (focus (first | exact ent_nilBy | exact ent_nilSl | (apply Ent.mem; repeat' (first | exact mcs | apply mct)))))))); intro x hx)
    obtain ⟨i, j, L, w⟩ := x
    obtain ⟨i1, i2, i3, i4, i5, i6, i7⟩ := hx
    replace i1 : i < j := i1
    replace i2 : j ≤ l.length := i2
    replace i3 : L.length = l.length * 9 := i3
    replace i4 : w.length = i := i4
    replace i5 : L.take (i * 9) = fcN w := i5
    replace i6 : L.drop (j * 9) = fcN (l.drop j) := i6
    replace i7 : w ++ (l.drop j).filter (fun v => !q v) = l.filter (fun v => !q v) := i7
    dsimp only
    by_cases c1 : j < l.length
    · have hcj := hc _ (hmem j c1)
      rw [drop_cons_getD c1 n0_] at i6 i7
      have hfc : fcN (l.getD j n0_ :: l.drop (j + 1)) = (l.getD j n0_).cells ++ fcN (l.drop (j + 1)) := List.flatMap_cons ..
      rw [hfc] at i6
      have hnx : L.drop ((j + 1) * 9) = fcN (l.drop (j + 1)) := by
        rw [show (j + 1) * 9 = j * 9 + 9 by omega, ← List.drop_drop, i6, List.drop_left' (nea_len _)]
      have hcell : ∀ r u, (l.getD j n0_).cells[r]? = some u → L[j * 9 + r]? = some u := fun r u hr' => by
        rw [← List.getElem?_drop, i6, List.getElem?_append_left (List.getElem?_eq_some_iff.1 hr').1]
        exact hr'
      generalize l.getD j n0_ = e at *
      repeat (first | refine n1 ?_ | refine n2 (fun b _ => ?_) | refine n3 (fun _ _ => ?_) | refine n4 ?_ | refine n5 ?_ | refine WL_nil ?_ | refine W_seq ?_ | refine W_region ?_ | refine n7 ?_ | refine n8 ?_ | refine W_block ?_ | refine W_skip ?_ | refine W_ret ?_ | refine W_exit ?_ | refine WQ_then ?_ | refine WQ_then_ret ?_ | refine WQ_then_exit ?_ | refine WQ_block_normal ?_ | refine WQ_block_ret ?_ | refine WQ_block_exit ?_ | refine n9 ?_)
      refine WL_runs rfl rfl rfl (R_loadRowN (us := e.cells) rfl (by repeat' (first | exact Pick.head _ _ | apply Pick.tail)) (by intro _; rfl) (by intro _; rfl) c1 hcell) ?_
      repeat (first | refine n1 ?_ | refine n2 (fun b _ => ?_) | refine n3 (fun _ _ => ?_) | refine n4 ?_ | refine n5 ?_ | refine WL_nil ?_ | refine W_seq ?_ | refine W_region ?_ | refine n7 ?_ | refine n8 ?_ | refine W_block ?_ | refine W_skip ?_ | refine W_ret ?_ | refine W_exit ?_ | refine WQ_then ?_ | refine WQ_then_ret ?_ | refine WQ_then_exit ?_ | refine WQ_block_normal ?_ | refine WQ_block_ret ?_ | refine WQ_block_exit ?_ | refine n9 ?_)
      cases c2 : q e with
      | true =>
        rw [c2] at hcj
        rw [List.filter_cons_of_neg (by rw [c2]; decide)] at i7
        refine n6v hcj ?_ (hrun := fun a w => hg a w)
        repeat (first | refine n1 ?_ | refine n2 (fun b _ => ?_) | refine n3 (fun _ _ => ?_) | refine n4 ?_ | refine n5 ?_ | refine WL_nil ?_ | refine W_seq ?_ | refine W_region ?_ | refine n7 ?_ | refine n8 ?_ | refine W_block ?_ | refine W_skip ?_ | refine W_ret ?_ | refine W_exit ?_ | refine WQ_then ?_ | refine WQ_then_ret ?_ | refine WQ_then_exit ?_ | refine WQ_block_normal ?_ | refine WQ_block_ret ?_ | refine WQ_block_exit ?_ | refine n9 ?_)
        have hn : i < j + 1 ∧ j + 1 ≤ l.length ∧ L.length = l.length * 9 ∧ w.length = i ∧ L.take (i * 9) = fcN w ∧ L.drop ((j + 1) * 9) = fcN (l.drop (j + 1)) ∧ w ++ (l.drop (j + 1)).filter (fun v => !q v) = l.filter (fun v => !q v) := ⟨by omega, c1, i3, i4, i5, hnx, i7⟩
        ((apply WQ_again ((i, j + 1, L, w))); (focus exact hn); (focus (exact (show l.length - (j + 1) < l.length - j by omega))); (focus (repeat (first | exact FrIn.nil _ | (apply FrIn.cons; exact rfl; (first | exact rfl | (congr 1; first | omega | (dsimp only; omega)) | (simp; done)))))); (focus (repeat (first | exact SubO.nil _ | (apply SubO.cons; (focus (repeat' (first | exact Pick.head _ _ | apply Pick.tail))))))); (focus (repeat (first | exact AllE.nil _ | (apply AllE.cons; (focus (first | exact ent_nilBy | exact ent_nilSl | (apply Ent.mem; repeat' (first | exact mcs | apply mct)))))))))
      | false =>
        rw [c2] at hcj
        rw [List.filter_cons_of_pos (by rw [c2]; decide)] at i7
        refine n6v hcj ?_ (hrun := fun a w => hg a w)
        repeat (first | refine n1 ?_ | refine n2 (fun b _ => ?_) | refine n3 (fun _ _ => ?_) | refine n4 ?_ | refine n5 ?_ | refine WL_nil ?_ | refine W_seq ?_ | refine W_region ?_ | refine n7 ?_ | refine n8 ?_ | refine W_block ?_ | refine W_skip ?_ | refine W_ret ?_ | refine W_exit ?_ | refine WQ_then ?_ | refine WQ_then_ret ?_ | refine WQ_then_exit ?_ | refine WQ_block_normal ?_ | refine WQ_block_ret ?_ | refine WQ_block_exit ?_ | refine n9 ?_)
        refine WL_do rfl rfl (E_storeRowN (us := e.cells) rfl rfl (by repeat' (first | exact Pick.head _ _ | apply Pick.tail)) (CellsE.lit rfl) (Ones.lits (nea_one e)) (by intro _; rfl) (show i < l.length by omega) rfl (putN_mk (i * 9) e.cells L (by rw [i3, nea_len]; omega))) ?_
        intro _ _
        repeat (first | refine n1 ?_ | refine n2 (fun b _ => ?_) | refine n3 (fun _ _ => ?_) | refine n4 ?_ | refine n5 ?_ | refine WL_nil ?_ | refine W_seq ?_ | refine W_region ?_ | refine n7 ?_ | refine n8 ?_ | refine W_block ?_ | refine W_skip ?_ | refine W_ret ?_ | refine W_exit ?_ | refine WQ_then ?_ | refine WQ_then_ret ?_ | refine WQ_then_exit ?_ | refine WQ_block_normal ?_ | refine WQ_block_ret ?_ | refine WQ_block_exit ?_ | refine n9 ?_)
        have hwl : (fcN w).length = i * 9 := by rw [fcN_length, i4]
        have hse := nea_len e
        have hn : i + 1 < j + 1 ∧ j + 1 ≤ l.length ∧ (L.take (i * 9) ++ e.cells ++ L.drop (i * 9 + e.cells.length)).length = l.length * 9 ∧ (w ++ [e]).length = i + 1 ∧
            (L.take (i * 9) ++ e.cells ++ L.drop (i * 9 + e.cells.length)).take ((i + 1) * 9) = fcN (w ++ [e]) ∧
            (L.take (i * 9) ++ e.cells ++ L.drop (i * 9 + e.cells.length)).drop ((j + 1) * 9) = fcN (l.drop (j + 1)) ∧ (w ++ [e]) ++ (l.drop (j + 1)).filter (fun v => !q v) = l.filter (fun v => !q v) := by
          rw [hse]
          refine ⟨by omega, c1, ?_, by rw [List.length_append, i4]; rfl, ?_, ?_, ?_⟩
          · rw [List.length_append, List.length_append, List.length_take, List.length_drop, hse, i3]
            omega
          · rw [i5, List.take_left' (by rw [List.length_append, hwl, hse]; omega)]
            show fcN w ++ e.cells = List.flatMap Nea.cells (w ++ [e])
            rw [List.flatMap_append]
            simp [fcN]
          · rw [i5, List.drop_append, List.drop_of_length_le (by rw [List.length_append, hwl, hse]; omega), List.nil_append, List.drop_drop, List.length_append, hwl, hse, show i * 9 + 9 + ((j + 1) * 9 - (i * 9 + 9)) = (j + 1) * 9 by omega]
            exact hnx
          · rw [List.append_assoc]
            exact i7
        ((apply WQ_again ((i + 1, j + 1, L.take (i * 9) ++ e.cells ++ L.drop (i * 9 + e.cells.length), w ++ [e]))); (focus exact hn); (focus (exact (show l.length - (j + 1) < l.length - j by omega))); (focus (repeat (first | exact FrIn.nil _ | (apply FrIn.cons; exact rfl; (first | exact rfl | (congr 1; first | omega | (dsimp only; omega)) | (simp; done)))))); (focus (repeat (first | exact SubO.nil _ | (apply SubO.cons; (focus (repeat' (first | exact Pick.head _ _ | apply Pick.tail))))))); (focus (repeat (first | exact AllE.nil _ | (apply AllE.cons; (focus (first | exact ent_nilBy | exact ent_nilSl | (apply Ent.mem; repeat' (first | exact mcs | apply mct)))))))))
    · have hj : j = l.length := by omega
      rw [hj, List.drop_length, List.filter_nil, List.append_nil] at i7
      subst i7
      have hwl : (fcN (l.filter (fun v => !q v))).length = i * 9 := by rw [fcN_length, i4]
      repeat (first | refine n1 ?_ | refine n2 (fun b _ => ?_) | refine n3 (fun _ _ => ?_) | refine n4 ?_ | refine n5 ?_ | refine WL_nil ?_ | refine W_seq ?_ | refine W_region ?_ | refine n7 ?_ | refine n8 ?_ | refine W_block ?_ | refine W_skip ?_ | refine W_ret ?_ | refine W_exit ?_ | refine WQ_then ?_ | refine WQ_then_ret ?_ | refine WQ_then_exit ?_ | refine WQ_block_normal ?_ | refine WQ_block_ret ?_ | refine WQ_block_exit ?_ | refine n9 ?_)
      refine WL_runs rfl rfl rfl (R_sliceRow (j := i) rfl rfl (by repeat' (first | exact Pick.head _ _ | apply Pick.tail)) rfl (by intro _; rfl) rfl (show i ≤ l.length by omega)) ?_
      refine WL_do rfl rfl (E_clearRow (j := i) rfl (by repeat' (first | exact Pick.head _ _ | apply Pick.tail)) rfl (by intro _; rfl) rfl rfl (show i ≤ l.length by omega)) ?_
      intro zs _
      repeat (first | refine n1 ?_ | refine n2 (fun b _ => ?_) | refine n3 (fun _ _ => ?_) | refine n4 ?_ | refine n5 ?_ | refine WL_nil ?_ | refine W_seq ?_ | refine W_region ?_ | refine n7 ?_ | refine n8 ?_ | refine W_block ?_ | refine W_skip ?_ | refine W_ret ?_ | refine W_exit ?_ | refine WQ_then ?_ | refine WQ_then_ret ?_ | refine WQ_then_exit ?_ | refine WQ_block_normal ?_ | refine WQ_block_ret ?_ | refine WQ_block_exit ?_ | refine n9 ?_)
      refine WL_effs rfl rfl rfl (E_cutRow (j := i) (us := fcN (l.filter (fun v => !q v))) rfl rfl (by repeat' (first | exact Pick.head _ _ | apply Pick.tail)) rfl (by intro _; rfl) rfl (show i ≤ l.length by omega) (by rw [i5]; exact List.take_left' hwl)) ?_
      intro _ _
      rw [← i4]
      repeat (first | refine n1 ?_ | refine n2 (fun b _ => ?_) | refine n3 (fun _ _ => ?_) | refine n4 ?_ | refine n5 ?_ | refine WL_nil ?_ | refine W_seq ?_ | refine W_region ?_ | refine n7 ?_ | refine n8 ?_ | refine W_block ?_ | refine W_skip ?_ | refine W_ret ?_ | refine W_exit ?_ | refine WQ_then ?_ | refine WQ_then_ret ?_ | refine WQ_then_exit ?_ | refine WQ_block_normal ?_ | refine WQ_block_ret ?_ | refine WQ_block_exit ?_ | refine n9 ?_)
      ((apply ret1 Try.results59 ( cutV 9 0 (l.filter (fun v => !q v)).length o)); (focus (first | trivial | assumption | omega)); (focus (first | exact RV_tmp rfl | (apply RV_cellN; exact rfl; (repeat' (first | exact Pick.head _ _ | apply Pick.tail)); (intro _; exact rfl); (intro _; exact rfl); exact rfl) | (apply RV_cell1; exact rfl; (repeat' (first | exact Pick.head _ _ | apply Pick.tail)); (intro _; exact rfl); exact rfl)));  (focus (first | exact rfl | (simp; done))); (focus (repeat (first | exact SubO.nil _ | (apply SubO.cons; (focus (repeat' (first | exact Pick.head _ _ | apply Pick.tail))))))); (focus (repeat (first | exact AllE.nil _ | (apply AllE.cons; (focus (first | exact ent_nilBy | exact ent_nilSl | (apply Ent.mem; repeat' (first | exact mcs | apply mct)))))))))

end Go.Proofs.Ytlfghljgilmenaa
