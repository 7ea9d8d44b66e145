/-
  The law 'FragmentCuts' walked.
-/
import Derived.Test.YtglmcnjkcmbefaaVIo
import Derived.Test.YtglmcnjkcmbefaaXd
namespace Go.Proofs.Ytglmcnjkcmbefaa
open Go Go.RowKit Go.Hs C05
theorem cut_w {h : Hd} {body : List UInt8} {size : Int} (hw : h.w) {D : List Fm} (hD : D.map Fmz = cutL h body size) : ∀ p ∈ D, p.head.w := fun p hp => by
  have h1 : Fmz p ∈ cutL h body size := by rw [← hD]; exact List.mem_map_of_mem hp
  unfold cutL at h1
  by_cases e : cutE h body size = 0
  · rw [if_pos e] at h1
    obtain ⟨i, hi, he⟩ := List.mem_map.1 h1
    have hi' := List.mem_range.1 hi
    have hm : manyN body.length size.toNat ≤ 16 := by
      unfold cutE at e
      split at e
      · cases e
      · split at e
        · cases e
        · split at e
          · cases e
          · split at e
            · cases e
            · omega
    have e2 : p.head = pcH h (manyN body.length size.toNat) i := (congrArg Prod.fst he).symm
    rw [e2]
    refine ⟨hw.1, hw.2.1, ?_, hw.2.2.2⟩
    show w64 (i : Int)
    have hi3 : i < 16 := by omega
    have key : ∀ n : Fin 16, w64 (n.val : Int) := by unfold w64; decide +kernel
    exact key ⟨i, hi3⟩
  · rw [if_neg e] at h1
    cases h1
theorem fcF_bv {D : List Fm} {k : Nat} (h : k < D.length) : (fcF D)[k * 41 + 40]? = some (D.getD k f0_).bv := by
  have e := fc_at fm_len D k h f0_
  have e2 : ((D.getD k f0_).cells)[40]? = some (D.getD k f0_).bv := rfl
  rw [← e, List.getElem?_take_of_lt (by omega), List.getElem?_drop] at e2
  exact e2
theorem dlF_at {D : List Fm} {k : Nat} {L : List (Value × List UInt8)} (hL : L.map Prod.fst = (dlF D).map Prod.fst) (h : k < D.length) : ∃ bs, L[k]? = some ((D.getD k f0_).bv, bs) := by
  have e : (L.map Prod.fst)[k]? = some (D.getD k f0_).bv := by
    rw [hL]
    unfold dlF
    rw [List.map_map, List.getElem?_map, List.getD_eq_getElem?_getD, List.getElem?_eq_getElem h]
    rfl
  rw [List.getElem?_map] at e
  cases h2 : L[k]? with
  | none => rw [h2] at e; cases e
  | some p =>
    rw [h2] at e
    refine ⟨p.2, ?_⟩
    rw [← Option.some.inj e]
theorem cell_set (ys : List UInt8) (k : Nat) (b : UInt8) : (ys.map bcell).set k (.int .u8 (b.toNat : Int)) = (ys.set k b).map bcell := by
  rw [List.map_set]
  rfl
theorem set_same {α β : Type} {l : List (α × β)} {i : Nat} {a : α} {b c : β} (h : l[i]? = some (a, b)) : (l.set i (a, c)).map Prod.fst = l.map Prod.fst := by
  rw [List.map_set]
  obtain ⟨hl, e⟩ := List.getElem?_eq_some_iff.1 h
  have e2 : (l.map Prod.fst)[i]'(by rw [List.length_map]; exact hl) = a := by rw [List.getElem_map, e]
  show (l.map Prod.fst).set i a = _
  rw [← e2, List.set_getElem_self]
theorem bc_at {ys : List UInt8} {j : Nat} (h : j < ys.length) : (ys.map bcell)[j]? = some (bcell (ys.getD j 0)) := by
  rw [List.getElem?_map, List.getElem?_eq_getElem h, List.getD_eq_getElem?_getD, List.getElem?_eq_getElem h]
  rfl
attribute [local irreducible] WL W WQ PL Runs Effs AllE Ent SubO FrIn Pick OneC Ones CellsE PartsE SeqE UZ By Sl Pt Ct

set_option maxRecDepth 100000 in
set_option maxHeartbeats 16000000 in
theorem cutsLaw_fn (f : Fm) (size : Int) (hw : f.head.w) : CtD Try.prog 3 [f.val, .int .i64 size] [f.fact] (.bool true) := by
  have hgr := great_fn f
  by_cases c1 : 2400 < f.body.length
  · rw [decide_eq_true c1] at hgr
    refine Ct_intro Try.func3 rfl Try.ntmps3 (by simp) _ rfl (fun w0 O0 => ?_)
    repeat (first | refine n1 ?_ | refine n2 (fun b _ => ?_) | refine n3 (fun _ _ => ?_) | refine n4 ?_ | refine n5 ?_ | refine n6 (hgr) ?_ | refine n6v (hgr) ?_ | refine WL_nil ?_ | refine W_seq ?_ | refine W_region ?_ | refine n7 ?_ | refine n8 ?_ | refine W_block ?_ | refine W_skip ?_ | refine W_ret ?_ | refine W_exit ?_ | refine WQ_then ?_ | refine WQ_then_ret ?_ | refine WQ_then_exit ?_ | refine WQ_block_normal ?_ | refine WQ_block_ret ?_ | refine WQ_block_exit ?_ | refine n9 ?_)
    ((apply ret1 Try.results3 ( ())); (focus (first | trivial | assumption | omega)); (focus (first | exact RV_tmp rfl | (apply RV_cellN; exact rfl; (repeat' (first | exact Pick.head _ _ | apply Pick.tail)); (intro _; exact rfl); (intro _; exact rfl); exact rfl) | (apply RV_cell1; exact rfl; (repeat' (first | exact Pick.head _ _ | apply Pick.tail)); (intro _; exact rfl); exact rfl)));  (focus (first | exact rfl | (simp; done))); (focus (repeat (first | exact SubO.nil _ | (apply SubO.cons; (focus (repeat' (first | exact Pick.head _ _ | apply Pick.tail))))))); (focus (repeat (first | exact AllE.nil _ | (apply AllE.cons; (focus (first | exact ent_nilBy | exact ent_nilSl | (apply Ent.mem; repeat' (first | exact mcs | apply mct)))))))))
  rw [decide_eq_false c1] at hgr
  refine Ct_intro Try.func3 rfl Try.ntmps3 (by simp) _ rfl (fun w0 O0 => ?_)
  repeat (first | refine n1 ?_ | refine n2 (fun b _ => ?_) | refine n3 (fun _ _ => ?_) | refine n4 ?_ | refine n5 ?_ | refine n6 (hgr) ?_ | refine n6v (hgr) ?_ | refine WL_nil ?_ | refine W_seq ?_ | refine W_region ?_ | refine n7 ?_ | refine n8 ?_ | refine W_block ?_ | refine W_skip ?_ | refine W_ret ?_ | refine W_exit ?_ | refine WQ_then ?_ | refine WQ_then_ret ?_ | refine WQ_then_exit ?_ | refine WQ_block_normal ?_ | refine WQ_block_ret ?_ | refine WQ_block_exit ?_ | refine n9 ?_)
  (apply WL_effs; exact rfl; exact rfl; exact rfl; apply E_call; exact rfl; (intro _ _; simp); (exact rtwin_fn f (by omega)); (repeat (first | exact AllE.nil _ | (apply AllE.cons; (focus (first | exact ent_nilBy | exact ent_nilSl | (apply Ent.mem; repeat' (first | exact mcs | apply mct))))))); (intro _; exact rfl); (intro _; exact rfl))
  intro y _
  repeat (first | refine n1 ?_ | refine n2 (fun b _ => ?_) | refine n3 (fun _ _ => ?_) | refine n4 ?_ | refine n5 ?_ | refine WL_nil ?_ | refine W_seq ?_ | refine W_region ?_ | refine n7 ?_ | refine n8 ?_ | refine W_block ?_ | refine W_skip ?_ | refine W_ret ?_ | refine W_exit ?_ | refine WQ_then ?_ | refine WQ_then_ret ?_ | refine WQ_then_exit ?_ | refine WQ_block_normal ?_ | refine WQ_block_ret ?_ | refine WQ_block_exit ?_ | refine n9 ?_)
  (apply WL_effs; exact rfl; exact rfl; exact rfl; apply E_call; exact rfl; (intro _ _; simp); (exact cut_fn f size hw (by omega)); (repeat (first | exact AllE.nil _ | (apply AllE.cons; (focus (first | exact ent_nilBy | exact ent_nilSl | (apply Ent.mem; repeat' (first | exact mcs | apply mct))))))); (intro _; exact rfl); (intro _; exact rfl))
  rintro ⟨o, D⟩ hD
  replace hD : D.map Fmz = cutL f.head f.body size := hD
  dsimp only
  repeat (first | refine n1 ?_ | refine n2 (fun b _ => ?_) | refine n3 (fun _ _ => ?_) | refine n4 ?_ | refine n5 ?_ | refine WL_nil ?_ | refine W_seq ?_ | refine W_region ?_ | refine n7 ?_ | refine n8 ?_ | refine W_block ?_ | refine W_skip ?_ | refine W_ret ?_ | refine W_exit ?_ | refine WQ_then ?_ | refine WQ_then_ret ?_ | refine WQ_then_exit ?_ | refine WQ_block_normal ?_ | refine WQ_block_ret ?_ | refine WQ_block_exit ?_ | refine n9 ?_)
  (apply WL_effs; exact rfl; exact rfl; exact rfl; apply E_call; exact rfl; (intro _ _; simp); (exact rcut_fn ⟨f.head, y, f.body⟩ size hw (by show f.body.length ≤ 100000; omega)); (repeat (first | exact AllE.nil _ | (apply AllE.cons; (focus (first | exact ent_nilBy | exact ent_nilSl | (apply Ent.mem; repeat' (first | exact mcs | apply mct))))))); (intro _; exact rfl); (intro _; exact rfl))
  rintro ⟨u, E⟩ hE
  replace hE : E.map Fmz = cutL f.head f.body size := hE
  dsimp only
  repeat (first | refine n1 ?_ | refine n2 (fun b _ => ?_) | refine n3 (fun _ _ => ?_) | refine n4 ?_ | refine n5 ?_ | refine WL_nil ?_ | refine W_seq ?_ | refine W_region ?_ | refine n7 ?_ | refine n8 ?_ | refine W_block ?_ | refine W_skip ?_ | refine W_ret ?_ | refine W_exit ?_ | refine WQ_then ?_ | refine WQ_then_ret ?_ | refine WQ_then_exit ?_ | refine WQ_block_normal ?_ | refine WQ_block_ret ?_ | refine WQ_block_exit ?_ | refine n9 ?_)
  have hsa := rsameAll_fn D E o u (cut_w hw hD) (cut_w hw hE)
  rw [decide_eq_true (hD.trans hE.symm)] at hsa
  refine WL_runs rfl rfl rfl (R_callB (Γb := [.row o 28 41 D.length (fcF D), pk (rowsL 5 (dlF D))]) rfl (by intro _ _; simp) hsa (List.Perm.refl _) (Bor.sub Bor.fms (AllIn.cons (by repeat' (first | exact mcs | apply mct)) (AllIn.cons (by repeat' (first | exact mcs | apply mct)) (AllIn.cons (by repeat' (first | exact mcs | apply mct)) (AllIn.cons (by repeat' (first | exact mcs | apply mct)) (AllIn.nil _))))))) ?_
  repeat (first | refine n1 ?_ | refine n2 (fun b _ => ?_) | refine n3 (fun _ _ => ?_) | refine n4 ?_ | refine n5 ?_ | refine WL_nil ?_ | refine W_seq ?_ | refine W_region ?_ | refine n7 ?_ | refine n8 ?_ | refine W_block ?_ | refine W_skip ?_ | refine W_ret ?_ | refine W_exit ?_ | refine WQ_then ?_ | refine WQ_then_ret ?_ | refine WQ_then_exit ?_ | refine WQ_block_normal ?_ | refine WQ_block_ret ?_ | refine WQ_block_exit ?_ | refine n9 ?_)
  refine W_pure (row_le (v := o) (n := D.length) (by repeat' (first | exact Pick.head _ _ | apply Pick.tail))) fun hle => ?_
  ((apply W_loopK (X := Nat × List (Value × List UInt8)) [11, 12] [1] (fun x => x.1 ≤ D.length ∧ x.2.map Prod.fst = (dlF D).map Prod.fst) (fun x => [(11, .int .i64 (x.1 : Int))]) (fun x => [pk (rowsL 5 x.2)]) (fun _ => []) (fun x => D.length - x.1) ((0, dlF D))); (focus exact ⟨Nat.zero_le _, rfl⟩); exact rfl; exact rfl; (intro _; exact rfl); (intro _; exact rfl); (intro _; exact rfl); (focus (repeat (first | exact FrIn.nil _ | (apply FrIn.cons; exact rfl; (first | exact rfl | (congr 1; first | omega | (dsimp only; omega)) | (simp; done)))))); (focus (repeat (first | exact SubO.nil _ | (apply SubO.cons; (focus (repeat' (first | exact Pick.head _ _ | apply Pick.tail))))))); (focus (repeat (first | exact AllE.nil _ | (apply AllE.cons; (focus (first | exact ent_nilBy | exact ent_nilSl | (apply Ent.mem; repeat' (first | exact mcs | apply mct)))))))); intro x hx)
  obtain ⟨k, L⟩ := x
  obtain ⟨i1, i2⟩ := hx
  replace i1 : k ≤ D.length := i1
  replace i2 : L.map Prod.fst = (dlF D).map Prod.fst := i2
  dsimp only
  by_cases c2 : k < D.length
  · obtain ⟨bs, hd⟩ := dlF_at i2 c2
    have hcell := fcF_bv c2
    have hil : k < L.length := (List.getElem?_eq_some_iff.1 hd).1
    repeat (first | refine n1 ?_ | refine n2 (fun b _ => ?_) | refine n3 (fun _ _ => ?_) | refine n4 ?_ | refine n5 ?_ | refine WL_nil ?_ | refine W_seq ?_ | refine W_region ?_ | refine n7 ?_ | refine n8 ?_ | refine W_block ?_ | refine W_skip ?_ | refine W_ret ?_ | refine W_exit ?_ | refine WQ_then ?_ | refine WQ_then_ret ?_ | refine WQ_then_exit ?_ | refine WQ_block_normal ?_ | refine WQ_block_ret ?_ | refine WQ_block_exit ?_ | refine n9 ?_)
    trace_state
    refine W_takeL (bt := 5) hd (by repeat' (first | exact Pick.head _ _ | apply Pick.tail)) ?_
    refine W_pure (row_le (v := (D.getD k f0_).bv) (n := bs.length) (by repeat' (first | exact Pick.head _ _ | apply Pick.tail))) fun hbl => ?_
    ((apply W_loopK (X := Nat × List UInt8) [12] [0] (fun x => x.1 ≤ bs.length ∧ x.2.length = bs.length) (fun x => [(12, .int .i64 (x.1 : Int))]) (fun x => [.row (D.getD k f0_).bv 5 1 bs.length (x.2.map bcell)]) (fun _ => []) (fun x => bs.length - x.1) ((0, bs))); (focus exact ⟨Nat.zero_le _, rfl⟩); exact rfl; exact rfl; (intro _; exact rfl); (intro _; exact rfl); (intro _; exact rfl); (focus (repeat (first | exact FrIn.nil _ | (apply FrIn.cons; exact rfl; (first | exact rfl | (congr 1; first | omega | (dsimp only; omega)) | (simp; done)))))); (focus (repeat (first | exact SubO.nil _ | (apply SubO.cons; (focus (repeat' (first | exact Pick.head _ _ | apply Pick.tail))))))); (focus (repeat (first | exact AllE.nil _ | (apply AllE.cons; (focus (first | exact ent_nilBy | exact ent_nilSl | (apply Ent.mem; repeat' (first | exact mcs | apply mct)))))))); intro x hx)
    obtain ⟨j, ys⟩ := x
    obtain ⟨hj, hy⟩ := hx
    replace hj : j ≤ bs.length := hj
    replace hy : ys.length = bs.length := hy
    dsimp only
    by_cases c3 : j < bs.length
    · have hcg : (ys.map bcell)[j]? = some (bcell (ys.getD j 0)) := bc_at (by omega)
      have hxo := xor_ff (ys.getD j 0)
      repeat (first | refine n1 ?_ | refine n2 (fun b _ => ?_) | refine n3 (fun _ _ => ?_) | refine n4 ?_ | refine n5 ?_ | refine WL_nil ?_ | refine W_seq ?_ | refine W_region ?_ | refine n7 ?_ | refine n8 ?_ | refine W_block ?_ | refine W_skip ?_ | refine W_ret ?_ | refine W_exit ?_ | refine WQ_then ?_ | refine WQ_then_ret ?_ | refine WQ_then_exit ?_ | refine WQ_block_normal ?_ | refine WQ_block_ret ?_ | refine WQ_block_exit ?_ | refine n9 ?_)
      (refine W_regionP' [16] [] [0, 1, 2, 3, 4, 5, 6, 7, 8, 9, 10, 11, 12, 13, 14, 15, 16] [] (by kernel_rfl) (by kernel_rfl) (by repeat (first | exact UZ.nil _ _ | (apply UZ.cons; exact rfl; (intro _; exact rfl)))) (by exact rfl) (by (repeat (first | exact SubO.nil _ | (apply SubO.cons; (focus (repeat' (first | exact Pick.head _ _ | apply Pick.tail))))))) ?_)
      repeat (first | refine p1 ?_ | refine p2 (fun b _ => ?_) | refine p3 (fun _ _ => ?_) | refine p4 ?_ | refine p5 ?_ | refine p7 (fun b => ?_) | refine PL_nil ?_)
      refine PL_runs rfl rfl rfl rfl rfl (R_xor rfl rfl hxo) ?_
      repeat (first | refine p1 ?_ | refine p2 (fun b _ => ?_) | refine p3 (fun _ _ => ?_) | refine p4 ?_ | refine p5 ?_ | refine p7 (fun b => ?_) | refine PL_nil ?_)
      refine PL_doL rfl rfl rfl rfl (E_storeRow (i := j) rfl rfl (by repeat' (first | exact Pick.head _ _ | apply Pick.tail)) rfl (by intro _; exact rfl) c3) (by kernel_rfl) (fun _ _ => ?_)
      rw [show (ys.map bcell).set j (.int .u8 ((flip8 (ys.getD j 0)).toNat : Int)) = (ys.set j (flip8 (ys.getD j 0))).map bcell from cell_set ys j _]
      repeat (first | refine n1 ?_ | refine n2 (fun b _ => ?_) | refine n3 (fun _ _ => ?_) | refine n4 ?_ | refine n5 ?_ | refine WL_nil ?_ | refine W_seq ?_ | refine W_region ?_ | refine n7 ?_ | refine n8 ?_ | refine W_block ?_ | refine W_skip ?_ | refine W_ret ?_ | refine W_exit ?_ | refine WQ_then ?_ | refine WQ_then_ret ?_ | refine WQ_then_exit ?_ | refine WQ_block_normal ?_ | refine WQ_block_ret ?_ | refine WQ_block_exit ?_ | refine n9 ?_)
      have hn : j + 1 ≤ bs.length ∧ (ys.set j (flip8 (ys.getD j 0))).length = bs.length := ⟨c3, (List.length_set ..).trans hy⟩
      ((apply WQ_again ((j + 1, ys.set j (flip8 (ys.getD j 0))))); (focus exact hn); (focus (exact (show bs.length - (j + 1) < bs.length - j by omega))); (focus (repeat (first | exact FrIn.nil _ | (apply FrIn.cons; exact rfl; (first | exact rfl | (congr 1; first | omega | (dsimp only; omega)) | (simp; done)))))); (focus (repeat (first | exact SubO.nil _ | (apply SubO.cons; (focus (repeat' (first | exact Pick.head _ _ | apply Pick.tail))))))); (focus (repeat (first | exact AllE.nil _ | (apply AllE.cons; (focus (first | exact ent_nilBy | exact ent_nilSl | (apply Ent.mem; repeat' (first | exact mcs | apply mct)))))))))
    · repeat (first | refine n1 ?_ | refine n2 (fun b _ => ?_) | refine n3 (fun _ _ => ?_) | refine n4 ?_ | refine n5 ?_ | refine WL_nil ?_ | refine W_seq ?_ | refine W_region ?_ | refine n7 ?_ | refine n8 ?_ | refine W_block ?_ | refine W_skip ?_ | refine W_ret ?_ | refine W_exit ?_ | refine WQ_then ?_ | refine WQ_then_ret ?_ | refine WQ_then_exit ?_ | refine WQ_block_normal ?_ | refine WQ_block_ret ?_ | refine WQ_block_exit ?_ | refine n9 ?_)
      refine WQ_putL (bt := 5) (L := L) (i := k) (v := (D.getD k f0_).bv) ys rfl (by repeat' (first | exact Pick.head _ _ | apply Pick.tail)) (by repeat' (first | exact Pick.head _ _ | apply Pick.tail)) hil ?_
      have hn : k + 1 ≤ D.length ∧ (L.set k ((D.getD k f0_).bv, ys)).map Prod.fst = (dlF D).map Prod.fst := ⟨c2, (set_same hd).trans i2⟩
      ((apply WQ_again ((k + 1, L.set k ((D.getD k f0_).bv, ys)))); (focus exact hn); (focus (exact (show D.length - (k + 1) < D.length - k by omega))); (focus (repeat (first | exact FrIn.nil _ | (apply FrIn.cons; exact rfl; (first | exact rfl | (congr 1; first | omega | (dsimp only; omega)) | (simp; done)))))); (focus (repeat (first | exact SubO.nil _ | (apply SubO.cons; (focus (repeat' (first | exact Pick.head _ _ | apply Pick.tail))))))); (focus (repeat (first | exact AllE.nil _ | (apply AllE.cons; (focus (first | exact ent_nilBy | exact ent_nilSl | (apply Ent.mem; repeat' (first | exact mcs | apply mct)))))))))
  · trace_state
    have hq := rsame_fn f ⟨f.head, y, f.body⟩ hw hw
    rw [show sameB f.head f.head f.body f.body = true from (fmz_same f ⟨f.head, y, f.body⟩).1 rfl] at hq
    repeat (first | refine n1 ?_ | refine n2 (fun b _ => ?_) | refine n3 (fun _ _ => ?_) | refine n4 ?_ | refine n5 ?_ | refine n6 (hq) ?_ | refine n6v (hq) ?_ | refine WL_nil ?_ | refine W_seq ?_ | refine W_region ?_ | refine n7 ?_ | refine n8 ?_ | refine W_block ?_ | refine W_skip ?_ | refine W_ret ?_ | refine W_exit ?_ | refine WQ_then ?_ | refine WQ_then_ret ?_ | refine WQ_then_exit ?_ | refine WQ_block_normal ?_ | refine WQ_block_ret ?_ | refine WQ_block_exit ?_ | refine n9 ?_)
    ((apply ret1 Try.results3 ( ())); (focus (first | trivial | assumption | omega)); (focus (first | exact RV_tmp rfl | (apply RV_cellN; exact rfl; (repeat' (first | exact Pick.head _ _ | apply Pick.tail)); (intro _; exact rfl); (intro _; exact rfl); exact rfl) | (apply RV_cell1; exact rfl; (repeat' (first | exact Pick.head _ _ | apply Pick.tail)); (intro _; exact rfl); exact rfl)));  (focus (first | exact rfl | (simp; done))); (focus (repeat (first | exact SubO.nil _ | (apply SubO.cons; (focus (repeat' (first | exact Pick.head _ _ | apply Pick.tail))))))); (focus (repeat (first | exact AllE.nil _ | (apply AllE.cons; (focus (first | exact ent_nilBy | exact ent_nilSl | (apply Ent.mem; repeat' (first | exact mcs | apply mct)))))))))
end Go.Proofs.Ytglmcnjkcmbefaa
