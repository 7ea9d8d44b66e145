/-
  'BodyElements', the law.
-/
import Derived.Test.YtoohgnegoaoleaaVBp
import Derived.Test.YtoohgnegoaoleaaXb
namespace Go.Proofs.Ytoohgnegoaoleaa
open Go Go.RowKit Go.Hs
def revT : T → T
  | .nil => .nil
  | .cons id ext dv data sv subs next => (revT next).app (.cons id ext dv data sv subs .nil)
def revF : Fo → Fo
  | .nil => .nil
  | .cons id ext data subs next => C04.fapp (revF next) (.cons id ext data subs .nil)
theorem rev_er : ∀ t : T, (revT t).er = revF t.er
  | .nil => rfl
  | .cons id ext dv data sv subs next => by
    show ((revT next).app _).er = _
    rw [C04.er_app, rev_er next]
    rfl
theorem rev_len : ∀ t : T, (revT t).len = t.len
  | .nil => rfl
  | .cons id ext dv data sv subs next => by
    show ((revT next).app _).len = _
    rw [T.len_app, rev_len next]
    rfl
theorem rev_cnt : ∀ f : Fo, C04.cnt (revF f) = C04.cnt f
  | .nil => rfl
  | .cons id ext data subs next => by
    show C04.cnt (C04.fapp _ _) = _
    rw [C04.cnt_app, rev_cnt next]
    simp only [C04.cnt]
    omega
theorem rev_dep : ∀ f : Fo, C04.dep (revF f) = C04.dep f
  | .nil => rfl
  | .cons id ext data subs next => by
    show C04.dep (C04.fapp _ _) = _
    rw [C04.dep_app, rev_dep next]
    simp only [C04.dep]
    omega
theorem rev_dat : ∀ f : Fo, C04.dat (revF f) = C04.dat f
  | .nil => rfl
  | .cons id ext data subs next => by
    show C04.dat (C04.fapp _ _) = _
    rw [C04.dat_app, rev_dat next]
    simp only [C04.dat]
    omega
theorem rev_val : ∀ f : Fo, C04.val (revF f) = C04.val f
  | .nil => rfl
  | .cons id ext data subs next => by
    show C04.val (C04.fapp _ _) = _
    rw [C04.val_app, rev_val next]
    simp only [C04.val, Bool.and_true]
    rw [Bool.and_comm]
theorem rev_fit : ∀ f : Fo, C04.fit (revF f) = C04.fit f
  | .nil => rfl
  | .cons id ext data subs next => by
    show C04.fit (C04.fapp _ _) = _
    rw [C04.fit_app, rev_fit next]
    simp only [C04.fit, Bool.and_true]
    rw [Bool.and_comm]
theorem rev_encl : ∀ f : Fo, (C04.enc (revF f)).length = (C04.enc f).length
  | .nil => rfl
  | .cons id ext data subs next => by
    show (C04.enc (C04.fapp _ _)).length = _
    rw [C04.enc_app, List.length_append, rev_encl next]
    simp only [C04.enc, List.append_nil, List.length_append]
    omega
theorem rev_chk (f : Fo) : C04.chk (revF f) = C04.chk f := by unfold C04.chk; rw [rev_cnt, rev_dep, rev_val, rev_fit]
theorem rev_sm {f : Fo} (h : C04.Sm f) : C04.Sm (revF f) := by
  unfold C04.Sm at *
  rw [rev_cnt, rev_dep, rev_dat]
  exact h
theorem rev_fiE (bs : List UInt8) (f : Fo) : fiE bs (revF f) = fiE bs f := by unfold fiE; rw [rev_chk, rev_encl]
attribute [local irreducible] WL W WQ PL Runs Effs AllE Ent SubO FrIn Pick OneC Ones CellsE PartsE SeqE UZ By Sl Pt Ct

set_option maxRecDepth 100000 in
set_option maxHeartbeats 4000000 in
theorem relem_fn (t u : T) (v w : Value) : CtD Try.prog 47 [v, w] [Rw 4 v t.len t.at_, t.tf, Rw 4 w u.len u.at_, u.tf] (.bool (decide (t.er = u.er))) := by
  have h := C04.rsame_fn (t.size + 1) t u v w (Nat.lt_succ_self _)
  refine Ct_intro Try.func47 rfl Try.ntmps47 (by simp) _ rfl (fun w0 O0 => ?_)
  repeat (first | refine n1 ?_ | refine n2 (fun b _ => ?_) | refine n3 (fun _ _ => ?_) | refine n4 ?_ | refine n5 ?_ | refine n6 (h) ?_ | refine n6v (h) ?_ | refine WL_nil ?_ | refine W_seq ?_ | refine W_region ?_ | refine n7 ?_ | refine n8 ?_ | refine W_block ?_ | refine W_skip ?_ | refine W_ret ?_ | refine W_exit ?_ | refine WQ_then ?_ | refine WQ_then_ret ?_ | refine WQ_then_exit ?_ | refine WQ_block_normal ?_ | refine WQ_block_ret ?_ | refine WQ_block_exit ?_ | refine n9 ?_)
  ((apply ret1 Try.results47 ( ())); (focus (first | trivial | assumption | omega)); (focus (first | exact RV_tmp rfl | (apply RV_cellN; exact rfl; (repeat' (first | exact Pick.head _ _ | apply Pick.tail)); (intro _; exact rfl); (intro _; exact rfl); exact rfl) | (apply RV_cell1; exact rfl; (repeat' (first | exact Pick.head _ _ | apply Pick.tail)); (intro _; exact rfl); exact rfl)));  (focus (first | exact rfl | (simp; done))); (focus (repeat (first | exact SubO.nil _ | (apply SubO.cons; (focus (repeat' (first | exact Pick.head _ _ | apply Pick.tail))))))); (focus (repeat (first | exact AllE.nil _ | (apply AllE.cons; (focus (first | exact ent_nilBy | exact ent_nilSl | (apply Ent.mem; repeat' (first | exact mcs | apply mct)))))))))

set_option maxRecDepth 100000 in
set_option maxHeartbeats 16000000 in
theorem elementsLaw_fn (t : T) (v : Value) (c : Nat) (hc : c < 65536) : CtD Try.prog 6 [v, .int .u16 (c : Int)] [Rw 4 v t.len t.at_, t.tf] (.bool true) := by
  have hal := alive_fn
  have hg := great6_fn { zAll with nv := v, nt := t }
  refine Ct_intro Try.func6 rfl Try.ntmps6 (by simp) _ rfl (fun w0 O0 => ?_)
  refine W_ent (ψ := Rw 4 (.slice none 0 0) T.nil.len T.nil.at_) ent_nilRw ?_
  refine W_ent ent_tf0 ?_
  refine W_ent (ψ := By (.slice none 0 0) []) ent_nilBy ?_
  repeat (first | refine n1 ?_ | refine n2 (fun b _ => ?_) | refine n3 (fun _ _ => ?_) | refine n4 ?_ | refine n5 ?_ | refine n6 (hal) ?_ | refine n6v (hal) ?_ | refine WL_nil ?_ | refine W_seq ?_ | refine W_region ?_ | refine n7 ?_ | refine n8 ?_ | refine W_block ?_ | refine W_skip ?_ | refine W_ret ?_ | refine W_exit ?_ | refine WQ_then ?_ | refine WQ_then_ret ?_ | refine WQ_then_exit ?_ | refine WQ_block_normal ?_ | refine WQ_block_ret ?_ | refine WQ_block_exit ?_ | refine n9 ?_)
  (apply WL_effs; exact rfl; exact rfl; exact rfl; apply E_call; exact rfl; (intro _ _; simp); exact hg; (repeat (first | exact AllE.nil _ | (apply AllE.cons; (focus (first | exact ent_nilBy | exact ent_nilSl | (apply Ent.mem; repeat' (first | exact mcs | apply mct))))))); (intro _; exact rfl); (intro _; exact rfl))
  intro g hsm
  cases g with
  | true =>
    repeat (first | refine n1 ?_ | refine n2 (fun b _ => ?_) | refine n3 (fun _ _ => ?_) | refine n4 ?_ | refine n5 ?_ | refine n6 (hal) ?_ | refine n6v (hal) ?_ | refine WL_nil ?_ | refine W_seq ?_ | refine W_region ?_ | refine n7 ?_ | refine n8 ?_ | refine W_block ?_ | refine W_skip ?_ | refine W_ret ?_ | refine W_exit ?_ | refine WQ_then ?_ | refine WQ_then_ret ?_ | refine WQ_then_exit ?_ | refine WQ_block_normal ?_ | refine WQ_block_ret ?_ | refine WQ_block_exit ?_ | refine n9 ?_)
    ((apply ret1 Try.results6 ( ())); (focus (first | trivial | assumption | omega)); (focus (first | exact RV_tmp rfl | (apply RV_cellN; exact rfl; (repeat' (first | exact Pick.head _ _ | apply Pick.tail)); (intro _; exact rfl); (intro _; exact rfl); exact rfl) | (apply RV_cell1; exact rfl; (repeat' (first | exact Pick.head _ _ | apply Pick.tail)); (intro _; exact rfl); exact rfl)));  (focus (first | exact rfl | (simp; done))); (focus (repeat (first | exact SubO.nil _ | (apply SubO.cons; (focus (repeat' (first | exact Pick.head _ _ | apply Pick.tail))))))); (focus (repeat (first | exact AllE.nil _ | (apply AllE.cons; (focus (first | exact ent_nilBy | exact ent_nilSl | (apply Ent.mem; repeat' (first | exact mcs | apply mct)))))))))
  | false =>
  have hsm : C04.Sm t.er := (hsm rfl).2.2.2.2.1
  have hlen : t.len ≤ 400 := by
    have : ∀ t : T, t.len ≤ C04.cnt t.er := fun t => by
      induction t with
      | nil => exact Nat.le_refl _
      | cons id ext dv data sv subs next _ ih => simp only [T.len, T.er, C04.cnt]; omega
    exact Nat.le_trans (this t) hsm.1
  repeat (first | refine n1 ?_ | refine n2 (fun b _ => ?_) | refine n3 (fun _ _ => ?_) | refine n4 ?_ | refine n5 ?_ | refine WL_nil ?_ | refine W_seq ?_ | refine W_region ?_ | refine n7 ?_ | refine n8 ?_ | refine W_block ?_ | refine W_skip ?_ | refine W_ret ?_ | refine W_exit ?_ | refine WQ_then ?_ | refine WQ_then_ret ?_ | refine WQ_then_exit ?_ | refine WQ_block_normal ?_ | refine WQ_block_ret ?_ | refine WQ_block_exit ?_ | refine n9 ?_)
  have h0i : T.nil = revT (t.drop t.len) := by rw [C04.drop_end rfl]; rfl
  apply W_nilRow 106 4
  ((apply W_loopK (X := Nat × Value × T) [7, 6] [0] (fun x => x.1 ≤ t.len ∧ x.2.2 = revT (t.drop x.1)) (fun x => [(7, .int .i64 ((x.1 : Int) - 1)), (6, x.2.1)]) (fun x => [.row x.2.1 106 4 x.2.2.len x.2.2.cells]) (fun x => [x.2.2.tf]) (fun x => x.1) ((t.len, .slice none 0 0, T.nil))); (focus exact ⟨Nat.le_refl _, h0i⟩); exact rfl; exact rfl; (intro _; exact rfl); (intro _; exact rfl); (intro _; exact rfl); (focus (repeat (first | exact FrIn.nil _ | (apply FrIn.cons; exact rfl; (first | exact rfl | (congr 1; first | omega | (dsimp only; omega)) | (simp; done)))))); (focus (repeat (first | exact SubO.nil _ | (apply SubO.cons; (focus (repeat' (first | exact Pick.head _ _ | apply Pick.tail))))))); (focus (repeat (first | exact AllE.nil _ | (apply AllE.cons; (focus (first | exact ent_nilBy | exact ent_nilSl | (apply Ent.mem; repeat' (first | exact mcs | apply mct)))))))); intro x hx)
  obtain ⟨k, o, R⟩ := x
  obtain ⟨hk, hR⟩ := hx
  replace hk : k ≤ t.len := hk
  replace hR : R = revT (t.drop k) := hR
  dsimp only
  cases k with
  | succ k =>
    obtain ⟨id, ext, dv, data, sv, subs, next, hd⟩ := T.get (t := t) (k := k) hk
    have hat := T.at_cons hd
    have hn := T.drop_next hd
    rw [hn] at hR
    have hR2 : R.app (.cons id ext dv data sv subs .nil) = revT (t.drop k) := by rw [hd, hR]; rfl
    have hRl : R.len ≤ 400 := by rw [hR, rev_len, ← hn, T.drop_len _ _ hk]; omega
    rw [show (((k + 1 : Nat) : Int) - 1) = (k : Int) by omega]
    refine W_ent (ent_tree (t := t) (k := k) (by repeat' (first | exact mcs | apply mct)) hd).1 ?_
    refine W_ent (ent_tree (t := t) (k := k) (by repeat' (first | exact mcs | apply mct)) hd).2.1 ?_
    refine W_ent (ent_tree (t := t) (k := k) (by repeat' (first | exact mcs | apply mct)) hd).2.2 ?_
    repeat (first | refine n1 ?_ | refine n2 (fun b _ => ?_) | refine n3 (fun _ _ => ?_) | refine n4 ?_ | refine n5 ?_ | refine WL_nil ?_ | refine W_seq ?_ | refine W_region ?_ | refine n7 ?_ | refine n8 ?_ | refine W_block ?_ | refine W_skip ?_ | refine W_ret ?_ | refine W_exit ?_ | refine WQ_then ?_ | refine WQ_then_ret ?_ | refine WQ_then_exit ?_ | refine WQ_block_normal ?_ | refine WQ_block_ret ?_ | refine WQ_block_exit ?_ | refine n9 ?_)
    (apply WL_effs; exact rfl; exact rfl; exact rfl; (apply E_buildSlice; exact rfl; (focus (repeat (first | apply SeqE.nil | (apply SeqE.cons; exact rfl; (focus (first | (apply CellsE.lit; exact rfl) | (apply CellsE.one; (first | (apply OneC.lit; exact rfl) | (apply OneC.by_; (repeat' (first | exact mcs | apply mct)); done) | (apply OneC.sl; (repeat' (first | exact mcs | apply mct)); done) | (apply OneC.rw; (repeat' (first | exact mcs | apply mct)); done) | (apply OneC.row; (repeat' (first | exact Pick.head _ _ | apply Pick.tail))))))); exact rfl) | exact rfl))); exact rfl; (first | (intro _; exact (rfl : _ = Result.ok 1 _)) | (intro _; exact (rfl : _ = Result.ok 2 _)) | (intro _; exact (rfl : _ = Result.ok 3 _)) | (intro _; exact (rfl : _ = Result.ok 4 _)) | (intro _; exact (rfl : _ = Result.ok 5 _)) | (intro _; exact (rfl : _ = Result.ok 6 _)) | (intro _; exact (rfl : _ = Result.ok 7 _)) | (intro _; exact (rfl : _ = Result.ok 8 _)) | (intro _; exact (rfl : _ = Result.ok 9 _)) | (intro _; exact (rfl : _ = Result.ok 13 _)) | (intro _; exact (rfl : _ = Result.ok 14 _)) | (intro _; exact (rfl : _ = Result.ok 26 _)) | (intro _; exact (rfl : _ = Result.ok 40 _)) | (intro _; exact (rfl : _ = Result.ok 41 _)) | (intro _; exact (rfl : _ = Result.ok 42 _)) | (intro _; exact (rfl : _ = Result.ok 43 _)) | (intro _; exact (rfl : _ = Result.ok 44 _)) | (intro _; exact (rfl : _ = Result.ok 45 _)) | (intro _; exact (rfl : _ = Result.ok 46 _))); (intro _; exact rfl); exact rfl; exact Nat.le_of_ble_eq_true rfl; exact Nat.le_of_ble_eq_true rfl); skip)
    intro q _
    have hl : R.len + 1 = (R.app (.cons id ext dv data sv subs .nil)).len := T.len_snoc ..
    apply WL_effs
    · exact rfl
    · exact rfl
    · exact rfl
    · apply E_appendRowO (nm := (R.app (.cons id ext dv data sv subs .nil)).len) (all := (R.app (.cons id ext dv data sv subs .nil)).cells)
      · exact rfl
      · exact rfl
      · exact (by repeat' (first | exact Pick.head _ _ | apply Pick.tail))
      · exact (by repeat' (first | exact Pick.head _ _ | apply Pick.tail))
      · exact rfl
      · exact rfl
      · exact rfl
      · exact rfl
      · exact rfl
      · exact Nat.le_of_ble_eq_true rfl
      · (focus (repeat (first | apply Ones.nil | exact Ones.bytes | (apply Ones.cons; (focus (first | (apply OneC.lit; exact rfl) | (apply OneC.by_; (repeat' (first | exact mcs | apply mct)); done) | (apply OneC.sl; (repeat' (first | exact mcs | apply mct)); done) | (apply OneC.rw; (repeat' (first | exact mcs | apply mct)); done) | (apply OneC.row; (repeat' (first | exact Pick.head _ _ | apply Pick.tail)))))))))
      · exact Nat.le_of_ble_eq_true rfl
      · omega
      · exact hl
      · exact T.cells_snoc ..
    intro o2 _
    repeat (first | refine n1 ?_ | refine n2 (fun b _ => ?_) | refine n3 (fun _ _ => ?_) | refine n4 ?_ | refine n5 ?_ | refine WL_nil ?_ | refine W_seq ?_ | refine W_region ?_ | refine n7 ?_ | refine n8 ?_ | refine W_block ?_ | refine W_skip ?_ | refine W_ret ?_ | refine W_exit ?_ | refine WQ_then ?_ | refine WQ_then_ret ?_ | refine WQ_then_exit ?_ | refine WQ_block_normal ?_ | refine WQ_block_ret ?_ | refine WQ_block_exit ?_ | refine n9 ?_)
    refine WQ_ent (ent_tf1 (id := id) (ext := ext) (dv := dv) (data := data) (sv := sv) (subs := subs) (by repeat' (first | exact mcs | apply mct)) (by repeat' (first | exact mcs | apply mct)) (by repeat' (first | exact mcs | apply mct))) (WQ_ent (ent_tfapp (t := R) (u := .cons id ext dv data sv subs .nil) (by repeat' (first | exact mcs | apply mct)) (by repeat' (first | exact mcs | apply mct))) ?_)
    have hkk : k ≤ t.len := by omega
    ((apply WQ_again ((k, o2, R.app (.cons id ext dv data sv subs .nil)))); (focus exact ⟨hkk, hR2⟩); (focus exact Nat.lt_succ_self k); (focus (repeat (first | exact FrIn.nil _ | (apply FrIn.cons; exact rfl; (first | exact rfl | (congr 1; first | omega | (dsimp only; omega)) | (simp; done)))))); (focus (repeat (first | exact SubO.nil _ | (apply SubO.cons; (focus (repeat' (first | exact Pick.head _ _ | apply Pick.tail))))))); (focus (repeat (first | exact AllE.nil _ | (apply AllE.cons; (focus (first | exact ent_nilBy | exact ent_nilSl | (apply Ent.mem; repeat' (first | exact mcs | apply mct)))))))))
  | zero =>
    replace hR : R = revT t := hR
    have hRe : R.er = revF t.er := by rw [hR]; exact rev_er t
    have hsR : C04.Sm R.er := by rw [hRe]; exact rev_sm hsm
    have hEq : fiE (fxReason c) R.er = fiE (fxReason c) t.er := by rw [hRe]; exact rev_fiE _ _
    refine W_letgo (v := o) (by repeat' (first | exact Pick.head _ _ | apply Pick.tail)) ?_
    refine W_ent (ent_slT (v := o) (t := R) (by repeat' (first | exact mcs | apply mct))) ?_
    have e1 := eReason_fn c hc v t hsm
    have e2 := eReason_fn c hc o R hsR
    by_cases k1 : fiE (fxReason c) t.er = 0
    · have k2 := hEq.trans k1
      have y1 := fiY_ok k1
      have y2 := fiY_ok k2
      obtain ⟨b1, b2⟩ := el_back k2
      rw [reason_len] at b1 b2
      have n1_ := reason_nums hc (C04.enc R.er)
      rw [← y2] at n1_
      obtain ⟨l1, l2⟩ := fiE_le k1
      have l3 := (fiE_le k2).2
      rw [reason_len] at l2 l3
      have d1 := dReason_fn
      rw [k1] at e1
      rw [k2] at e2
      have hA : (fiY (fxReason c) t.er).length = 2 + (C04.enc t.er).length := by rw [y1, List.length_append, reason_len]
      have hB : (fiY (fxReason c) R.er).length = 2 + (C04.enc t.er).length := by rw [y2, List.length_append, reason_len, hRe, rev_encl]
      have hcut : ((fiY (fxReason c) t.er).drop 2).take ((fiY (fxReason c) t.er).length - 2) = C04.enc t.er := by
        have : (fiY (fxReason c) t.er).drop 2 = C04.enc t.er := by rw [y1, ← reason_len c, List.drop_left]
        rw [this, List.take_of_length_le (by omega)]
      have hd2 := fun w => dReason_fn w (fiY (fxReason c) R.er) (by omega)
      rw [b1, b2, n1_, z0_ok rfl] at hd2
      have hdq := C04.enc_dec l1
      generalize fiY (fxReason c) t.er = A at *
      generalize fiY (fxReason c) R.er = B at *
      repeat (first | refine n1 ?_ | refine n2 (fun b _ => ?_) | refine n3 (fun _ _ => ?_) | refine n4 ?_ | refine n5 ?_ | refine WL_nil ?_ | refine W_seq ?_ | refine W_region ?_ | refine n7 ?_ | refine n8 ?_ | refine W_block ?_ | refine W_skip ?_ | refine W_ret ?_ | refine W_exit ?_ | refine WQ_then ?_ | refine WQ_then_ret ?_ | refine WQ_then_exit ?_ | refine WQ_block_normal ?_ | refine WQ_block_ret ?_ | refine WQ_block_exit ?_ | refine n9 ?_)
      (apply WL_effs; exact rfl; exact rfl; exact rfl; apply E_call; exact rfl; (intro _ _; simp); exact e1; (repeat (first | exact AllE.nil _ | (apply AllE.cons; (focus (first | exact ent_nilBy | exact ent_nilSl | (apply Ent.mem; repeat' (first | exact mcs | apply mct))))))); (intro _; exact rfl); (intro _; exact rfl))
      intro x1 _
      repeat (first | refine n1 ?_ | refine n2 (fun b _ => ?_) | refine n3 (fun _ _ => ?_) | refine n4 ?_ | refine n5 ?_ | refine WL_nil ?_ | refine W_seq ?_ | refine W_region ?_ | refine n7 ?_ | refine n8 ?_ | refine W_block ?_ | refine W_skip ?_ | refine W_ret ?_ | refine W_exit ?_ | refine WQ_then ?_ | refine WQ_then_ret ?_ | refine WQ_then_exit ?_ | refine WQ_block_normal ?_ | refine WQ_block_ret ?_ | refine WQ_block_exit ?_ | refine n9 ?_)
      (apply WL_effs; exact rfl; exact rfl; exact rfl; apply E_call; exact rfl; (intro _ _; simp); exact e2; (repeat (first | exact AllE.nil _ | (apply AllE.cons; (focus (first | exact ent_nilBy | exact ent_nilSl | (apply Ent.mem; repeat' (first | exact mcs | apply mct))))))); (intro _; exact rfl); (intro _; exact rfl))
      intro x2 _
      repeat (first | refine n1 ?_ | refine n2 (fun b _ => ?_) | refine n3 (fun _ _ => ?_) | refine n4 ?_ | refine n5 ?_ | refine WL_nil ?_ | refine W_seq ?_ | refine W_region ?_ | refine n7 ?_ | refine n8 ?_ | refine W_block ?_ | refine W_skip ?_ | refine W_ret ?_ | refine W_exit ?_ | refine WQ_then ?_ | refine WQ_then_ret ?_ | refine WQ_then_exit ?_ | refine WQ_block_normal ?_ | refine WQ_block_ret ?_ | refine WQ_block_exit ?_ | refine n9 ?_)
      rw [hcut]
      (apply WL_effs; exact rfl; exact rfl; exact rfl; apply E_call; exact rfl; (intro _ _; simp); (exact C04.decode_fn _ (C04.enc t.er) (by omega)); (repeat (first | exact AllE.nil _ | (apply AllE.cons; (focus (first | exact ent_nilBy | exact ent_nilSl | (apply Ent.mem; repeat' (first | exact mcs | apply mct))))))); (intro _; exact rfl); (intro _; exact rfl))
      rintro ⟨o1, t1, f1⟩ ⟨m1, hq1⟩
      replace hq1 : C04.dec (C04.enc t.er).length (C04.enc t.er) 1 0 = (t1.er, m1, f1) := hq1
      rw [hdq] at hq1
      injection hq1 with q1 q2
      injection q2 with q2 q3
      subst q3
      dsimp only
      refine WL_letgo (v := o1) (by repeat' (first | exact Pick.head _ _ | apply Pick.tail)) ?_
      refine WL_ent (ent_slT (v := o1) (t := t1) (by repeat' (first | exact mcs | apply mct))) ?_
      refine WL_tree (by repeat' (first | exact Pick.head _ _ | apply Pick.tail)) (by repeat' (first | exact mcs | apply mct)) ?_
      repeat (first | refine n1 ?_ | refine n2 (fun b _ => ?_) | refine n3 (fun _ _ => ?_) | refine n4 ?_ | refine n5 ?_ | refine WL_nil ?_ | refine W_seq ?_ | refine W_region ?_ | refine n7 ?_ | refine n8 ?_ | refine W_block ?_ | refine W_skip ?_ | refine W_ret ?_ | refine W_exit ?_ | refine WQ_then ?_ | refine WQ_then_ret ?_ | refine WQ_then_exit ?_ | refine WQ_block_normal ?_ | refine WQ_block_ret ?_ | refine WQ_block_exit ?_ | refine n9 ?_)
      (apply WL_effs; exact rfl; exact rfl; exact rfl; apply E_call; exact rfl; (intro _ _; simp); exact hd2 x2; (repeat (first | exact AllE.nil _ | (apply AllE.cons; (focus (first | exact ent_nilBy | exact ent_nilSl | (apply Ent.mem; repeat' (first | exact mcs | apply mct))))))); (intro _; exact rfl); (intro _; exact rfl))
      rintro ⟨o3, t3⟩ ht3
      replace ht3 : t3.er = R.er := ht3
      have c1 := relem_fn t1 t o1 v
      have c2 := relem_fn t3 R o3 o
      rw [decide_eq_true q1.symm] at c1
      rw [decide_eq_true ht3] at c2
      dsimp only
      repeat (first | refine n1 ?_ | refine n2 (fun b _ => ?_) | refine n3 (fun _ _ => ?_) | refine n4 ?_ | refine n5 ?_ | refine n6 (c1) ?_ | refine n6 (c2) ?_ | refine n6v (c1) ?_ | refine n6v (c2) ?_ | refine WL_nil ?_ | refine W_seq ?_ | refine W_region ?_ | refine n7 ?_ | refine n8 ?_ | refine W_block ?_ | refine W_skip ?_ | refine W_ret ?_ | refine W_exit ?_ | refine WQ_then ?_ | refine WQ_then_ret ?_ | refine WQ_then_exit ?_ | refine WQ_block_normal ?_ | refine WQ_block_ret ?_ | refine WQ_block_exit ?_ | refine n9 ?_)
      ((apply ret1 Try.results6 ( ())); (focus (first | trivial | assumption | omega)); (focus (first | exact RV_tmp rfl | (apply RV_cellN; exact rfl; (repeat' (first | exact Pick.head _ _ | apply Pick.tail)); (intro _; exact rfl); (intro _; exact rfl); exact rfl) | (apply RV_cell1; exact rfl; (repeat' (first | exact Pick.head _ _ | apply Pick.tail)); (intro _; exact rfl); exact rfl)));  (focus (first | exact rfl | (simp; done))); (focus (repeat (first | exact SubO.nil _ | (apply SubO.cons; (focus (repeat' (first | exact Pick.head _ _ | apply Pick.tail))))))); (focus (repeat (first | exact AllE.nil _ | (apply AllE.cons; (focus (first | exact ent_nilBy | exact ent_nilSl | (apply Ent.mem; repeat' (first | exact mcs | apply mct)))))))))
    · rw [hEq] at e2
      generalize fiE (fxReason c) t.er = e at *
      repeat (first | refine n1 ?_ | refine n2 (fun b _ => ?_) | refine n3 (fun _ _ => ?_) | refine n4 ?_ | refine n5 ?_ | refine WL_nil ?_ | refine W_seq ?_ | refine W_region ?_ | refine n7 ?_ | refine n8 ?_ | refine W_block ?_ | refine W_skip ?_ | refine W_ret ?_ | refine W_exit ?_ | refine WQ_then ?_ | refine WQ_then_ret ?_ | refine WQ_then_exit ?_ | refine WQ_block_normal ?_ | refine WQ_block_ret ?_ | refine WQ_block_exit ?_ | refine n9 ?_)
      (apply WL_effs; exact rfl; exact rfl; exact rfl; apply E_call; exact rfl; (intro _ _; simp); exact e1; (repeat (first | exact AllE.nil _ | (apply AllE.cons; (focus (first | exact ent_nilBy | exact ent_nilSl | (apply Ent.mem; repeat' (first | exact mcs | apply mct))))))); (intro _; exact rfl); (intro _; exact rfl))
      intro x1 _
      repeat (first | refine n1 ?_ | refine n2 (fun b _ => ?_) | refine n3 (fun _ _ => ?_) | refine n4 ?_ | refine n5 ?_ | refine WL_nil ?_ | refine W_seq ?_ | refine W_region ?_ | refine n7 ?_ | refine n8 ?_ | refine W_block ?_ | refine W_skip ?_ | refine W_ret ?_ | refine W_exit ?_ | refine WQ_then ?_ | refine WQ_then_ret ?_ | refine WQ_then_exit ?_ | refine WQ_block_normal ?_ | refine WQ_block_ret ?_ | refine WQ_block_exit ?_ | refine n9 ?_)
      (apply WL_effs; exact rfl; exact rfl; exact rfl; apply E_call; exact rfl; (intro _ _; simp); exact e2; (repeat (first | exact AllE.nil _ | (apply AllE.cons; (focus (first | exact ent_nilBy | exact ent_nilSl | (apply Ent.mem; repeat' (first | exact mcs | apply mct))))))); (intro _; exact rfl); (intro _; exact rfl))
      intro x2 _
      repeat (first | refine n1 ?_ | refine n2 (fun b _ => ?_) | refine n3 (fun _ _ => ?_) | refine n4 ?_ | refine n5 ?_ | refine WL_nil ?_ | refine W_seq ?_ | refine W_region ?_ | refine n7 ?_ | refine n8 ?_ | refine W_block ?_ | refine W_skip ?_ | refine W_ret ?_ | refine W_exit ?_ | refine WQ_then ?_ | refine WQ_then_ret ?_ | refine WQ_then_exit ?_ | refine WQ_block_normal ?_ | refine WQ_block_ret ?_ | refine WQ_block_exit ?_ | refine n9 ?_)
      ((apply ret1 Try.results6 ( ())); (focus (first | trivial | assumption | omega)); (focus (first | exact RV_tmp rfl | (apply RV_cellN; exact rfl; (repeat' (first | exact Pick.head _ _ | apply Pick.tail)); (intro _; exact rfl); (intro _; exact rfl); exact rfl) | (apply RV_cell1; exact rfl; (repeat' (first | exact Pick.head _ _ | apply Pick.tail)); (intro _; exact rfl); exact rfl)));  (focus (first | exact rfl | (simp; done))); (focus (repeat (first | exact SubO.nil _ | (apply SubO.cons; (focus (repeat' (first | exact Pick.head _ _ | apply Pick.tail))))))); (focus (repeat (first | exact AllE.nil _ | (apply AllE.cons; (focus (first | exact ent_nilBy | exact ent_nilSl | (apply Ent.mem; repeat' (first | exact mcs | apply mct)))))))))
end Go.Proofs.Ytoohgnegoaoleaa
