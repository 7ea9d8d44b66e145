/-
  The law 'ElementBack' walked.
-/
import Derived.Test.YtahkcidnmdcaaaaEw
namespace Go.Proofs.Ytahkcidnmdcaaaa
open Go Go.RowKit Go.Hs
attribute [local irreducible] WL W WQ PL Runs Effs AllE Ent SubO FrIn Pick OneC Ones CellsE PartsE SeqE UZ By Sl Pt Ct

set_option maxRecDepth 100000 in
set_option maxHeartbeats 16000000 in
theorem backLaw_fn (t : T) (v bv : Value) (bs : List UInt8) : CtD Try.prog 4 [v, bv] [Rw 4 v t.len t.at_, t.tf, By bv bs] (.bool true) := by
  have hal := alive_fn
  refine Ct_intro Try.func4 rfl Try.ntmps4 (by simp) _ rfl (fun w0 O0 => ?_)
  repeat (first | refine n1 ?_ | refine n2 (fun b _ => ?_) | refine n3 (fun _ _ => ?_) | refine n4 ?_ | refine n5 ?_ | refine n6 (hal) ?_ | refine n6v (hal) ?_ | refine WL_nil ?_ | refine W_seq ?_ | refine W_region ?_ | refine n7 ?_ | refine n8 ?_ | refine W_block ?_ | refine W_skip ?_ | refine W_ret ?_ | refine W_exit ?_ | refine WQ_then ?_ | refine WQ_then_ret ?_ | refine WQ_then_exit ?_ | refine WQ_block_normal ?_ | refine WQ_block_ret ?_ | refine WQ_block_exit ?_ | refine n9 ?_)
  (apply WL_effs; exact rfl; exact rfl; exact rfl; apply E_call; exact rfl; (intro _ _; simp); exact great_fn t v; (repeat (first | exact AllE.nil _ | (apply AllE.cons; (focus (first | exact ent_nilBy | exact ent_nilSl | (apply Ent.mem; repeat' (first | exact mcs | apply mct))))))); (intro _; exact rfl); (intro _; exact rfl))
  intro gr hgr
  cases gr with
  | true =>
    repeat (first | refine n1 ?_ | refine n2 (fun b _ => ?_) | refine n3 (fun _ _ => ?_) | refine n4 ?_ | refine n5 ?_ | refine WL_nil ?_ | refine W_seq ?_ | refine W_region ?_ | refine n7 ?_ | refine n8 ?_ | refine W_block ?_ | refine W_skip ?_ | refine W_ret ?_ | refine W_exit ?_ | refine WQ_then ?_ | refine WQ_then_ret ?_ | refine WQ_then_exit ?_ | refine WQ_block_normal ?_ | refine WQ_block_ret ?_ | refine WQ_block_exit ?_ | refine n9 ?_)
    ((apply ret1 Try.results4 ( ())); (focus (first | trivial | assumption | omega)); (focus (first | exact RV_tmp rfl | (apply RV_cellN; exact rfl; (repeat' (first | exact Pick.head _ _ | apply Pick.tail)); (intro _; exact rfl); (intro _; exact rfl); exact rfl) | (apply RV_cell1; exact rfl; (repeat' (first | exact Pick.head _ _ | apply Pick.tail)); (intro _; exact rfl); exact rfl)));  (focus (first | exact rfl | (simp; done))); (focus (repeat (first | exact SubO.nil _ | (apply SubO.cons; (focus (repeat' (first | exact Pick.head _ _ | apply Pick.tail))))))); (focus (repeat (first | exact AllE.nil _ | (apply AllE.cons; (focus (first | exact ent_nilBy | exact ent_nilSl | (apply Ent.mem; repeat' (first | exact mcs | apply mct)))))))))
  | false =>
    have hsm := (hgr rfl).1
    have hEl := encE_le hsm
    by_cases c1 : (20000 : Int) < bs.length
    · repeat (first | refine n1 ?_ | refine n2 (fun b _ => ?_) | refine n3 (fun _ _ => ?_) | refine n4 ?_ | refine n5 ?_ | refine WL_nil ?_ | refine W_seq ?_ | refine W_region ?_ | refine n7 ?_ | refine n8 ?_ | refine W_block ?_ | refine W_skip ?_ | refine W_ret ?_ | refine W_exit ?_ | refine WQ_then ?_ | refine WQ_then_ret ?_ | refine WQ_then_exit ?_ | refine WQ_block_normal ?_ | refine WQ_block_ret ?_ | refine WQ_block_exit ?_ | refine n9 ?_)
      ((apply ret1 Try.results4 ( ())); (focus (first | trivial | assumption | omega)); (focus (first | exact RV_tmp rfl | (apply RV_cellN; exact rfl; (repeat' (first | exact Pick.head _ _ | apply Pick.tail)); (intro _; exact rfl); (intro _; exact rfl); exact rfl) | (apply RV_cell1; exact rfl; (repeat' (first | exact Pick.head _ _ | apply Pick.tail)); (intro _; exact rfl); exact rfl)));  (focus (first | exact rfl | (simp; done))); (focus (repeat (first | exact SubO.nil _ | (apply SubO.cons; (focus (repeat' (first | exact Pick.head _ _ | apply Pick.tail))))))); (focus (repeat (first | exact AllE.nil _ | (apply AllE.cons; (focus (first | exact ent_nilBy | exact ent_nilSl | (apply Ent.mem; repeat' (first | exact mcs | apply mct)))))))))
    · repeat (first | refine n1 ?_ | refine n2 (fun b _ => ?_) | refine n3 (fun _ _ => ?_) | refine n4 ?_ | refine n5 ?_ | refine WL_nil ?_ | refine W_seq ?_ | refine W_region ?_ | refine n7 ?_ | refine n8 ?_ | refine W_block ?_ | refine W_skip ?_ | refine W_ret ?_ | refine W_exit ?_ | refine WQ_then ?_ | refine WQ_then_ret ?_ | refine WQ_then_exit ?_ | refine WQ_block_normal ?_ | refine WQ_block_ret ?_ | refine WQ_block_exit ?_ | refine n9 ?_)
      (apply WL_effs; exact rfl; exact rfl; exact rfl; apply E_call; exact rfl; (intro _ _; simp); exact encode_fn t v hsm; (repeat (first | exact AllE.nil _ | (apply AllE.cons; (focus (first | exact ent_nilBy | exact ent_nilSl | (apply Ent.mem; repeat' (first | exact mcs | apply mct))))))); (intro _; exact rfl); (intro _; exact rfl))
      intro c _
      repeat (first | refine n1 ?_ | refine n2 (fun b _ => ?_) | refine n3 (fun _ _ => ?_) | refine n4 ?_ | refine n5 ?_ | refine WL_nil ?_ | refine W_seq ?_ | refine W_region ?_ | refine n7 ?_ | refine n8 ?_ | refine W_block ?_ | refine W_skip ?_ | refine W_ret ?_ | refine W_exit ?_ | refine WQ_then ?_ | refine WQ_then_ret ?_ | refine WQ_then_exit ?_ | refine WQ_block_normal ?_ | refine WQ_block_ret ?_ | refine WQ_block_exit ?_ | refine n9 ?_)
      (apply WL_effs; exact rfl; exact rfl; exact rfl; apply E_call; exact rfl; (intro _ _; simp); (exact decode_fn c (encE t.er) (by omega)); (repeat (first | exact AllE.nil _ | (apply AllE.cons; (focus (first | exact ent_nilBy | exact ent_nilSl | (apply Ent.mem; repeat' (first | exact mcs | apply mct))))))); (intro _; exact rfl); (intro _; exact rfl))
      rintro ⟨o, t1, e1⟩ ⟨m1, hq1⟩
      replace hq1 : dec (encE t.er).length (encE t.er) 1 0 = (t1.er, m1, e1) := hq1
      dsimp only
      refine WL_letgo (v := o) (by repeat' (first | exact Pick.head _ _ | apply Pick.tail)) ?_
      refine WL_ent (ent_slT (v := o) (t := t1) (by repeat' (first | exact mcs | apply mct))) ?_
      refine WL_tree (by repeat' (first | exact Pick.head _ _ | apply Pick.tail)) (by repeat' (first | exact mcs | apply mct)) ?_
      iterate 7 (first | refine n1 ?_ | refine n2 (fun b _ => ?_) | refine n3 (fun _ _ => ?_) | refine n4 ?_ | refine n5 ?_ | refine WL_nil ?_ | refine W_seq ?_ | refine W_region ?_ | refine n7 ?_ | refine n8 ?_ | refine W_block ?_ | refine W_skip ?_ | refine W_ret ?_ | refine W_exit ?_ | refine WQ_then ?_ | refine WQ_then_ret ?_ | refine WQ_then_exit ?_ | refine WQ_block_normal ?_ | refine WQ_block_ret ?_ | refine WQ_block_exit ?_ | refine n9 ?_)
      ((apply W_cutK (X := Unit) [] [] (fun _ => True) (fun _ => []) (fun _ => []) (fun _ => [])); exact rfl; exact rfl; (intro _; exact rfl); (intro _; exact rfl); (intro _; exact rfl))
      · by_cases c2 : chk t.er = 0
        · rw [encE_ok c2, enc_dec c2] at hq1
          injection hq1 with q1 q2
          injection q2 with q2 q3
          subst q3
          have hs := rsame_fn (t.size + 1) t t1 v o (Nat.lt_succ_self _)
          rw [decide_eq_true q1] at hs
          rw [c2]
          repeat (first | refine n1 ?_ | refine n2 (fun b _ => ?_) | refine n3 (fun _ _ => ?_) | refine n4 ?_ | refine n5 ?_ | refine n6 (hs) ?_ | refine n6v (hs) ?_ | refine WL_nil ?_ | refine W_seq ?_ | refine W_region ?_ | refine n7 ?_ | refine n8 ?_ | refine W_block ?_ | refine W_skip ?_ | refine W_ret ?_ | refine W_exit ?_ | refine WQ_then ?_ | refine WQ_then_ret ?_ | refine WQ_then_exit ?_ | refine WQ_block_normal ?_ | refine WQ_block_ret ?_ | refine WQ_block_exit ?_ | refine n9 ?_)
          ((apply WQ_meet (())); (focus (first | trivial | omega | assumption | exact ⟨by omega, by omega⟩ | (simp; done))); (focus (repeat (first | exact FrIn.nil _ | (apply FrIn.cons; exact rfl; (first | exact rfl | (congr 1; omega) | (simp; done)))))); (focus (repeat (first | exact SubO.nil _ | (apply SubO.cons; (focus (repeat' (first | exact Pick.head _ _ | apply Pick.tail))))))); (focus (repeat (first | exact AllE.nil _ | (apply AllE.cons; (focus (first | exact ent_nilBy | exact ent_nilSl | (apply Ent.mem; repeat' (first | exact mcs | apply mct)))))))))
        · repeat (first | refine n1 ?_ | refine n2 (fun b _ => ?_) | refine n3 (fun _ _ => ?_) | refine n4 ?_ | refine n5 ?_ | refine WL_nil ?_ | refine W_seq ?_ | refine W_region ?_ | refine n7 ?_ | refine n8 ?_ | refine W_block ?_ | refine W_skip ?_ | refine W_ret ?_ | refine W_exit ?_ | refine WQ_then ?_ | refine WQ_then_ret ?_ | refine WQ_then_exit ?_ | refine WQ_block_normal ?_ | refine WQ_block_ret ?_ | refine WQ_block_exit ?_ | refine n9 ?_)
          ((apply WQ_meet (())); (focus (first | trivial | omega | assumption | exact ⟨by omega, by omega⟩ | (simp; done))); (focus (repeat (first | exact FrIn.nil _ | (apply FrIn.cons; exact rfl; (first | exact rfl | (congr 1; omega) | (simp; done)))))); (focus (repeat (first | exact SubO.nil _ | (apply SubO.cons; (focus (repeat' (first | exact Pick.head _ _ | apply Pick.tail))))))); (focus (repeat (first | exact AllE.nil _ | (apply AllE.cons; (focus (first | exact ent_nilBy | exact ent_nilSl | (apply Ent.mem; repeat' (first | exact mcs | apply mct)))))))))
      · intro _ _
        repeat (first | refine n1 ?_ | refine n2 (fun b _ => ?_) | refine n3 (fun _ _ => ?_) | refine n4 ?_ | refine n5 ?_ | refine WL_nil ?_ | refine W_seq ?_ | refine W_region ?_ | refine n7 ?_ | refine n8 ?_ | refine W_block ?_ | refine W_skip ?_ | refine W_ret ?_ | refine W_exit ?_ | refine WQ_then ?_ | refine WQ_then_ret ?_ | refine WQ_then_exit ?_ | refine WQ_block_normal ?_ | refine WQ_block_ret ?_ | refine WQ_block_exit ?_ | refine n9 ?_)
        (apply WL_effs; exact rfl; exact rfl; exact rfl; apply E_call; exact rfl; (intro _ _; simp); (exact decode_fn bv bs (by omega)); (repeat (first | exact AllE.nil _ | (apply AllE.cons; (focus (first | exact ent_nilBy | exact ent_nilSl | (apply Ent.mem; repeat' (first | exact mcs | apply mct))))))); (intro _; exact rfl); (intro _; exact rfl))
        rintro ⟨o2, t2, e2⟩ ⟨m2, hq2⟩
        replace hq2 : dec bs.length bs 1 0 = (t2.er, m2, e2) := hq2
        dsimp only
        refine WL_letgo (v := o2) (by repeat' (first | exact Pick.head _ _ | apply Pick.tail)) ?_
        refine WL_ent (ent_slT (v := o2) (t := t2) (by repeat' (first | exact mcs | apply mct))) ?_
        refine WL_tree (by repeat' (first | exact Pick.head _ _ | apply Pick.tail)) (by repeat' (first | exact mcs | apply mct)) ?_
        by_cases c3 : e2 = 0
        · subst c3
          obtain ⟨d1, d2⟩ := dec_ok hq2
          have hsm2 : Sm t2.er := chk_sm d2 (by rw [d1]; omega)
          have hen := encode_fn t2 o2 hsm2
          rw [encE_ok d2, d1, d2] at hen
          repeat (first | refine n1 ?_ | refine n2 (fun b _ => ?_) | refine n3 (fun _ _ => ?_) | refine n4 ?_ | refine n5 ?_ | refine WL_nil ?_ | refine W_seq ?_ | refine W_region ?_ | refine n7 ?_ | refine n8 ?_ | refine W_block ?_ | refine W_skip ?_ | refine W_ret ?_ | refine W_exit ?_ | refine WQ_then ?_ | refine WQ_then_ret ?_ | refine WQ_then_exit ?_ | refine WQ_block_normal ?_ | refine WQ_block_ret ?_ | refine WQ_block_exit ?_ | refine n9 ?_)
          (apply WL_effs; exact rfl; exact rfl; exact rfl; apply E_call; exact rfl; (intro _ _; simp); exact hen; (repeat (first | exact AllE.nil _ | (apply AllE.cons; (focus (first | exact ent_nilBy | exact ent_nilSl | (apply Ent.mem; repeat' (first | exact mcs | apply mct))))))); (intro _; exact rfl); (intro _; exact rfl))
          intro x _
          repeat (first | refine n1 ?_ | refine n2 (fun b _ => ?_) | refine n3 (fun _ _ => ?_) | refine n4 ?_ | refine n5 ?_ | refine WL_nil ?_ | refine W_seq ?_ | refine W_region ?_ | refine n7 ?_ | refine n8 ?_ | refine W_block ?_ | refine W_skip ?_ | refine W_ret ?_ | refine W_exit ?_ | refine WQ_then ?_ | refine WQ_then_ret ?_ | refine WQ_then_exit ?_ | refine WQ_block_normal ?_ | refine WQ_block_ret ?_ | refine WQ_block_exit ?_ | refine n9 ?_)
          ((apply ret1 Try.results4 ( ())); (focus (first | trivial | assumption | omega)); (focus (first | exact RV_tmp rfl | (apply RV_cellN; exact rfl; (repeat' (first | exact Pick.head _ _ | apply Pick.tail)); (intro _; exact rfl); (intro _; exact rfl); exact rfl) | (apply RV_cell1; exact rfl; (repeat' (first | exact Pick.head _ _ | apply Pick.tail)); (intro _; exact rfl); exact rfl)));  (focus (first | exact rfl | (simp; done))); (focus (repeat (first | exact SubO.nil _ | (apply SubO.cons; (focus (repeat' (first | exact Pick.head _ _ | apply Pick.tail))))))); (focus (repeat (first | exact AllE.nil _ | (apply AllE.cons; (focus (first | exact ent_nilBy | exact ent_nilSl | (apply Ent.mem; repeat' (first | exact mcs | apply mct)))))))))
        · have d1 := dec_err bs.length bs 1 0 (by rw [hq2]; exact c3)
          rw [hq2] at d1
          have d2 := er_nil d1
          subst d2
          repeat (first | refine n1 ?_ | refine n2 (fun b _ => ?_) | refine n3 (fun _ _ => ?_) | refine n4 ?_ | refine n5 ?_ | refine WL_nil ?_ | refine W_seq ?_ | refine W_region ?_ | refine n7 ?_ | refine n8 ?_ | refine W_block ?_ | refine W_skip ?_ | refine W_ret ?_ | refine W_exit ?_ | refine WQ_then ?_ | refine WQ_then_ret ?_ | refine WQ_then_exit ?_ | refine WQ_block_normal ?_ | refine WQ_block_ret ?_ | refine WQ_block_exit ?_ | refine n9 ?_)
          ((apply ret1 Try.results4 ( ())); (focus (first | trivial | assumption | omega)); (focus (first | exact RV_tmp rfl | (apply RV_cellN; exact rfl; (repeat' (first | exact Pick.head _ _ | apply Pick.tail)); (intro _; exact rfl); (intro _; exact rfl); exact rfl) | (apply RV_cell1; exact rfl; (repeat' (first | exact Pick.head _ _ | apply Pick.tail)); (intro _; exact rfl); exact rfl)));  (focus (first | exact rfl | (simp; done))); (focus (repeat (first | exact SubO.nil _ | (apply SubO.cons; (focus (repeat' (first | exact Pick.head _ _ | apply Pick.tail))))))); (focus (repeat (first | exact AllE.nil _ | (apply AllE.cons; (focus (first | exact ent_nilBy | exact ent_nilSl | (apply Ent.mem; repeat' (first | exact mcs | apply mct)))))))))
end Go.Proofs.Ytahkcidnmdcaaaa
