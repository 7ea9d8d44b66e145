/-
  Bodies of all kinds compared.
-/
import Derived.Test.YtoohgnegoaoleaaVBo
import Derived.Test.YtoohgnegoaoleaaVBm
namespace Go.Proofs.Ytoohgnegoaoleaa
open Go Go.RowKit Go.Hs
attribute [local irreducible] WL W WQ PL Runs Effs AllE Ent SubO FrIn Pick OneC Ones CellsE PartsE SeqE UZ By Sl Pt Ct

set_option maxRecDepth 100000 in
set_option maxHeartbeats 16000000 in
theorem equal_fn (a : All6) (wa : a.w) (wi : a.wi) (v1 v2 v3 v4 v5 v6 : Value) (t1 t2 t3 t4 t5 : T) (h1 : a.bt.er = t1.er) (h2 : a.at_.er = t2.er) (h3 : a.rt.er = t3.er) (h4 : a.pt.er = t4.er) (h5 : a.nt.er = t5.er) (g : Bool) :
    CtD Try.prog 45 [a.val, { a with bv := v1, bt := t1, av := v2, at_ := t2, rv := v3, rt := t3, ag := g, pv := v4, pt := t4, nv := v5, nt := t5, cv := v6 : All6 }.val] (a.facts ++ { a with bv := v1, bt := t1, av := v2, at_ := t2, rv := v3, rt := t3, ag := g, pv := v4, pt := t4, nv := v5, nt := t5, cv := v6 : All6 }.facts) (.bool true) := by
  have e1 := relem_fn a.bt t1 a.bv v1
  have e2 := relem_fn a.at_ t2 a.av v2
  have e3 := relem_fn a.rt t3 a.rv v3
  have e4 := relem_fn a.pt t4 a.pv v4
  have e5 := relem_fn a.nt t5 a.nv v5
  rw [decide_eq_true h1] at e1
  rw [decide_eq_true h2] at e2
  rw [decide_eq_true h3] at e3
  rw [decide_eq_true h4] at e4
  rw [decide_eq_true h5] at e5
  simp only [List.cons_append, List.nil_append, All6.val, All6.cells, All6.facts]
  obtain ⟨w1, w2, w3, w4, w5⟩ := wi
  have w6 := wa.2.2.2.2.2.2.2.2.2.2.2
  have q1 := bar_lits a.t0 a.t1 w2 w3
  have q2 := back_lits a.k0 a.k1 a.kb w4 w5 w6
  refine Ct_intro Try.func45 rfl Try.ntmps45 (by simp) _ rfl (fun w0 O0 => ?_)
  repeat (first | refine n1 ?_ | refine n2 (fun b _ => ?_) | refine n3 (fun _ _ => ?_) | refine n4 ?_ | refine n5 ?_ | refine n6 (e1) ?_ | refine n6 (e2) ?_ | refine n6 (e3) ?_ | refine n6 (e4) ?_ | refine n6 (e5) ?_ | refine n6v (e1) ?_ | refine n6v (e2) ?_ | refine n6v (e3) ?_ | refine n6v (e4) ?_ | refine n6v (e5) ?_ | refine WL_nil ?_ | refine W_seq ?_ | refine W_region ?_ | refine n7 ?_ | refine n8 ?_ | refine W_block ?_ | refine W_skip ?_ | refine W_ret ?_ | refine W_exit ?_ | refine WQ_then ?_ | refine WQ_then_ret ?_ | refine WQ_then_exit ?_ | refine WQ_block_normal ?_ | refine WQ_block_ret ?_ | refine WQ_block_exit ?_ | refine n9 ?_)
  refine WL_runs rfl rfl rfl (R_eqG (cs := [.int .i64 a.t0, .int .i64 a.t1]) (ds := [.int .i64 a.t0, .int .i64 a.t1]) (m := 3) rfl rfl (by kernel_rfl) rfl (by kernel_rfl) (by kernel_rfl) (by kernel_rfl) q1 q1 (bar_eq a.t0 a.t1 a.t0 a.t1) rfl) ?_
  rw [decide_eq_true (show a.t0 = a.t0 ∧ a.t1 = a.t1 from ⟨rfl, rfl⟩)]
  repeat (first | refine n1 ?_ | refine n2 (fun b _ => ?_) | refine n3 (fun _ _ => ?_) | refine n4 ?_ | refine n5 ?_ | refine WL_nil ?_ | refine W_seq ?_ | refine W_region ?_ | refine n7 ?_ | refine n8 ?_ | refine W_block ?_ | refine W_skip ?_ | refine W_ret ?_ | refine W_exit ?_ | refine WQ_then ?_ | refine WQ_then_ret ?_ | refine WQ_then_exit ?_ | refine WQ_block_normal ?_ | refine WQ_block_ret ?_ | refine WQ_block_exit ?_ | refine n9 ?_)
  refine WL_runs rfl rfl rfl (R_eqG (cs := [.int .i64 a.k0, .int .i64 a.k1, .int .u64 (a.kb : Int)]) (ds := [.int .i64 a.k0, .int .i64 a.k1, .int .u64 (a.kb : Int)]) (m := 3) rfl rfl (by kernel_rfl) rfl (by kernel_rfl) (by kernel_rfl) (by kernel_rfl) q2 q2 (back_eq a.k0 a.k1 a.k0 a.k1 a.kb a.kb) rfl) ?_
  rw [decide_eq_true (show a.k0 = a.k0 ∧ a.k1 = a.k1 ∧ a.kb = a.kb from ⟨rfl, rfl, rfl⟩)]
  repeat (first | refine n1 ?_ | refine n2 (fun b _ => ?_) | refine n3 (fun _ _ => ?_) | refine n4 ?_ | refine n5 ?_ | refine WL_nil ?_ | refine W_seq ?_ | refine W_region ?_ | refine n7 ?_ | refine n8 ?_ | refine W_block ?_ | refine W_skip ?_ | refine W_ret ?_ | refine W_exit ?_ | refine WQ_then ?_ | refine WQ_then_ret ?_ | refine WQ_then_exit ?_ | refine WQ_block_normal ?_ | refine WQ_block_ret ?_ | refine WQ_block_exit ?_ | refine n9 ?_)
  ((apply ret1 Try.results45 ( ())); (focus (first | trivial | assumption | omega)); (focus (first | exact RV_tmp rfl | (apply RV_cellN; exact rfl; (repeat' (first | exact Pick.head _ _ | apply Pick.tail)); (intro _; exact rfl); (intro _; exact rfl); exact rfl) | (apply RV_cell1; exact rfl; (repeat' (first | exact Pick.head _ _ | apply Pick.tail)); (intro _; exact rfl); exact rfl)));  (focus (first | exact rfl | (simp; done))); (focus (repeat (first | exact SubO.nil _ | (apply SubO.cons; (focus (repeat' (first | exact Pick.head _ _ | apply Pick.tail))))))); (focus (repeat (first | exact AllE.nil _ | (apply AllE.cons; (focus (first | exact ent_nilBy | exact ent_nilSl | (apply Ent.mem; repeat' (first | exact mcs | apply mct)))))))))
end Go.Proofs.Ytoohgnegoaoleaa
