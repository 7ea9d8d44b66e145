/-
  Items, and the frames that are made of them.
-/
import Derived.Test.YteojehocflbgdaaDoorXe
import Derived.Test.YteojehocflbgdaaDoorXg
import Derived.Test.YteojehocflbgdaaDoorVVa
namespace Go.Proofs.YteojehocflbgdaaDoor
open Go Go.RowKit Go.Hs C05 C08 C08d
structure It where
  head : Hd
  pv : Value
  pks : List PK
def it0 : It := ⟨h0_, .slice none 0 0, []⟩
@[reducible] def It.cells (f : It) : List Value := [bcell f.head.kind, bcell f.head.sub, .bool f.head.toDs, .bool f.head.fromDs, .bool f.head.more, .bool f.head.retry, .bool f.head.sleep, .bool f.head.md, .bool f.head.prot, .int .i64 f.head.dur, bcell f.head.a1.a0, bcell f.head.a1.a1, bcell f.head.a1.a2, bcell f.head.a1.a3, bcell f.head.a1.a4, bcell f.head.a1.a5, bcell f.head.a2.a0, bcell f.head.a2.a1, bcell f.head.a2.a2, bcell f.head.a2.a3, bcell f.head.a2.a4, bcell f.head.a2.a5, bcell f.head.a3.a0, bcell f.head.a3.a1, bcell f.head.a3.a2, bcell f.head.a3.a3, bcell f.head.a3.a4, bcell f.head.a3.a5, bcell f.head.a4.a0, bcell f.head.a4.a1, bcell f.head.a4.a2, bcell f.head.a4.a3, bcell f.head.a4.a4, bcell f.head.a4.a5, .int .i64 f.head.seq, .int .i64 f.head.frag, .int .i64 f.head.tid, bcell f.head.ack, .bool f.head.amsdu, .bool f.head.eosp, f.pv]
@[reducible] def It.val (f : It) : Value := .agg f.cells.toArray
def It.body (x : It) : List UInt8 := if x.head.amsdu = true then (jkE x.pks).1 else if 0 < x.pks.length then (x.pks.getD 0 pk0).data else []
def It.ok (x : It) : Bool := if x.head.amsdu = true then decide ((jkE x.pks).2 = 0) else true
attribute [local irreducible] WL W WQ PL Runs Effs AllE Ent SubO FrIn Pick OneC Ones CellsE PartsE SeqE UZ By Sl Pt Ct

set_option maxRecDepth 100000 in
set_option maxHeartbeats 8000000 in
theorem frameOf_fn (x : It) : Ct Tryd.prog 5 [x.val] [] [Rw 13 x.pv x.pks.length (fun i => (x.pks.getD i pk0).cells), Al x.pks.length (fun i => By (x.pks.getD i pk0).dv (x.pks.getD i pk0).data)]
    (X := Value) (fun _ => True) (fun o => .tuple #[(⟨x.head, o, x.body⟩ : Fm).val, .bool x.head.amsdu, .bool x.ok]) (fun _ => []) (fun o => [By o x.body]) := by
  obtain ⟨⟨kind, sub, toDs, fromDs, more, retry, sleep, md, prot, dur, a1, a2, a3, a4, seq, frag, tid, ack, amsdu, eosp⟩, pv, pks⟩ := x
  cases amsdu with
  | true =>
    refine Ct_intro Tryd.func5 rfl Tryd.ntmps5 (by simp) _ rfl (fun w0 O0 => ?_)
    repeat (first | refine n1 ?_ | refine n2 (fun b _ => ?_) | refine n3 (fun _ _ => ?_) | refine n4 ?_ | refine n5 ?_ | refine WL_nil ?_ | refine W_seq ?_ | refine W_region ?_ | refine n7 ?_ | refine n8 ?_ | refine W_block ?_ | refine W_skip ?_ | refine W_ret ?_ | refine W_exit ?_ | refine WQ_then ?_ | refine WQ_then_ret ?_ | refine WQ_then_exit ?_ | refine WQ_block_normal ?_ | refine WQ_block_ret ?_ | refine WQ_block_exit ?_ | refine n9 ?_)
    (apply WL_effs; exact rfl; exact rfl; exact rfl; apply E_call; exact rfl; (intro _ _; simp); exact packL_fn pv pks; (repeat (first | exact AllE.nil _ | (apply AllE.cons; (focus (first | exact ent_nilBy | exact ent_nilSl | (apply Ent.mem; repeat' (first | exact mcs | apply mct))))))); (intro _; exact rfl); (intro _; exact rfl))
    intro o _
    repeat (first | refine n1 ?_ | refine n2 (fun b _ => ?_) | refine n3 (fun _ _ => ?_) | refine n4 ?_ | refine n5 ?_ | refine WL_nil ?_ | refine W_seq ?_ | refine W_region ?_ | refine n7 ?_ | refine n8 ?_ | refine W_block ?_ | refine W_skip ?_ | refine W_ret ?_ | refine W_exit ?_ | refine WQ_then ?_ | refine WQ_then_ret ?_ | refine WQ_then_exit ?_ | refine WQ_block_normal ?_ | refine WQ_block_ret ?_ | refine WQ_block_exit ?_ | refine n9 ?_)
    ((apply ret3 Tryd.results5 ( o)); (focus (first | trivial | assumption | omega)); (focus (first | exact RV_tmp rfl | (apply RV_cellN; exact rfl; (repeat' (first | exact Pick.head _ _ | apply Pick.tail)); (intro _; exact rfl); (intro _; exact rfl); exact rfl) | (apply RV_cell1; exact rfl; (repeat' (first | exact Pick.head _ _ | apply Pick.tail)); (intro _; exact rfl); exact rfl))); (focus (first | exact RV_tmp rfl | (apply RV_cellN; exact rfl; (repeat' (first | exact Pick.head _ _ | apply Pick.tail)); (intro _; exact rfl); (intro _; exact rfl); exact rfl) | (apply RV_cell1; exact rfl; (repeat' (first | exact Pick.head _ _ | apply Pick.tail)); (intro _; exact rfl); exact rfl))); (focus (first | exact RV_tmp rfl | (apply RV_cellN; exact rfl; (repeat' (first | exact Pick.head _ _ | apply Pick.tail)); (intro _; exact rfl); (intro _; exact rfl); exact rfl) | (apply RV_cell1; exact rfl; (repeat' (first | exact Pick.head _ _ | apply Pick.tail)); (intro _; exact rfl); exact rfl)));  (focus (first | exact rfl | (simp; done))); (focus (repeat (first | exact SubO.nil _ | (apply SubO.cons; (focus (repeat' (first | exact Pick.head _ _ | apply Pick.tail))))))); (focus (repeat (first | exact AllE.nil _ | (apply AllE.cons; (focus (first | exact ent_nilBy | exact ent_nilSl | (apply Ent.mem; repeat' (first | exact mcs | apply mct)))))))))
  | false =>
    by_cases c : 0 < pks.length
    · have hb : It.body ⟨⟨kind, sub, toDs, fromDs, more, retry, sleep, md, prot, dur, a1, a2, a3, a4, seq, frag, tid, ack, false, eosp⟩, pv, pks⟩ = (pks.getD 0 pk0).data := by unfold It.body; rw [if_neg Bool.false_ne_true, if_pos c]
      rw [hb]
      dsimp only [It.val, It.cells, Fm.val, Fm.cells]
      refine Ct_intro Tryd.func5 rfl Tryd.ntmps5 (by simp) _ rfl (fun w0 O0 => ?_)
      refine W_ent (ent_al (i := 0) (ψ := fun i => By (pks.getD i pk0).dv (pks.getD i pk0).data) (by repeat' (first | exact mcs | apply mct)) c) ?_
      repeat (first | refine n1 ?_ | refine n2 (fun b _ => ?_) | refine n3 (fun _ _ => ?_) | refine n4 ?_ | refine n5 ?_ | refine WL_nil ?_ | refine W_seq ?_ | refine W_region ?_ | refine n7 ?_ | refine n8 ?_ | refine W_block ?_ | refine W_skip ?_ | refine W_ret ?_ | refine W_exit ?_ | refine WQ_then ?_ | refine WQ_then_ret ?_ | refine WQ_then_exit ?_ | refine WQ_block_normal ?_ | refine WQ_block_ret ?_ | refine WQ_block_exit ?_ | refine n9 ?_)
      ((apply ret3 Tryd.results5 ( (pks.getD 0 pk0).dv)); (focus (first | trivial | assumption | omega)); (focus (first | exact RV_tmp rfl | (apply RV_cellN; exact rfl; (repeat' (first | exact Pick.head _ _ | apply Pick.tail)); (intro _; exact rfl); (intro _; exact rfl); exact rfl) | (apply RV_cell1; exact rfl; (repeat' (first | exact Pick.head _ _ | apply Pick.tail)); (intro _; exact rfl); exact rfl))); (focus (first | exact RV_tmp rfl | (apply RV_cellN; exact rfl; (repeat' (first | exact Pick.head _ _ | apply Pick.tail)); (intro _; exact rfl); (intro _; exact rfl); exact rfl) | (apply RV_cell1; exact rfl; (repeat' (first | exact Pick.head _ _ | apply Pick.tail)); (intro _; exact rfl); exact rfl))); (focus (first | exact RV_tmp rfl | (apply RV_cellN; exact rfl; (repeat' (first | exact Pick.head _ _ | apply Pick.tail)); (intro _; exact rfl); (intro _; exact rfl); exact rfl) | (apply RV_cell1; exact rfl; (repeat' (first | exact Pick.head _ _ | apply Pick.tail)); (intro _; exact rfl); exact rfl)));  (focus (first | exact rfl | (simp; done))); (focus (repeat (first | exact SubO.nil _ | (apply SubO.cons; (focus (repeat' (first | exact Pick.head _ _ | apply Pick.tail))))))); (focus (repeat (first | exact AllE.nil _ | (apply AllE.cons; (focus (first | exact ent_nilBy | exact ent_nilSl | (apply Ent.mem; repeat' (first | exact mcs | apply mct)))))))))
    · have hb : It.body ⟨⟨kind, sub, toDs, fromDs, more, retry, sleep, md, prot, dur, a1, a2, a3, a4, seq, frag, tid, ack, false, eosp⟩, pv, pks⟩ = [] := by unfold It.body; rw [if_neg Bool.false_ne_true, if_neg c]
      rw [hb]
      dsimp only [It.val, It.cells, Fm.val, Fm.cells]
      refine Ct_intro Tryd.func5 rfl Tryd.ntmps5 (by simp) _ rfl (fun w0 O0 => ?_)
      repeat (first | refine n1 ?_ | refine n2 (fun b _ => ?_) | refine n3 (fun _ _ => ?_) | refine n4 ?_ | refine n5 ?_ | refine WL_nil ?_ | refine W_seq ?_ | refine W_region ?_ | refine n7 ?_ | refine n8 ?_ | refine W_block ?_ | refine W_skip ?_ | refine W_ret ?_ | refine W_exit ?_ | refine WQ_then ?_ | refine WQ_then_ret ?_ | refine WQ_then_exit ?_ | refine WQ_block_normal ?_ | refine WQ_block_ret ?_ | refine WQ_block_exit ?_ | refine n9 ?_)
      refine WQ_ent (ψ := By (.slice none 0 0) []) ent_nilBy ?_
      ((apply ret3 Tryd.results5 ( Value.slice none 0 0)); (focus (first | trivial | assumption | omega)); (focus (first | exact RV_tmp rfl | (apply RV_cellN; exact rfl; (repeat' (first | exact Pick.head _ _ | apply Pick.tail)); (intro _; exact rfl); (intro _; exact rfl); exact rfl) | (apply RV_cell1; exact rfl; (repeat' (first | exact Pick.head _ _ | apply Pick.tail)); (intro _; exact rfl); exact rfl))); (focus (first | exact RV_tmp rfl | (apply RV_cellN; exact rfl; (repeat' (first | exact Pick.head _ _ | apply Pick.tail)); (intro _; exact rfl); (intro _; exact rfl); exact rfl) | (apply RV_cell1; exact rfl; (repeat' (first | exact Pick.head _ _ | apply Pick.tail)); (intro _; exact rfl); exact rfl))); (focus (first | exact RV_tmp rfl | (apply RV_cellN; exact rfl; (repeat' (first | exact Pick.head _ _ | apply Pick.tail)); (intro _; exact rfl); (intro _; exact rfl); exact rfl) | (apply RV_cell1; exact rfl; (repeat' (first | exact Pick.head _ _ | apply Pick.tail)); (intro _; exact rfl); exact rfl)));  (focus (first | exact rfl | (simp; done))); (focus (repeat (first | exact SubO.nil _ | (apply SubO.cons; (focus (repeat' (first | exact Pick.head _ _ | apply Pick.tail))))))); (focus (repeat (first | exact AllE.nil _ | (apply AllE.cons; (focus (first | exact ent_nilBy | exact ent_nilSl | (apply Ent.mem; repeat' (first | exact mcs | apply mct)))))))))
set_option maxRecDepth 100000 in
set_option maxHeartbeats 8000000 in
theorem enc_fn (f : Fm) (hw : f.head.w) : Ct Tryd.prog 6 [f.val] [] [f.fact]
    (X := Value) (fun _ => True) (fun x => .tuple #[x, .int .i64 (encE f.head f.body)]) (fun _ => []) (fun x => [By x (encY f.head f.body)]) := by
  by_cases hb : f.body.length ≤ 100000
  · exact encode_fn f hw hb
  have hc := check_fn f.head hw
  have hba := bare_fn f.head
  have k5 : 0 < f.body.length := by omega
  have k6 : 2304 < f.body.length := by omega
  have k : ¬ encE f.head f.body = 0 := fun e => by have := (encE0 e).2.2; omega
  have hY : encY f.head f.body = [] := if_neg k
  rw [hY]
  unfold encE at k ⊢
  cases k1 : hdB f.head with
  | false =>
    rw [k1] at hc
    refine Ct_intro Tryd.func6 rfl Tryd.ntmps6 (by simp) _ rfl (fun w0 O0 => ?_)
    repeat (first | refine n1 ?_ | refine n2 (fun b _ => ?_) | refine n3 (fun _ _ => ?_) | refine n4 ?_ | refine n5 ?_ | refine n6 (hc) ?_ | refine n6v (hc) ?_ | refine WL_nil ?_ | refine W_seq ?_ | refine W_region ?_ | refine n7 ?_ | refine n8 ?_ | refine W_block ?_ | refine W_skip ?_ | refine W_ret ?_ | refine W_exit ?_ | refine WQ_then ?_ | refine WQ_then_ret ?_ | refine WQ_then_exit ?_ | refine WQ_block_normal ?_ | refine WQ_block_ret ?_ | refine WQ_block_exit ?_ | refine n9 ?_)
    refine WQ_ent (ψ := By (.slice none 0 0) []) ent_nilBy ?_
    ((apply ret2 Tryd.results6 ( Value.slice none 0 0)); (focus (first | trivial | assumption | omega)); (focus (first | exact RV_tmp rfl | (apply RV_cellN; exact rfl; (repeat' (first | exact Pick.head _ _ | apply Pick.tail)); (intro _; exact rfl); (intro _; exact rfl); exact rfl) | (apply RV_cell1; exact rfl; (repeat' (first | exact Pick.head _ _ | apply Pick.tail)); (intro _; exact rfl); exact rfl))); (focus (first | exact RV_tmp rfl | (apply RV_cellN; exact rfl; (repeat' (first | exact Pick.head _ _ | apply Pick.tail)); (intro _; exact rfl); (intro _; exact rfl); exact rfl) | (apply RV_cell1; exact rfl; (repeat' (first | exact Pick.head _ _ | apply Pick.tail)); (intro _; exact rfl); exact rfl)));  (focus (first | exact rfl | (simp; done))); (focus (repeat (first | exact SubO.nil _ | (apply SubO.cons; (focus (repeat' (first | exact Pick.head _ _ | apply Pick.tail))))))); (focus (repeat (first | exact AllE.nil _ | (apply AllE.cons; (focus (first | exact ent_nilBy | exact ent_nilSl | (apply Ent.mem; repeat' (first | exact mcs | apply mct)))))))))
  | true =>
    rw [k1] at hc k
    skip
    cases k4 : barB f.head with
    | true =>
      rw [k4] at hba k
      rw [decide_eq_true k5]
      refine Ct_intro Tryd.func6 rfl Tryd.ntmps6 (by simp) _ rfl (fun w0 O0 => ?_)
      repeat (first | refine n1 ?_ | refine n2 (fun b _ => ?_) | refine n3 (fun _ _ => ?_) | refine n4 ?_ | refine n5 ?_ | refine n6 (hc) ?_ | refine n6 (hba) ?_ | refine n6v (hc) ?_ | refine n6v (hba) ?_ | refine WL_nil ?_ | refine W_seq ?_ | refine W_region ?_ | refine n7 ?_ | refine n8 ?_ | refine W_block ?_ | refine W_skip ?_ | refine W_ret ?_ | refine W_exit ?_ | refine WQ_then ?_ | refine WQ_then_ret ?_ | refine WQ_then_exit ?_ | refine WQ_block_normal ?_ | refine WQ_block_ret ?_ | refine WQ_block_exit ?_ | refine n9 ?_)
      refine WQ_ent (ψ := By (.slice none 0 0) []) ent_nilBy ?_
      ((apply ret2 Tryd.results6 ( Value.slice none 0 0)); (focus (first | trivial | assumption | omega)); (focus (first | exact RV_tmp rfl | (apply RV_cellN; exact rfl; (repeat' (first | exact Pick.head _ _ | apply Pick.tail)); (intro _; exact rfl); (intro _; exact rfl); exact rfl) | (apply RV_cell1; exact rfl; (repeat' (first | exact Pick.head _ _ | apply Pick.tail)); (intro _; exact rfl); exact rfl))); (focus (first | exact RV_tmp rfl | (apply RV_cellN; exact rfl; (repeat' (first | exact Pick.head _ _ | apply Pick.tail)); (intro _; exact rfl); (intro _; exact rfl); exact rfl) | (apply RV_cell1; exact rfl; (repeat' (first | exact Pick.head _ _ | apply Pick.tail)); (intro _; exact rfl); exact rfl)));  (focus (first | exact rfl | (simp; done))); (focus (repeat (first | exact SubO.nil _ | (apply SubO.cons; (focus (repeat' (first | exact Pick.head _ _ | apply Pick.tail))))))); (focus (repeat (first | exact AllE.nil _ | (apply AllE.cons; (focus (first | exact ent_nilBy | exact ent_nilSl | (apply Ent.mem; repeat' (first | exact mcs | apply mct)))))))))
    | false =>
      rw [k4] at hba k
      rw [if_pos k6]
      refine Ct_intro Tryd.func6 rfl Tryd.ntmps6 (by simp) _ rfl (fun w0 O0 => ?_)
      repeat (first | refine n1 ?_ | refine n2 (fun b _ => ?_) | refine n3 (fun _ _ => ?_) | refine n4 ?_ | refine n5 ?_ | refine n6 (hc) ?_ | refine n6 (hba) ?_ | refine n6v (hc) ?_ | refine n6v (hba) ?_ | refine WL_nil ?_ | refine W_seq ?_ | refine W_region ?_ | refine n7 ?_ | refine n8 ?_ | refine W_block ?_ | refine W_skip ?_ | refine W_ret ?_ | refine W_exit ?_ | refine WQ_then ?_ | refine WQ_then_ret ?_ | refine WQ_then_exit ?_ | refine WQ_block_normal ?_ | refine WQ_block_ret ?_ | refine WQ_block_exit ?_ | refine n9 ?_)
      refine WQ_ent (ψ := By (.slice none 0 0) []) ent_nilBy ?_
      ((apply ret2 Tryd.results6 ( Value.slice none 0 0)); (focus (first | trivial | assumption | omega)); (focus (first | exact RV_tmp rfl | (apply RV_cellN; exact rfl; (repeat' (first | exact Pick.head _ _ | apply Pick.tail)); (intro _; exact rfl); (intro _; exact rfl); exact rfl) | (apply RV_cell1; exact rfl; (repeat' (first | exact Pick.head _ _ | apply Pick.tail)); (intro _; exact rfl); exact rfl))); (focus (first | exact RV_tmp rfl | (apply RV_cellN; exact rfl; (repeat' (first | exact Pick.head _ _ | apply Pick.tail)); (intro _; exact rfl); (intro _; exact rfl); exact rfl) | (apply RV_cell1; exact rfl; (repeat' (first | exact Pick.head _ _ | apply Pick.tail)); (intro _; exact rfl); exact rfl)));  (focus (first | exact rfl | (simp; done))); (focus (repeat (first | exact SubO.nil _ | (apply SubO.cons; (focus (repeat' (first | exact Pick.head _ _ | apply Pick.tail))))))); (focus (repeat (first | exact AllE.nil _ | (apply AllE.cons; (focus (first | exact ent_nilBy | exact ent_nilSl | (apply Ent.mem; repeat' (first | exact mcs | apply mct)))))))))
end Go.Proofs.YteojehocflbgdaaDoor
