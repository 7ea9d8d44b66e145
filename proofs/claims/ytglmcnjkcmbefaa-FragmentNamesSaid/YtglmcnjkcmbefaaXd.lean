/-
  Rules for walks, merged.
-/
import Derived.Test.YtglmcnjkcmbefaaXc
import Derived.Test.YtglmcnjkcmbefaaXb
import Derived.Maps.Keyed
/-
  Frames: encodings, sizes, ends, categories.
-/
namespace Go.Proofs.Ytglmcnjkcmbefaa.C05
open Go Go.RowKit Go.Hs
structure Fm where
  head : Hd
  bv : Value
  body : List UInt8
@[reducible] def Fm.cells (f : Fm) : List Value := [bcell f.head.kind, bcell f.head.sub, .bool f.head.toDs, .bool f.head.fromDs, .bool f.head.more, .bool f.head.retry, .bool f.head.sleep, .bool f.head.md, .bool f.head.prot, .int .i64 f.head.dur, bcell f.head.a1.a0, bcell f.head.a1.a1, bcell f.head.a1.a2, bcell f.head.a1.a3, bcell f.head.a1.a4, bcell f.head.a1.a5, bcell f.head.a2.a0, bcell f.head.a2.a1, bcell f.head.a2.a2, bcell f.head.a2.a3, bcell f.head.a2.a4, bcell f.head.a2.a5, bcell f.head.a3.a0, bcell f.head.a3.a1, bcell f.head.a3.a2, bcell f.head.a3.a3, bcell f.head.a3.a4, bcell f.head.a3.a5, bcell f.head.a4.a0, bcell f.head.a4.a1, bcell f.head.a4.a2, bcell f.head.a4.a3, bcell f.head.a4.a4, bcell f.head.a4.a5, .int .i64 f.head.seq, .int .i64 f.head.frag, .int .i64 f.head.tid, bcell f.head.ack, .bool f.head.amsdu, .bool f.head.eosp, f.bv]
@[reducible] def Fm.val (f : Fm) : Value := .agg f.cells.toArray
@[reducible] def Fm.fact (f : Fm) : SP := By f.bv f.body
def encE (h : Hd) (body : List UInt8) : Int := if hdB h && !(barB h && decide (0 < body.length)) then (if 2304 < body.length then 11 else 0) else 8
def crcB (xs : List UInt8) : List UInt8 := xs ++ C03.cb32 (C03.crc C03.P32 xs)
def encY (h : Hd) (body : List UInt8) : List UInt8 := if encE h body = 0 then crcB (hdY h ++ body) else []
theorem encE0 {h : Hd} {body : List UInt8} (e : encE h body = 0) : hdB h = true ∧ (barB h && decide (0 < body.length)) = false ∧ body.length ≤ 2304 := by
  unfold encE at e
  by_cases c : (hdB h && !(barB h && decide (0 < body.length))) = true
  · rw [if_pos c] at e
    rw [Bool.and_eq_true, Bool.not_eq_true'] at c
    by_cases d : 2304 < body.length
    · rw [if_pos d] at e; cases e
    · exact ⟨c.1, c.2, by omega⟩
  · rw [if_neg c] at e; cases e
def sizE (h : Hd) : Int := if hdB h then 0 else 8
def sizN (h : Hd) : Nat := if hdB h then hdS h else 0
def endE (h : Hd) : Int := if hdB h then (if h.kind.toNat = 1 then 2 else 0) else 8
def endT (h : Hd) : A6 := if endE h = 0 then (if h.toDs then h.a3 else h.a1) else zA6
def endF (h : Hd) : A6 := if endE h = 0 then (if h.toDs && h.fromDs then h.a4 else if h.fromDs then h.a3 else h.a2) else zA6
def catL : List UInt8 := [1, 0, 0, 1, 2, 2, 3, 3]
def catE (t : Int) : Int := if 0 ≤ t ∧ t ≤ 7 then 0 else 2
def catV (t : Int) : UInt8 := if 0 ≤ t ∧ t ≤ 7 then catL.getD t.toNat 0 else 0
attribute [local irreducible] WL W WQ PL Runs Effs AllE Ent SubO FrIn Pick OneC Ones CellsE PartsE SeqE UZ By Sl Pt Ct

set_option maxRecDepth 100000 in
set_option maxHeartbeats 8000000 in
theorem encode_fn (f : Fm) (hw : f.head.w) (hb : f.body.length ≤ 100000) : Ct Try.prog 43 [f.val] [] [f.fact]
    (X := Value) (fun _ => True) (fun x => .tuple #[x, .int .i64 (encE f.head f.body)]) (fun _ => []) (fun x => [By x (encY f.head f.body)]) := by
  have hc := check_fn f.head hw
  have hba := bare_fn f.head
  by_cases k : encE f.head f.body = 0
  · obtain ⟨k1, k2, k3⟩ := encE0 k
    have hY : encY f.head f.body = crcB (hdY f.head ++ f.body) := if_pos k
    rw [k, hY]
    have hwr := write_fn f.head k1
    have hyl := hdY_length f.head
    have hsl := hdS_le f.head
    have hap := fun v => C03.append_fnB v (hdY f.head ++ f.body) (by rw [List.length_append]; omega)
    rw [k1] at hc
    skip
    cases k4 : barB f.head with
    | true =>
      rw [k4] at hba k2
      have k5 : ¬ 0 < f.body.length := fun h => by rw [decide_eq_true h] at k2; cases k2
      refine Ct_intro Try.func43 rfl Try.ntmps43 (by simp) _ rfl (fun w0 O0 => ?_)
      repeat (first | refine n1 ?_ | refine n2 (fun b _ => ?_) | refine n3 (fun _ _ => ?_) | refine n4 ?_ | refine n5 ?_ | refine n6 (hc) ?_ | refine n6 (hba) ?_ | refine n6v (hc) ?_ | refine n6v (hba) ?_ | refine WL_nil ?_ | refine W_seq ?_ | refine W_region ?_ | refine n7 ?_ | refine n8 ?_ | refine W_block ?_ | refine W_skip ?_ | refine W_ret ?_ | refine W_exit ?_ | refine WQ_then ?_ | refine WQ_then_ret ?_ | refine WQ_then_exit ?_ | refine WQ_block_normal ?_ | refine WQ_block_ret ?_ | refine WQ_block_exit ?_ | refine n9 ?_)
      (refine W_regionP' [2, 5, 6] [] [0, 1, 3, 4, 2, 5, 6, 7, 8] [] (by kernel_rfl) (by kernel_rfl) (by repeat (first | exact UZ.nil _ _ | (apply UZ.cons; exact rfl; (intro _; exact rfl)))) (by exact rfl) (by (repeat (first | exact SubO.nil _ | (apply SubO.cons; (focus (repeat' (first | exact Pick.head _ _ | apply Pick.tail))))))) ?_)
      repeat (first | refine p1 ?_ | refine p2 (fun b _ => ?_) | refine p3 (fun _ _ => ?_) | refine p4 ?_ | refine p5 ?_ | refine p7 (fun b => ?_) | refine PL_nil ?_)
      (apply PL_effs; exact rfl; exact rfl; exact rfl; exact rfl; exact rfl; apply E_call; exact rfl; (intro _ _; simp); exact hwr; (repeat (first | exact AllE.nil _ | (apply AllE.cons; (focus (first | exact ent_nilBy | exact ent_nilSl | (apply Ent.mem; repeat' (first | exact mcs | apply mct))))))); (intro _; exact rfl); (intro _; exact rfl); (intro _; (repeat (first | exact SubO.nil _ | (apply SubO.cons; (focus (repeat' (first | exact Pick.head _ _ | apply Pick.tail))))))))
      intro o _
      refine PL_effs rfl rfl rfl rfl rfl (Effs.letB (n := fun _ => hdS f.head + f.body.length) (bs := fun _ => hdY f.head ++ f.body) (E_appendBy (bs := hdY f.head) (news := f.body) (nm := hdS f.head + f.body.length) (all := hdY f.head ++ f.body) rfl rfl (by repeat' (first | exact Pick.head _ _ | apply Pick.tail)) (by repeat' (first | exact mcs | apply mct)) rfl rfl rfl rfl rfl rfl (Nat.le_of_ble_eq_true rfl) (by omega) rfl rfl)) (fun _ => (by (repeat (first | exact SubO.nil _ | (apply SubO.cons; (focus (repeat' (first | exact Pick.head _ _ | apply Pick.tail)))))))) (fun o2 _ => ?_)
      repeat (first | refine p1 ?_ | refine p2 (fun b _ => ?_) | refine p3 (fun _ _ => ?_) | refine p4 ?_ | refine p5 ?_ | refine p7 (fun b => ?_) | refine PL_nil ?_)
      (apply PL_effs; exact rfl; exact rfl; exact rfl; exact rfl; exact rfl; apply E_call; exact rfl; (intro _ _; simp); exact hap o2; (repeat (first | exact AllE.nil _ | (apply AllE.cons; (focus (first | exact ent_nilBy | exact ent_nilSl | (apply Ent.mem; repeat' (first | exact mcs | apply mct))))))); (intro _; exact rfl); (intro _; exact rfl); (intro _; (repeat (first | exact SubO.nil _ | (apply SubO.cons; (focus (repeat' (first | exact Pick.head _ _ | apply Pick.tail))))))))
      intro o3 _
      repeat (first | refine p1 ?_ | refine p2 (fun b _ => ?_) | refine p3 (fun _ _ => ?_) | refine p4 ?_ | refine p5 ?_ | refine p7 (fun b => ?_) | refine PL_nil ?_)
      repeat (first | refine n1 ?_ | refine n2 (fun b _ => ?_) | refine n3 (fun _ _ => ?_) | refine n4 ?_ | refine n5 ?_ | refine WL_nil ?_ | refine W_seq ?_ | refine W_region ?_ | refine n7 ?_ | refine n8 ?_ | refine W_block ?_ | refine W_skip ?_ | refine W_ret ?_ | refine W_exit ?_ | refine WQ_then ?_ | refine WQ_then_ret ?_ | refine WQ_then_exit ?_ | refine WQ_block_normal ?_ | refine WQ_block_ret ?_ | refine WQ_block_exit ?_ | refine n9 ?_)
      ((apply ret2 Try.results43 ( o3)); (focus (first | trivial | assumption | omega)); (focus (first | exact RV_tmp rfl | (apply RV_cellN; exact rfl; (repeat' (first | exact Pick.head _ _ | apply Pick.tail)); (intro _; exact rfl); (intro _; exact rfl); exact rfl) | (apply RV_cell1; exact rfl; (repeat' (first | exact Pick.head _ _ | apply Pick.tail)); (intro _; exact rfl); exact rfl))); (focus (first | exact RV_tmp rfl | (apply RV_cellN; exact rfl; (repeat' (first | exact Pick.head _ _ | apply Pick.tail)); (intro _; exact rfl); (intro _; exact rfl); exact rfl) | (apply RV_cell1; exact rfl; (repeat' (first | exact Pick.head _ _ | apply Pick.tail)); (intro _; exact rfl); exact rfl)));  (focus (first | exact rfl | (simp; done))); (focus (repeat (first | exact SubO.nil _ | (apply SubO.cons; (focus (repeat' (first | exact Pick.head _ _ | apply Pick.tail))))))); (focus (repeat (first | exact AllE.nil _ | (apply AllE.cons; (focus (first | exact ent_nilBy | exact ent_nilSl | (apply Ent.mem; repeat' (first | exact mcs | apply mct)))))))))
    | false =>
      rw [k4] at hba
      refine Ct_intro Try.func43 rfl Try.ntmps43 (by simp) _ rfl (fun w0 O0 => ?_)
      repeat (first | refine n1 ?_ | refine n2 (fun b _ => ?_) | refine n3 (fun _ _ => ?_) | refine n4 ?_ | refine n5 ?_ | refine n6 (hc) ?_ | refine n6 (hba) ?_ | refine n6v (hc) ?_ | refine n6v (hba) ?_ | refine WL_nil ?_ | refine W_seq ?_ | refine W_region ?_ | refine n7 ?_ | refine n8 ?_ | refine W_block ?_ | refine W_skip ?_ | refine W_ret ?_ | refine W_exit ?_ | refine WQ_then ?_ | refine WQ_then_ret ?_ | refine WQ_then_exit ?_ | refine WQ_block_normal ?_ | refine WQ_block_ret ?_ | refine WQ_block_exit ?_ | refine n9 ?_)
      (refine W_regionP' [2, 5, 6] [] [0, 1, 3, 4, 2, 5, 6, 7, 8] [] (by kernel_rfl) (by kernel_rfl) (by repeat (first | exact UZ.nil _ _ | (apply UZ.cons; exact rfl; (intro _; exact rfl)))) (by exact rfl) (by (repeat (first | exact SubO.nil _ | (apply SubO.cons; (focus (repeat' (first | exact Pick.head _ _ | apply Pick.tail))))))) ?_)
      repeat (first | refine p1 ?_ | refine p2 (fun b _ => ?_) | refine p3 (fun _ _ => ?_) | refine p4 ?_ | refine p5 ?_ | refine p7 (fun b => ?_) | refine PL_nil ?_)
      (apply PL_effs; exact rfl; exact rfl; exact rfl; exact rfl; exact rfl; apply E_call; exact rfl; (intro _ _; simp); exact hwr; (repeat (first | exact AllE.nil _ | (apply AllE.cons; (focus (first | exact ent_nilBy | exact ent_nilSl | (apply Ent.mem; repeat' (first | exact mcs | apply mct))))))); (intro _; exact rfl); (intro _; exact rfl); (intro _; (repeat (first | exact SubO.nil _ | (apply SubO.cons; (focus (repeat' (first | exact Pick.head _ _ | apply Pick.tail))))))))
      intro o _
      refine PL_effs rfl rfl rfl rfl rfl (Effs.letB (n := fun _ => hdS f.head + f.body.length) (bs := fun _ => hdY f.head ++ f.body) (E_appendBy (bs := hdY f.head) (news := f.body) (nm := hdS f.head + f.body.length) (all := hdY f.head ++ f.body) rfl rfl (by repeat' (first | exact Pick.head _ _ | apply Pick.tail)) (by repeat' (first | exact mcs | apply mct)) rfl rfl rfl rfl rfl rfl (Nat.le_of_ble_eq_true rfl) (by omega) rfl rfl)) (fun _ => (by (repeat (first | exact SubO.nil _ | (apply SubO.cons; (focus (repeat' (first | exact Pick.head _ _ | apply Pick.tail)))))))) (fun o2 _ => ?_)
      repeat (first | refine p1 ?_ | refine p2 (fun b _ => ?_) | refine p3 (fun _ _ => ?_) | refine p4 ?_ | refine p5 ?_ | refine p7 (fun b => ?_) | refine PL_nil ?_)
      (apply PL_effs; exact rfl; exact rfl; exact rfl; exact rfl; exact rfl; apply E_call; exact rfl; (intro _ _; simp); exact hap o2; (repeat (first | exact AllE.nil _ | (apply AllE.cons; (focus (first | exact ent_nilBy | exact ent_nilSl | (apply Ent.mem; repeat' (first | exact mcs | apply mct))))))); (intro _; exact rfl); (intro _; exact rfl); (intro _; (repeat (first | exact SubO.nil _ | (apply SubO.cons; (focus (repeat' (first | exact Pick.head _ _ | apply Pick.tail))))))))
      intro o3 _
      repeat (first | refine p1 ?_ | refine p2 (fun b _ => ?_) | refine p3 (fun _ _ => ?_) | refine p4 ?_ | refine p5 ?_ | refine p7 (fun b => ?_) | refine PL_nil ?_)
      repeat (first | refine n1 ?_ | refine n2 (fun b _ => ?_) | refine n3 (fun _ _ => ?_) | refine n4 ?_ | refine n5 ?_ | refine WL_nil ?_ | refine W_seq ?_ | refine W_region ?_ | refine n7 ?_ | refine n8 ?_ | refine W_block ?_ | refine W_skip ?_ | refine W_ret ?_ | refine W_exit ?_ | refine WQ_then ?_ | refine WQ_then_ret ?_ | refine WQ_then_exit ?_ | refine WQ_block_normal ?_ | refine WQ_block_ret ?_ | refine WQ_block_exit ?_ | refine n9 ?_)
      ((apply ret2 Try.results43 ( o3)); (focus (first | trivial | assumption | omega)); (focus (first | exact RV_tmp rfl | (apply RV_cellN; exact rfl; (repeat' (first | exact Pick.head _ _ | apply Pick.tail)); (intro _; exact rfl); (intro _; exact rfl); exact rfl) | (apply RV_cell1; exact rfl; (repeat' (first | exact Pick.head _ _ | apply Pick.tail)); (intro _; exact rfl); exact rfl))); (focus (first | exact RV_tmp rfl | (apply RV_cellN; exact rfl; (repeat' (first | exact Pick.head _ _ | apply Pick.tail)); (intro _; exact rfl); (intro _; exact rfl); exact rfl) | (apply RV_cell1; exact rfl; (repeat' (first | exact Pick.head _ _ | apply Pick.tail)); (intro _; exact rfl); exact rfl)));  (focus (first | exact rfl | (simp; done))); (focus (repeat (first | exact SubO.nil _ | (apply SubO.cons; (focus (repeat' (first | exact Pick.head _ _ | apply Pick.tail))))))); (focus (repeat (first | exact AllE.nil _ | (apply AllE.cons; (focus (first | exact ent_nilBy | exact ent_nilSl | (apply Ent.mem; repeat' (first | exact mcs | apply mct)))))))))
  · have hY : encY f.head f.body = [] := if_neg k
    rw [hY]
    unfold encE at k ⊢
    cases k1 : hdB f.head with
    | false =>
      rw [k1] at hc
      refine Ct_intro Try.func43 rfl Try.ntmps43 (by simp) _ rfl (fun w0 O0 => ?_)
      repeat (first | refine n1 ?_ | refine n2 (fun b _ => ?_) | refine n3 (fun _ _ => ?_) | refine n4 ?_ | refine n5 ?_ | refine n6 (hc) ?_ | refine n6v (hc) ?_ | refine WL_nil ?_ | refine W_seq ?_ | refine W_region ?_ | refine n7 ?_ | refine n8 ?_ | refine W_block ?_ | refine W_skip ?_ | refine W_ret ?_ | refine W_exit ?_ | refine WQ_then ?_ | refine WQ_then_ret ?_ | refine WQ_then_exit ?_ | refine WQ_block_normal ?_ | refine WQ_block_ret ?_ | refine WQ_block_exit ?_ | refine n9 ?_)
      refine WQ_ent (ψ := By (.slice none 0 0) []) ent_nilBy ?_
      ((apply ret2 Try.results43 ( Value.slice none 0 0)); (focus (first | trivial | assumption | omega)); (focus (first | exact RV_tmp rfl | (apply RV_cellN; exact rfl; (repeat' (first | exact Pick.head _ _ | apply Pick.tail)); (intro _; exact rfl); (intro _; exact rfl); exact rfl) | (apply RV_cell1; exact rfl; (repeat' (first | exact Pick.head _ _ | apply Pick.tail)); (intro _; exact rfl); exact rfl))); (focus (first | exact RV_tmp rfl | (apply RV_cellN; exact rfl; (repeat' (first | exact Pick.head _ _ | apply Pick.tail)); (intro _; exact rfl); (intro _; exact rfl); exact rfl) | (apply RV_cell1; exact rfl; (repeat' (first | exact Pick.head _ _ | apply Pick.tail)); (intro _; exact rfl); exact rfl)));  (focus (first | exact rfl | (simp; done))); (focus (repeat (first | exact SubO.nil _ | (apply SubO.cons; (focus (repeat' (first | exact Pick.head _ _ | apply Pick.tail))))))); (focus (repeat (first | exact AllE.nil _ | (apply AllE.cons; (focus (first | exact ent_nilBy | exact ent_nilSl | (apply Ent.mem; repeat' (first | exact mcs | apply mct)))))))))
    | true =>
      rw [k1] at hc k
      skip
      cases k4 : barB f.head with
      | true =>
        rw [k4] at hba k
        by_cases k5 : 0 < f.body.length
        · rw [decide_eq_true k5]
          refine Ct_intro Try.func43 rfl Try.ntmps43 (by simp) _ rfl (fun w0 O0 => ?_)
          repeat (first | refine n1 ?_ | refine n2 (fun b _ => ?_) | refine n3 (fun _ _ => ?_) | refine n4 ?_ | refine n5 ?_ | refine n6 (hc) ?_ | refine n6 (hba) ?_ | refine n6v (hc) ?_ | refine n6v (hba) ?_ | refine WL_nil ?_ | refine W_seq ?_ | refine W_region ?_ | refine n7 ?_ | refine n8 ?_ | refine W_block ?_ | refine W_skip ?_ | refine W_ret ?_ | refine W_exit ?_ | refine WQ_then ?_ | refine WQ_then_ret ?_ | refine WQ_then_exit ?_ | refine WQ_block_normal ?_ | refine WQ_block_ret ?_ | refine WQ_block_exit ?_ | refine n9 ?_)
          refine WQ_ent (ψ := By (.slice none 0 0) []) ent_nilBy ?_
          ((apply ret2 Try.results43 ( Value.slice none 0 0)); (focus (first | trivial | assumption | omega)); (focus (first | exact RV_tmp rfl | (apply RV_cellN; exact rfl; (repeat' (first | exact Pick.head _ _ | apply Pick.tail)); (intro _; exact rfl); (intro _; exact rfl); exact rfl) | (apply RV_cell1; exact rfl; (repeat' (first | exact Pick.head _ _ | apply Pick.tail)); (intro _; exact rfl); exact rfl))); (focus (first | exact RV_tmp rfl | (apply RV_cellN; exact rfl; (repeat' (first | exact Pick.head _ _ | apply Pick.tail)); (intro _; exact rfl); (intro _; exact rfl); exact rfl) | (apply RV_cell1; exact rfl; (repeat' (first | exact Pick.head _ _ | apply Pick.tail)); (intro _; exact rfl); exact rfl)));  (focus (first | exact rfl | (simp; done))); (focus (repeat (first | exact SubO.nil _ | (apply SubO.cons; (focus (repeat' (first | exact Pick.head _ _ | apply Pick.tail))))))); (focus (repeat (first | exact AllE.nil _ | (apply AllE.cons; (focus (first | exact ent_nilBy | exact ent_nilSl | (apply Ent.mem; repeat' (first | exact mcs | apply mct)))))))))
        · rw [decide_eq_false k5] at k
          have k : ¬ (if 2304 < f.body.length then (11 : Int) else 0) = 0 := k
          rw [if_neg (by omega)] at k
          exact absurd rfl k
      | false =>
        rw [k4] at hba k
        have k : ¬ (if 2304 < f.body.length then (11 : Int) else 0) = 0 := k
        by_cases k6 : 2304 < f.body.length
        · rw [if_pos k6]
          refine Ct_intro Try.func43 rfl Try.ntmps43 (by simp) _ rfl (fun w0 O0 => ?_)
          repeat (first | refine n1 ?_ | refine n2 (fun b _ => ?_) | refine n3 (fun _ _ => ?_) | refine n4 ?_ | refine n5 ?_ | refine n6 (hc) ?_ | refine n6 (hba) ?_ | refine n6v (hc) ?_ | refine n6v (hba) ?_ | refine WL_nil ?_ | refine W_seq ?_ | refine W_region ?_ | refine n7 ?_ | refine n8 ?_ | refine W_block ?_ | refine W_skip ?_ | refine W_ret ?_ | refine W_exit ?_ | refine WQ_then ?_ | refine WQ_then_ret ?_ | refine WQ_then_exit ?_ | refine WQ_block_normal ?_ | refine WQ_block_ret ?_ | refine WQ_block_exit ?_ | refine n9 ?_)
          refine WQ_ent (ψ := By (.slice none 0 0) []) ent_nilBy ?_
          ((apply ret2 Try.results43 ( Value.slice none 0 0)); (focus (first | trivial | assumption | omega)); (focus (first | exact RV_tmp rfl | (apply RV_cellN; exact rfl; (repeat' (first | exact Pick.head _ _ | apply Pick.tail)); (intro _; exact rfl); (intro _; exact rfl); exact rfl) | (apply RV_cell1; exact rfl; (repeat' (first | exact Pick.head _ _ | apply Pick.tail)); (intro _; exact rfl); exact rfl))); (focus (first | exact RV_tmp rfl | (apply RV_cellN; exact rfl; (repeat' (first | exact Pick.head _ _ | apply Pick.tail)); (intro _; exact rfl); (intro _; exact rfl); exact rfl) | (apply RV_cell1; exact rfl; (repeat' (first | exact Pick.head _ _ | apply Pick.tail)); (intro _; exact rfl); exact rfl)));  (focus (first | exact rfl | (simp; done))); (focus (repeat (first | exact SubO.nil _ | (apply SubO.cons; (focus (repeat' (first | exact Pick.head _ _ | apply Pick.tail))))))); (focus (repeat (first | exact AllE.nil _ | (apply AllE.cons; (focus (first | exact ent_nilBy | exact ent_nilSl | (apply Ent.mem; repeat' (first | exact mcs | apply mct)))))))))
        · rw [if_neg k6] at k
          exact absurd rfl k
end Go.Proofs.Ytglmcnjkcmbefaa.C05

/-
  Frames: ends, comparisons, copies.
-/
namespace Go.Proofs.Ytglmcnjkcmbefaa.C05
open Go Go.RowKit Go.Hs
def sameB (h k : Hd) (xs ys : List UInt8) : Bool := decide (h = k) && decide (xs = ys)
attribute [local irreducible] WL W WQ PL Runs Effs AllE Ent SubO FrIn Pick OneC Ones CellsE PartsE SeqE UZ By Sl Pt Ct

set_option maxRecDepth 100000 in
set_option maxHeartbeats 4000000 in
theorem rsame_fn (f g : Fm) (hf : f.head.w) (hg : g.head.w) : CtD Try.prog 14 [f.val, g.val] [f.fact, g.fact] (.bool (sameB f.head g.head f.body g.body)) := by
  unfold sameB
  by_cases h1 : f.head = g.head
  · rw [decide_eq_true h1, Bool.true_and]
    by_cases h2 : f.body = g.body
    · rw [decide_eq_true h2]
      refine Ct_intro Try.func14 rfl Try.ntmps14 (by simp) _ rfl (fun w0 O0 => ?_)
      repeat (first | refine n1 ?_ | refine n2 (fun b _ => ?_) | refine n3 (fun _ _ => ?_) | refine n4 ?_ | refine n5 ?_ | refine WL_nil ?_ | refine W_seq ?_ | refine W_region ?_ | refine n7 ?_ | refine n8 ?_ | refine W_block ?_ | refine W_skip ?_ | refine W_ret ?_ | refine W_exit ?_ | refine WQ_then ?_ | refine WQ_then_ret ?_ | refine WQ_then_exit ?_ | refine WQ_block_normal ?_ | refine WQ_block_ret ?_ | refine WQ_block_exit ?_ | refine n9 ?_)
      refine WL_runs rfl rfl rfl (R_eqG (cs := f.head.cells) (ds := g.head.cells) (m := 3) (p := f.head = g.head) rfl rfl (by kernel_rfl) rfl (by kernel_rfl) (by kernel_rfl) (by kernel_rfl) (hd_lits _ hf) (hd_lits _ hg) hdL_inj rfl) ?_
      rw [decide_eq_true h1]
      repeat (first | refine n1 ?_ | refine n2 (fun b _ => ?_) | refine n3 (fun _ _ => ?_) | refine n4 ?_ | refine n5 ?_ | refine WL_nil ?_ | refine W_seq ?_ | refine W_region ?_ | refine n7 ?_ | refine n8 ?_ | refine W_block ?_ | refine W_skip ?_ | refine W_ret ?_ | refine W_exit ?_ | refine WQ_then ?_ | refine WQ_then_ret ?_ | refine WQ_then_exit ?_ | refine WQ_block_normal ?_ | refine WQ_block_ret ?_ | refine WQ_block_exit ?_ | refine n9 ?_)
      ((apply ret1 Try.results14 ( ())); (focus (first | trivial | assumption | omega)); (focus (first | exact RV_tmp rfl | (apply RV_cellN; exact rfl; (repeat' (first | exact Pick.head _ _ | apply Pick.tail)); (intro _; exact rfl); (intro _; exact rfl); exact rfl) | (apply RV_cell1; exact rfl; (repeat' (first | exact Pick.head _ _ | apply Pick.tail)); (intro _; exact rfl); exact rfl)));  (focus (first | exact rfl | (simp; done))); (focus (repeat (first | exact SubO.nil _ | (apply SubO.cons; (focus (repeat' (first | exact Pick.head _ _ | apply Pick.tail))))))); (focus (repeat (first | exact AllE.nil _ | (apply AllE.cons; (focus (first | exact ent_nilBy | exact ent_nilSl | (apply Ent.mem; repeat' (first | exact mcs | apply mct)))))))))
    · rw [decide_eq_false h2]
      refine Ct_intro Try.func14 rfl Try.ntmps14 (by simp) _ rfl (fun w0 O0 => ?_)
      repeat (first | refine n1 ?_ | refine n2 (fun b _ => ?_) | refine n3 (fun _ _ => ?_) | refine n4 ?_ | refine n5 ?_ | refine WL_nil ?_ | refine W_seq ?_ | refine W_region ?_ | refine n7 ?_ | refine n8 ?_ | refine W_block ?_ | refine W_skip ?_ | refine W_ret ?_ | refine W_exit ?_ | refine WQ_then ?_ | refine WQ_then_ret ?_ | refine WQ_then_exit ?_ | refine WQ_block_normal ?_ | refine WQ_block_ret ?_ | refine WQ_block_exit ?_ | refine n9 ?_)
      refine WL_runs rfl rfl rfl (R_eqG (cs := f.head.cells) (ds := g.head.cells) (m := 3) (p := f.head = g.head) rfl rfl (by kernel_rfl) rfl (by kernel_rfl) (by kernel_rfl) (by kernel_rfl) (hd_lits _ hf) (hd_lits _ hg) hdL_inj rfl) ?_
      rw [decide_eq_true h1]
      repeat (first | refine n1 ?_ | refine n2 (fun b _ => ?_) | refine n3 (fun _ _ => ?_) | refine n4 ?_ | refine n5 ?_ | refine WL_nil ?_ | refine W_seq ?_ | refine W_region ?_ | refine n7 ?_ | refine n8 ?_ | refine W_block ?_ | refine W_skip ?_ | refine W_ret ?_ | refine W_exit ?_ | refine WQ_then ?_ | refine WQ_then_ret ?_ | refine WQ_then_exit ?_ | refine WQ_block_normal ?_ | refine WQ_block_ret ?_ | refine WQ_block_exit ?_ | refine n9 ?_)
      ((apply ret1 Try.results14 ( ())); (focus (first | trivial | assumption | omega)); (focus (first | exact RV_tmp rfl | (apply RV_cellN; exact rfl; (repeat' (first | exact Pick.head _ _ | apply Pick.tail)); (intro _; exact rfl); (intro _; exact rfl); exact rfl) | (apply RV_cell1; exact rfl; (repeat' (first | exact Pick.head _ _ | apply Pick.tail)); (intro _; exact rfl); exact rfl)));  (focus (first | exact rfl | (simp; done))); (focus (repeat (first | exact SubO.nil _ | (apply SubO.cons; (focus (repeat' (first | exact Pick.head _ _ | apply Pick.tail))))))); (focus (repeat (first | exact AllE.nil _ | (apply AllE.cons; (focus (first | exact ent_nilBy | exact ent_nilSl | (apply Ent.mem; repeat' (first | exact mcs | apply mct)))))))))
  · rw [decide_eq_false h1, Bool.false_and]
    refine Ct_intro Try.func14 rfl Try.ntmps14 (by simp) _ rfl (fun w0 O0 => ?_)
    repeat (first | refine n1 ?_ | refine n2 (fun b _ => ?_) | refine n3 (fun _ _ => ?_) | refine n4 ?_ | refine n5 ?_ | refine WL_nil ?_ | refine W_seq ?_ | refine W_region ?_ | refine n7 ?_ | refine n8 ?_ | refine W_block ?_ | refine W_skip ?_ | refine W_ret ?_ | refine W_exit ?_ | refine WQ_then ?_ | refine WQ_then_ret ?_ | refine WQ_then_exit ?_ | refine WQ_block_normal ?_ | refine WQ_block_ret ?_ | refine WQ_block_exit ?_ | refine n9 ?_)
    refine WL_runs rfl rfl rfl (R_eqG (cs := f.head.cells) (ds := g.head.cells) (m := 3) (p := f.head = g.head) rfl rfl (by kernel_rfl) rfl (by kernel_rfl) (by kernel_rfl) (by kernel_rfl) (hd_lits _ hf) (hd_lits _ hg) hdL_inj rfl) ?_
    rw [decide_eq_false h1]
    repeat (first | refine n1 ?_ | refine n2 (fun b _ => ?_) | refine n3 (fun _ _ => ?_) | refine n4 ?_ | refine n5 ?_ | refine WL_nil ?_ | refine W_seq ?_ | refine W_region ?_ | refine n7 ?_ | refine n8 ?_ | refine W_block ?_ | refine W_skip ?_ | refine W_ret ?_ | refine W_exit ?_ | refine WQ_then ?_ | refine WQ_then_ret ?_ | refine WQ_then_exit ?_ | refine WQ_block_normal ?_ | refine WQ_block_ret ?_ | refine WQ_block_exit ?_ | refine n9 ?_)
    ((apply ret1 Try.results14 ( ())); (focus (first | trivial | assumption | omega)); (focus (first | exact RV_tmp rfl | (apply RV_cellN; exact rfl; (repeat' (first | exact Pick.head _ _ | apply Pick.tail)); (intro _; exact rfl); (intro _; exact rfl); exact rfl) | (apply RV_cell1; exact rfl; (repeat' (first | exact Pick.head _ _ | apply Pick.tail)); (intro _; exact rfl); exact rfl)));  (focus (first | exact rfl | (simp; done))); (focus (repeat (first | exact SubO.nil _ | (apply SubO.cons; (focus (repeat' (first | exact Pick.head _ _ | apply Pick.tail))))))); (focus (repeat (first | exact AllE.nil _ | (apply AllE.cons; (focus (first | exact ent_nilBy | exact ent_nilSl | (apply Ent.mem; repeat' (first | exact mcs | apply mct)))))))))
end Go.Proofs.Ytglmcnjkcmbefaa.C05

/-
  Rules for walks: a set kept as a map from keys to 'true', made by the call. No program is named here.
-/
namespace Go.Hs
open Go Go.RowKit
/-- the keys of a set, in the order in which they came. -/
def setHas (b : Nat) (ks : List Value) (w : World) : Prop := ∃ es clock, w.heap[b]? = some (.map es clock) ∧ es.toList.map (fun e => (e.key, e.val)) = ks.map (fun k => (k, Value.bool true))
def setA (b : Nat) (ks : List Value) : AbsO where
  fp k := k = b
  holds w := setHas b ks w
  lt := by
    rintro w ⟨es, clock, h, _⟩ k rfl
    exact (Array.getElem?_eq_some_iff.1 h).1
  keep := by
    rintro w w' ⟨es, clock, h, h2⟩ hk
    exact ⟨es, clock, (hk b (Array.getElem?_eq_some_iff.1 h).1 rfl).trans h, h2⟩
section
variable {C : Ctx} {fr : Fr} {Γ Γ' : List OA} {Φ : List SP} {d : Nat} {ty : TypeId} {pos : String} {aft : Array Edge} {g : Option (Nat × Bool)}

theorem E_makeSet {t : TypeId} : Effs C fr Γ Φ ⟨some d, .makeMap t none, ty, pos, aft, g⟩ (X := Nat) (fun _ => True) (fun b => .map (some b)) (fun b => .abs (setA b []) :: Γ) (fun _ => Φ) := by
  refine ⟨fun _ => AllIn.refl _, fun R a w _ hw => .val (w' := w.alloc (.map #[] 0)) ?_ ⟨w.heap.size, trivial, rfl, ?_⟩⟩
  · simp only [execOp, Instr.makeMap, Option.map_none, Sem.run_bind, newObj]
    rfl
  · refine hw.move (Mod.alloc _ w _) ⟨⟨#[], 0, heap_alloc_new w _, rfl⟩, fun k hk hn => ?_, hw.own.keep fun _ hk _ => heap_alloc_old w _ hk⟩ fun k hk hk' => ?_
    · have hk : k = w.heap.size := hk
      have := Own.lt hw.own hn
      omega
    · rcases fpL_cons.1 hk' with hk' | hk'
      · have hk' : k = w.heap.size := hk'
        omega
      · exact hk'

theorem R_lookupSet {t k e : TypeId} {x y : Operand} {b : Nat} {ks : List Value} {v : Value} {l : Lit} (hx : evO fr x = some (.map (some b))) (hy : evO fr y = some v) (hp : Pick (.abs (setA b ks)) Γ Γ')
    (ht : C.P.underlying t = some (.map k e)) (K : Maps.Keyed C.P k) (hv : keyOf C.P k v = some l) (hks : ∀ u ∈ ks, ∃ l, keyOf C.P k u = some l) (hz : ∀ w, (zeroValue e).run C.P w = .ok (.bool false) w) {r : Bool} (hr : r = true ↔ v ∈ ks) :
    Runs C fr Γ Φ ⟨some d, .lookup t x y false, ty, pos, aft, g⟩ (.bool r) := Runs.pure fun a w ha hw => by
  obtain ⟨es, clock, hb, he⟩ : setHas b ks w := (pick_holds hp hw).own.1
  have e1 := evO_sound ha hx
  have e2 := evO_sound ha hy
  have hmem : ∀ en ∈ es.toList, en.key ∈ ks ∧ en.val = .bool true := fun en hen => by
    have h1 : (en.key, en.val) ∈ ks.map (fun k => (k, Value.bool true)) := by rw [← he]; exact List.mem_map.2 ⟨en, hen, rfl⟩
    obtain ⟨u, hu, h2⟩ := List.mem_map.1 h1
    injection h2 with h3 h4
    exact ⟨h3 ▸ hu, h4.symm⟩
  have hback : ∀ u ∈ ks, ∃ en ∈ es.toList, en.key = u := fun u hu => by
    have h1 : (u, Value.bool true) ∈ es.toList.map (fun e => (e.key, e.val)) := by rw [he]; exact List.mem_map.2 ⟨u, hu, rfl⟩
    obtain ⟨en, hen, h2⟩ := List.mem_map.1 h1
    injection h2 with h3 h4
    exact ⟨en, hen, h3⟩
  rcases K.find w hv es.toList (fun en hen => hks _ (hmem en hen).1) with ⟨h1, h2⟩ | ⟨j, en, h1, h2, h3⟩
  · have hr' : r = false := by
      cases r
      · rfl
      · obtain ⟨en, hen, h3⟩ := hback v (hr.1 rfl)
        exact absurd h3 (h2 en hen)
    subst hr'
    simp [execOp, Instr.lookup, e1, e2, run_underlying ht, MapKept.run_getObj_map hb, K.check w _ hv, h1, hz, Result.andThen]
  · have hen := List.mem_of_getElem? h2
    have hr' : r = true := hr.2 (h3 ▸ (hmem en hen).1)
    subst hr'
    have hval := (hmem en hen).2
    simp [execOp, Instr.lookup, e1, e2, run_underlying ht, MapKept.run_getObj_map hb, K.check w _ hv, h1, hval, Result.andThen]

theorem E_setAdd {dst : Option Tmp} {t k e : TypeId} {x y z : Operand} {b : Nat} {ks : List Value} {v : Value} {l : Lit} (hx : evO fr x = some (.map (some b))) (hy : evO fr y = some v) (hz : evO fr z = some (.bool true)) (hp : Pick (.abs (setA b ks)) Γ Γ')
    (ht : C.P.underlying t = some (.map k e)) (K : Maps.Keyed C.P k) (hv : keyOf C.P k v = some l) (hks : ∀ u ∈ ks, ∃ l, keyOf C.P k u = some l) (hn : v ∉ ks) :
    Effs C fr Γ Φ ⟨dst, .mapUpdate t x y z, ty, pos, aft, g⟩ (X := Unit) (fun _ => True) (fun _ => undef) (fun _ => .abs (setA b (ks ++ [v])) :: Γ') (fun _ => Φ) := by
  refine ⟨fun _ => AllIn.refl _, fun R a w ha hw => ?_⟩
  have hw' : Holds C (.abs (setA b ks) :: (Γ' ++ R)) Φ w := hw.perm (hp.append_right R)
  obtain ⟨es, clock, hb, he⟩ : setHas b ks w := hw'.own.1
  have e1 := evO_sound ha hx
  have e2 := evO_sound ha hy
  have e3 := evO_sound ha hz
  have hmem : ∀ en ∈ es.toList, en.key ∈ ks := fun en hen => by
    have h1 : (en.key, en.val) ∈ ks.map (fun k => (k, Value.bool true)) := by rw [← he]; exact List.mem_map.2 ⟨en, hen, rfl⟩
    obtain ⟨u, hu, h2⟩ := List.mem_map.1 h1
    injection h2 with h3 h4
    exact h3 ▸ hu
  rcases K.find w hv es.toList (fun en hen => hks _ (hmem en hen)) with ⟨h1, h2⟩ | ⟨j, en, h1, h2, h3⟩
  · have hlt := (Array.getElem?_eq_some_iff.1 hb).1
    refine .skip (w' := { w with heap := w.heap.setIfInBounds b (.map (es.push { key := v, val := .bool true, born := clock }) (clock + 1)) }) ?_ ⟨(), trivial, rfl, ?_⟩
    · simp [execOp, Instr.mapUpdate, e1, e2, e3, run_underlying ht, MapKept.run_getObj_map hb, K.check w false hv, h1, MapKept.run_setObj_map _ hb, Result.andThen]
    · have hother : ∀ k, k ≠ b → (w.heap.setIfInBounds b (.map (es.push { key := v, val := .bool true, born := clock }) (clock + 1)))[k]? = w.heap[k]? := fun k hk => Array.getElem?_setIfInBounds_ne (fun e => hk e.symm)
      have hm : Mod (fpL (.abs (setA b ks) :: (Γ' ++ R))) w { w with heap := w.heap.setIfInBounds b (.map (es.push { key := v, val := .bool true, born := clock }) (clock + 1)) } :=
        ⟨rfl, rfl, rfl, by simp, fun k _ hk => hother k fun e => hk (fpL_cons.2 (.inl e))⟩
      refine hw'.move hm ⟨⟨_, _, by simp [hlt]; exact ⟨rfl, rfl⟩, by simp [he]⟩, hw'.own.2.1, hw'.own.2.2.keep fun k _ hk => hother k fun e => hw'.own.2.1 k e hk⟩ fun k _ hk => ?_
      rcases fpL_cons.1 hk with hk | hk
      · exact fpL_cons.2 (.inl hk)
      · exact fpL_cons.2 (.inr hk)
  · exact absurd (h3 ▸ hmem en (List.mem_of_getElem? h2)) hn
end
end Go.Hs

/-
  Rules for walks: elements taken out of an own row, in place. No program is named here.
-/
namespace Go.Hs
open Go Go.RowKit
section
variable {C : Ctx} {ops : Array Oper} {l : List Oper} {fr : Fr} {Γ Γ' : List OA} {Φ : List SP} {Q : Exit → Act → World → Prop}
  {d : Nat} {ty : TypeId} {pos : String} {aft : Array Edge} {g : Option (Nat × Bool)}
def cut3V (size lo hi mx : Nat) : Value → Value
  | .slice A _ _ => .slice (if mx = lo then A else A.map (·.add (lo * size))) (hi - lo) (mx - lo)
  | v => v
/-- a part with its capacity named, as a value. -/
theorem R_cut3Row {t e rt : TypeId} {x y z u : Operand} {v : Value} {size n i j k : Nat} {k1 k2 k3 : IntKind} {i1 i2 i3 : Int} {xs : List Value} (hx : evO fr x = some v) (hy : evO fr y = some (.int k1 i1)) (hz : evO fr z = some (.int k2 i2)) (hu : evO fr u = some (.int k3 i3)) (hp : Pick (.row v rt size n xs) Γ Γ')
    (ht : C.P.underlying t = some (.slice e)) (hs : ∀ w, (sizeOf e).run C.P w = .ok size w) (e1 : i1 = (i : Int)) (e2 : i2 = (j : Int)) (e3 : i3 = (k : Int)) (h1 : i ≤ j) (h2 : j ≤ k) (h3 : k ≤ n) :
    Runs C fr Γ Φ ⟨some d, .slice t x (some y) (some z) (some u), ty, pos, aft, g⟩ (cut3V size i j k v) :=
  Runs.pure fun a w ha hw => by
    subst e1; subst e2; subst e3
    obtain ⟨A, c, rfl, hc, _⟩ := row_nil_or (pick_holds hp hw).own.1
    have hkc : k ≤ c := by omega
    simp [execOp, evO_sound ha hx, evO_sound ha hy, evO_sound ha hz, evO_sound ha hu, Instr.sliceAt, Instr.slice, Instr.sliceBounds, Instr.sliceBound, asIntOf, run_underlying ht, hs, h1, h2, hkc, cut3V]
theorem cutV_pre {size m c : Nat} {b n : Nat} : cutV size 0 m (.slice (some ⟨b, 0, none⟩) n c) = .slice (some ⟨b, 0, none⟩) m c := by
  simp only [cutV, Nat.zero_mul, Nat.sub_zero, Option.map_some, Addr.add_lit, Nat.zero_add]
  split <;> rfl
/-- a value that is a slice. -/
def isSl (n : Nat) (v : Value) : Prop := ∃ A c, v = .slice A n c ∧ n ≤ c ∧ c ≤ maxLen
theorem row_isSl {rt : TypeId} {v : Value} {size n : Nat} {xs : List Value} (hp : Pick (.row v rt size n xs) Γ Γ') : ∀ w, Holds C Γ Φ w → isSl n v := fun w hw => by
  obtain ⟨A, c, h, h1, h2, _⟩ := row_nil_or (pick_holds hp hw).own.1
  exact ⟨A, c, h, h1, h2⟩
theorem isSl.pre {n m size : Nat} {v : Value} (h : isSl n v) (hm : m ≤ n) : isSl m (cutV size 0 m v) := by
  obtain ⟨A, c, rfl, h1, h2⟩ := h
  exact ⟨_, _, rfl, by omega, by omega⟩
theorem R_preV {t e : TypeId} {x y : Operand} {v : Value} {size n j : Nat} {kd : IntKind} {ii : Int} (hx : evO fr x = some v) (hy : evO fr y = some (.int kd ii)) (hv : isSl n v)
    (ht : C.P.underlying t = some (.slice e)) (hs : ∀ w, (sizeOf e).run C.P w = .ok size w) (hii : ii = (j : Int)) (hj : j ≤ n) :
    Runs C fr Γ Φ ⟨some d, .slice t x none (some y) none, ty, pos, aft, g⟩ (cutV size 0 j v) :=
  Runs.pure fun a w ha hw => by
    subst hii
    obtain ⟨A, c, rfl, hc, _⟩ := hv
    have h := run_slice_data_h (P := C.P) (w := w) (n := n) (A := A) (c := c) (kh := kd) ht hs (show j ≤ c by omega)
    simp [execOp, evO_sound ha hx, evO_sound ha hy, h, cutV]
theorem R_endV {t e : TypeId} {x y : Operand} {v : Value} {size n j : Nat} {kd : IntKind} {ii : Int} (hx : evO fr x = some v) (hy : evO fr y = some (.int kd ii)) (hv : isSl n v)
    (ht : C.P.underlying t = some (.slice e)) (hs : ∀ w, (sizeOf e).run C.P w = .ok size w) (hii : ii = (j : Int)) (hj : j ≤ n) :
    Runs C fr Γ Φ ⟨some d, .slice t x (some y) none none, ty, pos, aft, g⟩ (cutV size j n v) :=
  Runs.pure fun a w ha hw => by
    subst hii
    obtain ⟨A, c, rfl, hc, _⟩ := hv
    have h := run_slice_data_l (P := C.P) (w := w) (n := n) (A := A) (c := c) (kl := kd) ht hs hj
    simp [execOp, evO_sound ha hx, evO_sound ha hy, h, cutV]
theorem R_lenV {x : Operand} {t e : TypeId} {v : Value} {n : Nat} (hx : evO fr x = some v) (hv : isSl n v) (ht : C.P.underlying t = some (.slice e)) :
    Runs C fr Γ Φ ⟨some d, .call { callee := .builtin .len, args := #[x], argTypes := #[t] }, ty, pos, aft, g⟩ (.int .i64 (n : Int)) :=
  Runs.pure fun a w ha hw => by
    obtain ⟨A, c, rfl, hc, _⟩ := hv
    simp [execOp, resolve, invoke, builtin, Builtin.len_, evO_sound ha hx, run_underlying ht, goInt]
/-- what stands behind the front, as a value. -/
theorem R_backRow {t e rt : TypeId} {x y z : Operand} {v : Value} {size n m : Nat} {k1 k2 : IntKind} {i1 i2 : Int} {xs : List Value} (hx : evO fr x = some (cutV size 0 m v)) (hy : evO fr y = some (.int k1 i1)) (hz : evO fr z = some (.int k2 i2)) (hp : Pick (.row v rt size n xs) Γ Γ')
    (ht : C.P.underlying t = some (.slice e)) (hs : ∀ w, (sizeOf e).run C.P w = .ok size w) (e1 : i1 = (m : Int)) (e2 : i2 = (n : Int)) (hm : m ≤ n) :
    Runs C fr Γ Φ ⟨some d, .slice t x (some y) (some z) none, ty, pos, aft, g⟩ (cutV size m n v) :=
  Runs.pure fun a w ha hw => by
    subst e1; subst e2
    obtain ⟨A, c, rfl, hc, _, hA⟩ := row_nil_or (pick_holds hp hw).own.1
    rcases Nat.eq_zero_or_pos n with h0 | h0
    · subst h0
      obtain rfl : m = 0 := by omega
      have h := run_slice_data (P := C.P) (w := w) (t := t) (n := 0) (A := (if c = 0 then A else A.map (·.add (0 * size)))) (c := c) (lo := 0) (hi := 0) (kl := k1) (kh := k2) ht hs (Nat.le_refl _) (Nat.zero_le _)
      simp only [execOp, evO_sound ha hx, evO_sound ha hy, evO_sound ha hz, cutV, Option.map_some, Option.map_none, Sem.run_bind, Nat.sub_zero]
      rw [h]
      simp only [Result.andThen_ok, Sem.run_pure, Nat.sub_zero]
      congr 3
      by_cases hc0 : c = 0
      · simp [hc0]
      · cases A <;> simp [hc0, add_add']
    · obtain ⟨b, rfl⟩ := hA h0
      have hx' := evO_sound ha hx
      rw [cutV_pre] at hx'
      have h := run_slice_data (P := C.P) (w := w) (t := t) (n := m) (A := some ⟨b, 0, none⟩) (c := c) (lo := m) (hi := n) (kl := k1) (kh := k2) ht hs hm (by omega)
      simp only [execOp, hx', evO_sound ha hy, evO_sound ha hz, Option.map_some, Option.map_none, Sem.run_bind, cutV]
      rw [h]
      simp
/-- an own row cut to its front. -/
theorem Holds.cutRow {rt : TypeId} {v : Value} {size n j : Nat} {xs us : List Value} {w : World} (h : Holds C (.row v rt size n xs :: Γ) Φ w) (hj : j ≤ n) (hu : xs.take (j * size) = us) : Holds C (.row (cutV size 0 j v) rt size j us :: Γ) Φ w := by
  subst hu
  obtain ⟨hl, h2⟩ := h.own.1
  rcases h2 with ⟨rfl, rfl⟩ | ⟨b, cap, cur, rfl, _, hb, hcc, hm, hsz, htk⟩
  · obtain rfl : j = 0 := by omega
    have e : cutV size 0 0 (.slice none 0 0) = .slice none 0 0 := rfl
    rw [e]
    refine h.move (Mod.refl _ _) ⟨⟨by simp, .inl ⟨rfl, rfl⟩⟩, h.own.2.1, h.own.2.2⟩ fun k _ hk => ?_
    rcases fpL_cons.1 hk with hk | hk
    · exact fpL_cons.2 (.inl hk)
    · exact fpL_cons.2 (.inr hk)
  · rw [cutV_pre]
    have hj2 : j * size ≤ n * size := Nat.mul_le_mul_right _ hj
    refine h.move (Mod.refl _ _) ⟨⟨by simp; omega, .inr ⟨b, cap, cur, rfl, Nat.zero_le _, hb, by omega, hm, hsz, ?_⟩⟩, h.own.2.1, h.own.2.2⟩ fun k _ hk => ?_
    · rw [← htk, List.take_take, Nat.min_eq_left hj2]
    · rcases fpL_cons.1 hk with hk | hk
      · exact fpL_cons.2 (.inl hk)
      · exact fpL_cons.2 (.inr hk)
theorem WL_cutRow {rt : TypeId} {v : Value} {size n j : Nat} {xs us : List Value} (hp : Pick (.row v rt size n xs) Γ Γ') (hj : j ≤ n) (hu : xs.take (j * size) = us) (h : WL C ops l fr (.row (cutV size 0 j v) rt size j us :: Γ') Φ Q) : WL C ops l fr Γ Φ Q :=
  fun a w ha hw => h a w ha ((pick_holds hp hw).cutRow hj hu)
/-- the end of an own row appended to its front, in place. -/
theorem E_appendShift {t e : TypeId} {x y : Operand} {v : Value} {size n i j : Nat} {xs us : List Value} {ti : TypeInfo} (hx : evO fr x = some (cutV size 0 i v)) (hy : evO fr y = some (cutV size j n v)) (hp : Pick (.row v e size n xs) Γ Γ')
    (ht : C.P.underlying t = some (.slice e)) (hi : C.P.info? e = some ti) (hsize : ti.size = size) (hij : i ≤ j) (hj : j ≤ n) (hn : 0 < n) (h1 : Ones C Γ Φ xs) (hu : xs.take (i * size) ++ (xs.drop (j * size) ++ xs.drop ((i + (n - j)) * size)) = us) :
    Effs C fr Γ Φ ⟨some d, .call { callee := .builtin .append, args := #[x, y], argTypes := #[t, t] }, ty, pos, aft, g⟩ (X := Unit) (fun _ => True) (fun _ => cutV size 0 (i + (n - j)) v) (fun _ => .row v e size n us :: Γ') (fun _ => Φ) := by
  subst hu
  subst hsize
  refine ⟨fun _ => AllIn.refl _, fun R a w ha hw => ?_⟩
  have hones : ∀ u ∈ xs, u.oneCell' = true := fun u hm => h1 u hm R w hw
  have hw' := pick_holds (pick_app hp R) hw
  obtain ⟨hl, h2⟩ := hw'.own.1
  rcases h2 with ⟨_, rfl⟩ | ⟨b, cap, cur, rfl, _, hb, hcc, hm, hsz, htk⟩
  · omega
  have hcells := World.ownsRow.cells (w := w) (base := 0) hw'.own.1 (g := b) rfl
  have hx' := evO_sound ha hx
  rw [cutV_pre] at hx'
  have hy' := evO_sound ha hy
  rw [cutV_pre]
  have hsum : i * ti.size + (n - j) * ti.size = (i + (n - j)) * ti.size := (Nat.add_mul _ _ _).symm
  have hd : (xs.drop (j * ti.size)).length = (n - j) * ti.size := by rw [List.length_drop, hl, Nat.sub_mul]
  have hle : (i + (n - j)) * ti.size ≤ n * ti.size := Nat.mul_le_mul_right _ (by omega)
  have hle2 : n * ti.size ≤ cap * ti.size := Nat.mul_le_mul_right _ hcc
  have hjn : j * ti.size ≤ n * ti.size := Nat.mul_le_mul_right _ hj
  have hin : i * ti.size ≤ n * ti.size := Nat.mul_le_mul_right _ (by omega)
  obtain ⟨A', c', hyA, hcA⟩ : ∃ (A' : Addr) (c' : Nat), a.eval y = .slice (some A') (n - j) c' ∧ ∀ q u, (xs.drop (j * ti.size))[q]? = some u → w.cell? (A'.add q) = some u := by
    by_cases hcj : cap = j
    · refine ⟨⟨b, 0, none⟩, cap - j, by rw [hy', cutV, if_pos hcj], fun q u hq => ?_⟩
      have hlt := (List.getElem?_eq_some_iff.1 hq).1
      rw [hd, show n - j = 0 by omega, Nat.zero_mul] at hlt
      omega
    · refine ⟨(⟨b, 0, none⟩ : Addr).add (j * ti.size), cap - j, by rw [hy', cutV, if_neg hcj, Option.map_some], fun q u hq => ?_⟩
      rw [Addr.add_lit, Addr.add_lit]
      rw [List.getElem?_drop] at hq
      have := hcells (j * ti.size + q) u hq
      rw [Addr.add_lit] at this
      rw [show 0 + j * ti.size + q = 0 + (j * ti.size + q) by omega]
      exact this
  have hrun := run_append_room (P := C.P) (w := w) t ty e ti ht hi b i cap cur hb A' (n - j) c' (xs.drop (j * ti.size)) hd hcA (fun u hu => hones u (List.mem_of_mem_drop hu)) (by omega) (by rw [hd, hsz, hsum]; omega)
  have hlen : (cur.toList.take (i * ti.size) ++ xs.drop (j * ti.size) ++ cur.toList.drop (i * ti.size + (xs.drop (j * ti.size)).length)).length = cur.size := by
    simp only [List.length_append, List.length_take, List.length_drop, Array.length_toList, hl]
    rw [Nat.sub_mul] at hsum
    omega
  refine .val (v := .slice (some ⟨b, 0, none⟩) (i + (n - j)) cap) (w' := _) ?_ ⟨(), trivial, rfl, setRow_row (new := (cur.toList.take (i * ti.size) ++ xs.drop (j * ti.size) ++ cur.toList.drop (i * ti.size + (xs.drop (j * ti.size)).length)).toArray) hw' hb (by rw [← hlen]; simp) ?_⟩
  · simp only [execOp, resolve, invoke, builtin, Sem.run_bind, Sem.run_pure, Result.andThen_ok, List.map_toArray, List.map_cons, List.map_nil, hx', hyA]
    rw [hrun]
    rfl
  · rw [← htk]
    simp only [List.toList_toArray]
    rw [htk, hd, hsum]
    have e1 : (cur.toList.take (i * ti.size)).length = i * ti.size := by rw [List.length_take, Array.length_toList]; omega
    have e2 : xs.take (i * ti.size) = cur.toList.take (i * ti.size) := by rw [← htk, List.take_take, Nat.min_eq_left hin]
    have e3 : xs.drop ((i + (n - j)) * ti.size) = (cur.toList.drop ((i + (n - j)) * ti.size)).take (n * ti.size - (i + (n - j)) * ti.size) := by rw [← htk, List.drop_take]
    have key : ∀ (A B D D' : List Value) (N : Nat), A.length ≤ N → B.length ≤ N - A.length → D.take (N - A.length - B.length) = D' → (A ++ B ++ D).take N = A ++ (B ++ D') := fun A B D D' N h1 h2 h3 => by
      rw [List.append_assoc, List.take_append, List.take_of_length_le h1, List.take_append, List.take_of_length_le h2, h3]
    rw [e2, e3]
    refine key _ _ _ _ _ (by rw [e1]; exact hin) (by rw [e1, hd]; omega) ?_
    rw [e1, hd]
    congr 1
    omega
end
end Go.Hs

/-
  Rules for walks: pointers into elements of own rows. No program is named here.
-/
namespace Go.Hs
open Go Go.RowKit
section
variable {C : Ctx} {fr : Fr} {Γ Γ' : List OA} {Φ : List SP} {d : Nat} {ty : TypeId} {pos : String} {aft : Array Edge} {g : Option (Nat × Bool)}
theorem row_at {rt : TypeId} {v : Value} {size n i : Nat} {xs : List Value} {w : World} (hp : Pick (.row v rt size n xs) Γ Γ') (hw : Holds C Γ Φ w) (hi : i < n) : ∃ b c, v = .slice (some ⟨b, 0, none⟩) n c ∧ ∀ k u, xs[k]? = some u → w.cell? ⟨b, k, none⟩ = some u := by
  have ho := (pick_holds hp hw).own.1
  obtain ⟨A, c, hv, _, _, hA⟩ := row_nil_or ho
  obtain ⟨b, rfl⟩ := hA (by omega)
  refine ⟨b, c, hv, fun k u hk => ?_⟩
  obtain ⟨b', c', cur, e, _, _, _, _, h0⟩ := row_cell ho hk
  rw [hv] at e
  injection e with e
  injection e with e
  injection e with e
  subst e
  exact h0
theorem R_fieldRowF {t ft rt : TypeId} {fs : Array Field} {x : Operand} {v : Value} {i j n fo bo off size sz : Nat} {xs : List Value} {nm tag pk : String} {emb : Bool} (hx : evO fr x = some (fldV off (idxV size i v)))
    (hp : Pick (.row v rt size n xs) Γ Γ') (hi : i < n)
    (ht : C.P.underlying t = some (.struct fs)) (hf : fs[j]? = some ⟨nm, ft, fo, emb, tag, pk, bo⟩) (hs : ∀ w, (sizeOf ft).run C.P w = .ok sz w) (hn : Nat.beq sz 0 = false) :
    Runs C fr Γ Φ ⟨some d, .fieldAddr t x j, ty, pos, aft, g⟩ (fldV (off + fo) (idxV size i v)) :=
  Runs.pure fun a w ha hw => by
    obtain ⟨b, c, rfl, _⟩ := row_at hp hw hi
    have h := run_fieldAt (P := C.P) (a := ((⟨b, 0, none⟩ : Addr).add (i * size)).add off) ht hf hs hn w
    simp only [execOp, evO_sound ha hx, idxV, fldV, Sem.run_bind, h, Result.andThen_ok, Sem.run_pure]
    simp only [add_add', Nat.add_assoc]
theorem R_nilRow {rt : TypeId} {x : Operand} {v : Value} {i n size : Nat} {xs : List Value} (hx : evO fr x = some (idxV size i v)) (hp : Pick (.row v rt size n xs) Γ Γ') (hi : i < n) :
    Runs C fr Γ Φ ⟨some d, .nilCheck x, ty, pos, aft, g⟩ (idxV size i v) :=
  Runs.pure fun a w ha hw => by
    obtain ⟨b, c, rfl, _⟩ := row_at hp hw hi
    simp [execOp, evO_sound ha hx, idxV]
theorem R_loadRowFN {t rt : TypeId} {x : Operand} {v : Value} {n i off size : Nat} {xs us : List Value} (hx : evO fr x = some (fldV off (idxV size i v))) (hp : Pick (.row v rt size n xs) Γ Γ') (hagg : ∀ w, (isAgg t).run C.P w = .ok true w)
    (hs : ∀ w, (sizeOf t).run C.P w = .ok us.length w) (hi : i < n) (hc : ∀ j u, us[j]? = some u → xs[i * size + off + j]? = some u) : Runs C fr Γ Φ ⟨some d, .load t x, ty, pos, aft, g⟩ (.agg us.toArray) :=
  Runs.pure fun a w ha hw => by
    obtain ⟨b, c, rfl, hcell⟩ := row_at hp hw hi
    have hcell' : ∀ j u, us[j]? = some u → w.cell? ((((⟨b, 0, none⟩ : Addr).add (i * size)).add off).add j) = some u := fun j u hu => by
      rw [Addr.add_lit, Addr.add_lit, Addr.add_lit, Nat.zero_add]
      exact hcell _ u (hc j u hu)
    simp [execOp, evO_sound ha hx, idxV, fldV, Instr.loadAt, Instr.sureAddr, run_loadVar_agg hagg hs hcell']
end
end Go.Hs

/-
  A region that draws its order, in which some operations are free: each makes something of its own, or tells lasting facts, in any order; one walk, in an order of our own, serves every order that the edges allow. No program is named here.
-/
namespace Go.Hs
open Go Go.RowKit

/-- the walk behind the settled beginning: settled operations lean on Γs alone; those of es make or write what is owned; those of us are free. -/
def PF (C : Ctx) (ops : Array Oper) (Γs : List OA) (es us : List Nat) (F : Nat → Value → List SP) (G : Nat → Value → List OA) (Q : Exit → Act → World → Prop) : List Nat → Fr → List OA → List SP → Prop
  | [], fr, Γ, Φ => WQ C .normal fr Γ Φ Q
  | i :: π, fr, Γ, Φ => ∃ o, ops[i]? = some o ∧ dstOk o.dst C.n = true ∧
      ((clsOf es us i = 0 ∧ ∃ v N, (∀ ψ ∈ N, Ent Φ ψ) ∧ ((gv ops fr o.guard = some true ∧ Runs C fr Γs Φ o v) ∨ (gv ops fr o.guard = some false ∧ v = undef)) ∧ PF C ops Γs es us F G Q π (putFr o.dst v fr) Γ (N ++ Φ)) ∨
       (clsOf es us i = 1 ∧ gv ops fr o.guard = some true ∧ ∃ (X : Type) (pf : X → Prop) (vx : X → Value) (Γ' : X → List OA) (Φ' : X → List SP), Effs C fr Γ Φ o pf vx Γ' Φ' ∧
          ∀ x, pf x → (SubO (Γ' x) Γs ∨ (π = [] ∧ ∀ j, j < ops.size → j ≠ i → depOn ops i j = true)) ∧ PF C ops Γs es us F G Q π (putFr o.dst (vx x) fr) (Γ' x) (Φ' x)) ∨
       (clsOf es us i = 2 ∧ ∀ v, PF C ops Γs es us F G Q π (putFr o.dst v fr) (G i v ++ Γ) (F i v ++ Φ)))

/-- a free operation: some value; what is told of it, what is its own. -/
def FreeE (C : Ctx) (fr : Fr) (Φ : List SP) (o : Oper) (F : Value → List SP) (G : Value → List OA) : Prop :=
  ∀ Ψ, Effs C fr [] (Φ ++ Ψ) o (X := Value) (fun _ => True) (fun v => v) G (fun v => F v ++ (Φ ++ Ψ))

def frOn (ops : Array Oper) (val : Nat → Value) (fr0 : Fr) : List Nat → Fr
  | [] => fr0
  | j :: r => putFr (dstAt ops j) (val j) (frOn ops val fr0 r)
def fsOn (F : Nat → Value → List SP) (val : Nat → Value) : List Nat → List SP
  | [] => []
  | j :: r => F j (val j) ++ fsOn F val r
def gsOn (G : Nat → Value → List OA) (val : Nat → Value) : List Nat → List OA
  | [] => []
  | j :: r => G j (val j) ++ gsOn G val r

def FSpec (C : Ctx) (ops : Array Oper) (us : List Nat) (dl : Nat → List Nat) (F : Nat → Value → List SP) (G : Nat → Value → List OA) (fr0 : Fr) (Φ0 : List SP) : Prop :=
  ∀ u ∈ us, ∃ o, ops[u]? = some o ∧ o.guard = none ∧ ∀ val, FreeE C (frOn ops val fr0 (dl u)) (fsOn F val (dl u) ++ Φ0) o (F u) (G u)

theorem fsOn_upd {F : Nat → Value → List SP} {val : Nat → Value} {i : Nat} {v : Value} : ∀ {l : List Nat}, i ∉ l → fsOn F (upd val i v) l = fsOn F val l
  | [], _ => rfl
  | j :: r, h => by
    rw [fsOn, fsOn, fsOn_upd fun hk => h (List.mem_cons_of_mem _ hk), upd_other _ _ fun (e : j = i) => h (List.mem_cons.2 (.inl e.symm))]
theorem gsOn_upd {G : Nat → Value → List OA} {val : Nat → Value} {i : Nat} {v : Value} : ∀ {l : List Nat}, i ∉ l → gsOn G (upd val i v) l = gsOn G val l
  | [], _ => rfl
  | j :: r, h => by
    rw [gsOn, gsOn, gsOn_upd fun hk => h (List.mem_cons_of_mem _ hk), upd_other _ _ fun (e : j = i) => h (List.mem_cons.2 (.inl e.symm))]
theorem fsOn_mem {F : Nat → Value → List SP} {val : Nat → Value} : ∀ {l : List Nat} {j : Nat}, j ∈ l → AllIn (F j (val j)) (fsOn F val l)
  | [], _, h => by cases h
  | k :: r, j, h => fun ψ hψ => by
    rw [fsOn]
    rcases List.mem_cons.1 h with rfl | h
    · exact List.mem_append.2 (.inl hψ)
    · exact List.mem_append.2 (.inr (fsOn_mem h ψ hψ))
theorem fsOn_nil {F : Nat → Value → List SP} {val : Nat → Value} : ∀ {l : List Nat}, (∀ j ∈ l, ∀ v, F j v = []) → fsOn F val l = []
  | [], _ => rfl
  | j :: r, h => by rw [fsOn, h j List.mem_cons_self, fsOn_nil fun k hk => h k (List.mem_cons_of_mem _ hk)]; rfl
theorem fsOn_all {F : Nat → Value → List SP} {val : Nat → Value} {Φ : List SP} : ∀ {l : List Nat}, (∀ j ∈ l, AllIn (F j (val j)) Φ) → AllIn (fsOn F val l) Φ
  | [], _ => fun _ h => by cases h
  | j :: r, h => fun ψ hψ => by
    rcases List.mem_append.1 hψ with h1 | h1
    · exact h j List.mem_cons_self ψ h1
    · exact fsOn_all (fun k hk => h k (List.mem_cons_of_mem _ hk)) ψ h1
theorem fsOn_app {F : Nat → Value → List SP} {val : Nat → Value} : ∀ {l m : List Nat}, fsOn F val (l ++ m) = fsOn F val l ++ fsOn F val m
  | [], _ => rfl
  | j :: r, m => by rw [List.cons_append, fsOn, fsOn, fsOn_app, List.append_assoc]
theorem gsOn_app {G : Nat → Value → List OA} {val : Nat → Value} : ∀ {l m : List Nat}, gsOn G val (l ++ m) = gsOn G val l ++ gsOn G val m
  | [], _ => rfl
  | j :: r, m => by rw [List.cons_append, gsOn, gsOn, gsOn_app, List.append_assoc]

/-- what is asked of the free operations' leanings. -/
structure FitF (ops : Array Oper) (es us s : List Nat) (dl : Nat → List Nat) (F : Nat → Value → List SP) (n : Nat) : Prop where
  dus : ∀ u ∈ us, ∀ j ∈ dl u, j ∈ us ∧ clsOf es us j = 2 ∧ depOn ops u j = true ∧ dstOk (dstAt ops j) n = true
  dep : ∀ u ∈ us, ∀ j, depOn ops u j = true → j ∈ s ∨ j ∈ dl u
  per : ∀ i, i < ops.size → clsOf es us i = 1 → ∀ j ∈ us, depOn ops i j = true ∨ ∀ v, F j v = []

section
variable {C : Ctx} {ops : Array Oper} {es us π0 s : List Nat} {dl : Nat → List Nat} {F : Nat → Value → List SP} {G : Nat → Value → List OA} {fr0 : Fr} {Φ0 : List SP} {Γs : List OA} {Q : Exit → Act → World → Prop}

theorem frOn_fok {a0 : Act} {val : Nat → Value} (h : fok C fr0 (puts ops a0 val s)) : ∀ {l : List Nat}, (∀ j ∈ l, dstOk (dstAt ops j) C.n = true) → fok C (frOn ops val fr0 l) (puts ops a0 val (l ++ s))
  | [], _ => h
  | j :: r, hd => by
    rw [List.cons_append, frOn, puts]
    exact (frOn_fok h fun k hk => hd k (List.mem_cons_of_mem _ hk)).putd (hd j List.mem_cons_self)

/-- the state of a drawn region, held against our walk. -/
structure SF (C : Ctx) (ops : Array Oper) (es us π0 s : List Nat) (F : Nat → Value → List SP) (G : Nat → Value → List OA) (fr0 : Fr) (Φ0 : List SP) (Γs : List OA) (Q : Exit → Act → World → Prop) (a0 : Act) (fuel : Nat) (π ps ex : List Nat) (val : Nat → Value) (fr : Fr) (Γ : List OA) (Φ : List SP)
    (el : List Nat) (listed : Array Bool) (w : World) : Prop where
  plan : π0 = ps.reverse ++ π
  lsz : listed.size = ops.size
  lex : ∀ i, i < ops.size → (listed.getD i false = true ↔ i ∈ ex)
  xlt : ∀ i ∈ ex, i < ops.size
  fu : (π0.filter fun k => !ex.contains k).length ≤ fuel
  xdep : ∀ i ∈ ex, ∀ j, depOn ops i j = true → j ∈ ex
  xps : ∀ i ∈ ex, i ∈ ps ∨ (i ∈ π ∧ i ∈ el)
  early : ∀ i ∈ el, i ∈ ex ∧ i ∈ π ∧ clsOf es us i = 2
  elnd : el.Nodup
  pend : ∀ j ∈ ps, j ∉ ex → Pend C ops Γs a0 val Φ ps j
  frm : fok C fr (puts ops a0 val ps)
  hol : Holds C (Γ ++ gsOn G val el) (fsOn F val el ++ Φ) w
  sub : SubO Γ Γs ∨ (π = [] ∧ ∀ j ∈ ps, j ∈ ex)
  walk : PF C ops Γs es us F G Q π fr Γ Φ
  base : fok C fr0 (puts ops a0 val s)
  sps : ∀ j ∈ s, j ∈ ps
  fct : AllIn Φ0 Φ
  pfct : ∀ j ∈ ps, clsOf es us j = 2 → AllIn (F j (val j)) Φ

theorem allR (Ψ Φ : List SP) : AllIn Φ (Ψ ++ Φ) := fun _ h => List.mem_append.2 (.inr h)
theorem allL (Ψ Φ : List SP) : AllIn Ψ (Ψ ++ Φ) := fun _ h => List.mem_append.2 (.inl h)
theorem AllIn.trans {Ψ Φ Θ : List SP} (h : AllIn Ψ Φ) (k : AllIn Φ Θ) : AllIn Ψ Θ := fun ψ hψ => k ψ (h ψ hψ)
theorem AllIn.app {Ψ Φ Θ : List SP} (h : AllIn Ψ Θ) (k : AllIn Φ Θ) : AllIn (Ψ ++ Φ) Θ := fun ψ hψ => (List.mem_append.1 hψ).elim (h ψ) (k ψ)

theorem SF.proper {a0 : Act} {fuel : Nat} {π ps ex : List Nat} {val : Nat → Value} {fr : Fr} {Γ : List OA} {Φ : List SP} {el : List Nat} {listed : Array Bool} {w : World}
    (T : Fit ops es us π0) (S : SF C ops es us π0 s F G fr0 Φ0 Γs Q a0 fuel π ps ex val fr Γ Φ el listed w) {i : Nat} {o : Oper} (ho : ops[i]? = some o) (hx : i ∉ ex) (hdep : ∀ j, depOn ops i j = true → j ∈ ex) : Proper ops i o ex := by
  refine ⟨hdep, fun k hk => ?_⟩
  obtain ⟨ok, hok⟩ : ∃ ok, ops[k]? = some ok := ⟨_, Array.getElem?_eq_getElem (S.xlt k hk)⟩
  have hne : k ≠ i := fun e => hx (e ▸ hk)
  rcases T.apart k i ok o hne hok ho with h | h | h
  · exact absurd (S.xdep k hk i h) hx
  · exact .inl h
  · exact .inr fun t ht => h t (by rw [← dstAt_eq hok]; exact ht)

/-- what is behind an operation in our order it does not look at. -/
theorem behind (T : Fit ops es us π0) {ps π : List Nat} (hp : π0 = ps.reverse ++ π) {i : Nat} {o : Oper} (ho : ops[i]? = some o) (hi : i ∉ ps) {k : Nat} (hk : k ∈ ps) : depOn ops i k = true ∨ ∀ t, dstAt ops k = some t → t ∉ o.looksAt ops := by
  have hklt := T.lt k (by rw [hp]; simp [hk])
  obtain ⟨ok, hok⟩ : ∃ ok, ops[k]? = some ok := ⟨_, Array.getElem?_eq_getElem hklt⟩
  rcases T.apart k i ok o (fun e => hi (e ▸ hk)) hok ho with h | h | h
  · exfalso
    obtain ⟨l1, l2, hl⟩ := List.append_of_mem (List.mem_reverse.2 hk)
    have h1 := T.ord l1 k (l2 ++ π) (by rw [hp, hl]; simp) i h
    exact hi (List.mem_reverse.1 (by rw [hl]; simp [h1]))
  · exact .inl h
  · exact .inr fun t ht => h t (by rw [← dstAt_eq hok]; exact ht)

/-- one operation is done. -/
theorem SF.step (T : Fit ops es us π0) (TF : FitF ops es us s dl F C.n) (hU : FSpec C ops us dl F G fr0 Φ0) {a0 : Act} {fuel : Nat}
    (ih : ∀ (π ps ex : List Nat) (val : Nat → Value) (fr : Fr) (Γ : List OA) (Φ : List SP) (el : List Nat) (listed : Array Bool) (w : World), SF C ops es us π0 s F G fr0 Φ0 Γs Q a0 fuel π ps ex val fr Γ Φ el listed w → wpAnyIn (fenceOf C.rd) 0 C.P .any ops Q fuel listed (puts ops a0 val ex) w)
    {π ps ex : List Nat} {val : Nat → Value} {fr : Fr} {Γ : List OA} {Φ : List SP} {el : List Nat} {listed : Array Bool} {w : World}
    (S : SF C ops es us π0 s F G fr0 Φ0 Γs Q a0 (fuel + 1) π ps ex val fr Γ Φ el listed w)
    (hst : ∀ h r, π = h :: r → h ∉ ex ∧ clsOf es us h ≠ 0) {i : Nat} (hlt : i < ops.size) (hx : i ∉ ex) (hdep : ∀ j, depOn ops i j = true → j ∈ ex) :
    wpOpIn (fenceOf C.rd) 0 C.P ops Q i (wpAnyIn (fenceOf C.rd) 0 C.P .any ops Q fuel (listed.setIfInBounds i true)) (puts ops a0 val ex) w := by
  obtain ⟨o, ho⟩ : ∃ o, ops[i]? = some o := ⟨_, Array.getElem?_eq_getElem hlt⟩
  have hprop := S.proper T ho hx hdep
  have hi0 := T.all i hlt
  have lsz' : (listed.setIfInBounds i true).size = ops.size := by simp [S.lsz]
  have lex' : ∀ j, j < ops.size → ((listed.setIfInBounds i true).getD j false = true ↔ j ∈ i :: ex) := fun j hj => by
    rw [getD_set_iff S.lsz hlt, S.lex j hj]
    simp
  have xlt' : ∀ j ∈ i :: ex, j < ops.size := fun j hj => by
    rcases List.mem_cons.1 hj with rfl | hj
    · exact hlt
    · exact S.xlt j hj
  have fu' : (π0.filter fun k => !(i :: ex).contains k).length ≤ fuel := by
    have := filter_lt (p := fun k => !ex.contains k) (q := fun k => !(i :: ex).contains k) (fun x hq => by simp at hq ⊢; exact hq.2) hi0 (by simpa using hx) (by simp)
    have := S.fu
    omega
  have xdep' : ∀ k ∈ i :: ex, ∀ j, depOn ops k j = true → j ∈ i :: ex := fun k hk j hj => by
    rcases List.mem_cons.1 hk with rfl | hk
    · exact List.mem_cons_of_mem _ (hdep j hj)
    · exact List.mem_cons_of_mem _ (S.xdep k hk j hj)
  have hmem : i ∈ ps ∨ i ∈ π := by
    rw [S.plan] at hi0
    simpa using hi0
  unfold wpOpIn
  rw [ho]
  show if Region.wanted o (yielded ops (puts ops a0 val ex).tmps) = true then _ else _
  rcases hmem with hmem | hmem
  · -- it waited
    obtain ⟨o', Φj, X, ho', hin, hT, hTp, h⟩ := S.pend i hmem hx
    obtain rfl : o = o' := by rw [ho] at ho'; injection ho' with e
    obtain ⟨e1, e2⟩ := exec_same T (a0 := a0) (val := val) ho hTp hprop
    have next : ∀ w', Holds C (Γ ++ gsOn G val el) (fsOn F val el ++ Φ) w' → SF C ops es us π0 s F G fr0 Φ0 Γs Q a0 fuel π ps (i :: ex) val fr Γ Φ el (listed.setIfInBounds i true) w' := fun w' hw' =>
      { plan := S.plan, lsz := lsz', lex := lex', xlt := xlt', fu := fu', xdep := xdep', elnd := S.elnd, frm := S.frm, hol := hw', sub := S.sub.imp_right (fun h => ⟨h.1, fun j hj => List.mem_cons_of_mem _ (h.2 j hj)⟩), walk := S.walk
        base := S.base, sps := S.sps, fct := S.fct, pfct := S.pfct
        xps := fun k hk => by
          rcases List.mem_cons.1 hk with rfl | hk
          · exact .inl hmem
          · exact S.xps k hk
        early := fun p hp => ⟨List.mem_cons_of_mem _ (S.early p hp).1, (S.early p hp).2⟩
        pend := fun j hj hjx => S.pend j hj fun hk => hjx (List.mem_cons_of_mem _ hk) }
    rcases h with ⟨hw1, hg⟩ | ⟨hw1, hv⟩
    · rw [if_pos (by rw [← e2]; exact hw1)]
      have hG := hg w (sub_holds S.hol (S.sub.resolve_right fun h => hx (h.2 i hmem)) (hin.trans (allR _ _)))
      rw [e1] at hG
      refine hG.wp fun v' w' ⟨hv, hm⟩ => ?_
      subst hv
      have := ih _ _ _ _ _ _ _ _ _ _ (next w' (S.hol.ext hm))
      rw [puts, dstAt_eq ho] at this
      exact this
    · rw [if_neg (by rw [← e2, hw1]; simp)]
      have := ih _ _ _ _ _ _ _ _ _ _ (next w S.hol)
      rw [puts, dstAt_eq ho, hv] at this
      exact ⟨fun f _ => fenceOf_fn _ f, this⟩
  · have hnps : i ∉ ps := fun h => by
      have := T.nodup
      rw [S.plan] at this
      exact (List.nodup_append.1 this).2.2 i (List.mem_reverse.2 h) i hmem rfl
    have hpps : ∀ k ∈ ps, k ≠ i := fun k hk e => hnps (e ▸ hk)
    have hns : i ∉ s := fun h => hnps (S.sps i h)
    by_cases hc : clsOf es us i = 2
    · -- a free operation
      have hius := cls_us hc
      obtain ⟨o', ho', hgd, hsp⟩ := hU i hius
      obtain rfl : o = o' := by rw [ho] at ho'; injection ho' with e
      have hdl := TF.dus i hius
      have hPr : Proper ops i o (dl i ++ s) := by
        refine ⟨fun j hj => List.mem_append.2 ((TF.dep i hius j hj).symm), fun k hk => ?_⟩
        rcases List.mem_append.1 hk with hk | hk
        · exact .inl (hdl k hk).2.2.1
        · exact behind T S.plan ho hnps (S.sps k hk)
      obtain ⟨e1, _⟩ := exec_same T (a0 := a0) (val := val) ho hPr hprop
      rw [if_pos (by simp [Region.wanted, hgd])]
      have hfk := frOn_fok S.base (l := dl i) fun j hj => (hdl j hj).2.2.2
      have hall : AllIn (fsOn F val (dl i) ++ Φ0) (fsOn F val el ++ Φ) := by
        refine AllIn.app (fsOn_all fun j hj => ?_) (S.fct.trans (allR _ _))
        rcases S.xps j (hdep j (hdl j hj).2.2.1) with h | ⟨_, h⟩
        · exact (S.pfct j h (hdl j hj).2.1).trans (allR _ _)
        · exact (fsOn_mem h).trans (allL _ _)
      have hG := (hsp val (fsOn F val el ++ Φ)).2 (Γ ++ gsOn G val el) _ w hfk ⟨S.hol.mod, S.hol.own, S.hol.ofp, S.hol.o0, fun ψ hψ => S.hol.sp ψ ((hall.app (AllIn.refl _)) ψ hψ)⟩
      rw [e1] at hG
      refine hG.wp fun v' w' ⟨x, _, hv, hw'⟩ => ?_
      subst hv
      have hnel : i ∉ el := fun h => hx (S.early i h).1
      have S' : SF C ops es us π0 s F G fr0 Φ0 Γs Q a0 fuel π ps (i :: ex) (upd val i v') fr Γ Φ (i :: el) (listed.setIfInBounds i true) w' :=
        { plan := S.plan, lsz := lsz', lex := lex', xlt := xlt', fu := fu', xdep := xdep', sub := S.sub.imp_right (fun h => ⟨h.1, fun j hj => List.mem_cons_of_mem _ (h.2 j hj)⟩), walk := S.walk
          base := by rw [puts_upd hns]; exact S.base
          sps := S.sps, fct := S.fct
          pfct := fun j hj hj2 => by rw [upd_other _ _ (hpps j hj)]; exact S.pfct j hj hj2
          xps := fun k hk => by
            rcases List.mem_cons.1 hk with rfl | hk
            · exact .inr ⟨hmem, List.mem_cons_self⟩
            · rcases S.xps k hk with h | ⟨h, hA⟩
              · exact .inl h
              · exact .inr ⟨h, List.mem_cons_of_mem _ hA⟩
          early := fun p hp => by
            rcases List.mem_cons.1 hp with rfl | hp
            · exact ⟨List.mem_cons_self, hmem, hc⟩
            · exact ⟨List.mem_cons_of_mem _ (S.early p hp).1, (S.early p hp).2⟩
          elnd := List.nodup_cons.2 ⟨hnel, S.elnd⟩
          pend := fun j hj hjx => (S.pend j hj fun hk => hjx (List.mem_cons_of_mem _ hk)).turn (fun k hk => (upd_other _ _ (hpps k hk)).symm) (upd_other _ _ (hpps j hj)).symm (AllIn.refl _) fun k hk => hk
          frm := by rw [puts_upd hnps]; exact S.frm
          hol := by
            rw [fsOn, gsOn, fsOn_upd hnel, gsOn_upd hnel, upd_same]
            have h1 : Holds C (G i v' ++ (Γ ++ gsOn G val el)) (F i v' ++ fsOn F val el ++ Φ) w' := hw'.sub fun ψ hψ => by
              rw [List.append_assoc] at hψ
              rcases List.mem_append.1 hψ with h | h
              · exact List.mem_append.2 (.inl h)
              · exact List.mem_append.2 (.inr (List.mem_append.2 (.inr h)))
            refine h1.perm ?_
            rw [← List.append_assoc, ← List.append_assoc]
            exact List.Perm.append_right _ List.perm_append_comm }
      have := ih _ _ _ _ _ _ _ _ _ _ S'
      rw [puts, dstAt_eq ho, upd_same, puts_upd hx] at this
      exact this
    · -- the walk's next
      cases hπ : π with
      | nil => rw [hπ] at hmem; cases hmem
      | cons h r =>
        obtain ⟨hhx, hh0⟩ := hst h r hπ
        have hih : i = h := by
          rw [hπ] at hmem
          rcases List.mem_cons.1 hmem with e | hr
          · exact e
          · exact absurd (hdep h (T.eff ps.reverse h r (by rw [S.plan, hπ]) hh0 i hr hc)) hhx
        subst hih
        have hpl := S.walk
        rw [hπ] at hpl
        obtain ⟨o', ho', hdo, hnode⟩ := hpl
        obtain rfl : o = o' := by rw [ho] at ho'; injection ho' with e
        rcases hnode with ⟨h0, _⟩ | ⟨hc1, hgv, X, pf, vx, Γ', Φ', heff, hk⟩ | ⟨h2, _⟩
        · exact absurd h0 hh0
        · have hpprop : Proper ops i o ps := ⟨fun j hj => by simpa using T.ord ps.reverse i r (by rw [S.plan, hπ]) j hj, fun k hk => behind T S.plan ho hnps hk⟩
          obtain ⟨e1, e2⟩ := exec_same T (a0 := a0) (val := val) ho hpprop hprop
          have hnone : fsOn F val el = [] := fsOn_nil fun j hj v => by
            obtain ⟨_, hjπ, hj2⟩ := S.early j hj
            rcases TF.per i hlt hc1 j (cls_us hj2) with h | h
            · have := T.ord ps.reverse i r (by rw [S.plan, hπ]) j h
              have hjp := List.mem_reverse.1 this
              have hnd := T.nodup
              rw [S.plan] at hnd
              exact absurd rfl ((List.nodup_append.1 hnd).2.2 j (List.mem_reverse.2 hjp) j hjπ)
            · exact h v
          rw [if_pos (by rw [← e2]; exact gv_sound S.frm hgv)]
          have hhol := S.hol
          rw [hnone, List.nil_append] at hhol
          have hG := heff.2 _ _ w S.frm hhol
          rw [e1] at hG
          refine hG.wp fun v' w' ⟨x, hpf, hv, hw'⟩ => ?_
          subst hv
          obtain ⟨hsub, hpl'⟩ := hk x hpf
          have hnel : i ∉ el := fun h => hx (S.early i h).1
          have S' : SF C ops es us π0 s F G fr0 Φ0 Γs Q a0 fuel r (i :: ps) (i :: ex) (upd val i (vx x)) (putFr o.dst (vx x) fr) (Γ' x) (Φ' x) el (listed.setIfInBounds i true) w' :=
            { plan := by rw [S.plan, hπ]; simp
              lsz := lsz', lex := lex', xlt := xlt', fu := fu', xdep := xdep', walk := hpl'
              sub := hsub.imp_right (fun h => ⟨h.1, fun j hj => by
                by_cases e : j = i
                · rw [e]; exact List.mem_cons_self
                · rcases List.mem_cons.1 hj with h' | h'
                  · exact absurd h' e
                  · exact List.mem_cons_of_mem _ (hdep j (h.2 j (T.lt j (by rw [S.plan]; simp [h'])) e))⟩)
              elnd := S.elnd
              hol := by rw [fsOn_upd hnel, gsOn_upd hnel, hnone, List.nil_append]; exact hw'
              base := by rw [puts_upd hns]; exact S.base
              sps := fun j hj => List.mem_cons_of_mem _ (S.sps j hj)
              fct := S.fct.trans (heff.1 x)
              pfct := fun j hj hj2 => by
                rcases List.mem_cons.1 hj with rfl | hj
                · exact absurd hj2 hc
                · rw [upd_other _ _ (hpps j hj)]; exact (S.pfct j hj hj2).trans (heff.1 x)
              xps := fun k hk => by
                rcases List.mem_cons.1 hk with rfl | hk
                · exact .inl List.mem_cons_self
                · rcases S.xps k hk with h | ⟨h, hA⟩
                  · exact .inl (List.mem_cons_of_mem _ h)
                  · rw [hπ] at h
                    rcases List.mem_cons.1 h with h | h
                    · exact absurd (h ▸ hk) hx
                    · exact .inr ⟨h, hA⟩
              early := fun p hp => by
                obtain ⟨h1, h2, h3⟩ := S.early p hp
                refine ⟨List.mem_cons_of_mem _ h1, ?_, h3⟩
                rw [hπ] at h2
                exact (List.mem_cons.1 h2).resolve_left fun e => hx (e ▸ h1)
              pend := fun j hj hjx => by
                rcases List.mem_cons.1 hj with rfl | hj
                · exact absurd List.mem_cons_self hjx
                · exact (S.pend j hj fun hk => hjx (List.mem_cons_of_mem _ hk)).turn (fun k hk => (upd_other _ _ (hpps k hk)).symm) (upd_other _ _ (hpps j hj)).symm (heff.1 x) fun k hk => List.mem_cons_of_mem _ hk
              frm := by
                rw [puts, upd_same, puts_upd hnps, dstAt_eq ho]
                exact S.frm.putd hdo }
          have := ih _ _ _ _ _ _ _ _ _ _ S'
          rw [puts, dstAt_eq ho, upd_same, puts_upd hx] at this
          exact this
        · exact absurd h2 hc
theorem SF.ready {a0 : Act} {fuel : Nat} {π ps ex : List Nat} {val : Nat → Value} {fr : Fr} {Γ : List OA} {Φ : List SP} {el : List Nat} {listed : Array Bool} {w : World}
    (T : Fit ops es us π0) (S : SF C ops es us π0 s F G fr0 Φ0 Γs Q a0 fuel π ps ex val fr Γ Φ el listed w) {i : Nat} (h : i ∈ Region.ready .any ops listed) : i < ops.size ∧ i ∉ ex ∧ ∀ j, depOn ops i j = true → j ∈ ex := by
  obtain ⟨hlt, hl, o, ho, hall⟩ := ready_mem h
  refine ⟨hlt, fun hx => ?_, fun j hj => ?_⟩
  · have := (S.lex i hlt).2 hx
    have hlt' : i < listed.size := by rw [S.lsz]; exact hlt
    simp [Array.getD_eq_getD_getElem?, hlt'] at this hl
    rw [this] at hl
    cases hl
  · obtain ⟨o', e, ho', he, hb, hor⟩ := T.clos i j hlt hj
    obtain rfl : o = o' := by rw [ho] at ho'; injection ho' with e
    have hle := hall e he hb
    have helt : e.on < ops.size := by
      rcases Nat.lt_or_ge e.on ops.size with h | h
      · exact h
      · have : listed[e.on]? = none := Array.getElem?_eq_none (by rw [S.lsz]; exact h)
        simp [Array.getD_eq_getD_getElem?, this] at hle
    have hex := (S.lex e.on helt).1 hle
    rcases hor with rfl | hor
    · exact hex
    · exact S.xdep _ hex j hor

/-- nothing is ready: all is done. -/
theorem SF.done {a0 : Act} {fuel : Nat} {π ps ex : List Nat} {val : Nat → Value} {fr : Fr} {Γ : List OA} {Φ : List SP} {el : List Nat} {listed : Array Bool} {w : World}
    (T : Fit ops es us π0) (S : SF C ops es us π0 s F G fr0 Φ0 Γs Q a0 fuel π ps ex val fr Γ Φ el listed w) (hr : Region.ready .any ops listed = []) : ∀ i ∈ π0, i ∈ ex := by
  have key : ∀ n l1 i l2, l1.length = n → π0 = l1 ++ i :: l2 → i ∈ ex := by
    intro n
    induction n using Nat.strongRecOn with
    | _ n ih =>
      intro l1 i l2 hn hl
      have hlt := T.lt i (by rw [hl]; simp)
      obtain ⟨o, ho⟩ : ∃ o, ops[i]? = some o := ⟨_, Array.getElem?_eq_getElem hlt⟩
      rcases Classical.em (i ∈ ex) with hx | hx
      · exact hx
      · exfalso
        have : i ∈ Region.ready .any ops listed := by
          refine mem_ready.2 ⟨?_, o, ho, fun e he hb => ?_⟩
          · have hlt' : i < listed.size := by rw [S.lsz]; exact hlt
            have h2 : ¬ listed.getD i false = true := fun h => hx ((S.lex i hlt).1 h)
            simp [Array.getD_eq_getD_getElem?, hlt'] at h2 ⊢
            exact h2
          · have hd := T.edge i o e ho he hb
            have hm := T.ord l1 i l2 hl e.on hd
            obtain ⟨m1, m2, hm2⟩ := List.append_of_mem hm
            have helt := T.lt e.on (by rw [hl, hm2]; simp)
            refine (S.lex e.on helt).2 (ih m1.length (by rw [← hn, hm2]; simp) m1 e.on (m2 ++ i :: l2) rfl (by rw [hl, hm2]; simp))
        rw [hr] at this
        cases this
  intro i hi
  obtain ⟨l1, l2, hl⟩ := List.append_of_mem hi
  exact key _ l1 i l2 rfl hl

theorem SF.fin {a0 : Act} {fuel : Nat} {π ps ex : List Nat} {val : Nat → Value} {fr : Fr} {Γ : List OA} {Φ : List SP} {el : List Nat} {listed : Array Bool} {w : World}
    (T : Fit ops es us π0) (S : SF C ops es us π0 s F G fr0 Φ0 Γs Q a0 fuel π ps ex val fr Γ Φ el listed w) (hst : ∀ h r, π = h :: r → h ∉ ex ∧ clsOf es us h ≠ 0) (hall : ∀ i ∈ π0, i ∈ ex) : Q .normal (puts ops a0 val ex) w := by
  have hπ : π = [] := by
    cases hπ : π with
    | nil => rfl
    | cons h r => exact absurd (hall h (by rw [S.plan, hπ]; simp)) (hst h r hπ).1
  subst hπ
  have hel : el = [] := by
    cases el with
    | nil => rfl
    | cons p r => have := (S.early p List.mem_cons_self).2.1; cases this
  subst hel
  have hw := S.walk
  refine hw _ w (fok_same T (fun j => ⟨fun h => hall j (by rw [S.plan]; simp [h]), fun h => ?_⟩) S.frm) (by simpa [gsOn, fsOn] using S.hol)
  rcases S.xps j h with h | ⟨h, _⟩
  · exact h
  · cases h

/-- what can be settled is settled, ahead of the next step. -/
theorem SF.settle (T : Fit ops es us π0) {a0 : Act} {fuel : Nat} {listed : Array Bool} {w : World} {ex : List Nat} {K : (Nat → Value) → Prop}
    (hK : ∀ (π ps : List Nat) (val : Nat → Value) (fr : Fr) (Γ : List OA) (Φ : List SP) (el : List Nat), SF C ops es us π0 s F G fr0 Φ0 Γs Q a0 fuel π ps ex val fr Γ Φ el listed w → (∀ h r, π = h :: r → h ∉ ex ∧ clsOf es us h ≠ 0) → K val)
    (hKc : ∀ val val', (∀ k ∈ ex, val k = val' k) → K val' → K val) :
    ∀ (π ps : List Nat) (val : Nat → Value) (fr : Fr) (Γ : List OA) (Φ : List SP) (el : List Nat), SF C ops es us π0 s F G fr0 Φ0 Γs Q a0 fuel π ps ex val fr Γ Φ el listed w → K val := by
  intro π
  induction π with
  | nil => exact fun ps val fr Γ Φ el S => hK _ _ _ _ _ _ _ S fun h r e => by cases e
  | cons i r ih =>
    intro ps val fr Γ Φ el S
    have hnd := T.nodup
    rw [S.plan] at hnd
    have hnps : i ∉ ps := fun h => (List.nodup_append.1 hnd).2.2 i (List.mem_reverse.2 h) i List.mem_cons_self rfl
    have hpps : ∀ k ∈ ps, k ≠ i := fun k hk e => hnps (e ▸ hk)
    have hns : i ∉ s := fun h => hnps (S.sps i h)
    obtain ⟨o, ho, hdo, hnode⟩ := S.walk
    have hpprop : Proper ops i o ps := ⟨fun j hj => by simpa using T.ord ps.reverse i r S.plan j hj, fun k hk => behind T S.plan ho hnps hk⟩
    rcases hnode with ⟨h0, v, N, hN, hrun, hpl⟩ | ⟨h1, _⟩ | ⟨h2, hpl⟩
    · -- settled by what is known
      have hix : i ∉ ex := fun h => by
        rcases S.xps i h with h | ⟨_, hA⟩
        · exact hnps h
        · have := (S.early _ hA).2.2
          rw [h0] at this
          cases this
      have hnel : i ∉ el := fun h => hix (S.early i h).1
      have hin : AllIn Φ (N ++ Φ) := fun ψ hψ => List.mem_append.2 (.inr hψ)
      refine hKc val (upd val i v) (fun k hk => (upd_other _ _ (fun (e : k = i) => hix (e ▸ hk))).symm) (ih (i :: ps) (upd val i v) (putFr o.dst v fr) Γ (N ++ Φ) el
        { plan := by rw [S.plan]; simp
          lsz := S.lsz, lex := S.lex, xlt := S.xlt, fu := S.fu, xdep := S.xdep, elnd := S.elnd, sub := .inl (S.sub.resolve_right fun h => by cases h.1), walk := hpl
          base := by rw [puts_upd hns]; exact S.base
          sps := fun j hj => List.mem_cons_of_mem _ (S.sps j hj)
          fct := S.fct.trans hin
          pfct := fun j hj hj2 => by
            rcases List.mem_cons.1 hj with rfl | hj
            · rw [h0] at hj2; cases hj2
            · rw [upd_other _ _ (hpps j hj)]; exact (S.pfct j hj hj2).trans hin
          hol := by
            rw [fsOn_upd hnel, gsOn_upd hnel]
            exact ⟨S.hol.mod, S.hol.own, S.hol.ofp, S.hol.o0, fun ψ hψ => by
              rcases List.mem_append.1 hψ with hψ | hψ
              · exact S.hol.sp ψ (List.mem_append.2 (.inl hψ))
              · rcases List.mem_append.1 hψ with hψ | hψ
                · exact hN ψ hψ _ _ fun χ hχ => S.hol.sp χ (List.mem_append.2 (.inr hχ))
                · exact S.hol.sp ψ (List.mem_append.2 (.inr hψ))⟩
          xps := fun k hk => by
            rcases S.xps k hk with h | ⟨h, A⟩
            · exact .inl (List.mem_cons_of_mem _ h)
            · exact .inr ⟨(List.mem_cons.1 h).resolve_left (fun (e : k = i) => hix (by rw [← e]; exact hk)), A⟩
          early := fun p hp => by
            obtain ⟨h1, h2, h3⟩ := S.early p hp
            exact ⟨h1, (List.mem_cons.1 h2).resolve_left fun e => hix (e ▸ h1), h3⟩
          pend := fun j hj hjx => by
            rcases List.mem_cons.1 hj with rfl | hj
            · refine ⟨o, Φ, ps, ho, hin, fun k hk => List.mem_cons_of_mem _ hk, hpprop, ?_⟩
              rw [puts_upd hnps, upd_same]
              rcases hrun with ⟨hg, hr⟩ | ⟨hg, hv⟩
              · refine .inl ⟨gv_sound S.frm hg, fun w' hw' => hr _ w' S.frm hw'⟩
              · exact .inr ⟨gv_sound S.frm hg, hv⟩
            · exact (S.pend j hj hjx).turn (fun k hk => (upd_other _ _ (hpps k hk)).symm) (upd_other _ _ (hpps j hj)).symm hin fun k hk => List.mem_cons_of_mem _ hk
          frm := by
            rw [puts, upd_same, puts_upd hnps, dstAt_eq ho]
            exact S.frm.putd hdo })
    · exact hK _ _ _ _ _ _ _ S fun h r' e => by
        injection e with e1 e2
        subst e1
        refine ⟨fun hx => ?_, by rw [h1]; decide⟩
        rcases S.xps i hx with h | ⟨_, hA⟩
        · exact hnps h
        · have := (S.early _ hA).2.2
          rw [h1] at this
          cases this
    · by_cases hx : i ∈ ex
      · -- what was done ahead takes its place
        have hA : i ∈ el := by
          rcases S.xps i hx with h | ⟨_, h⟩
          · exact absurd h hnps
          · exact h
        obtain ⟨e1, e2, hel⟩ := List.append_of_mem hA
        have hnd2 := S.elnd
        rw [hel] at hnd2
        have hni : ∀ p ∈ e1 ++ e2, p ≠ i := fun p hp e => by
          rw [List.nodup_append] at hnd2
          obtain ⟨_, h2, h3⟩ := hnd2
          rcases List.mem_append.1 hp with hp | hp
          · exact h3 p hp i List.mem_cons_self e
          · exact (List.nodup_cons.1 h2).1 (e ▸ hp)
        have hback : ∀ p ∈ e1 ++ e2, p ∈ el := fun p hp => by
          rw [hel]
          rcases List.mem_append.1 hp with h | h
          · exact List.mem_append.2 (.inl h)
          · exact List.mem_append.2 (.inr (List.mem_cons_of_mem _ h))
        have hin : AllIn Φ (F i (val i) ++ Φ) := allR _ _
        refine ih (i :: ps) val (putFr o.dst (val i) fr) (G i (val i) ++ Γ) (F i (val i) ++ Φ) (e1 ++ e2)
          { plan := by rw [S.plan]; simp
            lsz := S.lsz, lex := S.lex, xlt := S.xlt, fu := S.fu, xdep := S.xdep, walk := hpl (val i)
            base := S.base
            sps := fun j hj => List.mem_cons_of_mem _ (S.sps j hj)
            fct := S.fct.trans hin
            pfct := fun j hj hj2 => by
              rcases List.mem_cons.1 hj with rfl | hj
              · exact allL _ _
              · exact (S.pfct j hj hj2).trans hin
            sub := by
              obtain ⟨X, hX⟩ := S.sub.resolve_right fun h => by cases h.1
              refine .inl ⟨G i (val i) ++ X, (List.Perm.append_left _ hX).trans ?_⟩
              rw [← List.append_assoc, ← List.append_assoc]
              exact List.Perm.append_right _ List.perm_append_comm
            elnd := by
              rw [List.nodup_append] at hnd2 ⊢
              obtain ⟨h1, h2, h3⟩ := hnd2
              exact ⟨h1, (List.nodup_cons.1 h2).2, fun a ha b hb => h3 a ha b (List.mem_cons_of_mem _ hb)⟩
            hol := by
              have hh := S.hol
              rw [hel, fsOn_app, gsOn_app, fsOn, gsOn] at hh
              rw [fsOn_app, gsOn_app]
              have h1 := hh.sub (Ψ := fsOn F val e1 ++ fsOn F val e2 ++ (F i (val i) ++ Φ)) fun ψ hψ => by
                simp only [List.mem_append] at hψ ⊢
                rcases hψ with (h | h) | h | h
                · exact .inl (.inl h)
                · exact .inl (.inr (.inr h))
                · exact .inl (.inr (.inl h))
                · exact .inr h
              refine h1.perm ?_
              generalize gsOn G val e1 = A1
              generalize gsOn G val e2 = A2
              generalize G i (val i) = B
              have p1 : (A1 ++ (B ++ A2)).Perm (B ++ (A1 ++ A2)) := by
                rw [← List.append_assoc, ← List.append_assoc]
                exact List.Perm.append_right _ List.perm_append_comm
              refine (List.Perm.append_left Γ p1).trans ?_
              rw [← List.append_assoc]
              exact List.Perm.append_right _ List.perm_append_comm
            xps := fun k hk => by
              rcases S.xps k hk with h | ⟨h, hA'⟩
              · exact .inl (List.mem_cons_of_mem _ h)
              · by_cases e : k = i
                · exact .inl (e ▸ List.mem_cons_self)
                · refine .inr ⟨(List.mem_cons.1 h).resolve_left e, ?_⟩
                  rw [hel] at hA'
                  rcases List.mem_append.1 hA' with h | h
                  · exact List.mem_append.2 (.inl h)
                  · rcases List.mem_cons.1 h with h | h
                    · exact absurd h e
                    · exact List.mem_append.2 (.inr h)
            early := fun p hp => by
              obtain ⟨h1, h2, h3⟩ := S.early p (hback p hp)
              exact ⟨h1, (List.mem_cons.1 h2).resolve_left (hni p hp), h3⟩
            pend := fun j hj hjx => by
              rcases List.mem_cons.1 hj with rfl | hj
              · exact absurd hx hjx
              · exact (S.pend j hj hjx).turn (fun _ _ => rfl) rfl hin fun k hk => List.mem_cons_of_mem _ hk
            frm := by
              rw [puts, dstAt_eq ho]
              exact S.frm.putd hdo }
      · exact hK _ _ _ _ _ _ _ S fun h r' e => by
          injection e with e1 e2
          subst e1
          exact ⟨hx, by rw [h2]; decide⟩

/-- the settled beginning; what is known behind it serves the free operations. -/
def PS (C : Ctx) (ops : Array Oper) (Γs : List OA) (es us : List Nat) (Γ : List OA) (K : Fr → List SP → Prop) : List Nat → Fr → List SP → Prop
  | [], fr, Φ => K fr Φ
  | i :: s, fr, Φ => ∃ o, ops[i]? = some o ∧ dstOk o.dst C.n = true ∧ clsOf es us i = 0 ∧ ∃ v N, (∀ ψ ∈ N, Ent Φ ψ) ∧ ((gv ops fr o.guard = some true ∧ Runs C fr Γs Φ o v) ∨ (gv ops fr o.guard = some false ∧ v = undef)) ∧ PS C ops Γs es us Γ K s (putFr o.dst v fr) (N ++ Φ)

/-- the free operations' leanings, by reckoning: nf names those of which nothing is told. -/
def chkF (ops : Array Oper) (es us s nf : List Nat) (dl : Nat → List Nat) (n : Nat) : Bool :=
  let D := Region.before ops
  D.size == ops.size && (us.all fun u => ((dl u).all fun j => us.contains j && clsOf es us j == 2 && (D.getD u 0).testBit j && dstOk (dstAt ops j) n) && ((List.range ops.size).all fun j => !((D.getD u 0).testBit j) || s.contains j || (dl u).contains j)) &&
  ((List.range ops.size).all fun i => clsOf es us i != 1 || us.all fun j => (D.getD i 0).testBit j || nf.contains j)

end
end Go.Hs

/-
  The steps of a walk through a region with free operations. No program is named here.
-/
namespace Go.Hs
open Go Go.RowKit
section
variable {C : Ctx} {ops : Array Oper} {o : Oper} {d : Nat} {v : Value} {fr fr0 fr1 : Fr} {Γ Γs : List OA} {Φ : List SP} {Q : Exit → Act → World → Prop} {ψ : SP}
  {X : Type} {pf : X → Prop} {vx : X → Value} {Γ' : X → List OA} {Φ' : X → List SP} {es us π s : List Nat} {i : Nat} {F : Nat → Value → List SP} {G : Nat → Value → List OA} {K : Fr → List SP → Prop}

/-- the frame of a free operation, reckoned to the end. -/
def frOnO (ops : Array Oper) (val : Nat → Value) (fr0 : Fr) : List Nat → Option Fr
  | [] => some fr0
  | j :: r => match lget ops.toList j with
    | some o => match o.dst with
      | some d => match frOnO ops val fr0 r with
        | some f => some ((d, val j) :: f)
        | none => none
      | none => frOnO ops val fr0 r
    | none => none
theorem frOnO_eq {val : Nat → Value} : ∀ {l : List Nat} {f : Fr}, frOnO ops val fr0 l = some f → frOn ops val fr0 l = f
  | [], f, h => by injection h
  | j :: r, f, h => by
    rw [frOn]
    rw [frOnO] at h
    cases ho : lget ops.toList j with
    | none => rw [ho] at h; cases h
    | some o =>
      rw [ho] at h
      rw [dstAt_eq (lget_ops ho)]
      simp only at h
      cases hd : o.dst with
      | none => rw [hd] at h; exact frOnO_eq h
      | some d =>
        rw [hd] at h
        simp only at h
        cases hr : frOnO ops val fr0 r with
        | none => rw [hr] at h; cases h
        | some g =>
          rw [hr] at h
          injection h with h
          rw [← h, frOnO_eq hr]
          rfl

theorem FSpec.nil {dl : Nat → List Nat} {Φ0 : List SP} : FSpec C ops [] dl F G fr0 Φ0 := fun _ h => by cases h
theorem FSpec.cons {u : Nat} {dl : Nat → List Nat} {Φ0 : List SP} {frv : (Nat → Value) → Fr} {Φv : (Nat → Value) → List SP → List SP} {Φw : List SP → List SP} (ho : lget ops.toList u = some o) (hg : o.guard = none)
    (hf : ∀ val, frOnO ops val fr0 (dl u) = some (frv val)) (hw : ∀ Ψ, appO Φ0 Ψ = some (Φw Ψ)) (hv : ∀ val Ψ, appO (fsOn F val (dl u)) (Φw Ψ) = some (Φv val Ψ))
    (h : ∀ val Ψ, Effs C (frv val) [] (Φv val Ψ) o (X := Value) (fun _ => True) (fun v => v) (G u) (fun v => F u v ++ Φv val Ψ)) (k : FSpec C ops us dl F G fr0 Φ0) : FSpec C ops (u :: us) dl F G fr0 Φ0 := fun j hj => by
  rcases List.mem_cons.1 hj with rfl | hj
  · refine ⟨o, lget_ops ho, hg, fun val Ψ => ?_⟩
    rw [frOnO_eq (hf val), List.append_assoc, appO_eq (hw Ψ), appO_eq (hv val Ψ)]
    exact h val Ψ
  · exact k j hj

/-- what is made is told as lasting. -/
theorem Effs.tell {o : Oper} {Γ1 : List OA} {pf : Value → Prop} {vx : Value → Value} {t : TypeId} {size n : Nat} {xs : List Value} (h : Effs C fr Γ Φ o (X := Value) pf vx (fun v => .row (vx v) t size n xs :: Γ1) (fun _ => Φ)) : Effs C fr Γ Φ o (X := Value) pf vx (fun _ => Γ1) (fun v => Sl size (vx v) n xs :: Φ) :=
  ⟨fun _ ψ hψ => List.mem_cons_of_mem _ hψ, fun R a w ha hw => (h.2 R a w ha hw).mono fun _ _ ⟨x, hp, hv, hw'⟩ => ⟨x, hp, hv, Holds.letgo hw'⟩⟩
theorem Effs.tellB {o : Oper} {Γ1 : List OA} {pf : Value → Prop} {vx : Value → Value} {t : TypeId} {n : Nat} {xs : List Value} {bs : List UInt8} (h : Effs C fr Γ Φ o (X := Value) pf vx (fun v => .row (vx v) t 1 n xs :: Γ1) (fun _ => Φ)) (hb : xs = bs.map bcell) : Effs C fr Γ Φ o (X := Value) pf vx (fun _ => Γ1) (fun v => By (vx v) bs :: Φ) :=
  ⟨fun _ ψ hψ => List.mem_cons_of_mem _ hψ, fun R a w ha hw => (h.2 R a w ha hw).mono fun _ _ ⟨x, hp, hv, hw'⟩ => ⟨x, hp, hv, Holds.letgoB hw' hb⟩⟩
end
end Go.Hs

/-
  Rules for walks: an operation with a settled value, taken as an effect.
-/
namespace Go.Hs
open Go Go.RowKit
theorem SubO.self : ∀ Γ : List OA, SubO Γ Γ
  | [] => SubO.nil _
  | _ :: Γ => SubO.cons (Pick.head _ _) (SubO.self Γ)
theorem Effs.runs {C : Ctx} {fr : Fr} {Γ : List OA} {Φ : List SP} {o : Oper} {v : Value} (h : Runs C fr Γ Φ o v) : Effs C fr Γ Φ o (X := Unit) (fun _ => True) (fun _ => v) (fun _ => Γ) (fun _ => Φ) := by
  refine ⟨fun _ ψ hψ => hψ, fun R a w ha hw => ?_⟩
  refine (h a w ha (sub_holds hw (SubO.self Γ) (fun _ h => h))).mono fun v' w' ⟨e, m⟩ => ⟨(), trivial, e, hw.ext m⟩
end Go.Hs

/-
  Bytes copied into a part of an own block.
-/
namespace Go.Hs
open Go Go.RowKit
section
variable {C : Ctx} {fr : Fr} {Γ Γ' : List OA} {Φ : List SP} {d : Tmp} {ty : TypeId} {pos : String} {aft : Array Edge} {g : Option (Nat × Bool)}
end
end Go.Hs

/-
  The cursor that reads a header.
-/
namespace Go.Proofs.Ytglmcnjkcmbefaa.C05
open Go Go.RowKit Go.Hs
abbrev Cu := List UInt8 × Bool
def tkV (c : Cu) (n : Nat) : List UInt8 := if n ≤ c.1.length then c.1.take n else List.replicate n 0
def tkC (c : Cu) (n : Nat) : Cu := if n ≤ c.1.length then (c.1.drop n, c.2) else ([], true)
def c2N (l : List UInt8) : Nat := (l.getD 0 0).toNat + 256 * (l.getD 1 0).toNat
attribute [local irreducible] WL W WQ PL Runs Effs AllE Ent SubO FrIn Pick OneC Ones CellsE PartsE SeqE UZ By Sl Pt Ct

end Go.Proofs.Ytglmcnjkcmbefaa.C05

/-
  'Decode', the code's.
-/
namespace Go.Proofs.Ytglmcnjkcmbefaa.C05
open Go Go.RowKit Go.Hs
def flg (b : UInt8) (i : Nat) : Bool := decide (b.toNat / 2 ^ i % 2 = 1)
def flq (n : Nat) (i : Nat) : Bool := decide (n / 2 ^ i % 2 = 1)
def hdA (b0 b1 : UInt8) : Hd := ⟨UInt8.ofNat (b0.toNat / 4 % 4), UInt8.ofNat (b0.toNat / 16), flg b1 0, flg b1 1, flg b1 2, flg b1 3, flg b1 4, flg b1 5, flg b1 6, 0, zA6, zA6, zA6, zA6, 0, 0, 0, 0, false, false⟩
def setA (h : Hd) (i : Nat) (a : A6) : Hd := match i with
  | 0 => { h with a1 := a }
  | 1 => { h with a2 := a }
  | 2 => { h with a3 := a }
  | _ => { h with a4 := a }
def a6v (l : List UInt8) : A6 := ⟨l.getD 0 0, l.getD 1 0, l.getD 2 0, l.getD 3 0, l.getD 4 0, l.getD 5 0⟩
def adC (c : Cu) : Nat → Cu
  | 0 => c
  | i + 1 => tkC (adC c i) 6
def adH (c : Cu) (h : Hd) : Nat → Hd
  | 0 => h
  | i + 1 => setA (adH c h i) i (a6v (tkV (adC c i) 6))
def s1 (ys : List UInt8) : Cu := tkC (ys, false) 2
def dB (ys : List UInt8) (i : Nat) : UInt8 := (tkV (ys, false) 2).getD i 0
def hA (ys : List UInt8) : Hd := hdA (dB ys 0) (dB ys 1)
def s2 (ys : List UInt8) : Cu := tkC (s1 ys) 2
def setD (h : Hd) (n : Int) : Hd := { h with dur := n }
def hB (ys : List UInt8) : Hd := setD (hA ys) (c2N (tkV (s1 ys) 2))
def s3 (ys : List UInt8) : Cu := adC (s2 ys) (befN (hA ys))
def hC (ys : List UInt8) : Hd := adH (s2 ys) (hB ys) (befN (hA ys))
def setS (h : Hd) (v : Nat) : Hd := { h with seq := ((v / 16 : Nat) : Int), frag := ((v % 16 : Nat) : Int) }
def stS (p : Bool) (c : Cu) : Cu := bif p then tkC c 2 else c
def stH (p : Bool) (c : Cu) (h : Hd) : Hd := bif p then setS h (c2N (tkV c 2)) else h
def s4 (ys : List UInt8) : Cu := stS (prtB (hA ys).kind) (s3 ys)
def hD (ys : List UInt8) : Hd := stH (prtB (hA ys).kind) (s3 ys) (hC ys)
def ftS (p : Bool) (c : Cu) : Cu := bif p then tkC c 6 else c
def ftH (p : Bool) (c : Cu) (h : Hd) : Hd := bif p then setA h 3 (a6v (tkV c 6)) else h
def s5 (ys : List UInt8) : Cu := ftS (fourB (hA ys)) (s4 ys)
def hE (ys : List UInt8) : Hd := ftH (fourB (hA ys)) (s4 ys) (hD ys)
def setQ (h : Hd) (q : Nat) : Hd := { h with tid := ((q % 8 : Nat) : Int), eosp := flq q 4, ack := UInt8.ofNat (q / 32 % 4), amsdu := flq q 7 }
def qtH (p : Bool) (c : Cu) (h : Hd) : Hd := bif p then setQ h (c2N (tkV c 2)) else h
def oddV (q : Nat) : Bool := flq q 3 || decide (q / 256 ≠ 0)
def oddP (p : Bool) (c : Cu) : Bool := bif p then oddV (c2N (tkV c 2)) else false
def trB (ys : List UInt8) : Bool := trafB (hA ys).kind (hA ys).sub
def s6 (ys : List UInt8) : Cu := stS (trB ys) (s5 ys)
def hF (ys : List UInt8) : Hd := qtH (trB ys) (s5 ys) (hE ys)
def oddB (ys : List UInt8) : Bool := oddP (trB ys) (s5 ys)
def refB (ys : List UInt8) : Bool := oddB ys || (!hdB (hF ys) || (barB (hF ys) && decide (0 < (s6 ys).1.length)))
def decE (ys : List UInt8) : Int :=
  if ys.length < 2 then 10
  else if knB (hA ys).kind (hA ys).sub = false ∨ (dB ys 0).toNat % 4 ≠ 0 ∨ 128 ≤ (dB ys 1).toNat then 12
  else if (s6 ys).2 = true then 10
  else if refB ys = true then 12
  else if 2304 < (s6 ys).1.length then 11
  else 0
def decH (ys : List UInt8) : Hd := if decE ys = 0 then hF ys else h0_
def decB (ys : List UInt8) : List UInt8 := if decE ys = 0 then (s6 ys).1 else []

theorem w64_nat (n : Nat) (h : n < 65536) : w64 (n : Int) := by
  have h : (Lit.int .i64 (n : Int)).wf = true := by
    simp [Lit.wf, IntKind.min, IntKind.max, IntKind.signed, IntKind.bits] <;> omega
  exact h
attribute [local irreducible] WL W WQ PL Runs Effs AllE Ent SubO FrIn Pick OneC Ones CellsE PartsE SeqE UZ By Sl Pt Ct

end Go.Proofs.Ytglmcnjkcmbefaa.C05

/-
  Rules for walks: what 'make' lays.
-/
namespace Go.Hs
open Go Go.RowKit
theorem made_one (c : Value) (k : Nat) : (madeCells #[c] k).toList = List.replicate k c := by
  unfold madeCells
  rw [Array.toList_map, Array.toList_range, List.eq_replicate_iff]
  refine ⟨by rw [List.length_map, List.length_range], fun b hb => ?_⟩
  obtain ⟨i, _, rfl⟩ := List.mem_map.1 hb
  show (#[c])[i % 1]! = c
  rw [Nat.mod_one]
  rfl
theorem made_u8 (k : Nat) : (madeCells (Value.int .u8 0).cells (k * 1)).toList.take (k * 1) = (List.replicate k (0 : UInt8)).map bcell := by
  rw [Nat.mul_one, show (Value.int .u8 0).cells = #[.int .u8 0] from rfl, made_one, List.take_of_length_le (by rw [List.length_replicate]; exact Nat.le_refl _), List.map_replicate]
  rfl
end Go.Hs
