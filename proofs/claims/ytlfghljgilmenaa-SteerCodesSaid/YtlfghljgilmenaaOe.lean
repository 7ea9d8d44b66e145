/-
  Contracts of the functions of layer 1 that read numbers and texts, of the reference's, and of the comparisons.
-/
import Derived.Test.YtlfghljgilmenaaOa
namespace Go.Proofs.Ytlfghljgilmenaa.C01
open Go Go.RowKit Go.Hs
attribute [local irreducible] WL W WQ PL Runs Effs AllE Ent SubO FrIn Pick OneC Ones CellsE PartsE SeqE UZ By Sl Pt Ct

def leN : List UInt8 → Nat
  | [] => 0
  | b :: r => b.toNat + 256 * leN r

theorem leN_lt : ∀ bs : List UInt8, leN bs < 256 ^ bs.length
  | [] => by simp [leN]
  | b :: r => by
    have := leN_lt r
    have := b.toNat_lt
    simp only [leN, List.length_cons, Nat.pow_succ]
    omega

theorem leN_snoc : ∀ (bs : List UInt8) (i : Nat), i < bs.length → leN (bs.take (i + 1)) = leN (bs.take i) + (bs.getD i 0).toNat * 256 ^ i
  | [], i, h => by simp at h
  | b :: r, 0, h => by simp [leN]
  | b :: r, i + 1, h => by
    have ih := leN_snoc r i (by simpa using h)
    simp only [List.take_succ_cons, leN, ih, List.getD_cons_succ, Nat.pow_succ]
    rw [Nat.mul_add, Nat.mul_comm (256 ^ i) 256, Nat.mul_left_comm]
    omega

theorem leN_cons (bs : List UInt8) (i : Nat) (h : i < bs.length) : leN (bs.drop i) = leN (bs.drop (i + 1)) * 256 + (bs.getD i 0).toNat := by
  rw [List.drop_eq_getElem_cons h, leN]
  simp [List.getD, List.getElem?_eq_getElem h]
  omega

def doE (len : Nat) (at_ : Int) : Int := if ¬ (0 ≤ at_ ∧ at_ ≤ len) then 8 else if at_ < len then 11 else 0

set_option maxRecDepth 100000 in
theorem done_fn (dv : Value) (xs : List UInt8) (at_ : Int) : CtD Try.prog 54 [.agg #[dv, .int .i64 at_]] [By dv xs] (.int .i64 (doE xs.length at_)) := by
  have hc := check_fn dv xs at_
  by_cases h : 0 ≤ at_ ∧ at_ ≤ xs.length
  · rw [show okE xs.length at_ = 0 from if_pos h] at hc
    rw [show doE xs.length at_ = if at_ < xs.length then 11 else 0 from if_neg (not_not_intro h)]
    by_cases h2 : at_ < xs.length
    · rw [if_pos h2]
      refine Ct_intro Try.func54 rfl Try.ntmps54 (by simp) _ rfl (fun w0 O0 => ?_)
      repeat (first | refine n1 ?_ | refine n2 (fun b _ => ?_) | refine n3 (fun _ _ => ?_) | refine n4 ?_ | refine n5 ?_ | refine n6 (hc) ?_ | refine n6v (hc) ?_ | refine WL_nil ?_ | refine W_seq ?_ | refine W_region ?_ | refine n7 ?_ | refine n8 ?_ | refine W_block ?_ | refine W_skip ?_ | refine W_ret ?_ | refine W_exit ?_ | refine WQ_then ?_ | refine WQ_then_ret ?_ | refine WQ_then_exit ?_ | refine WQ_block_normal ?_ | refine WQ_block_ret ?_ | refine WQ_block_exit ?_ | refine n9 ?_)
      ((apply ret1 Try.results54 ( ())); (focus (first | trivial | assumption | omega)); (focus (first | exact RV_tmp rfl | (apply RV_cellN; exact rfl; (repeat' (first | exact Pick.head _ _ | apply Pick.tail)); (intro _; exact rfl); (intro _; exact rfl); exact rfl) | (apply RV_cell1; exact rfl; (repeat' (first | exact Pick.head _ _ | apply Pick.tail)); (intro _; exact rfl); exact rfl)));  (focus (first | exact rfl | (simp; done))); (focus (repeat (first | exact SubO.nil _ | (apply SubO.cons; (focus (repeat' (first | exact Pick.head _ _ | apply Pick.tail))))))); (focus (repeat (first | exact AllE.nil _ | (apply AllE.cons; (focus (first | exact ent_nilBy | exact ent_nilSl | (apply Ent.mem; repeat' (first | exact mcs | apply mct)))))))))
    · rw [if_neg h2]
      refine Ct_intro Try.func54 rfl Try.ntmps54 (by simp) _ rfl (fun w0 O0 => ?_)
      repeat (first | refine n1 ?_ | refine n2 (fun b _ => ?_) | refine n3 (fun _ _ => ?_) | refine n4 ?_ | refine n5 ?_ | refine n6 (hc) ?_ | refine n6v (hc) ?_ | refine WL_nil ?_ | refine W_seq ?_ | refine W_region ?_ | refine n7 ?_ | refine n8 ?_ | refine W_block ?_ | refine W_skip ?_ | refine W_ret ?_ | refine W_exit ?_ | refine WQ_then ?_ | refine WQ_then_ret ?_ | refine WQ_then_exit ?_ | refine WQ_block_normal ?_ | refine WQ_block_ret ?_ | refine WQ_block_exit ?_ | refine n9 ?_)
      ((apply ret1 Try.results54 ( ())); (focus (first | trivial | assumption | omega)); (focus (first | exact RV_tmp rfl | (apply RV_cellN; exact rfl; (repeat' (first | exact Pick.head _ _ | apply Pick.tail)); (intro _; exact rfl); (intro _; exact rfl); exact rfl) | (apply RV_cell1; exact rfl; (repeat' (first | exact Pick.head _ _ | apply Pick.tail)); (intro _; exact rfl); exact rfl)));  (focus (first | exact rfl | (simp; done))); (focus (repeat (first | exact SubO.nil _ | (apply SubO.cons; (focus (repeat' (first | exact Pick.head _ _ | apply Pick.tail))))))); (focus (repeat (first | exact AllE.nil _ | (apply AllE.cons; (focus (first | exact ent_nilBy | exact ent_nilSl | (apply Ent.mem; repeat' (first | exact mcs | apply mct)))))))))
  · rw [show okE xs.length at_ = 8 from if_neg h] at hc
    rw [show doE xs.length at_ = 8 from if_pos h]
    refine Ct_intro Try.func54 rfl Try.ntmps54 (by simp) _ rfl (fun w0 O0 => ?_)
    repeat (first | refine n1 ?_ | refine n2 (fun b _ => ?_) | refine n3 (fun _ _ => ?_) | refine n4 ?_ | refine n5 ?_ | refine n6 (hc) ?_ | refine n6v (hc) ?_ | refine WL_nil ?_ | refine W_seq ?_ | refine W_region ?_ | refine n7 ?_ | refine n8 ?_ | refine W_block ?_ | refine W_skip ?_ | refine W_ret ?_ | refine W_exit ?_ | refine WQ_then ?_ | refine WQ_then_ret ?_ | refine WQ_then_exit ?_ | refine WQ_block_normal ?_ | refine WQ_block_ret ?_ | refine WQ_block_exit ?_ | refine n9 ?_)
    ((apply ret1 Try.results54 ( ())); (focus (first | trivial | assumption | omega)); (focus (first | exact RV_tmp rfl | (apply RV_cellN; exact rfl; (repeat' (first | exact Pick.head _ _ | apply Pick.tail)); (intro _; exact rfl); (intro _; exact rfl); exact rfl) | (apply RV_cell1; exact rfl; (repeat' (first | exact Pick.head _ _ | apply Pick.tail)); (intro _; exact rfl); exact rfl)));  (focus (first | exact rfl | (simp; done))); (focus (repeat (first | exact SubO.nil _ | (apply SubO.cons; (focus (repeat' (first | exact Pick.head _ _ | apply Pick.tail))))))); (focus (repeat (first | exact AllE.nil _ | (apply AllE.cons; (focus (first | exact ent_nilBy | exact ent_nilSl | (apply Ent.mem; repeat' (first | exact mcs | apply mct)))))))))

end Go.Proofs.Ytlfghljgilmenaa.C01
