/-
  Rules for walks, merged.
-/
import Derived.Test.YtoohgnegoaoleaaXc
import Derived.Test.YtoohgnegoaoleaaXd
import Derived.Test.YtoohgnegoaoleaaXb
import Derived.Test.YtoohgnegoaoleaaXa
import Derived.WalkKit
import Derived.ProofKit
import Derived.OpenShut
import Derived.ShutString
import Derived.ChangeOld
import Derived.SizedLaws
import Derived.Below
import Derived.Carry
import Derived.ChangeSlices
import Derived.Deep.Slices
/-
  Contracts of the functions of layer 1 that write numbers and texts.
-/
namespace Go.Proofs.Ytoohgnegoaoleaa.C01
open Go Go.RowKit Go.Hs
attribute [local irreducible] WL W WQ PL Runs Effs AllE Ent SubO FrIn Pick OneC Ones CellsE PartsE SeqE UZ By Sl Pt Ct

/-- the n lowest bytes of a number, the lowest first. -/
def leB (n v : Nat) : List UInt8 := (List.range n).map fun i => UInt8.ofNat (v / 256 ^ i)
theorem leB_length (n v : Nat) : (leB n v).length = n := by simp [leB]
theorem leB_succ (n v : Nat) : leB (n + 1) v = leB n v ++ [UInt8.ofNat (v / 256 ^ n)] := by simp [leB, List.range_succ]

theorem shr8_eq (v k : Nat) (hk : k ≤ 8) : (v : Int).fdiv (2 ^ (min ((8 * (k : Int))).toNat IntKind.u64.bits)) = ((v / 256 ^ k : Nat) : Int) := by
  rw [show (8 * (k : Int)) = ((8 * k : Nat) : Int) by omega, shr_eq v (8 * k) (by omega), Nat.pow_mul]
theorem low8 (x : Nat) : IntKind.u8.wrap (x : Int) = (((UInt8.ofNat x).toNat : Nat) : Int) := by
  rw [IntKind.wrap_u8]
  simp

set_option maxRecDepth 100000 in
set_option maxHeartbeats 1000000 in
theorem put_u16 (dv : Value) (xs : List UInt8) (v : Nat) (hx : xs.length ≤ 1000000000) (hv : v < 65536) : Ct Try.prog 92 [dv, .int .u16 (v : Int), .int .i64 2] [] [By dv xs]
    (X := Value) (fun _ => True) (fun x => x) (fun x => [.row x 5 1 (xs.length + 2) ((xs ++ leB 2 v).map bcell)]) (fun _ => []) := by
  refine Ct_intro Try.func92 rfl Try.ntmps92 (by simp) _ rfl (fun w0 O0 => ?_)
  repeat (first | refine n1 ?_ | refine n2 (fun b _ => ?_) | refine n3 (fun _ _ => ?_) | refine n4 ?_ | refine n5 ?_ | refine WL_nil ?_ | refine W_seq ?_ | refine W_region ?_ | refine n7 ?_ | refine n8 ?_ | refine W_block ?_ | refine W_skip ?_ | refine W_ret ?_ | refine W_exit ?_ | refine WQ_then ?_ | refine WQ_then_ret ?_ | refine WQ_then_exit ?_ | refine WQ_block_normal ?_ | refine WQ_block_ret ?_ | refine WQ_block_exit ?_ | refine n9 ?_)
  (apply WL_effs; exact rfl; exact rfl; exact rfl; (apply E_make; exact rfl; exact rfl; (focus (first | exact lit0 | exact lit1 | exact lit2 | exact lit3 | exact lit4 | exact lit5 | exact lit6 | exact lit7 | exact lit8 | exact rfl | (simp; done) | omega)); (focus (first | exact lit0 | exact lit1 | exact lit2 | exact lit3 | exact lit4 | exact lit5 | exact lit6 | exact lit7 | exact lit8 | exact rfl | (simp; done) | omega)); (first | omega | (simp only [List.length_take, List.length_drop, List.length_append, List.length_cons, List.length_nil, List.length_map, List.length_replicate]; omega)); exact rfl; exact rfl; exact rfl; exact rfl; exact Nat.le_of_ble_eq_true rfl; (first | omega | (simp only [List.length_take, List.length_drop, List.length_append, List.length_cons, List.length_nil, List.length_map, List.length_replicate]; omega)); exact rfl); skip)
  intro out _
  repeat (first | refine n1 ?_ | refine n2 (fun b _ => ?_) | refine n3 (fun _ _ => ?_) | refine n4 ?_ | refine n5 ?_ | refine WL_nil ?_ | refine W_seq ?_ | refine W_region ?_ | refine n7 ?_ | refine n8 ?_ | refine W_block ?_ | refine W_skip ?_ | refine W_ret ?_ | refine W_exit ?_ | refine WQ_then ?_ | refine WQ_then_ret ?_ | refine WQ_then_exit ?_ | refine WQ_block_normal ?_ | refine WQ_block_ret ?_ | refine WQ_block_exit ?_ | refine n9 ?_)
  (apply WL_effs; exact rfl; exact rfl; exact rfl; (apply E_copyAll; exact rfl; exact rfl; (repeat' (first | exact Pick.head _ _ | apply Pick.tail)); (repeat' (first | exact mcs | apply mct)); exact rfl; exact rfl; (focus (first | exact lit0 | exact lit1 | exact lit2 | exact lit3 | exact lit4 | exact lit5 | exact lit6 | exact lit7 | exact lit8 | exact rfl | (simp; done) | omega))); skip)
  intro _ _
  repeat (first | refine n1 ?_ | refine n2 (fun b _ => ?_) | refine n3 (fun _ _ => ?_) | refine n4 ?_ | refine n5 ?_ | refine WL_nil ?_ | refine W_seq ?_ | refine W_region ?_ | refine n7 ?_ | refine n8 ?_ | refine W_block ?_ | refine W_skip ?_ | refine W_ret ?_ | refine W_exit ?_ | refine WQ_then ?_ | refine WQ_then_ret ?_ | refine WQ_then_exit ?_ | refine WQ_block_normal ?_ | refine WQ_block_ret ?_ | refine WQ_block_exit ?_ | refine n9 ?_)
  ((apply W_loopK (X := Nat × List UInt8 × Value) [7, 20] [0] (fun x => x.1 ≤ 2 ∧ x.2.1 = xs ++ leB x.1 v) (fun x => [(7, x.2.2), (20, .int .i64 (x.1 : Int))]) (fun x => [.row x.2.2 5 1 (xs.length + x.1) (x.2.1.map bcell)]) (fun _ => []) (fun x => 2 - x.1) ((0, xs, out))); (focus exact ⟨Nat.zero_le _, by simp [leB]⟩); exact rfl; exact rfl; (intro _; exact rfl); (intro _; exact rfl); (intro _; exact rfl); (focus (repeat (first | exact FrIn.nil _ | (apply FrIn.cons; exact rfl; (first | exact rfl | (congr 1; first | omega | (dsimp only; omega)) | (simp; done)))))); (focus (repeat (first | exact SubO.nil _ | (apply SubO.cons; (focus (repeat' (first | exact Pick.head _ _ | apply Pick.tail))))))); (focus (repeat (first | exact AllE.nil _ | (apply AllE.cons; (focus (first | exact ent_nilBy | exact ent_nilSl | (apply Ent.mem; repeat' (first | exact mcs | apply mct)))))))); intro x hx)
  obtain ⟨k, ys, o⟩ := x
  obtain ⟨hk, hy⟩ := hx
  have hy : ys = xs ++ leB k v := hy
  subst hy
  have hk : k ≤ 2 := hk
  have hl : (xs ++ leB k v).length = xs.length + k := by rw [List.length_append, leB_length]
  have hd : v / 256 ^ k ≤ v := Nat.div_le_self _ _
  by_cases h : k < 2
  · repeat (first | refine n1 ?_ | refine n2 (fun b _ => ?_) | refine n3 (fun _ _ => ?_) | refine n4 ?_ | refine n5 ?_ | refine WL_nil ?_ | refine W_seq ?_ | refine W_region ?_ | refine n7 ?_ | refine n8 ?_ | refine W_block ?_ | refine W_skip ?_ | refine W_ret ?_ | refine W_exit ?_ | refine WQ_then ?_ | refine WQ_then_ret ?_ | refine WQ_then_exit ?_ | refine WQ_block_normal ?_ | refine WQ_block_ret ?_ | refine WQ_block_exit ?_ | refine n9 ?_)
    refine WL_runs rfl rfl rfl (R_shr rfl rfl (by omega) (shr8_eq v k (by omega))) ?_
    refine WL_runs rfl rfl rfl (R_convi rfl rfl rfl (low8 _)) ?_
    (apply WL_effs; exact rfl; exact rfl; exact rfl; (apply E_buildSlice; exact rfl; (focus (repeat (first | apply SeqE.nil | (apply SeqE.cons; exact rfl; (focus (first | (apply CellsE.lit; exact rfl) | (apply CellsE.one; (first | (apply OneC.lit; exact rfl) | (apply OneC.by_; (repeat' (first | exact mcs | apply mct)); done) | (apply OneC.sl; (repeat' (first | exact mcs | apply mct)); done) | (apply OneC.rw; (repeat' (first | exact mcs | apply mct)); done) | (apply OneC.row; (repeat' (first | exact Pick.head _ _ | apply Pick.tail))))))); exact rfl) | exact rfl))); exact rfl; (first | (intro _; exact (rfl : _ = Result.ok 1 _)) | (intro _; exact (rfl : _ = Result.ok 2 _)) | (intro _; exact (rfl : _ = Result.ok 3 _)) | (intro _; exact (rfl : _ = Result.ok 4 _)) | (intro _; exact (rfl : _ = Result.ok 5 _)) | (intro _; exact (rfl : _ = Result.ok 6 _)) | (intro _; exact (rfl : _ = Result.ok 7 _)) | (intro _; exact (rfl : _ = Result.ok 8 _)) | (intro _; exact (rfl : _ = Result.ok 9 _)) | (intro _; exact (rfl : _ = Result.ok 13 _)) | (intro _; exact (rfl : _ = Result.ok 14 _)) | (intro _; exact (rfl : _ = Result.ok 26 _)) | (intro _; exact (rfl : _ = Result.ok 40 _)) | (intro _; exact (rfl : _ = Result.ok 41 _)) | (intro _; exact (rfl : _ = Result.ok 42 _)) | (intro _; exact (rfl : _ = Result.ok 43 _)) | (intro _; exact (rfl : _ = Result.ok 44 _)) | (intro _; exact (rfl : _ = Result.ok 45 _)) | (intro _; exact (rfl : _ = Result.ok 46 _))); (intro _; exact rfl); exact rfl; exact Nat.le_of_ble_eq_true rfl; exact Nat.le_of_ble_eq_true rfl); skip)
    intro q _
    repeat (first | refine n1 ?_ | refine n2 (fun b _ => ?_) | refine n3 (fun _ _ => ?_) | refine n4 ?_ | refine n5 ?_ | refine WL_nil ?_ | refine W_seq ?_ | refine W_region ?_ | refine n7 ?_ | refine n8 ?_ | refine W_block ?_ | refine W_skip ?_ | refine W_ret ?_ | refine W_exit ?_ | refine WQ_then ?_ | refine WQ_then_ret ?_ | refine WQ_then_exit ?_ | refine WQ_block_normal ?_ | refine WQ_block_ret ?_ | refine WQ_block_exit ?_ | refine n9 ?_)
    (apply WL_effs; exact rfl; exact rfl; exact rfl; (apply E_appendRowB; exact rfl; exact rfl; (repeat' (first | exact Pick.head _ _ | apply Pick.tail)); (repeat' (first | exact Pick.head _ _ | apply Pick.tail)); (first | exact nil_map | exact one_map _ | exact two_map _ _ | exact rfl); (first | exact nil_map | exact one_map _ | exact two_map _ _ | exact rfl); exact rfl; exact rfl; exact rfl; exact rfl; exact rfl; exact Nat.le_of_ble_eq_true rfl; (first | omega | (simp only [List.length_take, List.length_drop, List.length_append, List.length_cons, List.length_nil, List.length_map, List.length_replicate]; omega)); (focus (first | exact Nat.zero_add _ | exact rfl)); (focus ((try (conv => lhs; simp only [Nat.add_sub_cancel_left, Nat.sub_zero, List.drop_zero, List.nil_append])); (first | done | exact rfl)))); skip)
    intro o2 _
    rw [List.append_assoc, ← leB_succ]
    repeat (first | refine n1 ?_ | refine n2 (fun b _ => ?_) | refine n3 (fun _ _ => ?_) | refine n4 ?_ | refine n5 ?_ | refine WL_nil ?_ | refine W_seq ?_ | refine W_region ?_ | refine n7 ?_ | refine n8 ?_ | refine W_block ?_ | refine W_skip ?_ | refine W_ret ?_ | refine W_exit ?_ | refine WQ_then ?_ | refine WQ_then_ret ?_ | refine WQ_then_exit ?_ | refine WQ_block_normal ?_ | refine WQ_block_ret ?_ | refine WQ_block_exit ?_ | refine n9 ?_)
    ((apply WQ_again ((k + 1, xs ++ leB (k + 1) v, o2))); (focus exact ⟨h, rfl⟩); (focus (omega)); (focus (repeat (first | exact FrIn.nil _ | (apply FrIn.cons; exact rfl; (first | exact rfl | (congr 1; first | omega | (dsimp only; omega)) | (simp; done)))))); (focus (repeat (first | exact SubO.nil _ | (apply SubO.cons; (focus (repeat' (first | exact Pick.head _ _ | apply Pick.tail))))))); (focus (repeat (first | exact AllE.nil _ | (apply AllE.cons; (focus (first | exact ent_nilBy | exact ent_nilSl | (apply Ent.mem; repeat' (first | exact mcs | apply mct)))))))))
  · obtain rfl : k = 2 := by omega
    repeat (first | refine n1 ?_ | refine n2 (fun b _ => ?_) | refine n3 (fun _ _ => ?_) | refine n4 ?_ | refine n5 ?_ | refine WL_nil ?_ | refine W_seq ?_ | refine W_region ?_ | refine n7 ?_ | refine n8 ?_ | refine W_block ?_ | refine W_skip ?_ | refine W_ret ?_ | refine W_exit ?_ | refine WQ_then ?_ | refine WQ_then_ret ?_ | refine WQ_then_exit ?_ | refine WQ_block_normal ?_ | refine WQ_block_ret ?_ | refine WQ_block_exit ?_ | refine n9 ?_)
    ((apply ret1 Try.results92 ( o)); (focus (first | trivial | assumption | omega)); (focus (first | exact RV_tmp rfl | (apply RV_cellN; exact rfl; (repeat' (first | exact Pick.head _ _ | apply Pick.tail)); (intro _; exact rfl); (intro _; exact rfl); exact rfl) | (apply RV_cell1; exact rfl; (repeat' (first | exact Pick.head _ _ | apply Pick.tail)); (intro _; exact rfl); exact rfl)));  (focus (first | exact rfl | (simp; done))); (focus (repeat (first | exact SubO.nil _ | (apply SubO.cons; (focus (repeat' (first | exact Pick.head _ _ | apply Pick.tail))))))); (focus (repeat (first | exact AllE.nil _ | (apply AllE.cons; (focus (first | exact ent_nilBy | exact ent_nilSl | (apply Ent.mem; repeat' (first | exact mcs | apply mct)))))))))

set_option maxRecDepth 100000 in
theorem Put16_fn (dv : Value) (xs : List UInt8) (v : Nat) (hx : xs.length ≤ 1000000000) (hv : v < 65536) : Ct Try.prog 84 [dv, .int .u16 (v : Int)] [] [By dv xs]
    (X := Value) (fun _ => True) (fun x => x) (fun x => [.row x 5 1 (xs.length + 2) ((xs ++ leB 2 v).map bcell)]) (fun _ => []) := by
  refine Ct_intro Try.func84 rfl Try.ntmps84 (by simp) _ rfl (fun w0 O0 => ?_)
  repeat (first | refine n1 ?_ | refine n2 (fun b _ => ?_) | refine n3 (fun _ _ => ?_) | refine n4 ?_ | refine n5 ?_ | refine WL_nil ?_ | refine W_seq ?_ | refine W_region ?_ | refine n7 ?_ | refine n8 ?_ | refine W_block ?_ | refine W_skip ?_ | refine W_ret ?_ | refine W_exit ?_ | refine WQ_then ?_ | refine WQ_then_ret ?_ | refine WQ_then_exit ?_ | refine WQ_block_normal ?_ | refine WQ_block_ret ?_ | refine WQ_block_exit ?_ | refine n9 ?_)
  (apply WL_effs; exact rfl; exact rfl; exact rfl; apply E_call; exact rfl; (intro _ _; simp); exact put_u16 dv xs v hx hv; (repeat (first | exact AllE.nil _ | (apply AllE.cons; (focus (first | exact ent_nilBy | exact ent_nilSl | (apply Ent.mem; repeat' (first | exact mcs | apply mct))))))); (intro _; exact rfl); (intro _; exact rfl))
  intro x _
  repeat (first | refine n1 ?_ | refine n2 (fun b _ => ?_) | refine n3 (fun _ _ => ?_) | refine n4 ?_ | refine n5 ?_ | refine WL_nil ?_ | refine W_seq ?_ | refine W_region ?_ | refine n7 ?_ | refine n8 ?_ | refine W_block ?_ | refine W_skip ?_ | refine W_ret ?_ | refine W_exit ?_ | refine WQ_then ?_ | refine WQ_then_ret ?_ | refine WQ_then_exit ?_ | refine WQ_block_normal ?_ | refine WQ_block_ret ?_ | refine WQ_block_exit ?_ | refine n9 ?_)
  ((apply ret1 Try.results84 ( x)); (focus (first | trivial | assumption | omega)); (focus (first | exact RV_tmp rfl | (apply RV_cellN; exact rfl; (repeat' (first | exact Pick.head _ _ | apply Pick.tail)); (intro _; exact rfl); (intro _; exact rfl); exact rfl) | (apply RV_cell1; exact rfl; (repeat' (first | exact Pick.head _ _ | apply Pick.tail)); (intro _; exact rfl); exact rfl)));  (focus (first | exact rfl | (simp; done))); (focus (repeat (first | exact SubO.nil _ | (apply SubO.cons; (focus (repeat' (first | exact Pick.head _ _ | apply Pick.tail))))))); (focus (repeat (first | exact AllE.nil _ | (apply AllE.cons; (focus (first | exact ent_nilBy | exact ent_nilSl | (apply Ent.mem; repeat' (first | exact mcs | apply mct)))))))))
set_option maxRecDepth 100000 in
set_option maxHeartbeats 1000000 in
theorem put_u64 (dv : Value) (xs : List UInt8) (v : Nat) (hx : xs.length ≤ 1000000000) (hv : v < 18446744073709551616) : Ct Try.prog 83 [dv, .int .u64 (v : Int), .int .i64 8] [] [By dv xs]
    (X := Value) (fun _ => True) (fun x => x) (fun x => [.row x 5 1 (xs.length + 8) ((xs ++ leB 8 v).map bcell)]) (fun _ => []) := by
  refine Ct_intro Try.func83 rfl Try.ntmps83 (by simp) _ rfl (fun w0 O0 => ?_)
  repeat (first | refine n1 ?_ | refine n2 (fun b _ => ?_) | refine n3 (fun _ _ => ?_) | refine n4 ?_ | refine n5 ?_ | refine WL_nil ?_ | refine W_seq ?_ | refine W_region ?_ | refine n7 ?_ | refine n8 ?_ | refine W_block ?_ | refine W_skip ?_ | refine W_ret ?_ | refine W_exit ?_ | refine WQ_then ?_ | refine WQ_then_ret ?_ | refine WQ_then_exit ?_ | refine WQ_block_normal ?_ | refine WQ_block_ret ?_ | refine WQ_block_exit ?_ | refine n9 ?_)
  (apply WL_effs; exact rfl; exact rfl; exact rfl; (apply E_make; exact rfl; exact rfl; (focus (first | exact lit0 | exact lit1 | exact lit2 | exact lit3 | exact lit4 | exact lit5 | exact lit6 | exact lit7 | exact lit8 | exact rfl | (simp; done) | omega)); (focus (first | exact lit0 | exact lit1 | exact lit2 | exact lit3 | exact lit4 | exact lit5 | exact lit6 | exact lit7 | exact lit8 | exact rfl | (simp; done) | omega)); (first | omega | (simp only [List.length_take, List.length_drop, List.length_append, List.length_cons, List.length_nil, List.length_map, List.length_replicate]; omega)); exact rfl; exact rfl; exact rfl; exact rfl; exact Nat.le_of_ble_eq_true rfl; (first | omega | (simp only [List.length_take, List.length_drop, List.length_append, List.length_cons, List.length_nil, List.length_map, List.length_replicate]; omega)); exact rfl); skip)
  intro out _
  repeat (first | refine n1 ?_ | refine n2 (fun b _ => ?_) | refine n3 (fun _ _ => ?_) | refine n4 ?_ | refine n5 ?_ | refine WL_nil ?_ | refine W_seq ?_ | refine W_region ?_ | refine n7 ?_ | refine n8 ?_ | refine W_block ?_ | refine W_skip ?_ | refine W_ret ?_ | refine W_exit ?_ | refine WQ_then ?_ | refine WQ_then_ret ?_ | refine WQ_then_exit ?_ | refine WQ_block_normal ?_ | refine WQ_block_ret ?_ | refine WQ_block_exit ?_ | refine n9 ?_)
  (apply WL_effs; exact rfl; exact rfl; exact rfl; (apply E_copyAll; exact rfl; exact rfl; (repeat' (first | exact Pick.head _ _ | apply Pick.tail)); (repeat' (first | exact mcs | apply mct)); exact rfl; exact rfl; (focus (first | exact lit0 | exact lit1 | exact lit2 | exact lit3 | exact lit4 | exact lit5 | exact lit6 | exact lit7 | exact lit8 | exact rfl | (simp; done) | omega))); skip)
  intro _ _
  repeat (first | refine n1 ?_ | refine n2 (fun b _ => ?_) | refine n3 (fun _ _ => ?_) | refine n4 ?_ | refine n5 ?_ | refine WL_nil ?_ | refine W_seq ?_ | refine W_region ?_ | refine n7 ?_ | refine n8 ?_ | refine W_block ?_ | refine W_skip ?_ | refine W_ret ?_ | refine W_exit ?_ | refine WQ_then ?_ | refine WQ_then_ret ?_ | refine WQ_then_exit ?_ | refine WQ_block_normal ?_ | refine WQ_block_ret ?_ | refine WQ_block_exit ?_ | refine n9 ?_)
  ((apply W_loopK (X := Nat × List UInt8 × Value) [7, 20] [0] (fun x => x.1 ≤ 8 ∧ x.2.1 = xs ++ leB x.1 v) (fun x => [(7, x.2.2), (20, .int .i64 (x.1 : Int))]) (fun x => [.row x.2.2 5 1 (xs.length + x.1) (x.2.1.map bcell)]) (fun _ => []) (fun x => 8 - x.1) ((0, xs, out))); (focus exact ⟨Nat.zero_le _, by simp [leB]⟩); exact rfl; exact rfl; (intro _; exact rfl); (intro _; exact rfl); (intro _; exact rfl); (focus (repeat (first | exact FrIn.nil _ | (apply FrIn.cons; exact rfl; (first | exact rfl | (congr 1; first | omega | (dsimp only; omega)) | (simp; done)))))); (focus (repeat (first | exact SubO.nil _ | (apply SubO.cons; (focus (repeat' (first | exact Pick.head _ _ | apply Pick.tail))))))); (focus (repeat (first | exact AllE.nil _ | (apply AllE.cons; (focus (first | exact ent_nilBy | exact ent_nilSl | (apply Ent.mem; repeat' (first | exact mcs | apply mct)))))))); intro x hx)
  obtain ⟨k, ys, o⟩ := x
  obtain ⟨hk, hy⟩ := hx
  have hy : ys = xs ++ leB k v := hy
  subst hy
  have hk : k ≤ 8 := hk
  have hl : (xs ++ leB k v).length = xs.length + k := by rw [List.length_append, leB_length]
  have hd : v / 256 ^ k ≤ v := Nat.div_le_self _ _
  by_cases h : k < 8
  · repeat (first | refine n1 ?_ | refine n2 (fun b _ => ?_) | refine n3 (fun _ _ => ?_) | refine n4 ?_ | refine n5 ?_ | refine WL_nil ?_ | refine W_seq ?_ | refine W_region ?_ | refine n7 ?_ | refine n8 ?_ | refine W_block ?_ | refine W_skip ?_ | refine W_ret ?_ | refine W_exit ?_ | refine WQ_then ?_ | refine WQ_then_ret ?_ | refine WQ_then_exit ?_ | refine WQ_block_normal ?_ | refine WQ_block_ret ?_ | refine WQ_block_exit ?_ | refine n9 ?_)
    refine WL_runs rfl rfl rfl (R_shr rfl rfl (by omega) (shr8_eq v k (by omega))) ?_
    refine WL_runs rfl rfl rfl (R_convi rfl rfl rfl (low8 _)) ?_
    (apply WL_effs; exact rfl; exact rfl; exact rfl; (apply E_buildSlice; exact rfl; (focus (repeat (first | apply SeqE.nil | (apply SeqE.cons; exact rfl; (focus (first | (apply CellsE.lit; exact rfl) | (apply CellsE.one; (first | (apply OneC.lit; exact rfl) | (apply OneC.by_; (repeat' (first | exact mcs | apply mct)); done) | (apply OneC.sl; (repeat' (first | exact mcs | apply mct)); done) | (apply OneC.rw; (repeat' (first | exact mcs | apply mct)); done) | (apply OneC.row; (repeat' (first | exact Pick.head _ _ | apply Pick.tail))))))); exact rfl) | exact rfl))); exact rfl; (first | (intro _; exact (rfl : _ = Result.ok 1 _)) | (intro _; exact (rfl : _ = Result.ok 2 _)) | (intro _; exact (rfl : _ = Result.ok 3 _)) | (intro _; exact (rfl : _ = Result.ok 4 _)) | (intro _; exact (rfl : _ = Result.ok 5 _)) | (intro _; exact (rfl : _ = Result.ok 6 _)) | (intro _; exact (rfl : _ = Result.ok 7 _)) | (intro _; exact (rfl : _ = Result.ok 8 _)) | (intro _; exact (rfl : _ = Result.ok 9 _)) | (intro _; exact (rfl : _ = Result.ok 13 _)) | (intro _; exact (rfl : _ = Result.ok 14 _)) | (intro _; exact (rfl : _ = Result.ok 26 _)) | (intro _; exact (rfl : _ = Result.ok 40 _)) | (intro _; exact (rfl : _ = Result.ok 41 _)) | (intro _; exact (rfl : _ = Result.ok 42 _)) | (intro _; exact (rfl : _ = Result.ok 43 _)) | (intro _; exact (rfl : _ = Result.ok 44 _)) | (intro _; exact (rfl : _ = Result.ok 45 _)) | (intro _; exact (rfl : _ = Result.ok 46 _))); (intro _; exact rfl); exact rfl; exact Nat.le_of_ble_eq_true rfl; exact Nat.le_of_ble_eq_true rfl); skip)
    intro q _
    repeat (first | refine n1 ?_ | refine n2 (fun b _ => ?_) | refine n3 (fun _ _ => ?_) | refine n4 ?_ | refine n5 ?_ | refine WL_nil ?_ | refine W_seq ?_ | refine W_region ?_ | refine n7 ?_ | refine n8 ?_ | refine W_block ?_ | refine W_skip ?_ | refine W_ret ?_ | refine W_exit ?_ | refine WQ_then ?_ | refine WQ_then_ret ?_ | refine WQ_then_exit ?_ | refine WQ_block_normal ?_ | refine WQ_block_ret ?_ | refine WQ_block_exit ?_ | refine n9 ?_)
    (apply WL_effs; exact rfl; exact rfl; exact rfl; (apply E_appendRowB; exact rfl; exact rfl; (repeat' (first | exact Pick.head _ _ | apply Pick.tail)); (repeat' (first | exact Pick.head _ _ | apply Pick.tail)); (first | exact nil_map | exact one_map _ | exact two_map _ _ | exact rfl); (first | exact nil_map | exact one_map _ | exact two_map _ _ | exact rfl); exact rfl; exact rfl; exact rfl; exact rfl; exact rfl; exact Nat.le_of_ble_eq_true rfl; (first | omega | (simp only [List.length_take, List.length_drop, List.length_append, List.length_cons, List.length_nil, List.length_map, List.length_replicate]; omega)); (focus (first | exact Nat.zero_add _ | exact rfl)); (focus ((try (conv => lhs; simp only [Nat.add_sub_cancel_left, Nat.sub_zero, List.drop_zero, List.nil_append])); (first | done | exact rfl)))); skip)
    intro o2 _
    rw [List.append_assoc, ← leB_succ]
    repeat (first | refine n1 ?_ | refine n2 (fun b _ => ?_) | refine n3 (fun _ _ => ?_) | refine n4 ?_ | refine n5 ?_ | refine WL_nil ?_ | refine W_seq ?_ | refine W_region ?_ | refine n7 ?_ | refine n8 ?_ | refine W_block ?_ | refine W_skip ?_ | refine W_ret ?_ | refine W_exit ?_ | refine WQ_then ?_ | refine WQ_then_ret ?_ | refine WQ_then_exit ?_ | refine WQ_block_normal ?_ | refine WQ_block_ret ?_ | refine WQ_block_exit ?_ | refine n9 ?_)
    ((apply WQ_again ((k + 1, xs ++ leB (k + 1) v, o2))); (focus exact ⟨h, rfl⟩); (focus (omega)); (focus (repeat (first | exact FrIn.nil _ | (apply FrIn.cons; exact rfl; (first | exact rfl | (congr 1; first | omega | (dsimp only; omega)) | (simp; done)))))); (focus (repeat (first | exact SubO.nil _ | (apply SubO.cons; (focus (repeat' (first | exact Pick.head _ _ | apply Pick.tail))))))); (focus (repeat (first | exact AllE.nil _ | (apply AllE.cons; (focus (first | exact ent_nilBy | exact ent_nilSl | (apply Ent.mem; repeat' (first | exact mcs | apply mct)))))))))
  · obtain rfl : k = 8 := by omega
    repeat (first | refine n1 ?_ | refine n2 (fun b _ => ?_) | refine n3 (fun _ _ => ?_) | refine n4 ?_ | refine n5 ?_ | refine WL_nil ?_ | refine W_seq ?_ | refine W_region ?_ | refine n7 ?_ | refine n8 ?_ | refine W_block ?_ | refine W_skip ?_ | refine W_ret ?_ | refine W_exit ?_ | refine WQ_then ?_ | refine WQ_then_ret ?_ | refine WQ_then_exit ?_ | refine WQ_block_normal ?_ | refine WQ_block_ret ?_ | refine WQ_block_exit ?_ | refine n9 ?_)
    ((apply ret1 Try.results83 ( o)); (focus (first | trivial | assumption | omega)); (focus (first | exact RV_tmp rfl | (apply RV_cellN; exact rfl; (repeat' (first | exact Pick.head _ _ | apply Pick.tail)); (intro _; exact rfl); (intro _; exact rfl); exact rfl) | (apply RV_cell1; exact rfl; (repeat' (first | exact Pick.head _ _ | apply Pick.tail)); (intro _; exact rfl); exact rfl)));  (focus (first | exact rfl | (simp; done))); (focus (repeat (first | exact SubO.nil _ | (apply SubO.cons; (focus (repeat' (first | exact Pick.head _ _ | apply Pick.tail))))))); (focus (repeat (first | exact AllE.nil _ | (apply AllE.cons; (focus (first | exact ent_nilBy | exact ent_nilSl | (apply Ent.mem; repeat' (first | exact mcs | apply mct)))))))))

set_option maxRecDepth 100000 in
theorem Put64_fn (dv : Value) (xs : List UInt8) (v : Nat) (hx : xs.length ≤ 1000000000) (hv : v < 18446744073709551616) : Ct Try.prog 50 [dv, .int .u64 (v : Int)] [] [By dv xs]
    (X := Value) (fun _ => True) (fun x => x) (fun x => [.row x 5 1 (xs.length + 8) ((xs ++ leB 8 v).map bcell)]) (fun _ => []) := by
  refine Ct_intro Try.func50 rfl Try.ntmps50 (by simp) _ rfl (fun w0 O0 => ?_)
  repeat (first | refine n1 ?_ | refine n2 (fun b _ => ?_) | refine n3 (fun _ _ => ?_) | refine n4 ?_ | refine n5 ?_ | refine WL_nil ?_ | refine W_seq ?_ | refine W_region ?_ | refine n7 ?_ | refine n8 ?_ | refine W_block ?_ | refine W_skip ?_ | refine W_ret ?_ | refine W_exit ?_ | refine WQ_then ?_ | refine WQ_then_ret ?_ | refine WQ_then_exit ?_ | refine WQ_block_normal ?_ | refine WQ_block_ret ?_ | refine WQ_block_exit ?_ | refine n9 ?_)
  (apply WL_effs; exact rfl; exact rfl; exact rfl; apply E_call; exact rfl; (intro _ _; simp); exact put_u64 dv xs v hx hv; (repeat (first | exact AllE.nil _ | (apply AllE.cons; (focus (first | exact ent_nilBy | exact ent_nilSl | (apply Ent.mem; repeat' (first | exact mcs | apply mct))))))); (intro _; exact rfl); (intro _; exact rfl))
  intro x _
  repeat (first | refine n1 ?_ | refine n2 (fun b _ => ?_) | refine n3 (fun _ _ => ?_) | refine n4 ?_ | refine n5 ?_ | refine WL_nil ?_ | refine W_seq ?_ | refine W_region ?_ | refine n7 ?_ | refine n8 ?_ | refine W_block ?_ | refine W_skip ?_ | refine W_ret ?_ | refine W_exit ?_ | refine WQ_then ?_ | refine WQ_then_ret ?_ | refine WQ_then_exit ?_ | refine WQ_block_normal ?_ | refine WQ_block_ret ?_ | refine WQ_block_exit ?_ | refine n9 ?_)
  ((apply ret1 Try.results50 ( x)); (focus (first | trivial | assumption | omega)); (focus (first | exact RV_tmp rfl | (apply RV_cellN; exact rfl; (repeat' (first | exact Pick.head _ _ | apply Pick.tail)); (intro _; exact rfl); (intro _; exact rfl); exact rfl) | (apply RV_cell1; exact rfl; (repeat' (first | exact Pick.head _ _ | apply Pick.tail)); (intro _; exact rfl); exact rfl)));  (focus (first | exact rfl | (simp; done))); (focus (repeat (first | exact SubO.nil _ | (apply SubO.cons; (focus (repeat' (first | exact Pick.head _ _ | apply Pick.tail))))))); (focus (repeat (first | exact AllE.nil _ | (apply AllE.cons; (focus (first | exact ent_nilBy | exact ent_nilSl | (apply Ent.mem; repeat' (first | exact mcs | apply mct)))))))))
end Go.Proofs.Ytoohgnegoaoleaa.C01

/-
  Parts of arrays in own blocks: slices of them, elements of such slices, appends onto them. No program is named here.
-/
namespace Go.Hs
open Go Go.RowKit
section
variable {C : Ctx} {fr : Fr} {Γ Γ' : List OA} {Φ : List SP} {d : Tmp} {ty : TypeId} {pos : String} {aft : Array Edge} {g : Option (Nat × Bool)}

/-- the goal stands at a region. -/
theorem W_isReg {C : Ctx} {fr : Fr} {Γ : List OA} {Φ : List SP} {Q : Exit → Act → World → Prop} (id : Nat) {l : Array Oper} {b : Bool} (h : W C (.region id l b) fr Γ Φ Q) : W C (.region id l b) fr Γ Φ Q := h
theorem add_at (b o k : Nat) : (⟨b, o, none⟩ : Addr).add k = ⟨b, o + k, none⟩ := by
  unfold Addr.add
  by_cases h : k = 0
  · subst h; rw [if_pos rfl]; rfl
  · rw [if_neg h]
theorem R_sliceHi {t e : TypeId} {x y : Operand} {b off n k : Nat} {kd : IntKind} (hx : evO fr x = some (.pointer (some ⟨b, off, none⟩))) (hy : evO fr y = some (.int kd (k : Int))) (ht : C.P.underlying t = some (.array n e))
    (hs : ∀ w, (sizeOf e).run C.P w = .ok 1 w) (hn : Nat.beq n 0 = false) (hk : Nat.ble k n = true) : Runs C fr Γ Φ ⟨some d, .slice t x none (some y) none, ty, pos, aft, g⟩ (.slice (some ⟨b, off, none⟩) k n) :=
  Runs.pure fun a w ha hw => by
    have h0 : ¬ n = 0 := fun e => by rw [e] at hn; cases hn
    have hk := Nat.le_of_ble_eq_true hk
    simp [execOp, evO_sound ha hx, evO_sound ha hy, Instr.sliceAt, Instr.sliceBounds, Instr.sliceBound, asIntOf, run_underlying ht, hs, h0, hk, Instr.sureAddr, add_at]
theorem R_sliceLo {t e : TypeId} {x y : Operand} {b off n k : Nat} {kd : IntKind} (hx : evO fr x = some (.pointer (some ⟨b, off, none⟩))) (hy : evO fr y = some (.int kd (k : Int))) (ht : C.P.underlying t = some (.array n e))
    (hs : ∀ w, (sizeOf e).run C.P w = .ok 1 w) (hk : Nat.blt k n = true) : Runs C fr Γ Φ ⟨some d, .slice t x (some y) none none, ty, pos, aft, g⟩ (.slice (some ⟨b, off + k, none⟩) (n - k) (n - k)) :=
  Runs.pure fun a w ha hw => by
    have hk : k < n := Nat.le_of_ble_eq_true hk
    have h0 : ¬ n = k := by omega
    have h1 : k ≤ n := by omega
    simp [execOp, evO_sound ha hx, evO_sound ha hy, Instr.sliceAt, Instr.sliceBounds, Instr.sliceBound, asIntOf, run_underlying ht, hs, h0, h1, Instr.sureAddr, add_at]
/-- an element's place in a slice of an own block. -/
theorem R_idxLit {t e : TypeId} {x y : Operand} {b o n c i : Nat} {kd : IntKind} {ii : Int} (hx : evO fr x = some (.slice (some ⟨b, o, none⟩) n c)) (hy : evO fr y = some (.int kd ii)) (ht : C.P.underlying t = some (.slice e))
    (hs : ∀ w, (sizeOf e).run C.P w = .ok 1 w) (hi : ii = (i : Int)) (hl : i < n) : Runs C fr Γ Φ ⟨some d, .indexAddr t x y, ty, pos, aft, g⟩ (.pointer (some ⟨b, o + i, none⟩)) :=
  Runs.pure fun a w ha hw => by
    subst hi
    have := run_indexAt_some (P := C.P) (w := w) (t := t) (e := e) (size := 1) (ad := ⟨b, o, none⟩) (n := n) (c := c) (kd := kd) (i := i) ht hs hl
    rw [Nat.mul_one, add_at] at this
    simp only [execOp, evO_sound ha hx, evO_sound ha hy, this, Sem.run_bind, Result.andThen_ok, Sem.run_pure]
/-- nothing appended. -/
theorem R_appendNone {t e : TypeId} {x y : Operand} {b o n c : Nat} {i : TypeInfo} (hx : evO fr x = some (.slice (some ⟨b, o, none⟩) n c)) (hy : evO fr y = some (.slice none 0 0))
    (ht : C.P.underlying t = some (.slice e)) (hi : C.P.info? e = some i) (hn : Nat.ble n c = true) :
    Runs C fr Γ Φ ⟨some d, .call { callee := .builtin .append, args := #[x, y], argTypes := #[t, t] }, ty, pos, aft, g⟩ (.slice (some ⟨b, o, none⟩) n c) :=
  Runs.pure fun a w ha hw => by
    have hn := Nat.le_of_ble_eq_true hn
    have h : (Builtin.append_ #[t, t] ty #[.slice (some ⟨b, o, none⟩) n c, .slice none 0 0]).run C.P w = .ok (.slice (some ⟨b, o, none⟩) n c) w := by
      simp [Builtin.append_, run_underlying ht, sizeOf, typeInfo, hi, Builtin.lenOf, Builtin.firstCells, hn, storeCells]
    simp only [execOp, resolve, invoke, builtin, Sem.run_bind, Sem.run_pure, Result.andThen_ok, List.map_toArray, List.map_cons, List.map_nil, evO_sound ha hx, evO_sound ha hy, h]
/-- a part of an own block appended to another part of it, with room. -/
theorem E_appendBlk {t e bt : TypeId} {x y : Operand} {b n m o c c' : Nat} {i : TypeInfo} {cs news ds : List Value} (hx : evO fr x = some (.slice (some ⟨b, 0, none⟩) n c)) (hy : evO fr y = some (.slice (some ⟨b, o, none⟩) m c'))
    (hp : Pick (.blk b bt cs) Γ Γ') (ht : C.P.underlying t = some (.slice e)) (hi : C.P.info? e = some i) (hsz : i.size = 1) (hn : Nat.ble (n + m) c = true) (hl : Nat.ble (n + m) cs.length = true) (hnews : (cs.drop o).take m = news) (hnl : news.length = m)
    (h1 : ∀ u ∈ news, u.oneCell' = true) (hds : cs.take n ++ news ++ cs.drop (n + m) = ds) :
    Effs C fr Γ Φ ⟨some d, .call { callee := .builtin .append, args := #[x, y], argTypes := #[t, t] }, ty, pos, aft, g⟩ (X := Unit) (fun _ => True) (fun _ => .slice (some ⟨b, 0, none⟩) (n + m) c) (fun _ => .blk b bt ds :: Γ') (fun _ => Φ) := by
  subst hds
  have hn := Nat.le_of_ble_eq_true hn
  have hl := Nat.le_of_ble_eq_true hl
  refine ⟨fun _ => AllIn.refl _, fun R a w ha hw => ?_⟩
  have hw' := pick_holds (pick_app hp R) hw
  have hb : w.heap[b]? = some (.cells cs.toArray bt (0, 0)) := hw'.own.1
  have hcell : ∀ j u, news[j]? = some u → w.cell? ((⟨b, o, none⟩ : Addr).add j) = some u := fun j u hu => by
    rw [add_at, blk_cell hb]
    rw [← hnews] at hu
    have hj : j < m := by
      have := (List.getElem?_eq_some_iff.1 hu).1
      rw [List.length_take] at this
      omega
    rw [List.getElem?_take, if_pos hj, List.getElem?_drop] at hu
    exact hu
  have hf := run_firstCells_some (P := C.P) w i.size m ⟨b, o, none⟩ m c' news (by rw [hsz, Nat.mul_one]; exact hnl) hcell
  have hst := run_storeCells_at C.P b (n * i.size) bt news 0 cs.toArray w hb (by rw [hsz]; simp; omega) h1
  simp only [Nat.add_zero] at hst
  have hrun : (Builtin.append_ #[t, t] ty #[.slice (some ⟨b, 0, none⟩) n c, .slice (some ⟨b, o, none⟩) m c']).run C.P w = .ok (.slice (some ⟨b, 0, none⟩) (n + m) c) (w.setRow b (cs.take n ++ news ++ cs.drop (n + m)).toArray) := by
    rw [hsz, Nat.mul_one, hnl] at hst
    rw [hsz] at hf
    simp [Builtin.append_, run_underlying ht, sizeOf, typeInfo, hi, Builtin.lenOf, hn, hf, hsz, add_at, hst]
  refine .val (v := .slice (some ⟨b, 0, none⟩) (n + m) c) (w' := _) ?_ ⟨(), trivial, rfl, setRow_holds (ds := cs.take n ++ news ++ cs.drop (n + m)) hw'⟩
  simp only [execOp, resolve, invoke, builtin, Sem.run_bind, Sem.run_pure, Result.andThen_ok, List.map_toArray, List.map_cons, List.map_nil, evO_sound ha hx, evO_sound ha hy, hrun]
/-- a part of what a pointer leads to, read as bytes. -/
theorem ent_ptByO {b off n : Nat} {xs : List Value} {bs : List UInt8} (hm : Pt (.pointer (some ⟨b, 0, none⟩)) xs ∈ Φ) (hx : (xs.drop off).take n = bs.map bcell) (hl : bs.length = n) (h0 : 0 < n) (hn : n ≤ 1000) : Ent Φ (By (.slice (some ⟨b, off, none⟩) n n) bs) := fun w O h => by
  obtain ⟨ad, hv, hlt, hO, hcell⟩ := h _ hm
  injection hv with hv
  injection hv with hv
  subst hv
  refine ⟨by rw [List.length_map, Nat.mul_one], some ⟨b, off, none⟩, n, by rw [hl], by omega, by simp only [maxLen]; omega, fun _ => ⟨⟨b, off, none⟩, rfl, hlt, hO, fun j u hu => ?_⟩⟩
  rw [← hx] at hu
  have hj : j < n := by
    have := (List.getElem?_eq_some_iff.1 hu).1
    rw [List.length_take] at this
    omega
  rw [List.getElem?_take, if_pos hj, List.getElem?_drop] at hu
  have := hcell (off + j) u hu
  rw [add_at, Nat.zero_add] at this
  rw [add_at]
  exact this
end
end Go.Hs

/-
  The law 'ElementBack' walked.
-/
namespace Go.Proofs.Ytoohgnegoaoleaa.C04
open Go Go.RowKit Go.Hs
attribute [local irreducible] WL W WQ PL Runs Effs AllE Ent SubO FrIn Pick OneC Ones CellsE PartsE SeqE UZ By Sl Pt Ct

end Go.Proofs.Ytoohgnegoaoleaa.C04

/-
  The law 'ElementJoins' walked.
-/
namespace Go.Proofs.Ytoohgnegoaoleaa.C04
open Go Go.RowKit Go.Hs
attribute [local irreducible] WL W WQ PL Runs Effs AllE Ent SubO FrIn Pick OneC Ones CellsE PartsE SeqE UZ By Sl Pt Ct

theorem enc_app : ∀ (t u : Fo), enc (fapp t u) = enc t ++ enc u
  | .nil, _ => rfl
  | .cons _ _ _ _ next, u => by simp only [fapp, enc, enc_app next u, List.append_assoc]
theorem cnt_app : ∀ (t u : Fo), cnt (fapp t u) = cnt t + cnt u
  | .nil, _ => by simp [fapp, cnt]
  | .cons _ _ _ _ next, u => by simp only [fapp, cnt, cnt_app next u]; omega
theorem dep_app : ∀ (t u : Fo), dep (fapp t u) = max (dep t) (dep u)
  | .nil, _ => by simp [fapp, dep]
  | .cons _ _ _ _ next, u => by simp only [fapp, dep, dep_app next u]; omega
theorem dat_app : ∀ (t u : Fo), dat (fapp t u) = dat t + dat u
  | .nil, _ => by simp [fapp, dat]
  | .cons _ _ _ _ next, u => by simp only [fapp, dat, dat_app next u]; omega
theorem val_app : ∀ (t u : Fo), val (fapp t u) = (val t && val u)
  | .nil, _ => by simp [fapp, val]
  | .cons _ _ _ _ next, u => by simp only [fapp, val, val_app next u, Bool.and_assoc]
theorem fit_app : ∀ (t u : Fo), fit (fapp t u) = (fit t && fit u)
  | .nil, _ => by simp [fapp, fit]
  | .cons _ _ _ _ next, u => by simp only [fapp, fit, fit_app next u, Bool.and_assoc]
theorem joined {t u : Fo} (h1 : chk t = 0) (h2 : chk u = 0) (h3 : cnt t + cnt u ≤ 64) : chk (fapp t u) = 0 := by
  obtain ⟨a1, a2, a3, a4⟩ := chk0.1 h1
  obtain ⟨b1, b2, b3, b4⟩ := chk0.1 h2
  refine chk0.2 ⟨by rw [cnt_app]; omega, by rw [dep_app]; omega, by rw [val_app, a3, b3]; rfl, by rw [fit_app, a4, b4]; rfl⟩
theorem joined_many {t u : Fo} (h3 : ¬ cnt t + cnt u ≤ 64) : chk (fapp t u) = 4 := if_pos (.inl (by rw [cnt_app]; omega))
theorem dec_many4 {t u : Fo} (h1 : chk t = 0) (h2 : chk u = 0) (h3 : ¬ cnt t + cnt u ≤ 64) : dec (enc (fapp t u)).length (enc (fapp t u)) 1 0 = (.nil, 64, 4) := by
  obtain ⟨a1, a2, a3, a4⟩ := chk0.1 h1
  obtain ⟨b1, b2, b3, b4⟩ := chk0.1 h2
  rw [dec_enc _ _ 1 0 (by rw [val_app, a3, b3]; rfl) (by rw [fit_app, a4, b4]; rfl) (by rw [dep_app]; omega) (Nat.le_refl _) (by decide), if_neg (by rw [cnt_app]; omega)]

end Go.Proofs.Ytoohgnegoaoleaa.C04

/-
  Contracts of the functions of layer 1 that write numbers and texts: the reference's, and texts.
-/
namespace Go.Proofs.Ytoohgnegoaoleaa.C01
open Go Go.RowKit Go.Hs
attribute [local irreducible] WL W WQ PL Runs Effs AllE Ent SubO FrIn Pick OneC Ones CellsE PartsE SeqE UZ By Sl Pt Ct

theorem low8m (x : Nat) : IntKind.u8.wrap ((x % 256 : Nat) : Int) = (((UInt8.ofNat x).toNat : Nat) : Int) := by
  rw [IntKind.wrap_u8]
  simp

theorem quo256 (y : Nat) (h : y ≤ 18446744073709551615) : IntKind.u64.wrap ((y : Int).tdiv 256) = ((y / 256 : Nat) : Int) := by
  rw [show ((y : Int).tdiv 256) = ((y / 256 : Nat) : Int) from rfl]
  exact wx_u64 (by omega)

set_option maxRecDepth 100000 in
set_option maxHeartbeats 1000000 in
theorem rput_fn (dv : Value) (xs : List UInt8) (v n : Nat) (hx : xs.length ≤ 1000000000) (hv : v < 18446744073709551616) (hn : n ≤ 8) : Ct Try.prog 54 [dv, .int .u64 (v : Int), .int .i64 (n : Int)] [] [By dv xs]
    (X := Value) (fun _ => True) (fun x => x) (fun x => [.row x 5 1 (xs.length + n) ((xs ++ leB n v).map bcell)]) (fun _ => []) := by
  refine Ct_intro Try.func54 rfl Try.ntmps54 (by simp) _ rfl (fun w0 O0 => ?_)
  repeat (first | refine n1 ?_ | refine n2 (fun b _ => ?_) | refine n3 (fun _ _ => ?_) | refine n4 ?_ | refine n5 ?_ | refine WL_nil ?_ | refine W_seq ?_ | refine W_region ?_ | refine n7 ?_ | refine n8 ?_ | refine W_block ?_ | refine W_skip ?_ | refine W_ret ?_ | refine W_exit ?_ | refine WQ_then ?_ | refine WQ_then_ret ?_ | refine WQ_then_exit ?_ | refine WQ_block_normal ?_ | refine WQ_block_ret ?_ | refine WQ_block_exit ?_ | refine n9 ?_)
  (apply WL_effs; exact rfl; exact rfl; exact rfl; apply E_call; exact rfl; (intro _ _; simp); exact copy_fn dv xs hx; (repeat (first | exact AllE.nil _ | (apply AllE.cons; (focus (first | exact ent_nilBy | exact ent_nilSl | (apply Ent.mem; repeat' (first | exact mcs | apply mct))))))); (intro _; exact rfl); (intro _; exact rfl))
  intro out _
  repeat (first | refine n1 ?_ | refine n2 (fun b _ => ?_) | refine n3 (fun _ _ => ?_) | refine n4 ?_ | refine n5 ?_ | refine WL_nil ?_ | refine W_seq ?_ | refine W_region ?_ | refine n7 ?_ | refine n8 ?_ | refine W_block ?_ | refine W_skip ?_ | refine W_ret ?_ | refine W_exit ?_ | refine WQ_then ?_ | refine WQ_then_ret ?_ | refine WQ_then_exit ?_ | refine WQ_block_normal ?_ | refine WQ_block_ret ?_ | refine WQ_block_exit ?_ | refine n9 ?_)
  ((apply W_loopK (X := Nat × Nat × List UInt8 × Value) [7, 8, 1] [0] (fun x => x.1 ≤ n ∧ x.2.1 = v / 256 ^ x.1 ∧ x.2.2.1 = xs ++ leB x.1 v) (fun x => [(7, x.2.2.2), (8, .int .i64 (x.1 : Int)), (1, .int .u64 (x.2.1 : Int))]) (fun x => [.row x.2.2.2 5 1 (xs.length + x.1) (x.2.2.1.map bcell)]) (fun _ => []) (fun x => n - x.1) ((0, v, xs, out))); (focus exact ⟨Nat.zero_le _, by simp, by simp [leB]⟩); exact rfl; exact rfl; (intro _; exact rfl); (intro _; exact rfl); (intro _; exact rfl); (focus (repeat (first | exact FrIn.nil _ | (apply FrIn.cons; exact rfl; (first | exact rfl | (congr 1; first | omega | (dsimp only; omega)) | (simp; done)))))); (focus (repeat (first | exact SubO.nil _ | (apply SubO.cons; (focus (repeat' (first | exact Pick.head _ _ | apply Pick.tail))))))); (focus (repeat (first | exact AllE.nil _ | (apply AllE.cons; (focus (first | exact ent_nilBy | exact ent_nilSl | (apply Ent.mem; repeat' (first | exact mcs | apply mct)))))))); intro x hx)
  obtain ⟨k, y, ys, o⟩ := x
  obtain ⟨hk, hy, hz⟩ := hx
  replace hy : y = v / 256 ^ k := hy
  replace hz : ys = xs ++ leB k v := hz
  replace hk : k ≤ n := hk
  subst hz
  subst hy
  have hl : (xs ++ leB k v).length = xs.length + k := by rw [List.length_append, leB_length]
  have hd : v / 256 ^ k ≤ v := Nat.div_le_self _ _
  by_cases h : k < n
  · repeat (first | refine n1 ?_ | refine n2 (fun b _ => ?_) | refine n3 (fun _ _ => ?_) | refine n4 ?_ | refine n5 ?_ | refine WL_nil ?_ | refine W_seq ?_ | refine W_region ?_ | refine n7 ?_ | refine n8 ?_ | refine W_block ?_ | refine W_skip ?_ | refine W_ret ?_ | refine W_exit ?_ | refine WQ_then ?_ | refine WQ_then_ret ?_ | refine WQ_then_exit ?_ | refine WQ_block_normal ?_ | refine WQ_block_ret ?_ | refine WQ_block_exit ?_ | refine n9 ?_)
    refine WL_runs rfl rfl rfl (R_rem rfl rfl (by decide) (show (((v / 256 ^ k : Nat) : Int).tmod 256) = ((v / 256 ^ k % 256 : Nat) : Int) from rfl)) ?_
    refine WL_runs rfl rfl rfl (R_convi rfl rfl rfl (low8m _)) ?_
    (apply WL_effs; exact rfl; exact rfl; exact rfl; (apply E_buildSlice; exact rfl; (focus (repeat (first | apply SeqE.nil | (apply SeqE.cons; exact rfl; (focus (first | (apply CellsE.lit; exact rfl) | (apply CellsE.one; (first | (apply OneC.lit; exact rfl) | (apply OneC.by_; (repeat' (first | exact mcs | apply mct)); done) | (apply OneC.sl; (repeat' (first | exact mcs | apply mct)); done) | (apply OneC.rw; (repeat' (first | exact mcs | apply mct)); done) | (apply OneC.row; (repeat' (first | exact Pick.head _ _ | apply Pick.tail))))))); exact rfl) | exact rfl))); exact rfl; (first | (intro _; exact (rfl : _ = Result.ok 1 _)) | (intro _; exact (rfl : _ = Result.ok 2 _)) | (intro _; exact (rfl : _ = Result.ok 3 _)) | (intro _; exact (rfl : _ = Result.ok 4 _)) | (intro _; exact (rfl : _ = Result.ok 5 _)) | (intro _; exact (rfl : _ = Result.ok 6 _)) | (intro _; exact (rfl : _ = Result.ok 7 _)) | (intro _; exact (rfl : _ = Result.ok 8 _)) | (intro _; exact (rfl : _ = Result.ok 9 _)) | (intro _; exact (rfl : _ = Result.ok 13 _)) | (intro _; exact (rfl : _ = Result.ok 14 _)) | (intro _; exact (rfl : _ = Result.ok 26 _)) | (intro _; exact (rfl : _ = Result.ok 40 _)) | (intro _; exact (rfl : _ = Result.ok 41 _)) | (intro _; exact (rfl : _ = Result.ok 42 _)) | (intro _; exact (rfl : _ = Result.ok 43 _)) | (intro _; exact (rfl : _ = Result.ok 44 _)) | (intro _; exact (rfl : _ = Result.ok 45 _)) | (intro _; exact (rfl : _ = Result.ok 46 _))); (intro _; exact rfl); exact rfl; exact Nat.le_of_ble_eq_true rfl; exact Nat.le_of_ble_eq_true rfl); skip)
    intro q _
    repeat (first | refine n1 ?_ | refine n2 (fun b _ => ?_) | refine n3 (fun _ _ => ?_) | refine n4 ?_ | refine n5 ?_ | refine WL_nil ?_ | refine W_seq ?_ | refine W_region ?_ | refine n7 ?_ | refine n8 ?_ | refine W_block ?_ | refine W_skip ?_ | refine W_ret ?_ | refine W_exit ?_ | refine WQ_then ?_ | refine WQ_then_ret ?_ | refine WQ_then_exit ?_ | refine WQ_block_normal ?_ | refine WQ_block_ret ?_ | refine WQ_block_exit ?_ | refine n9 ?_)
    (apply WL_effs; exact rfl; exact rfl; exact rfl; (apply E_appendRowB; exact rfl; exact rfl; (repeat' (first | exact Pick.head _ _ | apply Pick.tail)); (repeat' (first | exact Pick.head _ _ | apply Pick.tail)); (first | exact nil_map | exact one_map _ | exact two_map _ _ | exact rfl); (first | exact nil_map | exact one_map _ | exact two_map _ _ | exact rfl); exact rfl; exact rfl; exact rfl; exact rfl; exact rfl; exact Nat.le_of_ble_eq_true rfl; (first | omega | (simp only [List.length_take, List.length_drop, List.length_append, List.length_cons, List.length_nil, List.length_map, List.length_replicate]; omega)); (focus (first | exact Nat.zero_add _ | exact rfl)); (focus ((try (conv => lhs; simp only [Nat.add_sub_cancel_left, Nat.sub_zero, List.drop_zero, List.nil_append])); (first | done | exact rfl)))); skip)
    intro o2 _
    rw [List.append_assoc, ← leB_succ]
    repeat (first | refine n1 ?_ | refine n2 (fun b _ => ?_) | refine n3 (fun _ _ => ?_) | refine n4 ?_ | refine n5 ?_ | refine WL_nil ?_ | refine W_seq ?_ | refine W_region ?_ | refine n7 ?_ | refine n8 ?_ | refine W_block ?_ | refine W_skip ?_ | refine W_ret ?_ | refine W_exit ?_ | refine WQ_then ?_ | refine WQ_then_ret ?_ | refine WQ_then_exit ?_ | refine WQ_block_normal ?_ | refine WQ_block_ret ?_ | refine WQ_block_exit ?_ | refine n9 ?_)
    refine WL_runs rfl rfl rfl (R_quo rfl rfl (by decide) (quo256 (v / 256 ^ k) (by omega))) ?_
    repeat (first | refine n1 ?_ | refine n2 (fun b _ => ?_) | refine n3 (fun _ _ => ?_) | refine n4 ?_ | refine n5 ?_ | refine WL_nil ?_ | refine W_seq ?_ | refine W_region ?_ | refine n7 ?_ | refine n8 ?_ | refine W_block ?_ | refine W_skip ?_ | refine W_ret ?_ | refine W_exit ?_ | refine WQ_then ?_ | refine WQ_then_ret ?_ | refine WQ_then_exit ?_ | refine WQ_block_normal ?_ | refine WQ_block_ret ?_ | refine WQ_block_exit ?_ | refine n9 ?_)
    ((apply WQ_again ((k + 1, v / 256 ^ k / 256, xs ++ leB (k + 1) v, o2))); (focus exact ⟨h, by rw [Nat.div_div_eq_div_mul, Nat.pow_succ], rfl⟩); (focus (omega)); (focus (repeat (first | exact FrIn.nil _ | (apply FrIn.cons; exact rfl; (first | exact rfl | (congr 1; first | omega | (dsimp only; omega)) | (simp; done)))))); (focus (repeat (first | exact SubO.nil _ | (apply SubO.cons; (focus (repeat' (first | exact Pick.head _ _ | apply Pick.tail))))))); (focus (repeat (first | exact AllE.nil _ | (apply AllE.cons; (focus (first | exact ent_nilBy | exact ent_nilSl | (apply Ent.mem; repeat' (first | exact mcs | apply mct)))))))))
  · obtain rfl : k = n := by omega
    repeat (first | refine n1 ?_ | refine n2 (fun b _ => ?_) | refine n3 (fun _ _ => ?_) | refine n4 ?_ | refine n5 ?_ | refine WL_nil ?_ | refine W_seq ?_ | refine W_region ?_ | refine n7 ?_ | refine n8 ?_ | refine W_block ?_ | refine W_skip ?_ | refine W_ret ?_ | refine W_exit ?_ | refine WQ_then ?_ | refine WQ_then_ret ?_ | refine WQ_then_exit ?_ | refine WQ_block_normal ?_ | refine WQ_block_ret ?_ | refine WQ_block_exit ?_ | refine n9 ?_)
    ((apply ret1 Try.results54 ( o)); (focus (first | trivial | assumption | omega)); (focus (first | exact RV_tmp rfl | (apply RV_cellN; exact rfl; (repeat' (first | exact Pick.head _ _ | apply Pick.tail)); (intro _; exact rfl); (intro _; exact rfl); exact rfl) | (apply RV_cell1; exact rfl; (repeat' (first | exact Pick.head _ _ | apply Pick.tail)); (intro _; exact rfl); exact rfl)));  (focus (first | exact rfl | (simp; done))); (focus (repeat (first | exact SubO.nil _ | (apply SubO.cons; (focus (repeat' (first | exact Pick.head _ _ | apply Pick.tail))))))); (focus (repeat (first | exact AllE.nil _ | (apply AllE.cons; (focus (first | exact ent_nilBy | exact ent_nilSl | (apply Ent.mem; repeat' (first | exact mcs | apply mct)))))))))
end Go.Proofs.Ytoohgnegoaoleaa.C01

/-
  Contracts of the readers of texts of layer 1; the law 'OctetReads' walked.
-/
namespace Go.Proofs.Ytoohgnegoaoleaa.C01
open Go Go.RowKit Go.Hs
attribute [local irreducible] WL W WQ PL Runs Effs AllE Ent SubO FrIn Pick OneC Ones CellsE PartsE SeqE UZ By Sl Pt Ct

def txN (xs : List UInt8) (a : Int) : Int := (leN (tkB xs a 1) : Int)
def txE (xs : List UInt8) (a : Int) : Int := if tkE xs.length a 1 = 0 then tkE xs.length (a + 1) (txN xs a) else tkE xs.length a 1
def txB (xs : List UInt8) (a : Int) : List UInt8 := if tkE xs.length a 1 = 0 then tkB xs (a + 1) (txN xs a) else []
def txD (xs : List UInt8) (a : Int) : List UInt8 := if tkE xs.length a 1 = 0 then tkD xs (a + 1) (txN xs a) else []
def txA (xs : List UInt8) (a : Int) : Int := if tkE xs.length a 1 = 0 then tkA xs.length (a + 1) (txN xs a) else 0

theorem txN_lt {xs : List UInt8} {a : Int} (h : tkE xs.length a 1 = 0) : 0 ≤ txN xs a ∧ txN xs a < 256 := by
  have := tkB_length h
  have h2 := leN_lt (tkB xs a 1)
  rw [show (tkB xs a 1).length = 1 by omega] at h2
  unfold txN
  omega

end Go.Proofs.Ytoohgnegoaoleaa.C01

/-
  Contracts of octet.Bits, octet.SetBits and of the reference's.
-/
namespace Go.Proofs.Ytoohgnegoaoleaa.C01
open Go Go.RowKit Go.Hs
attribute [local irreducible] WL W WQ PL Runs Effs AllE Ent SubO FrIn Pick OneC Ones CellsE PartsE SeqE UZ By Sl Pt Ct

def biE (a n : Int) : Int := if inB a n then 0 else 2
def biV (v : Nat) (a n : Int) : Nat := if inB a n then v / 2 ^ a.toNat % 2 ^ n.toNat else 0
def seE (a n : Int) (x : Nat) : Int := if inB a n then (if x < 2 ^ n.toNat then 0 else 11) else 2
def seV (v : Nat) (a n : Int) (x : Nat) : Nat := if inB a n then (if x < 2 ^ n.toNat then v - v / 2 ^ a.toNat % 2 ^ n.toNat * 2 ^ a.toNat + x * 2 ^ a.toNat else 0) else 0

theorem mul_eq (a b : Nat) (h : a * b < 18446744073709551616) : IntKind.u64.wrap ((a : Int) * (b : Int)) = ((a * b : Nat) : Int) := by
  rw [← Int.natCast_mul]
  exact wx_u64 (by omega)

end Go.Proofs.Ytoohgnegoaoleaa.C01

/-
  Contracts of layer 1: PutText, Join, the chapter's examples.
-/
namespace Go.Proofs.Ytoohgnegoaoleaa.C01
open Go Go.RowKit Go.Hs
attribute [local irreducible] WL W WQ PL Runs Effs AllE Ent SubO FrIn Pick OneC Ones CellsE PartsE SeqE UZ By Sl Pt Ct

theorem leB1 (v : Nat) : leB 1 v = [UInt8.ofNat v] := by simp [leB]
theorem leB2 (v : Nat) : leB 2 v = [UInt8.ofNat v, UInt8.ofNat (v / 256)] := by simp [leB, List.range_succ]

def ptE (s : List UInt8) : Int := if s.length ≤ 255 then 0 else 11
def ptB (xs s : List UInt8) : List UInt8 := if s.length ≤ 255 then xs ++ leB 1 s.length ++ s else []

/-- fields joined. -/
def jn (fs : List (List UInt8)) : List UInt8 := fs.flatMap fun f => leB 2 f.length ++ f
theorem jn_snoc (fs : List (List UInt8)) (f : List UInt8) : jn (fs ++ [f]) = jn fs ++ leB 2 f.length ++ f := by simp [jn]
theorem jn_bound : ∀ (fs : List (List UInt8)) (b : Nat), (∀ f ∈ fs, f.length ≤ b) → (jn fs).length ≤ fs.length * (b + 2)
  | [], b, _ => by simp [jn]
  | f :: fs, b, h => by
    have ih := jn_bound fs b fun g hg => h g (by simp [hg])
    have h1 := h f (by simp)
    have e : jn (f :: fs) = (leB 2 f.length ++ f) ++ jn fs := by simp [jn]
    rw [e, List.length_append, List.length_append, leB_length, List.length_cons, Nat.add_mul]
    omega
def jnE (fs : List (List UInt8)) : Int := if 256 < fs.length then 4 else if ∀ f ∈ fs, f.length ≤ 65535 then 0 else 11
def jnB (fs : List (List UInt8)) : List UInt8 := if jnE fs = 0 then jn fs else []

theorem shr8I (n : Nat) : ((n : Int)).fdiv (2 ^ (min (8 : Int).toNat IntKind.i64.bits)) = ((n / 256 : Nat) : Int) := by
  rw [show ((2 : Int) ^ (min (8 : Int).toNat IntKind.i64.bits)) = 256 from rfl, Int.fdiv_eq_ediv_of_nonneg _ (by decide)]
  omega
theorem take_next {α : Type} (xs : List α) (k : Nat) (h : k < xs.length) : xs.take (k + 1) = xs.take k ++ [xs[k]] := by
  rw [List.take_succ_eq_append_getElem h]

theorem take_all {fs : List (List UInt8)} {k : Nat} (h : k < fs.length) {b : Nat} (hf : ∀ f ∈ fs.take k, f.length ≤ b) (h2 : fs[k].length ≤ b) : ∀ f ∈ fs.take (k + 1), f.length ≤ b := by
  intro f hm
  rw [take_next fs k h] at hm
  rcases List.mem_append.1 hm with hm | hm
  · exact hf f hm
  · rcases List.mem_singleton.1 hm with rfl
    exact h2

end Go.Proofs.Ytoohgnegoaoleaa.C01

/-
  The law 'OctetReads' walked.
-/
namespace Go.Proofs.Ytoohgnegoaoleaa.C01
open Go Go.RowKit Go.Hs
attribute [local irreducible] WL W WQ PL Runs Effs AllE Ent SubO FrIn Pick OneC Ones CellsE PartsE SeqE UZ By Sl Pt Ct

theorem copyB_fn (v : Value) (xs : List UInt8) (hx : xs.length ≤ 1000000000) : Ct Try.prog 87 [v] [] [By v xs]
    (X := Value) (fun _ => True) (fun x => x) (fun _ => []) (fun x => [By x xs]) := Ct.letB (bs := fun _ => xs) (copy_fn v xs hx) (fun _ => rfl)

theorem rnumI_fn (dv : Value) (xs : List UInt8) (at_ : Int) (n : Int) (hx : xs.length ≤ 1000000000) (h0 : 0 ≤ n) (h8 : n ≤ 8) : Ct Try.prog 66 [.agg #[dv, .int .i64 at_], .int .i64 n] [] [By dv xs]
    (X := Value) (fun _ => True) (fun x => .tuple #[.int .u64 (leN (tkB xs at_ n) : Int), .agg #[x, .int .i64 (tkA xs.length at_ n)], .int .i64 (tkE xs.length at_ n)]) (fun _ => []) (fun x => [By x (tkD xs at_ n)]) := by
  obtain ⟨m, rfl⟩ := Int.eq_ofNat_of_zero_le h0
  exact rnum_fn dv xs at_ m hx (by omega)
theorem tkB_le (xs : List UInt8) (a n : Int) (h : n ≤ 8) : leN (tkB xs a n) ≤ 18446744073709551615 := by
  refine leN_lt8 (n := 8) ?_ (by omega)
  unfold tkB
  split
  · rw [List.length_take]; omega
  · simp

end Go.Proofs.Ytoohgnegoaoleaa.C01

/-
  The chapter's examples; the laws 'OctetParts' and 'OctetPrefix' walked.
-/
namespace Go.Proofs.Ytoohgnegoaoleaa.C01
open Go Go.RowKit Go.Hs
attribute [local irreducible] WL W WQ PL Runs Effs AllE Ent SubO FrIn Pick OneC Ones CellsE PartsE SeqE UZ By Sl Pt Ct

theorem Put16_fnB (dv : Value) (xs : List UInt8) (v : Nat) (hx : xs.length ≤ 1000000000) (hv : v < 65536) : Ct Try.prog 84 [dv, .int .u16 (v : Int)] [] [By dv xs]
    (X := Value) (fun _ => True) (fun x => x) (fun _ => []) (fun x => [By x (xs ++ leB 2 v)]) := Ct.letB (bs := fun _ => xs ++ leB 2 v) (Put16_fn dv xs v hx hv) (fun _ => rfl)
theorem Put64_fnB (dv : Value) (xs : List UInt8) (v : Nat) (hx : xs.length ≤ 1000000000) (hv : v < 18446744073709551616) : Ct Try.prog 50 [dv, .int .u64 (v : Int)] [] [By dv xs]
    (X := Value) (fun _ => True) (fun x => x) (fun _ => []) (fun x => [By x (xs ++ leB 8 v)]) := Ct.letB (bs := fun _ => xs ++ leB 8 v) (Put64_fn dv xs v hx hv) (fun _ => rfl)

end Go.Proofs.Ytoohgnegoaoleaa.C01

/-
  The laws 'OctetParts' and 'OctetPrefix' walked.
-/
namespace Go.Proofs.Ytoohgnegoaoleaa.C01
open Go Go.RowKit Go.Hs
attribute [local irreducible] WL W WQ PL Runs Effs AllE Ent SubO FrIn Pick OneC Ones CellsE PartsE SeqE UZ By Sl Pt Ct

def putW (v k m x : Nat) : Nat := v - v / 2 ^ k % 2 ^ m * 2 ^ k + x * 2 ^ k
theorem putW_eq (v k m x : Nat) : putW v k m x = 2 ^ (k + m) * (v / 2 ^ (k + m)) + x * 2 ^ k + v % 2 ^ k := by
  have h := parts_eq v k m
  unfold putW
  generalize 2 ^ (k + m) * (v / 2 ^ (k + m)) = A at *
  generalize v / 2 ^ k % 2 ^ m * 2 ^ k = B at *
  generalize v % 2 ^ k = L at *
  omega
theorem putW_low (v k m x : Nat) : putW v k m x % 2 ^ k = v % 2 ^ k := by
  rw [putW_eq, Nat.pow_add, show 2 ^ k * 2 ^ m * (v / (2 ^ k * 2 ^ m)) + x * 2 ^ k + v % 2 ^ k = v % 2 ^ k + 2 ^ k * (2 ^ m * (v / (2 ^ k * 2 ^ m)) + x) by rw [Nat.mul_add, Nat.mul_assoc, Nat.mul_comm x]; omega, Nat.add_mul_mod_self_left, Nat.mod_mod]
theorem putW_mid (v k m x : Nat) (hx : x < 2 ^ m) : putW v k m x / 2 ^ k % 2 ^ m = x := by
  rw [putW_eq, Nat.pow_add, show 2 ^ k * 2 ^ m * (v / (2 ^ k * 2 ^ m)) + x * 2 ^ k + v % 2 ^ k = v % 2 ^ k + 2 ^ k * (2 ^ m * (v / (2 ^ k * 2 ^ m)) + x) by rw [Nat.mul_add, Nat.mul_assoc, Nat.mul_comm x]; omega]
  rw [Nat.add_mul_div_left _ _ (ppos k), Nat.div_eq_of_lt (Nat.mod_lt _ (ppos k)), Nat.zero_add, Nat.mul_add_mod, Nat.mod_eq_of_lt hx]
theorem putW_high (v k m x : Nat) (hx : x < 2 ^ m) : putW v k m x / 2 ^ (k + m) = v / 2 ^ (k + m) := by
  have hl : v % 2 ^ k < 2 ^ k := Nat.mod_lt _ (ppos k)
  have h3 : x * 2 ^ k + v % 2 ^ k < 2 ^ (k + m) := by
    have : (x + 1) * 2 ^ k ≤ 2 ^ m * 2 ^ k := Nat.mul_le_mul_right _ hx
    rw [Nat.pow_add, Nat.mul_comm (2 ^ k)]
    rw [Nat.add_mul] at this
    omega
  rw [putW_eq, Nat.add_assoc, Nat.mul_add_div (ppos _), Nat.div_eq_of_lt h3, Nat.add_zero]
theorem putW_lt (v k m x : Nat) (hx : x < 2 ^ m) (hv : v < 18446744073709551616) (hk : k + m ≤ 64) : putW v k m x < 18446744073709551616 := by
  have h := putW_high v k m x hx
  have h13 : v / 2 ^ (k + m) < 2 ^ (64 - (k + m)) := by
    apply Nat.div_lt_of_lt_mul
    rw [← Nat.pow_add, show k + m + (64 - (k + m)) = 64 by omega, p64]
    exact hv
  rw [← h, Nat.div_lt_iff_lt_mul (ppos _), ← Nat.pow_add, show 64 - (k + m) + (k + m) = 64 by omega, p64] at h13
  exact h13
theorem read_low (v w t c k : Nat) (h : w % 2 ^ k = v % 2 ^ k) (hk : t + c ≤ k) : w / 2 ^ t % 2 ^ c = v / 2 ^ t % 2 ^ c := by
  apply Nat.eq_of_testBit_eq
  intro i
  have hb : ∀ y, (y / 2 ^ t % 2 ^ c).testBit i = (decide (i < c) && (y % 2 ^ k).testBit (i + t)) := fun y => by
    rw [Nat.testBit_mod_two_pow, Nat.testBit_div_two_pow, Nat.testBit_mod_two_pow]
    by_cases h : i < c
    · simp [h, show i + t < k by omega]
    · simp [h]
  rw [hb, hb, h]
theorem read_high (v w t h : Nat) (e : w / 2 ^ h = v / 2 ^ h) (ht : h ≤ t) : w / 2 ^ t = v / 2 ^ t := by
  obtain ⟨d, rfl⟩ := Nat.exists_eq_add_of_le ht
  rw [Nat.pow_add, ← Nat.div_div_eq_div_mul, ← Nat.div_div_eq_div_mul, e]

end Go.Proofs.Ytoohgnegoaoleaa.C01

/-
  The law 'OctetBack' walked.
-/
namespace Go.Proofs.Ytoohgnegoaoleaa.C01
open Go Go.RowKit Go.Hs
attribute [local irreducible] WL W WQ PL Runs Effs AllE Ent SubO FrIn Pick OneC Ones CellsE PartsE SeqE UZ By Sl Pt Ct

theorem leN_append (a b : List UInt8) : leN (a ++ b) = leN a + 256 ^ a.length * leN b := by
  induction a with
  | nil => simp [leN]
  | cons c a ih =>
    simp only [List.cons_append, leN, ih, List.length_cons, Nat.pow_succ]
    rw [Nat.mul_add, ← Nat.mul_assoc, Nat.mul_comm 256 (256 ^ a.length)]
    omega
theorem leN_leB : ∀ (n v : Nat), leN (leB n v) = v % 256 ^ n
  | 0, v => by simp [leB, leN, Nat.mod_one]
  | n + 1, v => by
    rw [leB_succ, leN_append, leN_leB n v, leB_length]
    simp only [leN, Nat.mul_zero, Nat.add_zero, UInt8.toNat_ofNat']
    rw [show (2 : Nat) ^ 8 = 256 from rfl, Nat.pow_succ, Nat.mod_mul]

theorem rd_e (A B R : List UInt8) : tkE (A ++ B ++ R).length (A.length : Int) (B.length : Int) = 0 := by
  have h : (A ++ B ++ R).length = A.length + B.length + R.length := by simp [Nat.add_assoc]
  rw [tkE, if_neg (by omega), if_neg (by omega), if_neg (by omega)]
theorem rd_b (A B R : List UInt8) : tkB (A ++ B ++ R) (A.length : Int) (B.length : Int) = B := by
  rw [tkB, if_pos (rd_e A B R), Int.toNat_natCast, Int.toNat_natCast, List.append_assoc, List.drop_left' rfl, List.take_left' rfl]
theorem rd_a (A B R : List UInt8) : tkA (A ++ B ++ R).length (A.length : Int) (B.length : Int) = (A.length : Int) + B.length := if_pos (rd_e A B R)
theorem rd_d (A B R : List UInt8) : tkD (A ++ B ++ R) (A.length : Int) (B.length : Int) = A ++ B ++ R := if_pos (rd_e A B R)

section
variable (kd : Nat → UInt8) (nn : Nat → Nat) (tx : Nat → List UInt8)
def encV (i : Nat) : List UInt8 :=
  if kd i = 0 then leB 1 (nn i % 256) else if kd i = 1 then leB 2 (nn i % 65536) else if kd i = 2 then leB 4 (nn i % 4294967296) else if kd i = 3 then leB 8 (nn i) else leB 1 (tx i).length ++ tx i
def outV : Nat → List UInt8
  | 0 => []
  | k + 1 => outV k ++ encV kd nn tx k
def okV (k : Nat) : Prop := ∀ i, i < k → kd i = 0 ∨ kd i = 1 ∨ kd i = 2 ∨ kd i = 3 ∨ (tx i).length ≤ 255
theorem enc_len (i : Nat) (h : kd i = 0 ∨ kd i = 1 ∨ kd i = 2 ∨ kd i = 3 ∨ (tx i).length ≤ 255) : (encV kd nn tx i).length ≤ 256 := by
  unfold encV
  split
  · rw [leB_length]; omega
  · split
    · rw [leB_length]; omega
    · split
      · rw [leB_length]; omega
      · split
        · rw [leB_length]; omega
        · rw [List.length_append, leB_length]
          rcases h with h | h | h | h | h
          · contradiction
          · contradiction
          · contradiction
          · contradiction
          · omega
theorem out_len : ∀ k, okV kd tx k → (outV kd nn tx k).length ≤ 256 * k
  | 0, _ => by simp [outV]
  | k + 1, h => by
    have h1 := out_len k fun i hi => h i (by omega)
    have h2 := enc_len kd nn tx k (h k (by omega))
    rw [outV, List.length_append]
    omega
theorem out_split (k : Nat) : ∀ d, ∃ R, outV kd nn tx (k + d) = outV kd nn tx k ++ R
  | 0 => ⟨[], by simp⟩
  | d + 1 => by
    obtain ⟨R, hR⟩ := out_split k d
    exact ⟨R ++ encV kd nn tx (k + d), by rw [← Nat.add_assoc, outV, hR, List.append_assoc]⟩
theorem out_at (k n : Nat) (h : k < n) : ∃ R, outV kd nn tx n = outV kd nn tx k ++ encV kd nn tx k ++ R := by
  obtain ⟨R, hR⟩ := out_split kd nn tx (k + 1) (n - (k + 1))
  rw [show k + 1 + (n - (k + 1)) = n by omega] at hR
  exact ⟨R, hR⟩
end
theorem okV_next {kd : Nat → UInt8} {tx : Nat → List UInt8} {k : Nat} (h : okV kd tx k) (h2 : kd k = 0 ∨ kd k = 1 ∨ kd k = 2 ∨ kd k = 3 ∨ (tx k).length ≤ 255) : okV kd tx (k + 1) := fun i hi => by
  by_cases e : i = k
  · subst e; exact h2
  · exact h i (by omega)

theorem w8 (x : Nat) : ((x % 256 : Nat) : Int) = ((UInt8.ofNat x).toNat : Int) := by simp
theorem w16 (x : Nat) : IntKind.u16.wrap (x : Int) = ((x % 65536 : Nat) : Int) := by rw [IntKind.wrap_u16]; omega
theorem w32 (x : Nat) : IntKind.u32.wrap (x : Int) = ((x % 4294967296 : Nat) : Int) := by rw [IntKind.wrap_u32]; omega
theorem kd_ne {a b : UInt8} (h : ¬ a = b) : ¬ (a.toNat : Int) = (b.toNat : Int) := fun e => h (UInt8.toNat_inj.1 (Int.ofNat.inj e))
theorem done_end (xs : List UInt8) : doE xs.length (xs.length : Int) = 0 := by
  rw [doE, if_neg (by omega), if_neg (by omega)]

end Go.Proofs.Ytoohgnegoaoleaa.C01

/-
  From a contract to what a row asks: what was there before the call has not turned. No program is named here.
-/
namespace Go.Hs
open Go Go.RowKit Go.ChangeShapes Go.WideShapes Go.ChangeAt

theorem CtD.below {P : Program} {f : FuncId} {args : List Value} {Φ : List SP} {v : Value} {w : World} (h : CtD P f args Φ v) (hp : ∀ ψ ∈ Φ, ψ.p w (fun _ => False)) :
    Calls P f args.toArray w fun e w' => e = .returned v ∧ Below w.heap.size w w' := by
  have ha : avo (fun _ => False) [] = fun _ => False := by
    funext k
    apply propext
    constructor
    · rintro (h | ⟨x, hx, _⟩)
      · exact h
      · cases hx
    · exact False.elim
  refine (h w (fun _ => False) (fun k hk => hk.elim) trivial (fun ψ hψ => by rw [ha]; exact hp ψ hψ)).mono fun e w' ⟨_, _, he, hm, _⟩ => ?_
  refine ⟨he, hm.os, hm.tape, hm.output, hm.size, fun k hk => hm.block k hk ?_⟩
  rintro ⟨x, hx, _⟩
  cases hx

theorem trodAll_stays {H : Type} {enc : TypeId × Value → H} {P : Program} (hl : laidOutB P = true) {W W' : World} (hb : Below W.heap.size W W') :
    ∀ {ts : List TypeId} {vs : List Value} {ds : List (DataW H)} {ps : List MemPlace}, ts.all (fun t => P.readableRec t && decide (t < P.types.size)) = true →
      DataW.TrodAll enc P W 0 (fun _ => true) true ts vs ds ps → DataW.TrodAll enc P W' 0 (fun b => decide (b < W.heap.size)) true ts vs ds ps
  | [], vs, ds, ps, _, h => by
    cases vs <;> cases ds <;> simp [DataW.TrodAll] at h ⊢
    exact h
  | t :: ts, vs, ds, ps, ha, h => by
    obtain ⟨v, vs', d, ds', p, q, rfl, rfl, rfl, h1, h2⟩ := trodAll_cons h
    simp only [List.all_cons, Bool.and_eq_true, decide_eq_true_eq] at ha
    obtain ⟨⟨ha, hs⟩, hr⟩ := ha
    refine trodAll_cons_mk (Below.trod hl ha hs h1 hb ?_) (trodAll_stays hl hb hr h2)
    obtain ⟨m, hm⟩ := h1
    exact DataW.trod_lt m _ _ _ hm

theorem trodAll_length {H : Type} {enc : TypeId × Value → H} {P : Program} {W : World} {b : Nat} {sp : Nat → Bool} {hd : Bool} :
    ∀ {ts : List TypeId} {vs : List Value} {ds : List (DataW H)} {ps : List MemPlace}, DataW.TrodAll enc P W b sp hd ts vs ds ps → ds.length = ts.length
  | [], vs, ds, ps, h => by cases vs <;> cases ds <;> simp [DataW.TrodAll] at h ⊢
  | t :: ts, vs, ds, ps, h => by
    obtain ⟨v, vs', d, ds', p, q, rfl, rfl, rfl, h1, h2⟩ := trodAll_cons h
    simp [trodAll_length h2]

theorem law_lift {H : Type} {enc : TypeId × Value → H} {C : Checked} {os : Os} {f : FuncId} {fn : Func} {s : ChangeSpec} {conds : List PathCond} {tb : TypeId}
    (own : ownKnob C.prog.godebug = none) (started : os.Started) (noInit : C.prog.inits.idxOf? f = none) (hfn : C.prog.funcs[f]? = some fn)
    (witness : ∃ (w : World) (tape : Tape) (i : Input), w.os = os ∧ (w.forCall tape i).Shaped C.prog ∧ i.vars = [] ∧ Input.okWide C.prog (w.forCall tape i) .any w.heap.size f i ∧
      s.pre6 enc C.prog fn conds false (w.forCall tape i).memory i.args ∧ ({} : Assume).holds C.prog (lone (Frame.enter C.prog f i.args .normal) [] (w.forCall tape i)))
    (hl : laidOutB C.prog = true) (hp : fn.params.toList.all (fun t => C.prog.readableRec t && decide (t < C.prog.types.size)) = true) (hv : s.vars = [])
    (hr : fn.resultTypes = #[tb]) (htb : C.prog.underlying tb = some .bool)
    (hs : ∀ (ds : List (DataW H)), ds.length = fn.params.toList.length → s.fn H ds = { results := [.lit (.bool true)], args := ds })
    (walk : ∀ (W : World) (base : Nat) (args : Array Value) (ds : List (DataW H)) (p : List MemPlace),
      (∀ (j : Nat) t v, fn.params[j]? = some t → args[j]? = some v → Value.okWide C.prog W .any base t v) →
      DataW.TrodAll enc C.prog W 0 (fun _ => true) true fn.params.toList args.toList ds p →
      (DataW.weightsEach C.prog fn.params.toList ds).all (· ≤ reachBytes) = true →
      Calls C.prog f args W fun e W' => e = .returned (.bool true) ∧ Below W.heap.size W W') :
    ReturnsInHanded {} C os f .any (s.pre6 enc C.prog fn conds false) (s.post enc C.prog fn false true false false) := by
  refine returnsInHanded_of_change_sized own started noInit hfn witness ?_
  intro W base args ds gs before hval hW _ hz _
  have hW' := hW
  obtain ⟨p, q, hA, hV, rfl, hfz, hnd⟩ := hW
  rw [hv] at hV
  obtain ⟨rfl, rfl⟩ := trodVars_none hV
  have hz' : (DataW.weightsEach C.prog fn.params.toList ds).all (· ≤ reachBytes) = true := by
    have e : s.plain.varTypes C.prog = [] := by simp [ChangeSpec.plain, DataSpec.varTypes, hv]
    rw [e, List.append_nil, List.append_nil] at hz
    exact hz
  refine (walk W base args ds p hval hA hz').mono fun e W' ⟨he, bel⟩ => ?_
  subst he
  have hf := hs ds (trodAll_length hA)
  refine ⟨_, rfl, ds, [], _, [], p, [], hW', ?_, ?_, ?_, bel.frame _, fun h => by cases h⟩
  · rw [List.append_nil, hf, hr]
    exact trodAll_mk1 (shut_bool htb _)
  · rw [List.append_nil, hf]
    exact trodAll_stays hl bel hp hA
  · rw [List.append_nil, hf, hv]
    rfl

theorem wf_u64 {n : Int} (h : (Lit.int .u64 n).wf = true) : ∃ k : Nat, n = (k : Int) ∧ k < 18446744073709551616 := by
  simp [Lit.wf, IntKind.min, IntKind.max, IntKind.signed, IntKind.bits] at h
  exact ⟨n.toNat, by omega, by omega⟩
theorem wf_i64 {n : Int} (h : (Lit.int .i64 n).wf = true) : -9223372036854775808 ≤ n ∧ n ≤ 9223372036854775807 := by
  simp [Lit.wf, IntKind.min, IntKind.max, IntKind.signed, IntKind.bits] at h
  exact h
theorem wf_u8 {n : Int} (h : (Lit.int .u8 n).wf = true) : ∃ k : UInt8, n = (k.toNat : Int) := by
  simp [Lit.wf, IntKind.min, IntKind.max, IntKind.signed, IntKind.bits] at h
  exact ⟨UInt8.ofNat n.toNat, by simp; omega⟩

theorem wf_u32 {n : Int} (h : (Lit.int .u32 n).wf = true) : ∃ k : BitVec 32, n = (k.toNat : Int) := by
  simp [Lit.wf, IntKind.min, IntKind.max, IntKind.signed, IntKind.bits] at h
  exact ⟨BitVec.ofNat 32 n.toNat, by simp; omega⟩
theorem wf_u16 {n : Int} (h : (Lit.int .u16 n).wf = true) : ∃ k : Nat, n = (k : Int) ∧ k < 65536 := by
  simp [Lit.wf, IntKind.min, IntKind.max, IntKind.signed, IntKind.bits] at h
  exact ⟨n.toNat, by omega, by omega⟩

-- ===== what an argument is, read off its reading =====

section
variable {H : Type} {enc : TypeId × Value → H} {P : Program} {w : World} {held : Bool}

theorem cell_block {w : World} {a : Addr} {v : Value} (h : w.cell? a = some v) : a.block < w.heap.size := by
  rcases Nat.lt_or_ge a.block w.heap.size with h1 | h1
  · exact h1
  · simp [World.cell?, Array.getElem?_eq_none h1] at h

theorem op_int {t : TypeId} {k : IntKind} {fuel : Nat} {cs : List Value} {x : DataW H × List MemPlace} (ht : P.underlying t = some (.int k)) (h : DataW.trod enc P w 0 (fun _ => true) held fuel t cs = some x) :
    ∃ n, cs = [.int k n] ∧ (Lit.int k n).wf = true := by
  obtain ⟨n, h1, _, h2⟩ := DataW.trod_int ht h
  exact ⟨n, h1, h2⟩

theorem op_bool {t : TypeId} {fuel : Nat} {cs : List Value} {x : DataW H × List MemPlace} (ht : P.underlying t = some .bool) (h : DataW.trod enc P w 0 (fun _ => true) held fuel t cs = some x) : ∃ b, cs = [.bool b] := by
  cases fuel with
  | zero => simp [DataW.trod] at h
  | succ fuel =>
    unfold DataW.trod at h
    rw [ht] at h
    split at h <;> first | exact ⟨_, rfl⟩ | simp_all

theorem op_bytes {t e : TypeId} {fuel : Nat} {cs : List Value} {x : DataW H × List MemPlace} (ht : P.underlying t = some (.slice e)) (he : P.underlying e = some (.int .u8)) (hc : P.cellsOf e = 1)
    (h : DataW.trod enc P w 0 (fun _ => true) held fuel t cs = some x) : ∃ v bs, cs = [v] ∧ (By v bs).p w (fun _ => False) ∧ bs.length ≤ maxLen := by
  rcases open_ints ht he hc h with ⟨rfl, _⟩ | ⟨a, len, cap, zs, rfl, _, hl, hm, hz, _, hcell, hwz⟩
  · exact ⟨_, [], rfl, ⟨rfl, none, 0, rfl, Nat.le_refl _, by simp [maxLen], fun h => absurd h (by simp)⟩, by simp⟩
  · simp only [if_true] at hz
    have hlen : ((zs.take len).map fun z => UInt8.ofNat z.toNat).length = len := by simp; omega
    refine ⟨_, (zs.take len).map fun z => UInt8.ofNat z.toNat, rfl, ⟨by simp, some a, cap, by rw [hlen], by rw [hlen]; exact hl, hm, fun hn => ⟨a, rfl, ?_, fun h => h, fun j u hu => ?_⟩⟩, by rw [hlen]; omega⟩
    · rw [hlen] at hn
      have := cell_block (hcell 0 (by omega))
      rwa [block_add] at this
    · rw [List.map_map, List.getElem?_map] at hu
      cases hz2 : (zs.take len)[j]? with
      | none => rw [hz2] at hu; cases hu
      | some z =>
        rw [hz2] at hu
        simp only [Option.map_some, Option.some.injEq] at hu
        subst hu
        have hj : j < len := by
          have := (List.getElem?_eq_some_iff.1 hz2).1
          simp at this
          omega
        have hzj : zs[j]? = some z := by rwa [List.getElem?_take_of_lt hj] at hz2
        rw [hcell j (by omega), List.getD, hzj]
        obtain ⟨k, rfl⟩ := wf_u8 (hwz z (List.mem_of_getElem? hzj))
        simp [bcell]

theorem open_bytes {t e : TypeId} {r : Reach} {base : Nat} {v : Value} {d : DataW H} {ps : List MemPlace} (ht : P.underlying t = some (.slice e)) (he : P.underlying e = some (.int .u8)) (hc : P.cellsOf e = 1)
    (hval : Value.okWide P w r base t v) (h : DataW.Trod enc P w 0 (fun _ => true) held t v d ps) : ∃ bs, (By v bs).p w (fun _ => False) ∧ bs.length ≤ maxLen := by
  obtain ⟨a, len, cap, rfl⟩ := okWide_slice ht hval
  obtain ⟨fuel, hf⟩ := h
  obtain ⟨v, bs, e0, hb, hl⟩ := op_bytes ht he hc hf
  have e0 : [Value.slice a len cap] = [v] := e0
  injection e0 with e0
  subst e0
  exact ⟨bs, hb, hl⟩

theorem wf_zero (k : IntKind) : (Lit.int k 0).wf = true := by cases k <;> decide

theorem open_nums {t e : TypeId} {k : IntKind} {r : Reach} {base : Nat} {v : Value} {d : DataW H} {ps : List MemPlace} (ht : P.underlying t = some (.slice e)) (he : P.underlying e = some (.int k)) (hc : P.cellsOf e = 1)
    (hval : Value.okWide P w r base t v) (h : DataW.Trod enc P w 0 (fun _ => true) held t v d ps) : ∃ (n : Nat) (g : Nat → Int), (Rw 1 v n (fun i => [.int k (g i)])).p w (fun _ => False) ∧ n ≤ maxLen ∧ ∀ i, (Lit.int k (g i)).wf = true := by
  obtain ⟨a, len, cap, rfl⟩ := okWide_slice ht hval
  obtain ⟨fuel, hf⟩ := h
  rcases open_ints ht he hc hf with ⟨e0, _⟩ | ⟨a', len', cap', zs, e0, _, hl, hm, hz, _, hcell, hwz⟩
  · have e0 : [Value.slice a len cap] = [.slice none 0 0] := e0
    injection e0 with e0
    injection e0 with e1 e2 e3
    subst e1; subst e2; subst e3
    exact ⟨0, fun _ => 0, ⟨none, 0, rfl, Nat.le_refl _, by simp [maxLen], fun h => absurd h (by omega)⟩, by simp, fun _ => wf_zero k⟩
  · have e0 : [Value.slice a len cap] = [.slice (some a') len' cap'] := e0
    injection e0 with e0
    injection e0 with e1 e2 e3
    subst e1; subst e2; subst e3
    simp only [if_true] at hz
    refine ⟨len, fun i => zs.getD i 0, ⟨some a', cap, rfl, hl, hm, fun hn => ⟨a', rfl, ?_, fun h => h, fun i hi j u hu => ?_⟩⟩, by omega, fun i => ?_⟩
    · have := cell_block (hcell 0 (by omega))
      rwa [block_add] at this
    · cases j with
      | zero =>
        simp only [List.getElem?_cons_zero, Option.some.injEq] at hu
        subst hu
        rw [Nat.mul_one, Nat.add_zero]
        exact hcell i (by omega)
      | succ j => simp at hu
    · show (Lit.int k (zs.getD i 0)).wf = true
      rw [List.getD_eq_getElem?_getD]
      cases hg : zs[i]? with
      | none => exact wf_zero k
      | some z => exact hwz z (List.mem_of_getElem? hg)

theorem mapM_get {α β : Type} {g : α → Option β} : ∀ {l : List α} {ys : List β}, l.mapM g = some ys → ∀ {i : Nat} {a : α}, l[i]? = some a → ∃ y, g a = some y
  | [], _, _, i, a, h => by simp at h
  | b :: r, ys, h, i, a, ha => by
    rw [List.mapM_cons] at h
    cases hb : g b with
    | none => rw [hb] at h; simp at h
    | some y =>
      rw [hb] at h
      cases hr : r.mapM g with
      | none => rw [hr] at h; simp at h
      | some zs =>
        cases i with
        | zero =>
          simp only [List.getElem?_cons_zero, Option.some.injEq] at ha
          subst ha
          exact ⟨y, hb⟩
        | succ i =>
          rw [List.getElem?_cons_succ] at ha
          exact mapM_get hr ha

theorem op_struct {t : TypeId} {fs : Array Field} {fuel : Nat} {cs : List Value} {x : DataW H × List MemPlace} (ht : P.underlying t = some (.struct fs)) (h : DataW.trod enc P w 0 (fun _ => true) held fuel t cs = some x) :
    cs.length = P.cellsOf t ∧ ∃ fuel', ∀ {i : Nat} {f : Field}, fs[i]? = some f → ∃ y, DataW.trod enc P w 0 (fun _ => true) held fuel' f.type ((cs.drop f.offset).take (P.cellsOf f.type)) = some y := by
  cases fuel with
  | zero => simp [DataW.trod] at h
  | succ fuel =>
    unfold DataW.trod at h
    rw [ht] at h
    split at h <;> first | (rename_i heq; injection heq with heq; cases heq; done) | skip
    all_goals first | (exfalso; simp_all; done) | skip
    split at h
    · rename_i heq hl
      injection heq with heq
      injection heq with heq
      subst heq
      rw [Option.map_eq_some_iff] at h
      obtain ⟨ys, hm, _⟩ := h
      exact ⟨hl, fuel, fun {i f} hf => mapM_get hm (by simpa using hf)⟩
    · cases h

theorem open_struct {t : TypeId} {fs : Array Field} {r : Reach} {base : Nat} {v : Value} {d : DataW H} {ps : List MemPlace} (ht : P.underlying t = some (.struct fs)) (hval : Value.okWide P w r base t v) (h : DataW.Trod enc P w 0 (fun _ => true) held t v d ps) :
    ∃ cs : List Value, v = .agg cs.toArray ∧ cs.length = P.cellsOf t ∧ ∃ fuel', ∀ {i : Nat} {f : Field}, fs[i]? = some f → ∃ y, DataW.trod enc P w 0 (fun _ => true) held fuel' f.type ((cs.drop f.offset).take (P.cellsOf f.type)) = some y := by
  simp only [Value.okWide, ht] at hval
  obtain ⟨cs, rfl, _, _⟩ := hval
  obtain ⟨fuel, hf⟩ := h
  obtain ⟨h1, h2⟩ := op_struct ht hf
  refine ⟨cs.toList, by simp, h1, h2⟩

theorem fld {fs : Array Field} {fuel : Nat} {cs : List Value} (hf : ∀ {i : Nat} {f : Field}, fs[i]? = some f → ∃ y, DataW.trod enc P w 0 (fun _ => true) held fuel f.type ((cs.drop f.offset).take (P.cellsOf f.type)) = some y)
    (i T off sz : Nat) {f : Field} (h : fs[i]? = some f) (hT : f.type = T) (ho : f.offset = off) (hs : P.cellsOf T = sz) {us : List Value} (hu : (cs.drop off).take sz = us) : ∃ y, DataW.trod enc P w 0 (fun _ => true) held fuel T us = some y := by
  subst hT; subst ho; subst hs; subst hu
  exact hf h
end
end Go.Hs

/-
  Arguments that are slices of things: what is read off their reading. No program is named here.
-/
namespace Go.Hs
open Go Go.RowKit Go.ChangeShapes Go.WideShapes Go.ChangeAt

theorem rwP_congr {size : Nat} {v : Value} {n : Nat} {f g : Nat → List Value} {w : World} {O : Nat → Prop} (h : rwP size v n f w O) (e : ∀ i, i < n → f i = g i) : rwP size v n g w O := by
  obtain ⟨A, c, hv, h1, h2, hr⟩ := h
  refine ⟨A, c, hv, h1, h2, fun hn => ?_⟩
  obtain ⟨ad, hA, hlt, hO, hcell⟩ := hr hn
  exact ⟨ad, hA, hlt, hO, fun i hi j u hu => hcell i hi j u (by rw [e i hi]; exact hu)⟩

section
variable {H : Type} {enc : TypeId × Value → H} {P : Program} {w : World} {held : Bool}

theorem op_things {t e : TypeId} {size fuel : Nat} {cs : List Value} {x : DataW H × List MemPlace} (ht : P.underlying t = some (.slice e)) (hs : P.cellsOf e = size) (h0 : 0 < size)
    (hf : DataW.trod enc P w 0 (fun _ => true) held fuel t cs = some x) : ∃ (v : Value) (n : Nat) (f : Nat → List Value) (fuel' : Nat), cs = [v] ∧ (Rw size v n f).p w (fun _ => False) ∧ n ≤ maxLen ∧
      ∀ i, i < n → (f i).length = size ∧ ∃ y, DataW.trod enc P w 0 (fun _ => true) held fuel' e (f i) = some y := by
  subst hs
  rcases Deep.open_slice ht hf with ⟨rfl, _⟩ | ⟨a, len, cap, m, n, D, Pl, rfl, _, hl, hm, hmm, _, hel⟩
  · exact ⟨_, 0, fun _ => [], 0, rfl, ⟨none, 0, rfl, Nat.le_refl _, by simp [maxLen], fun h => absurd h (by omega)⟩, by simp, fun i hi => absurd hi (by omega)⟩
  · simp only [if_true] at hmm
    have hch : ∀ i, ∃ cs', i < m → w.cells? 0 (a.add (i * P.cellsOf e)) (P.cellsOf e) = some cs' ∧ DataW.trod enc P w 0 (fun _ => true) held n e cs' = some (D i, Pl i) := fun i => by
      by_cases hi : i < m
      · obtain ⟨cs', h1, h2⟩ := hel i hi
        exact ⟨cs', fun _ => ⟨h1, h2⟩⟩
      · exact ⟨[], fun h => absurd h hi⟩
    obtain ⟨f, hf'⟩ := Classical.axiomOfChoice hch
    have hcell : ∀ i, i < len → (f i).length = P.cellsOf e ∧ ∀ j u, (f i)[j]? = some u → w.cell? (a.add (i * P.cellsOf e + j)) = some u := fun i hi => by
      obtain ⟨_, h2, h3⟩ := World.cells?_some (hf' i (by omega)).1
      refine ⟨h2, fun j u hu => ?_⟩
      have hj : j < (f i).length := (List.getElem?_eq_some_iff.1 hu).1
      have h4 := h3 j (by omega)
      rw [add_add'] at h4
      rw [h4, hu]
    refine ⟨_, len, f, n, rfl, ⟨some a, cap, rfl, hl, hm, fun hn => ⟨a, rfl, ?_, fun h => h, fun i hi j u hu => (hcell i hi).2 j u hu⟩⟩, by omega, fun i hi => ⟨(hcell i hi).1, _, (hf' i (by omega)).2⟩⟩
    obtain ⟨h1, h2⟩ := hcell 0 hn
    have h3 := h2 0 ((f 0)[0]'(by omega)) (List.getElem?_eq_getElem _)
    have := cell_block h3
    rwa [block_add] at this

theorem open_things {t e : TypeId} {size : Nat} {r : Reach} {base : Nat} {v : Value} {d : DataW H} {ps : List MemPlace} (ht : P.underlying t = some (.slice e)) (hs : P.cellsOf e = size) (h0 : 0 < size)
    (hval : Value.okWide P w r base t v) (h : DataW.Trod enc P w 0 (fun _ => true) held t v d ps) : ∃ (n : Nat) (f : Nat → List Value) (fuel' : Nat), (Rw size v n f).p w (fun _ => False) ∧ n ≤ maxLen ∧
      ∀ i, i < n → (f i).length = size ∧ ∃ y, DataW.trod enc P w 0 (fun _ => true) held fuel' e (f i) = some y := by
  obtain ⟨a, len, cap, rfl⟩ := okWide_slice ht hval
  obtain ⟨fuel, hf⟩ := h
  obtain ⟨v, n, f, fuel', e0, h1, h2, h3⟩ := op_things ht hs h0 hf
  have e0 : [Value.slice a len cap] = [v] := e0
  injection e0 with e0
  subst e0
  exact ⟨n, f, fuel', h1, h2, h3⟩

theorem open_lists {t e b : TypeId} {r : Reach} {base : Nat} {v : Value} {d : DataW H} {ps : List MemPlace} (ht : P.underlying t = some (.slice e)) (he : P.underlying e = some (.slice b)) (hb : P.underlying b = some (.int .u8)) (hce : P.cellsOf e = 1) (hcb : P.cellsOf b = 1)
    (hval : Value.okWide P w r base t v) (h : DataW.Trod enc P w 0 (fun _ => true) held t v d ps) : ∃ (fs : List (List UInt8)) (vs : Nat → Value), (Rw 1 v fs.length (fun i => [vs i])).p w (fun _ => False) ∧ (Al fs.length (fun i => By (vs i) (fs.getD i []))).p w (fun _ => False) := by
  obtain ⟨n, f, fuel, hr, _, hel⟩ := open_things ht hce (by decide) hval h
  have hch : ∀ i, ∃ q : Value × List UInt8, i < n → f i = [q.1] ∧ (By q.1 q.2).p w (fun _ => False) := fun i => by
    by_cases hi : i < n
    · obtain ⟨_, y, hy⟩ := hel i hi
      obtain ⟨v, bs, e0, h1, _⟩ := op_bytes he hb hcb hy
      exact ⟨(v, bs), fun _ => ⟨e0, h1⟩⟩
    · exact ⟨(.slice none 0 0, []), fun h => absurd h hi⟩
  obtain ⟨g, hg⟩ := Classical.axiomOfChoice hch
  have hl : ((List.range n).map fun i => (g i).2).length = n := by simp
  refine ⟨(List.range n).map fun i => (g i).2, fun i => (g i).1, ?_, fun i hi => ?_⟩
  · rw [hl]
    have hr' : rwP 1 v n f w (fun _ => False) := hr
    exact rwP_congr hr' fun i hi => (hg i hi).1
  · rw [hl] at hi
    have e : ((List.range n).map fun i => (g i).2).getD i [] = (g i).2 := by
      rw [List.getD_eq_getElem?_getD]
      simp [hi]
    show (By (g i).1 (((List.range n).map fun i => (g i).2).getD i [])).p w _
    rw [e]
    exact (hg i hi).2
end
end Go.Hs

/-
  Arguments that are slices of things, with the measure of their reading. No program is named here.
-/
namespace Go.Hs
open Go Go.RowKit Go.ChangeShapes Go.WideShapes Go.ChangeAt

section
variable {H : Type} {enc : TypeId × Value → H} {P : Program} {w : World} {held : Bool}

theorem opf_things {t e : TypeId} {size fuel : Nat} {cs : List Value} {x : DataW H × List MemPlace} (ht : P.underlying t = some (.slice e)) (hs : P.cellsOf e = size) (h0 : 0 < size)
    (hf : DataW.trod enc P w 0 (fun _ => true) held fuel t cs = some x) : ∃ (v : Value) (n : Nat) (f : Nat → List Value), cs = [v] ∧ (Rw size v n f).p w (fun _ => False) ∧ n ≤ maxLen ∧
      ∀ i, i < n → (f i).length = size ∧ ∃ fuel' y, fuel' < fuel ∧ DataW.trod enc P w 0 (fun _ => true) held fuel' e (f i) = some y := by
  subst hs
  rcases DataW.trod_slice ht hf with ⟨rfl, _⟩ | ⟨a, len, cap, elems, rest, n, hfu, rfl, _, _, hl, hm, hel, hi1, _, _⟩
  · exact ⟨_, 0, fun _ => [], rfl, ⟨none, 0, rfl, Nat.le_refl _, by simp [maxLen], fun h => absurd h (by omega)⟩, by simp, fun i hi => absurd hi (by omega)⟩
  · have hch : ∀ i, ∃ cs', i < len → w.cells? 0 (a.add (i * P.cellsOf e)) (P.cellsOf e) = some cs' ∧ ∃ y, DataW.trod enc P w 0 (fun _ => true) held n e cs' = some y := fun i => by
      by_cases hi : i < len
      · have h1 := hi1 i hi
        rw [List.getElem?_eq_getElem (by omega)] at h1
        obtain ⟨cs', h2, h3⟩ := Option.bind_eq_some_iff.1 h1
        exact ⟨cs', fun _ => ⟨h2, _, h3⟩⟩
      · exact ⟨[], fun h => absurd h hi⟩
    obtain ⟨f, hf'⟩ := Classical.axiomOfChoice hch
    have hcell : ∀ i, i < len → (f i).length = P.cellsOf e ∧ ∀ j u, (f i)[j]? = some u → w.cell? (a.add (i * P.cellsOf e + j)) = some u := fun i hi => by
      obtain ⟨_, h2, h3⟩ := World.cells?_some (hf' i hi).1
      refine ⟨h2, fun j u hu => ?_⟩
      have hj : j < (f i).length := (List.getElem?_eq_some_iff.1 hu).1
      have h4 := h3 j (by omega)
      rw [add_add'] at h4
      rw [h4, hu]
    refine ⟨_, len, f, rfl, ⟨some a, cap, rfl, hl, hm, fun hn => ⟨a, rfl, ?_, fun h => h, fun i hi j u hu => (hcell i hi).2 j u hu⟩⟩, by omega, fun i hi => ⟨(hcell i hi).1, n, ?_⟩⟩
    · obtain ⟨h1, h2⟩ := hcell 0 hn
      have h3 := h2 0 ((f 0)[0]'(by omega)) (List.getElem?_eq_getElem _)
      have := cell_block h3
      rwa [block_add] at this
    · obtain ⟨y, hy⟩ := (hf' i hi).2
      exact ⟨y, by omega, hy⟩

theorem opf_struct {t : TypeId} {fs : Array Field} {fuel : Nat} {cs : List Value} {x : DataW H × List MemPlace} (ht : P.underlying t = some (.struct fs)) (h : DataW.trod enc P w 0 (fun _ => true) held fuel t cs = some x) :
    cs.length = P.cellsOf t ∧ ∃ fuel', fuel' < fuel ∧ ∀ {i : Nat} {f : Field}, fs[i]? = some f → ∃ y, DataW.trod enc P w 0 (fun _ => true) held fuel' f.type ((cs.drop f.offset).take (P.cellsOf f.type)) = some y := by
  cases fuel with
  | zero => simp [DataW.trod] at h
  | succ fuel =>
    unfold DataW.trod at h
    rw [ht] at h
    split at h <;> first | (rename_i heq; injection heq with heq; cases heq; done) | skip
    all_goals first | (exfalso; simp_all; done) | skip
    split at h
    · rename_i heq hl
      injection heq with heq
      injection heq with heq
      subst heq
      rw [Option.map_eq_some_iff] at h
      obtain ⟨ys, hm, _⟩ := h
      exact ⟨hl, fuel, Nat.lt_succ_self _, fun {i f} hf => mapM_get hm (by simpa using hf)⟩
    · cases h
end
end Go.Hs

/-
  A list of elements that is handed in: what is read off its reading.
-/
namespace Go.Proofs.Ytoohgnegoaoleaa.C04
open Go Go.RowKit Go.Hs Go.ChangeShapes Go.WideShapes Go.ChangeAt

theorem tree_build {w : World} {O : Nat → Prop} : ∀ (n : Nat) (f : Nat → List Value), (∀ i, i < n → ∃ (id ext : UInt8) (dv : Value) (data : List UInt8) (sv : Value) (subs : T), f i = [bcell id, bcell ext, dv, sv] ∧ (By dv data).p w O ∧ (Rw 4 sv subs.len subs.at_).p w O ∧ subs.tf.p w O) →
    ∃ t : T, t.len = n ∧ (∀ i, i < n → t.at_ i = f i) ∧ t.tf.p w O
  | 0, f, _ => ⟨.nil, rfl, fun i hi => absurd hi (by omega), trivial⟩
  | n + 1, f, h => by
    obtain ⟨id, ext, dv, data, sv, subs, h1, h2, h3, h4⟩ := h 0 (by omega)
    obtain ⟨t, t1, t2, t3⟩ := tree_build n (fun i => f (i + 1)) fun i hi => h (i + 1) (by omega)
    refine ⟨.cons id ext dv data sv subs t, by simp [T.len, t1], fun i hi => ?_, h2, h3, h4, t3⟩
    cases i with
    | zero => exact h1.symm
    | succ i => exact t2 i (by omega)

set_option maxRecDepth 100000 in
theorem op_tree {H : Type} {enc : TypeId × Value → H} {w : World} {held : Bool} : ∀ (fuel : Nat) (cs : List Value) (x : DataW H × List MemPlace), DataW.trod enc Try.prog w 0 (fun _ => true) held fuel 24 cs = some x →
    ∃ (v : Value) (t : T), cs = [v] ∧ (Rw 4 v t.len t.at_).p w (fun _ => False) ∧ t.tf.p w (fun _ => False) := by
  intro fuel
  induction fuel using Nat.strongRecOn with
  | _ fuel ih =>
    intro cs x hx
    obtain ⟨v, n, f, h1, h2, _, h4⟩ := opf_things (size := 4) Try.underlying24 (by kernel_rfl) (by decide) hx
    obtain ⟨t, t1, t2, t3⟩ := tree_build (w := w) (O := fun _ => False) n f fun i hi => by
      obtain ⟨hl, fu, y, hfu, hy⟩ := h4 i hi
      obtain ⟨_, fu2, hfu2, hf⟩ := opf_struct Try.underlying106 hy
      generalize f i = cs at *
      match cs, hl with
      | [c0, c1, c2, c3], _ =>
      obtain ⟨y0, f0⟩ := fld hf 0 5 0 1 rfl rfl rfl (by kernel_rfl) rfl
      obtain ⟨y1, f1⟩ := fld hf 1 5 1 1 rfl rfl rfl (by kernel_rfl) rfl
      obtain ⟨y2, f2⟩ := fld hf 2 37 2 1 rfl rfl rfl (by kernel_rfl) rfl
      obtain ⟨y3, f3⟩ := fld hf 3 24 3 1 rfl rfl rfl (by kernel_rfl) rfl
      obtain ⟨a, e0, w0⟩ := op_int Try.underlying5 f0
      obtain ⟨b, e1, w1⟩ := op_int Try.underlying5 f1
      obtain ⟨dv, data, e2, hb, _⟩ := op_bytes Try.underlying37 Try.underlying5 (by kernel_rfl) f2
      obtain ⟨sv, subs, e3, hr, ht⟩ := ih fu2 (by omega) _ _ f3
      obtain ⟨a', rfl⟩ := wf_u8 w0
      obtain ⟨b', rfl⟩ := wf_u8 w1
      injection e0 with e0
      injection e1 with e1
      injection e2 with e2
      injection e3 with e3
      subst e0; subst e1; subst e2; subst e3
      exact ⟨a', b', _, data, _, subs, rfl, hb, hr, ht⟩
    refine ⟨v, t, h1, ?_, t3⟩
    rw [t1]
    have h2' : rwP 4 v n f w (fun _ => False) := h2
    exact rwP_congr h2' fun i hi => (t2 i hi).symm

set_option maxRecDepth 100000 in
theorem open_tree {H : Type} {enc : TypeId × Value → H} {w : World} {held : Bool} {r : Reach} {base : Nat} {v : Value} {d : DataW H} {ps : List MemPlace} (hval : Value.okWide Try.prog w r base 24 v)
    (h : DataW.Trod enc Try.prog w 0 (fun _ => true) held 24 v d ps) : ∃ t : T, (Rw 4 v t.len t.at_).p w (fun _ => False) ∧ t.tf.p w (fun _ => False) := by
  obtain ⟨a, len, cap, rfl⟩ := okWide_slice Try.underlying24 hval
  obtain ⟨fuel, hf⟩ := h
  obtain ⟨v, t, e0, h1, h2⟩ := op_tree fuel _ _ hf
  have e0 : [Value.slice a len cap] = [v] := e0
  injection e0 with e0
  subst e0
  exact ⟨t, h1, h2⟩
end Go.Proofs.Ytoohgnegoaoleaa.C04

/-
  Openings of arguments that are arrays of bytes. No program is named here.
-/
namespace Go.Hs
open Go Go.RowKit

theorem cells_bytes : ∀ (cs : List Value), (∀ i, i < cs.length → ∃ b : UInt8, (cs.drop i).take 1 = [bcell b]) → ∃ bs : List UInt8, cs = bs.map bcell
  | [], _ => ⟨[], rfl⟩
  | c :: r, h => by
    obtain ⟨b, hb⟩ := h 0 (by simp)
    simp only [List.drop_zero, List.take_succ_cons, List.take_zero, List.cons.injEq, and_true] at hb
    obtain ⟨bs, hbs⟩ := cells_bytes r fun i hi => by
      obtain ⟨b', h'⟩ := h (i + 1) (by simpa using hi)
      exact ⟨b', by simpa using h'⟩
    exact ⟨b :: bs, by rw [hb, hbs]; rfl⟩
section
variable {H : Type} {enc : TypeId × Value → H} {P : Program} {w : World} {held : Bool}
theorem op_arr {t e : TypeId} {n fuel : Nat} {cs : List Value} {x : DataW H × List MemPlace} (ht : P.underlying t = some (.array n e)) (he : P.underlying e = some (.int .u8)) (hc : P.cellsOf e = 1) (hct : P.cellsOf t = n)
    (h : DataW.trod enc P w 0 (fun _ => true) held fuel t cs = some x) : ∃ bs : List UInt8, bs.length = n ∧ cs = bs.map bcell := by
  have key : cs.length = n ∧ ∃ fuel', ∀ i, i < n → ∃ y, DataW.trod enc P w 0 (fun _ => true) held fuel' e ((cs.drop i).take 1) = some y := by
    cases fuel with
    | zero => simp [DataW.trod] at h
    | succ fuel =>
      unfold DataW.trod at h
      rw [ht] at h
      split at h <;> first | (rename_i heq; injection heq with heq; cases heq; done) | skip
      all_goals first | (exfalso; simp_all; done) | skip
      split at h
      · rename_i heq hl
        injection heq with heq
        injection heq with h1 h2
        subst h1; subst h2
        rw [Option.map_eq_some_iff] at h
        obtain ⟨ys, hm, _⟩ := h
        refine ⟨by rw [hl, hct], fuel, fun i hi => ?_⟩
        obtain ⟨y, hy⟩ := mapM_get hm (i := i) (a := i) (by rw [List.getElem?_range hi])
        rw [hc, Nat.mul_one] at hy
        exact ⟨y, hy⟩
      · cases h
  obtain ⟨hl, fuel', hk⟩ := key
  obtain ⟨bs, hbs⟩ := cells_bytes cs fun i hi => by
    obtain ⟨y, hy⟩ := hk i (by omega)
    obtain ⟨k, h1, h2⟩ := op_int he hy
    obtain ⟨b, rfl⟩ := wf_u8 h2
    exact ⟨b, h1⟩
  exact ⟨bs, by rw [← hl, hbs, List.length_map], hbs⟩
theorem open_arr {t e : TypeId} {n : Nat} {r : Reach} {base : Nat} {v : Value} {d : DataW H} {ps : List MemPlace} (ht : P.underlying t = some (.array n e)) (he : P.underlying e = some (.int .u8)) (hc : P.cellsOf e = 1) (hct : P.cellsOf t = n)
    (hval : Value.okWide P w r base t v) (h : DataW.Trod enc P w 0 (fun _ => true) held t v d ps) : ∃ bs : List UInt8, bs.length = n ∧ v = .agg (bs.map bcell).toArray := by
  simp only [Value.okWide, ht] at hval
  obtain ⟨cs, rfl, _, _⟩ := hval
  obtain ⟨fuel, hf⟩ := h
  obtain ⟨bs, h1, h2⟩ := op_arr ht he hc hct hf
  refine ⟨bs, h1, ?_⟩
  have h2 : cs.toList = bs.map bcell := h2
  rw [← h2]
theorem open_a6 {t e : TypeId} {r : Reach} {base : Nat} {v : Value} {d : DataW H} {ps : List MemPlace} (ht : P.underlying t = some (.array 6 e)) (he : P.underlying e = some (.int .u8)) (hc : P.cellsOf e = 1) (hct : P.cellsOf t = 6)
    (hval : Value.okWide P w r base t v) (h : DataW.Trod enc P w 0 (fun _ => true) held t v d ps) : ∃ a : A6, v = .agg #[bcell a.a0, bcell a.a1, bcell a.a2, bcell a.a3, bcell a.a4, bcell a.a5] := by
  obtain ⟨bs, hl, rfl⟩ := open_arr ht he hc hct hval h
  match bs, hl with
  | [b0, b1, b2, b3, b4, b5], _ => exact ⟨⟨b0, b1, b2, b3, b4, b5⟩, rfl⟩
theorem op_a6 {t e : TypeId} {fuel : Nat} {cs : List Value} {x : DataW H × List MemPlace} (ht : P.underlying t = some (.array 6 e)) (he : P.underlying e = some (.int .u8)) (hc : P.cellsOf e = 1) (hct : P.cellsOf t = 6)
    (h : DataW.trod enc P w 0 (fun _ => true) held fuel t cs = some x) : ∃ a : A6, cs = a.cells := by
  obtain ⟨bs, hl, rfl⟩ := op_arr ht he hc hct h
  match bs, hl with
  | [b0, b1, b2, b3, b4, b5], _ => exact ⟨⟨b0, b1, b2, b3, b4, b5⟩, rfl⟩
end
end Go.Hs
