/-
  The law 'CheckLinear' walked.
-/
import Derived.Test.YtdgckeogpichfaaCh
namespace Go.Proofs.Ytdgckeogpichfaa
open Go Go.RowKit Go.Hs
attribute [local irreducible] WL W WQ PL Runs Effs AllE Ent SubO FrIn Pick OneC Ones CellsE PartsE SeqE UZ By Sl Pt Ct

def lin3 (xs ys zs : List UInt8) (k : Nat) : List UInt8 := (List.range k).map fun i => xs.getD i 0 ^^^ ys.getD i 0 ^^^ zs.getD i 0
theorem lin3_succ (xs ys zs : List UInt8) (k : Nat) : lin3 xs ys zs (k + 1) = lin3 xs ys zs k ++ [xs.getD k 0 ^^^ ys.getD k 0 ^^^ zs.getD k 0] := by simp [lin3, List.range_succ]
theorem lin3_length (xs ys zs : List UInt8) (k : Nat) : (lin3 xs ys zs k).length = k := by simp [lin3]
theorem lin3_zip (xs ys zs : List UInt8) (k : Nat) (h1 : k ≤ xs.length) (h2 : k ≤ ys.length) (h3 : k ≤ zs.length) :
    lin3 xs ys zs k = List.zipWith (fun a b => a ^^^ b) (List.zipWith (fun a b => a ^^^ b) (xs.take k) (ys.take k)) (zs.take k) := by
  apply List.ext_getElem
  · simp [lin3]; omega
  · intro i h h'
    have hi : i < k := by simpa [lin3] using h
    simp [lin3, List.getD, show i < xs.length by omega, show i < ys.length by omega, show i < zs.length by omega]
theorem crc_lin {w : Nat} (P : BitVec w) (a b c : List UInt8) (h1 : a.length = b.length) (h2 : b.length = c.length) :
    crc P (List.zipWith (fun a b => a ^^^ b) (List.zipWith (fun a b => a ^^^ b) a b) c) = crc P a ^^^ crc P b ^^^ crc P c := by
  unfold crc
  have hl : (List.zipWith (fun a b => a ^^^ b) a b).length = c.length := by rw [List.length_zipWith]; omega
  rw [bitsL_xor _ _ hl, bitsL_xor _ _ h1]
  have e : BitVec.allOnes w = (BitVec.allOnes w ^^^ BitVec.allOnes w) ^^^ BitVec.allOnes w := by rw [BitVec.xor_self, BitVec.zero_xor]
  conv => lhs; rw [e]
  rw [feed_xor P _ _ _ _ (by rw [List.length_zipWith, bitsL_length, bitsL_length, bitsL_length]; omega), feed_xor P _ _ _ _ (by rw [bitsL_length, bitsL_length]; omega)]
  simp only [BitVec.not_def]
  generalize feed P (BitVec.allOnes w) (bitsL a) = x
  generalize feed P (BitVec.allOnes w) (bitsL b) = y
  generalize feed P (BitVec.allOnes w) (bitsL c) = z
  rw [show BitVec.allOnes w ^^^ x ^^^ (BitVec.allOnes w ^^^ y) ^^^ (BitVec.allOnes w ^^^ z) = (BitVec.allOnes w ^^^ BitVec.allOnes w) ^^^ (BitVec.allOnes w ^^^ (x ^^^ y ^^^ z)) by ac_rfl, BitVec.xor_self, BitVec.zero_xor]
theorem crc_lin3 {w : Nat} (P : BitVec w) (xs ys zs : List UInt8) (k : Nat) (h1 : k ≤ xs.length) (h2 : k ≤ ys.length) (h3 : k ≤ zs.length) :
    crc P (lin3 xs ys zs k) = crc P (xs.take k) ^^^ crc P (ys.take k) ^^^ crc P (zs.take k) := by
  rw [lin3_zip xs ys zs k h1 h2 h3]
  apply crc_lin <;> simp <;> omega
theorem xor_u8 (a b : UInt8) : bits .xor .u8 (a.toNat : Int) (b.toNat : Int) = ((a ^^^ b).toNat : Int) := by
  rw [u8_xor_nat _ _ a.toNat_lt b.toNat_lt, UInt8.toNat_xor]

set_option maxRecDepth 100000 in
set_option maxHeartbeats 4000000 in
theorem linearLaw_fn (u v w : Value) (xs ys zs : List UInt8) : CtD Try.prog 5 [u, v, w] [By u xs, By v ys, By w zs] (.bool true) := by
  have ha := alive_fn
  obtain ⟨n, hn⟩ : ∃ n : Nat, n = min (min xs.length ys.length) zs.length := ⟨_, rfl⟩
  have hm : (if (zs.length : Int) < (if (ys.length : Int) < (xs.length : Int) then (ys.length : Int) else xs.length) then (zs.length : Int) else (if (ys.length : Int) < (xs.length : Int) then (ys.length : Int) else xs.length)) = (n : Int) := by
    split <;> split at * <;> omega
  have le1 : n ≤ xs.length := by omega
  have le2 : n ≤ ys.length := by omega
  have le3 : n ≤ zs.length := by omega
  clear hn
  by_cases h : (3000 : Int) < n
  · refine Ct_intro Try.func5 rfl Try.ntmps5 (by simp) _ rfl (fun w0 O0 => ?_)
    repeat (first | refine n1 ?_ | refine n2 (fun b _ => ?_) | refine n3 (fun _ _ => ?_) | refine n4 ?_ | refine n5 ?_ | refine n6 (ha) ?_ | refine WL_nil ?_ | refine W_seq ?_ | refine W_region ?_ | refine n7 ?_ | refine n8 ?_ | refine W_block ?_ | refine W_skip ?_ | refine W_ret ?_ | refine W_exit ?_ | refine WQ_then ?_ | refine WQ_then_ret ?_ | refine WQ_then_exit ?_ | refine WQ_block_normal ?_ | refine WQ_block_ret ?_ | refine WQ_block_exit ?_ | refine n9 ?_)
    refine WL_runs rfl rfl rfl (R_min3 rfl rfl rfl hm) ?_
    repeat (first | refine n1 ?_ | refine n2 (fun b _ => ?_) | refine n3 (fun _ _ => ?_) | refine n4 ?_ | refine n5 ?_ | refine WL_nil ?_ | refine W_seq ?_ | refine W_region ?_ | refine n7 ?_ | refine n8 ?_ | refine W_block ?_ | refine W_skip ?_ | refine W_ret ?_ | refine W_exit ?_ | refine WQ_then ?_ | refine WQ_then_ret ?_ | refine WQ_then_exit ?_ | refine WQ_block_normal ?_ | refine WQ_block_ret ?_ | refine WQ_block_exit ?_ | refine n9 ?_)
    ((apply ret1 Try.results5 ( ())); (focus (first | trivial | assumption | omega)); (focus (first | exact RV_tmp rfl | (apply RV_cellN; exact rfl; (repeat' (first | exact Pick.head _ _ | apply Pick.tail)); (intro _; exact rfl); (intro _; exact rfl); exact rfl) | (apply RV_cell1; exact rfl; (repeat' (first | exact Pick.head _ _ | apply Pick.tail)); (intro _; exact rfl); exact rfl)));  (focus (first | exact rfl | (simp; done))); (focus (repeat (first | exact SubO.nil _ | (apply SubO.cons; (focus (repeat' (first | exact Pick.head _ _ | apply Pick.tail))))))); (focus (repeat (first | exact AllE.nil _ | (apply AllE.cons; (focus (first | exact ent_nilBy | exact ent_nilSl | (apply Ent.mem; repeat' (first | exact mcs | apply mct)))))))))
  · have c0 := fun o => crc32_fn o (lin3 xs ys zs n) (by rw [lin3_length]; omega)
    have d0 := fun o => crc8_fn o (lin3 xs ys zs n) (by rw [lin3_length]; omega)
    rw [crc_lin3 P32 xs ys zs n le1 le2 le3] at c0
    rw [crc_lin3 P8 xs ys zs n le1 le2 le3] at d0
    have c1 := fun o => crc32_fn o (xs.take n) (by rw [List.length_take]; omega)
    have d1 := fun o => crc8_fn o (xs.take n) (by rw [List.length_take]; omega)
    have c2 := fun o => crc32_fn o (ys.take n) (by rw [List.length_take]; omega)
    have d2 := fun o => crc8_fn o (ys.take n) (by rw [List.length_take]; omega)
    have c3 := fun o => crc32_fn o (zs.take n) (by rw [List.length_take]; omega)
    have d3 := fun o => crc8_fn o (zs.take n) (by rw [List.length_take]; omega)
    generalize crc P32 (xs.take n) = g1 at *
    generalize crc P32 (ys.take n) = g2 at *
    generalize crc P32 (zs.take n) = g3 at *
    generalize crc P8 (xs.take n) = q1 at *
    generalize crc P8 (ys.take n) = q2 at *
    generalize crc P8 (zs.take n) = q3 at *
    refine Ct_intro Try.func5 rfl Try.ntmps5 (by simp) _ rfl (fun w0 O0 => ?_)
    apply W_nilRow 5 1
    repeat (first | refine n1 ?_ | refine n2 (fun b _ => ?_) | refine n3 (fun _ _ => ?_) | refine n4 ?_ | refine n5 ?_ | refine n6 (ha) ?_ | refine WL_nil ?_ | refine W_seq ?_ | refine W_region ?_ | refine n7 ?_ | refine n8 ?_ | refine W_block ?_ | refine W_skip ?_ | refine W_ret ?_ | refine W_exit ?_ | refine WQ_then ?_ | refine WQ_then_ret ?_ | refine WQ_then_exit ?_ | refine WQ_block_normal ?_ | refine WQ_block_ret ?_ | refine WQ_block_exit ?_ | refine n9 ?_)
    refine WL_runs rfl rfl rfl (R_min3 rfl rfl rfl hm) ?_
    repeat (first | refine n1 ?_ | refine n2 (fun b _ => ?_) | refine n3 (fun _ _ => ?_) | refine n4 ?_ | refine n5 ?_ | refine WL_nil ?_ | refine W_seq ?_ | refine W_region ?_ | refine n7 ?_ | refine n8 ?_ | refine W_block ?_ | refine W_skip ?_ | refine W_ret ?_ | refine W_exit ?_ | refine WQ_then ?_ | refine WQ_then_ret ?_ | refine WQ_then_exit ?_ | refine WQ_block_normal ?_ | refine WQ_block_ret ?_ | refine WQ_block_exit ?_ | refine n9 ?_)
    ((apply W_loopK (X := Nat × Value) [10, 9] [0] (fun x => x.1 ≤ n) (fun x => [(10, .int .i64 (x.1 : Int)), (9, x.2)]) (fun x => [.row x.2 5 1 x.1 ((lin3 xs ys zs x.1).map bcell)]) (fun _ => []) (fun x => n - x.1) ((0, .slice none 0 0))); (focus exact Nat.zero_le _); exact rfl; exact rfl; (intro _; exact rfl); (intro _; exact rfl); (intro _; exact rfl); (focus (repeat (first | exact FrIn.nil _ | (apply FrIn.cons; exact rfl; (first | exact rfl | (congr 1; omega) | (simp; done)))))); (focus (repeat (first | exact SubO.nil _ | (apply SubO.cons; (focus (repeat' (first | exact Pick.head _ _ | apply Pick.tail))))))); (focus (repeat (first | exact AllE.nil _ | (apply AllE.cons; (focus (first | exact ent_nilBy | exact ent_nilSl | (apply Ent.mem; repeat' (first | exact mcs | apply mct)))))))); intro x hx)
    obtain ⟨k, o⟩ := x
    replace hx : k ≤ n := hx
    dsimp only
    by_cases hk : k < n
    · repeat (first | refine n1 ?_ | refine n2 (fun b _ => ?_) | refine n3 (fun _ _ => ?_) | refine n4 ?_ | refine n5 ?_ | refine WL_nil ?_ | refine W_seq ?_ | refine W_region ?_ | refine n7 ?_ | refine n8 ?_ | refine W_block ?_ | refine W_skip ?_ | refine W_ret ?_ | refine W_exit ?_ | refine WQ_then ?_ | refine WQ_then_ret ?_ | refine WQ_then_exit ?_ | refine WQ_block_normal ?_ | refine WQ_block_ret ?_ | refine WQ_block_exit ?_ | refine n9 ?_)
      (refine W_regionP' [15, 16] [] [0, 1, 2, 3, 4, 5, 6, 7, 8, 9, 10, 11, 12, 13, 14, 15, 16, 17] [0] (by kernel_rfl) (by kernel_rfl) (by repeat (first | exact UZ.nil _ _ | (apply UZ.cons; exact rfl; (intro _; exact rfl)))) (by exact rfl) (by (repeat (first | exact SubO.nil _ | (apply SubO.cons; (focus (repeat' (first | exact Pick.head _ _ | apply Pick.tail))))))) ?_)
      repeat (first | refine p1 ?_ | refine p2 (fun b _ => ?_) | refine p3 (fun _ _ => ?_) | refine p4 ?_ | refine p5 ?_ | refine p7 (fun b => ?_) | refine PL_nil ?_)
      refine PL_runs rfl rfl rfl rfl rfl (R_xor rfl rfl (xor_u8 (xs.getD k 0) (ys.getD k 0))) ?_
      repeat (first | refine p1 ?_ | refine p2 (fun b _ => ?_) | refine p3 (fun _ _ => ?_) | refine p4 ?_ | refine p5 ?_ | refine p7 (fun b => ?_) | refine PL_nil ?_)
      refine PL_runs rfl rfl rfl rfl rfl (R_xor rfl rfl (xor_u8 (xs.getD k 0 ^^^ ys.getD k 0) (zs.getD k 0))) ?_
      (apply PL_effs; exact rfl; exact rfl; exact rfl; exact rfl; exact rfl; (apply E_buildSlice; exact rfl; (focus (repeat (first | apply SeqE.nil | (apply SeqE.cons; exact rfl; (focus (first | (apply CellsE.lit; exact rfl) | (apply CellsE.one; (first | (apply OneC.lit; exact rfl) | (apply OneC.by_; (repeat' (first | exact mcs | apply mct))) | (apply OneC.sl; (repeat' (first | exact mcs | apply mct))) | (apply OneC.row; (repeat' (first | exact Pick.head _ _ | apply Pick.tail))))))); exact rfl) | exact rfl))); exact rfl; (first | (intro _; exact (rfl : _ = Result.ok 1 _)) | (intro _; exact (rfl : _ = Result.ok 2 _)) | (intro _; exact (rfl : _ = Result.ok 3 _)) | (intro _; exact (rfl : _ = Result.ok 4 _)) | (intro _; exact (rfl : _ = Result.ok 5 _)) | (intro _; exact (rfl : _ = Result.ok 6 _)) | (intro _; exact (rfl : _ = Result.ok 7 _)) | (intro _; exact (rfl : _ = Result.ok 8 _)) | (intro _; exact (rfl : _ = Result.ok 13 _)) | (intro _; exact (rfl : _ = Result.ok 14 _)) | (intro _; exact (rfl : _ = Result.ok 26 _)) | (intro _; exact (rfl : _ = Result.ok 40 _)) | (intro _; exact (rfl : _ = Result.ok 41 _)) | (intro _; exact (rfl : _ = Result.ok 42 _)) | (intro _; exact (rfl : _ = Result.ok 43 _)) | (intro _; exact (rfl : _ = Result.ok 44 _)) | (intro _; exact (rfl : _ = Result.ok 45 _)) | (intro _; exact (rfl : _ = Result.ok 46 _))); (intro _; exact rfl); exact rfl; exact Nat.le_of_ble_eq_true rfl; exact Nat.le_of_ble_eq_true rfl); (intro _; (repeat (first | exact SubO.nil _ | (apply SubO.cons; (focus (repeat' (first | exact Pick.head _ _ | apply Pick.tail))))))); skip)
      intro q _
      (apply PL_effs; exact rfl; exact rfl; exact rfl; exact rfl; exact rfl; (apply E_appendRowB; exact rfl; exact rfl; (repeat' (first | exact Pick.head _ _ | apply Pick.tail)); (repeat' (first | exact Pick.head _ _ | apply Pick.tail)); (first | exact nil_map | exact one_map _ | exact two_map _ _ | exact rfl); (first | exact nil_map | exact one_map _ | exact two_map _ _ | exact rfl); exact rfl; exact rfl; exact rfl; exact rfl; exact rfl; exact Nat.le_of_ble_eq_true rfl; (first | omega | (simp only [List.length_take, List.length_drop, List.length_append, List.length_cons, List.length_nil, List.length_map, List.length_replicate]; omega)); (focus (first | exact Nat.zero_add _ | exact rfl)); (focus ((try (conv => lhs; simp only [Nat.add_sub_cancel_left, Nat.sub_zero, List.drop_zero, List.nil_append])); (first | done | exact rfl)))); (intro _; (repeat (first | exact SubO.nil _ | (apply SubO.cons; (focus (repeat' (first | exact Pick.head _ _ | apply Pick.tail))))))); skip)
      intro o1 _
      rw [← lin3_succ]
      repeat (first | refine p1 ?_ | refine p2 (fun b _ => ?_) | refine p3 (fun _ _ => ?_) | refine p4 ?_ | refine p5 ?_ | refine p7 (fun b => ?_) | refine PL_nil ?_)
      repeat (first | refine n1 ?_ | refine n2 (fun b _ => ?_) | refine n3 (fun _ _ => ?_) | refine n4 ?_ | refine n5 ?_ | refine WL_nil ?_ | refine W_seq ?_ | refine W_region ?_ | refine n7 ?_ | refine n8 ?_ | refine W_block ?_ | refine W_skip ?_ | refine W_ret ?_ | refine W_exit ?_ | refine WQ_then ?_ | refine WQ_then_ret ?_ | refine WQ_then_exit ?_ | refine WQ_block_normal ?_ | refine WQ_block_ret ?_ | refine WQ_block_exit ?_ | refine n9 ?_)
      ((apply WQ_again ((k + 1, o1))); (focus exact hk); (focus (omega)); (focus (repeat (first | exact FrIn.nil _ | (apply FrIn.cons; exact rfl; (first | exact rfl | (congr 1; omega) | (simp; done)))))); (focus (repeat (first | exact SubO.nil _ | (apply SubO.cons; (focus (repeat' (first | exact Pick.head _ _ | apply Pick.tail))))))); (focus (repeat (first | exact AllE.nil _ | (apply AllE.cons; (focus (first | exact ent_nilBy | exact ent_nilSl | (apply Ent.mem; repeat' (first | exact mcs | apply mct)))))))))
    · obtain rfl : k = n := by omega
      repeat (first | refine n1 ?_ | refine n2 (fun b _ => ?_) | refine n3 (fun _ _ => ?_) | refine n4 ?_ | refine n5 ?_ | refine WL_nil ?_ | refine W_seq ?_ | refine W_region ?_ | refine n7 ?_ | refine n8 ?_ | refine W_block ?_ | refine W_skip ?_ | refine W_ret ?_ | refine W_exit ?_ | refine WQ_then ?_ | refine WQ_then_ret ?_ | refine WQ_then_exit ?_ | refine WQ_block_normal ?_ | refine WQ_block_ret ?_ | refine WQ_block_exit ?_ | refine n9 ?_)
      refine W_letgoB (bs := lin3 xs ys zs k) (by repeat' (first | exact Pick.head _ _ | apply Pick.tail)) rfl ?_
      (refine W_regionP' [] [] [0, 1, 2, 3, 4, 5, 6, 7, 8, 9, 10, 11, 12, 13, 14, 15, 16, 17, 18, 19, 20, 21, 22, 23, 24, 25, 26, 27, 28, 29, 30, 31, 32, 33, 34, 35, 36, 37, 38, 39] [] (by kernel_rfl) (by kernel_rfl) (by repeat (first | exact UZ.nil _ _ | (apply UZ.cons; exact rfl; (intro _; exact rfl)))) (by exact rfl) (by (repeat (first | exact SubO.nil _ | (apply SubO.cons; (focus (repeat' (first | exact Pick.head _ _ | apply Pick.tail))))))) ?_)
      repeat (first | refine p1 ?_ | refine p2 (fun b _ => ?_) | refine p3 (fun _ _ => ?_) | refine p4 ?_ | refine p5 ?_ | refine p6 (c0 _) ?_ | refine p6 (c1 _) ?_ | refine p6 (c2 _) ?_ | refine p6 (c3 _) ?_ | refine p7 (fun b => ?_) | refine PL_nil ?_)
      refine PL_runs rfl rfl rfl rfl rfl (R_xor rfl rfl (xor32 _ _)) ?_
      repeat (first | refine p1 ?_ | refine p2 (fun b _ => ?_) | refine p3 (fun _ _ => ?_) | refine p4 ?_ | refine p5 ?_ | refine p6 (c0 _) ?_ | refine p6 (c1 _) ?_ | refine p6 (c2 _) ?_ | refine p6 (c3 _) ?_ | refine p7 (fun b => ?_) | refine PL_nil ?_)
      refine PL_runs rfl rfl rfl rfl rfl (R_xor rfl rfl (xor32 _ _)) ?_
      repeat (first | refine p1 ?_ | refine p2 (fun b _ => ?_) | refine p3 (fun _ _ => ?_) | refine p4 ?_ | refine p5 ?_ | refine p6 (d0 _) ?_ | refine p6 (d1 _) ?_ | refine p6 (d2 _) ?_ | refine p6 (d3 _) ?_ | refine p7 (fun b => ?_) | refine PL_nil ?_)
      refine PL_runs rfl rfl rfl rfl rfl (R_xor rfl rfl (xor8 _ _)) ?_
      repeat (first | refine p1 ?_ | refine p2 (fun b _ => ?_) | refine p3 (fun _ _ => ?_) | refine p4 ?_ | refine p5 ?_ | refine p6 (d0 _) ?_ | refine p6 (d1 _) ?_ | refine p6 (d2 _) ?_ | refine p6 (d3 _) ?_ | refine p7 (fun b => ?_) | refine PL_nil ?_)
      refine PL_runs rfl rfl rfl rfl rfl (R_xor rfl rfl (xor8 _ _)) ?_
      repeat (first | refine p1 ?_ | refine p2 (fun b _ => ?_) | refine p3 (fun _ _ => ?_) | refine p4 ?_ | refine p5 ?_ | refine p7 (fun b => ?_) | refine PL_nil ?_)
      repeat (first | refine n1 ?_ | refine n2 (fun b _ => ?_) | refine n3 (fun _ _ => ?_) | refine n4 ?_ | refine n5 ?_ | refine WL_nil ?_ | refine W_seq ?_ | refine W_region ?_ | refine n7 ?_ | refine n8 ?_ | refine W_block ?_ | refine W_skip ?_ | refine W_ret ?_ | refine W_exit ?_ | refine WQ_then ?_ | refine WQ_then_ret ?_ | refine WQ_then_exit ?_ | refine WQ_block_normal ?_ | refine WQ_block_ret ?_ | refine WQ_block_exit ?_ | refine n9 ?_)
      ((apply ret1 Try.results5 ( ())); (focus (first | trivial | assumption | omega)); (focus (first | exact RV_tmp rfl | (apply RV_cellN; exact rfl; (repeat' (first | exact Pick.head _ _ | apply Pick.tail)); (intro _; exact rfl); (intro _; exact rfl); exact rfl) | (apply RV_cell1; exact rfl; (repeat' (first | exact Pick.head _ _ | apply Pick.tail)); (intro _; exact rfl); exact rfl)));  (focus (first | exact rfl | (simp; done))); (focus (repeat (first | exact SubO.nil _ | (apply SubO.cons; (focus (repeat' (first | exact Pick.head _ _ | apply Pick.tail))))))); (focus (repeat (first | exact AllE.nil _ | (apply AllE.cons; (focus (first | exact ent_nilBy | exact ent_nilSl | (apply Ent.mem; repeat' (first | exact mcs | apply mct)))))))))
end Go.Proofs.Ytdgckeogpichfaa
