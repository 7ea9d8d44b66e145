/-
  Contracts of the check values: the program's.
-/
import Derived.Test.YtdhbgolbfkejcaaCb
namespace Go.Proofs.Ytdhbgolbfkejcaa
open Go Go.RowKit Go.Hs
attribute [local irreducible] WL W WQ PL Runs Effs AllE Ent SubO FrIn Pick OneC Ones CellsE PartsE SeqE UZ By Sl Pt Ct

theorem take_next (xs : List UInt8) (k : Nat) (h : k < xs.length) : xs.take (k + 1) = xs.take k ++ [xs.getD k 0] := by
  rw [List.take_succ_eq_append_getElem h, List.getD_eq_getElem?_getD, List.getElem?_eq_getElem h]
  rfl
theorem feed_next {w : Nat} (P s : BitVec w) (xs : List UInt8) (k : Nat) (h : k < xs.length) : feed P s (bitsL (xs.take (k + 1))) = feed P (feed P s (bitsL (xs.take k))) (bitsOf (xs.getD k 0)) := by
  rw [take_next xs k h, bitsL_append, feed_append, bitsL_cons, show bitsL [] = [] from rfl, List.append_nil]

theorem top_byte32 (c : UInt8) : toTop 32 (bitsOf c) = BitVec.ofNat 32 c.toNat <<< 24 := by
  have h : ∀ c : Fin 256, toTop 32 ((List.range 8).map fun k => c.val.testBit (7 - k)) = BitVec.ofNat 32 c.val <<< 24 := by decide +kernel
  exact h ⟨c.toNat, c.toNat_lt⟩
theorem top_byte8 (c : UInt8) : toTop 8 (bitsOf c) = BitVec.ofNat 8 c.toNat <<< 0 := by
  have h : ∀ c : Fin 256, toTop 8 ((List.range 8).map fun k => c.val.testBit (7 - k)) = BitVec.ofNat 8 c.val <<< 0 := by decide +kernel
  exact h ⟨c.toNat, c.toNat_lt⟩

theorem step8 (s : BitVec 8) (c : UInt8) : feed P8 s (bitsOf c) = tb8 (s.toNat ^^^ c.toNat) := by
  rw [feed_top (by decide) P8 (bitsOf c) s (by rw [bitsOf_length]; decide), bitsOf_length, top_byte8, tb8]
  congr 1
  apply BitVec.eq_of_toNat_eq
  have h := Nat.xor_lt_two_pow (x := s.toNat) (y := c.toNat) (n := 8) s.isLt c.toNat_lt
  simp

theorem feed_rep_xor {w : Nat} (P r s : BitVec w) (n : Nat) : feed P (r ^^^ s) (List.replicate n false) = feed P r (List.replicate n false) ^^^ feed P s (List.replicate n false) := by
  rw [← feed_xor P _ _ r s rfl, zip_self, List.map_replicate]
  rfl
theorem feed_low {w : Nat} (P : BitVec w) : ∀ (n : Nat) (x : BitVec w), (∀ i, i < n → x.getMsbD i = false) → feed P x (List.replicate n false) = x <<< n
  | 0, x, _ => by simp [feed]
  | n + 1, x, h => by
    have hm : x.msb = false := by rw [BitVec.msb_eq_getMsbD_zero]; exact h 0 (by omega)
    rw [List.replicate_succ, feed_cons, stp, show tpb w false = 0#w by simp [tpb], BitVec.xor_zero, zs, hm]
    simp only [Bool.false_eq_true, if_false, BitVec.xor_zero]
    rw [feed_low P n _ fun i hi => by
      rw [BitVec.getMsbD_shiftLeft]
      exact h (i + 1) (by omega)]
    rw [← BitVec.shiftLeft_add, Nat.add_comm]

theorem hi_bits (s : BitVec 32) (i : Nat) (hi : i < 8) : (BitVec.ofNat 32 (s.toNat / 16777216) <<< 24).getMsbD i = s.getMsbD i := by
  rw [BitVec.getMsbD, BitVec.getMsbD, BitVec.getLsbD_shiftLeft, BitVec.getLsbD_ofNat, show (16777216 : Nat) = 2 ^ 24 from rfl, Nat.testBit_div_two_pow, BitVec.testBit_toNat]
  have h1 : (32 - 1 - i < 32) := by omega
  have h2 : ¬ (32 - 1 - i < 24) := by omega
  have h3 : 32 - 1 - i - 24 < 32 := by omega
  have h4 : 32 - 1 - i - 24 + 24 = 32 - 1 - i := by omega
  simp only [h1, h2, h3, decide_true, decide_false, Bool.not_false, Bool.true_and, h4]
theorem step32 (s : BitVec 32) (c : UInt8) : feed P32 s (bitsOf c) = (s <<< 8) ^^^ tb32 ((s.toNat / 16777216) ^^^ c.toNat) := by
  rw [feed_top (by decide) P32 (bitsOf c) s (by rw [bitsOf_length]; decide), bitsOf_length, top_byte32, tb32]
  have hs := s.isLt
  have e1 : BitVec.ofNat 32 ((s.toNat / 16777216) ^^^ c.toNat) = BitVec.ofNat 32 (s.toNat / 16777216) ^^^ BitVec.ofNat 32 c.toNat := by
    apply BitVec.eq_of_toNat_eq
    have h := Nat.xor_lt_two_pow (x := s.toNat / 16777216) (y := c.toNat) (n := 8) (by omega) c.toNat_lt
    have hc : c.toNat < 256 := c.toNat_lt
    simp
  rw [e1, show (32 : Nat) - 8 = 24 from rfl, BitVec.shiftLeft_xor_distrib]
  have e2 : s ^^^ BitVec.ofNat 32 c.toNat <<< 24 = (s ^^^ BitVec.ofNat 32 (s.toNat / 16777216) <<< 24) ^^^ (BitVec.ofNat 32 (s.toNat / 16777216) <<< 24 ^^^ BitVec.ofNat 32 c.toNat <<< 24) := by
    rw [BitVec.xor_assoc, ← BitVec.xor_assoc (BitVec.ofNat 32 (s.toNat / 16777216) <<< 24), BitVec.xor_self, BitVec.zero_xor]
  rw [e2, feed_rep_xor, feed_low]
  · congr 1
    rw [BitVec.shiftLeft_xor_distrib, ← BitVec.shiftLeft_add]
    simp
  · intro i hi
    rw [BitVec.getMsbD_xor, hi_bits s i hi, Bool.xor_self]

theorem u8_nat (c : UInt8) : c.toNat ≤ 255 := by have := c.toNat_lt; omega

set_option maxRecDepth 100000 in
set_option maxHeartbeats 1000000 in
theorem crc8_fn (dv : Value) (xs : List UInt8) (hx : xs.length ≤ 1000000000) : CtD Try.prog 16 [dv] [By dv xs] (.int .u8 ((crc P8 xs).toNat : Int)) := by
  refine Ct_intro Try.func16 rfl Try.ntmps16 (by simp) _ rfl (fun w0 O0 => ?_)
  repeat (first | refine n1 ?_ | refine n2 (fun b _ => ?_) | refine n3 (fun _ _ => ?_) | refine n4 ?_ | refine n5 ?_ | refine WL_nil ?_ | refine W_seq ?_ | refine W_region ?_ | refine n7 ?_ | refine n8 ?_ | refine W_block ?_ | refine W_skip ?_ | refine W_ret ?_ | refine W_exit ?_ | refine WQ_then ?_ | refine WQ_then_ret ?_ | refine WQ_then_exit ?_ | refine WQ_block_normal ?_ | refine WQ_block_ret ?_ | refine WQ_block_exit ?_ | refine n9 ?_)
  refine n6 table8 ?_
  refine WL_effs rfl rfl rfl (E_alloc (cs := List.replicate 256 (.int .u8 0)) (by intro _; exact rfl) (by kernel_rfl)) ?_
  intro b _
  refine WL_do rfl rfl (E_storeAll (us := tc8 256) rfl rfl (by repeat' (first | exact Pick.head _ _ | apply Pick.tail)) (tc8_one 256) (by intro _; rw [tc8_length]; exact rfl) (by rw [tc8_length]; exact (List.length_replicate ..).symm)) ?_
  intro _ _
  repeat (first | refine n1 ?_ | refine n2 (fun b _ => ?_) | refine n3 (fun _ _ => ?_) | refine n4 ?_ | refine n5 ?_ | refine WL_nil ?_ | refine W_seq ?_ | refine W_region ?_ | refine n7 ?_ | refine n8 ?_ | refine W_block ?_ | refine W_skip ?_ | refine W_ret ?_ | refine W_exit ?_ | refine WQ_then ?_ | refine WQ_then_ret ?_ | refine WQ_then_exit ?_ | refine WQ_block_normal ?_ | refine WQ_block_ret ?_ | refine WQ_block_exit ?_ | refine n9 ?_)
  ((apply W_loopK (X := Nat × BitVec 8) [10, 4] [] (fun y => y.1 ≤ xs.length ∧ y.2 = feed P8 (BitVec.allOnes 8) (bitsL (xs.take y.1))) (fun y => [(10, .int .i64 (y.1 : Int)), (4, .int .u8 (y.2.toNat : Int))]) (fun _ => []) (fun _ => []) (fun y => xs.length - y.1) ((0, BitVec.allOnes 8))); (focus exact ⟨by omega, rfl⟩); exact rfl; exact rfl; (intro _; exact rfl); (intro _; exact rfl); (intro _; exact rfl); (focus (repeat (first | exact FrIn.nil _ | (apply FrIn.cons; exact rfl; (first | exact rfl | (congr 1; first | omega | (dsimp only; omega)) | (simp; done)))))); (focus (repeat (first | exact SubO.nil _ | (apply SubO.cons; (focus (repeat' (first | exact Pick.head _ _ | apply Pick.tail))))))); (focus (repeat (first | exact AllE.nil _ | (apply AllE.cons; (focus (first | exact ent_nilBy | exact ent_nilSl | (apply Ent.mem; repeat' (first | exact mcs | apply mct)))))))); intro x hx)
  obtain ⟨k, s⟩ := x
  obtain ⟨hk, hs⟩ := hx
  replace hk : k ≤ xs.length := hk
  replace hs : s = feed P8 (BitVec.allOnes 8) (bitsL (xs.take k)) := hs
  by_cases h : k < xs.length
  · have hc := u8_nat (xs.getD k 0)
    have hlt : s.toNat < 256 := s.isLt
    have hi := Nat.xor_lt_two_pow (x := s.toNat) (y := (xs.getD k 0).toNat) (n := 8) s.isLt (xs.getD k 0).toNat_lt
    repeat (first | refine n1 ?_ | refine n2 (fun b _ => ?_) | refine n3 (fun _ _ => ?_) | refine n4 ?_ | refine n5 ?_ | refine WL_nil ?_ | refine W_seq ?_ | refine W_region ?_ | refine n7 ?_ | refine n8 ?_ | refine W_block ?_ | refine W_skip ?_ | refine W_ret ?_ | refine W_exit ?_ | refine WQ_then ?_ | refine WQ_then_ret ?_ | refine WQ_then_exit ?_ | refine WQ_block_normal ?_ | refine WQ_block_ret ?_ | refine WQ_block_exit ?_ | refine n9 ?_)
    refine WL_runs rfl rfl rfl (R_xor rfl rfl (u8_xor_nat s.toNat (xs.getD k 0).toNat s.isLt (by omega))) ?_
    refine WL_runs rfl rfl rfl (R_idxArr rfl rfl rfl (by intro _; exact rfl) rfl hi) ?_
    refine WL_runs rfl rfl rfl (R_load1 rfl (by repeat' (first | exact Pick.head _ _ | apply Pick.tail)) (by intro _; exact rfl) (tc8_get _ hi)) ?_
    repeat (first | refine n1 ?_ | refine n2 (fun b _ => ?_) | refine n3 (fun _ _ => ?_) | refine n4 ?_ | refine n5 ?_ | refine WL_nil ?_ | refine W_seq ?_ | refine W_region ?_ | refine n7 ?_ | refine n8 ?_ | refine W_block ?_ | refine W_skip ?_ | refine W_ret ?_ | refine W_exit ?_ | refine WQ_then ?_ | refine WQ_then_ret ?_ | refine WQ_then_exit ?_ | refine WQ_block_normal ?_ | refine WQ_block_ret ?_ | refine WQ_block_exit ?_ | refine n9 ?_)
    ((apply WQ_again ((k + 1, tb8 (s.toNat ^^^ (xs.getD k 0).toNat)))); (focus exact ⟨h, by rw [feed_next _ _ _ _ h, ← hs, step8]⟩); (focus (omega)); (focus (repeat (first | exact FrIn.nil _ | (apply FrIn.cons; exact rfl; (first | exact rfl | (congr 1; first | omega | (dsimp only; omega)) | (simp; done)))))); (focus (repeat (first | exact SubO.nil _ | (apply SubO.cons; (focus (repeat' (first | exact Pick.head _ _ | apply Pick.tail))))))); (focus (repeat (first | exact AllE.nil _ | (apply AllE.cons; (focus (first | exact ent_nilBy | exact ent_nilSl | (apply Ent.mem; repeat' (first | exact mcs | apply mct)))))))))
  · obtain rfl : k = xs.length := by omega
    rw [List.take_length] at hs
    subst hs
    repeat (first | refine n1 ?_ | refine n2 (fun b _ => ?_) | refine n3 (fun _ _ => ?_) | refine n4 ?_ | refine n5 ?_ | refine WL_nil ?_ | refine W_seq ?_ | refine W_region ?_ | refine n7 ?_ | refine n8 ?_ | refine W_block ?_ | refine W_skip ?_ | refine W_ret ?_ | refine W_exit ?_ | refine WQ_then ?_ | refine WQ_then_ret ?_ | refine WQ_then_exit ?_ | refine WQ_block_normal ?_ | refine WQ_block_ret ?_ | refine WQ_block_exit ?_ | refine n9 ?_)
    refine WL_runs rfl rfl rfl (R_com rfl (not8 _)) ?_
    repeat (first | refine n1 ?_ | refine n2 (fun b _ => ?_) | refine n3 (fun _ _ => ?_) | refine n4 ?_ | refine n5 ?_ | refine WL_nil ?_ | refine W_seq ?_ | refine W_region ?_ | refine n7 ?_ | refine n8 ?_ | refine W_block ?_ | refine W_skip ?_ | refine W_ret ?_ | refine W_exit ?_ | refine WQ_then ?_ | refine WQ_then_ret ?_ | refine WQ_then_exit ?_ | refine WQ_block_normal ?_ | refine WQ_block_ret ?_ | refine WQ_block_exit ?_ | refine n9 ?_)
    ((apply ret1 Try.results16 ( ())); (focus (first | trivial | assumption | omega)); (focus (first | exact RV_tmp rfl | (apply RV_cellN; exact rfl; (repeat' (first | exact Pick.head _ _ | apply Pick.tail)); (intro _; exact rfl); (intro _; exact rfl); exact rfl) | (apply RV_cell1; exact rfl; (repeat' (first | exact Pick.head _ _ | apply Pick.tail)); (intro _; exact rfl); exact rfl)));  (focus (first | exact rfl | (simp; done))); (focus (repeat (first | exact SubO.nil _ | (apply SubO.cons; (focus (repeat' (first | exact Pick.head _ _ | apply Pick.tail))))))); (focus (repeat (first | exact AllE.nil _ | (apply AllE.cons; (focus (first | exact ent_nilBy | exact ent_nilSl | (apply Ent.mem; repeat' (first | exact mcs | apply mct)))))))))

theorem shl8_32 (r : BitVec 32) : IntKind.u32.wrap ((r.toNat : Int) * 2 ^ (min (8 : Int).toNat IntKind.u32.bits)) = ((r <<< 8).toNat : Int) := by
  have h := lt32 r
  rw [BitVec.toNat_shiftLeft, IntKind.wrap_u32]
  rw [show ((2 : Int) ^ (min (8 : Int).toNat IntKind.u32.bits)) = 256 from rfl, Nat.shiftLeft_eq]
  omega
theorem shr24_32 (r : BitVec 32) : (r.toNat : Int).fdiv (2 ^ (min (24 : Int).toNat IntKind.u32.bits)) = ((r.toNat / 16777216 : Nat) : Int) := by
  rw [show ((2 : Int) ^ (min (24 : Int).toNat IntKind.u32.bits)) = 16777216 from rfl, Int.fdiv_eq_ediv_of_nonneg _ (by decide)]
  omega

end Go.Proofs.Ytdhbgolbfkejcaa
