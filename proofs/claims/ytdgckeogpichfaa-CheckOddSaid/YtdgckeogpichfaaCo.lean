/-
  Contracts: changed bits.
-/
import Derived.Test.YtdgckeogpichfaaCn
namespace Go.Proofs.Ytdgckeogpichfaa
open Go Go.RowKit Go.Hs
attribute [local irreducible] WL W WQ PL Runs Effs AllE Ent SubO FrIn Pick OneC Ones CellsE PartsE SeqE UZ By Sl Pt Ct

theorem one_shr (j : Nat) (h : j < 8) : (128 : Int).fdiv (2 ^ (min ((j : Nat) : Int).toNat IntKind.u8.bits)) = ((128 >>> UInt8.ofNat j : UInt8).toNat : Int) := by
  have h1 : ∀ j : Fin 8, 128 / 2 ^ j.val = (128 >>> UInt8.ofNat j.val : UInt8).toNat := by decide
  have h2 := h1 ⟨j, h⟩
  simp only at h2
  rw [← h2, Int.toNat_natCast, show min j IntKind.u8.bits = j from Nat.min_eq_left (show j ≤ 8 by omega), show ((2 : Int) ^ j) = ((2 ^ j : Nat) : Int) by simp]
  rw [Int.fdiv_eq_ediv_of_nonneg _ (Int.natCast_nonneg _)]
  rfl

set_option maxRecDepth 100000 in
set_option maxHeartbeats 1000000 in
theorem flipped_fn (u : Value) (xs : List UInt8) (k : Nat) (hx : xs.length ≤ 1000000000) (hk : k < 8 * xs.length) : Ct Try.prog 29 [u, .int .i64 (k : Int)] [] [By u xs]
    (X := Value) (fun _ => True) (fun x => x) (fun _ => []) (fun x => [By x (fl xs k)]) := by
  have e8 : IntKind.i64.wrap ((k : Int).tdiv 8) = ((k / 8 : Nat) : Int) := by
    rw [show ((k : Int).tdiv 8) = ((k / 8 : Nat) : Int) from rfl]
    exact wx_i64 (by omega)
  have e9 : ((k : Int).tmod 8) = ((k % 8 : Nat) : Int) := rfl
  have hi : k / 8 < xs.length := by omega
  refine Ct_intro Try.func29 rfl Try.ntmps29 (by simp) _ rfl (fun w0 O0 => ?_)
  repeat (first | refine n1 ?_ | refine n2 (fun b _ => ?_) | refine n3 (fun _ _ => ?_) | refine n4 ?_ | refine n5 ?_ | refine WL_nil ?_ | refine W_seq ?_ | refine W_region ?_ | refine n7 ?_ | refine n8 ?_ | refine W_block ?_ | refine W_skip ?_ | refine W_ret ?_ | refine W_exit ?_ | refine WQ_then ?_ | refine WQ_then_ret ?_ | refine WQ_then_exit ?_ | refine WQ_block_normal ?_ | refine WQ_block_ret ?_ | refine WQ_block_exit ?_ | refine n9 ?_)
  (apply WL_effs; exact rfl; exact rfl; exact rfl; (apply E_buildSlice; exact rfl; (focus (repeat (first | apply SeqE.nil | (apply SeqE.cons; exact rfl; (focus (first | (apply CellsE.lit; exact rfl) | (apply CellsE.one; (first | (apply OneC.lit; exact rfl) | (apply OneC.by_; (repeat' (first | exact mcs | apply mct))) | (apply OneC.sl; (repeat' (first | exact mcs | apply mct))) | (apply OneC.row; (repeat' (first | exact Pick.head _ _ | apply Pick.tail))))))); exact rfl) | exact rfl))); exact rfl; (first | (intro _; exact (rfl : _ = Result.ok 1 _)) | (intro _; exact (rfl : _ = Result.ok 2 _)) | (intro _; exact (rfl : _ = Result.ok 3 _)) | (intro _; exact (rfl : _ = Result.ok 4 _)) | (intro _; exact (rfl : _ = Result.ok 5 _)) | (intro _; exact (rfl : _ = Result.ok 6 _)) | (intro _; exact (rfl : _ = Result.ok 7 _)) | (intro _; exact (rfl : _ = Result.ok 8 _)) | (intro _; exact (rfl : _ = Result.ok 13 _)) | (intro _; exact (rfl : _ = Result.ok 14 _)) | (intro _; exact (rfl : _ = Result.ok 26 _)) | (intro _; exact (rfl : _ = Result.ok 40 _)) | (intro _; exact (rfl : _ = Result.ok 41 _)) | (intro _; exact (rfl : _ = Result.ok 42 _)) | (intro _; exact (rfl : _ = Result.ok 43 _)) | (intro _; exact (rfl : _ = Result.ok 44 _)) | (intro _; exact (rfl : _ = Result.ok 45 _)) | (intro _; exact (rfl : _ = Result.ok 46 _))); (intro _; exact rfl); exact rfl; exact Nat.le_of_ble_eq_true rfl; exact Nat.le_of_ble_eq_true rfl); skip)
  intro o _
  repeat (first | refine n1 ?_ | refine n2 (fun b _ => ?_) | refine n3 (fun _ _ => ?_) | refine n4 ?_ | refine n5 ?_ | refine WL_nil ?_ | refine W_seq ?_ | refine W_region ?_ | refine n7 ?_ | refine n8 ?_ | refine W_block ?_ | refine W_skip ?_ | refine W_ret ?_ | refine W_exit ?_ | refine WQ_then ?_ | refine WQ_then_ret ?_ | refine WQ_then_exit ?_ | refine WQ_block_normal ?_ | refine WQ_block_ret ?_ | refine WQ_block_exit ?_ | refine n9 ?_)
  (apply WL_effs; exact rfl; exact rfl; exact rfl; (apply E_appendBy; exact rfl; exact rfl; (repeat' (first | exact Pick.head _ _ | apply Pick.tail)); (repeat' (first | exact mcs | apply mct)); (first | exact nil_map | exact one_map _ | exact two_map _ _ | exact rfl); exact rfl; exact rfl; exact rfl; exact rfl; exact rfl; exact Nat.le_of_ble_eq_true rfl; (first | omega | (simp only [List.length_take, List.length_drop, List.length_append, List.length_cons, List.length_nil, List.length_map, List.length_replicate]; omega)); (focus (first | exact Nat.zero_add _ | exact rfl)); (focus ((try (conv => lhs; simp only [Nat.add_sub_cancel_left, Nat.sub_zero, List.drop_zero, List.nil_append])); (first | done | exact rfl)))); skip)
  intro o1 _
  repeat (first | refine n1 ?_ | refine n2 (fun b _ => ?_) | refine n3 (fun _ _ => ?_) | refine n4 ?_ | refine n5 ?_ | refine WL_nil ?_ | refine W_seq ?_ | refine W_region ?_ | refine n7 ?_ | refine n8 ?_ | refine W_block ?_ | refine W_skip ?_ | refine W_ret ?_ | refine W_exit ?_ | refine WQ_then ?_ | refine WQ_then_ret ?_ | refine WQ_then_exit ?_ | refine WQ_block_normal ?_ | refine WQ_block_ret ?_ | refine WQ_block_exit ?_ | refine n9 ?_)
  refine WL_runs rfl rfl rfl (R_quo rfl rfl (by decide) e8) ?_
  repeat (first | refine n1 ?_ | refine n2 (fun b _ => ?_) | refine n3 (fun _ _ => ?_) | refine n4 ?_ | refine n5 ?_ | refine WL_nil ?_ | refine W_seq ?_ | refine W_region ?_ | refine n7 ?_ | refine n8 ?_ | refine W_block ?_ | refine W_skip ?_ | refine W_ret ?_ | refine W_exit ?_ | refine WQ_then ?_ | refine WQ_then_ret ?_ | refine WQ_then_exit ?_ | refine WQ_block_normal ?_ | refine WQ_block_ret ?_ | refine WQ_block_exit ?_ | refine n9 ?_)
  refine WL_runs rfl rfl rfl (R_quo rfl rfl (by decide) e8) ?_
  refine WL_runs rfl rfl rfl (R_idxRow rfl rfl (by repeat' (first | exact Pick.head _ _ | apply Pick.tail)) rfl (by intro _; exact rfl) rfl hi) ?_
  refine WL_runs rfl rfl rfl (R_loadRow rfl (by repeat' (first | exact Pick.head _ _ | apply Pick.tail)) (by intro _; exact rfl) hi (cell_at xs (k / 8) hi)) ?_
  repeat (first | refine n1 ?_ | refine n2 (fun b _ => ?_) | refine n3 (fun _ _ => ?_) | refine n4 ?_ | refine n5 ?_ | refine WL_nil ?_ | refine W_seq ?_ | refine W_region ?_ | refine n7 ?_ | refine n8 ?_ | refine W_block ?_ | refine W_skip ?_ | refine W_ret ?_ | refine W_exit ?_ | refine WQ_then ?_ | refine WQ_then_ret ?_ | refine WQ_then_exit ?_ | refine WQ_block_normal ?_ | refine WQ_block_ret ?_ | refine WQ_block_exit ?_ | refine n9 ?_)
  refine WL_runs rfl rfl rfl (R_rem rfl rfl (by decide) e9) ?_
  repeat (first | refine n1 ?_ | refine n2 (fun b _ => ?_) | refine n3 (fun _ _ => ?_) | refine n4 ?_ | refine n5 ?_ | refine WL_nil ?_ | refine W_seq ?_ | refine W_region ?_ | refine n7 ?_ | refine n8 ?_ | refine W_block ?_ | refine W_skip ?_ | refine W_ret ?_ | refine W_exit ?_ | refine WQ_then ?_ | refine WQ_then_ret ?_ | refine WQ_then_exit ?_ | refine WQ_block_normal ?_ | refine WQ_block_ret ?_ | refine WQ_block_exit ?_ | refine n9 ?_)
  refine WL_runs rfl rfl rfl (R_shr rfl rfl (by omega) (one_shr (k % 8) (by omega))) ?_
  refine WL_runs rfl rfl rfl (R_xor rfl rfl (xor_u8 (xs.getD (k / 8) 0) (128 >>> UInt8.ofNat (k % 8)))) ?_
  refine WL_runs rfl rfl rfl (R_idxRow rfl rfl (by repeat' (first | exact Pick.head _ _ | apply Pick.tail)) rfl (by intro _; exact rfl) rfl hi) ?_
  refine WL_do rfl rfl (E_storeRow rfl rfl (by repeat' (first | exact Pick.head _ _ | apply Pick.tail)) rfl (by intro _; exact rfl) hi) ?_
  intro _ _
  rw [cell_set]
  repeat (first | refine n1 ?_ | refine n2 (fun b _ => ?_) | refine n3 (fun _ _ => ?_) | refine n4 ?_ | refine n5 ?_ | refine WL_nil ?_ | refine W_seq ?_ | refine W_region ?_ | refine n7 ?_ | refine n8 ?_ | refine W_block ?_ | refine W_skip ?_ | refine W_ret ?_ | refine W_exit ?_ | refine WQ_then ?_ | refine WQ_then_ret ?_ | refine WQ_then_exit ?_ | refine WQ_block_normal ?_ | refine WQ_block_ret ?_ | refine WQ_block_exit ?_ | refine n9 ?_)
  refine WQ_letgoB (bs := fl xs k) (by repeat' (first | exact Pick.head _ _ | apply Pick.tail)) rfl ?_
  ((apply ret1 Try.results29 ( o1)); (focus (first | trivial | assumption | omega)); (focus (first | exact RV_tmp rfl | (apply RV_cellN; exact rfl; (repeat' (first | exact Pick.head _ _ | apply Pick.tail)); (intro _; exact rfl); (intro _; exact rfl); exact rfl) | (apply RV_cell1; exact rfl; (repeat' (first | exact Pick.head _ _ | apply Pick.tail)); (intro _; exact rfl); exact rfl)));  (focus (first | exact rfl | (simp; done))); (focus (repeat (first | exact SubO.nil _ | (apply SubO.cons; (focus (repeat' (first | exact Pick.head _ _ | apply Pick.tail))))))); (focus (repeat (first | exact AllE.nil _ | (apply AllE.cons; (focus (first | exact ent_nilBy | exact ent_nilSl | (apply Ent.mem; repeat' (first | exact mcs | apply mct)))))))))

def eB (at_ n : Nat) (p : BitVec 32) (j : Nat) : Bool := decide (at_ ≤ j ∧ j < at_ + n) && p.toNat.testBit (j - at_)
theorem eB_zero (at_ : Nat) (p : BitVec 32) (j : Nat) : eB at_ 0 p j = false := by
  unfold eB
  rw [decide_eq_false (by omega)]
  rfl
theorem eB_succ (at_ n : Nat) (p : BitVec 32) (j : Nat) : eB at_ (n + 1) p j = (eB at_ n p j ^^ (decide (j = at_ + n) && p.toNat.testBit n)) := by
  unfold eB
  by_cases h : j = at_ + n
  · subst h
    rw [decide_eq_true (show at_ ≤ at_ + n ∧ at_ + n < at_ + (n + 1) by omega), decide_eq_false (show ¬ (at_ ≤ at_ + n ∧ at_ + n < at_ + n) by omega), Nat.add_sub_cancel_left]
    simp
  · rw [decide_eq_false h]
    by_cases h2 : at_ ≤ j ∧ j < at_ + n
    · rw [decide_eq_true h2, decide_eq_true (show at_ ≤ j ∧ j < at_ + (n + 1) by omega)]
      simp
    · rw [decide_eq_false h2, decide_eq_false (show ¬ (at_ ≤ j ∧ j < at_ + (n + 1)) by omega)]
      simp

structure BS (xs : List UInt8) (at_ : Nat) (p : BitVec 32) (i : Nat) (ys : List UInt8) (s : Bool) : Prop where
  len : ys.length = xs.length
  bit : ∀ j, j < 8 * xs.length → bitAt ys j = (bitAt xs j ^^ eB at_ i p j)
  some_ : s = true ↔ ∃ j, j < 8 * xs.length ∧ eB at_ i p j = true

theorem BS.zero (xs : List UInt8) (at_ : Nat) (p : BitVec 32) : BS xs at_ p 0 xs false :=
  ⟨rfl, fun j _ => by rw [eB_zero, Bool.xor_false], by
    constructor
    · intro h; cases h
    · rintro ⟨j, _, h⟩
      rw [eB_zero] at h
      cases h⟩
theorem BS.off {xs : List UInt8} {at_ i : Nat} {p : BitVec 32} {ys : List UInt8} {s : Bool} (h : BS xs at_ p i ys s) (hb : p.toNat.testBit i = false ∨ 8 * xs.length ≤ at_ + i) : BS xs at_ p (i + 1) ys s := by
  have e : ∀ j, j < 8 * xs.length → eB at_ (i + 1) p j = eB at_ i p j := fun j hj => by
    rw [eB_succ]
    rcases hb with hb | hb
    · rw [hb, Bool.and_false, Bool.xor_false]
    · rw [decide_eq_false (by omega), Bool.false_and, Bool.xor_false]
  refine ⟨h.len, fun j hj => by rw [e j hj]; exact h.bit j hj, h.some_.trans ?_⟩
  constructor
  · rintro ⟨j, hj, h⟩
    exact ⟨j, hj, by rw [e j hj]; exact h⟩
  · rintro ⟨j, hj, h⟩
    exact ⟨j, hj, by rw [← e j hj]; exact h⟩
theorem BS.on {xs : List UInt8} {at_ i : Nat} {p : BitVec 32} {ys : List UInt8} {s : Bool} (h : BS xs at_ p i ys s) (hb : p.toNat.testBit i = true) (hk : at_ + i < 8 * xs.length) : BS xs at_ p (i + 1) (fl ys (at_ + i)) true := by
  refine ⟨by rw [fl_length]; exact h.len, fun j hj => ?_, ?_⟩
  · rw [fl_at ys _ _ (by rw [h.len]; exact hk), h.bit j hj, eB_succ, hb, Bool.and_true, Bool.xor_assoc]
  · refine ⟨fun _ => ⟨at_ + i, hk, ?_⟩, fun _ => rfl⟩
    rw [eB_succ, hb, decide_eq_true rfl]
    unfold eB
    rw [decide_eq_false (by omega)]
    rfl

theorem pat_bit (p : BitVec 32) (i : Nat) (h : i ≤ 32) : (p.toNat : Int).fdiv (2 ^ (min ((i : Nat) : Int).toNat IntKind.u32.bits)) = ((p.toNat / 2 ^ i : Nat) : Int) := by
  rw [Int.toNat_natCast, show min i IntKind.u32.bits = i from Nat.min_eq_left h, show ((2 : Int) ^ i) = ((2 ^ i : Nat) : Int) by simp]
  rw [Int.fdiv_eq_ediv_of_nonneg _ (Int.natCast_nonneg _)]
  rfl
theorem pat_mod (p : BitVec 32) (i : Nat) : (((p.toNat / 2 ^ i : Nat) : Int).tmod 2) = if p.toNat.testBit i then 1 else 0 := by
  rw [show (((p.toNat / 2 ^ i : Nat) : Int).tmod 2) = ((p.toNat / 2 ^ i % 2 : Nat) : Int) from rfl, Nat.testBit_eq_decide_div_mod_eq]
  by_cases h : p.toNat / 2 ^ i % 2 = 1
  · rw [h]; rfl
  · have : p.toNat / 2 ^ i % 2 = 0 := by omega
    rw [this]; rfl

set_option maxRecDepth 100000 in
set_option maxHeartbeats 4000000 in
theorem burst_fn (u : Value) (xs : List UInt8) (at_ n : Nat) (p : BitVec 32) (hx : xs.length ≤ 1000000000) (ha : at_ ≤ 8 * xs.length) (hn : n ≤ 32) :
    Ct Try.prog 28 [u, .int .i64 (at_ : Int), .int .i64 (n : Int), .int .u32 (p.toNat : Int)] [] [By u xs]
    (X := Value × List UInt8 × Bool) (fun x => BS xs at_ p n x.2.1 x.2.2) (fun x => .tuple #[x.1, .bool x.2.2]) (fun _ => []) (fun x => [By x.1 x.2.1]) := by
  refine Ct_intro Try.func28 rfl Try.ntmps28 (by simp) _ rfl (fun w0 O0 => ?_)
  repeat (first | refine n1 ?_ | refine n2 (fun b _ => ?_) | refine n3 (fun _ _ => ?_) | refine n4 ?_ | refine n5 ?_ | refine WL_nil ?_ | refine W_seq ?_ | refine W_region ?_ | refine n7 ?_ | refine n8 ?_ | refine W_block ?_ | refine W_skip ?_ | refine W_ret ?_ | refine W_exit ?_ | refine WQ_then ?_ | refine WQ_then_ret ?_ | refine WQ_then_exit ?_ | refine WQ_block_normal ?_ | refine WQ_block_ret ?_ | refine WQ_block_exit ?_ | refine n9 ?_)
  ((apply W_loopK (X := Nat × Value × List UInt8 × Bool) [11, 0, 10] [] (fun x => x.1 ≤ n ∧ BS xs at_ p x.1 x.2.2.1 x.2.2.2) (fun x => [(11, .int .i64 (x.1 : Int)), (0, x.2.1), (10, .bool x.2.2.2)]) (fun _ => []) (fun x => [By x.2.1 x.2.2.1]) (fun x => n - x.1) ((0, u, xs, false))); (focus exact ⟨Nat.zero_le _, BS.zero xs at_ p⟩); exact rfl; exact rfl; (intro _; exact rfl); (intro _; exact rfl); (intro _; exact rfl); (focus (repeat (first | exact FrIn.nil _ | (apply FrIn.cons; exact rfl; (first | exact rfl | (congr 1; omega) | (simp; done)))))); (focus (repeat (first | exact SubO.nil _ | (apply SubO.cons; (focus (repeat' (first | exact Pick.head _ _ | apply Pick.tail))))))); (focus (repeat (first | exact AllE.nil _ | (apply AllE.cons; (focus (first | exact ent_nilBy | exact ent_nilSl | (apply Ent.mem; repeat' (first | exact mcs | apply mct)))))))); intro x hx)
  obtain ⟨i, v, ys, s⟩ := x
  obtain ⟨hi, hs⟩ := hx
  replace hi : i ≤ n := hi
  replace hs : BS xs at_ p i ys s := hs
  have hl := hs.len
  dsimp only
  by_cases h : i < n
  · have hm := pat_mod p i
    cases hb : p.toNat.testBit i with
    | false =>
      rw [hb] at hm
      repeat (first | refine n1 ?_ | refine n2 (fun b _ => ?_) | refine n3 (fun _ _ => ?_) | refine n4 ?_ | refine n5 ?_ | refine WL_nil ?_ | refine W_seq ?_ | refine W_region ?_ | refine n7 ?_ | refine n8 ?_ | refine W_block ?_ | refine W_skip ?_ | refine W_ret ?_ | refine W_exit ?_ | refine WQ_then ?_ | refine WQ_then_ret ?_ | refine WQ_then_exit ?_ | refine WQ_block_normal ?_ | refine WQ_block_ret ?_ | refine WQ_block_exit ?_ | refine n9 ?_)
      refine WL_runs rfl rfl rfl (R_shr rfl rfl (by omega) (pat_bit p i (by omega))) ?_
      refine WL_runs rfl rfl rfl (R_rem rfl rfl (by decide) hm) ?_
      repeat (first | refine n1 ?_ | refine n2 (fun b _ => ?_) | refine n3 (fun _ _ => ?_) | refine n4 ?_ | refine n5 ?_ | refine WL_nil ?_ | refine W_seq ?_ | refine W_region ?_ | refine n7 ?_ | refine n8 ?_ | refine W_block ?_ | refine W_skip ?_ | refine W_ret ?_ | refine W_exit ?_ | refine WQ_then ?_ | refine WQ_then_ret ?_ | refine WQ_then_exit ?_ | refine WQ_block_normal ?_ | refine WQ_block_ret ?_ | refine WQ_block_exit ?_ | refine n9 ?_)
      ((apply WQ_again ((i + 1, v, ys, s))); (focus (exact ⟨h, hs.off (.inl hb)⟩)); (focus (omega)); (focus (repeat (first | exact FrIn.nil _ | (apply FrIn.cons; exact rfl; (first | exact rfl | (congr 1; omega) | (simp; done)))))); (focus (repeat (first | exact SubO.nil _ | (apply SubO.cons; (focus (repeat' (first | exact Pick.head _ _ | apply Pick.tail))))))); (focus (repeat (first | exact AllE.nil _ | (apply AllE.cons; (focus (first | exact ent_nilBy | exact ent_nilSl | (apply Ent.mem; repeat' (first | exact mcs | apply mct)))))))))
    | true =>
      rw [hb] at hm
      by_cases hk : at_ + i < 8 * xs.length
      · repeat (first | refine n1 ?_ | refine n2 (fun b _ => ?_) | refine n3 (fun _ _ => ?_) | refine n4 ?_ | refine n5 ?_ | refine WL_nil ?_ | refine W_seq ?_ | refine W_region ?_ | refine n7 ?_ | refine n8 ?_ | refine W_block ?_ | refine W_skip ?_ | refine W_ret ?_ | refine W_exit ?_ | refine WQ_then ?_ | refine WQ_then_ret ?_ | refine WQ_then_exit ?_ | refine WQ_block_normal ?_ | refine WQ_block_ret ?_ | refine WQ_block_exit ?_ | refine n9 ?_)
        refine WL_runs rfl rfl rfl (R_shr rfl rfl (by omega) (pat_bit p i (by omega))) ?_
        refine WL_runs rfl rfl rfl (R_rem rfl rfl (by decide) hm) ?_
        repeat (first | refine n1 ?_ | refine n2 (fun b _ => ?_) | refine n3 (fun _ _ => ?_) | refine n4 ?_ | refine n5 ?_ | refine WL_nil ?_ | refine W_seq ?_ | refine W_region ?_ | refine n7 ?_ | refine n8 ?_ | refine W_block ?_ | refine W_skip ?_ | refine W_ret ?_ | refine W_exit ?_ | refine WQ_then ?_ | refine WQ_then_ret ?_ | refine WQ_then_exit ?_ | refine WQ_block_normal ?_ | refine WQ_block_ret ?_ | refine WQ_block_exit ?_ | refine n9 ?_)
        (apply WL_effs; exact rfl; exact rfl; exact rfl; apply E_call; exact rfl; (intro _ _; simp); (exact flipped_fn v ys (at_ + i) (by omega) (by omega)); (repeat (first | exact AllE.nil _ | (apply AllE.cons; (focus (first | exact ent_nilBy | exact ent_nilSl | (apply Ent.mem; repeat' (first | exact mcs | apply mct))))))); (intro _; exact rfl); (intro _; exact rfl))
        intro v2 _
        repeat (first | refine n1 ?_ | refine n2 (fun b _ => ?_) | refine n3 (fun _ _ => ?_) | refine n4 ?_ | refine n5 ?_ | refine WL_nil ?_ | refine W_seq ?_ | refine W_region ?_ | refine n7 ?_ | refine n8 ?_ | refine W_block ?_ | refine W_skip ?_ | refine W_ret ?_ | refine W_exit ?_ | refine WQ_then ?_ | refine WQ_then_ret ?_ | refine WQ_then_exit ?_ | refine WQ_block_normal ?_ | refine WQ_block_ret ?_ | refine WQ_block_exit ?_ | refine n9 ?_)
        ((apply WQ_again ((i + 1, v2, fl ys (at_ + i), true))); (focus exact ⟨h, hs.on hb hk⟩); (focus (omega)); (focus (repeat (first | exact FrIn.nil _ | (apply FrIn.cons; exact rfl; (first | exact rfl | (congr 1; omega) | (simp; done)))))); (focus (repeat (first | exact SubO.nil _ | (apply SubO.cons; (focus (repeat' (first | exact Pick.head _ _ | apply Pick.tail))))))); (focus (repeat (first | exact AllE.nil _ | (apply AllE.cons; (focus (first | exact ent_nilBy | exact ent_nilSl | (apply Ent.mem; repeat' (first | exact mcs | apply mct)))))))))
      · repeat (first | refine n1 ?_ | refine n2 (fun b _ => ?_) | refine n3 (fun _ _ => ?_) | refine n4 ?_ | refine n5 ?_ | refine WL_nil ?_ | refine W_seq ?_ | refine W_region ?_ | refine n7 ?_ | refine n8 ?_ | refine W_block ?_ | refine W_skip ?_ | refine W_ret ?_ | refine W_exit ?_ | refine WQ_then ?_ | refine WQ_then_ret ?_ | refine WQ_then_exit ?_ | refine WQ_block_normal ?_ | refine WQ_block_ret ?_ | refine WQ_block_exit ?_ | refine n9 ?_)
        refine WL_runs rfl rfl rfl (R_shr rfl rfl (by omega) (pat_bit p i (by omega))) ?_
        refine WL_runs rfl rfl rfl (R_rem rfl rfl (by decide) hm) ?_
        repeat (first | refine n1 ?_ | refine n2 (fun b _ => ?_) | refine n3 (fun _ _ => ?_) | refine n4 ?_ | refine n5 ?_ | refine WL_nil ?_ | refine W_seq ?_ | refine W_region ?_ | refine n7 ?_ | refine n8 ?_ | refine W_block ?_ | refine W_skip ?_ | refine W_ret ?_ | refine W_exit ?_ | refine WQ_then ?_ | refine WQ_then_ret ?_ | refine WQ_then_exit ?_ | refine WQ_block_normal ?_ | refine WQ_block_ret ?_ | refine WQ_block_exit ?_ | refine n9 ?_)
        ((apply WQ_again ((i + 1, v, ys, s))); (focus (exact ⟨h, hs.off (.inr (by omega))⟩)); (focus (omega)); (focus (repeat (first | exact FrIn.nil _ | (apply FrIn.cons; exact rfl; (first | exact rfl | (congr 1; omega) | (simp; done)))))); (focus (repeat (first | exact SubO.nil _ | (apply SubO.cons; (focus (repeat' (first | exact Pick.head _ _ | apply Pick.tail))))))); (focus (repeat (first | exact AllE.nil _ | (apply AllE.cons; (focus (first | exact ent_nilBy | exact ent_nilSl | (apply Ent.mem; repeat' (first | exact mcs | apply mct)))))))))
  · obtain rfl : i = n := by omega
    repeat (first | refine n1 ?_ | refine n2 (fun b _ => ?_) | refine n3 (fun _ _ => ?_) | refine n4 ?_ | refine n5 ?_ | refine WL_nil ?_ | refine W_seq ?_ | refine W_region ?_ | refine n7 ?_ | refine n8 ?_ | refine W_block ?_ | refine W_skip ?_ | refine W_ret ?_ | refine W_exit ?_ | refine WQ_then ?_ | refine WQ_then_ret ?_ | refine WQ_then_exit ?_ | refine WQ_block_normal ?_ | refine WQ_block_ret ?_ | refine WQ_block_exit ?_ | refine n9 ?_)
    ((apply ret2 Try.results28 ( (v, ys, s))); (focus (first | trivial | assumption | omega)); (focus (first | exact RV_tmp rfl | (apply RV_cellN; exact rfl; (repeat' (first | exact Pick.head _ _ | apply Pick.tail)); (intro _; exact rfl); (intro _; exact rfl); exact rfl) | (apply RV_cell1; exact rfl; (repeat' (first | exact Pick.head _ _ | apply Pick.tail)); (intro _; exact rfl); exact rfl))); (focus (first | exact RV_tmp rfl | (apply RV_cellN; exact rfl; (repeat' (first | exact Pick.head _ _ | apply Pick.tail)); (intro _; exact rfl); (intro _; exact rfl); exact rfl) | (apply RV_cell1; exact rfl; (repeat' (first | exact Pick.head _ _ | apply Pick.tail)); (intro _; exact rfl); exact rfl)));  (focus (first | exact rfl | (simp; done))); (focus (repeat (first | exact SubO.nil _ | (apply SubO.cons; (focus (repeat' (first | exact Pick.head _ _ | apply Pick.tail))))))); (focus (repeat (first | exact AllE.nil _ | (apply AllE.cons; (focus (first | exact ent_nilBy | exact ent_nilSl | (apply Ent.mem; repeat' (first | exact mcs | apply mct)))))))))
end Go.Proofs.Ytdgckeogpichfaa
