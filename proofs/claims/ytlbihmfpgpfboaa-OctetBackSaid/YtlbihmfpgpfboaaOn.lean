/-
  The laws 'OctetParts' and 'OctetPrefix' walked.
-/
import Derived.Test.YtlbihmfpgpfboaaOm
namespace Go.Proofs.Ytlbihmfpgpfboaa
open Go Go.RowKit Go.Hs
attribute [local irreducible] WL W WQ PL Runs Effs AllE Ent SubO FrIn Pick OneC Ones CellsE PartsE SeqE UZ By Sl Pt Ct

def putW (v k m x : Nat) : Nat := v - v / 2 ^ k % 2 ^ m * 2 ^ k + x * 2 ^ k
theorem putW_eq (v k m x : Nat) : putW v k m x = 2 ^ (k + m) * (v / 2 ^ (k + m)) + x * 2 ^ k + v % 2 ^ k := by
  have h := parts_eq v k m
  unfold putW
  generalize 2 ^ (k + m) * (v / 2 ^ (k + m)) = A at *
  generalize v / 2 ^ k % 2 ^ m * 2 ^ k = B at *
  generalize v % 2 ^ k = L at *
  omega
theorem putW_low (v k m x : Nat) : putW v k m x % 2 ^ k = v % 2 ^ k := by
  rw [putW_eq, Nat.pow_add, show 2 ^ k * 2 ^ m * (v / (2 ^ k * 2 ^ m)) + x * 2 ^ k + v % 2 ^ k = v % 2 ^ k + 2 ^ k * (2 ^ m * (v / (2 ^ k * 2 ^ m)) + x) by rw [Nat.mul_add, Nat.mul_assoc, Nat.mul_comm x]; omega, Nat.add_mul_mod_self_left, Nat.mod_mod]
theorem putW_mid (v k m x : Nat) (hx : x < 2 ^ m) : putW v k m x / 2 ^ k % 2 ^ m = x := by
  rw [putW_eq, Nat.pow_add, show 2 ^ k * 2 ^ m * (v / (2 ^ k * 2 ^ m)) + x * 2 ^ k + v % 2 ^ k = v % 2 ^ k + 2 ^ k * (2 ^ m * (v / (2 ^ k * 2 ^ m)) + x) by rw [Nat.mul_add, Nat.mul_assoc, Nat.mul_comm x]; omega]
  rw [Nat.add_mul_div_left _ _ (ppos k), Nat.div_eq_of_lt (Nat.mod_lt _ (ppos k)), Nat.zero_add, Nat.mul_add_mod, Nat.mod_eq_of_lt hx]
theorem putW_high (v k m x : Nat) (hx : x < 2 ^ m) : putW v k m x / 2 ^ (k + m) = v / 2 ^ (k + m) := by
  have hl : v % 2 ^ k < 2 ^ k := Nat.mod_lt _ (ppos k)
  have h3 : x * 2 ^ k + v % 2 ^ k < 2 ^ (k + m) := by
    have : (x + 1) * 2 ^ k ≤ 2 ^ m * 2 ^ k := Nat.mul_le_mul_right _ hx
    rw [Nat.pow_add, Nat.mul_comm (2 ^ k)]
    rw [Nat.add_mul] at this
    omega
  rw [putW_eq, Nat.add_assoc, Nat.mul_add_div (ppos _), Nat.div_eq_of_lt h3, Nat.add_zero]
theorem putW_lt (v k m x : Nat) (hx : x < 2 ^ m) (hv : v < 18446744073709551616) (hk : k + m ≤ 64) : putW v k m x < 18446744073709551616 := by
  have h := putW_high v k m x hx
  have h13 : v / 2 ^ (k + m) < 2 ^ (64 - (k + m)) := by
    apply Nat.div_lt_of_lt_mul
    rw [← Nat.pow_add, show k + m + (64 - (k + m)) = 64 by omega, p64]
    exact hv
  rw [← h, Nat.div_lt_iff_lt_mul (ppos _), ← Nat.pow_add, show 64 - (k + m) + (k + m) = 64 by omega, p64] at h13
  exact h13
theorem read_low (v w t c k : Nat) (h : w % 2 ^ k = v % 2 ^ k) (hk : t + c ≤ k) : w / 2 ^ t % 2 ^ c = v / 2 ^ t % 2 ^ c := by
  apply Nat.eq_of_testBit_eq
  intro i
  have hb : ∀ y, (y / 2 ^ t % 2 ^ c).testBit i = (decide (i < c) && (y % 2 ^ k).testBit (i + t)) := fun y => by
    rw [Nat.testBit_mod_two_pow, Nat.testBit_div_two_pow, Nat.testBit_mod_two_pow]
    by_cases h : i < c
    · simp [h, show i + t < k by omega]
    · simp [h]
  rw [hb, hb, h]
theorem read_high (v w t h : Nat) (e : w / 2 ^ h = v / 2 ^ h) (ht : h ≤ t) : w / 2 ^ t = v / 2 ^ t := by
  obtain ⟨d, rfl⟩ := Nat.exists_eq_add_of_le ht
  rw [Nat.pow_add, ← Nat.div_div_eq_div_mul, ← Nat.div_div_eq_div_mul, e]

set_option maxRecDepth 100000 in
set_option maxHeartbeats 2000000 in
theorem partsLaw_fn (v : Nat) (hv : v < 18446744073709551616) (a n : Int) (x : Nat) (hx : x < 18446744073709551616) (t m : Int) :
    CtD Try.prog 7 [.int .u64 (v : Int), .int .i64 a, .int .i64 n, .int .u64 (x : Int), .int .i64 t, .int .i64 m] [] (.bool true) := by
  have ha := alive_fn
  have hs := set_fn v hv a n x hx
  by_cases h1 : seE a n x = 0
  · have hin : inB a n := by
      unfold seE at h1
      split at h1
      · assumption
      · cases h1
    have hxn : x < 2 ^ n.toNat := by
      unfold seE at h1
      rw [if_pos hin] at h1
      split at h1
      · assumption
      · cases h1
    have hw : seV v a n x = putW v a.toNat n.toNat x := by rw [seV, if_pos hin, if_pos hxn]; rfl
    obtain ⟨i1, i2, i3, i4⟩ := hin
    have hk : a.toNat + n.toNat ≤ 64 := by omega
    have hlt := putW_lt v a.toNat n.toNat x hxn hv hk
    rw [h1, hw] at hs
    have b1 := bits_fn (putW v a.toNat n.toNat x) hlt a n
    rw [show biE a n = 0 from if_pos ⟨i1, i2, i3, i4⟩, show biV (putW v a.toNat n.toNat x) a n = x by rw [biV, if_pos ⟨i1, i2, i3, i4⟩, putW_mid _ _ _ _ hxn]] at b1
    have b2 := bits_fn v hv t m
    have b3 := bits_fn (putW v a.toNat n.toNat x) hlt t m
    by_cases h2 : inB t m
    · obtain ⟨j1, j2, j3, j4⟩ := h2
      rw [show biE t m = 0 from if_pos ⟨j1, j2, j3, j4⟩] at b2 b3
      by_cases h3 : t + m ≤ a ∨ a + n ≤ t
      · have e : biV (putW v a.toNat n.toNat x) t m = biV v t m := by
          rw [biV, biV, if_pos ⟨j1, j2, j3, j4⟩, if_pos ⟨j1, j2, j3, j4⟩]
          rcases h3 with h3 | h3
          · exact read_low v _ _ _ a.toNat (putW_low v _ _ x) (by omega)
          · rw [read_high v _ t.toNat (a.toNat + n.toNat) (putW_high v _ _ x hxn) (by omega)]
        rw [e] at b3
        generalize putW v a.toNat n.toNat x = w at *
        generalize biV v t m = y at *
        by_cases h4 : t + m ≤ a
        · refine Ct_intro Try.func7 rfl Try.ntmps7 (by simp) _ rfl (fun w0 O0 => ?_)
          repeat (first | refine n1 ?_ | refine n2 (fun b _ => ?_) | refine n3 (fun _ _ => ?_) | refine n4 ?_ | refine n5 ?_ | refine n6 (ha) ?_ | refine n6 (hs) ?_ | refine n6 (b1) ?_ | refine n6 (b2) ?_ | refine n6 (b3) ?_ | refine WL_nil ?_ | refine W_seq ?_ | refine W_region ?_ | refine n7 ?_ | refine n8 ?_ | refine W_block ?_ | refine W_skip ?_ | refine W_ret ?_ | refine W_exit ?_ | refine WQ_then ?_ | refine WQ_then_ret ?_ | refine WQ_then_exit ?_ | refine WQ_block_normal ?_ | refine WQ_block_ret ?_ | refine WQ_block_exit ?_ | refine n9 ?_)
          ((apply ret1 Try.results7 ( ())); (focus (first | trivial | assumption | omega)); (focus (first | exact RV_tmp rfl | (apply RV_cellN; exact rfl; (repeat' (first | exact Pick.head _ _ | apply Pick.tail)); (intro _; exact rfl); (intro _; exact rfl); exact rfl) | (apply RV_cell1; exact rfl; (repeat' (first | exact Pick.head _ _ | apply Pick.tail)); (intro _; exact rfl); exact rfl)));  (focus (first | exact rfl | (simp; done))); (focus (repeat (first | exact SubO.nil _ | (apply SubO.cons; (focus (repeat' (first | exact Pick.head _ _ | apply Pick.tail))))))); (focus (repeat (first | exact AllE.nil _ | (apply AllE.cons; (focus (first | exact ent_nilBy | exact ent_nilSl | (apply Ent.mem; repeat' (first | exact mcs | apply mct)))))))))
        · refine Ct_intro Try.func7 rfl Try.ntmps7 (by simp) _ rfl (fun w0 O0 => ?_)
          repeat (first | refine n1 ?_ | refine n2 (fun b _ => ?_) | refine n3 (fun _ _ => ?_) | refine n4 ?_ | refine n5 ?_ | refine n6 (ha) ?_ | refine n6 (hs) ?_ | refine n6 (b1) ?_ | refine n6 (b2) ?_ | refine n6 (b3) ?_ | refine WL_nil ?_ | refine W_seq ?_ | refine W_region ?_ | refine n7 ?_ | refine n8 ?_ | refine W_block ?_ | refine W_skip ?_ | refine W_ret ?_ | refine W_exit ?_ | refine WQ_then ?_ | refine WQ_then_ret ?_ | refine WQ_then_exit ?_ | refine WQ_block_normal ?_ | refine WQ_block_ret ?_ | refine WQ_block_exit ?_ | refine n9 ?_)
          ((apply ret1 Try.results7 ( ())); (focus (first | trivial | assumption | omega)); (focus (first | exact RV_tmp rfl | (apply RV_cellN; exact rfl; (repeat' (first | exact Pick.head _ _ | apply Pick.tail)); (intro _; exact rfl); (intro _; exact rfl); exact rfl) | (apply RV_cell1; exact rfl; (repeat' (first | exact Pick.head _ _ | apply Pick.tail)); (intro _; exact rfl); exact rfl)));  (focus (first | exact rfl | (simp; done))); (focus (repeat (first | exact SubO.nil _ | (apply SubO.cons; (focus (repeat' (first | exact Pick.head _ _ | apply Pick.tail))))))); (focus (repeat (first | exact AllE.nil _ | (apply AllE.cons; (focus (first | exact ent_nilBy | exact ent_nilSl | (apply Ent.mem; repeat' (first | exact mcs | apply mct)))))))))
      · generalize biV (putW v a.toNat n.toNat x) t m = y2 at *
        generalize putW v a.toNat n.toNat x = w at *
        generalize biV v t m = y at *
        refine Ct_intro Try.func7 rfl Try.ntmps7 (by simp) _ rfl (fun w0 O0 => ?_)
        repeat (first | refine n1 ?_ | refine n2 (fun b _ => ?_) | refine n3 (fun _ _ => ?_) | refine n4 ?_ | refine n5 ?_ | refine n6 (ha) ?_ | refine n6 (hs) ?_ | refine n6 (b1) ?_ | refine n6 (b2) ?_ | refine n6 (b3) ?_ | refine WL_nil ?_ | refine W_seq ?_ | refine W_region ?_ | refine n7 ?_ | refine n8 ?_ | refine W_block ?_ | refine W_skip ?_ | refine W_ret ?_ | refine W_exit ?_ | refine WQ_then ?_ | refine WQ_then_ret ?_ | refine WQ_then_exit ?_ | refine WQ_block_normal ?_ | refine WQ_block_ret ?_ | refine WQ_block_exit ?_ | refine n9 ?_)
        ((apply ret1 Try.results7 ( ())); (focus (first | trivial | assumption | omega)); (focus (first | exact RV_tmp rfl | (apply RV_cellN; exact rfl; (repeat' (first | exact Pick.head _ _ | apply Pick.tail)); (intro _; exact rfl); (intro _; exact rfl); exact rfl) | (apply RV_cell1; exact rfl; (repeat' (first | exact Pick.head _ _ | apply Pick.tail)); (intro _; exact rfl); exact rfl)));  (focus (first | exact rfl | (simp; done))); (focus (repeat (first | exact SubO.nil _ | (apply SubO.cons; (focus (repeat' (first | exact Pick.head _ _ | apply Pick.tail))))))); (focus (repeat (first | exact AllE.nil _ | (apply AllE.cons; (focus (first | exact ent_nilBy | exact ent_nilSl | (apply Ent.mem; repeat' (first | exact mcs | apply mct)))))))))
    · rw [show biE t m = 2 from if_neg h2] at b2 b3
      generalize biV (putW v a.toNat n.toNat x) t m = y2 at *
      generalize putW v a.toNat n.toNat x = w at *
      generalize biV v t m = y at *
      refine Ct_intro Try.func7 rfl Try.ntmps7 (by simp) _ rfl (fun w0 O0 => ?_)
      repeat (first | refine n1 ?_ | refine n2 (fun b _ => ?_) | refine n3 (fun _ _ => ?_) | refine n4 ?_ | refine n5 ?_ | refine n6 (ha) ?_ | refine n6 (hs) ?_ | refine n6 (b1) ?_ | refine n6 (b2) ?_ | refine n6 (b3) ?_ | refine WL_nil ?_ | refine W_seq ?_ | refine W_region ?_ | refine n7 ?_ | refine n8 ?_ | refine W_block ?_ | refine W_skip ?_ | refine W_ret ?_ | refine W_exit ?_ | refine WQ_then ?_ | refine WQ_then_ret ?_ | refine WQ_then_exit ?_ | refine WQ_block_normal ?_ | refine WQ_block_ret ?_ | refine WQ_block_exit ?_ | refine n9 ?_)
      ((apply ret1 Try.results7 ( ())); (focus (first | trivial | assumption | omega)); (focus (first | exact RV_tmp rfl | (apply RV_cellN; exact rfl; (repeat' (first | exact Pick.head _ _ | apply Pick.tail)); (intro _; exact rfl); (intro _; exact rfl); exact rfl) | (apply RV_cell1; exact rfl; (repeat' (first | exact Pick.head _ _ | apply Pick.tail)); (intro _; exact rfl); exact rfl)));  (focus (first | exact rfl | (simp; done))); (focus (repeat (first | exact SubO.nil _ | (apply SubO.cons; (focus (repeat' (first | exact Pick.head _ _ | apply Pick.tail))))))); (focus (repeat (first | exact AllE.nil _ | (apply AllE.cons; (focus (first | exact ent_nilBy | exact ent_nilSl | (apply Ent.mem; repeat' (first | exact mcs | apply mct)))))))))
  · generalize seE a n x = e at *
    generalize seV v a n x = w at *
    refine Ct_intro Try.func7 rfl Try.ntmps7 (by simp) _ rfl (fun w0 O0 => ?_)
    repeat (first | refine n1 ?_ | refine n2 (fun b _ => ?_) | refine n3 (fun _ _ => ?_) | refine n4 ?_ | refine n5 ?_ | refine n6 (ha) ?_ | refine n6 (hs) ?_ | refine WL_nil ?_ | refine W_seq ?_ | refine W_region ?_ | refine n7 ?_ | refine n8 ?_ | refine W_block ?_ | refine W_skip ?_ | refine W_ret ?_ | refine W_exit ?_ | refine WQ_then ?_ | refine WQ_then_ret ?_ | refine WQ_then_exit ?_ | refine WQ_block_normal ?_ | refine WQ_block_ret ?_ | refine WQ_block_exit ?_ | refine n9 ?_)
    ((apply ret1 Try.results7 ( ())); (focus (first | trivial | assumption | omega)); (focus (first | exact RV_tmp rfl | (apply RV_cellN; exact rfl; (repeat' (first | exact Pick.head _ _ | apply Pick.tail)); (intro _; exact rfl); (intro _; exact rfl); exact rfl) | (apply RV_cell1; exact rfl; (repeat' (first | exact Pick.head _ _ | apply Pick.tail)); (intro _; exact rfl); exact rfl)));  (focus (first | exact rfl | (simp; done))); (focus (repeat (first | exact SubO.nil _ | (apply SubO.cons; (focus (repeat' (first | exact Pick.head _ _ | apply Pick.tail))))))); (focus (repeat (first | exact AllE.nil _ | (apply AllE.cons; (focus (first | exact ent_nilBy | exact ent_nilSl | (apply Ent.mem; repeat' (first | exact mcs | apply mct)))))))))

set_option maxRecDepth 100000 in
set_option maxHeartbeats 4000000 in
theorem prefixLaw_fn (u w : Value) (xs ys : List UInt8) (a n : Int) : CtD Try.prog 6 [u, w, .int .i64 a, .int .i64 n] [By u xs, By w ys] (.bool true) := by
  have hal := alive_fn
  have hg1 := great_fn u xs
  have hg2 := great_fn w ys
  by_cases h1 : (70000 : Int) < xs.length
  · rw [decide_eq_true h1] at hg1
    refine Ct_intro Try.func6 rfl Try.ntmps6 (by simp) _ rfl (fun w0 O0 => ?_)
    repeat (first | refine n1 ?_ | refine n2 (fun b _ => ?_) | refine n3 (fun _ _ => ?_) | refine n4 ?_ | refine n5 ?_ | refine n6 (hal) ?_ | refine n6 (hg1) ?_ | refine WL_nil ?_ | refine W_seq ?_ | refine W_region ?_ | refine n7 ?_ | refine n8 ?_ | refine W_block ?_ | refine W_skip ?_ | refine W_ret ?_ | refine W_exit ?_ | refine WQ_then ?_ | refine WQ_then_ret ?_ | refine WQ_then_exit ?_ | refine WQ_block_normal ?_ | refine WQ_block_ret ?_ | refine WQ_block_exit ?_ | refine n9 ?_)
    ((apply ret1 Try.results6 ( ())); (focus (first | trivial | assumption | omega)); (focus (first | exact RV_tmp rfl | (apply RV_cellN; exact rfl; (repeat' (first | exact Pick.head _ _ | apply Pick.tail)); (intro _; exact rfl); (intro _; exact rfl); exact rfl) | (apply RV_cell1; exact rfl; (repeat' (first | exact Pick.head _ _ | apply Pick.tail)); (intro _; exact rfl); exact rfl)));  (focus (first | exact rfl | (simp; done))); (focus (repeat (first | exact SubO.nil _ | (apply SubO.cons; (focus (repeat' (first | exact Pick.head _ _ | apply Pick.tail))))))); (focus (repeat (first | exact AllE.nil _ | (apply AllE.cons; (focus (first | exact ent_nilBy | exact ent_nilSl | (apply Ent.mem; repeat' (first | exact mcs | apply mct)))))))))
  · rw [decide_eq_false h1] at hg1
    by_cases h2 : (70000 : Int) < ys.length
    · rw [decide_eq_true h2] at hg2
      refine Ct_intro Try.func6 rfl Try.ntmps6 (by simp) _ rfl (fun w0 O0 => ?_)
      repeat (first | refine n1 ?_ | refine n2 (fun b _ => ?_) | refine n3 (fun _ _ => ?_) | refine n4 ?_ | refine n5 ?_ | refine n6 (hal) ?_ | refine n6 (hg1) ?_ | refine n6 (hg2) ?_ | refine WL_nil ?_ | refine W_seq ?_ | refine W_region ?_ | refine n7 ?_ | refine n8 ?_ | refine W_block ?_ | refine W_skip ?_ | refine W_ret ?_ | refine W_exit ?_ | refine WQ_then ?_ | refine WQ_then_ret ?_ | refine WQ_then_exit ?_ | refine WQ_block_normal ?_ | refine WQ_block_ret ?_ | refine WQ_block_exit ?_ | refine n9 ?_)
      ((apply ret1 Try.results6 ( ())); (focus (first | trivial | assumption | omega)); (focus (first | exact RV_tmp rfl | (apply RV_cellN; exact rfl; (repeat' (first | exact Pick.head _ _ | apply Pick.tail)); (intro _; exact rfl); (intro _; exact rfl); exact rfl) | (apply RV_cell1; exact rfl; (repeat' (first | exact Pick.head _ _ | apply Pick.tail)); (intro _; exact rfl); exact rfl)));  (focus (first | exact rfl | (simp; done))); (focus (repeat (first | exact SubO.nil _ | (apply SubO.cons; (focus (repeat' (first | exact Pick.head _ _ | apply Pick.tail))))))); (focus (repeat (first | exact AllE.nil _ | (apply AllE.cons; (focus (first | exact ent_nilBy | exact ent_nilSl | (apply Ent.mem; repeat' (first | exact mcs | apply mct)))))))))
    · rw [decide_eq_false h2] at hg2
      by_cases h3 : a < 0
      · refine Ct_intro Try.func6 rfl Try.ntmps6 (by simp) _ rfl (fun w0 O0 => ?_)
        repeat (first | refine n1 ?_ | refine n2 (fun b _ => ?_) | refine n3 (fun _ _ => ?_) | refine n4 ?_ | refine n5 ?_ | refine n6 (hal) ?_ | refine n6 (hg1) ?_ | refine n6 (hg2) ?_ | refine WL_nil ?_ | refine W_seq ?_ | refine W_region ?_ | refine n7 ?_ | refine n8 ?_ | refine W_block ?_ | refine W_skip ?_ | refine W_ret ?_ | refine W_exit ?_ | refine WQ_then ?_ | refine WQ_then_ret ?_ | refine WQ_then_exit ?_ | refine WQ_block_normal ?_ | refine WQ_block_ret ?_ | refine WQ_block_exit ?_ | refine n9 ?_)
        ((apply ret1 Try.results6 ( ())); (focus (first | trivial | assumption | omega)); (focus (first | exact RV_tmp rfl | (apply RV_cellN; exact rfl; (repeat' (first | exact Pick.head _ _ | apply Pick.tail)); (intro _; exact rfl); (intro _; exact rfl); exact rfl) | (apply RV_cell1; exact rfl; (repeat' (first | exact Pick.head _ _ | apply Pick.tail)); (intro _; exact rfl); exact rfl)));  (focus (first | exact rfl | (simp; done))); (focus (repeat (first | exact SubO.nil _ | (apply SubO.cons; (focus (repeat' (first | exact Pick.head _ _ | apply Pick.tail))))))); (focus (repeat (first | exact AllE.nil _ | (apply AllE.cons; (focus (first | exact ent_nilBy | exact ent_nilSl | (apply Ent.mem; repeat' (first | exact mcs | apply mct)))))))))
      · by_cases h4 : (xs.length : Int) < a
        · refine Ct_intro Try.func6 rfl Try.ntmps6 (by simp) _ rfl (fun w0 O0 => ?_)
          repeat (first | refine n1 ?_ | refine n2 (fun b _ => ?_) | refine n3 (fun _ _ => ?_) | refine n4 ?_ | refine n5 ?_ | refine n6 (hal) ?_ | refine n6 (hg1) ?_ | refine n6 (hg2) ?_ | refine WL_nil ?_ | refine W_seq ?_ | refine W_region ?_ | refine n7 ?_ | refine n8 ?_ | refine W_block ?_ | refine W_skip ?_ | refine W_ret ?_ | refine W_exit ?_ | refine WQ_then ?_ | refine WQ_then_ret ?_ | refine WQ_then_exit ?_ | refine WQ_block_normal ?_ | refine WQ_block_ret ?_ | refine WQ_block_exit ?_ | refine n9 ?_)
          ((apply ret1 Try.results6 ( ())); (focus (first | trivial | assumption | omega)); (focus (first | exact RV_tmp rfl | (apply RV_cellN; exact rfl; (repeat' (first | exact Pick.head _ _ | apply Pick.tail)); (intro _; exact rfl); (intro _; exact rfl); exact rfl) | (apply RV_cell1; exact rfl; (repeat' (first | exact Pick.head _ _ | apply Pick.tail)); (intro _; exact rfl); exact rfl)));  (focus (first | exact rfl | (simp; done))); (focus (repeat (first | exact SubO.nil _ | (apply SubO.cons; (focus (repeat' (first | exact Pick.head _ _ | apply Pick.tail))))))); (focus (repeat (first | exact AllE.nil _ | (apply AllE.cons; (focus (first | exact ent_nilBy | exact ent_nilSl | (apply Ent.mem; repeat' (first | exact mcs | apply mct)))))))))
        · by_cases h5 : n < 0
          · refine Ct_intro Try.func6 rfl Try.ntmps6 (by simp) _ rfl (fun w0 O0 => ?_)
            repeat (first | refine n1 ?_ | refine n2 (fun b _ => ?_) | refine n3 (fun _ _ => ?_) | refine n4 ?_ | refine n5 ?_ | refine n6 (hal) ?_ | refine n6 (hg1) ?_ | refine n6 (hg2) ?_ | refine WL_nil ?_ | refine W_seq ?_ | refine W_region ?_ | refine n7 ?_ | refine n8 ?_ | refine W_block ?_ | refine W_skip ?_ | refine W_ret ?_ | refine W_exit ?_ | refine WQ_then ?_ | refine WQ_then_ret ?_ | refine WQ_then_exit ?_ | refine WQ_block_normal ?_ | refine WQ_block_ret ?_ | refine WQ_block_exit ?_ | refine n9 ?_)
            ((apply ret1 Try.results6 ( ())); (focus (first | trivial | assumption | omega)); (focus (first | exact RV_tmp rfl | (apply RV_cellN; exact rfl; (repeat' (first | exact Pick.head _ _ | apply Pick.tail)); (intro _; exact rfl); (intro _; exact rfl); exact rfl) | (apply RV_cell1; exact rfl; (repeat' (first | exact Pick.head _ _ | apply Pick.tail)); (intro _; exact rfl); exact rfl)));  (focus (first | exact rfl | (simp; done))); (focus (repeat (first | exact SubO.nil _ | (apply SubO.cons; (focus (repeat' (first | exact Pick.head _ _ | apply Pick.tail))))))); (focus (repeat (first | exact AllE.nil _ | (apply AllE.cons; (focus (first | exact ent_nilBy | exact ent_nilSl | (apply Ent.mem; repeat' (first | exact mcs | apply mct)))))))))
          · have hl : (xs ++ ys).length = xs.length + ys.length := List.length_append
            have t1 := take_fn u xs a n (by omega)
            have t2 := fun v => take_fn v (xs ++ ys) a n (by omega)
            have v1 : ¬ ¬ (0 ≤ a ∧ a ≤ xs.length) := fun h => h (by omega)
            have v2 : ¬ ¬ (0 ≤ a ∧ a ≤ (xs ++ ys).length) := fun h => h (by omega)
            by_cases h6 : (xs.length : Int) - a < n
            · rw [show tkE xs.length a n = 10 by rw [tkE, if_neg v1, if_neg h5, if_pos h6]] at t1
              refine Ct_intro Try.func6 rfl Try.ntmps6 (by simp) _ rfl (fun w0 O0 => ?_)
              repeat (first | refine n1 ?_ | refine n2 (fun b _ => ?_) | refine n3 (fun _ _ => ?_) | refine n4 ?_ | refine n5 ?_ | refine n6 (hal) ?_ | refine n6 (hg1) ?_ | refine n6 (hg2) ?_ | refine WL_nil ?_ | refine W_seq ?_ | refine W_region ?_ | refine n7 ?_ | refine n8 ?_ | refine W_block ?_ | refine W_skip ?_ | refine W_ret ?_ | refine W_exit ?_ | refine WQ_then ?_ | refine WQ_then_ret ?_ | refine WQ_then_exit ?_ | refine WQ_block_normal ?_ | refine WQ_block_ret ?_ | refine WQ_block_exit ?_ | refine n9 ?_)
              (apply WL_effs; exact rfl; exact rfl; exact rfl; apply E_call; exact rfl; (intro _ _; simp); (exact copy_fn u xs (by omega)); (repeat (first | exact AllE.nil _ | (apply AllE.cons; (focus (first | exact ent_nilBy | exact ent_nilSl | (apply Ent.mem; repeat' (first | exact mcs | apply mct))))))); (intro _; exact rfl); (intro _; exact rfl))
              intro o _
              repeat (first | refine n1 ?_ | refine n2 (fun b _ => ?_) | refine n3 (fun _ _ => ?_) | refine n4 ?_ | refine n5 ?_ | refine WL_nil ?_ | refine W_seq ?_ | refine W_region ?_ | refine n7 ?_ | refine n8 ?_ | refine W_block ?_ | refine W_skip ?_ | refine W_ret ?_ | refine W_exit ?_ | refine WQ_then ?_ | refine WQ_then_ret ?_ | refine WQ_then_exit ?_ | refine WQ_block_normal ?_ | refine WQ_block_ret ?_ | refine WQ_block_exit ?_ | refine n9 ?_)
              (apply WL_effs; exact rfl; exact rfl; exact rfl; (apply E_appendBy; exact rfl; exact rfl; (repeat' (first | exact Pick.head _ _ | apply Pick.tail)); (repeat' (first | exact mcs | apply mct)); (first | exact nil_map | exact one_map _ | exact two_map _ _ | exact rfl); exact rfl; exact rfl; exact rfl; exact rfl; exact rfl; exact Nat.le_of_ble_eq_true rfl; (first | omega | (simp only [List.length_take, List.length_drop, List.length_append, List.length_cons, List.length_nil, List.length_map, List.length_replicate]; omega)); (focus (first | exact Nat.zero_add _ | exact rfl)); (focus ((try (conv => lhs; simp only [Nat.add_sub_cancel_left, Nat.sub_zero, List.drop_zero, List.nil_append])); (first | done | exact rfl)))); skip)
              intro o1 _
              repeat (first | refine n1 ?_ | refine n2 (fun b _ => ?_) | refine n3 (fun _ _ => ?_) | refine n4 ?_ | refine n5 ?_ | refine WL_nil ?_ | refine W_seq ?_ | refine W_region ?_ | refine n7 ?_ | refine n8 ?_ | refine W_block ?_ | refine W_skip ?_ | refine W_ret ?_ | refine W_exit ?_ | refine WQ_then ?_ | refine WQ_then_ret ?_ | refine WQ_then_exit ?_ | refine WQ_block_normal ?_ | refine WQ_block_ret ?_ | refine WQ_block_exit ?_ | refine n9 ?_)
              refine WL_letgoB (bs := xs ++ ys) (by repeat' (first | exact Pick.head _ _ | apply Pick.tail)) rfl ?_
              (apply WL_effs; exact rfl; exact rfl; exact rfl; apply E_call; exact rfl; (intro _ _; simp); exact t1; (repeat (first | exact AllE.nil _ | (apply AllE.cons; (focus (first | exact ent_nilBy | exact ent_nilSl | (apply Ent.mem; repeat' (first | exact mcs | apply mct))))))); (intro _; exact rfl); (intro _; exact rfl))
              intro r1 _
              repeat (first | refine n1 ?_ | refine n2 (fun b _ => ?_) | refine n3 (fun _ _ => ?_) | refine n4 ?_ | refine n5 ?_ | refine WL_nil ?_ | refine W_seq ?_ | refine W_region ?_ | refine n7 ?_ | refine n8 ?_ | refine W_block ?_ | refine W_skip ?_ | refine W_ret ?_ | refine W_exit ?_ | refine WQ_then ?_ | refine WQ_then_ret ?_ | refine WQ_then_exit ?_ | refine WQ_block_normal ?_ | refine WQ_block_ret ?_ | refine WQ_block_exit ?_ | refine n9 ?_)
              (apply WL_effs; exact rfl; exact rfl; exact rfl; apply E_call; exact rfl; (intro _ _; simp); exact t2 o1; (repeat (first | exact AllE.nil _ | (apply AllE.cons; (focus (first | exact ent_nilBy | exact ent_nilSl | (apply Ent.mem; repeat' (first | exact mcs | apply mct))))))); (intro _; exact rfl); (intro _; exact rfl))
              intro r2 _
              repeat (first | refine n1 ?_ | refine n2 (fun b _ => ?_) | refine n3 (fun _ _ => ?_) | refine n4 ?_ | refine n5 ?_ | refine WL_nil ?_ | refine W_seq ?_ | refine W_region ?_ | refine n7 ?_ | refine n8 ?_ | refine W_block ?_ | refine W_skip ?_ | refine W_ret ?_ | refine W_exit ?_ | refine WQ_then ?_ | refine WQ_then_ret ?_ | refine WQ_then_exit ?_ | refine WQ_block_normal ?_ | refine WQ_block_ret ?_ | refine WQ_block_exit ?_ | refine n9 ?_)
              ((apply ret1 Try.results6 ( ())); (focus (first | trivial | assumption | omega)); (focus (first | exact RV_tmp rfl | (apply RV_cellN; exact rfl; (repeat' (first | exact Pick.head _ _ | apply Pick.tail)); (intro _; exact rfl); (intro _; exact rfl); exact rfl) | (apply RV_cell1; exact rfl; (repeat' (first | exact Pick.head _ _ | apply Pick.tail)); (intro _; exact rfl); exact rfl)));  (focus (first | exact rfl | (simp; done))); (focus (repeat (first | exact SubO.nil _ | (apply SubO.cons; (focus (repeat' (first | exact Pick.head _ _ | apply Pick.tail))))))); (focus (repeat (first | exact AllE.nil _ | (apply AllE.cons; (focus (first | exact ent_nilBy | exact ent_nilSl | (apply Ent.mem; repeat' (first | exact mcs | apply mct)))))))))
            · have e1 : tkE xs.length a n = 0 := by rw [tkE, if_neg v1, if_neg h5, if_neg h6]
              have e2 : tkE (xs ++ ys).length a n = 0 := by rw [tkE, if_neg v2, if_neg h5, if_neg (by omega)]
              have e3 : tkB (xs ++ ys) a n = tkB xs a n := by
                rw [tkB, tkB, if_pos e1, if_pos e2, List.drop_append_of_le_length (by omega), List.take_append_of_le_length (by rw [List.length_drop]; omega)]
              have e4 : (tkB xs a n).length = n.toNat := by
                rw [tkB, if_pos e1, List.length_take, List.length_drop]
                omega
              have e5 : ((tkB xs a n).length : Int) = n := by omega
              rw [e1, show tkA xs.length a n = a + n from if_pos e1] at t1
              rw [e2, show tkA (xs ++ ys).length a n = a + n from if_pos e2, e3] at t2
              generalize tkB xs a n = b at *
              have s1 := fun v u => sameY v u b
              refine Ct_intro Try.func6 rfl Try.ntmps6 (by simp) _ rfl (fun w0 O0 => ?_)
              repeat (first | refine n1 ?_ | refine n2 (fun b _ => ?_) | refine n3 (fun _ _ => ?_) | refine n4 ?_ | refine n5 ?_ | refine n6 (hal) ?_ | refine n6 (hg1) ?_ | refine n6 (hg2) ?_ | refine WL_nil ?_ | refine W_seq ?_ | refine W_region ?_ | refine n7 ?_ | refine n8 ?_ | refine W_block ?_ | refine W_skip ?_ | refine W_ret ?_ | refine W_exit ?_ | refine WQ_then ?_ | refine WQ_then_ret ?_ | refine WQ_then_exit ?_ | refine WQ_block_normal ?_ | refine WQ_block_ret ?_ | refine WQ_block_exit ?_ | refine n9 ?_)
              (apply WL_effs; exact rfl; exact rfl; exact rfl; apply E_call; exact rfl; (intro _ _; simp); (exact copy_fn u xs (by omega)); (repeat (first | exact AllE.nil _ | (apply AllE.cons; (focus (first | exact ent_nilBy | exact ent_nilSl | (apply Ent.mem; repeat' (first | exact mcs | apply mct))))))); (intro _; exact rfl); (intro _; exact rfl))
              intro o _
              repeat (first | refine n1 ?_ | refine n2 (fun b _ => ?_) | refine n3 (fun _ _ => ?_) | refine n4 ?_ | refine n5 ?_ | refine WL_nil ?_ | refine W_seq ?_ | refine W_region ?_ | refine n7 ?_ | refine n8 ?_ | refine W_block ?_ | refine W_skip ?_ | refine W_ret ?_ | refine W_exit ?_ | refine WQ_then ?_ | refine WQ_then_ret ?_ | refine WQ_then_exit ?_ | refine WQ_block_normal ?_ | refine WQ_block_ret ?_ | refine WQ_block_exit ?_ | refine n9 ?_)
              (apply WL_effs; exact rfl; exact rfl; exact rfl; (apply E_appendBy; exact rfl; exact rfl; (repeat' (first | exact Pick.head _ _ | apply Pick.tail)); (repeat' (first | exact mcs | apply mct)); (first | exact nil_map | exact one_map _ | exact two_map _ _ | exact rfl); exact rfl; exact rfl; exact rfl; exact rfl; exact rfl; exact Nat.le_of_ble_eq_true rfl; (first | omega | (simp only [List.length_take, List.length_drop, List.length_append, List.length_cons, List.length_nil, List.length_map, List.length_replicate]; omega)); (focus (first | exact Nat.zero_add _ | exact rfl)); (focus ((try (conv => lhs; simp only [Nat.add_sub_cancel_left, Nat.sub_zero, List.drop_zero, List.nil_append])); (first | done | exact rfl)))); skip)
              intro o1 _
              repeat (first | refine n1 ?_ | refine n2 (fun b _ => ?_) | refine n3 (fun _ _ => ?_) | refine n4 ?_ | refine n5 ?_ | refine WL_nil ?_ | refine W_seq ?_ | refine W_region ?_ | refine n7 ?_ | refine n8 ?_ | refine W_block ?_ | refine W_skip ?_ | refine W_ret ?_ | refine W_exit ?_ | refine WQ_then ?_ | refine WQ_then_ret ?_ | refine WQ_then_exit ?_ | refine WQ_block_normal ?_ | refine WQ_block_ret ?_ | refine WQ_block_exit ?_ | refine n9 ?_)
              refine WL_letgoB (bs := xs ++ ys) (by repeat' (first | exact Pick.head _ _ | apply Pick.tail)) rfl ?_
              (apply WL_effs; exact rfl; exact rfl; exact rfl; apply E_call; exact rfl; (intro _ _; simp); exact t1; (repeat (first | exact AllE.nil _ | (apply AllE.cons; (focus (first | exact ent_nilBy | exact ent_nilSl | (apply Ent.mem; repeat' (first | exact mcs | apply mct))))))); (intro _; exact rfl); (intro _; exact rfl))
              intro r1 _
              repeat (first | refine n1 ?_ | refine n2 (fun b _ => ?_) | refine n3 (fun _ _ => ?_) | refine n4 ?_ | refine n5 ?_ | refine WL_nil ?_ | refine W_seq ?_ | refine W_region ?_ | refine n7 ?_ | refine n8 ?_ | refine W_block ?_ | refine W_skip ?_ | refine W_ret ?_ | refine W_exit ?_ | refine WQ_then ?_ | refine WQ_then_ret ?_ | refine WQ_then_exit ?_ | refine WQ_block_normal ?_ | refine WQ_block_ret ?_ | refine WQ_block_exit ?_ | refine n9 ?_)
              (apply WL_effs; exact rfl; exact rfl; exact rfl; apply E_call; exact rfl; (intro _ _; simp); exact t2 o1; (repeat (first | exact AllE.nil _ | (apply AllE.cons; (focus (first | exact ent_nilBy | exact ent_nilSl | (apply Ent.mem; repeat' (first | exact mcs | apply mct))))))); (intro _; exact rfl); (intro _; exact rfl))
              intro r2 _
              repeat (first | refine n1 ?_ | refine n2 (fun b _ => ?_) | refine n3 (fun _ _ => ?_) | refine n4 ?_ | refine n5 ?_ | refine n6 (s1 _ _) ?_ | refine WL_nil ?_ | refine W_seq ?_ | refine W_region ?_ | refine n7 ?_ | refine n8 ?_ | refine W_block ?_ | refine W_skip ?_ | refine W_ret ?_ | refine W_exit ?_ | refine WQ_then ?_ | refine WQ_then_ret ?_ | refine WQ_then_exit ?_ | refine WQ_block_normal ?_ | refine WQ_block_ret ?_ | refine WQ_block_exit ?_ | refine n9 ?_)
              ((apply ret1 Try.results6 ( ())); (focus (first | trivial | assumption | omega)); (focus (first | exact RV_tmp rfl | (apply RV_cellN; exact rfl; (repeat' (first | exact Pick.head _ _ | apply Pick.tail)); (intro _; exact rfl); (intro _; exact rfl); exact rfl) | (apply RV_cell1; exact rfl; (repeat' (first | exact Pick.head _ _ | apply Pick.tail)); (intro _; exact rfl); exact rfl)));  (focus (first | exact rfl | (simp; done))); (focus (repeat (first | exact SubO.nil _ | (apply SubO.cons; (focus (repeat' (first | exact Pick.head _ _ | apply Pick.tail))))))); (focus (repeat (first | exact AllE.nil _ | (apply AllE.cons; (focus (first | exact ent_nilBy | exact ent_nilSl | (apply Ent.mem; repeat' (first | exact mcs | apply mct)))))))))
end Go.Proofs.Ytlbihmfpgpfboaa
