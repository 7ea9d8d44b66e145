/-
  Contracts of the tables of the check values.
-/
import Derived.Test.YtdhbgolbfkejcaaRows
import Derived.Test.YtdhbgolbfkejcaaLe
import Derived.Test.YtdhbgolbfkejcaaCa
namespace Go.Proofs.Ytdhbgolbfkejcaa
open Go Go.RowKit Go.Hs
attribute [local irreducible] WL W WQ PL Runs Effs AllE Ent SubO FrIn Pick OneC Ones CellsE PartsE SeqE UZ By Sl Pt Ct

theorem lt32 (r : BitVec 32) : r.toNat < 4294967296 := r.isLt
theorem shl32 (r : BitVec 32) : IntKind.u32.wrap ((r.toNat : Int) * 2 ^ (min (1 : Int).toNat IntKind.u32.bits)) = ((r <<< 1).toNat : Int) := by
  have h := lt32 r
  rw [BitVec.toNat_shiftLeft, IntKind.wrap_u32]
  rw [show ((2 : Int) ^ (min (1 : Int).toNat IntKind.u32.bits)) = 2 from rfl, Nat.shiftLeft_eq]
  omega
theorem xor32 (r s : BitVec 32) : bits .xor .u32 (r.toNat : Int) (s.toNat : Int) = ((r ^^^ s).toNat : Int) := by
  rw [u32_xor_nat _ _ (lt32 r) (lt32 s), BitVec.toNat_xor]
theorem not32 (r : BitVec 32) : bits .xor .u32 (if IntKind.u32.signed then -1 else IntKind.u32.max) (r.toNat : Int) = ((~~~ r).toNat : Int) := by
  rw [BitVec.not_def]
  exact xor32 (BitVec.allOnes 32) r
theorem top32 (r : BitVec 32) : bits .and .u32 (r.toNat : Int) 2147483648 = if r.msb then 2147483648 else 0 := by
  have h := lt32 r
  rw [show (2147483648 : Int) = ((2147483648 : Nat) : Int) from rfl, u32_and_nat _ _ h (by decide)]
  have e : r.toNat &&& 2147483648 = if r.msb then 2147483648 else 0 := by
    apply Nat.eq_of_testBit_eq
    intro i
    rw [Nat.testBit_and, show (2147483648 : Nat) = 2 ^ (32 - 1) from rfl, Nat.testBit_two_pow]
    by_cases h1 : 32 - 1 = i
    · subst h1
      rw [BitVec.msb_eq_getLsbD_last, BitVec.testBit_toNat]
      cases r.getLsbD (32 - 1)
      · simp
      · decide
    · simp only [h1, decide_false, Bool.and_false]
      cases r.msb
      · simp
      · have h2 : Nat.testBit (2 ^ (32 - 1)) i = decide (32 - 1 = i) := Nat.testBit_two_pow
        rw [decide_eq_false h1] at h2
        exact h2.symm
  rw [e]
  split <;> rfl

/-- the table's entry i. -/
def tb32 (i : Nat) : BitVec 32 := feed P32 (BitVec.ofNat 32 i <<< (32 - 8)) (List.replicate 8 false)
def tc32 (n : Nat) : List Value := (List.range 256).map fun j => .int .u32 (if j < n then ((tb32 j).toNat : Int) else 0)
theorem tc32_length (n : Nat) : (tc32 n).length = 256 := by simp [tc32]
theorem tc32_zero : tc32 0 = List.replicate 256 (.int .u32 0) := by
  apply List.ext_getElem
  · rw [tc32_length, List.length_replicate]
  · intro i h1 h2
    rw [List.getElem_replicate]
    simp only [tc32, List.getElem_map]
    rfl
theorem tc32_set (i : Nat) (h : i < 256) : (tc32 i).set i (.int .u32 ((tb32 i).toNat : Int)) = tc32 (i + 1) := by
  apply List.ext_getElem
  · simp [tc32]
  · intro j h1 h2
    rw [List.getElem_set]
    by_cases e : i = j
    · subst e
      simp [tc32]
    · rw [if_neg e]
      simp only [tc32, List.getElem_map, List.getElem_range]
      congr 1
      by_cases h3 : j < i
      · rw [if_pos h3, if_pos (by omega)]
      · rw [if_neg h3, if_neg (by omega)]
theorem tc32_one (n : Nat) : ∀ u ∈ tc32 n, u.oneCell' = true := by
  intro u hu
  obtain ⟨j, _, rfl⟩ := List.mem_map.1 hu
  rfl
theorem tc32_get (i : Nat) (h : i < 256) : (tc32 256)[i]? = some (.int .u32 ((tb32 i).toNat : Int)) := by
  simp [tc32, h]

attribute [local irreducible] tc32
theorem lt8 (r : BitVec 8) : r.toNat < 256 := r.isLt
theorem shl8 (r : BitVec 8) : IntKind.u8.wrap ((r.toNat : Int) * 2 ^ (min (1 : Int).toNat IntKind.u8.bits)) = ((r <<< 1).toNat : Int) := by
  have h := lt8 r
  rw [BitVec.toNat_shiftLeft, IntKind.wrap_u8]
  rw [show ((2 : Int) ^ (min (1 : Int).toNat IntKind.u8.bits)) = 2 from rfl, Nat.shiftLeft_eq]
  omega
theorem xor8 (r s : BitVec 8) : bits .xor .u8 (r.toNat : Int) (s.toNat : Int) = ((r ^^^ s).toNat : Int) := by
  rw [u8_xor_nat _ _ (lt8 r) (lt8 s), BitVec.toNat_xor]
theorem not8 (r : BitVec 8) : bits .xor .u8 (if IntKind.u8.signed then -1 else IntKind.u8.max) (r.toNat : Int) = ((~~~ r).toNat : Int) := by
  rw [BitVec.not_def]
  exact xor8 (BitVec.allOnes 8) r
theorem top8 (r : BitVec 8) : bits .and .u8 (r.toNat : Int) 128 = if r.msb then 128 else 0 := by
  have h := lt8 r
  rw [show (128 : Int) = ((128 : Nat) : Int) from rfl, u8_and_nat _ _ h (by decide)]
  have e : r.toNat &&& 128 = if r.msb then 128 else 0 := by
    apply Nat.eq_of_testBit_eq
    intro i
    rw [Nat.testBit_and, show (128 : Nat) = 2 ^ (8 - 1) from rfl, Nat.testBit_two_pow]
    by_cases h1 : 8 - 1 = i
    · subst h1
      rw [BitVec.msb_eq_getLsbD_last, BitVec.testBit_toNat]
      cases r.getLsbD (8 - 1)
      · simp
      · decide
    · simp only [h1, decide_false, Bool.and_false]
      cases r.msb
      · simp
      · have h2 : Nat.testBit (2 ^ (8 - 1)) i = decide (8 - 1 = i) := Nat.testBit_two_pow
        rw [decide_eq_false h1] at h2
        exact h2.symm
  rw [e]
  split <;> rfl

/-- the table's entry i. -/
def tb8 (i : Nat) : BitVec 8 := feed P8 (BitVec.ofNat 8 i <<< (8 - 8)) (List.replicate 8 false)
def tc8 (n : Nat) : List Value := (List.range 256).map fun j => .int .u8 (if j < n then ((tb8 j).toNat : Int) else 0)
theorem tc8_length (n : Nat) : (tc8 n).length = 256 := by simp [tc8]
theorem tc8_zero : tc8 0 = List.replicate 256 (.int .u8 0) := by
  apply List.ext_getElem
  · rw [tc8_length, List.length_replicate]
  · intro i h1 h2
    rw [List.getElem_replicate]
    simp only [tc8, List.getElem_map]
    rfl
theorem tc8_set (i : Nat) (h : i < 256) : (tc8 i).set i (.int .u8 ((tb8 i).toNat : Int)) = tc8 (i + 1) := by
  apply List.ext_getElem
  · simp [tc8]
  · intro j h1 h2
    rw [List.getElem_set]
    by_cases e : i = j
    · subst e
      simp [tc8]
    · rw [if_neg e]
      simp only [tc8, List.getElem_map, List.getElem_range]
      congr 1
      by_cases h3 : j < i
      · rw [if_pos h3, if_pos (by omega)]
      · rw [if_neg h3, if_neg (by omega)]
theorem tc8_one (n : Nat) : ∀ u ∈ tc8 n, u.oneCell' = true := by
  intro u hu
  obtain ⟨j, _, rfl⟩ := List.mem_map.1 hu
  rfl
theorem tc8_get (i : Nat) (h : i < 256) : (tc8 256)[i]? = some (.int .u8 ((tb8 i).toNat : Int)) := by
  simp [tc8, h]

set_option maxRecDepth 100000 in
theorem shift8 : CtD Try.prog 35 [.int .u8 128] [] (.int .i64 0) := by
  refine Ct_intro Try.func35 rfl Try.ntmps35 (by simp) _ rfl (fun w0 O0 => ?_)
  repeat (first | refine n1 ?_ | refine n2 (fun b _ => ?_) | refine n3 (fun _ _ => ?_) | refine n4 ?_ | refine n5 ?_ | refine WL_nil ?_ | refine W_seq ?_ | refine W_region ?_ | refine n7 ?_ | refine n8 ?_ | refine W_block ?_ | refine W_skip ?_ | refine W_ret ?_ | refine W_exit ?_ | refine WQ_then ?_ | refine WQ_then_ret ?_ | refine WQ_then_exit ?_ | refine WQ_block_normal ?_ | refine WQ_block_ret ?_ | refine WQ_block_exit ?_ | refine n9 ?_)
  ((apply W_loopK (X := Nat) [3, 4] [] (fun x => x ≤ 0) (fun x => [(3, .int .i64 (x : Int)), (4, .int .u8 ((128 / 2 ^ x : Nat) : Int))]) (fun _ => []) (fun _ => []) (fun x => 0 - x) (0)); (focus exact Nat.zero_le _); exact rfl; exact rfl; (intro _; exact rfl); (intro _; exact rfl); (intro _; exact rfl); (focus (repeat (first | exact FrIn.nil _ | (apply FrIn.cons; exact rfl; (first | exact rfl | (congr 1; first | omega | (dsimp only; omega)) | (simp; done)))))); (focus (repeat (first | exact SubO.nil _ | (apply SubO.cons; (focus (repeat' (first | exact Pick.head _ _ | apply Pick.tail))))))); (focus (repeat (first | exact AllE.nil _ | (apply AllE.cons; (focus (first | exact ent_nilBy | exact ent_nilSl | (apply Ent.mem; repeat' (first | exact mcs | apply mct)))))))); intro x hx)
  by_cases h : x < 0
  · have h1 : ∀ k : Fin 0, 128 < 128 / 2 ^ k.val := by decide
    have h2 : 128 < 128 / 2 ^ x := h1 ⟨x, h⟩
    repeat (first | refine n1 ?_ | refine n2 (fun b _ => ?_) | refine n3 (fun _ _ => ?_) | refine n4 ?_ | refine n5 ?_ | refine WL_nil ?_ | refine W_seq ?_ | refine W_region ?_ | refine n7 ?_ | refine n8 ?_ | refine W_block ?_ | refine W_skip ?_ | refine W_ret ?_ | refine W_exit ?_ | refine WQ_then ?_ | refine WQ_then_ret ?_ | refine WQ_then_exit ?_ | refine WQ_block_normal ?_ | refine WQ_block_ret ?_ | refine WQ_block_exit ?_ | refine n9 ?_)
    refine WL_runs rfl rfl rfl (R_shr (c := ((128 / 2 ^ (x + 1) : Nat) : Int)) rfl rfl (by omega) ?_) ?_
    · rw [Nat.pow_succ, ← Nat.div_div_eq_div_mul, show ((2 : Int) ^ (min (1 : Int).toNat IntKind.u8.bits)) = 2 from rfl, Int.fdiv_eq_ediv_of_nonneg _ (by decide)]
      omega
    repeat (first | refine n1 ?_ | refine n2 (fun b _ => ?_) | refine n3 (fun _ _ => ?_) | refine n4 ?_ | refine n5 ?_ | refine WL_nil ?_ | refine W_seq ?_ | refine W_region ?_ | refine n7 ?_ | refine n8 ?_ | refine W_block ?_ | refine W_skip ?_ | refine W_ret ?_ | refine W_exit ?_ | refine WQ_then ?_ | refine WQ_then_ret ?_ | refine WQ_then_exit ?_ | refine WQ_block_normal ?_ | refine WQ_block_ret ?_ | refine WQ_block_exit ?_ | refine n9 ?_)
    ((apply WQ_again (x + 1)); (focus exact h); (focus (omega)); (focus (repeat (first | exact FrIn.nil _ | (apply FrIn.cons; exact rfl; (first | exact rfl | (congr 1; first | omega | (dsimp only; omega)) | (simp; done)))))); (focus (repeat (first | exact SubO.nil _ | (apply SubO.cons; (focus (repeat' (first | exact Pick.head _ _ | apply Pick.tail))))))); (focus (repeat (first | exact AllE.nil _ | (apply AllE.cons; (focus (first | exact ent_nilBy | exact ent_nilSl | (apply Ent.mem; repeat' (first | exact mcs | apply mct)))))))))
  · obtain rfl : x = 0 := by omega
    have h2 : 128 / 2 ^ 0 = 128 := by decide
    repeat (first | refine n1 ?_ | refine n2 (fun b _ => ?_) | refine n3 (fun _ _ => ?_) | refine n4 ?_ | refine n5 ?_ | refine WL_nil ?_ | refine W_seq ?_ | refine W_region ?_ | refine n7 ?_ | refine n8 ?_ | refine W_block ?_ | refine W_skip ?_ | refine W_ret ?_ | refine W_exit ?_ | refine WQ_then ?_ | refine WQ_then_ret ?_ | refine WQ_then_exit ?_ | refine WQ_block_normal ?_ | refine WQ_block_ret ?_ | refine WQ_block_exit ?_ | refine n9 ?_)
    ((apply ret1 Try.results35 ( ())); (focus (first | trivial | assumption | omega)); (focus (first | exact RV_tmp rfl | (apply RV_cellN; exact rfl; (repeat' (first | exact Pick.head _ _ | apply Pick.tail)); (intro _; exact rfl); (intro _; exact rfl); exact rfl) | (apply RV_cell1; exact rfl; (repeat' (first | exact Pick.head _ _ | apply Pick.tail)); (intro _; exact rfl); exact rfl)));  (focus (first | exact rfl | (simp; done))); (focus (repeat (first | exact SubO.nil _ | (apply SubO.cons; (focus (repeat' (first | exact Pick.head _ _ | apply Pick.tail))))))); (focus (repeat (first | exact AllE.nil _ | (apply AllE.cons; (focus (first | exact ent_nilBy | exact ent_nilSl | (apply Ent.mem; repeat' (first | exact mcs | apply mct)))))))))

attribute [local irreducible] tc8
set_option maxRecDepth 100000 in
set_option maxHeartbeats 1000000 in
theorem table8 : CtD Try.prog 30 [.int .u8 97, .int .u8 128] [] (.agg (tc8 256).toArray) := by
  have hsf := shift8
  refine Ct_intro Try.func30 rfl Try.ntmps30 (by simp) _ rfl (fun w0 O0 => ?_)
  refine W_seq (W_region ?_)
  refine WL_effs rfl rfl rfl (E_alloc (cs := List.replicate 256 (.int .u8 0)) (by intro _; exact rfl) (by kernel_rfl)) ?_
  intro b _
  rw [← tc8_zero]
  repeat (first | refine n1 ?_ | refine n2 (fun b _ => ?_) | refine n3 (fun _ _ => ?_) | refine n4 ?_ | refine n5 ?_ | refine WL_nil ?_ | refine W_seq ?_ | refine W_region ?_ | refine n7 ?_ | refine n8 ?_ | refine W_block ?_ | refine W_skip ?_ | refine W_ret ?_ | refine W_exit ?_ | refine WQ_then ?_ | refine WQ_then_ret ?_ | refine WQ_then_exit ?_ | refine WQ_block_normal ?_ | refine WQ_block_ret ?_ | refine WQ_block_exit ?_ | refine n9 ?_)
  ((apply W_loopK (X := Nat) [8] [0] (fun x => x ≤ 256) (fun x => [(8, .int .i64 (x : Int))]) (fun x => [.blk b 61 (tc8 x)]) (fun _ => []) (fun x => 256 - x) (0)); (focus exact Nat.zero_le _); exact rfl; exact rfl; (intro _; exact rfl); (intro _; exact rfl); (intro _; exact rfl); (focus (repeat (first | exact FrIn.nil _ | (apply FrIn.cons; exact rfl; (first | exact rfl | (congr 1; first | omega | (dsimp only; omega)) | (simp; done)))))); (focus (repeat (first | exact SubO.nil _ | (apply SubO.cons; (focus (repeat' (first | exact Pick.head _ _ | apply Pick.tail))))))); (focus (repeat (first | exact AllE.nil _ | (apply AllE.cons; (focus (first | exact ent_nilBy | exact ent_nilSl | (apply Ent.mem; repeat' (first | exact mcs | apply mct)))))))); intro x hx)
  by_cases h : x < 256
  · obtain ⟨i, rfl⟩ : ∃ i, i = x := ⟨x, rfl⟩
    have e1 : ((i : Int) * 2 ^ (min (0 : Int).toNat IntKind.u8.bits)) = ((i * 2 ^ 0 : Nat) : Int) := by
      rw [show ((2 : Int) ^ (min (0 : Int).toNat IntKind.u8.bits)) = ((2 ^ 0 : Nat) : Int) from rfl, ← Int.natCast_mul]
    have e2 : IntKind.u8.wrap ((i : Int) * 2 ^ (min (0 : Int).toNat IntKind.u8.bits)) = ((BitVec.ofNat 8 i <<< (8 - 8)).toNat : Int) := by
      rw [e1, BitVec.toNat_shiftLeft, BitVec.toNat_ofNat, Nat.shiftLeft_eq, IntKind.wrap_u8, Nat.mod_eq_of_lt (by omega : i < 2 ^ 8)]
      show ((i * 2 ^ 0 : Nat) : Int) % 256 = ((i * 2 ^ 0 % 256 : Nat) : Int)
      omega
    repeat (first | refine n1 ?_ | refine n2 (fun b _ => ?_) | refine n3 (fun _ _ => ?_) | refine n4 ?_ | refine n5 ?_ | refine n6 (hsf) ?_ | refine n6v (hsf) ?_ | refine WL_nil ?_ | refine W_seq ?_ | refine W_region ?_ | refine n7 ?_ | refine n8 ?_ | refine W_block ?_ | refine W_skip ?_ | refine W_ret ?_ | refine W_exit ?_ | refine WQ_then ?_ | refine WQ_then_ret ?_ | refine WQ_then_exit ?_ | refine WQ_block_normal ?_ | refine WQ_block_ret ?_ | refine WQ_block_exit ?_ | refine n9 ?_)
    refine WL_runs rfl rfl rfl (R_shl rfl rfl (by decide) e2) ?_
    repeat (first | refine n1 ?_ | refine n2 (fun b _ => ?_) | refine n3 (fun _ _ => ?_) | refine n4 ?_ | refine n5 ?_ | refine WL_nil ?_ | refine W_seq ?_ | refine W_region ?_ | refine n7 ?_ | refine n8 ?_ | refine W_block ?_ | refine W_skip ?_ | refine W_ret ?_ | refine W_exit ?_ | refine WQ_then ?_ | refine WQ_then_ret ?_ | refine WQ_then_exit ?_ | refine WQ_block_normal ?_ | refine WQ_block_ret ?_ | refine WQ_block_exit ?_ | refine n9 ?_)
    ((apply W_loopK (X := Nat × BitVec 8) [16, 6] [] (fun y => y.1 ≤ 8 ∧ y.2 = feed P8 (BitVec.ofNat 8 i <<< (8 - 8)) (List.replicate y.1 false)) (fun y => [(16, .int .i64 (y.1 : Int)), (6, .int .u8 (y.2.toNat : Int))]) (fun _ => []) (fun _ => []) (fun y => 8 - y.1) ((0, BitVec.ofNat 8 i <<< (8 - 8)))); (focus exact ⟨by omega, rfl⟩); exact rfl; exact rfl; (intro _; exact rfl); (intro _; exact rfl); (intro _; exact rfl); (focus (repeat (first | exact FrIn.nil _ | (apply FrIn.cons; exact rfl; (first | exact rfl | (congr 1; first | omega | (dsimp only; omega)) | (simp; done)))))); (focus (repeat (first | exact SubO.nil _ | (apply SubO.cons; (focus (repeat' (first | exact Pick.head _ _ | apply Pick.tail))))))); (focus (repeat (first | exact AllE.nil _ | (apply AllE.cons; (focus (first | exact ent_nilBy | exact ent_nilSl | (apply Ent.mem; repeat' (first | exact mcs | apply mct)))))))); intro x hx)
    obtain ⟨n, r⟩ := x
    rename_i hi0
    obtain ⟨hn, hr⟩ := hx
    replace hn : n ≤ 8 := hn
    replace hr : r = feed P8 (BitVec.ofNat 8 i <<< (8 - 8)) (List.replicate n false) := hr
    by_cases h8 : n < 8
    · have hz : feed P8 (BitVec.ofNat 8 i <<< (8 - 8)) (List.replicate (n + 1) false) = zs P8 r := by
        rw [List.replicate_succ', feed_append, ← hr, feed_cons, feed_nil, stp, show tpb 8 false = 0#8 from rfl, BitVec.xor_zero]
      have ht := top8 r
      by_cases hm : r.msb = true
      · rw [if_pos hm] at ht
        have hz2 : zs P8 r = (r <<< 1) ^^^ P8 := by rw [zs, if_pos hm]
        repeat (first | refine n1 ?_ | refine n2 (fun b _ => ?_) | refine n3 (fun _ _ => ?_) | refine n4 ?_ | refine n5 ?_ | refine WL_nil ?_ | refine W_seq ?_ | refine W_region ?_ | refine n7 ?_ | refine n8 ?_ | refine W_block ?_ | refine W_skip ?_ | refine W_ret ?_ | refine W_exit ?_ | refine WQ_then ?_ | refine WQ_then_ret ?_ | refine WQ_then_exit ?_ | refine WQ_block_normal ?_ | refine WQ_block_ret ?_ | refine WQ_block_exit ?_ | refine n9 ?_)
        refine WL_runs rfl rfl rfl (R_and rfl rfl ht) ?_
        repeat (first | refine n1 ?_ | refine n2 (fun b _ => ?_) | refine n3 (fun _ _ => ?_) | refine n4 ?_ | refine n5 ?_ | refine WL_nil ?_ | refine W_seq ?_ | refine W_region ?_ | refine n7 ?_ | refine n8 ?_ | refine W_block ?_ | refine W_skip ?_ | refine W_ret ?_ | refine W_exit ?_ | refine WQ_then ?_ | refine WQ_then_ret ?_ | refine WQ_then_exit ?_ | refine WQ_block_normal ?_ | refine WQ_block_ret ?_ | refine WQ_block_exit ?_ | refine n9 ?_)
        refine WL_runs rfl rfl rfl (R_shl rfl rfl (by decide) (shl8 r)) ?_
        repeat (first | refine n1 ?_ | refine n2 (fun b _ => ?_) | refine n3 (fun _ _ => ?_) | refine n4 ?_ | refine n5 ?_ | refine WL_nil ?_ | refine W_seq ?_ | refine W_region ?_ | refine n7 ?_ | refine n8 ?_ | refine W_block ?_ | refine W_skip ?_ | refine W_ret ?_ | refine W_exit ?_ | refine WQ_then ?_ | refine WQ_then_ret ?_ | refine WQ_then_exit ?_ | refine WQ_block_normal ?_ | refine WQ_block_ret ?_ | refine WQ_block_exit ?_ | refine n9 ?_)
        refine WL_runs rfl rfl rfl (R_xor (b := ((P8).toNat : Int)) rfl rfl (xor8 (r <<< 1) P8)) ?_
        repeat (first | refine n1 ?_ | refine n2 (fun b _ => ?_) | refine n3 (fun _ _ => ?_) | refine n4 ?_ | refine n5 ?_ | refine WL_nil ?_ | refine W_seq ?_ | refine W_region ?_ | refine n7 ?_ | refine n8 ?_ | refine W_block ?_ | refine W_skip ?_ | refine W_ret ?_ | refine W_exit ?_ | refine WQ_then ?_ | refine WQ_then_ret ?_ | refine WQ_then_exit ?_ | refine WQ_block_normal ?_ | refine WQ_block_ret ?_ | refine WQ_block_exit ?_ | refine n9 ?_)
        ((apply WQ_again ((n + 1, r <<< 1 ^^^ P8))); (focus exact ⟨h8, by rw [hz, hz2]⟩); (focus (omega)); (focus (repeat (first | exact FrIn.nil _ | (apply FrIn.cons; exact rfl; (first | exact rfl | (congr 1; first | omega | (dsimp only; omega)) | (simp; done)))))); (focus (repeat (first | exact SubO.nil _ | (apply SubO.cons; (focus (repeat' (first | exact Pick.head _ _ | apply Pick.tail))))))); (focus (repeat (first | exact AllE.nil _ | (apply AllE.cons; (focus (first | exact ent_nilBy | exact ent_nilSl | (apply Ent.mem; repeat' (first | exact mcs | apply mct)))))))))
      · rw [if_neg hm] at ht
        have hz2 : zs P8 r = (r <<< 1) := by rw [zs, if_neg hm, BitVec.xor_zero]
        repeat (first | refine n1 ?_ | refine n2 (fun b _ => ?_) | refine n3 (fun _ _ => ?_) | refine n4 ?_ | refine n5 ?_ | refine WL_nil ?_ | refine W_seq ?_ | refine W_region ?_ | refine n7 ?_ | refine n8 ?_ | refine W_block ?_ | refine W_skip ?_ | refine W_ret ?_ | refine W_exit ?_ | refine WQ_then ?_ | refine WQ_then_ret ?_ | refine WQ_then_exit ?_ | refine WQ_block_normal ?_ | refine WQ_block_ret ?_ | refine WQ_block_exit ?_ | refine n9 ?_)
        refine WL_runs rfl rfl rfl (R_and rfl rfl ht) ?_
        repeat (first | refine n1 ?_ | refine n2 (fun b _ => ?_) | refine n3 (fun _ _ => ?_) | refine n4 ?_ | refine n5 ?_ | refine WL_nil ?_ | refine W_seq ?_ | refine W_region ?_ | refine n7 ?_ | refine n8 ?_ | refine W_block ?_ | refine W_skip ?_ | refine W_ret ?_ | refine W_exit ?_ | refine WQ_then ?_ | refine WQ_then_ret ?_ | refine WQ_then_exit ?_ | refine WQ_block_normal ?_ | refine WQ_block_ret ?_ | refine WQ_block_exit ?_ | refine n9 ?_)
        refine WL_runs rfl rfl rfl (R_shl rfl rfl (by decide) (shl8 r)) ?_
        repeat (first | refine n1 ?_ | refine n2 (fun b _ => ?_) | refine n3 (fun _ _ => ?_) | refine n4 ?_ | refine n5 ?_ | refine WL_nil ?_ | refine W_seq ?_ | refine W_region ?_ | refine n7 ?_ | refine n8 ?_ | refine W_block ?_ | refine W_skip ?_ | refine W_ret ?_ | refine W_exit ?_ | refine WQ_then ?_ | refine WQ_then_ret ?_ | refine WQ_then_exit ?_ | refine WQ_block_normal ?_ | refine WQ_block_ret ?_ | refine WQ_block_exit ?_ | refine n9 ?_)
        ((apply WQ_again ((n + 1, r <<< 1))); (focus exact ⟨h8, by rw [hz, hz2]⟩); (focus (omega)); (focus (repeat (first | exact FrIn.nil _ | (apply FrIn.cons; exact rfl; (first | exact rfl | (congr 1; first | omega | (dsimp only; omega)) | (simp; done)))))); (focus (repeat (first | exact SubO.nil _ | (apply SubO.cons; (focus (repeat' (first | exact Pick.head _ _ | apply Pick.tail))))))); (focus (repeat (first | exact AllE.nil _ | (apply AllE.cons; (focus (first | exact ent_nilBy | exact ent_nilSl | (apply Ent.mem; repeat' (first | exact mcs | apply mct)))))))))
    · obtain rfl : n = 8 := by omega
      replace hr : r = tb8 i := by rw [hr, tb8]
      subst hr
      repeat (first | refine n1 ?_ | refine n2 (fun b _ => ?_) | refine n3 (fun _ _ => ?_) | refine n4 ?_ | refine n5 ?_ | refine WL_nil ?_ | refine W_seq ?_ | refine W_region ?_ | refine n7 ?_ | refine n8 ?_ | refine W_block ?_ | refine W_skip ?_ | refine W_ret ?_ | refine W_exit ?_ | refine WQ_then ?_ | refine WQ_then_ret ?_ | refine WQ_then_exit ?_ | refine WQ_block_normal ?_ | refine WQ_block_ret ?_ | refine WQ_block_exit ?_ | refine n9 ?_)
      refine WL_do rfl rfl (E_storeAt rfl rfl (by repeat' (first | exact Pick.head _ _ | apply Pick.tail)) rfl (by intro _; exact rfl) (by rw [tc8_length]; exact h)) ?_
      intro _ _
      rw [tc8_set i h]
      repeat (first | refine n1 ?_ | refine n2 (fun b _ => ?_) | refine n3 (fun _ _ => ?_) | refine n4 ?_ | refine n5 ?_ | refine WL_nil ?_ | refine W_seq ?_ | refine W_region ?_ | refine n7 ?_ | refine n8 ?_ | refine W_block ?_ | refine W_skip ?_ | refine W_ret ?_ | refine W_exit ?_ | refine WQ_then ?_ | refine WQ_then_ret ?_ | refine WQ_then_exit ?_ | refine WQ_block_normal ?_ | refine WQ_block_ret ?_ | refine WQ_block_exit ?_ | refine n9 ?_)
      ((apply WQ_again (i + 1)); (focus exact h); (focus (omega)); (focus (repeat (first | exact FrIn.nil _ | (apply FrIn.cons; exact rfl; (first | exact rfl | (congr 1; first | omega | (dsimp only; omega)) | (simp; done)))))); (focus (repeat (first | exact SubO.nil _ | (apply SubO.cons; (focus (repeat' (first | exact Pick.head _ _ | apply Pick.tail))))))); (focus (repeat (first | exact AllE.nil _ | (apply AllE.cons; (focus (first | exact ent_nilBy | exact ent_nilSl | (apply Ent.mem; repeat' (first | exact mcs | apply mct)))))))))
  · obtain rfl : x = 256 := by omega
    repeat (first | refine n1 ?_ | refine n2 (fun b _ => ?_) | refine n3 (fun _ _ => ?_) | refine n4 ?_ | refine n5 ?_ | refine WL_nil ?_ | refine W_seq ?_ | refine W_region ?_ | refine n7 ?_ | refine n8 ?_ | refine W_block ?_ | refine W_skip ?_ | refine W_ret ?_ | refine W_exit ?_ | refine WQ_then ?_ | refine WQ_then_ret ?_ | refine WQ_then_exit ?_ | refine WQ_block_normal ?_ | refine WQ_block_ret ?_ | refine WQ_block_exit ?_ | refine n9 ?_)
    refine WL_runs rfl rfl rfl (R_loadN rfl (by repeat' (first | exact Pick.head _ _ | apply Pick.tail)) (by intro _; exact rfl) (by intro _; exact rfl) (takeN_full (tc8_length 256))) ?_
    refine WL_do rfl rfl (E_storeAll (us := tc8 256) rfl rfl (by repeat' (first | exact Pick.head _ _ | apply Pick.tail)) (tc8_one 256) (by intro _; rw [tc8_length]; exact rfl) rfl) ?_
    intro _ _
    repeat (first | refine n1 ?_ | refine n2 (fun b _ => ?_) | refine n3 (fun _ _ => ?_) | refine n4 ?_ | refine n5 ?_ | refine WL_nil ?_ | refine W_seq ?_ | refine W_region ?_ | refine n7 ?_ | refine n8 ?_ | refine W_block ?_ | refine W_skip ?_ | refine W_ret ?_ | refine W_exit ?_ | refine WQ_then ?_ | refine WQ_then_ret ?_ | refine WQ_then_exit ?_ | refine WQ_block_normal ?_ | refine WQ_block_ret ?_ | refine WQ_block_exit ?_ | refine n9 ?_)
    refine ret1 Try.results30 () trivial (RV_cellN rfl (by repeat' (first | exact Pick.head _ _ | apply Pick.tail)) (by intro _; exact rfl) (by intro _; exact rfl) (takeN_full (tc8_length 256))) rfl (by (repeat (first | exact SubO.nil _ | (apply SubO.cons; (focus (repeat' (first | exact Pick.head _ _ | apply Pick.tail))))))) (by (repeat (first | exact AllE.nil _ | (apply AllE.cons; (focus (first | exact ent_nilBy | exact ent_nilSl | (apply Ent.mem; repeat' (first | exact mcs | apply mct))))))))
end Go.Proofs.Ytdhbgolbfkejcaa
