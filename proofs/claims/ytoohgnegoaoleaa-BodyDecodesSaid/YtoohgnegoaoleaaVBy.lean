/-
  Bodies of frames: the reference's decoders.
-/
import Derived.Test.YtoohgnegoaoleaaVBv
namespace Go.Proofs.Ytoohgnegoaoleaa
open Go Go.RowKit Go.Hs
theorem e8_num (xs : List UInt8) (k : Nat) (h : k + 8 ≤ xs.length) : C01.tkE xs.length (k : Int) 8 = 0 ∧ C01.leN (C01.tkB xs (k : Int) 8) = e8 xs k := by
  have e : C01.tkE xs.length (k : Int) 8 = 0 := by
    unfold C01.tkE
    rw [if_neg (by omega), if_neg (by omega), if_neg (by omega)]
  refine ⟨e, ?_⟩
  unfold C01.tkB e8
  rw [if_pos e]
  rfl
attribute [local irreducible] WL W WQ PL Runs Effs AllE Ent SubO FrIn Pick OneC Ones CellsE PartsE SeqE UZ By Sl Pt Ct

set_option maxRecDepth 100000 in
set_option maxHeartbeats 8000000 in
theorem rfront_fn (v : Value) (xs : List UInt8) (n : Nat) : CtD Try.prog 64 [v, .int .i64 (n : Int)] [By v xs] (.int .i64 (frE xs.length n)) := by
  unfold frE
  by_cases c1 : 2304 < xs.length
  · rw [if_pos c1]
    refine Ct_intro Try.func64 rfl Try.ntmps64 (by simp) _ rfl (fun w0 O0 => ?_)
    repeat (first | refine n1 ?_ | refine n2 (fun b _ => ?_) | refine n3 (fun _ _ => ?_) | refine n4 ?_ | refine n5 ?_ | refine WL_nil ?_ | refine W_seq ?_ | refine W_region ?_ | refine n7 ?_ | refine n8 ?_ | refine W_block ?_ | refine W_skip ?_ | refine W_ret ?_ | refine W_exit ?_ | refine WQ_then ?_ | refine WQ_then_ret ?_ | refine WQ_then_exit ?_ | refine WQ_block_normal ?_ | refine WQ_block_ret ?_ | refine WQ_block_exit ?_ | refine n9 ?_)
    ((apply ret1 Try.results64 ( ())); (focus (first | trivial | assumption | omega)); (focus (first | exact RV_tmp rfl | (apply RV_cellN; exact rfl; (repeat' (first | exact Pick.head _ _ | apply Pick.tail)); (intro _; exact rfl); (intro _; exact rfl); exact rfl) | (apply RV_cell1; exact rfl; (repeat' (first | exact Pick.head _ _ | apply Pick.tail)); (intro _; exact rfl); exact rfl)));  (focus (first | exact rfl | (simp; done))); (focus (repeat (first | exact SubO.nil _ | (apply SubO.cons; (focus (repeat' (first | exact Pick.head _ _ | apply Pick.tail))))))); (focus (repeat (first | exact AllE.nil _ | (apply AllE.cons; (focus (first | exact ent_nilBy | exact ent_nilSl | (apply Ent.mem; repeat' (first | exact mcs | apply mct)))))))))
  · rw [if_neg c1]
    by_cases c2 : xs.length < n
    · rw [if_pos c2]
      refine Ct_intro Try.func64 rfl Try.ntmps64 (by simp) _ rfl (fun w0 O0 => ?_)
      repeat (first | refine n1 ?_ | refine n2 (fun b _ => ?_) | refine n3 (fun _ _ => ?_) | refine n4 ?_ | refine n5 ?_ | refine WL_nil ?_ | refine W_seq ?_ | refine W_region ?_ | refine n7 ?_ | refine n8 ?_ | refine W_block ?_ | refine W_skip ?_ | refine W_ret ?_ | refine W_exit ?_ | refine WQ_then ?_ | refine WQ_then_ret ?_ | refine WQ_then_exit ?_ | refine WQ_block_normal ?_ | refine WQ_block_ret ?_ | refine WQ_block_exit ?_ | refine n9 ?_)
      ((apply ret1 Try.results64 ( ())); (focus (first | trivial | assumption | omega)); (focus (first | exact RV_tmp rfl | (apply RV_cellN; exact rfl; (repeat' (first | exact Pick.head _ _ | apply Pick.tail)); (intro _; exact rfl); (intro _; exact rfl); exact rfl) | (apply RV_cell1; exact rfl; (repeat' (first | exact Pick.head _ _ | apply Pick.tail)); (intro _; exact rfl); exact rfl)));  (focus (first | exact rfl | (simp; done))); (focus (repeat (first | exact SubO.nil _ | (apply SubO.cons; (focus (repeat' (first | exact Pick.head _ _ | apply Pick.tail))))))); (focus (repeat (first | exact AllE.nil _ | (apply AllE.cons; (focus (first | exact ent_nilBy | exact ent_nilSl | (apply Ent.mem; repeat' (first | exact mcs | apply mct)))))))))
    · rw [if_neg c2]
      refine Ct_intro Try.func64 rfl Try.ntmps64 (by simp) _ rfl (fun w0 O0 => ?_)
      repeat (first | refine n1 ?_ | refine n2 (fun b _ => ?_) | refine n3 (fun _ _ => ?_) | refine n4 ?_ | refine n5 ?_ | refine WL_nil ?_ | refine W_seq ?_ | refine W_region ?_ | refine n7 ?_ | refine n8 ?_ | refine W_block ?_ | refine W_skip ?_ | refine W_ret ?_ | refine W_exit ?_ | refine WQ_then ?_ | refine WQ_then_ret ?_ | refine WQ_then_exit ?_ | refine WQ_block_normal ?_ | refine WQ_block_ret ?_ | refine WQ_block_exit ?_ | refine n9 ?_)
      ((apply ret1 Try.results64 ( ())); (focus (first | trivial | assumption | omega)); (focus (first | exact RV_tmp rfl | (apply RV_cellN; exact rfl; (repeat' (first | exact Pick.head _ _ | apply Pick.tail)); (intro _; exact rfl); (intro _; exact rfl); exact rfl) | (apply RV_cell1; exact rfl; (repeat' (first | exact Pick.head _ _ | apply Pick.tail)); (intro _; exact rfl); exact rfl)));  (focus (first | exact rfl | (simp; done))); (focus (repeat (first | exact SubO.nil _ | (apply SubO.cons; (focus (repeat' (first | exact Pick.head _ _ | apply Pick.tail))))))); (focus (repeat (first | exact AllE.nil _ | (apply AllE.cons; (focus (first | exact ent_nilBy | exact ent_nilSl | (apply Ent.mem; repeat' (first | exact mcs | apply mct)))))))))

set_option maxRecDepth 100000 in
set_option maxHeartbeats 8000000 in
theorem rtw_fn (v : Value) (ys : List UInt8) (k : Nat) (hk : k + 2 ≤ ys.length) (hl : ys.length ≤ 1000000) : CtD Try.prog 67 [v, .int .i64 (k : Int)] [By v ys] (.int .i64 (twA ys k : Int)) := by
  have h1 := (ys.getD k 0).toNat_lt
  have h2 := (ys.getD (k + 1) 0).toNat_lt
  unfold twA
  refine Ct_intro Try.func67 rfl Try.ntmps67 (by simp) _ rfl (fun w0 O0 => ?_)
  repeat (first | refine n1 ?_ | refine n2 (fun b _ => ?_) | refine n3 (fun _ _ => ?_) | refine n4 ?_ | refine n5 ?_ | refine WL_nil ?_ | refine W_seq ?_ | refine W_region ?_ | refine n7 ?_ | refine n8 ?_ | refine W_block ?_ | refine W_skip ?_ | refine W_ret ?_ | refine W_exit ?_ | refine WQ_then ?_ | refine WQ_then_ret ?_ | refine WQ_then_exit ?_ | refine WQ_block_normal ?_ | refine WQ_block_ret ?_ | refine WQ_block_exit ?_ | refine n9 ?_)
  (refine W_regionP' [] [] [0, 1, 2, 3, 4, 5, 6, 7, 8, 9, 10, 11, 12, 13] [] (by kernel_rfl) (by kernel_rfl) (by repeat (first | exact UZ.nil _ _ | (apply UZ.cons; exact rfl; (intro _; exact rfl)))) (by exact rfl) (by (repeat (first | exact SubO.nil _ | (apply SubO.cons; (focus (repeat' (first | exact Pick.head _ _ | apply Pick.tail))))))) ?_)
  repeat (first | refine p1 ?_ | refine p2 (fun b _ => ?_) | refine p3 (fun _ _ => ?_) | refine p4 ?_ | refine p5 ?_ | refine p7 (fun b => ?_) | refine PL_nil ?_)
  have e1 : ∀ b : UInt8, IntKind.i64.wrap (b.toNat : Int) = (b.toNat : Int) := fun b => wx_i64 (by have := b.toNat_lt; omega)
  have e2 : ∀ b : UInt8, IntKind.i64.wrap (256 * (b.toNat : Int)) = 256 * (b.toNat : Int) := fun b => wx_i64 (by have := b.toNat_lt; omega)
  have e3 : ∀ a b : UInt8, IntKind.i64.wrap ((a.toNat : Int) + 256 * (b.toNat : Int)) = (((a.toNat + 256 * b.toNat : Nat)) : Int) := fun a b => by
    rw [wx_i64 (by have := b.toNat_lt; have := a.toNat_lt; omega)]
    omega
  simp only [e1, e2, e3]
  repeat (first | refine n1 ?_ | refine n2 (fun b _ => ?_) | refine n3 (fun _ _ => ?_) | refine n4 ?_ | refine n5 ?_ | refine WL_nil ?_ | refine W_seq ?_ | refine W_region ?_ | refine n7 ?_ | refine n8 ?_ | refine W_block ?_ | refine W_skip ?_ | refine W_ret ?_ | refine W_exit ?_ | refine WQ_then ?_ | refine WQ_then_ret ?_ | refine WQ_then_exit ?_ | refine WQ_block_normal ?_ | refine WQ_block_ret ?_ | refine WQ_block_exit ?_ | refine n9 ?_)
  ((apply ret1 Try.results67 ( ())); (focus (first | trivial | assumption | omega)); (focus (first | exact RV_tmp rfl | (apply RV_cellN; exact rfl; (repeat' (first | exact Pick.head _ _ | apply Pick.tail)); (intro _; exact rfl); (intro _; exact rfl); exact rfl) | (apply RV_cell1; exact rfl; (repeat' (first | exact Pick.head _ _ | apply Pick.tail)); (intro _; exact rfl); exact rfl)));  (focus (first | exact rfl | (simp; done))); (focus (repeat (first | exact SubO.nil _ | (apply SubO.cons; (focus (repeat' (first | exact Pick.head _ _ | apply Pick.tail))))))); (focus (repeat (first | exact AllE.nil _ | (apply AllE.cons; (focus (first | exact ent_nilBy | exact ent_nilSl | (apply Ent.mem; repeat' (first | exact mcs | apply mct)))))))))

set_option maxRecDepth 100000 in
set_option maxHeartbeats 8000000 in
theorem rdReason_fn (dv : Value) (xs : List UInt8) (hx : xs.length ≤ 1000000) : Ct Try.prog 38 [dv] [] [By dv xs]
    (X := Value × T) (fun x => x.2.er = drF xs 2) (fun x => .tuple #[.agg #[.int .u16 (z0 (drE xs 2) (twA xs 0) : Int), x.1], .int .i64 (drE xs 2)]) (fun _ => []) (fun x => [Rw 4 x.1 x.2.len x.2.at_, x.2.tf]) := by
  have hf := rfront_fn dv xs 2
  rw [show ((2 : Nat) : Int) = 2 from rfl] at hf
  by_cases c0 : frE xs.length 2 = 0
  · obtain ⟨l1, l2⟩ := frE_0 c0
    rw [c0] at hf
    have p0_ := rtw_fn dv xs 0 (by omega) hx
    rw [show ((0 : Nat) : Int) = 0 from rfl] at p0_
    have b0_ := twA_lt xs 0
    have hdc := fun v => C04.rdecode_fn v (xs.drop 2) (by rw [List.length_drop]; omega)
    have hcut := take_rest xs 2
    refine Ct_intro Try.func38 rfl Try.ntmps38 (by simp) _ rfl (fun w0 O0 => ?_)
    repeat (first | refine n1 ?_ | refine n2 (fun b _ => ?_) | refine n3 (fun _ _ => ?_) | refine n4 ?_ | refine n5 ?_ | refine n6 (hf) ?_ | refine n6 (p0_) ?_ | refine n6v (hf) ?_ | refine n6v (p0_) ?_ | refine WL_nil ?_ | refine W_seq ?_ | refine W_region ?_ | refine n7 ?_ | refine n8 ?_ | refine W_block ?_ | refine W_skip ?_ | refine W_ret ?_ | refine W_exit ?_ | refine WQ_then ?_ | refine WQ_then_ret ?_ | refine WQ_then_exit ?_ | refine WQ_block_normal ?_ | refine WQ_block_ret ?_ | refine WQ_block_exit ?_ | refine n9 ?_)
    rw [hcut]
    (apply WL_effs; exact rfl; exact rfl; exact rfl; apply E_call; exact rfl; (intro _ _; simp); exact hdc _; (repeat (first | exact AllE.nil _ | (apply AllE.cons; (focus (first | exact ent_nilBy | exact ent_nilSl | (apply Ent.mem; repeat' (first | exact mcs | apply mct))))))); (intro _; exact rfl); (intro _; exact rfl))
    rintro ⟨o, t, f⟩ ⟨m, hq⟩
    replace hq : C04.dec (xs.drop 2).length (xs.drop 2) 1 0 = (t.er, m, f) := hq
    dsimp only
    have h1 : t.er = dlF (xs.drop 2) := by unfold dlF; rw [hq]
    have hE : drE xs 2 = f := by unfold drE dlE; rw [if_pos c0, hq]
    by_cases hf0 : f = 0
    · subst hf0
      have ht : t.er = drF xs 2 := by rw [h1]; exact (if_pos hE).symm
      simp only [hE, z0_ok rfl]
      repeat (first | refine n1 ?_ | refine n2 (fun b _ => ?_) | refine n3 (fun _ _ => ?_) | refine n4 ?_ | refine n5 ?_ | refine n6 (hf) ?_ | refine n6 (p0_) ?_ | refine n6v (hf) ?_ | refine n6v (p0_) ?_ | refine WL_nil ?_ | refine W_seq ?_ | refine W_region ?_ | refine n7 ?_ | refine n8 ?_ | refine W_block ?_ | refine W_skip ?_ | refine W_ret ?_ | refine W_exit ?_ | refine WQ_then ?_ | refine WQ_then_ret ?_ | refine WQ_then_exit ?_ | refine WQ_block_normal ?_ | refine WQ_block_ret ?_ | refine WQ_block_exit ?_ | refine n9 ?_)
      ((apply ret2 Try.results38 ( (o, t))); (focus (first | trivial | assumption | omega)); (focus (first | exact RV_tmp rfl | (apply RV_cellN; exact rfl; (repeat' (first | exact Pick.head _ _ | apply Pick.tail)); (intro _; exact rfl); (intro _; exact rfl); exact rfl) | (apply RV_cell1; exact rfl; (repeat' (first | exact Pick.head _ _ | apply Pick.tail)); (intro _; exact rfl); exact rfl))); (focus (first | exact RV_tmp rfl | (apply RV_cellN; exact rfl; (repeat' (first | exact Pick.head _ _ | apply Pick.tail)); (intro _; exact rfl); (intro _; exact rfl); exact rfl) | (apply RV_cell1; exact rfl; (repeat' (first | exact Pick.head _ _ | apply Pick.tail)); (intro _; exact rfl); exact rfl)));  (focus (first | exact rfl | (simp; done))); (focus (repeat (first | exact SubO.nil _ | (apply SubO.cons; (focus (repeat' (first | exact Pick.head _ _ | apply Pick.tail))))))); (focus (repeat (first | exact AllE.nil _ | (apply AllE.cons; (focus (first | exact ent_nilBy | exact ent_nilSl | (apply Ent.mem; repeat' (first | exact mcs | apply mct)))))))))
    · have hE0 : ¬ drE xs 2 = 0 := by rw [hE]; exact hf0
      have hn : T.er T.nil = drF xs 2 := (if_neg hE0).symm
      simp only [z0_bad hE0]
      rw [hE]
      repeat (first | refine n1 ?_ | refine n2 (fun b _ => ?_) | refine n3 (fun _ _ => ?_) | refine n4 ?_ | refine n5 ?_ | refine WL_nil ?_ | refine W_seq ?_ | refine W_region ?_ | refine n7 ?_ | refine n8 ?_ | refine W_block ?_ | refine W_skip ?_ | refine W_ret ?_ | refine W_exit ?_ | refine WQ_then ?_ | refine WQ_then_ret ?_ | refine WQ_then_exit ?_ | refine WQ_block_normal ?_ | refine WQ_block_ret ?_ | refine WQ_block_exit ?_ | refine n9 ?_)
      apply C04.WQ_none2
      ((apply ret2 Try.results38 ( (Value.slice none 0 0, T.nil))); (focus (first | trivial | assumption | omega)); (focus (first | exact RV_tmp rfl | (apply RV_cellN; exact rfl; (repeat' (first | exact Pick.head _ _ | apply Pick.tail)); (intro _; exact rfl); (intro _; exact rfl); exact rfl) | (apply RV_cell1; exact rfl; (repeat' (first | exact Pick.head _ _ | apply Pick.tail)); (intro _; exact rfl); exact rfl))); (focus (first | exact RV_tmp rfl | (apply RV_cellN; exact rfl; (repeat' (first | exact Pick.head _ _ | apply Pick.tail)); (intro _; exact rfl); (intro _; exact rfl); exact rfl) | (apply RV_cell1; exact rfl; (repeat' (first | exact Pick.head _ _ | apply Pick.tail)); (intro _; exact rfl); exact rfl)));  (focus (first | exact rfl | (simp; done))); (focus (repeat (first | exact SubO.nil _ | (apply SubO.cons; (focus (repeat' (first | exact Pick.head _ _ | apply Pick.tail))))))); (focus (repeat (first | exact AllE.nil _ | (apply AllE.cons; (focus (first | exact ent_nilBy | exact ent_nilSl | (apply Ent.mem; repeat' (first | exact mcs | apply mct)))))))))
  · have hE : drE xs 2 = frE xs.length 2 := if_neg c0
    have hE0 : ¬ drE xs 2 = 0 := by rw [hE]; exact c0
    have hn : T.er T.nil = drF xs 2 := (if_neg hE0).symm
    simp only [z0_bad hE0]
    rw [hE]
    generalize frE xs.length 2 = e at *
    refine Ct_intro Try.func38 rfl Try.ntmps38 (by simp) _ rfl (fun w0 O0 => ?_)
    repeat (first | refine n1 ?_ | refine n2 (fun b _ => ?_) | refine n3 (fun _ _ => ?_) | refine n4 ?_ | refine n5 ?_ | refine n6 (hf) ?_ | refine n6v (hf) ?_ | refine WL_nil ?_ | refine W_seq ?_ | refine W_region ?_ | refine n7 ?_ | refine n8 ?_ | refine W_block ?_ | refine W_skip ?_ | refine W_ret ?_ | refine W_exit ?_ | refine WQ_then ?_ | refine WQ_then_ret ?_ | refine WQ_then_exit ?_ | refine WQ_block_normal ?_ | refine WQ_block_ret ?_ | refine WQ_block_exit ?_ | refine n9 ?_)
    apply C04.WQ_none2
    ((apply ret2 Try.results38 ( (Value.slice none 0 0, T.nil))); (focus (first | trivial | assumption | omega)); (focus (first | exact RV_tmp rfl | (apply RV_cellN; exact rfl; (repeat' (first | exact Pick.head _ _ | apply Pick.tail)); (intro _; exact rfl); (intro _; exact rfl); exact rfl) | (apply RV_cell1; exact rfl; (repeat' (first | exact Pick.head _ _ | apply Pick.tail)); (intro _; exact rfl); exact rfl))); (focus (first | exact RV_tmp rfl | (apply RV_cellN; exact rfl; (repeat' (first | exact Pick.head _ _ | apply Pick.tail)); (intro _; exact rfl); (intro _; exact rfl); exact rfl) | (apply RV_cell1; exact rfl; (repeat' (first | exact Pick.head _ _ | apply Pick.tail)); (intro _; exact rfl); exact rfl)));  (focus (first | exact rfl | (simp; done))); (focus (repeat (first | exact SubO.nil _ | (apply SubO.cons; (focus (repeat' (first | exact Pick.head _ _ | apply Pick.tail))))))); (focus (repeat (first | exact AllE.nil _ | (apply AllE.cons; (focus (first | exact ent_nilBy | exact ent_nilSl | (apply Ent.mem; repeat' (first | exact mcs | apply mct)))))))))

set_option maxRecDepth 100000 in
set_option maxHeartbeats 8000000 in
theorem rdAuth_fn (dv : Value) (xs : List UInt8) (hx : xs.length ≤ 1000000) : Ct Try.prog 32 [dv] [] [By dv xs]
    (X := Value × T) (fun x => x.2.er = drF xs 6) (fun x => .tuple #[.agg #[.int .u16 (z0 (drE xs 6) (twA xs 0) : Int), .int .u16 (z0 (drE xs 6) (twA xs 2) : Int), .int .u16 (z0 (drE xs 6) (twA xs 4) : Int), x.1], .int .i64 (drE xs 6)]) (fun _ => []) (fun x => [Rw 4 x.1 x.2.len x.2.at_, x.2.tf]) := by
  have hf := rfront_fn dv xs 6
  rw [show ((6 : Nat) : Int) = 6 from rfl] at hf
  by_cases c0 : frE xs.length 6 = 0
  · obtain ⟨l1, l2⟩ := frE_0 c0
    rw [c0] at hf
    have p0_ := rtw_fn dv xs 0 (by omega) hx
    rw [show ((0 : Nat) : Int) = 0 from rfl] at p0_
    have b0_ := twA_lt xs 0
    have p2_ := rtw_fn dv xs 2 (by omega) hx
    rw [show ((2 : Nat) : Int) = 2 from rfl] at p2_
    have b2_ := twA_lt xs 2
    have p4_ := rtw_fn dv xs 4 (by omega) hx
    rw [show ((4 : Nat) : Int) = 4 from rfl] at p4_
    have b4_ := twA_lt xs 4
    have hdc := fun v => C04.rdecode_fn v (xs.drop 6) (by rw [List.length_drop]; omega)
    have hcut := take_rest xs 6
    refine Ct_intro Try.func32 rfl Try.ntmps32 (by simp) _ rfl (fun w0 O0 => ?_)
    repeat (first | refine n1 ?_ | refine n2 (fun b _ => ?_) | refine n3 (fun _ _ => ?_) | refine n4 ?_ | refine n5 ?_ | refine n6 (hf) ?_ | refine n6 (p0_) ?_ | refine n6 (p2_) ?_ | refine n6 (p4_) ?_ | refine n6v (hf) ?_ | refine n6v (p0_) ?_ | refine n6v (p2_) ?_ | refine n6v (p4_) ?_ | refine WL_nil ?_ | refine W_seq ?_ | refine W_region ?_ | refine n7 ?_ | refine n8 ?_ | refine W_block ?_ | refine W_skip ?_ | refine W_ret ?_ | refine W_exit ?_ | refine WQ_then ?_ | refine WQ_then_ret ?_ | refine WQ_then_exit ?_ | refine WQ_block_normal ?_ | refine WQ_block_ret ?_ | refine WQ_block_exit ?_ | refine n9 ?_)
    rw [hcut]
    (apply WL_effs; exact rfl; exact rfl; exact rfl; apply E_call; exact rfl; (intro _ _; simp); exact hdc _; (repeat (first | exact AllE.nil _ | (apply AllE.cons; (focus (first | exact ent_nilBy | exact ent_nilSl | (apply Ent.mem; repeat' (first | exact mcs | apply mct))))))); (intro _; exact rfl); (intro _; exact rfl))
    rintro ⟨o, t, f⟩ ⟨m, hq⟩
    replace hq : C04.dec (xs.drop 6).length (xs.drop 6) 1 0 = (t.er, m, f) := hq
    dsimp only
    have h1 : t.er = dlF (xs.drop 6) := by unfold dlF; rw [hq]
    have hE : drE xs 6 = f := by unfold drE dlE; rw [if_pos c0, hq]
    by_cases hf0 : f = 0
    · subst hf0
      have ht : t.er = drF xs 6 := by rw [h1]; exact (if_pos hE).symm
      simp only [hE, z0_ok rfl]
      repeat (first | refine n1 ?_ | refine n2 (fun b _ => ?_) | refine n3 (fun _ _ => ?_) | refine n4 ?_ | refine n5 ?_ | refine n6 (hf) ?_ | refine n6 (p0_) ?_ | refine n6 (p2_) ?_ | refine n6 (p4_) ?_ | refine n6v (hf) ?_ | refine n6v (p0_) ?_ | refine n6v (p2_) ?_ | refine n6v (p4_) ?_ | refine WL_nil ?_ | refine W_seq ?_ | refine W_region ?_ | refine n7 ?_ | refine n8 ?_ | refine W_block ?_ | refine W_skip ?_ | refine W_ret ?_ | refine W_exit ?_ | refine WQ_then ?_ | refine WQ_then_ret ?_ | refine WQ_then_exit ?_ | refine WQ_block_normal ?_ | refine WQ_block_ret ?_ | refine WQ_block_exit ?_ | refine n9 ?_)
      ((apply ret2 Try.results32 ( (o, t))); (focus (first | trivial | assumption | omega)); (focus (first | exact RV_tmp rfl | (apply RV_cellN; exact rfl; (repeat' (first | exact Pick.head _ _ | apply Pick.tail)); (intro _; exact rfl); (intro _; exact rfl); exact rfl) | (apply RV_cell1; exact rfl; (repeat' (first | exact Pick.head _ _ | apply Pick.tail)); (intro _; exact rfl); exact rfl))); (focus (first | exact RV_tmp rfl | (apply RV_cellN; exact rfl; (repeat' (first | exact Pick.head _ _ | apply Pick.tail)); (intro _; exact rfl); (intro _; exact rfl); exact rfl) | (apply RV_cell1; exact rfl; (repeat' (first | exact Pick.head _ _ | apply Pick.tail)); (intro _; exact rfl); exact rfl)));  (focus (first | exact rfl | (simp; done))); (focus (repeat (first | exact SubO.nil _ | (apply SubO.cons; (focus (repeat' (first | exact Pick.head _ _ | apply Pick.tail))))))); (focus (repeat (first | exact AllE.nil _ | (apply AllE.cons; (focus (first | exact ent_nilBy | exact ent_nilSl | (apply Ent.mem; repeat' (first | exact mcs | apply mct)))))))))
    · have hE0 : ¬ drE xs 6 = 0 := by rw [hE]; exact hf0
      have hn : T.er T.nil = drF xs 6 := (if_neg hE0).symm
      simp only [z0_bad hE0]
      rw [hE]
      repeat (first | refine n1 ?_ | refine n2 (fun b _ => ?_) | refine n3 (fun _ _ => ?_) | refine n4 ?_ | refine n5 ?_ | refine WL_nil ?_ | refine W_seq ?_ | refine W_region ?_ | refine n7 ?_ | refine n8 ?_ | refine W_block ?_ | refine W_skip ?_ | refine W_ret ?_ | refine W_exit ?_ | refine WQ_then ?_ | refine WQ_then_ret ?_ | refine WQ_then_exit ?_ | refine WQ_block_normal ?_ | refine WQ_block_ret ?_ | refine WQ_block_exit ?_ | refine n9 ?_)
      apply C04.WQ_none2
      ((apply ret2 Try.results32 ( (Value.slice none 0 0, T.nil))); (focus (first | trivial | assumption | omega)); (focus (first | exact RV_tmp rfl | (apply RV_cellN; exact rfl; (repeat' (first | exact Pick.head _ _ | apply Pick.tail)); (intro _; exact rfl); (intro _; exact rfl); exact rfl) | (apply RV_cell1; exact rfl; (repeat' (first | exact Pick.head _ _ | apply Pick.tail)); (intro _; exact rfl); exact rfl))); (focus (first | exact RV_tmp rfl | (apply RV_cellN; exact rfl; (repeat' (first | exact Pick.head _ _ | apply Pick.tail)); (intro _; exact rfl); (intro _; exact rfl); exact rfl) | (apply RV_cell1; exact rfl; (repeat' (first | exact Pick.head _ _ | apply Pick.tail)); (intro _; exact rfl); exact rfl)));  (focus (first | exact rfl | (simp; done))); (focus (repeat (first | exact SubO.nil _ | (apply SubO.cons; (focus (repeat' (first | exact Pick.head _ _ | apply Pick.tail))))))); (focus (repeat (first | exact AllE.nil _ | (apply AllE.cons; (focus (first | exact ent_nilBy | exact ent_nilSl | (apply Ent.mem; repeat' (first | exact mcs | apply mct)))))))))
  · have hE : drE xs 6 = frE xs.length 6 := if_neg c0
    have hE0 : ¬ drE xs 6 = 0 := by rw [hE]; exact c0
    have hn : T.er T.nil = drF xs 6 := (if_neg hE0).symm
    simp only [z0_bad hE0]
    rw [hE]
    generalize frE xs.length 6 = e at *
    refine Ct_intro Try.func32 rfl Try.ntmps32 (by simp) _ rfl (fun w0 O0 => ?_)
    repeat (first | refine n1 ?_ | refine n2 (fun b _ => ?_) | refine n3 (fun _ _ => ?_) | refine n4 ?_ | refine n5 ?_ | refine n6 (hf) ?_ | refine n6v (hf) ?_ | refine WL_nil ?_ | refine W_seq ?_ | refine W_region ?_ | refine n7 ?_ | refine n8 ?_ | refine W_block ?_ | refine W_skip ?_ | refine W_ret ?_ | refine W_exit ?_ | refine WQ_then ?_ | refine WQ_then_ret ?_ | refine WQ_then_exit ?_ | refine WQ_block_normal ?_ | refine WQ_block_ret ?_ | refine WQ_block_exit ?_ | refine n9 ?_)
    apply C04.WQ_none2
    ((apply ret2 Try.results32 ( (Value.slice none 0 0, T.nil))); (focus (first | trivial | assumption | omega)); (focus (first | exact RV_tmp rfl | (apply RV_cellN; exact rfl; (repeat' (first | exact Pick.head _ _ | apply Pick.tail)); (intro _; exact rfl); (intro _; exact rfl); exact rfl) | (apply RV_cell1; exact rfl; (repeat' (first | exact Pick.head _ _ | apply Pick.tail)); (intro _; exact rfl); exact rfl))); (focus (first | exact RV_tmp rfl | (apply RV_cellN; exact rfl; (repeat' (first | exact Pick.head _ _ | apply Pick.tail)); (intro _; exact rfl); (intro _; exact rfl); exact rfl) | (apply RV_cell1; exact rfl; (repeat' (first | exact Pick.head _ _ | apply Pick.tail)); (intro _; exact rfl); exact rfl)));  (focus (first | exact rfl | (simp; done))); (focus (repeat (first | exact SubO.nil _ | (apply SubO.cons; (focus (repeat' (first | exact Pick.head _ _ | apply Pick.tail))))))); (focus (repeat (first | exact AllE.nil _ | (apply AllE.cons; (focus (first | exact ent_nilBy | exact ent_nilSl | (apply Ent.mem; repeat' (first | exact mcs | apply mct)))))))))

set_option maxRecDepth 100000 in
set_option maxHeartbeats 8000000 in
theorem rdBeacon_fn (dv : Value) (xs : List UInt8) (hx : xs.length ≤ 1000000) : Ct Try.prog 30 [dv] [] [By dv xs]
    (X := Value × T) (fun x => x.2.er = drF xs 12) (fun x => .tuple #[.agg #[.int .u64 (z0 (drE xs 12) (e8 xs 0) : Int), .int .u16 (z0 (drE xs 12) (twA xs 8) : Int), .int .u16 (z0 (drE xs 12) (twA xs 10) : Int), x.1], .int .i64 (drE xs 12)]) (fun _ => []) (fun x => [Rw 4 x.1 x.2.len x.2.at_, x.2.tf]) := by
  have hf := rfront_fn dv xs 12
  rw [show ((12 : Nat) : Int) = 12 from rfl] at hf
  by_cases c0 : frE xs.length 12 = 0
  · obtain ⟨l1, l2⟩ := frE_0 c0
    rw [c0] at hf
    have p8_ := rtw_fn dv xs 8 (by omega) hx
    rw [show ((8 : Nat) : Int) = 8 from rfl] at p8_
    have b8_ := twA_lt xs 8
    have p10_ := rtw_fn dv xs 10 (by omega) hx
    rw [show ((10 : Nat) : Int) = 10 from rfl] at p10_
    have b10_ := twA_lt xs 10
    have en8 := C01.rnum_fn dv xs 0 8 (by omega) (by decide)
    obtain ⟨k1, k2⟩ := e8_num xs 0 (by omega)
    rw [show C01.tkE xs.length 0 ((8 : Nat) : Int) = 0 from k1, show C01.leN (C01.tkB xs 0 ((8 : Nat) : Int)) = e8 xs 0 from k2, show ((8 : Nat) : Int) = 8 from rfl] at en8
    have hdc := fun v => C04.rdecode_fn v (xs.drop 12) (by rw [List.length_drop]; omega)
    have hcut := take_rest xs 12
    refine Ct_intro Try.func30 rfl Try.ntmps30 (by simp) _ rfl (fun w0 O0 => ?_)
    repeat (first | refine n1 ?_ | refine n2 (fun b _ => ?_) | refine n3 (fun _ _ => ?_) | refine n4 ?_ | refine n5 ?_ | refine n6 (hf) ?_ | refine n6 (p8_) ?_ | refine n6 (p10_) ?_ | refine n6v (hf) ?_ | refine n6v (p8_) ?_ | refine n6v (p10_) ?_ | refine WL_nil ?_ | refine W_seq ?_ | refine W_region ?_ | refine n7 ?_ | refine n8 ?_ | refine W_block ?_ | refine W_skip ?_ | refine W_ret ?_ | refine W_exit ?_ | refine WQ_then ?_ | refine WQ_then_ret ?_ | refine WQ_then_exit ?_ | refine WQ_block_normal ?_ | refine WQ_block_ret ?_ | refine WQ_block_exit ?_ | refine n9 ?_)
    rw [hcut]
    (apply WL_effs; exact rfl; exact rfl; exact rfl; apply E_call; exact rfl; (intro _ _; simp); exact hdc _; (repeat (first | exact AllE.nil _ | (apply AllE.cons; (focus (first | exact ent_nilBy | exact ent_nilSl | (apply Ent.mem; repeat' (first | exact mcs | apply mct))))))); (intro _; exact rfl); (intro _; exact rfl))
    rintro ⟨o, t, f⟩ ⟨m, hq⟩
    replace hq : C04.dec (xs.drop 12).length (xs.drop 12) 1 0 = (t.er, m, f) := hq
    dsimp only
    have h1 : t.er = dlF (xs.drop 12) := by unfold dlF; rw [hq]
    have hE : drE xs 12 = f := by unfold drE dlE; rw [if_pos c0, hq]
    by_cases hf0 : f = 0
    · subst hf0
      have ht : t.er = drF xs 12 := by rw [h1]; exact (if_pos hE).symm
      simp only [hE, z0_ok rfl]
      repeat (first | refine n1 ?_ | refine n2 (fun b _ => ?_) | refine n3 (fun _ _ => ?_) | refine n4 ?_ | refine n5 ?_ | refine n6 (hf) ?_ | refine n6 (p8_) ?_ | refine n6 (p10_) ?_ | refine n6v (hf) ?_ | refine n6v (p8_) ?_ | refine n6v (p10_) ?_ | refine WL_nil ?_ | refine W_seq ?_ | refine W_region ?_ | refine n7 ?_ | refine n8 ?_ | refine W_block ?_ | refine W_skip ?_ | refine W_ret ?_ | refine W_exit ?_ | refine WQ_then ?_ | refine WQ_then_ret ?_ | refine WQ_then_exit ?_ | refine WQ_block_normal ?_ | refine WQ_block_ret ?_ | refine WQ_block_exit ?_ | refine n9 ?_)
      (apply WL_effs; exact rfl; exact rfl; exact rfl; apply E_call; exact rfl; (intro _ _; simp); exact en8; (repeat (first | exact AllE.nil _ | (apply AllE.cons; (focus (first | exact ent_nilBy | exact ent_nilSl | (apply Ent.mem; repeat' (first | exact mcs | apply mct))))))); (intro _; exact rfl); (intro _; exact rfl))
      intro r8 _
      repeat (first | refine n1 ?_ | refine n2 (fun b _ => ?_) | refine n3 (fun _ _ => ?_) | refine n4 ?_ | refine n5 ?_ | refine n6 (hf) ?_ | refine n6 (p8_) ?_ | refine n6 (p10_) ?_ | refine n6v (hf) ?_ | refine n6v (p8_) ?_ | refine n6v (p10_) ?_ | refine WL_nil ?_ | refine W_seq ?_ | refine W_region ?_ | refine n7 ?_ | refine n8 ?_ | refine W_block ?_ | refine W_skip ?_ | refine W_ret ?_ | refine W_exit ?_ | refine WQ_then ?_ | refine WQ_then_ret ?_ | refine WQ_then_exit ?_ | refine WQ_block_normal ?_ | refine WQ_block_ret ?_ | refine WQ_block_exit ?_ | refine n9 ?_)
      ((apply ret2 Try.results30 ( (o, t))); (focus (first | trivial | assumption | omega)); (focus (first | exact RV_tmp rfl | (apply RV_cellN; exact rfl; (repeat' (first | exact Pick.head _ _ | apply Pick.tail)); (intro _; exact rfl); (intro _; exact rfl); exact rfl) | (apply RV_cell1; exact rfl; (repeat' (first | exact Pick.head _ _ | apply Pick.tail)); (intro _; exact rfl); exact rfl))); (focus (first | exact RV_tmp rfl | (apply RV_cellN; exact rfl; (repeat' (first | exact Pick.head _ _ | apply Pick.tail)); (intro _; exact rfl); (intro _; exact rfl); exact rfl) | (apply RV_cell1; exact rfl; (repeat' (first | exact Pick.head _ _ | apply Pick.tail)); (intro _; exact rfl); exact rfl)));  (focus (first | exact rfl | (simp; done))); (focus (repeat (first | exact SubO.nil _ | (apply SubO.cons; (focus (repeat' (first | exact Pick.head _ _ | apply Pick.tail))))))); (focus (repeat (first | exact AllE.nil _ | (apply AllE.cons; (focus (first | exact ent_nilBy | exact ent_nilSl | (apply Ent.mem; repeat' (first | exact mcs | apply mct)))))))))
    · have hE0 : ¬ drE xs 12 = 0 := by rw [hE]; exact hf0
      have hn : T.er T.nil = drF xs 12 := (if_neg hE0).symm
      simp only [z0_bad hE0]
      rw [hE]
      repeat (first | refine n1 ?_ | refine n2 (fun b _ => ?_) | refine n3 (fun _ _ => ?_) | refine n4 ?_ | refine n5 ?_ | refine WL_nil ?_ | refine W_seq ?_ | refine W_region ?_ | refine n7 ?_ | refine n8 ?_ | refine W_block ?_ | refine W_skip ?_ | refine W_ret ?_ | refine W_exit ?_ | refine WQ_then ?_ | refine WQ_then_ret ?_ | refine WQ_then_exit ?_ | refine WQ_block_normal ?_ | refine WQ_block_ret ?_ | refine WQ_block_exit ?_ | refine n9 ?_)
      apply C04.WQ_none2
      ((apply ret2 Try.results30 ( (Value.slice none 0 0, T.nil))); (focus (first | trivial | assumption | omega)); (focus (first | exact RV_tmp rfl | (apply RV_cellN; exact rfl; (repeat' (first | exact Pick.head _ _ | apply Pick.tail)); (intro _; exact rfl); (intro _; exact rfl); exact rfl) | (apply RV_cell1; exact rfl; (repeat' (first | exact Pick.head _ _ | apply Pick.tail)); (intro _; exact rfl); exact rfl))); (focus (first | exact RV_tmp rfl | (apply RV_cellN; exact rfl; (repeat' (first | exact Pick.head _ _ | apply Pick.tail)); (intro _; exact rfl); (intro _; exact rfl); exact rfl) | (apply RV_cell1; exact rfl; (repeat' (first | exact Pick.head _ _ | apply Pick.tail)); (intro _; exact rfl); exact rfl)));  (focus (first | exact rfl | (simp; done))); (focus (repeat (first | exact SubO.nil _ | (apply SubO.cons; (focus (repeat' (first | exact Pick.head _ _ | apply Pick.tail))))))); (focus (repeat (first | exact AllE.nil _ | (apply AllE.cons; (focus (first | exact ent_nilBy | exact ent_nilSl | (apply Ent.mem; repeat' (first | exact mcs | apply mct)))))))))
  · have hE : drE xs 12 = frE xs.length 12 := if_neg c0
    have hE0 : ¬ drE xs 12 = 0 := by rw [hE]; exact c0
    have hn : T.er T.nil = drF xs 12 := (if_neg hE0).symm
    simp only [z0_bad hE0]
    rw [hE]
    generalize frE xs.length 12 = e at *
    refine Ct_intro Try.func30 rfl Try.ntmps30 (by simp) _ rfl (fun w0 O0 => ?_)
    repeat (first | refine n1 ?_ | refine n2 (fun b _ => ?_) | refine n3 (fun _ _ => ?_) | refine n4 ?_ | refine n5 ?_ | refine n6 (hf) ?_ | refine n6v (hf) ?_ | refine WL_nil ?_ | refine W_seq ?_ | refine W_region ?_ | refine n7 ?_ | refine n8 ?_ | refine W_block ?_ | refine W_skip ?_ | refine W_ret ?_ | refine W_exit ?_ | refine WQ_then ?_ | refine WQ_then_ret ?_ | refine WQ_then_exit ?_ | refine WQ_block_normal ?_ | refine WQ_block_ret ?_ | refine WQ_block_exit ?_ | refine n9 ?_)
    apply C04.WQ_none2
    ((apply ret2 Try.results30 ( (Value.slice none 0 0, T.nil))); (focus (first | trivial | assumption | omega)); (focus (first | exact RV_tmp rfl | (apply RV_cellN; exact rfl; (repeat' (first | exact Pick.head _ _ | apply Pick.tail)); (intro _; exact rfl); (intro _; exact rfl); exact rfl) | (apply RV_cell1; exact rfl; (repeat' (first | exact Pick.head _ _ | apply Pick.tail)); (intro _; exact rfl); exact rfl))); (focus (first | exact RV_tmp rfl | (apply RV_cellN; exact rfl; (repeat' (first | exact Pick.head _ _ | apply Pick.tail)); (intro _; exact rfl); (intro _; exact rfl); exact rfl) | (apply RV_cell1; exact rfl; (repeat' (first | exact Pick.head _ _ | apply Pick.tail)); (intro _; exact rfl); exact rfl)));  (focus (first | exact rfl | (simp; done))); (focus (repeat (first | exact SubO.nil _ | (apply SubO.cons; (focus (repeat' (first | exact Pick.head _ _ | apply Pick.tail))))))); (focus (repeat (first | exact AllE.nil _ | (apply AllE.cons; (focus (first | exact ent_nilBy | exact ent_nilSl | (apply Ent.mem; repeat' (first | exact mcs | apply mct)))))))))

set_option maxRecDepth 100000 in
set_option maxHeartbeats 8000000 in
theorem rdResp_fn (dv : Value) (xs : List UInt8) (hx : xs.length ≤ 1000000) : Ct Try.prog 36 [dv] [] [By dv xs]
    (X := Value × T) (fun x => x.2.er = rpF xs) (fun x => .tuple #[.agg #[.int .u16 (z0 (rpE xs) (twA xs 0) : Int), .int .u16 (z0 (rpE xs) (twA xs 2) : Int), .int .i64 (z0 (rpE xs) (twA xs 4) : Int), x.1], .int .i64 (rpE xs)]) (fun _ => []) (fun x => [Rw 4 x.1 x.2.len x.2.at_, x.2.tf]) := by
  have hf := rfront_fn dv xs 6
  rw [show ((6 : Nat) : Int) = 6 from rfl] at hf
  by_cases c0 : frE xs.length 6 = 0
  · obtain ⟨l1, l2⟩ := frE_0 c0
    rw [c0] at hf
    have p0_ := rtw_fn dv xs 0 (by omega) hx
    rw [show ((0 : Nat) : Int) = 0 from rfl] at p0_
    have b0_ := twA_lt xs 0
    have p2_ := rtw_fn dv xs 2 (by omega) hx
    rw [show ((2 : Nat) : Int) = 2 from rfl] at p2_
    have b2_ := twA_lt xs 2
    have p4_ := rtw_fn dv xs 4 (by omega) hx
    rw [show ((4 : Nat) : Int) = 4 from rfl] at p4_
    have b4_ := twA_lt xs 4
    have hdc := fun v => C04.rdecode_fn v (xs.drop 6) (by rw [List.length_drop]; omega)
    have hcut := take_rest xs 6
    by_cases c2 : 255 < twA xs 4
    · have hE : rpE xs = 12 := if_pos ⟨c0, c2⟩
      have hE0 : ¬ rpE xs = 0 := by rw [hE]; decide
      simp only [z0_bad hE0]
      rw [hE]
      refine Ct_intro Try.func36 rfl Try.ntmps36 (by simp) _ rfl (fun w0 O0 => ?_)
      repeat (first | refine n1 ?_ | refine n2 (fun b _ => ?_) | refine n3 (fun _ _ => ?_) | refine n4 ?_ | refine n5 ?_ | refine n6 (hf) ?_ | refine n6 (p0_) ?_ | refine n6 (p2_) ?_ | refine n6 (p4_) ?_ | refine n6v (hf) ?_ | refine n6v (p0_) ?_ | refine n6v (p2_) ?_ | refine n6v (p4_) ?_ | refine WL_nil ?_ | refine W_seq ?_ | refine W_region ?_ | refine n7 ?_ | refine n8 ?_ | refine W_block ?_ | refine W_skip ?_ | refine W_ret ?_ | refine W_exit ?_ | refine WQ_then ?_ | refine WQ_then_ret ?_ | refine WQ_then_exit ?_ | refine WQ_block_normal ?_ | refine WQ_block_ret ?_ | refine WQ_block_exit ?_ | refine n9 ?_)
      apply C04.WQ_none2
      have hn : T.er T.nil = rpF xs := (if_neg hE0).symm
      ((apply ret2 Try.results36 ( (Value.slice none 0 0, T.nil))); (focus (first | trivial | assumption | omega)); (focus (first | exact RV_tmp rfl | (apply RV_cellN; exact rfl; (repeat' (first | exact Pick.head _ _ | apply Pick.tail)); (intro _; exact rfl); (intro _; exact rfl); exact rfl) | (apply RV_cell1; exact rfl; (repeat' (first | exact Pick.head _ _ | apply Pick.tail)); (intro _; exact rfl); exact rfl))); (focus (first | exact RV_tmp rfl | (apply RV_cellN; exact rfl; (repeat' (first | exact Pick.head _ _ | apply Pick.tail)); (intro _; exact rfl); (intro _; exact rfl); exact rfl) | (apply RV_cell1; exact rfl; (repeat' (first | exact Pick.head _ _ | apply Pick.tail)); (intro _; exact rfl); exact rfl)));  (focus (first | exact rfl | (simp; done))); (focus (repeat (first | exact SubO.nil _ | (apply SubO.cons; (focus (repeat' (first | exact Pick.head _ _ | apply Pick.tail))))))); (focus (repeat (first | exact AllE.nil _ | (apply AllE.cons; (focus (first | exact ent_nilBy | exact ent_nilSl | (apply Ent.mem; repeat' (first | exact mcs | apply mct)))))))))
    have hR : rpE xs = drE xs 6 := if_neg (fun k => c2 k.2)
    refine Ct_intro Try.func36 rfl Try.ntmps36 (by simp) _ rfl (fun w0 O0 => ?_)
    repeat (first | refine n1 ?_ | refine n2 (fun b _ => ?_) | refine n3 (fun _ _ => ?_) | refine n4 ?_ | refine n5 ?_ | refine n6 (hf) ?_ | refine n6 (p0_) ?_ | refine n6 (p2_) ?_ | refine n6 (p4_) ?_ | refine n6v (hf) ?_ | refine n6v (p0_) ?_ | refine n6v (p2_) ?_ | refine n6v (p4_) ?_ | refine WL_nil ?_ | refine W_seq ?_ | refine W_region ?_ | refine n7 ?_ | refine n8 ?_ | refine W_block ?_ | refine W_skip ?_ | refine W_ret ?_ | refine W_exit ?_ | refine WQ_then ?_ | refine WQ_then_ret ?_ | refine WQ_then_exit ?_ | refine WQ_block_normal ?_ | refine WQ_block_ret ?_ | refine WQ_block_exit ?_ | refine n9 ?_)
    rw [hcut]
    (apply WL_effs; exact rfl; exact rfl; exact rfl; apply E_call; exact rfl; (intro _ _; simp); exact hdc _; (repeat (first | exact AllE.nil _ | (apply AllE.cons; (focus (first | exact ent_nilBy | exact ent_nilSl | (apply Ent.mem; repeat' (first | exact mcs | apply mct))))))); (intro _; exact rfl); (intro _; exact rfl))
    rintro ⟨o, t, f⟩ ⟨m, hq⟩
    replace hq : C04.dec (xs.drop 6).length (xs.drop 6) 1 0 = (t.er, m, f) := hq
    dsimp only
    have h1 : t.er = dlF (xs.drop 6) := by unfold dlF; rw [hq]
    have hE : rpE xs = f := by rw [hR]; unfold drE dlE; rw [if_pos c0, hq]
    by_cases hf0 : f = 0
    · subst hf0
      have ht : t.er = rpF xs := by rw [h1]; exact (if_pos hE).symm
      simp only [hE, z0_ok rfl]
      repeat (first | refine n1 ?_ | refine n2 (fun b _ => ?_) | refine n3 (fun _ _ => ?_) | refine n4 ?_ | refine n5 ?_ | refine n6 (hf) ?_ | refine n6 (p0_) ?_ | refine n6 (p2_) ?_ | refine n6 (p4_) ?_ | refine n6v (hf) ?_ | refine n6v (p0_) ?_ | refine n6v (p2_) ?_ | refine n6v (p4_) ?_ | refine WL_nil ?_ | refine W_seq ?_ | refine W_region ?_ | refine n7 ?_ | refine n8 ?_ | refine W_block ?_ | refine W_skip ?_ | refine W_ret ?_ | refine W_exit ?_ | refine WQ_then ?_ | refine WQ_then_ret ?_ | refine WQ_then_exit ?_ | refine WQ_block_normal ?_ | refine WQ_block_ret ?_ | refine WQ_block_exit ?_ | refine n9 ?_)
      ((apply ret2 Try.results36 ( (o, t))); (focus (first | trivial | assumption | omega)); (focus (first | exact RV_tmp rfl | (apply RV_cellN; exact rfl; (repeat' (first | exact Pick.head _ _ | apply Pick.tail)); (intro _; exact rfl); (intro _; exact rfl); exact rfl) | (apply RV_cell1; exact rfl; (repeat' (first | exact Pick.head _ _ | apply Pick.tail)); (intro _; exact rfl); exact rfl))); (focus (first | exact RV_tmp rfl | (apply RV_cellN; exact rfl; (repeat' (first | exact Pick.head _ _ | apply Pick.tail)); (intro _; exact rfl); (intro _; exact rfl); exact rfl) | (apply RV_cell1; exact rfl; (repeat' (first | exact Pick.head _ _ | apply Pick.tail)); (intro _; exact rfl); exact rfl)));  (focus (first | exact rfl | (simp; done))); (focus (repeat (first | exact SubO.nil _ | (apply SubO.cons; (focus (repeat' (first | exact Pick.head _ _ | apply Pick.tail))))))); (focus (repeat (first | exact AllE.nil _ | (apply AllE.cons; (focus (first | exact ent_nilBy | exact ent_nilSl | (apply Ent.mem; repeat' (first | exact mcs | apply mct)))))))))
    · have hE0 : ¬ rpE xs = 0 := by rw [hE]; exact hf0
      have hn : T.er T.nil = rpF xs := (if_neg hE0).symm
      simp only [z0_bad hE0]
      rw [hE]
      repeat (first | refine n1 ?_ | refine n2 (fun b _ => ?_) | refine n3 (fun _ _ => ?_) | refine n4 ?_ | refine n5 ?_ | refine WL_nil ?_ | refine W_seq ?_ | refine W_region ?_ | refine n7 ?_ | refine n8 ?_ | refine W_block ?_ | refine W_skip ?_ | refine W_ret ?_ | refine W_exit ?_ | refine WQ_then ?_ | refine WQ_then_ret ?_ | refine WQ_then_exit ?_ | refine WQ_block_normal ?_ | refine WQ_block_ret ?_ | refine WQ_block_exit ?_ | refine n9 ?_)
      apply C04.WQ_none2
      ((apply ret2 Try.results36 ( (Value.slice none 0 0, T.nil))); (focus (first | trivial | assumption | omega)); (focus (first | exact RV_tmp rfl | (apply RV_cellN; exact rfl; (repeat' (first | exact Pick.head _ _ | apply Pick.tail)); (intro _; exact rfl); (intro _; exact rfl); exact rfl) | (apply RV_cell1; exact rfl; (repeat' (first | exact Pick.head _ _ | apply Pick.tail)); (intro _; exact rfl); exact rfl))); (focus (first | exact RV_tmp rfl | (apply RV_cellN; exact rfl; (repeat' (first | exact Pick.head _ _ | apply Pick.tail)); (intro _; exact rfl); (intro _; exact rfl); exact rfl) | (apply RV_cell1; exact rfl; (repeat' (first | exact Pick.head _ _ | apply Pick.tail)); (intro _; exact rfl); exact rfl)));  (focus (first | exact rfl | (simp; done))); (focus (repeat (first | exact SubO.nil _ | (apply SubO.cons; (focus (repeat' (first | exact Pick.head _ _ | apply Pick.tail))))))); (focus (repeat (first | exact AllE.nil _ | (apply AllE.cons; (focus (first | exact ent_nilBy | exact ent_nilSl | (apply Ent.mem; repeat' (first | exact mcs | apply mct)))))))))
  · have hE : rpE xs = frE xs.length 6 := by unfold rpE; rw [if_neg (fun k => c0 k.1)]; exact if_neg c0
    have hE0 : ¬ rpE xs = 0 := by rw [hE]; exact c0
    have hn : T.er T.nil = rpF xs := (if_neg hE0).symm
    simp only [z0_bad hE0]
    rw [hE]
    generalize frE xs.length 6 = e at *
    refine Ct_intro Try.func36 rfl Try.ntmps36 (by simp) _ rfl (fun w0 O0 => ?_)
    repeat (first | refine n1 ?_ | refine n2 (fun b _ => ?_) | refine n3 (fun _ _ => ?_) | refine n4 ?_ | refine n5 ?_ | refine n6 (hf) ?_ | refine n6v (hf) ?_ | refine WL_nil ?_ | refine W_seq ?_ | refine W_region ?_ | refine n7 ?_ | refine n8 ?_ | refine W_block ?_ | refine W_skip ?_ | refine W_ret ?_ | refine W_exit ?_ | refine WQ_then ?_ | refine WQ_then_ret ?_ | refine WQ_then_exit ?_ | refine WQ_block_normal ?_ | refine WQ_block_ret ?_ | refine WQ_block_exit ?_ | refine n9 ?_)
    apply C04.WQ_none2
    ((apply ret2 Try.results36 ( (Value.slice none 0 0, T.nil))); (focus (first | trivial | assumption | omega)); (focus (first | exact RV_tmp rfl | (apply RV_cellN; exact rfl; (repeat' (first | exact Pick.head _ _ | apply Pick.tail)); (intro _; exact rfl); (intro _; exact rfl); exact rfl) | (apply RV_cell1; exact rfl; (repeat' (first | exact Pick.head _ _ | apply Pick.tail)); (intro _; exact rfl); exact rfl))); (focus (first | exact RV_tmp rfl | (apply RV_cellN; exact rfl; (repeat' (first | exact Pick.head _ _ | apply Pick.tail)); (intro _; exact rfl); (intro _; exact rfl); exact rfl) | (apply RV_cell1; exact rfl; (repeat' (first | exact Pick.head _ _ | apply Pick.tail)); (intro _; exact rfl); exact rfl)));  (focus (first | exact rfl | (simp; done))); (focus (repeat (first | exact SubO.nil _ | (apply SubO.cons; (focus (repeat' (first | exact Pick.head _ _ | apply Pick.tail))))))); (focus (repeat (first | exact AllE.nil _ | (apply AllE.cons; (focus (first | exact ent_nilBy | exact ent_nilSl | (apply Ent.mem; repeat' (first | exact mcs | apply mct)))))))))

end Go.Proofs.Ytoohgnegoaoleaa
