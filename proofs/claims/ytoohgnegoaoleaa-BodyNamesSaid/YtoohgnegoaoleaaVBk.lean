/-
  Bodies of all kinds together; the chapter's example.
-/
import Derived.Test.YtoohgnegoaoleaaVBj
import Derived.Test.YtoohgnegoaoleaaVBe
namespace Go.Proofs.Ytoohgnegoaoleaa
open Go Go.RowKit Go.Hs
structure All6 where
  bm : Nat
  bi : Nat
  bc : Nat
  bv : Value
  bt : T
  aa : Nat
  as_ : Nat
  ad : Nat
  av : Value
  at_ : T
  rc : Nat
  rl : Nat
  ro : A6
  rv : Value
  rt : T
  ag : Bool
  pc : Nat
  ps : Nat
  pa : Int
  pv : Value
  pt : T
  nc : Nat
  nv : Value
  nt : T
  c0 : UInt8
  c1 : UInt8
  c2 : UInt8
  cv : Value
  cd : List UInt8
  t0 : Int
  t1 : Int
  k0 : Int
  k1 : Int
  kb : Nat
@[reducible] def All6.bcn (x : All6) : List Value := [.int .u64 (x.bm : Int), .int .u16 (x.bi : Int), .int .u16 (x.bc : Int), x.bv]
@[reducible] def All6.acn (x : All6) : List Value := [.int .u16 (x.aa : Int), .int .u16 (x.as_ : Int), .int .u16 (x.ad : Int), x.av]
@[reducible] def All6.rcn (x : All6) : List Value := [.int .u16 (x.rc : Int), .int .u16 (x.rl : Int), bcell x.ro.a0, bcell x.ro.a1, bcell x.ro.a2, bcell x.ro.a3, bcell x.ro.a4, bcell x.ro.a5, x.rv]
@[reducible] def All6.cells (x : All6) : List Value := [.int .u64 (x.bm : Int), .int .u16 (x.bi : Int), .int .u16 (x.bc : Int), x.bv, .int .u16 (x.aa : Int), .int .u16 (x.as_ : Int), .int .u16 (x.ad : Int), x.av,
  .int .u16 (x.rc : Int), .int .u16 (x.rl : Int), bcell x.ro.a0, bcell x.ro.a1, bcell x.ro.a2, bcell x.ro.a3, bcell x.ro.a4, bcell x.ro.a5, x.rv, .bool x.ag, .int .u16 (x.pc : Int), .int .u16 (x.ps : Int), .int .i64 x.pa, x.pv,
  .int .u16 (x.nc : Int), x.nv, bcell x.c0, bcell x.c1, bcell x.c2, x.cv, .int .i64 x.t0, .int .i64 x.t1, .int .i64 x.k0, .int .i64 x.k1, .int .u64 (x.kb : Int)]
@[reducible] def All6.val (x : All6) : Value := .agg x.cells.toArray
@[reducible] def All6.facts (x : All6) : List SP := [Rw 4 x.bv x.bt.len x.bt.at_, x.bt.tf, Rw 4 x.av x.at_.len x.at_.at_, x.at_.tf, Rw 4 x.rv x.rt.len x.rt.at_, x.rt.tf, Rw 4 x.pv x.pt.len x.pt.at_, x.pt.tf, Rw 4 x.nv x.nt.len x.nt.at_, x.nt.tf, By x.cv x.cd]
/-- numbers within their types. -/
def All6.w (x : All6) : Prop := x.bm < 18446744073709551616 ∧ x.bi < 65536 ∧ x.bc < 65536 ∧ x.aa < 65536 ∧ x.as_ < 65536 ∧ x.ad < 65536 ∧ x.rc < 65536 ∧ x.rl < 65536 ∧ x.pc < 65536 ∧ x.ps < 65536 ∧ x.nc < 65536 ∧ x.kb < 18446744073709551616
def All6.sm (x : All6) : Prop := C04.Sm x.bt.er ∧ C04.Sm x.at_.er ∧ C04.Sm x.rt.er ∧ C04.Sm x.pt.er ∧ C04.Sm x.nt.er ∧ x.cd.length ≤ 2400
def zAll : All6 := ⟨0, 0, 0, .slice none 0 0, .nil, 0, 0, 0, .slice none 0 0, .nil, 0, 0, zA6, .slice none 0 0, .nil, false, 0, 0, 0, .slice none 0 0, .nil, 0, .slice none 0 0, .nil, 0, 0, 0, .slice none 0 0, [], 0, 0, 0, 0, 0⟩
def w64 (n : Int) : Prop := (Lit.int .i64 n).wf = true
theorem i64_lits {P : Program} {t : TypeId} (ht : P.underlying t = some (.int .i64)) {n : Int} (h : w64 n) (d : Nat) : P.keyLits (d + 1) t [.int .i64 n] = some [.int .i64 n] := by
  have h : (Lit.int .i64 n).wf = true := h
  simp [Program.keyLits, ht, h]
theorem u64_lits {P : Program} {t : TypeId} (ht : P.underlying t = some (.int .u64)) {n : Nat} (hn : n < 18446744073709551616) (d : Nat) : P.keyLits (d + 1) t [.int .u64 (n : Int)] = some [.int .u64 (n : Int)] := by
  have h : (Lit.int .u64 (n : Int)).wf = true := by
    simp [Lit.wf, IntKind.min, IntKind.max, IntKind.signed, IntKind.bits] <;> omega
  simp [Program.keyLits, ht, h]
theorem back_lits (a b : Int) (n : Nat) (ha : w64 a) (hb : w64 b) (hn : n < 18446744073709551616) : Try.prog.keyLits 3 43 [.int .i64 a, .int .i64 b, .int .u64 (n : Int)] = some [.int .i64 a, .int .i64 b, .int .u64 (n : Int)] := by
  have hc : Try.prog.cellsOf 43 = 3 := by kernel_rfl
  have hi : Try.prog.cellsOf 3 = 1 := by kernel_rfl
  have hu : Try.prog.cellsOf 22 = 1 := by kernel_rfl
  have e2 := fun n (h : w64 n) => i64_lits (P := Try.prog) Try.underlying3 h 1
  have e3 := u64_lits (P := Try.prog) Try.underlying22 hn 1
  rw [show (3 : Nat) = 2 + 1 from rfl]
  unfold Program.keyLits
  rw [Try.underlying43]
  simp [hc, hi, hu, e2 _ ha, e2 _ hb, e3]
theorem back_eq (a b c d : Int) (n m : Nat) : ([Lit.int .i64 a, .int .i64 b, .int .u64 (n : Int)] = [Lit.int .i64 c, .int .i64 d, .int .u64 (m : Int)]) ↔ (a = c ∧ b = d ∧ n = m) := by
  simp
  intros
  omega
theorem w64_5 : w64 5 := by unfold w64; decide
theorem w64_3 : w64 3 := by unfold w64; decide
theorem sm_nil : C04.Sm .nil := ⟨Nat.zero_le _, Nat.zero_le _, Nat.zero_le _⟩
attribute [local irreducible] WL W WQ PL Runs Effs AllE Ent SubO FrIn Pick OneC Ones CellsE PartsE SeqE UZ By Sl Pt Ct

set_option maxRecDepth 100000 in
set_option maxHeartbeats 8000000 in
theorem alive_fn : CtD Try.prog 28 [] [] (.bool true) := by
  have h1 := eReason_fn 7 (by decide) (.slice none 0 0) .nil sm_nil
  rw [show fiE (fxReason 7) T.nil.er = 0 by decide +kernel, show fiY (fxReason 7) T.nil.er = [7, 0] by decide +kernel] at h1
  have h2 := eBack_fn 5 3 1 (by decide)
  rw [show stE 5 3 = 0 by decide +kernel, show bkY 5 3 1 = [53, 0, 1, 0, 0, 0, 0, 0, 0, 0] by decide +kernel] at h2
  have h3 := fun v => dBack_fn v [53, 0, 1, 0, 0, 0, 0, 0, 0, 0] (by decide)
  rw [show bgE [53, 0, 1, 0, 0, 0, 0, 0, 0, 0] 10 = 0 by decide +kernel, show z0I 0 (twA [53, 0, 1, 0, 0, 0, 0, 0, 0, 0] 0 % 8) = 5 by decide +kernel, show z0I 0 (twA [53, 0, 1, 0, 0, 0, 0, 0, 0, 0] 0 / 16) = 3 by decide +kernel, show z0 0 (e8 [53, 0, 1, 0, 0, 0, 0, 0, 0, 0] 2) = 1 by decide +kernel] at h3
  refine Ct_intro Try.func28 rfl Try.ntmps28 (by simp) _ rfl (fun w0 O0 => ?_)
  refine W_ent (ψ := Rw 4 (.slice none 0 0) T.nil.len T.nil.at_) ent_nilRw ?_
  refine W_ent ent_tf0 ?_
  repeat (first | refine n1 ?_ | refine n2 (fun b _ => ?_) | refine n3 (fun _ _ => ?_) | refine n4 ?_ | refine n5 ?_ | refine WL_nil ?_ | refine W_seq ?_ | refine W_region ?_ | refine n7 ?_ | refine n8 ?_ | refine W_block ?_ | refine W_skip ?_ | refine W_ret ?_ | refine W_exit ?_ | refine WQ_then ?_ | refine WQ_then_ret ?_ | refine WQ_then_exit ?_ | refine WQ_block_normal ?_ | refine WQ_block_ret ?_ | refine WQ_block_exit ?_ | refine n9 ?_)
  (apply WL_effs; exact rfl; exact rfl; exact rfl; apply E_call; exact rfl; (intro _ _; simp); exact h1; (repeat (first | exact AllE.nil _ | (apply AllE.cons; (focus (first | exact ent_nilBy | exact ent_nilSl | (apply Ent.mem; repeat' (first | exact mcs | apply mct))))))); (intro _; exact rfl); (intro _; exact rfl))
  intro x1 _
  repeat (first | refine n1 ?_ | refine n2 (fun b _ => ?_) | refine n3 (fun _ _ => ?_) | refine n4 ?_ | refine n5 ?_ | refine WL_nil ?_ | refine W_seq ?_ | refine W_region ?_ | refine n7 ?_ | refine n8 ?_ | refine W_block ?_ | refine W_skip ?_ | refine W_ret ?_ | refine W_exit ?_ | refine WQ_then ?_ | refine WQ_then_ret ?_ | refine WQ_then_exit ?_ | refine WQ_block_normal ?_ | refine WQ_block_ret ?_ | refine WQ_block_exit ?_ | refine n9 ?_)
  (apply WL_effs; exact rfl; exact rfl; exact rfl; apply E_call; exact rfl; (intro _ _; simp); exact h2; (repeat (first | exact AllE.nil _ | (apply AllE.cons; (focus (first | exact ent_nilBy | exact ent_nilSl | (apply Ent.mem; repeat' (first | exact mcs | apply mct))))))); (intro _; exact rfl); (intro _; exact rfl))
  intro x2 _
  repeat (first | refine n1 ?_ | refine n2 (fun b _ => ?_) | refine n3 (fun _ _ => ?_) | refine n4 ?_ | refine n5 ?_ | refine WL_nil ?_ | refine W_seq ?_ | refine W_region ?_ | refine n7 ?_ | refine n8 ?_ | refine W_block ?_ | refine W_skip ?_ | refine W_ret ?_ | refine W_exit ?_ | refine WQ_then ?_ | refine WQ_then_ret ?_ | refine WQ_then_exit ?_ | refine WQ_block_normal ?_ | refine WQ_block_ret ?_ | refine WQ_block_exit ?_ | refine n9 ?_)
  (apply WL_effs; exact rfl; exact rfl; exact rfl; (apply E_buildSlice; exact rfl; (focus (repeat (first | apply SeqE.nil | (apply SeqE.cons; exact rfl; (focus (first | (apply CellsE.lit; exact rfl) | (apply CellsE.one; (first | (apply OneC.lit; exact rfl) | (apply OneC.by_; (repeat' (first | exact mcs | apply mct)); done) | (apply OneC.sl; (repeat' (first | exact mcs | apply mct)); done) | (apply OneC.rw; (repeat' (first | exact mcs | apply mct)); done) | (apply OneC.row; (repeat' (first | exact Pick.head _ _ | apply Pick.tail))))))); exact rfl) | exact rfl))); exact rfl; (first | (intro _; exact (rfl : _ = Result.ok 1 _)) | (intro _; exact (rfl : _ = Result.ok 2 _)) | (intro _; exact (rfl : _ = Result.ok 3 _)) | (intro _; exact (rfl : _ = Result.ok 4 _)) | (intro _; exact (rfl : _ = Result.ok 5 _)) | (intro _; exact (rfl : _ = Result.ok 6 _)) | (intro _; exact (rfl : _ = Result.ok 7 _)) | (intro _; exact (rfl : _ = Result.ok 8 _)) | (intro _; exact (rfl : _ = Result.ok 9 _)) | (intro _; exact (rfl : _ = Result.ok 13 _)) | (intro _; exact (rfl : _ = Result.ok 14 _)) | (intro _; exact (rfl : _ = Result.ok 26 _)) | (intro _; exact (rfl : _ = Result.ok 40 _)) | (intro _; exact (rfl : _ = Result.ok 41 _)) | (intro _; exact (rfl : _ = Result.ok 42 _)) | (intro _; exact (rfl : _ = Result.ok 43 _)) | (intro _; exact (rfl : _ = Result.ok 44 _)) | (intro _; exact (rfl : _ = Result.ok 45 _)) | (intro _; exact (rfl : _ = Result.ok 46 _))); (intro _; exact rfl); exact rfl; exact Nat.le_of_ble_eq_true rfl; exact Nat.le_of_ble_eq_true rfl); skip)
  intro q _
  refine WL_letgoB (bs := [53, 0, 1, 0, 0, 0, 0, 0, 0, 0]) (by repeat' (first | exact Pick.head _ _ | apply Pick.tail)) rfl ?_
  repeat (first | refine n1 ?_ | refine n2 (fun b _ => ?_) | refine n3 (fun _ _ => ?_) | refine n4 ?_ | refine n5 ?_ | refine n6 (h3 _) ?_ | refine n6v (h3 _) ?_ | refine WL_nil ?_ | refine W_seq ?_ | refine W_region ?_ | refine n7 ?_ | refine n8 ?_ | refine W_block ?_ | refine W_skip ?_ | refine W_ret ?_ | refine W_exit ?_ | refine WQ_then ?_ | refine WQ_then_ret ?_ | refine WQ_then_exit ?_ | refine WQ_block_normal ?_ | refine WQ_block_ret ?_ | refine WQ_block_exit ?_ | refine n9 ?_)
  refine WL_runs rfl rfl rfl (R_eqG (cs := [.int .i64 5, .int .i64 3, .int .u64 ((1 : Nat) : Int)]) (ds := [.int .i64 5, .int .i64 3, .int .u64 ((1 : Nat) : Int)]) (m := 3) rfl rfl (by kernel_rfl) rfl (by kernel_rfl) (by kernel_rfl) (by kernel_rfl) (back_lits 5 3 1 w64_5 w64_3 (by decide)) (back_lits 5 3 1 w64_5 w64_3 (by decide)) (back_eq 5 3 5 3 1 1) rfl) ?_
  rw [decide_eq_true (show (5 : Int) = 5 ∧ (3 : Int) = 3 ∧ 1 = 1 from ⟨rfl, rfl, rfl⟩)]
  repeat (first | refine n1 ?_ | refine n2 (fun b _ => ?_) | refine n3 (fun _ _ => ?_) | refine n4 ?_ | refine n5 ?_ | refine WL_nil ?_ | refine W_seq ?_ | refine W_region ?_ | refine n7 ?_ | refine n8 ?_ | refine W_block ?_ | refine W_skip ?_ | refine W_ret ?_ | refine W_exit ?_ | refine WQ_then ?_ | refine WQ_then_ret ?_ | refine WQ_then_exit ?_ | refine WQ_block_normal ?_ | refine WQ_block_ret ?_ | refine WQ_block_exit ?_ | refine n9 ?_)
  ((apply ret1 Try.results28 ( ())); (focus (first | trivial | assumption | omega)); (focus (first | exact RV_tmp rfl | (apply RV_cellN; exact rfl; (repeat' (first | exact Pick.head _ _ | apply Pick.tail)); (intro _; exact rfl); (intro _; exact rfl); exact rfl) | (apply RV_cell1; exact rfl; (repeat' (first | exact Pick.head _ _ | apply Pick.tail)); (intro _; exact rfl); exact rfl)));  (focus (first | exact rfl | (simp; done))); (focus (repeat (first | exact SubO.nil _ | (apply SubO.cons; (focus (repeat' (first | exact Pick.head _ _ | apply Pick.tail))))))); (focus (repeat (first | exact AllE.nil _ | (apply AllE.cons; (focus (first | exact ent_nilBy | exact ent_nilSl | (apply Ent.mem; repeat' (first | exact mcs | apply mct)))))))))
end Go.Proofs.Ytoohgnegoaoleaa
