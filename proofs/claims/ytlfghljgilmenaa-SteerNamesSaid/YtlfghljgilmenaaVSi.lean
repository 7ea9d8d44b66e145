/-
  States compared; the law 'SteerMoves' walked.
-/
import Derived.Test.YtlfghljgilmenaaVSh
namespace Go.Proofs.Ytlfghljgilmenaa
open Go Go.RowKit Go.Hs

/-- numbers of 64 bits. -/
def w64 (n : Int) : Prop := (Lit.int .i64 n).wf = true
def Pla.w (p : Pla) : Prop := w64 p.low ∧ w64 p.gain ∧ w64 p.weight ∧ w64 p.stay ∧ w64 p.back
theorem i64_lits {P : Program} {t : TypeId} (ht : P.underlying t = some (.int .i64)) {n : Int} (h : w64 n) (d : Nat) : P.keyLits (d + 1) t [.int .i64 n] = some [.int .i64 n] := by
  have h : (Lit.int .i64 n).wf = true := h
  simp [Program.keyLits, ht, h]
theorem pla_lits (p : Pla) (h : p.w) : Try.prog.keyLits 2 23 [.int .i64 p.low, .int .i64 p.gain, .int .i64 p.weight, .int .i64 p.stay, .int .i64 p.back] = some [.int .i64 p.low, .int .i64 p.gain, .int .i64 p.weight, .int .i64 p.stay, .int .i64 p.back] := by
  obtain ⟨h1, h2, h3, h4, h5⟩ := h
  have e := fun n (h : w64 n) => i64_lits (P := Try.prog) Try.underlying3 h 0
  have hc : Try.prog.cellsOf 23 = 5 := by kernel_rfl
  have hi : Try.prog.cellsOf 3 = 1 := by kernel_rfl
  rw [show (2 : Nat) = 1 + 1 from rfl]
  unfold Program.keyLits
  rw [Try.underlying23]
  simp [hc, hi, e _ h1, e _ h2, e _ h3, e _ h4, e _ h5]
theorem vis_lits (v : Vis) (h : w64 v.left) : Try.prog.keyLits 3 40 v.cells = some ((v.pt.bytes.map fun b => Lit.int .u8 (b.toNat : Int)) ++ [.int .i64 v.left]) := by
  have hc : Try.prog.cellsOf 40 = 7 := by kernel_rfl
  have hi : Try.prog.cellsOf 3 = 1 := by kernel_rfl
  have ha : Try.prog.cellsOf 25 = 6 := by kernel_rfl
  have hu : Try.prog.cellsOf 5 = 1 := by kernel_rfl
  have e1 := keyLits_a6 (P := Try.prog) Try.underlying25 Try.underlying5 hu ha v.pt
  have e2 := i64_lits (P := Try.prog) Try.underlying3 h 1
  rw [show (3 : Nat) = 2 + 1 from rfl]
  unfold Program.keyLits
  rw [Try.underlying40]
  simp only [A6.cells] at e1
  simp [hc, hi, ha, e1, e2]
def Stt.at_ (s : Stt) (v : Value) : Stt := ⟨s.plan, s.pt, s.since, v, s.past⟩
def Stt.w (s : Stt) : Prop := s.plan.w ∧ ∀ i, i < s.past.length → w64 (s.past.getD i v0_).left
theorem movS_at (e : Int) (s : Stt) (to : A6) (now : Int) (x : Value) : (movS e s to now x).pv = x := by unfold movS; split <;> rfl
theorem movS_two (e : Int) (s : Stt) (to : A6) (now : Int) (x y : Value) : movS e s to now y = (movS e s to now x).at_ y := by unfold movS Stt.at_; split <;> rfl
theorem w64_zero : w64 0 := by unfold w64; decide
theorem movS_w (e : Int) (s : Stt) (to : A6) (now : Int) (x : Value) (h : s.w) (hn : w64 now) : (movS e s to now x).w := by
  unfold movS
  split
  · refine ⟨h.1, fun i hi => ?_⟩
    have key : ∀ v, v ∈ keptL s now ++ [(⟨s.pt, now⟩ : Vis)] → w64 v.left := fun v hv => by
      rcases List.mem_append.1 hv with hv | hv
      · obtain ⟨j, hj, rfl⟩ := List.mem_iff_getElem.1 (List.mem_filter.1 hv).1
        have := h.2 j hj
        rw [List.getD_eq_getElem?_getD, List.getElem?_eq_getElem hj] at this
        exact this
      · rw [List.mem_singleton] at hv
        subst hv
        exact hn
    have hi : i < (keptL s now ++ [(⟨s.pt, now⟩ : Vis)]).length := hi
    show w64 ((keptL s now ++ [(⟨s.pt, now⟩ : Vis)]).getD i v0_).left
    rw [List.getD_eq_getElem?_getD, List.getElem?_eq_getElem hi]
    exact key _ (List.getElem_mem hi)
  · exact ⟨⟨w64_zero, w64_zero, w64_zero, w64_zero, w64_zero⟩, fun i hi => absurd hi (by simp)⟩
theorem movS_len (e : Int) (s : Stt) (to : A6) (now : Int) (x : Value) : (movS e s to now x).past.length ≤ s.past.length + 1 := by
  unfold movS
  split
  · show (keptL s now ++ [(⟨s.pt, now⟩ : Vis)]).length ≤ _
    have : (keptL s now).length ≤ s.past.length := List.length_filter_le _ _
    rw [List.length_append]
    simp only [List.length_cons, List.length_nil]
    omega
  · exact Nat.zero_le _
theorem newS_nil (p : Pla) (pt : A6) (now : Int) : (newS p pt now).pv = .slice none 0 0 ∧ (newS p pt now).past = [] := by unfold newS; split <;> exact ⟨rfl, rfl⟩
theorem newS_w (p : Pla) (pt : A6) (now : Int) (h : p.w) : (newS p pt now).w := by
  unfold newS
  split
  · exact ⟨h, fun i hi => absurd hi (by simp [freshS])⟩
  · exact ⟨⟨w64_zero, w64_zero, w64_zero, w64_zero, w64_zero⟩, fun i hi => absurd hi (by simp [zStt])⟩
attribute [local irreducible] WL W WQ PL Runs Effs AllE Ent SubO FrIn Pick OneC Ones CellsE PartsE SeqE UZ By Sl Pt Ct

set_option maxRecDepth 100000 in
set_option maxHeartbeats 4000000 in
theorem same_fn (pl : Pla) (pt : A6) (sn : Int) (v u : Value) (l : List Vis) (h1 : pl.w) (h2 : ∀ i, i < l.length → w64 (l.getD i v0_).left) (hl : l.length ≤ 1000000) :
    CtD Try.prog 15 [.agg #[.int .i64 pl.low, .int .i64 pl.gain, .int .i64 pl.weight, .int .i64 pl.stay, .int .i64 pl.back, bcell pt.a0, bcell pt.a1, bcell pt.a2, bcell pt.a3, bcell pt.a4, bcell pt.a5, .int .i64 sn, v], .agg #[.int .i64 pl.low, .int .i64 pl.gain, .int .i64 pl.weight, .int .i64 pl.stay, .int .i64 pl.back, bcell pt.a0, bcell pt.a1, bcell pt.a2, bcell pt.a3, bcell pt.a4, bcell pt.a5, .int .i64 sn, u]]
    [Rw 7 v l.length (fun i => (l.getD i v0_).cells), Rw 7 u l.length (fun i => (l.getD i v0_).cells)] (.bool true) := by
  have e1 := pla_lits pl h1
  refine Ct_intro Try.func15 rfl Try.ntmps15 (by simp) _ rfl (fun w0 O0 => ?_)
  repeat (first | refine n1 ?_ | refine n2 (fun b _ => ?_) | refine n3 (fun _ _ => ?_) | refine n4 ?_ | refine n5 ?_ | refine WL_nil ?_ | refine W_seq ?_ | refine W_region ?_ | refine n7 ?_ | refine n8 ?_ | refine W_block ?_ | refine W_skip ?_ | refine W_ret ?_ | refine W_exit ?_ | refine WQ_then ?_ | refine WQ_then_ret ?_ | refine WQ_then_exit ?_ | refine WQ_block_normal ?_ | refine WQ_block_ret ?_ | refine WQ_block_exit ?_ | refine n9 ?_)
  refine WL_runs rfl rfl rfl (R_neG (m := 2) (p := True) rfl rfl (by kernel_rfl) rfl (by kernel_rfl) (by kernel_rfl) (by kernel_rfl) e1 e1 ⟨fun _ => trivial, fun _ => rfl⟩ rfl) ?_
  repeat (first | refine n1 ?_ | refine n2 (fun b _ => ?_) | refine n3 (fun _ _ => ?_) | refine n4 ?_ | refine n5 ?_ | refine WL_nil ?_ | refine W_seq ?_ | refine W_region ?_ | refine n7 ?_ | refine n8 ?_ | refine W_block ?_ | refine W_skip ?_ | refine W_ret ?_ | refine W_exit ?_ | refine WQ_then ?_ | refine WQ_then_ret ?_ | refine WQ_then_exit ?_ | refine WQ_block_normal ?_ | refine WQ_block_ret ?_ | refine WQ_block_exit ?_ | refine n9 ?_)
  ((apply W_loopK (X := Nat) [5] [] (fun x => x ≤ l.length) (fun x => [(5, .int .i64 (x : Int))]) (fun _ => []) (fun _ => []) (fun x => l.length - x) (0)); (focus exact Nat.zero_le _); exact rfl; exact rfl; (intro _; exact rfl); (intro _; exact rfl); (intro _; exact rfl); (focus (repeat (first | exact FrIn.nil _ | (apply FrIn.cons; exact rfl; (first | exact rfl | (congr 1; first | omega | (dsimp only; omega)) | (simp; done)))))); (focus (repeat (first | exact SubO.nil _ | (apply SubO.cons; (focus (repeat' (first | exact Pick.head _ _ | apply Pick.tail))))))); (focus (repeat (first | exact AllE.nil _ | (apply AllE.cons; (focus (first | exact ent_nilBy | exact ent_nilSl | (apply Ent.mem; repeat' (first | exact mcs | apply mct)))))))); intro x hx)
  by_cases c1 : x < l.length
  · have e2 := vis_lits (l.getD x v0_) (h2 x c1)
    repeat (first | refine n1 ?_ | refine n2 (fun b _ => ?_) | refine n3 (fun _ _ => ?_) | refine n4 ?_ | refine n5 ?_ | refine WL_nil ?_ | refine W_seq ?_ | refine W_region ?_ | refine n7 ?_ | refine n8 ?_ | refine W_block ?_ | refine W_skip ?_ | refine W_ret ?_ | refine W_exit ?_ | refine WQ_then ?_ | refine WQ_then_ret ?_ | refine WQ_then_exit ?_ | refine WQ_block_normal ?_ | refine WQ_block_ret ?_ | refine WQ_block_exit ?_ | refine n9 ?_)
    (refine W_regionP' [] [] [0, 1, 2, 3, 4, 5, 6, 7, 8, 9, 10] [] (by kernel_rfl) (by kernel_rfl) (by repeat (first | exact UZ.nil _ _ | (apply UZ.cons; exact rfl; (intro _; exact rfl)))) (by exact rfl) (by (repeat (first | exact SubO.nil _ | (apply SubO.cons; (focus (repeat' (first | exact Pick.head _ _ | apply Pick.tail))))))) ?_)
    repeat (first | refine p1 ?_ | refine p2 (fun b _ => ?_) | refine p3 (fun _ _ => ?_) | refine p4 ?_ | refine p5 ?_ | refine p7 (fun b => ?_) | refine PL_nil ?_)
    refine PL_runs rfl rfl rfl rfl rfl (R_neG (m := 3) (p := True) rfl rfl (by kernel_rfl) rfl (by kernel_rfl) (by kernel_rfl) (by kernel_rfl) e2 e2 ⟨fun _ => trivial, fun _ => rfl⟩ rfl) ?_
    repeat (first | refine p1 ?_ | refine p2 (fun b _ => ?_) | refine p3 (fun _ _ => ?_) | refine p4 ?_ | refine p5 ?_ | refine p7 (fun b => ?_) | refine PL_nil ?_)
    repeat (first | refine n1 ?_ | refine n2 (fun b _ => ?_) | refine n3 (fun _ _ => ?_) | refine n4 ?_ | refine n5 ?_ | refine WL_nil ?_ | refine W_seq ?_ | refine W_region ?_ | refine n7 ?_ | refine n8 ?_ | refine W_block ?_ | refine W_skip ?_ | refine W_ret ?_ | refine W_exit ?_ | refine WQ_then ?_ | refine WQ_then_ret ?_ | refine WQ_then_exit ?_ | refine WQ_block_normal ?_ | refine WQ_block_ret ?_ | refine WQ_block_exit ?_ | refine n9 ?_)
    ((apply WQ_again (x + 1)); (focus exact c1); (focus (omega)); (focus (repeat (first | exact FrIn.nil _ | (apply FrIn.cons; exact rfl; (first | exact rfl | (congr 1; first | omega | (dsimp only; omega)) | (simp; done)))))); (focus (repeat (first | exact SubO.nil _ | (apply SubO.cons; (focus (repeat' (first | exact Pick.head _ _ | apply Pick.tail))))))); (focus (repeat (first | exact AllE.nil _ | (apply AllE.cons; (focus (first | exact ent_nilBy | exact ent_nilSl | (apply Ent.mem; repeat' (first | exact mcs | apply mct)))))))))
  · obtain rfl : x = l.length := by omega
    repeat (first | refine n1 ?_ | refine n2 (fun b _ => ?_) | refine n3 (fun _ _ => ?_) | refine n4 ?_ | refine n5 ?_ | refine WL_nil ?_ | refine W_seq ?_ | refine W_region ?_ | refine n7 ?_ | refine n8 ?_ | refine W_block ?_ | refine W_skip ?_ | refine W_ret ?_ | refine W_exit ?_ | refine WQ_then ?_ | refine WQ_then_ret ?_ | refine WQ_then_exit ?_ | refine WQ_block_normal ?_ | refine WQ_block_ret ?_ | refine WQ_block_exit ?_ | refine n9 ?_)
    ((apply ret1 Try.results15 ( ())); (focus (first | trivial | assumption | omega)); (focus (first | exact RV_tmp rfl | (apply RV_cellN; exact rfl; (repeat' (first | exact Pick.head _ _ | apply Pick.tail)); (intro _; exact rfl); (intro _; exact rfl); exact rfl) | (apply RV_cell1; exact rfl; (repeat' (first | exact Pick.head _ _ | apply Pick.tail)); (intro _; exact rfl); exact rfl)));  (focus (first | exact rfl | (simp; done))); (focus (repeat (first | exact SubO.nil _ | (apply SubO.cons; (focus (repeat' (first | exact Pick.head _ _ | apply Pick.tail))))))); (focus (repeat (first | exact AllE.nil _ | (apply AllE.cons; (focus (first | exact ent_nilBy | exact ent_nilSl | (apply Ent.mem; repeat' (first | exact mcs | apply mct)))))))))

set_option maxRecDepth 100000 in
set_option maxHeartbeats 16000000 in
theorem movesLaw_fn (s : Stt) (to : A6) (now : Int) (hw : s.w) (hn : w64 now) : CtD Try.prog 3 [s.val, aV to, .int .i64 now] [s.fact] (.bool true) := by
  by_cases g1 : (50 : Int) < s.past.length
  · refine Ct_intro Try.func3 rfl Try.ntmps3 (by simp) _ rfl (fun w0 O0 => ?_)
    repeat (first | refine n1 ?_ | refine n2 (fun b _ => ?_) | refine n3 (fun _ _ => ?_) | refine n4 ?_ | refine n5 ?_ | refine WL_nil ?_ | refine W_seq ?_ | refine W_region ?_ | refine n7 ?_ | refine n8 ?_ | refine W_block ?_ | refine W_skip ?_ | refine W_ret ?_ | refine W_exit ?_ | refine WQ_then ?_ | refine WQ_then_ret ?_ | refine WQ_then_exit ?_ | refine WQ_block_normal ?_ | refine WQ_block_ret ?_ | refine WQ_block_exit ?_ | refine n9 ?_)
    ((apply ret1 Try.results3 ( ())); (focus (first | trivial | assumption | omega)); (focus (first | exact RV_tmp rfl | (apply RV_cellN; exact rfl; (repeat' (first | exact Pick.head _ _ | apply Pick.tail)); (intro _; exact rfl); (intro _; exact rfl); exact rfl) | (apply RV_cell1; exact rfl; (repeat' (first | exact Pick.head _ _ | apply Pick.tail)); (intro _; exact rfl); exact rfl)));  (focus (first | exact rfl | (simp; done))); (focus (repeat (first | exact SubO.nil _ | (apply SubO.cons; (focus (repeat' (first | exact Pick.head _ _ | apply Pick.tail))))))); (focus (repeat (first | exact AllE.nil _ | (apply AllE.cons; (focus (first | exact ent_nilBy | exact ent_nilSl | (apply Ent.mem; repeat' (first | exact mcs | apply mct)))))))))
  · refine Ct_intro Try.func3 rfl Try.ntmps3 (by simp) _ rfl (fun w0 O0 => ?_)
    refine W_ent (ent_rwG (cf := Vis.cells) (S := 7) (l := s.past) vis_len (by decide) v0_ (by (focus (repeat' (first | exact mcs | apply mct))))) ?_
    repeat (first | refine n1 ?_ | refine n2 (fun b _ => ?_) | refine n3 (fun _ _ => ?_) | refine n4 ?_ | refine n5 ?_ | refine WL_nil ?_ | refine W_seq ?_ | refine W_region ?_ | refine n7 ?_ | refine n8 ?_ | refine W_block ?_ | refine W_skip ?_ | refine W_ret ?_ | refine W_exit ?_ | refine WQ_then ?_ | refine WQ_then_ret ?_ | refine WQ_then_exit ?_ | refine WQ_block_normal ?_ | refine WQ_block_ret ?_ | refine WQ_block_exit ?_ | refine n9 ?_)
    (apply WL_effs; exact rfl; exact rfl; exact rfl; (apply E_buildSlice; exact rfl; (focus (repeat (first | apply SeqE.nil | (apply SeqE.cons; exact rfl; (focus (first | (apply CellsE.lit; exact rfl) | (apply CellsE.one; (first | (apply OneC.lit; exact rfl) | (apply OneC.by_; (repeat' (first | exact mcs | apply mct)); done) | (apply OneC.sl; (repeat' (first | exact mcs | apply mct)); done) | (apply OneC.rw; (repeat' (first | exact mcs | apply mct)); done) | (apply OneC.row; (repeat' (first | exact Pick.head _ _ | apply Pick.tail))))))); exact rfl) | exact rfl))); exact rfl; (first | (intro _; exact (rfl : _ = Result.ok 1 _)) | (intro _; exact (rfl : _ = Result.ok 2 _)) | (intro _; exact (rfl : _ = Result.ok 3 _)) | (intro _; exact (rfl : _ = Result.ok 4 _)) | (intro _; exact (rfl : _ = Result.ok 5 _)) | (intro _; exact (rfl : _ = Result.ok 6 _)) | (intro _; exact (rfl : _ = Result.ok 7 _)) | (intro _; exact (rfl : _ = Result.ok 8 _)) | (intro _; exact (rfl : _ = Result.ok 9 _)) | (intro _; exact (rfl : _ = Result.ok 13 _)) | (intro _; exact (rfl : _ = Result.ok 14 _)) | (intro _; exact (rfl : _ = Result.ok 26 _)) | (intro _; exact (rfl : _ = Result.ok 40 _)) | (intro _; exact (rfl : _ = Result.ok 41 _)) | (intro _; exact (rfl : _ = Result.ok 42 _)) | (intro _; exact (rfl : _ = Result.ok 43 _)) | (intro _; exact (rfl : _ = Result.ok 44 _)) | (intro _; exact (rfl : _ = Result.ok 45 _)) | (intro _; exact (rfl : _ = Result.ok 46 _))); (intro _; exact rfl); exact rfl; exact Nat.le_of_ble_eq_true rfl; exact Nat.le_of_ble_eq_true rfl); skip)
    intro q _
    repeat (first | refine n1 ?_ | refine n2 (fun b _ => ?_) | refine n3 (fun _ _ => ?_) | refine n4 ?_ | refine n5 ?_ | refine WL_nil ?_ | refine W_seq ?_ | refine W_region ?_ | refine n7 ?_ | refine n8 ?_ | refine W_block ?_ | refine W_skip ?_ | refine W_ret ?_ | refine W_exit ?_ | refine WQ_then ?_ | refine WQ_then_ret ?_ | refine WQ_then_exit ?_ | refine WQ_block_normal ?_ | refine WQ_block_ret ?_ | refine WQ_block_exit ?_ | refine n9 ?_)
    refine WL_effs rfl rfl rfl (E_appendO (xs := []) (news := fcV s.past) (nm := s.past.length) (all := fcV s.past) rfl rfl (by repeat' (first | exact Pick.head _ _ | apply Pick.tail)) (m := s.past.length) (by repeat' (first | exact mcs | apply mct)) rfl rfl rfl rfl rfl (Nat.le_of_ble_eq_true rfl) (Ones.lits (fcV_one s.past)) (Nat.le_of_ble_eq_true rfl) (by omega) (Nat.zero_add _) rfl) ?_
    intro wv _
    repeat (first | refine n1 ?_ | refine n2 (fun b _ => ?_) | refine n3 (fun _ _ => ?_) | refine n4 ?_ | refine n5 ?_ | refine WL_nil ?_ | refine W_seq ?_ | refine W_region ?_ | refine n7 ?_ | refine n8 ?_ | refine W_block ?_ | refine W_skip ?_ | refine W_ret ?_ | refine W_exit ?_ | refine WQ_then ?_ | refine WQ_then_ret ?_ | refine WQ_then_exit ?_ | refine WQ_block_normal ?_ | refine WQ_block_ret ?_ | refine WQ_block_exit ?_ | refine n9 ?_)
    (apply WL_effs; exact rfl; exact rfl; exact rfl; apply E_call; exact rfl; (intro _ _; simp); exact move_fn s to now; (repeat (first | exact AllE.nil _ | (apply AllE.cons; (focus (first | exact ent_nilBy | exact ent_nilSl | (apply Ent.mem; repeat' (first | exact mcs | apply mct))))))); (intro _; exact rfl); (intro _; exact rfl))
    intro x _
    have hx1 := movS_at (movE s to now) s to now x
    have hx2 := fun y => movS_two (movE s to now) s to now x y
    have hx3 := movS_w (movE s to now) s to now x hw hn
    have hx4 := movS_len (movE s to now) s to now x
    have hr := rmove_fn s to now
    have h0 := newS_nil s.plan to now
    have h1 := newS_w s.plan to now hw.1
    have hnw := new_fn s.plan to now
    have hrn := rnew_fn s.plan to now
    have hck := check_fn s
    have hva := valid_fn s
    generalize movE s to now = me at *
    generalize movS me s to now x = M at *
    generalize newS s.plan to now = N at *
    generalize newE s.plan now = ne at *
    obtain ⟨pa, qa, na, va, la⟩ := M
    obtain ⟨pb, qb, nb, vb, lb⟩ := N
    replace hx1 : va = x := hx1
    subst hx1
    obtain ⟨h01, h02⟩ := h0
    replace h01 : vb = .slice none 0 0 := h01
    replace h02 : lb = [] := h02
    subst h01
    subst h02
    obtain ⟨hx5, hx6⟩ := hx3
    replace hx5 : pa.w := hx5
    replace hx6 : ∀ i, i < la.length → w64 (la.getD i v0_).left := hx6
    replace hx4 : la.length ≤ s.past.length + 1 := hx4
    replace h1 : pb.w := h1.1
    dsimp only [Stt.val] at hnw hrn
    dsimp only [Stt.val]
    repeat (first | refine n1 ?_ | refine n2 (fun b _ => ?_) | refine n3 (fun _ _ => ?_) | refine n4 ?_ | refine n5 ?_ | refine WL_nil ?_ | refine W_seq ?_ | refine W_region ?_ | refine n7 ?_ | refine n8 ?_ | refine W_block ?_ | refine W_skip ?_ | refine W_ret ?_ | refine W_exit ?_ | refine WQ_then ?_ | refine WQ_then_ret ?_ | refine WQ_then_exit ?_ | refine WQ_block_normal ?_ | refine WQ_block_ret ?_ | refine WQ_block_exit ?_ | refine n9 ?_)
    (apply WL_effs; exact rfl; exact rfl; exact rfl; apply E_call; exact rfl; (intro _ _; simp); exact hr; (repeat (first | exact AllE.nil _ | (apply AllE.cons; (focus (first | exact ent_nilBy | exact ent_nilSl | (apply Ent.mem; repeat' (first | exact mcs | apply mct))))))); (intro _; exact rfl); (intro _; exact rfl))
    intro y _
    rw [hx2 y]
    dsimp only [Stt.at_, Stt.val]
    repeat (first | refine n1 ?_ | refine n2 (fun b _ => ?_) | refine n3 (fun _ _ => ?_) | refine n4 ?_ | refine n5 ?_ | refine n6 (hnw) ?_ | refine n6 (hrn) ?_ | refine n6v (hnw) ?_ | refine n6v (hrn) ?_ | refine WL_nil ?_ | refine W_seq ?_ | refine W_region ?_ | refine n7 ?_ | refine n8 ?_ | refine W_block ?_ | refine W_skip ?_ | refine W_ret ?_ | refine W_exit ?_ | refine WQ_then ?_ | refine WQ_then_ret ?_ | refine WQ_then_exit ?_ | refine WQ_block_normal ?_ | refine WQ_block_ret ?_ | refine WQ_block_exit ?_ | refine n9 ?_)
    refine W_letgo (v := y) (by repeat' (first | exact Pick.head _ _ | apply Pick.tail)) ?_
    refine W_ent (ent_slG (cf := Vis.cells) (S := 7) (l := la) vis_len v0_ (v := y) (by repeat' (first | exact mcs | apply mct)) rfl rfl) ?_
    refine W_letgo (v := wv) (by repeat' (first | exact Pick.head _ _ | apply Pick.tail)) ?_
    refine W_ent (ent_slG (cf := Vis.cells) (S := 7) (l := s.past) vis_len v0_ (v := wv) (by repeat' (first | exact mcs | apply mct)) rfl rfl) ?_
    refine W_ent (ψ := Rw 7 (.slice none 0 0) ([] : List Vis).length (fun i => (([] : List Vis).getD i v0_).cells)) ent_nilRw ?_
    have s1 := same_fn pa qa na va y la hx5 hx6 (by omega)
    have s2 := same_fn pb qb nb (.slice none 0 0) (.slice none 0 0) [] h1 (fun i hi => absurd hi (by simp)) (by simp)
    have s3 := same_fn s.plan s.pt s.since s.pv wv s.past hw.1 hw.2 (by omega)
    have hlen : (fcV la).length = la.length * 7 := fcV_length la
    unfold chkE at hck
    generalize vStB s = bb at *
    cases bb
    · replace hck : CtD Try.prog 16 [s.val] [s.fact] (.int .i64 8) := hck
      (refine W_regionP' [] [] [0, 1, 2, 3, 4, 5, 6, 7, 8, 9, 10, 11, 12, 13, 14, 15, 16, 17, 18, 19, 20, 21, 22, 23, 24, 25, 26] [] (by kernel_rfl) (by kernel_rfl) (by repeat (first | exact UZ.nil _ _ | (apply UZ.cons; exact rfl; (intro _; exact rfl)))) (by exact rfl) (by (repeat (first | exact SubO.nil _ | (apply SubO.cons; (focus (repeat' (first | exact Pick.head _ _ | apply Pick.tail))))))) ?_)
      repeat (first | refine p1 ?_ | refine p2 (fun b _ => ?_) | refine p3 (fun _ _ => ?_) | refine p4 ?_ | refine p5 ?_ | refine p7 (fun b => ?_) | refine PL_nil ?_)
      refine PL_runs rfl rfl rfl rfl rfl (R_callB (Γb := [.row va 40 7 la.length (fcV la)]) rfl (by intro _ _; simp) s1 (perm1 (by repeat' (first | exact Pick.head _ _ | apply Pick.tail))) (Bor.sub (Bor.rowG (cf := Vis.cells) (S := 7) (l := la) vis_len v0_ rfl rfl) (AllIn.cons (by repeat' (first | exact mcs | apply mct)) (AllIn.cons (by repeat' (first | exact mcs | apply mct)) (AllIn.nil _))))) ?_
      repeat (first | refine p1 ?_ | refine p2 (fun b _ => ?_) | refine p3 (fun _ _ => ?_) | refine p4 ?_ | refine p5 ?_ | refine p6 (s2) ?_ | refine p6 (hck) ?_ | refine p6 (hva) ?_ | refine p6v (s2) ?_ | refine p6v (hck) ?_ | refine p6v (hva) ?_ | refine p7 (fun b => ?_) | refine PL_nil ?_)
      repeat (first | refine n1 ?_ | refine n2 (fun b _ => ?_) | refine n3 (fun _ _ => ?_) | refine n4 ?_ | refine n5 ?_ | refine WL_nil ?_ | refine W_seq ?_ | refine W_region ?_ | refine n7 ?_ | refine n8 ?_ | refine W_block ?_ | refine W_skip ?_ | refine W_ret ?_ | refine W_exit ?_ | refine WQ_then ?_ | refine WQ_then_ret ?_ | refine WQ_then_exit ?_ | refine WQ_block_normal ?_ | refine WQ_block_ret ?_ | refine WQ_block_exit ?_ | refine n9 ?_)
      ((apply W_loopK (X := Nat × List Value) [17] [4] (fun x => x.1 ≤ la.length ∧ x.2.length = la.length * 7) (fun x => [(17, .int .i64 (x.1 : Int))]) (fun x => [.row va 40 7 la.length x.2]) (fun _ => []) (fun x => la.length - x.1) ((0, fcV la))); (focus exact ⟨Nat.zero_le _, hlen⟩); exact rfl; exact rfl; (intro _; exact rfl); (intro _; exact rfl); (intro _; exact rfl); (focus (repeat (first | exact FrIn.nil _ | (apply FrIn.cons; exact rfl; (first | exact rfl | (congr 1; first | omega | (dsimp only; omega)) | (simp; done)))))); (focus (repeat (first | exact SubO.nil _ | (apply SubO.cons; (focus (repeat' (first | exact Pick.head _ _ | apply Pick.tail))))))); (focus (repeat (first | exact AllE.nil _ | (apply AllE.cons; (focus (first | exact ent_nilBy | exact ent_nilSl | (apply Ent.mem; repeat' (first | exact mcs | apply mct)))))))); intro x hx)
      obtain ⟨k, L⟩ := x
      obtain ⟨i1, i2⟩ := hx
      replace i1 : k ≤ la.length := i1
      replace i2 : L.length = la.length * 7 := i2
      dsimp only
      by_cases c1 : k < la.length
      · repeat (first | refine n1 ?_ | refine n2 (fun b _ => ?_) | refine n3 (fun _ _ => ?_) | refine n4 ?_ | refine n5 ?_ | refine WL_nil ?_ | refine W_seq ?_ | refine W_region ?_ | refine n7 ?_ | refine n8 ?_ | refine W_block ?_ | refine W_skip ?_ | refine W_ret ?_ | refine W_exit ?_ | refine WQ_then ?_ | refine WQ_then_ret ?_ | refine WQ_then_exit ?_ | refine WQ_block_normal ?_ | refine WQ_block_ret ?_ | refine WQ_block_exit ?_ | refine n9 ?_)
        refine WL_do rfl rfl (E_storeRowK (us := [.int .i64 (-1)]) rfl rfl (by repeat' (first | exact Pick.head _ _ | apply Pick.tail)) (CellsE.lit rfl) (Ones.cons (OneC.lit rfl) Ones.nil) (by intro _; rfl) c1 rfl (putN_one (k * 7 + 6) _ L (by omega))) ?_
        intro _ _
        repeat (first | refine n1 ?_ | refine n2 (fun b _ => ?_) | refine n3 (fun _ _ => ?_) | refine n4 ?_ | refine n5 ?_ | refine WL_nil ?_ | refine W_seq ?_ | refine W_region ?_ | refine n7 ?_ | refine n8 ?_ | refine W_block ?_ | refine W_skip ?_ | refine W_ret ?_ | refine W_exit ?_ | refine WQ_then ?_ | refine WQ_then_ret ?_ | refine WQ_then_exit ?_ | refine WQ_block_normal ?_ | refine WQ_block_ret ?_ | refine WQ_block_exit ?_ | refine n9 ?_)
        have hn' : k + 1 ≤ la.length ∧ (L.set (k * 7 + 6) (.int .i64 (-1))).length = la.length * 7 := ⟨c1, by rw [List.length_set]; exact i2⟩
        ((apply WQ_again ((k + 1, L.set (k * 7 + 6) (.int .i64 (-1))))); (focus exact hn'); (focus (exact (show la.length - (k + 1) < la.length - k by omega))); (focus (repeat (first | exact FrIn.nil _ | (apply FrIn.cons; exact rfl; (first | exact rfl | (congr 1; first | omega | (dsimp only; omega)) | (simp; done)))))); (focus (repeat (first | exact SubO.nil _ | (apply SubO.cons; (focus (repeat' (first | exact Pick.head _ _ | apply Pick.tail))))))); (focus (repeat (first | exact AllE.nil _ | (apply AllE.cons; (focus (first | exact ent_nilBy | exact ent_nilSl | (apply Ent.mem; repeat' (first | exact mcs | apply mct)))))))))
      · repeat (first | refine n1 ?_ | refine n2 (fun b _ => ?_) | refine n3 (fun _ _ => ?_) | refine n4 ?_ | refine n5 ?_ | refine WL_nil ?_ | refine W_seq ?_ | refine W_region ?_ | refine n7 ?_ | refine n8 ?_ | refine W_block ?_ | refine W_skip ?_ | refine W_ret ?_ | refine W_exit ?_ | refine WQ_then ?_ | refine WQ_then_ret ?_ | refine WQ_then_exit ?_ | refine WQ_block_normal ?_ | refine WQ_block_ret ?_ | refine WQ_block_exit ?_ | refine n9 ?_)
        repeat (first | refine n1 ?_ | refine n2 (fun b _ => ?_) | refine n3 (fun _ _ => ?_) | refine n4 ?_ | refine n5 ?_ | refine n6 (s3) ?_ | refine n6v (s3) ?_ | refine WL_nil ?_ | refine W_seq ?_ | refine W_region ?_ | refine n7 ?_ | refine n8 ?_ | refine W_block ?_ | refine W_skip ?_ | refine W_ret ?_ | refine W_exit ?_ | refine WQ_then ?_ | refine WQ_then_ret ?_ | refine WQ_then_exit ?_ | refine WQ_block_normal ?_ | refine WQ_block_ret ?_ | refine WQ_block_exit ?_ | refine n9 ?_)
        ((apply ret1 Try.results3 ( ())); (focus (first | trivial | assumption | omega)); (focus (first | exact RV_tmp rfl | (apply RV_cellN; exact rfl; (repeat' (first | exact Pick.head _ _ | apply Pick.tail)); (intro _; exact rfl); (intro _; exact rfl); exact rfl) | (apply RV_cell1; exact rfl; (repeat' (first | exact Pick.head _ _ | apply Pick.tail)); (intro _; exact rfl); exact rfl)));  (focus (first | exact rfl | (simp; done))); (focus (repeat (first | exact SubO.nil _ | (apply SubO.cons; (focus (repeat' (first | exact Pick.head _ _ | apply Pick.tail))))))); (focus (repeat (first | exact AllE.nil _ | (apply AllE.cons; (focus (first | exact ent_nilBy | exact ent_nilSl | (apply Ent.mem; repeat' (first | exact mcs | apply mct)))))))))
    · replace hck : CtD Try.prog 16 [s.val] [s.fact] (.int .i64 0) := hck
      (refine W_regionP' [] [] [0, 1, 2, 3, 4, 5, 6, 7, 8, 9, 10, 11, 12, 13, 14, 15, 16, 17, 18, 19, 20, 21, 22, 23, 24, 25, 26] [] (by kernel_rfl) (by kernel_rfl) (by repeat (first | exact UZ.nil _ _ | (apply UZ.cons; exact rfl; (intro _; exact rfl)))) (by exact rfl) (by (repeat (first | exact SubO.nil _ | (apply SubO.cons; (focus (repeat' (first | exact Pick.head _ _ | apply Pick.tail))))))) ?_)
      repeat (first | refine p1 ?_ | refine p2 (fun b _ => ?_) | refine p3 (fun _ _ => ?_) | refine p4 ?_ | refine p5 ?_ | refine p7 (fun b => ?_) | refine PL_nil ?_)
      refine PL_runs rfl rfl rfl rfl rfl (R_callB (Γb := [.row va 40 7 la.length (fcV la)]) rfl (by intro _ _; simp) s1 (perm1 (by repeat' (first | exact Pick.head _ _ | apply Pick.tail))) (Bor.sub (Bor.rowG (cf := Vis.cells) (S := 7) (l := la) vis_len v0_ rfl rfl) (AllIn.cons (by repeat' (first | exact mcs | apply mct)) (AllIn.cons (by repeat' (first | exact mcs | apply mct)) (AllIn.nil _))))) ?_
      repeat (first | refine p1 ?_ | refine p2 (fun b _ => ?_) | refine p3 (fun _ _ => ?_) | refine p4 ?_ | refine p5 ?_ | refine p6 (s2) ?_ | refine p6 (hck) ?_ | refine p6 (hva) ?_ | refine p6v (s2) ?_ | refine p6v (hck) ?_ | refine p6v (hva) ?_ | refine p7 (fun b => ?_) | refine PL_nil ?_)
      repeat (first | refine n1 ?_ | refine n2 (fun b _ => ?_) | refine n3 (fun _ _ => ?_) | refine n4 ?_ | refine n5 ?_ | refine WL_nil ?_ | refine W_seq ?_ | refine W_region ?_ | refine n7 ?_ | refine n8 ?_ | refine W_block ?_ | refine W_skip ?_ | refine W_ret ?_ | refine W_exit ?_ | refine WQ_then ?_ | refine WQ_then_ret ?_ | refine WQ_then_exit ?_ | refine WQ_block_normal ?_ | refine WQ_block_ret ?_ | refine WQ_block_exit ?_ | refine n9 ?_)
      ((apply W_loopK (X := Nat × List Value) [17] [4] (fun x => x.1 ≤ la.length ∧ x.2.length = la.length * 7) (fun x => [(17, .int .i64 (x.1 : Int))]) (fun x => [.row va 40 7 la.length x.2]) (fun _ => []) (fun x => la.length - x.1) ((0, fcV la))); (focus exact ⟨Nat.zero_le _, hlen⟩); exact rfl; exact rfl; (intro _; exact rfl); (intro _; exact rfl); (intro _; exact rfl); (focus (repeat (first | exact FrIn.nil _ | (apply FrIn.cons; exact rfl; (first | exact rfl | (congr 1; first | omega | (dsimp only; omega)) | (simp; done)))))); (focus (repeat (first | exact SubO.nil _ | (apply SubO.cons; (focus (repeat' (first | exact Pick.head _ _ | apply Pick.tail))))))); (focus (repeat (first | exact AllE.nil _ | (apply AllE.cons; (focus (first | exact ent_nilBy | exact ent_nilSl | (apply Ent.mem; repeat' (first | exact mcs | apply mct)))))))); intro x hx)
      obtain ⟨k, L⟩ := x
      obtain ⟨i1, i2⟩ := hx
      replace i1 : k ≤ la.length := i1
      replace i2 : L.length = la.length * 7 := i2
      dsimp only
      by_cases c1 : k < la.length
      · repeat (first | refine n1 ?_ | refine n2 (fun b _ => ?_) | refine n3 (fun _ _ => ?_) | refine n4 ?_ | refine n5 ?_ | refine WL_nil ?_ | refine W_seq ?_ | refine W_region ?_ | refine n7 ?_ | refine n8 ?_ | refine W_block ?_ | refine W_skip ?_ | refine W_ret ?_ | refine W_exit ?_ | refine WQ_then ?_ | refine WQ_then_ret ?_ | refine WQ_then_exit ?_ | refine WQ_block_normal ?_ | refine WQ_block_ret ?_ | refine WQ_block_exit ?_ | refine n9 ?_)
        refine WL_do rfl rfl (E_storeRowK (us := [.int .i64 (-1)]) rfl rfl (by repeat' (first | exact Pick.head _ _ | apply Pick.tail)) (CellsE.lit rfl) (Ones.cons (OneC.lit rfl) Ones.nil) (by intro _; rfl) c1 rfl (putN_one (k * 7 + 6) _ L (by omega))) ?_
        intro _ _
        repeat (first | refine n1 ?_ | refine n2 (fun b _ => ?_) | refine n3 (fun _ _ => ?_) | refine n4 ?_ | refine n5 ?_ | refine WL_nil ?_ | refine W_seq ?_ | refine W_region ?_ | refine n7 ?_ | refine n8 ?_ | refine W_block ?_ | refine W_skip ?_ | refine W_ret ?_ | refine W_exit ?_ | refine WQ_then ?_ | refine WQ_then_ret ?_ | refine WQ_then_exit ?_ | refine WQ_block_normal ?_ | refine WQ_block_ret ?_ | refine WQ_block_exit ?_ | refine n9 ?_)
        have hn' : k + 1 ≤ la.length ∧ (L.set (k * 7 + 6) (.int .i64 (-1))).length = la.length * 7 := ⟨c1, by rw [List.length_set]; exact i2⟩
        ((apply WQ_again ((k + 1, L.set (k * 7 + 6) (.int .i64 (-1))))); (focus exact hn'); (focus (exact (show la.length - (k + 1) < la.length - k by omega))); (focus (repeat (first | exact FrIn.nil _ | (apply FrIn.cons; exact rfl; (first | exact rfl | (congr 1; first | omega | (dsimp only; omega)) | (simp; done)))))); (focus (repeat (first | exact SubO.nil _ | (apply SubO.cons; (focus (repeat' (first | exact Pick.head _ _ | apply Pick.tail))))))); (focus (repeat (first | exact AllE.nil _ | (apply AllE.cons; (focus (first | exact ent_nilBy | exact ent_nilSl | (apply Ent.mem; repeat' (first | exact mcs | apply mct)))))))))
      · repeat (first | refine n1 ?_ | refine n2 (fun b _ => ?_) | refine n3 (fun _ _ => ?_) | refine n4 ?_ | refine n5 ?_ | refine WL_nil ?_ | refine W_seq ?_ | refine W_region ?_ | refine n7 ?_ | refine n8 ?_ | refine W_block ?_ | refine W_skip ?_ | refine W_ret ?_ | refine W_exit ?_ | refine WQ_then ?_ | refine WQ_then_ret ?_ | refine WQ_then_exit ?_ | refine WQ_block_normal ?_ | refine WQ_block_ret ?_ | refine WQ_block_exit ?_ | refine n9 ?_)
        repeat (first | refine n1 ?_ | refine n2 (fun b _ => ?_) | refine n3 (fun _ _ => ?_) | refine n4 ?_ | refine n5 ?_ | refine n6 (s3) ?_ | refine n6v (s3) ?_ | refine WL_nil ?_ | refine W_seq ?_ | refine W_region ?_ | refine n7 ?_ | refine n8 ?_ | refine W_block ?_ | refine W_skip ?_ | refine W_ret ?_ | refine W_exit ?_ | refine WQ_then ?_ | refine WQ_then_ret ?_ | refine WQ_then_exit ?_ | refine WQ_block_normal ?_ | refine WQ_block_ret ?_ | refine WQ_block_exit ?_ | refine n9 ?_)
        ((apply ret1 Try.results3 ( ())); (focus (first | trivial | assumption | omega)); (focus (first | exact RV_tmp rfl | (apply RV_cellN; exact rfl; (repeat' (first | exact Pick.head _ _ | apply Pick.tail)); (intro _; exact rfl); (intro _; exact rfl); exact rfl) | (apply RV_cell1; exact rfl; (repeat' (first | exact Pick.head _ _ | apply Pick.tail)); (intro _; exact rfl); exact rfl)));  (focus (first | exact rfl | (simp; done))); (focus (repeat (first | exact SubO.nil _ | (apply SubO.cons; (focus (repeat' (first | exact Pick.head _ _ | apply Pick.tail))))))); (focus (repeat (first | exact AllE.nil _ | (apply AllE.cons; (focus (first | exact ent_nilBy | exact ent_nilSl | (apply Ent.mem; repeat' (first | exact mcs | apply mct)))))))))
end Go.Proofs.Ytlfghljgilmenaa
