/-
  What stands ahead of a choice; candidates; what is better.
-/
import Derived.Test.YtlfghljgilmenaaVSx
import Derived.Test.YtlfghljgilmenaaVSv
namespace Go.Proofs.Ytlfghljgilmenaa
open Go Go.RowKit Go.Hs
theorem cand_in {s : Stt} {now : Int} {l : List Nea} {x : Nat} (h : x < l.length) : candB s now (l.getD x n0_) = true → (l.take (x + 1)).filter (candB s now) = (l.take x).filter (candB s now) ++ [l.getD x n0_] := fun hb => by
  rw [take_getD _ _ h n0_, List.filter_append, List.filter_cons_of_pos hb]
  rfl
theorem cand_out {s : Stt} {now : Int} {l : List Nea} {x : Nat} (h : x < l.length) : candB s now (l.getD x n0_) = false → (l.take (x + 1)).filter (candB s now) = (l.take x).filter (candB s now) := fun hb => by
  rw [take_getD _ _ h n0_, List.filter_append, List.filter_cons_of_neg (by rw [hb]; decide), List.filter_nil, List.append_nil]
attribute [local irreducible] WL W WQ PL Runs Effs AllE Ent SubO FrIn Pick OneC Ones CellsE PartsE SeqE UZ By Sl Pt Ct

set_option maxRecDepth 100000 in
theorem start_fn (s : Stt) (v : Value) (l : List Nea) (now : Int) : CtD Try.prog 36 [s.val, v, .int .i64 now] [s.fact, Rw 9 v l.length (fun i => (l.getD i n0_).cells)] (.int .i64 (stopE s l now)) := by
  have hk := check_fn s
  have w2 := within_fn now s.since 1099511627776
  have w1 := list_fn v l
  try unfold chkE at hk
  unfold stopE
  cases h1 : vStB s with
  | false =>
    rw [h1] at hk
    refine Ct_intro Try.func36 rfl Try.ntmps36 (by simp) _ rfl (fun w0 O0 => ?_)
    repeat (first | refine n1 ?_ | refine n2 (fun b _ => ?_) | refine n3 (fun _ _ => ?_) | refine n4 ?_ | refine n5 ?_ | refine n6 (hk) ?_ | refine n6v (hk) ?_ | refine WL_nil ?_ | refine W_seq ?_ | refine W_region ?_ | refine n7 ?_ | refine n8 ?_ | refine W_block ?_ | refine W_skip ?_ | refine W_ret ?_ | refine W_exit ?_ | refine WQ_then ?_ | refine WQ_then_ret ?_ | refine WQ_then_exit ?_ | refine WQ_block_normal ?_ | refine WQ_block_ret ?_ | refine WQ_block_exit ?_ | refine n9 ?_)
    ((apply ret1 Try.results36 ( ())); (focus (first | trivial | assumption | omega)); (focus (first | exact RV_tmp rfl | (apply RV_cellN; exact rfl; (repeat' (first | exact Pick.head _ _ | apply Pick.tail)); (intro _; exact rfl); (intro _; exact rfl); exact rfl) | (apply RV_cell1; exact rfl; (repeat' (first | exact Pick.head _ _ | apply Pick.tail)); (intro _; exact rfl); exact rfl)));  (focus (first | exact rfl | (simp; done))); (focus (repeat (first | exact SubO.nil _ | (apply SubO.cons; (focus (repeat' (first | exact Pick.head _ _ | apply Pick.tail))))))); (focus (repeat (first | exact AllE.nil _ | (apply AllE.cons; (focus (first | exact ent_nilBy | exact ent_nilSl | (apply Ent.mem; repeat' (first | exact mcs | apply mct)))))))))
  | true =>
    rw [h1] at hk
    cases h3 : listB l with
    | false =>
      rw [h3] at w1
      refine Ct_intro Try.func36 rfl Try.ntmps36 (by simp) _ rfl (fun w0 O0 => ?_)
      repeat (first | refine n1 ?_ | refine n2 (fun b _ => ?_) | refine n3 (fun _ _ => ?_) | refine n4 ?_ | refine n5 ?_ | refine n6 (hk) ?_ | refine n6 (w1) ?_ | refine n6v (hk) ?_ | refine n6v (w1) ?_ | refine WL_nil ?_ | refine W_seq ?_ | refine W_region ?_ | refine n7 ?_ | refine n8 ?_ | refine W_block ?_ | refine W_skip ?_ | refine W_ret ?_ | refine W_exit ?_ | refine WQ_then ?_ | refine WQ_then_ret ?_ | refine WQ_then_exit ?_ | refine WQ_block_normal ?_ | refine WQ_block_ret ?_ | refine WQ_block_exit ?_ | refine n9 ?_)
      ((apply ret1 Try.results36 ( ())); (focus (first | trivial | assumption | omega)); (focus (first | exact RV_tmp rfl | (apply RV_cellN; exact rfl; (repeat' (first | exact Pick.head _ _ | apply Pick.tail)); (intro _; exact rfl); (intro _; exact rfl); exact rfl) | (apply RV_cell1; exact rfl; (repeat' (first | exact Pick.head _ _ | apply Pick.tail)); (intro _; exact rfl); exact rfl)));  (focus (first | exact rfl | (simp; done))); (focus (repeat (first | exact SubO.nil _ | (apply SubO.cons; (focus (repeat' (first | exact Pick.head _ _ | apply Pick.tail))))))); (focus (repeat (first | exact AllE.nil _ | (apply AllE.cons; (focus (first | exact ent_nilBy | exact ent_nilSl | (apply Ent.mem; repeat' (first | exact mcs | apply mct)))))))))
    | true =>
      rw [h3] at w1
      cases h2 : inB now s.since 1099511627776 with
      | false =>
        rw [h2] at w2
        refine Ct_intro Try.func36 rfl Try.ntmps36 (by simp) _ rfl (fun w0 O0 => ?_)
        repeat (first | refine n1 ?_ | refine n2 (fun b _ => ?_) | refine n3 (fun _ _ => ?_) | refine n4 ?_ | refine n5 ?_ | refine n6 (hk) ?_ | refine n6 (w1) ?_ | refine n6 (w2) ?_ | refine n6v (hk) ?_ | refine n6v (w1) ?_ | refine n6v (w2) ?_ | refine WL_nil ?_ | refine W_seq ?_ | refine W_region ?_ | refine n7 ?_ | refine n8 ?_ | refine W_block ?_ | refine W_skip ?_ | refine W_ret ?_ | refine W_exit ?_ | refine WQ_then ?_ | refine WQ_then_ret ?_ | refine WQ_then_exit ?_ | refine WQ_block_normal ?_ | refine WQ_block_ret ?_ | refine WQ_block_exit ?_ | refine n9 ?_)
        ((apply ret1 Try.results36 ( ())); (focus (first | trivial | assumption | omega)); (focus (first | exact RV_tmp rfl | (apply RV_cellN; exact rfl; (repeat' (first | exact Pick.head _ _ | apply Pick.tail)); (intro _; exact rfl); (intro _; exact rfl); exact rfl) | (apply RV_cell1; exact rfl; (repeat' (first | exact Pick.head _ _ | apply Pick.tail)); (intro _; exact rfl); exact rfl)));  (focus (first | exact rfl | (simp; done))); (focus (repeat (first | exact SubO.nil _ | (apply SubO.cons; (focus (repeat' (first | exact Pick.head _ _ | apply Pick.tail))))))); (focus (repeat (first | exact AllE.nil _ | (apply AllE.cons; (focus (first | exact ent_nilBy | exact ent_nilSl | (apply Ent.mem; repeat' (first | exact mcs | apply mct)))))))))
      | true =>
        rw [h2] at w2
        refine Ct_intro Try.func36 rfl Try.ntmps36 (by simp) _ rfl (fun w0 O0 => ?_)
        repeat (first | refine n1 ?_ | refine n2 (fun b _ => ?_) | refine n3 (fun _ _ => ?_) | refine n4 ?_ | refine n5 ?_ | refine n6 (hk) ?_ | refine n6 (w1) ?_ | refine n6 (w2) ?_ | refine n6v (hk) ?_ | refine n6v (w1) ?_ | refine n6v (w2) ?_ | refine WL_nil ?_ | refine W_seq ?_ | refine W_region ?_ | refine n7 ?_ | refine n8 ?_ | refine W_block ?_ | refine W_skip ?_ | refine W_ret ?_ | refine W_exit ?_ | refine WQ_then ?_ | refine WQ_then_ret ?_ | refine WQ_then_exit ?_ | refine WQ_block_normal ?_ | refine WQ_block_ret ?_ | refine WQ_block_exit ?_ | refine n9 ?_)
        ((apply ret1 Try.results36 ( ())); (focus (first | trivial | assumption | omega)); (focus (first | exact RV_tmp rfl | (apply RV_cellN; exact rfl; (repeat' (first | exact Pick.head _ _ | apply Pick.tail)); (intro _; exact rfl); (intro _; exact rfl); exact rfl) | (apply RV_cell1; exact rfl; (repeat' (first | exact Pick.head _ _ | apply Pick.tail)); (intro _; exact rfl); exact rfl)));  (focus (first | exact rfl | (simp; done))); (focus (repeat (first | exact SubO.nil _ | (apply SubO.cons; (focus (repeat' (first | exact Pick.head _ _ | apply Pick.tail))))))); (focus (repeat (first | exact AllE.nil _ | (apply AllE.cons; (focus (first | exact ent_nilBy | exact ent_nilSl | (apply Ent.mem; repeat' (first | exact mcs | apply mct)))))))))

set_option maxRecDepth 100000 in
theorem rstart_fn (s : Stt) (v : Value) (l : List Nea) (now : Int) : CtD Try.prog 41 [s.val, v, .int .i64 now] [s.fact, Rw 9 v l.length (fun i => (l.getD i n0_).cells)] (.int .i64 (stopE s l now)) := by
  have hk := valid_fn s
  have w2 := rin_fn now s.since 1099511627776
  have w1 := rlist_fn v l
  try unfold chkE at hk
  unfold stopE
  cases h1 : vStB s with
  | false =>
    rw [h1] at hk
    refine Ct_intro Try.func41 rfl Try.ntmps41 (by simp) _ rfl (fun w0 O0 => ?_)
    repeat (first | refine n1 ?_ | refine n2 (fun b _ => ?_) | refine n3 (fun _ _ => ?_) | refine n4 ?_ | refine n5 ?_ | refine n6 (hk) ?_ | refine n6v (hk) ?_ | refine WL_nil ?_ | refine W_seq ?_ | refine W_region ?_ | refine n7 ?_ | refine n8 ?_ | refine W_block ?_ | refine W_skip ?_ | refine W_ret ?_ | refine W_exit ?_ | refine WQ_then ?_ | refine WQ_then_ret ?_ | refine WQ_then_exit ?_ | refine WQ_block_normal ?_ | refine WQ_block_ret ?_ | refine WQ_block_exit ?_ | refine n9 ?_)
    ((apply ret1 Try.results41 ( ())); (focus (first | trivial | assumption | omega)); (focus (first | exact RV_tmp rfl | (apply RV_cellN; exact rfl; (repeat' (first | exact Pick.head _ _ | apply Pick.tail)); (intro _; exact rfl); (intro _; exact rfl); exact rfl) | (apply RV_cell1; exact rfl; (repeat' (first | exact Pick.head _ _ | apply Pick.tail)); (intro _; exact rfl); exact rfl)));  (focus (first | exact rfl | (simp; done))); (focus (repeat (first | exact SubO.nil _ | (apply SubO.cons; (focus (repeat' (first | exact Pick.head _ _ | apply Pick.tail))))))); (focus (repeat (first | exact AllE.nil _ | (apply AllE.cons; (focus (first | exact ent_nilBy | exact ent_nilSl | (apply Ent.mem; repeat' (first | exact mcs | apply mct)))))))))
  | true =>
    rw [h1] at hk
    cases h3 : listB l with
    | false =>
      rw [h3] at w1
      refine Ct_intro Try.func41 rfl Try.ntmps41 (by simp) _ rfl (fun w0 O0 => ?_)
      repeat (first | refine n1 ?_ | refine n2 (fun b _ => ?_) | refine n3 (fun _ _ => ?_) | refine n4 ?_ | refine n5 ?_ | refine n6 (hk) ?_ | refine n6 (w1) ?_ | refine n6v (hk) ?_ | refine n6v (w1) ?_ | refine WL_nil ?_ | refine W_seq ?_ | refine W_region ?_ | refine n7 ?_ | refine n8 ?_ | refine W_block ?_ | refine W_skip ?_ | refine W_ret ?_ | refine W_exit ?_ | refine WQ_then ?_ | refine WQ_then_ret ?_ | refine WQ_then_exit ?_ | refine WQ_block_normal ?_ | refine WQ_block_ret ?_ | refine WQ_block_exit ?_ | refine n9 ?_)
      ((apply ret1 Try.results41 ( ())); (focus (first | trivial | assumption | omega)); (focus (first | exact RV_tmp rfl | (apply RV_cellN; exact rfl; (repeat' (first | exact Pick.head _ _ | apply Pick.tail)); (intro _; exact rfl); (intro _; exact rfl); exact rfl) | (apply RV_cell1; exact rfl; (repeat' (first | exact Pick.head _ _ | apply Pick.tail)); (intro _; exact rfl); exact rfl)));  (focus (first | exact rfl | (simp; done))); (focus (repeat (first | exact SubO.nil _ | (apply SubO.cons; (focus (repeat' (first | exact Pick.head _ _ | apply Pick.tail))))))); (focus (repeat (first | exact AllE.nil _ | (apply AllE.cons; (focus (first | exact ent_nilBy | exact ent_nilSl | (apply Ent.mem; repeat' (first | exact mcs | apply mct)))))))))
    | true =>
      rw [h3] at w1
      cases h2 : inB now s.since 1099511627776 with
      | false =>
        rw [h2] at w2
        refine Ct_intro Try.func41 rfl Try.ntmps41 (by simp) _ rfl (fun w0 O0 => ?_)
        repeat (first | refine n1 ?_ | refine n2 (fun b _ => ?_) | refine n3 (fun _ _ => ?_) | refine n4 ?_ | refine n5 ?_ | refine n6 (hk) ?_ | refine n6 (w1) ?_ | refine n6 (w2) ?_ | refine n6v (hk) ?_ | refine n6v (w1) ?_ | refine n6v (w2) ?_ | refine WL_nil ?_ | refine W_seq ?_ | refine W_region ?_ | refine n7 ?_ | refine n8 ?_ | refine W_block ?_ | refine W_skip ?_ | refine W_ret ?_ | refine W_exit ?_ | refine WQ_then ?_ | refine WQ_then_ret ?_ | refine WQ_then_exit ?_ | refine WQ_block_normal ?_ | refine WQ_block_ret ?_ | refine WQ_block_exit ?_ | refine n9 ?_)
        ((apply ret1 Try.results41 ( ())); (focus (first | trivial | assumption | omega)); (focus (first | exact RV_tmp rfl | (apply RV_cellN; exact rfl; (repeat' (first | exact Pick.head _ _ | apply Pick.tail)); (intro _; exact rfl); (intro _; exact rfl); exact rfl) | (apply RV_cell1; exact rfl; (repeat' (first | exact Pick.head _ _ | apply Pick.tail)); (intro _; exact rfl); exact rfl)));  (focus (first | exact rfl | (simp; done))); (focus (repeat (first | exact SubO.nil _ | (apply SubO.cons; (focus (repeat' (first | exact Pick.head _ _ | apply Pick.tail))))))); (focus (repeat (first | exact AllE.nil _ | (apply AllE.cons; (focus (first | exact ent_nilBy | exact ent_nilSl | (apply Ent.mem; repeat' (first | exact mcs | apply mct)))))))))
      | true =>
        rw [h2] at w2
        refine Ct_intro Try.func41 rfl Try.ntmps41 (by simp) _ rfl (fun w0 O0 => ?_)
        repeat (first | refine n1 ?_ | refine n2 (fun b _ => ?_) | refine n3 (fun _ _ => ?_) | refine n4 ?_ | refine n5 ?_ | refine n6 (hk) ?_ | refine n6 (w1) ?_ | refine n6 (w2) ?_ | refine n6v (hk) ?_ | refine n6v (w1) ?_ | refine n6v (w2) ?_ | refine WL_nil ?_ | refine W_seq ?_ | refine W_region ?_ | refine n7 ?_ | refine n8 ?_ | refine W_block ?_ | refine W_skip ?_ | refine W_ret ?_ | refine W_exit ?_ | refine WQ_then ?_ | refine WQ_then_ret ?_ | refine WQ_then_exit ?_ | refine WQ_block_normal ?_ | refine WQ_block_ret ?_ | refine WQ_block_exit ?_ | refine n9 ?_)
        ((apply ret1 Try.results41 ( ())); (focus (first | trivial | assumption | omega)); (focus (first | exact RV_tmp rfl | (apply RV_cellN; exact rfl; (repeat' (first | exact Pick.head _ _ | apply Pick.tail)); (intro _; exact rfl); (intro _; exact rfl); exact rfl) | (apply RV_cell1; exact rfl; (repeat' (first | exact Pick.head _ _ | apply Pick.tail)); (intro _; exact rfl); exact rfl)));  (focus (first | exact rfl | (simp; done))); (focus (repeat (first | exact SubO.nil _ | (apply SubO.cons; (focus (repeat' (first | exact Pick.head _ _ | apply Pick.tail))))))); (focus (repeat (first | exact AllE.nil _ | (apply AllE.cons; (focus (first | exact ent_nilBy | exact ent_nilSl | (apply Ent.mem; repeat' (first | exact mcs | apply mct)))))))))

set_option maxRecDepth 100000 in
theorem rcand_fn (s : Stt) (n : Nea) (now : Int) : CtD Try.prog 63 [s.val, n.val, .int .i64 now] [s.fact] (.bool (candB s now n)) := by
  have hb := rbarred_fn s n.pt now
  unfold candB
  by_cases h1 : n.pt = s.pt
  · rw [decide_eq_true h1]
    refine Ct_intro Try.func63 rfl Try.ntmps63 (by simp) _ rfl (fun w0 O0 => ?_)
    repeat (first | refine n1 ?_ | refine n2 (fun b _ => ?_) | refine n3 (fun _ _ => ?_) | refine n4 ?_ | refine n5 ?_ | refine WL_nil ?_ | refine W_seq ?_ | refine W_region ?_ | refine n7 ?_ | refine n8 ?_ | refine W_block ?_ | refine W_skip ?_ | refine W_ret ?_ | refine W_exit ?_ | refine WQ_then ?_ | refine WQ_then_ret ?_ | refine WQ_then_exit ?_ | refine WQ_block_normal ?_ | refine WQ_block_ret ?_ | refine WQ_block_exit ?_ | refine n9 ?_)
    ((apply ret1 Try.results63 ( ())); (focus (first | trivial | assumption | omega)); (focus (first | exact RV_tmp rfl | (apply RV_cellN; exact rfl; (repeat' (first | exact Pick.head _ _ | apply Pick.tail)); (intro _; exact rfl); (intro _; exact rfl); exact rfl) | (apply RV_cell1; exact rfl; (repeat' (first | exact Pick.head _ _ | apply Pick.tail)); (intro _; exact rfl); exact rfl)));  (focus (first | exact rfl | (simp; done))); (focus (repeat (first | exact SubO.nil _ | (apply SubO.cons; (focus (repeat' (first | exact Pick.head _ _ | apply Pick.tail))))))); (focus (repeat (first | exact AllE.nil _ | (apply AllE.cons; (focus (first | exact ent_nilBy | exact ent_nilSl | (apply Ent.mem; repeat' (first | exact mcs | apply mct)))))))))
  · rw [decide_eq_false h1]
    generalize barredB s n.pt now = bb at *
    cases bb
    · refine Ct_intro Try.func63 rfl Try.ntmps63 (by simp) _ rfl (fun w0 O0 => ?_)
      repeat (first | refine n1 ?_ | refine n2 (fun b _ => ?_) | refine n3 (fun _ _ => ?_) | refine n4 ?_ | refine n5 ?_ | refine n6 (hb) ?_ | refine n6v (hb) ?_ | refine WL_nil ?_ | refine W_seq ?_ | refine W_region ?_ | refine n7 ?_ | refine n8 ?_ | refine W_block ?_ | refine W_skip ?_ | refine W_ret ?_ | refine W_exit ?_ | refine WQ_then ?_ | refine WQ_then_ret ?_ | refine WQ_then_exit ?_ | refine WQ_block_normal ?_ | refine WQ_block_ret ?_ | refine WQ_block_exit ?_ | refine n9 ?_)
      ((apply ret1 Try.results63 ( ())); (focus (first | trivial | assumption | omega)); (focus (first | exact RV_tmp rfl | (apply RV_cellN; exact rfl; (repeat' (first | exact Pick.head _ _ | apply Pick.tail)); (intro _; exact rfl); (intro _; exact rfl); exact rfl) | (apply RV_cell1; exact rfl; (repeat' (first | exact Pick.head _ _ | apply Pick.tail)); (intro _; exact rfl); exact rfl)));  (focus (first | exact rfl | (simp; done))); (focus (repeat (first | exact SubO.nil _ | (apply SubO.cons; (focus (repeat' (first | exact Pick.head _ _ | apply Pick.tail))))))); (focus (repeat (first | exact AllE.nil _ | (apply AllE.cons; (focus (first | exact ent_nilBy | exact ent_nilSl | (apply Ent.mem; repeat' (first | exact mcs | apply mct)))))))))
    · refine Ct_intro Try.func63 rfl Try.ntmps63 (by simp) _ rfl (fun w0 O0 => ?_)
      repeat (first | refine n1 ?_ | refine n2 (fun b _ => ?_) | refine n3 (fun _ _ => ?_) | refine n4 ?_ | refine n5 ?_ | refine n6 (hb) ?_ | refine n6v (hb) ?_ | refine WL_nil ?_ | refine W_seq ?_ | refine W_region ?_ | refine n7 ?_ | refine n8 ?_ | refine W_block ?_ | refine W_skip ?_ | refine W_ret ?_ | refine W_exit ?_ | refine WQ_then ?_ | refine WQ_then_ret ?_ | refine WQ_then_exit ?_ | refine WQ_block_normal ?_ | refine WQ_block_ret ?_ | refine WQ_block_exit ?_ | refine n9 ?_)
      ((apply ret1 Try.results63 ( ())); (focus (first | trivial | assumption | omega)); (focus (first | exact RV_tmp rfl | (apply RV_cellN; exact rfl; (repeat' (first | exact Pick.head _ _ | apply Pick.tail)); (intro _; exact rfl); (intro _; exact rfl); exact rfl) | (apply RV_cell1; exact rfl; (repeat' (first | exact Pick.head _ _ | apply Pick.tail)); (intro _; exact rfl); exact rfl)));  (focus (first | exact rfl | (simp; done))); (focus (repeat (first | exact SubO.nil _ | (apply SubO.cons; (focus (repeat' (first | exact Pick.head _ _ | apply Pick.tail))))))); (focus (repeat (first | exact AllE.nil _ | (apply AllE.cons; (focus (first | exact ent_nilBy | exact ent_nilSl | (apply Ent.mem; repeat' (first | exact mcs | apply mct)))))))))
/-- better, by the reference. -/
def rbetB (p : Pla) (a b : Nea) : Bool := if scB p a = scB p b then decide (cmpA a.pt b.pt < 0) else decide (scB p b < scB p a)
theorem rbet_eq {p : Pla} {a b : Nea} (ha : scB p a = scI p a) (hb : scB p b = scI p b) : rbetB p a b = betB p a b := by
  unfold rbetB betB cmpA cmpN
  rw [ha, hb]
  by_cases h : scI p a = scI p b
  · rw [if_pos h]
    by_cases h1 : numA a.pt < numA b.pt
    · rw [if_pos h1, decide_eq_true (p := (scI p b < scI p a ∨ scI p a = scI p b ∧ numA a.pt < numA b.pt)) (.inr ⟨h, h1⟩)]; rfl
    · rw [if_neg h1]
      rw [decide_eq_false (p := (scI p b < scI p a ∨ _)) (by rintro (h2 | ⟨_, h2⟩) <;> omega)]
      by_cases h2 : numA b.pt < numA a.pt
      · rw [if_pos h2]; rfl
      · rw [if_neg h2]; rfl
  · rw [if_neg h]
    by_cases h1 : scI p b < scI p a
    · rw [decide_eq_true h1, decide_eq_true (p := (scI p b < scI p a ∨ scI p a = scI p b ∧ numA a.pt < numA b.pt)) (.inl h1)]
    · rw [decide_eq_false h1, decide_eq_false (p := (scI p b < scI p a ∨ _)) (by rintro (h2 | ⟨h2, _⟩) <;> omega)]
set_option maxRecDepth 100000 in
theorem rbet_fn (p : Pla) (a b : Nea) : CtD Try.prog 64 [p.val, a.val, b.val] [] (.bool (rbetB p a b)) := by
  have h1 := rscore_fn p a
  have h2 := rscore_fn p b
  have h3 := rcmp_fn a.pt b.pt
  unfold rbetB
  generalize scB p a = x at *
  generalize scB p b = y at *
  by_cases c1 : x = y
  · rw [if_pos c1]
    generalize cmpA a.pt b.pt = z at *
    by_cases c2 : z < 0
    · rw [decide_eq_true c2]
      refine Ct_intro Try.func64 rfl Try.ntmps64 (by simp) _ rfl (fun w0 O0 => ?_)
      repeat (first | refine n1 ?_ | refine n2 (fun b _ => ?_) | refine n3 (fun _ _ => ?_) | refine n4 ?_ | refine n5 ?_ | refine WL_nil ?_ | refine W_seq ?_ | refine W_region ?_ | refine n7 ?_ | refine n8 ?_ | refine W_block ?_ | refine W_skip ?_ | refine W_ret ?_ | refine W_exit ?_ | refine WQ_then ?_ | refine WQ_then_ret ?_ | refine WQ_then_exit ?_ | refine WQ_block_normal ?_ | refine WQ_block_ret ?_ | refine WQ_block_exit ?_ | refine n9 ?_)
      (refine W_regionP' [] [] [0, 1, 2, 3, 4, 5, 6] [] (by kernel_rfl) (by kernel_rfl) (by repeat (first | exact UZ.nil _ _ | (apply UZ.cons; exact rfl; (intro _; exact rfl)))) (by exact rfl) (by (repeat (first | exact SubO.nil _ | (apply SubO.cons; (focus (repeat' (first | exact Pick.head _ _ | apply Pick.tail))))))) ?_)
      repeat (first | refine p1 ?_ | refine p2 (fun b _ => ?_) | refine p3 (fun _ _ => ?_) | refine p4 ?_ | refine p5 ?_ | refine p6 (h1) ?_ | refine p6 (h2) ?_ | refine p6v (h1) ?_ | refine p6v (h2) ?_ | refine p7 (fun b => ?_) | refine PL_nil ?_)
      repeat (first | refine n1 ?_ | refine n2 (fun b _ => ?_) | refine n3 (fun _ _ => ?_) | refine n4 ?_ | refine n5 ?_ | refine n6 (h3) ?_ | refine n6v (h3) ?_ | refine WL_nil ?_ | refine W_seq ?_ | refine W_region ?_ | refine n7 ?_ | refine n8 ?_ | refine W_block ?_ | refine W_skip ?_ | refine W_ret ?_ | refine W_exit ?_ | refine WQ_then ?_ | refine WQ_then_ret ?_ | refine WQ_then_exit ?_ | refine WQ_block_normal ?_ | refine WQ_block_ret ?_ | refine WQ_block_exit ?_ | refine n9 ?_)
      ((apply ret1 Try.results64 ( ())); (focus (first | trivial | assumption | omega)); (focus (first | exact RV_tmp rfl | (apply RV_cellN; exact rfl; (repeat' (first | exact Pick.head _ _ | apply Pick.tail)); (intro _; exact rfl); (intro _; exact rfl); exact rfl) | (apply RV_cell1; exact rfl; (repeat' (first | exact Pick.head _ _ | apply Pick.tail)); (intro _; exact rfl); exact rfl)));  (focus (first | exact rfl | (simp; done))); (focus (repeat (first | exact SubO.nil _ | (apply SubO.cons; (focus (repeat' (first | exact Pick.head _ _ | apply Pick.tail))))))); (focus (repeat (first | exact AllE.nil _ | (apply AllE.cons; (focus (first | exact ent_nilBy | exact ent_nilSl | (apply Ent.mem; repeat' (first | exact mcs | apply mct)))))))))
    · rw [decide_eq_false c2]
      refine Ct_intro Try.func64 rfl Try.ntmps64 (by simp) _ rfl (fun w0 O0 => ?_)
      repeat (first | refine n1 ?_ | refine n2 (fun b _ => ?_) | refine n3 (fun _ _ => ?_) | refine n4 ?_ | refine n5 ?_ | refine WL_nil ?_ | refine W_seq ?_ | refine W_region ?_ | refine n7 ?_ | refine n8 ?_ | refine W_block ?_ | refine W_skip ?_ | refine W_ret ?_ | refine W_exit ?_ | refine WQ_then ?_ | refine WQ_then_ret ?_ | refine WQ_then_exit ?_ | refine WQ_block_normal ?_ | refine WQ_block_ret ?_ | refine WQ_block_exit ?_ | refine n9 ?_)
      (refine W_regionP' [] [] [0, 1, 2, 3, 4, 5, 6] [] (by kernel_rfl) (by kernel_rfl) (by repeat (first | exact UZ.nil _ _ | (apply UZ.cons; exact rfl; (intro _; exact rfl)))) (by exact rfl) (by (repeat (first | exact SubO.nil _ | (apply SubO.cons; (focus (repeat' (first | exact Pick.head _ _ | apply Pick.tail))))))) ?_)
      repeat (first | refine p1 ?_ | refine p2 (fun b _ => ?_) | refine p3 (fun _ _ => ?_) | refine p4 ?_ | refine p5 ?_ | refine p6 (h1) ?_ | refine p6 (h2) ?_ | refine p6v (h1) ?_ | refine p6v (h2) ?_ | refine p7 (fun b => ?_) | refine PL_nil ?_)
      repeat (first | refine n1 ?_ | refine n2 (fun b _ => ?_) | refine n3 (fun _ _ => ?_) | refine n4 ?_ | refine n5 ?_ | refine n6 (h3) ?_ | refine n6v (h3) ?_ | refine WL_nil ?_ | refine W_seq ?_ | refine W_region ?_ | refine n7 ?_ | refine n8 ?_ | refine W_block ?_ | refine W_skip ?_ | refine W_ret ?_ | refine W_exit ?_ | refine WQ_then ?_ | refine WQ_then_ret ?_ | refine WQ_then_exit ?_ | refine WQ_block_normal ?_ | refine WQ_block_ret ?_ | refine WQ_block_exit ?_ | refine n9 ?_)
      ((apply ret1 Try.results64 ( ())); (focus (first | trivial | assumption | omega)); (focus (first | exact RV_tmp rfl | (apply RV_cellN; exact rfl; (repeat' (first | exact Pick.head _ _ | apply Pick.tail)); (intro _; exact rfl); (intro _; exact rfl); exact rfl) | (apply RV_cell1; exact rfl; (repeat' (first | exact Pick.head _ _ | apply Pick.tail)); (intro _; exact rfl); exact rfl)));  (focus (first | exact rfl | (simp; done))); (focus (repeat (first | exact SubO.nil _ | (apply SubO.cons; (focus (repeat' (first | exact Pick.head _ _ | apply Pick.tail))))))); (focus (repeat (first | exact AllE.nil _ | (apply AllE.cons; (focus (first | exact ent_nilBy | exact ent_nilSl | (apply Ent.mem; repeat' (first | exact mcs | apply mct)))))))))
  · rw [if_neg c1]
    by_cases c2 : y < x
    · rw [decide_eq_true c2]
      refine Ct_intro Try.func64 rfl Try.ntmps64 (by simp) _ rfl (fun w0 O0 => ?_)
      repeat (first | refine n1 ?_ | refine n2 (fun b _ => ?_) | refine n3 (fun _ _ => ?_) | refine n4 ?_ | refine n5 ?_ | refine WL_nil ?_ | refine W_seq ?_ | refine W_region ?_ | refine n7 ?_ | refine n8 ?_ | refine W_block ?_ | refine W_skip ?_ | refine W_ret ?_ | refine W_exit ?_ | refine WQ_then ?_ | refine WQ_then_ret ?_ | refine WQ_then_exit ?_ | refine WQ_block_normal ?_ | refine WQ_block_ret ?_ | refine WQ_block_exit ?_ | refine n9 ?_)
      (refine W_regionP' [] [] [0, 1, 2, 3, 4, 5, 6] [] (by kernel_rfl) (by kernel_rfl) (by repeat (first | exact UZ.nil _ _ | (apply UZ.cons; exact rfl; (intro _; exact rfl)))) (by exact rfl) (by (repeat (first | exact SubO.nil _ | (apply SubO.cons; (focus (repeat' (first | exact Pick.head _ _ | apply Pick.tail))))))) ?_)
      repeat (first | refine p1 ?_ | refine p2 (fun b _ => ?_) | refine p3 (fun _ _ => ?_) | refine p4 ?_ | refine p5 ?_ | refine p6 (h1) ?_ | refine p6 (h2) ?_ | refine p6v (h1) ?_ | refine p6v (h2) ?_ | refine p7 (fun b => ?_) | refine PL_nil ?_)
      repeat (first | refine n1 ?_ | refine n2 (fun b _ => ?_) | refine n3 (fun _ _ => ?_) | refine n4 ?_ | refine n5 ?_ | refine WL_nil ?_ | refine W_seq ?_ | refine W_region ?_ | refine n7 ?_ | refine n8 ?_ | refine W_block ?_ | refine W_skip ?_ | refine W_ret ?_ | refine W_exit ?_ | refine WQ_then ?_ | refine WQ_then_ret ?_ | refine WQ_then_exit ?_ | refine WQ_block_normal ?_ | refine WQ_block_ret ?_ | refine WQ_block_exit ?_ | refine n9 ?_)
      (refine W_regionP' [] [] [0, 1, 2, 3, 4, 5, 6, 7] [] (by kernel_rfl) (by kernel_rfl) (by repeat (first | exact UZ.nil _ _ | (apply UZ.cons; exact rfl; (intro _; exact rfl)))) (by exact rfl) (by (repeat (first | exact SubO.nil _ | (apply SubO.cons; (focus (repeat' (first | exact Pick.head _ _ | apply Pick.tail))))))) ?_)
      repeat (first | refine p1 ?_ | refine p2 (fun b _ => ?_) | refine p3 (fun _ _ => ?_) | refine p4 ?_ | refine p5 ?_ | refine p6 (h1) ?_ | refine p6 (h2) ?_ | refine p6v (h1) ?_ | refine p6v (h2) ?_ | refine p7 (fun b => ?_) | refine PL_nil ?_)
      repeat (first | refine n1 ?_ | refine n2 (fun b _ => ?_) | refine n3 (fun _ _ => ?_) | refine n4 ?_ | refine n5 ?_ | refine WL_nil ?_ | refine W_seq ?_ | refine W_region ?_ | refine n7 ?_ | refine n8 ?_ | refine W_block ?_ | refine W_skip ?_ | refine W_ret ?_ | refine W_exit ?_ | refine WQ_then ?_ | refine WQ_then_ret ?_ | refine WQ_then_exit ?_ | refine WQ_block_normal ?_ | refine WQ_block_ret ?_ | refine WQ_block_exit ?_ | refine n9 ?_)
      ((apply ret1 Try.results64 ( ())); (focus (first | trivial | assumption | omega)); (focus (first | exact RV_tmp rfl | (apply RV_cellN; exact rfl; (repeat' (first | exact Pick.head _ _ | apply Pick.tail)); (intro _; exact rfl); (intro _; exact rfl); exact rfl) | (apply RV_cell1; exact rfl; (repeat' (first | exact Pick.head _ _ | apply Pick.tail)); (intro _; exact rfl); exact rfl)));  (focus (first | exact rfl | (simp; done))); (focus (repeat (first | exact SubO.nil _ | (apply SubO.cons; (focus (repeat' (first | exact Pick.head _ _ | apply Pick.tail))))))); (focus (repeat (first | exact AllE.nil _ | (apply AllE.cons; (focus (first | exact ent_nilBy | exact ent_nilSl | (apply Ent.mem; repeat' (first | exact mcs | apply mct)))))))))
    · rw [decide_eq_false c2]
      refine Ct_intro Try.func64 rfl Try.ntmps64 (by simp) _ rfl (fun w0 O0 => ?_)
      repeat (first | refine n1 ?_ | refine n2 (fun b _ => ?_) | refine n3 (fun _ _ => ?_) | refine n4 ?_ | refine n5 ?_ | refine WL_nil ?_ | refine W_seq ?_ | refine W_region ?_ | refine n7 ?_ | refine n8 ?_ | refine W_block ?_ | refine W_skip ?_ | refine W_ret ?_ | refine W_exit ?_ | refine WQ_then ?_ | refine WQ_then_ret ?_ | refine WQ_then_exit ?_ | refine WQ_block_normal ?_ | refine WQ_block_ret ?_ | refine WQ_block_exit ?_ | refine n9 ?_)
      (refine W_regionP' [] [] [0, 1, 2, 3, 4, 5, 6] [] (by kernel_rfl) (by kernel_rfl) (by repeat (first | exact UZ.nil _ _ | (apply UZ.cons; exact rfl; (intro _; exact rfl)))) (by exact rfl) (by (repeat (first | exact SubO.nil _ | (apply SubO.cons; (focus (repeat' (first | exact Pick.head _ _ | apply Pick.tail))))))) ?_)
      repeat (first | refine p1 ?_ | refine p2 (fun b _ => ?_) | refine p3 (fun _ _ => ?_) | refine p4 ?_ | refine p5 ?_ | refine p6 (h1) ?_ | refine p6 (h2) ?_ | refine p6v (h1) ?_ | refine p6v (h2) ?_ | refine p7 (fun b => ?_) | refine PL_nil ?_)
      repeat (first | refine n1 ?_ | refine n2 (fun b _ => ?_) | refine n3 (fun _ _ => ?_) | refine n4 ?_ | refine n5 ?_ | refine WL_nil ?_ | refine W_seq ?_ | refine W_region ?_ | refine n7 ?_ | refine n8 ?_ | refine W_block ?_ | refine W_skip ?_ | refine W_ret ?_ | refine W_exit ?_ | refine WQ_then ?_ | refine WQ_then_ret ?_ | refine WQ_then_exit ?_ | refine WQ_block_normal ?_ | refine WQ_block_ret ?_ | refine WQ_block_exit ?_ | refine n9 ?_)
      (refine W_regionP' [] [] [0, 1, 2, 3, 4, 5, 6, 7] [] (by kernel_rfl) (by kernel_rfl) (by repeat (first | exact UZ.nil _ _ | (apply UZ.cons; exact rfl; (intro _; exact rfl)))) (by exact rfl) (by (repeat (first | exact SubO.nil _ | (apply SubO.cons; (focus (repeat' (first | exact Pick.head _ _ | apply Pick.tail))))))) ?_)
      repeat (first | refine p1 ?_ | refine p2 (fun b _ => ?_) | refine p3 (fun _ _ => ?_) | refine p4 ?_ | refine p5 ?_ | refine p6 (h1) ?_ | refine p6 (h2) ?_ | refine p6v (h1) ?_ | refine p6v (h2) ?_ | refine p7 (fun b => ?_) | refine PL_nil ?_)
      repeat (first | refine n1 ?_ | refine n2 (fun b _ => ?_) | refine n3 (fun _ _ => ?_) | refine n4 ?_ | refine n5 ?_ | refine WL_nil ?_ | refine W_seq ?_ | refine W_region ?_ | refine n7 ?_ | refine n8 ?_ | refine W_block ?_ | refine W_skip ?_ | refine W_ret ?_ | refine W_exit ?_ | refine WQ_then ?_ | refine WQ_then_ret ?_ | refine WQ_then_exit ?_ | refine WQ_block_normal ?_ | refine WQ_block_ret ?_ | refine WQ_block_exit ?_ | refine n9 ?_)
      ((apply ret1 Try.results64 ( ())); (focus (first | trivial | assumption | omega)); (focus (first | exact RV_tmp rfl | (apply RV_cellN; exact rfl; (repeat' (first | exact Pick.head _ _ | apply Pick.tail)); (intro _; exact rfl); (intro _; exact rfl); exact rfl) | (apply RV_cell1; exact rfl; (repeat' (first | exact Pick.head _ _ | apply Pick.tail)); (intro _; exact rfl); exact rfl)));  (focus (first | exact rfl | (simp; done))); (focus (repeat (first | exact SubO.nil _ | (apply SubO.cons; (focus (repeat' (first | exact Pick.head _ _ | apply Pick.tail))))))); (focus (repeat (first | exact AllE.nil _ | (apply AllE.cons; (focus (first | exact ent_nilBy | exact ent_nilSl | (apply Ent.mem; repeat' (first | exact mcs | apply mct)))))))))

set_option maxRecDepth 100000 in
set_option maxHeartbeats 4000000 in
theorem cands_fn (s : Stt) (v : Value) (l : List Nea) (now : Int) (hs : vStB s = true) (hl : l.length ≤ 32) : Ct Try.prog 55 [s.val, v, .int .i64 now] [] [s.fact, Rw 9 v l.length (fun i => (l.getD i n0_).cells)]
    (X := Value) (fun _ => True) (fun x => x) (fun x => [.row x 61 9 (candL s l now).length (fcN (candL s l now))]) (fun _ => []) := by
  obtain ⟨m1, ⟨m3, m3'⟩, m2, m4, m4', m5⟩ := vSt_mid hs
  by_cases c0 : now < s.since + s.plan.stay
  · have e0 : candL s l now = [] := if_pos c0
    rw [e0]
    refine Ct_intro Try.func55 rfl Try.ntmps55 (by simp) _ rfl (fun w0 O0 => ?_)
    repeat (first | refine n1 ?_ | refine n2 (fun b _ => ?_) | refine n3 (fun _ _ => ?_) | refine n4 ?_ | refine n5 ?_ | refine WL_nil ?_ | refine W_seq ?_ | refine W_region ?_ | refine n7 ?_ | refine n8 ?_ | refine W_block ?_ | refine W_skip ?_ | refine W_ret ?_ | refine W_exit ?_ | refine WQ_then ?_ | refine WQ_then_ret ?_ | refine WQ_then_exit ?_ | refine WQ_block_normal ?_ | refine WQ_block_ret ?_ | refine WQ_block_exit ?_ | refine n9 ?_)
    apply WQ_nilRow 61 9
    ((apply ret1 Try.results55 ( Value.slice none 0 0)); (focus (first | trivial | assumption | omega)); (focus (first | exact RV_tmp rfl | (apply RV_cellN; exact rfl; (repeat' (first | exact Pick.head _ _ | apply Pick.tail)); (intro _; exact rfl); (intro _; exact rfl); exact rfl) | (apply RV_cell1; exact rfl; (repeat' (first | exact Pick.head _ _ | apply Pick.tail)); (intro _; exact rfl); exact rfl)));  (focus (first | exact rfl | (simp; done))); (focus (repeat (first | exact SubO.nil _ | (apply SubO.cons; (focus (repeat' (first | exact Pick.head _ _ | apply Pick.tail))))))); (focus (repeat (first | exact AllE.nil _ | (apply AllE.cons; (focus (first | exact ent_nilBy | exact ent_nilSl | (apply Ent.mem; repeat' (first | exact mcs | apply mct)))))))))
  · have e0 : candL s l now = l.filter (candB s now) := if_neg c0
    rw [e0]
    have hfl : ∀ x, ((l.take x).filter (candB s now)).length ≤ 32 := fun x => by
      refine Nat.le_trans (List.length_filter_le _ _) ?_
      rw [List.length_take]
      omega
    refine Ct_intro Try.func55 rfl Try.ntmps55 (by simp) _ rfl (fun w0 O0 => ?_)
    repeat (first | refine n1 ?_ | refine n2 (fun b _ => ?_) | refine n3 (fun _ _ => ?_) | refine n4 ?_ | refine n5 ?_ | refine WL_nil ?_ | refine W_seq ?_ | refine W_region ?_ | refine n7 ?_ | refine n8 ?_ | refine W_block ?_ | refine W_skip ?_ | refine W_ret ?_ | refine W_exit ?_ | refine WQ_then ?_ | refine WQ_then_ret ?_ | refine WQ_then_exit ?_ | refine WQ_block_normal ?_ | refine WQ_block_ret ?_ | refine WQ_block_exit ?_ | refine n9 ?_)
    apply W_nilRow 61 9
    ((apply W_loopK (X := Nat × Value) [6, 8, 19] [0] (fun x => x.1 ≤ l.length) (fun x => [(6, x.2), (19, .int .i64 (x.1 : Int))]) (fun x => [.row x.2 61 9 ((l.take x.1).filter (candB s now)).length (fcN ((l.take x.1).filter (candB s now)))]) (fun _ => []) (fun x => l.length - x.1) ((0, .slice none 0 0))); (focus exact Nat.zero_le _); exact rfl; exact rfl; (intro _; exact rfl); (intro _; exact rfl); (intro _; exact rfl); (focus (repeat (first | exact FrIn.nil _ | (apply FrIn.cons; exact rfl; (first | exact rfl | (congr 1; first | omega | (dsimp only; omega)) | (simp; done)))))); (focus (repeat (first | exact SubO.nil _ | (apply SubO.cons; (focus (repeat' (first | exact Pick.head _ _ | apply Pick.tail))))))); (focus (repeat (first | exact AllE.nil _ | (apply AllE.cons; (focus (first | exact ent_nilBy | exact ent_nilSl | (apply Ent.mem; repeat' (first | exact mcs | apply mct)))))))); intro x hx)
    obtain ⟨x, o⟩ := x
    replace hx : x ≤ l.length := hx
    dsimp only
    have hfx := hfl x
    by_cases c1 : x < l.length
    · have hbx := barredS_fn s (l.getD x n0_).pt now
      have hb0 : candB s now (l.getD x n0_) = (!(decide ((l.getD x n0_).pt = s.pt)) && !barredB s (l.getD x n0_).pt now) := rfl
      by_cases c2 : (l.getD x n0_).pt = s.pt
      · have hno := cand_out c1 (show candB s now (l.getD x n0_) = false by rw [hb0, decide_eq_true c2]; rfl)
        repeat (first | refine n1 ?_ | refine n2 (fun b _ => ?_) | refine n3 (fun _ _ => ?_) | refine n4 ?_ | refine n5 ?_ | refine WL_nil ?_ | refine W_seq ?_ | refine W_region ?_ | refine n7 ?_ | refine n8 ?_ | refine W_block ?_ | refine W_skip ?_ | refine W_ret ?_ | refine W_exit ?_ | refine WQ_then ?_ | refine WQ_then_ret ?_ | refine WQ_then_exit ?_ | refine WQ_block_normal ?_ | refine WQ_block_ret ?_ | refine WQ_block_exit ?_ | refine n9 ?_)
        rw [← hno]
        ((apply WQ_again ((x + 1, o))); (focus exact c1); (focus (exact (show l.length - (x + 1) < l.length - x by omega))); (focus (repeat (first | exact FrIn.nil _ | (apply FrIn.cons; exact rfl; (first | exact rfl | (congr 1; first | omega | (dsimp only; omega)) | (simp; done)))))); (focus (repeat (first | exact SubO.nil _ | (apply SubO.cons; (focus (repeat' (first | exact Pick.head _ _ | apply Pick.tail))))))); (focus (repeat (first | exact AllE.nil _ | (apply AllE.cons; (focus (first | exact ent_nilBy | exact ent_nilSl | (apply Ent.mem; repeat' (first | exact mcs | apply mct)))))))))
      · cases c3 : barredB s (l.getD x n0_).pt now with
        | true =>
          rw [c3] at hbx
          have hno := cand_out c1 (show candB s now (l.getD x n0_) = false by rw [hb0, c3, Bool.not_true, Bool.and_false])
          repeat (first | refine n1 ?_ | refine n2 (fun b _ => ?_) | refine n3 (fun _ _ => ?_) | refine n4 ?_ | refine n5 ?_ | refine n6 (hbx) ?_ | refine n6v (hbx) ?_ | refine WL_nil ?_ | refine W_seq ?_ | refine W_region ?_ | refine n7 ?_ | refine n8 ?_ | refine W_block ?_ | refine W_skip ?_ | refine W_ret ?_ | refine W_exit ?_ | refine WQ_then ?_ | refine WQ_then_ret ?_ | refine WQ_then_exit ?_ | refine WQ_block_normal ?_ | refine WQ_block_ret ?_ | refine WQ_block_exit ?_ | refine n9 ?_)
          rw [← hno]
          ((apply WQ_again ((x + 1, o))); (focus exact c1); (focus (exact (show l.length - (x + 1) < l.length - x by omega))); (focus (repeat (first | exact FrIn.nil _ | (apply FrIn.cons; exact rfl; (first | exact rfl | (congr 1; first | omega | (dsimp only; omega)) | (simp; done)))))); (focus (repeat (first | exact SubO.nil _ | (apply SubO.cons; (focus (repeat' (first | exact Pick.head _ _ | apply Pick.tail))))))); (focus (repeat (first | exact AllE.nil _ | (apply AllE.cons; (focus (first | exact ent_nilBy | exact ent_nilSl | (apply Ent.mem; repeat' (first | exact mcs | apply mct)))))))))
        | false =>
          rw [c3] at hbx
          have hno := cand_in c1 (show candB s now (l.getD x n0_) = true by rw [hb0, c3, decide_eq_false c2]; rfl)
          repeat (first | refine n1 ?_ | refine n2 (fun b _ => ?_) | refine n3 (fun _ _ => ?_) | refine n4 ?_ | refine n5 ?_ | refine n6 (hbx) ?_ | refine n6v (hbx) ?_ | refine WL_nil ?_ | refine W_seq ?_ | refine W_region ?_ | refine n7 ?_ | refine n8 ?_ | refine W_block ?_ | refine W_skip ?_ | refine W_ret ?_ | refine W_exit ?_ | refine WQ_then ?_ | refine WQ_then_ret ?_ | refine WQ_then_exit ?_ | refine WQ_block_normal ?_ | refine WQ_block_ret ?_ | refine WQ_block_exit ?_ | refine n9 ?_)
          (apply WL_effs; exact rfl; exact rfl; exact rfl; (apply E_buildSlice; exact rfl; (focus (repeat (first | apply SeqE.nil | (apply SeqE.cons; exact rfl; (focus (first | (apply CellsE.lit; exact rfl) | (apply CellsE.one; (first | (apply OneC.lit; exact rfl) | (apply OneC.by_; (repeat' (first | exact mcs | apply mct)); done) | (apply OneC.sl; (repeat' (first | exact mcs | apply mct)); done) | (apply OneC.rw; (repeat' (first | exact mcs | apply mct)); done) | (apply OneC.row; (repeat' (first | exact Pick.head _ _ | apply Pick.tail))))))); exact rfl) | exact rfl))); exact rfl; (first | (intro _; exact (rfl : _ = Result.ok 1 _)) | (intro _; exact (rfl : _ = Result.ok 2 _)) | (intro _; exact (rfl : _ = Result.ok 3 _)) | (intro _; exact (rfl : _ = Result.ok 4 _)) | (intro _; exact (rfl : _ = Result.ok 5 _)) | (intro _; exact (rfl : _ = Result.ok 6 _)) | (intro _; exact (rfl : _ = Result.ok 7 _)) | (intro _; exact (rfl : _ = Result.ok 8 _)) | (intro _; exact (rfl : _ = Result.ok 9 _)) | (intro _; exact (rfl : _ = Result.ok 13 _)) | (intro _; exact (rfl : _ = Result.ok 14 _)) | (intro _; exact (rfl : _ = Result.ok 26 _)) | (intro _; exact (rfl : _ = Result.ok 40 _)) | (intro _; exact (rfl : _ = Result.ok 41 _)) | (intro _; exact (rfl : _ = Result.ok 42 _)) | (intro _; exact (rfl : _ = Result.ok 43 _)) | (intro _; exact (rfl : _ = Result.ok 44 _)) | (intro _; exact (rfl : _ = Result.ok 45 _)) | (intro _; exact (rfl : _ = Result.ok 46 _))); (intro _; exact rfl); exact rfl; exact Nat.le_of_ble_eq_true rfl; exact Nat.le_of_ble_eq_true rfl); skip)
          intro q _
          refine WL_effs rfl rfl rfl (E_appendRow (news := (l.getD x n0_).cells) (nm := ((l.take (x + 1)).filter (candB s now)).length) (all := fcN ((l.take (x + 1)).filter (candB s now))) rfl rfl (by repeat' (first | exact Pick.head _ _ | apply Pick.tail)) (by repeat' (first | exact Pick.head _ _ | apply Pick.tail)) rfl rfl rfl rfl rfl (Nat.le_of_ble_eq_true rfl) (nea_one (l.getD x n0_)) (Nat.le_of_ble_eq_true rfl) (by omega) (by rw [hno, List.length_append]; rfl) (by rw [hno]; exact fcN_snoc _ _)) ?_
          intro r _
          repeat (first | refine n1 ?_ | refine n2 (fun b _ => ?_) | refine n3 (fun _ _ => ?_) | refine n4 ?_ | refine n5 ?_ | refine WL_nil ?_ | refine W_seq ?_ | refine W_region ?_ | refine n7 ?_ | refine n8 ?_ | refine W_block ?_ | refine W_skip ?_ | refine W_ret ?_ | refine W_exit ?_ | refine WQ_then ?_ | refine WQ_then_ret ?_ | refine WQ_then_exit ?_ | refine WQ_block_normal ?_ | refine WQ_block_ret ?_ | refine WQ_block_exit ?_ | refine n9 ?_)
          ((apply WQ_again ((x + 1, r))); (focus exact c1); (focus (exact (show l.length - (x + 1) < l.length - x by omega))); (focus (repeat (first | exact FrIn.nil _ | (apply FrIn.cons; exact rfl; (first | exact rfl | (congr 1; first | omega | (dsimp only; omega)) | (simp; done)))))); (focus (repeat (first | exact SubO.nil _ | (apply SubO.cons; (focus (repeat' (first | exact Pick.head _ _ | apply Pick.tail))))))); (focus (repeat (first | exact AllE.nil _ | (apply AllE.cons; (focus (first | exact ent_nilBy | exact ent_nilSl | (apply Ent.mem; repeat' (first | exact mcs | apply mct)))))))))
    · obtain rfl : x = l.length := by omega
      rw [List.take_length]
      repeat (first | refine n1 ?_ | refine n2 (fun b _ => ?_) | refine n3 (fun _ _ => ?_) | refine n4 ?_ | refine n5 ?_ | refine WL_nil ?_ | refine W_seq ?_ | refine W_region ?_ | refine n7 ?_ | refine n8 ?_ | refine W_block ?_ | refine W_skip ?_ | refine W_ret ?_ | refine W_exit ?_ | refine WQ_then ?_ | refine WQ_then_ret ?_ | refine WQ_then_exit ?_ | refine WQ_block_normal ?_ | refine WQ_block_ret ?_ | refine WQ_block_exit ?_ | refine n9 ?_)
      ((apply ret1 Try.results55 ( o)); (focus (first | trivial | assumption | omega)); (focus (first | exact RV_tmp rfl | (apply RV_cellN; exact rfl; (repeat' (first | exact Pick.head _ _ | apply Pick.tail)); (intro _; exact rfl); (intro _; exact rfl); exact rfl) | (apply RV_cell1; exact rfl; (repeat' (first | exact Pick.head _ _ | apply Pick.tail)); (intro _; exact rfl); exact rfl)));  (focus (first | exact rfl | (simp; done))); (focus (repeat (first | exact SubO.nil _ | (apply SubO.cons; (focus (repeat' (first | exact Pick.head _ _ | apply Pick.tail))))))); (focus (repeat (first | exact AllE.nil _ | (apply AllE.cons; (focus (first | exact ent_nilBy | exact ent_nilSl | (apply Ent.mem; repeat' (first | exact mcs | apply mct)))))))))
end Go.Proofs.Ytlfghljgilmenaa
