/-
  States of stations: 'Check', the reference's 'Valid', 'Barred'.
-/
import Derived.Test.YtlfghljgilmenaaVSb
namespace Go.Proofs.Ytlfghljgilmenaa
open Go Go.RowKit Go.Hs

def lastOf (l : List Vis) : Nat → Int
  | 0 => 0
  | i + 1 => (l.getD i v0_).left
def twice (l : List Vis) (i k : Nat) : Bool := decide ((l.getD k v0_).pt = (l.getD i v0_).pt)
def goodB (l : List Vis) (since : Int) (pt : A6) (i : Nat) : Bool := !(anyQ i (twice l i)) && (!decide ((l.getD i v0_).pt = pt) && inB (l.getD i v0_).left (lastOf l i) since)
def vStB (s : Stt) : Bool := vPlanB s.plan && (inB s.since 0 1099511627776 && (decide (s.past.length ≤ 32) && (List.range s.past.length).all (goodB s.past s.since s.pt)))
theorem goodB_iff {l : List Vis} {since : Int} {pt : A6} {i : Nat} : goodB l since pt i = true ↔ anyQ i (twice l i) = false ∧ ¬ (l.getD i v0_).pt = pt ∧ inB (l.getD i v0_).left (lastOf l i) since = true := by
  simp [goodB]
theorem vStB_iff {s : Stt} : vStB s = true ↔ vPlanB s.plan = true ∧ inB s.since 0 1099511627776 = true ∧ s.past.length ≤ 32 ∧ ∀ i, i < s.past.length → goodB s.past s.since s.pt i = true := by
  simp only [vStB, Bool.and_eq_true, decide_eq_true_eq, List.all_eq_true, List.mem_range]
theorem last_ge {l : List Vis} {since : Int} {pt : A6} : ∀ {i : Nat}, (∀ j, j < i → goodB l since pt j = true) → 0 ≤ lastOf l i
  | 0, _ => Int.le_refl 0
  | i + 1, h => by
    have h1 := (goodB_iff.1 (h i (Nat.lt_succ_self _))).2.2
    have h2 := last_ge (i := i) (fun j hj => h j (by omega))
    simp only [inB, decide_eq_true_eq] at h1
    show 0 ≤ (l.getD i v0_).left
    omega
def chkE (s : Stt) : Int := if vStB s then 0 else 8
theorem vSt_f {s : Stt} (h : ¬ (vPlanB s.plan = true ∧ inB s.since 0 1099511627776 = true ∧ s.past.length ≤ 32 ∧ ∀ i, i < s.past.length → goodB s.past s.since s.pt i = true)) : vStB s = false := by
  cases e : vStB s
  · rfl
  · exact absurd (vStB_iff.1 e) h
attribute [local irreducible] WL W WQ PL Runs Effs AllE Ent SubO FrIn Pick OneC Ones CellsE PartsE SeqE UZ By Sl Pt Ct

set_option maxRecDepth 100000 in
set_option maxHeartbeats 8000000 in
theorem check_fn (s : Stt) : CtD Try.prog 16 [s.val] [s.fact] (.int .i64 (chkE s)) := by
  have w1 := plan_fn s.plan
  have w2 := within_fn s.since 0 1099511627776
  unfold chkE
  cases b1 : vPlanB s.plan with
  | false =>
    rw [b1] at w1
    rw [vSt_f (fun h => by rw [b1] at h; cases h.1)]
    refine Ct_intro Try.func16 rfl Try.ntmps16 (by simp) _ rfl (fun w0 O0 => ?_)
    repeat (first | refine n1 ?_ | refine n2 (fun b _ => ?_) | refine n3 (fun _ _ => ?_) | refine n4 ?_ | refine n5 ?_ | refine n6 (w1) ?_ | refine n6v (w1) ?_ | refine WL_nil ?_ | refine W_seq ?_ | refine W_region ?_ | refine n7 ?_ | refine n8 ?_ | refine W_block ?_ | refine W_skip ?_ | refine W_ret ?_ | refine W_exit ?_ | refine WQ_then ?_ | refine WQ_then_ret ?_ | refine WQ_then_exit ?_ | refine WQ_block_normal ?_ | refine WQ_block_ret ?_ | refine WQ_block_exit ?_ | refine n9 ?_)
    ((apply ret1 Try.results16 ( ())); (focus (first | trivial | assumption | omega)); (focus (first | exact RV_tmp rfl | (apply RV_cellN; exact rfl; (repeat' (first | exact Pick.head _ _ | apply Pick.tail)); (intro _; exact rfl); (intro _; exact rfl); exact rfl) | (apply RV_cell1; exact rfl; (repeat' (first | exact Pick.head _ _ | apply Pick.tail)); (intro _; exact rfl); exact rfl)));  (focus (first | exact rfl | (simp; done))); (focus (repeat (first | exact SubO.nil _ | (apply SubO.cons; (focus (repeat' (first | exact Pick.head _ _ | apply Pick.tail))))))); (focus (repeat (first | exact AllE.nil _ | (apply AllE.cons; (focus (first | exact ent_nilBy | exact ent_nilSl | (apply Ent.mem; repeat' (first | exact mcs | apply mct)))))))))
  | true =>
    rw [b1] at w1
    cases b2 : inB s.since 0 1099511627776 with
    | false =>
      rw [b2] at w2
      rw [vSt_f (fun h => by rw [b2] at h; cases h.2.1)]
      refine Ct_intro Try.func16 rfl Try.ntmps16 (by simp) _ rfl (fun w0 O0 => ?_)
      repeat (first | refine n1 ?_ | refine n2 (fun b _ => ?_) | refine n3 (fun _ _ => ?_) | refine n4 ?_ | refine n5 ?_ | refine n6 (w1) ?_ | refine n6 (w2) ?_ | refine n6v (w1) ?_ | refine n6v (w2) ?_ | refine WL_nil ?_ | refine W_seq ?_ | refine W_region ?_ | refine n7 ?_ | refine n8 ?_ | refine W_block ?_ | refine W_skip ?_ | refine W_ret ?_ | refine W_exit ?_ | refine WQ_then ?_ | refine WQ_then_ret ?_ | refine WQ_then_exit ?_ | refine WQ_block_normal ?_ | refine WQ_block_ret ?_ | refine WQ_block_exit ?_ | refine n9 ?_)
      ((apply ret1 Try.results16 ( ())); (focus (first | trivial | assumption | omega)); (focus (first | exact RV_tmp rfl | (apply RV_cellN; exact rfl; (repeat' (first | exact Pick.head _ _ | apply Pick.tail)); (intro _; exact rfl); (intro _; exact rfl); exact rfl) | (apply RV_cell1; exact rfl; (repeat' (first | exact Pick.head _ _ | apply Pick.tail)); (intro _; exact rfl); exact rfl)));  (focus (first | exact rfl | (simp; done))); (focus (repeat (first | exact SubO.nil _ | (apply SubO.cons; (focus (repeat' (first | exact Pick.head _ _ | apply Pick.tail))))))); (focus (repeat (first | exact AllE.nil _ | (apply AllE.cons; (focus (first | exact ent_nilBy | exact ent_nilSl | (apply Ent.mem; repeat' (first | exact mcs | apply mct)))))))))
    | true =>
      rw [b2] at w2
      by_cases b3 : 32 < s.past.length
      · rw [vSt_f (fun h => by have := h.2.2.1; omega)]
        refine Ct_intro Try.func16 rfl Try.ntmps16 (by simp) _ rfl (fun w0 O0 => ?_)
        repeat (first | refine n1 ?_ | refine n2 (fun b _ => ?_) | refine n3 (fun _ _ => ?_) | refine n4 ?_ | refine n5 ?_ | refine n6 (w1) ?_ | refine n6 (w2) ?_ | refine n6v (w1) ?_ | refine n6v (w2) ?_ | refine WL_nil ?_ | refine W_seq ?_ | refine W_region ?_ | refine n7 ?_ | refine n8 ?_ | refine W_block ?_ | refine W_skip ?_ | refine W_ret ?_ | refine W_exit ?_ | refine WQ_then ?_ | refine WQ_then_ret ?_ | refine WQ_then_exit ?_ | refine WQ_block_normal ?_ | refine WQ_block_ret ?_ | refine WQ_block_exit ?_ | refine n9 ?_)
        ((apply ret1 Try.results16 ( ())); (focus (first | trivial | assumption | omega)); (focus (first | exact RV_tmp rfl | (apply RV_cellN; exact rfl; (repeat' (first | exact Pick.head _ _ | apply Pick.tail)); (intro _; exact rfl); (intro _; exact rfl); exact rfl) | (apply RV_cell1; exact rfl; (repeat' (first | exact Pick.head _ _ | apply Pick.tail)); (intro _; exact rfl); exact rfl)));  (focus (first | exact rfl | (simp; done))); (focus (repeat (first | exact SubO.nil _ | (apply SubO.cons; (focus (repeat' (first | exact Pick.head _ _ | apply Pick.tail))))))); (focus (repeat (first | exact AllE.nil _ | (apply AllE.cons; (focus (first | exact ent_nilBy | exact ent_nilSl | (apply Ent.mem; repeat' (first | exact mcs | apply mct)))))))))
      · refine Ct_intro Try.func16 rfl Try.ntmps16 (by simp) _ rfl (fun w0 O0 => ?_)
        repeat (first | refine n1 ?_ | refine n2 (fun b _ => ?_) | refine n3 (fun _ _ => ?_) | refine n4 ?_ | refine n5 ?_ | refine n6 (w1) ?_ | refine n6 (w2) ?_ | refine n6v (w1) ?_ | refine n6v (w2) ?_ | refine WL_nil ?_ | refine W_seq ?_ | refine W_region ?_ | refine n7 ?_ | refine n8 ?_ | refine W_block ?_ | refine W_skip ?_ | refine W_ret ?_ | refine W_exit ?_ | refine WQ_then ?_ | refine WQ_then_ret ?_ | refine WQ_then_exit ?_ | refine WQ_block_normal ?_ | refine WQ_block_ret ?_ | refine WQ_block_exit ?_ | refine n9 ?_)
        ((apply W_loopK (X := Nat) [3, 4, 5, 6, 26] [] (fun x => x ≤ s.past.length ∧ ∀ j, j < x → goodB s.past s.since s.pt j = true) (fun x => [(3, .int .i64 (lastOf s.past x)), (26, .int .i64 (x : Int))]) (fun _ => []) (fun _ => []) (fun x => s.past.length - x) (0)); (focus (exact ⟨Nat.zero_le _, fun j hj => absurd hj (by omega)⟩)); exact rfl; exact rfl; (intro _; exact rfl); (intro _; exact rfl); (intro _; exact rfl); (focus (repeat (first | exact FrIn.nil _ | (apply FrIn.cons; exact rfl; (first | exact rfl | (congr 1; first | omega | (dsimp only; omega)) | (simp; done)))))); (focus (repeat (first | exact SubO.nil _ | (apply SubO.cons; (focus (repeat' (first | exact Pick.head _ _ | apply Pick.tail))))))); (focus (repeat (first | exact AllE.nil _ | (apply AllE.cons; (focus (first | exact ent_nilBy | exact ent_nilSl | (apply Ent.mem; repeat' (first | exact mcs | apply mct)))))))); intro x hx)
        obtain ⟨hx, hg⟩ := hx
        by_cases c1 : x < s.past.length
        · repeat (first | refine n1 ?_ | refine n2 (fun b _ => ?_) | refine n3 (fun _ _ => ?_) | refine n4 ?_ | refine n5 ?_ | refine WL_nil ?_ | refine W_seq ?_ | refine W_region ?_ | refine n7 ?_ | refine n8 ?_ | refine W_block ?_ | refine W_skip ?_ | refine W_ret ?_ | refine W_exit ?_ | refine WQ_then ?_ | refine WQ_then_ret ?_ | refine WQ_then_exit ?_ | refine WQ_block_normal ?_ | refine WQ_block_ret ?_ | refine WQ_block_exit ?_ | refine n9 ?_)
          obtain ⟨b5, rfl⟩ : ∃ b5, b5 = b := ⟨b, rfl⟩
          refine WL_letgoK (b := b5) (by repeat' (first | exact Pick.head _ _ | apply Pick.tail)) ?_
          refine WL_runsF rfl rfl rfl (R_cutRw (lo := 0) (hi := x) (m := x) (f' := fun i => (s.past.getD i v0_).cells) rfl (n := s.past.length) (f := fun i => (s.past.getD i v0_).cells) (by repeat' (first | exact mcs | apply mct)) rfl (by intro _; exact rfl) rfl rfl rfl rfl (Nat.zero_le _) hx rfl (fun i _ => by rw [Nat.zero_add])) ?_
          repeat (first | refine n1 ?_ | refine n2 (fun b _ => ?_) | refine n3 (fun _ _ => ?_) | refine n4 ?_ | refine n5 ?_ | refine WL_nil ?_ | refine W_seq ?_ | refine W_region ?_ | refine n7 ?_ | refine n8 ?_ | refine W_block ?_ | refine W_skip ?_ | refine W_ret ?_ | refine W_exit ?_ | refine WQ_then ?_ | refine WQ_then_ret ?_ | refine WQ_then_exit ?_ | refine WQ_block_normal ?_ | refine WQ_block_ret ?_ | refine WQ_block_exit ?_ | refine n9 ?_)
          refine WL_ent (ent_cj (Ψ := [Pt (.pointer (some ⟨b5, 0, none⟩)) (s.past.getD x v0_).cells]) (AllE.cons (Ent.mem (by repeat' (first | exact mcs | apply mct))) (AllE.nil _))) ?_
          have hc := containsV_fn (cutV 7 0 x s.pv) s.past x hx 47 (by intro _ _; simp) [.pointer (some ⟨b5, 0, none⟩)] (cj [Pt (.pointer (some ⟨b5, 0, none⟩)) (s.past.getD x v0_).cells]) (twice s.past x) (fun i hi => CtD.one (check1_fn (s.past.getD i v0_) (s.past.getD x v0_) (.pointer (some ⟨b5, 0, none⟩))))
          have w3 := within_fn (s.past.getD x v0_).left (lastOf s.past x) s.since
          cases d1 : anyQ x (twice s.past x) with
          | true =>
            rw [d1] at hc
            rw [vSt_f (fun h => by have := (goodB_iff.1 (h.2.2.2 x c1)).1; rw [d1] at this; cases this)]
            repeat (first | refine n1 ?_ | refine n2 (fun b _ => ?_) | refine n3 (fun _ _ => ?_) | refine n4 ?_ | refine n5 ?_ | refine n6 (hc) ?_ | refine n6v (hc) ?_ | refine WL_nil ?_ | refine W_seq ?_ | refine W_region ?_ | refine n7 ?_ | refine n8 ?_ | refine W_block ?_ | refine W_skip ?_ | refine W_ret ?_ | refine W_exit ?_ | refine WQ_then ?_ | refine WQ_then_ret ?_ | refine WQ_then_exit ?_ | refine WQ_block_normal ?_ | refine WQ_block_ret ?_ | refine WQ_block_exit ?_ | refine n9 ?_)
            ((apply ret1 Try.results16 ( ())); (focus (first | trivial | assumption | omega)); (focus (first | exact RV_tmp rfl | (apply RV_cellN; exact rfl; (repeat' (first | exact Pick.head _ _ | apply Pick.tail)); (intro _; exact rfl); (intro _; exact rfl); exact rfl) | (apply RV_cell1; exact rfl; (repeat' (first | exact Pick.head _ _ | apply Pick.tail)); (intro _; exact rfl); exact rfl)));  (focus (first | exact rfl | (simp; done))); (focus (repeat (first | exact SubO.nil _ | (apply SubO.cons; (focus (repeat' (first | exact Pick.head _ _ | apply Pick.tail))))))); (focus (repeat (first | exact AllE.nil _ | (apply AllE.cons; (focus (first | exact ent_nilBy | exact ent_nilSl | (apply Ent.mem; repeat' (first | exact mcs | apply mct)))))))))
          | false =>
            rw [d1] at hc
            by_cases d2 : (s.past.getD x v0_).pt = s.pt
            · rw [vSt_f (fun h => (goodB_iff.1 (h.2.2.2 x c1)).2.1 d2)]
              repeat (first | refine n1 ?_ | refine n2 (fun b _ => ?_) | refine n3 (fun _ _ => ?_) | refine n4 ?_ | refine n5 ?_ | refine n6 (hc) ?_ | refine n6v (hc) ?_ | refine WL_nil ?_ | refine W_seq ?_ | refine W_region ?_ | refine n7 ?_ | refine n8 ?_ | refine W_block ?_ | refine W_skip ?_ | refine W_ret ?_ | refine W_exit ?_ | refine WQ_then ?_ | refine WQ_then_ret ?_ | refine WQ_then_exit ?_ | refine WQ_block_normal ?_ | refine WQ_block_ret ?_ | refine WQ_block_exit ?_ | refine n9 ?_)
              ((apply ret1 Try.results16 ( ())); (focus (first | trivial | assumption | omega)); (focus (first | exact RV_tmp rfl | (apply RV_cellN; exact rfl; (repeat' (first | exact Pick.head _ _ | apply Pick.tail)); (intro _; exact rfl); (intro _; exact rfl); exact rfl) | (apply RV_cell1; exact rfl; (repeat' (first | exact Pick.head _ _ | apply Pick.tail)); (intro _; exact rfl); exact rfl)));  (focus (first | exact rfl | (simp; done))); (focus (repeat (first | exact SubO.nil _ | (apply SubO.cons; (focus (repeat' (first | exact Pick.head _ _ | apply Pick.tail))))))); (focus (repeat (first | exact AllE.nil _ | (apply AllE.cons; (focus (first | exact ent_nilBy | exact ent_nilSl | (apply Ent.mem; repeat' (first | exact mcs | apply mct)))))))))
            · cases d3 : inB (s.past.getD x v0_).left (lastOf s.past x) s.since with
              | false =>
                rw [d3] at w3
                rw [vSt_f (fun h => by have := (goodB_iff.1 (h.2.2.2 x c1)).2.2; rw [d3] at this; cases this)]
                repeat (first | refine n1 ?_ | refine n2 (fun b _ => ?_) | refine n3 (fun _ _ => ?_) | refine n4 ?_ | refine n5 ?_ | refine n6 (hc) ?_ | refine n6 (w3) ?_ | refine n6v (hc) ?_ | refine n6v (w3) ?_ | refine WL_nil ?_ | refine W_seq ?_ | refine W_region ?_ | refine n7 ?_ | refine n8 ?_ | refine W_block ?_ | refine W_skip ?_ | refine W_ret ?_ | refine W_exit ?_ | refine WQ_then ?_ | refine WQ_then_ret ?_ | refine WQ_then_exit ?_ | refine WQ_block_normal ?_ | refine WQ_block_ret ?_ | refine WQ_block_exit ?_ | refine n9 ?_)
                ((apply ret1 Try.results16 ( ())); (focus (first | trivial | assumption | omega)); (focus (first | exact RV_tmp rfl | (apply RV_cellN; exact rfl; (repeat' (first | exact Pick.head _ _ | apply Pick.tail)); (intro _; exact rfl); (intro _; exact rfl); exact rfl) | (apply RV_cell1; exact rfl; (repeat' (first | exact Pick.head _ _ | apply Pick.tail)); (intro _; exact rfl); exact rfl)));  (focus (first | exact rfl | (simp; done))); (focus (repeat (first | exact SubO.nil _ | (apply SubO.cons; (focus (repeat' (first | exact Pick.head _ _ | apply Pick.tail))))))); (focus (repeat (first | exact AllE.nil _ | (apply AllE.cons; (focus (first | exact ent_nilBy | exact ent_nilSl | (apply Ent.mem; repeat' (first | exact mcs | apply mct)))))))))
              | true =>
                rw [d3] at w3
                repeat (first | refine n1 ?_ | refine n2 (fun b _ => ?_) | refine n3 (fun _ _ => ?_) | refine n4 ?_ | refine n5 ?_ | refine n6 (hc) ?_ | refine n6 (w3) ?_ | refine n6v (hc) ?_ | refine n6v (w3) ?_ | refine WL_nil ?_ | refine W_seq ?_ | refine W_region ?_ | refine n7 ?_ | refine n8 ?_ | refine W_block ?_ | refine W_skip ?_ | refine W_ret ?_ | refine W_exit ?_ | refine WQ_then ?_ | refine WQ_then_ret ?_ | refine WQ_then_exit ?_ | refine WQ_block_normal ?_ | refine WQ_block_ret ?_ | refine WQ_block_exit ?_ | refine n9 ?_)
                have hn : x + 1 ≤ s.past.length ∧ ∀ j, j < x + 1 → goodB s.past s.since s.pt j = true := ⟨c1, fun j hj => by
                  by_cases e : j = x
                  · subst e; exact goodB_iff.2 ⟨d1, d2, d3⟩
                  · exact hg j (by omega)⟩
                ((apply WQ_again (x + 1)); (focus exact hn); (focus (omega)); (focus (repeat (first | exact FrIn.nil _ | (apply FrIn.cons; exact rfl; (first | exact rfl | (congr 1; first | omega | (dsimp only; omega)) | (simp; done)))))); (focus (repeat (first | exact SubO.nil _ | (apply SubO.cons; (focus (repeat' (first | exact Pick.head _ _ | apply Pick.tail))))))); (focus (repeat (first | exact AllE.nil _ | (apply AllE.cons; (focus (first | exact ent_nilBy | exact ent_nilSl | (apply Ent.mem; repeat' (first | exact mcs | apply mct)))))))))
        · obtain rfl : x = s.past.length := by omega
          rw [vStB_iff.2 ⟨b1, b2, by omega, hg⟩]
          repeat (first | refine n1 ?_ | refine n2 (fun b _ => ?_) | refine n3 (fun _ _ => ?_) | refine n4 ?_ | refine n5 ?_ | refine WL_nil ?_ | refine W_seq ?_ | refine W_region ?_ | refine n7 ?_ | refine n8 ?_ | refine W_block ?_ | refine W_skip ?_ | refine W_ret ?_ | refine W_exit ?_ | refine WQ_then ?_ | refine WQ_then_ret ?_ | refine WQ_then_exit ?_ | refine WQ_block_normal ?_ | refine WQ_block_ret ?_ | refine WQ_block_exit ?_ | refine n9 ?_)
          ((apply ret1 Try.results16 ( ())); (focus (first | trivial | assumption | omega)); (focus (first | exact RV_tmp rfl | (apply RV_cellN; exact rfl; (repeat' (first | exact Pick.head _ _ | apply Pick.tail)); (intro _; exact rfl); (intro _; exact rfl); exact rfl) | (apply RV_cell1; exact rfl; (repeat' (first | exact Pick.head _ _ | apply Pick.tail)); (intro _; exact rfl); exact rfl)));  (focus (first | exact rfl | (simp; done))); (focus (repeat (first | exact SubO.nil _ | (apply SubO.cons; (focus (repeat' (first | exact Pick.head _ _ | apply Pick.tail))))))); (focus (repeat (first | exact AllE.nil _ | (apply AllE.cons; (focus (first | exact ent_nilBy | exact ent_nilSl | (apply Ent.mem; repeat' (first | exact mcs | apply mct)))))))))
end Go.Proofs.Ytlfghljgilmenaa
