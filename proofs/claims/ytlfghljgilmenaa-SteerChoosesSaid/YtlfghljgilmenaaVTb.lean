/-
  'SteerChooses'.
-/
import Derived.Test.YtlfghljgilmenaaVTa
namespace Go.Proofs.Ytlfghljgilmenaa
open Go Go.RowKit Go.Hs
attribute [local irreducible] WL W WQ PL Runs Effs AllE Ent SubO FrIn Pick OneC Ones CellsE PartsE SeqE UZ By Sl Pt Ct

set_option maxRecDepth 100000 in
set_option maxHeartbeats 8000000 in
theorem choosesLaw_fn (s : Stt) (v : Value) (l : List Nea) (pt : A6) (now : Int) : CtD Try.prog 5 [s.val, v, aV pt, .int .i64 now] [s.fact, Rw 9 v l.length (fun i => (l.getD i n0_).cells)] (.bool true) := by
  by_cases b1 : 50 < s.past.length
  · refine Ct_intro Try.func5 rfl Try.ntmps5 (by simp) _ rfl (fun w0 O0 => ?_)
    repeat (first | refine n1 ?_ | refine n2 (fun b _ => ?_) | refine n3 (fun _ _ => ?_) | refine n4 ?_ | refine n5 ?_ | refine WL_nil ?_ | refine W_seq ?_ | refine W_region ?_ | refine n7 ?_ | refine n8 ?_ | refine W_block ?_ | refine W_skip ?_ | refine W_ret ?_ | refine W_exit ?_ | refine WQ_then ?_ | refine WQ_then_ret ?_ | refine WQ_then_exit ?_ | refine WQ_block_normal ?_ | refine WQ_block_ret ?_ | refine WQ_block_exit ?_ | refine n9 ?_)
    ((apply ret1 Try.results5 ( ())); (focus (first | trivial | assumption | omega)); (focus (first | exact RV_tmp rfl | (apply RV_cellN; exact rfl; (repeat' (first | exact Pick.head _ _ | apply Pick.tail)); (intro _; exact rfl); (intro _; exact rfl); exact rfl) | (apply RV_cell1; exact rfl; (repeat' (first | exact Pick.head _ _ | apply Pick.tail)); (intro _; exact rfl); exact rfl)));  (focus (first | exact rfl | (simp; done))); (focus (repeat (first | exact SubO.nil _ | (apply SubO.cons; (focus (repeat' (first | exact Pick.head _ _ | apply Pick.tail))))))); (focus (repeat (first | exact AllE.nil _ | (apply AllE.cons; (focus (first | exact ent_nilBy | exact ent_nilSl | (apply Ent.mem; repeat' (first | exact mcs | apply mct)))))))))
  · by_cases b2 : 50 < l.length
    · refine Ct_intro Try.func5 rfl Try.ntmps5 (by simp) _ rfl (fun w0 O0 => ?_)
      repeat (first | refine n1 ?_ | refine n2 (fun b _ => ?_) | refine n3 (fun _ _ => ?_) | refine n4 ?_ | refine n5 ?_ | refine WL_nil ?_ | refine W_seq ?_ | refine W_region ?_ | refine n7 ?_ | refine n8 ?_ | refine W_block ?_ | refine W_skip ?_ | refine W_ret ?_ | refine W_exit ?_ | refine WQ_then ?_ | refine WQ_then_ret ?_ | refine WQ_then_exit ?_ | refine WQ_block_normal ?_ | refine WQ_block_ret ?_ | refine WQ_block_exit ?_ | refine n9 ?_)
      ((apply ret1 Try.results5 ( ())); (focus (first | trivial | assumption | omega)); (focus (first | exact RV_tmp rfl | (apply RV_cellN; exact rfl; (repeat' (first | exact Pick.head _ _ | apply Pick.tail)); (intro _; exact rfl); (intro _; exact rfl); exact rfl) | (apply RV_cell1; exact rfl; (repeat' (first | exact Pick.head _ _ | apply Pick.tail)); (intro _; exact rfl); exact rfl)));  (focus (first | exact rfl | (simp; done))); (focus (repeat (first | exact SubO.nil _ | (apply SubO.cons; (focus (repeat' (first | exact Pick.head _ _ | apply Pick.tail))))))); (focus (repeat (first | exact AllE.nil _ | (apply AllE.cons; (focus (first | exact ent_nilBy | exact ent_nilSl | (apply Ent.mem; repeat' (first | exact mcs | apply mct)))))))))
    · have h1 := choose_fn s v l now
      have h2 := rchoose_fn s v l now
      have h3 := asked_fn s v l now
      have h4 := rasked_fn s v l now
      have h5 := barredS_fn s pt now
      have h6 := rbarred_fn s pt now
      generalize ptO (choO s l now) = ca at *
      generalize (choO s l now).isSome = cb at *
      generalize ptO (askO s l now) = aa at *
      generalize (askO s l now).isSome = ab at *
      generalize stopE s l now = e at *
      generalize barredB s pt now = bb at *
      have hs := fun n => score_fn s.plan n
      have hr := fun n => rscore_fn s.plan n
      cases cb <;> cases ab
      all_goals
        refine Ct_intro Try.func5 rfl Try.ntmps5 (by simp) _ rfl (fun w0 O0 => ?_)
        repeat (first | refine n1 ?_ | refine n2 (fun b _ => ?_) | refine n3 (fun _ _ => ?_) | refine n4 ?_ | refine n5 ?_ | refine n6 (h1) ?_ | refine n6 (h2) ?_ | refine n6 (h3) ?_ | refine n6 (h4) ?_ | refine n6v (h1) ?_ | refine n6v (h2) ?_ | refine n6v (h3) ?_ | refine n6v (h4) ?_ | refine WL_nil ?_ | refine W_seq ?_ | refine W_region ?_ | refine n7 ?_ | refine n8 ?_ | refine W_block ?_ | refine W_skip ?_ | refine W_ret ?_ | refine W_exit ?_ | refine WQ_then ?_ | refine WQ_then_ret ?_ | refine WQ_then_exit ?_ | refine WQ_block_normal ?_ | refine WQ_block_ret ?_ | refine WQ_block_exit ?_ | refine n9 ?_)
        ((apply W_loopK (X := Nat) [21] [] (fun x => x ≤ l.length) (fun x => [(21, .int .i64 (x : Int))]) (fun _ => []) (fun _ => []) (fun x => l.length - x) (0)); (focus exact Nat.zero_le _); exact rfl; exact rfl; (intro _; exact rfl); (intro _; exact rfl); (intro _; exact rfl); (focus (repeat (first | exact FrIn.nil _ | (apply FrIn.cons; exact rfl; (first | exact rfl | (congr 1; first | omega | (dsimp only; omega)) | (simp; done)))))); (focus (repeat (first | exact SubO.nil _ | (apply SubO.cons; (focus (repeat' (first | exact Pick.head _ _ | apply Pick.tail))))))); (focus (repeat (first | exact AllE.nil _ | (apply AllE.cons; (focus (first | exact ent_nilBy | exact ent_nilSl | (apply Ent.mem; repeat' (first | exact mcs | apply mct)))))))); intro x hx)
        by_cases c1 : x < l.length
        · have hsx := hs (l.getD x n0_)
          have hrx := hr (l.getD x n0_)
          generalize scB s.plan (l.getD x n0_) = sx at *
          repeat (first | refine n1 ?_ | refine n2 (fun b _ => ?_) | refine n3 (fun _ _ => ?_) | refine n4 ?_ | refine n5 ?_ | refine WL_nil ?_ | refine W_seq ?_ | refine W_region ?_ | refine n7 ?_ | refine n8 ?_ | refine W_block ?_ | refine W_skip ?_ | refine W_ret ?_ | refine W_exit ?_ | refine WQ_then ?_ | refine WQ_then_ret ?_ | refine WQ_then_exit ?_ | refine WQ_block_normal ?_ | refine WQ_block_ret ?_ | refine WQ_block_exit ?_ | refine n9 ?_)
          (refine W_regionP' [] [] [0, 1, 2, 3, 4, 5, 6, 7, 8, 9, 10, 11, 12, 13, 14] [] (by kernel_rfl) (by kernel_rfl) (by repeat (first | exact UZ.nil _ _ | (apply UZ.cons; exact rfl; (intro _; exact rfl)))) (by exact rfl) (by (repeat (first | exact SubO.nil _ | (apply SubO.cons; (focus (repeat' (first | exact Pick.head _ _ | apply Pick.tail))))))) ?_)
          repeat (first | refine p1 ?_ | refine p2 (fun b _ => ?_) | refine p3 (fun _ _ => ?_) | refine p4 ?_ | refine p5 ?_ | refine p6 (hsx) ?_ | refine p6 (hrx) ?_ | refine p6v (hsx) ?_ | refine p6v (hrx) ?_ | refine p7 (fun b => ?_) | refine PL_nil ?_)
          repeat (first | refine n1 ?_ | refine n2 (fun b _ => ?_) | refine n3 (fun _ _ => ?_) | refine n4 ?_ | refine n5 ?_ | refine WL_nil ?_ | refine W_seq ?_ | refine W_region ?_ | refine n7 ?_ | refine n8 ?_ | refine W_block ?_ | refine W_skip ?_ | refine W_ret ?_ | refine W_exit ?_ | refine WQ_then ?_ | refine WQ_then_ret ?_ | refine WQ_then_exit ?_ | refine WQ_block_normal ?_ | refine WQ_block_ret ?_ | refine WQ_block_exit ?_ | refine n9 ?_)
          ((apply WQ_again (x + 1)); (focus exact c1); (focus (omega)); (focus (repeat (first | exact FrIn.nil _ | (apply FrIn.cons; exact rfl; (first | exact rfl | (congr 1; first | omega | (dsimp only; omega)) | (simp; done)))))); (focus (repeat (first | exact SubO.nil _ | (apply SubO.cons; (focus (repeat' (first | exact Pick.head _ _ | apply Pick.tail))))))); (focus (repeat (first | exact AllE.nil _ | (apply AllE.cons; (focus (first | exact ent_nilBy | exact ent_nilSl | (apply Ent.mem; repeat' (first | exact mcs | apply mct)))))))))
        · cases bb
          all_goals
            repeat (first | refine n1 ?_ | refine n2 (fun b _ => ?_) | refine n3 (fun _ _ => ?_) | refine n4 ?_ | refine n5 ?_ | refine WL_nil ?_ | refine W_seq ?_ | refine W_region ?_ | refine n7 ?_ | refine n8 ?_ | refine W_block ?_ | refine W_skip ?_ | refine W_ret ?_ | refine W_exit ?_ | refine WQ_then ?_ | refine WQ_then_ret ?_ | refine WQ_then_exit ?_ | refine WQ_block_normal ?_ | refine WQ_block_ret ?_ | refine WQ_block_exit ?_ | refine n9 ?_)
            (refine W_regionP' [] [] [0, 1, 2, 3, 4, 5, 6, 7, 8, 9] [] (by kernel_rfl) (by kernel_rfl) (by repeat (first | exact UZ.nil _ _ | (apply UZ.cons; exact rfl; (intro _; exact rfl)))) (by exact rfl) (by (repeat (first | exact SubO.nil _ | (apply SubO.cons; (focus (repeat' (first | exact Pick.head _ _ | apply Pick.tail))))))) ?_)
            repeat (first | refine p1 ?_ | refine p2 (fun b _ => ?_) | refine p3 (fun _ _ => ?_) | refine p4 ?_ | refine p5 ?_ | refine p6 (h5) ?_ | refine p6 (h6) ?_ | refine p6v (h5) ?_ | refine p6v (h6) ?_ | refine p7 (fun b => ?_) | refine PL_nil ?_)
            repeat (first | refine n1 ?_ | refine n2 (fun b _ => ?_) | refine n3 (fun _ _ => ?_) | refine n4 ?_ | refine n5 ?_ | refine WL_nil ?_ | refine W_seq ?_ | refine W_region ?_ | refine n7 ?_ | refine n8 ?_ | refine W_block ?_ | refine W_skip ?_ | refine W_ret ?_ | refine W_exit ?_ | refine WQ_then ?_ | refine WQ_then_ret ?_ | refine WQ_then_exit ?_ | refine WQ_block_normal ?_ | refine WQ_block_ret ?_ | refine WQ_block_exit ?_ | refine n9 ?_)
            ((apply ret1 Try.results5 ( ())); (focus (first | trivial | assumption | omega)); (focus (first | exact RV_tmp rfl | (apply RV_cellN; exact rfl; (repeat' (first | exact Pick.head _ _ | apply Pick.tail)); (intro _; exact rfl); (intro _; exact rfl); exact rfl) | (apply RV_cell1; exact rfl; (repeat' (first | exact Pick.head _ _ | apply Pick.tail)); (intro _; exact rfl); exact rfl)));  (focus (first | exact rfl | (simp; done))); (focus (repeat (first | exact SubO.nil _ | (apply SubO.cons; (focus (repeat' (first | exact Pick.head _ _ | apply Pick.tail))))))); (focus (repeat (first | exact AllE.nil _ | (apply AllE.cons; (focus (first | exact ent_nilBy | exact ent_nilSl | (apply Ent.mem; repeat' (first | exact mcs | apply mct)))))))))
end Go.Proofs.Ytlfghljgilmenaa
