/-
  'HeaderEncodes'.
-/
import Derived.Test.YtbdcpahifcbcfaaVGi
namespace Go.Proofs.Ytbdcpahifcbcfaa
open Go Go.RowKit Go.Hs
def flip8 (b : UInt8) : UInt8 := b ^^^ 255
theorem xor_ff (b : UInt8) : bits .xor .u8 (b.toNat : Int) 255 = ((flip8 b).toNat : Int) := by
  have h : ∀ n : Fin 256, bits .xor .u8 (n.val : Int) 255 = ((flip8 (UInt8.ofNat n.val)).toNat : Int) := by decide +kernel
  have := h ⟨b.toNat, b.toNat_lt⟩
  simp only [UInt8.ofNat_toNat] at this
  exact this
/-- a body of which the first bytes are turned. -/
def turnB (xs : List UInt8) (k : Nat) : List UInt8 := (xs.take k).map flip8 ++ xs.drop k
theorem turn_length (xs : List UInt8) (k : Nat) : (turnB xs k).length = xs.length := by
  unfold turnB
  rw [List.length_append, List.length_map, List.length_take, List.length_drop]
  omega
theorem turn_get {xs : List UInt8} {k : Nat} (h : k < xs.length) : ((turnB xs k).map bcell)[k]? = some (bcell (xs.getD k 0)) := by
  unfold turnB
  rw [List.getElem?_map, List.getElem?_append_right (by rw [List.length_map, List.length_take]; omega), List.length_map, List.length_take, Nat.min_eq_left (Nat.le_of_lt h), Nat.sub_self, List.getElem?_drop, Nat.add_zero, List.getD_eq_getElem?_getD, List.getElem?_eq_getElem h]
  rfl
theorem turn_next {xs : List UInt8} {k : Nat} (h : k < xs.length) : ((turnB xs k).map bcell).set k (bcell (flip8 (xs.getD k 0))) = (turnB xs (k + 1)).map bcell := by
  have e : (turnB xs k).set k (flip8 (xs.getD k 0)) = turnB xs (k + 1) := by
    unfold turnB
    rw [List.set_append_right _ _ (by rw [List.length_map, List.length_take]; omega), List.length_map, List.length_take, Nat.min_eq_left (Nat.le_of_lt h), Nat.sub_self, List.take_succ_eq_append_getElem h, List.map_append, List.append_assoc]
    congr 1
    have : xs.drop k = xs[k] :: xs.drop (k + 1) := List.drop_eq_getElem_cons h
    rw [this, List.set_cons_zero, List.getD_eq_getElem?_getD, List.getElem?_eq_getElem h]
    rfl
  rw [← e, List.map_set]
attribute [local irreducible] WL W WQ PL Runs Effs AllE Ent SubO FrIn Pick OneC Ones CellsE PartsE SeqE UZ By Sl Pt Ct

set_option maxRecDepth 100000 in
set_option maxHeartbeats 16000000 in
theorem encLaw_fn (f g : Fm) (t : Int) (hf : f.head.w) (hg : g.head.w) : CtD Try.prog 4 [f.val, g.val, .int .i64 t] [f.fact, g.fact] (.bool true) := by
  have g1 := great_fn f
  have g2 := great_fn g
  by_cases b1 : 2400 < f.body.length
  · rw [decide_eq_true b1] at g1
    refine Ct_intro Try.func4 rfl Try.ntmps4 (by simp) _ rfl (fun w0 O0 => ?_)
    repeat (first | refine n1 ?_ | refine n2 (fun b _ => ?_) | refine n3 (fun _ _ => ?_) | refine n4 ?_ | refine n5 ?_ | refine n6 (g1) ?_ | refine n6v (g1) ?_ | refine WL_nil ?_ | refine W_seq ?_ | refine W_region ?_ | refine n7 ?_ | refine n8 ?_ | refine W_block ?_ | refine W_skip ?_ | refine W_ret ?_ | refine W_exit ?_ | refine WQ_then ?_ | refine WQ_then_ret ?_ | refine WQ_then_exit ?_ | refine WQ_block_normal ?_ | refine WQ_block_ret ?_ | refine WQ_block_exit ?_ | refine n9 ?_)
    ((apply ret1 Try.results4 ( ())); (focus (first | trivial | assumption | omega)); (focus (first | exact RV_tmp rfl | (apply RV_cellN; exact rfl; (repeat' (first | exact Pick.head _ _ | apply Pick.tail)); (intro _; exact rfl); (intro _; exact rfl); exact rfl) | (apply RV_cell1; exact rfl; (repeat' (first | exact Pick.head _ _ | apply Pick.tail)); (intro _; exact rfl); exact rfl)));  (focus (first | exact rfl | (simp; done))); (focus (repeat (first | exact SubO.nil _ | (apply SubO.cons; (focus (repeat' (first | exact Pick.head _ _ | apply Pick.tail))))))); (focus (repeat (first | exact AllE.nil _ | (apply AllE.cons; (focus (first | exact ent_nilBy | exact ent_nilSl | (apply Ent.mem; repeat' (first | exact mcs | apply mct)))))))))
  · rw [decide_eq_false b1] at g1
    by_cases b2 : 2400 < g.body.length
    · rw [decide_eq_true b2] at g2
      refine Ct_intro Try.func4 rfl Try.ntmps4 (by simp) _ rfl (fun w0 O0 => ?_)
      repeat (first | refine n1 ?_ | refine n2 (fun b _ => ?_) | refine n3 (fun _ _ => ?_) | refine n4 ?_ | refine n5 ?_ | refine n6 (g1) ?_ | refine n6 (g2) ?_ | refine n6v (g1) ?_ | refine n6v (g2) ?_ | refine WL_nil ?_ | refine W_seq ?_ | refine W_region ?_ | refine n7 ?_ | refine n8 ?_ | refine W_block ?_ | refine W_skip ?_ | refine W_ret ?_ | refine W_exit ?_ | refine WQ_then ?_ | refine WQ_then_ret ?_ | refine WQ_then_exit ?_ | refine WQ_block_normal ?_ | refine WQ_block_ret ?_ | refine WQ_block_exit ?_ | refine n9 ?_)
      ((apply ret1 Try.results4 ( ())); (focus (first | trivial | assumption | omega)); (focus (first | exact RV_tmp rfl | (apply RV_cellN; exact rfl; (repeat' (first | exact Pick.head _ _ | apply Pick.tail)); (intro _; exact rfl); (intro _; exact rfl); exact rfl) | (apply RV_cell1; exact rfl; (repeat' (first | exact Pick.head _ _ | apply Pick.tail)); (intro _; exact rfl); exact rfl)));  (focus (first | exact rfl | (simp; done))); (focus (repeat (first | exact SubO.nil _ | (apply SubO.cons; (focus (repeat' (first | exact Pick.head _ _ | apply Pick.tail))))))); (focus (repeat (first | exact AllE.nil _ | (apply AllE.cons; (focus (first | exact ent_nilBy | exact ent_nilSl | (apply Ent.mem; repeat' (first | exact mcs | apply mct)))))))))
    · rw [decide_eq_false b2] at g2
      have h1 := size_fn f.head hf
      have h2 := rsize_fn f.head hf
      have h3 := ends_fn f.head hf
      have h4 := rends_fn f.head hf
      have h5 := cat_fn t
      have h6 := rcat_fn t
      have h7 := check_fn f.head hf
      have h8 := rcheck_fn f.head hf
      have hen := encode_fn f hf (by omega)
      have htw := twin_fn f (by omega)
      have hrt := rtwin_fn f (by omega)
      have hre := fun w => rencode_fn ⟨f.head, w, f.body⟩ hf (show f.body.length ≤ 100000 by omega)
      dsimp only at hre
      have q1 := fun z w => rsame_fn ⟨f.head, z, f.body⟩ ⟨f.head, w, f.body⟩ hf hf
      have q2 := same_fn f g hf hg
      have q3 := fun w => rsame_fn ⟨f.head, w, f.body⟩ g hf hg
      have q4 := fun z => same_fn ⟨f.head, z, f.body⟩ f hf hf
      have q5 := fun w => rsame_fn f ⟨f.head, w, f.body⟩ hf hf
      dsimp only at q1 q3 q4 q5
      have s0 : sameB f.head f.head f.body f.body = true := by unfold sameB; rw [decide_eq_true rfl, decide_eq_true rfl]; rfl
      rw [s0] at q4 q5
      simp only [s0] at q1
      generalize sameB f.head g.head f.body g.body = sg at *
      generalize encE f.head f.body = ee at *
      generalize sizN f.head = sn at *
      generalize sizE f.head = se at *
      generalize endT f.head = et at *
      generalize endF f.head = ef at *
      generalize endE f.head = en at *
      generalize catV t = cv at *
      generalize catE t = ce at *
      generalize (if hdB f.head then (0 : Int) else 8) = ce2 at *
      refine Ct_intro Try.func4 rfl Try.ntmps4 (by simp) _ rfl (fun w0 O0 => ?_)
      repeat (first | refine n1 ?_ | refine n2 (fun b _ => ?_) | refine n3 (fun _ _ => ?_) | refine n4 ?_ | refine n5 ?_ | refine n6 (g1) ?_ | refine n6 (g2) ?_ | refine n6v (g1) ?_ | refine n6v (g2) ?_ | refine WL_nil ?_ | refine W_seq ?_ | refine W_region ?_ | refine n7 ?_ | refine n8 ?_ | refine W_block ?_ | refine W_skip ?_ | refine W_ret ?_ | refine W_exit ?_ | refine WQ_then ?_ | refine WQ_then_ret ?_ | refine WQ_then_exit ?_ | refine WQ_block_normal ?_ | refine WQ_block_ret ?_ | refine WQ_block_exit ?_ | refine n9 ?_)
      (apply WL_effs; exact rfl; exact rfl; exact rfl; apply E_call; exact rfl; (intro _ _; simp); exact hrt; (repeat (first | exact AllE.nil _ | (apply AllE.cons; (focus (first | exact ent_nilBy | exact ent_nilSl | (apply Ent.mem; repeat' (first | exact mcs | apply mct))))))); (intro _; exact rfl); (intro _; exact rfl))
      intro w _
      repeat (first | refine n1 ?_ | refine n2 (fun b _ => ?_) | refine n3 (fun _ _ => ?_) | refine n4 ?_ | refine n5 ?_ | refine WL_nil ?_ | refine W_seq ?_ | refine W_region ?_ | refine n7 ?_ | refine n8 ?_ | refine W_block ?_ | refine W_skip ?_ | refine W_ret ?_ | refine W_exit ?_ | refine WQ_then ?_ | refine WQ_then_ret ?_ | refine WQ_then_exit ?_ | refine WQ_block_normal ?_ | refine WQ_block_ret ?_ | refine WQ_block_exit ?_ | refine n9 ?_)
      (apply WL_effs; exact rfl; exact rfl; exact rfl; apply E_call; exact rfl; (intro _ _; simp); exact hen; (repeat (first | exact AllE.nil _ | (apply AllE.cons; (focus (first | exact ent_nilBy | exact ent_nilSl | (apply Ent.mem; repeat' (first | exact mcs | apply mct))))))); (intro _; exact rfl); (intro _; exact rfl))
      intro x1 _
      repeat (first | refine n1 ?_ | refine n2 (fun b _ => ?_) | refine n3 (fun _ _ => ?_) | refine n4 ?_ | refine n5 ?_ | refine WL_nil ?_ | refine W_seq ?_ | refine W_region ?_ | refine n7 ?_ | refine n8 ?_ | refine W_block ?_ | refine W_skip ?_ | refine W_ret ?_ | refine W_exit ?_ | refine WQ_then ?_ | refine WQ_then_ret ?_ | refine WQ_then_exit ?_ | refine WQ_block_normal ?_ | refine WQ_block_ret ?_ | refine WQ_block_exit ?_ | refine n9 ?_)
      (apply WL_effs; exact rfl; exact rfl; exact rfl; apply E_call; exact rfl; (intro _ _; simp); exact hre w; (repeat (first | exact AllE.nil _ | (apply AllE.cons; (focus (first | exact ent_nilBy | exact ent_nilSl | (apply Ent.mem; repeat' (first | exact mcs | apply mct))))))); (intro _; exact rfl); (intro _; exact rfl))
      intro x2 _
      repeat (first | refine n1 ?_ | refine n2 (fun b _ => ?_) | refine n3 (fun _ _ => ?_) | refine n4 ?_ | refine n5 ?_ | refine n6 (h1) ?_ | refine n6 (h2) ?_ | refine n6 (h3) ?_ | refine n6 (h4) ?_ | refine n6 (h5) ?_ | refine n6 (h6) ?_ | refine n6v (h1) ?_ | refine n6v (h2) ?_ | refine n6v (h3) ?_ | refine n6v (h4) ?_ | refine n6v (h5) ?_ | refine n6v (h6) ?_ | refine WL_nil ?_ | refine W_seq ?_ | refine W_region ?_ | refine n7 ?_ | refine n8 ?_ | refine W_block ?_ | refine W_skip ?_ | refine W_ret ?_ | refine W_exit ?_ | refine WQ_then ?_ | refine WQ_then_ret ?_ | refine WQ_then_exit ?_ | refine WQ_block_normal ?_ | refine WQ_block_ret ?_ | refine WQ_block_exit ?_ | refine n9 ?_)
      (apply WL_effs; exact rfl; exact rfl; exact rfl; apply E_call; exact rfl; (intro _ _; simp); exact htw; (repeat (first | exact AllE.nil _ | (apply AllE.cons; (focus (first | exact ent_nilBy | exact ent_nilSl | (apply Ent.mem; repeat' (first | exact mcs | apply mct))))))); (intro _; exact rfl); (intro _; exact rfl))
      intro z _
      repeat (first | refine n1 ?_ | refine n2 (fun b _ => ?_) | refine n3 (fun _ _ => ?_) | refine n4 ?_ | refine n5 ?_ | refine WL_nil ?_ | refine W_seq ?_ | refine W_region ?_ | refine n7 ?_ | refine n8 ?_ | refine W_block ?_ | refine W_skip ?_ | refine W_ret ?_ | refine W_exit ?_ | refine WQ_then ?_ | refine WQ_then_ret ?_ | refine WQ_then_exit ?_ | refine WQ_block_normal ?_ | refine WQ_block_ret ?_ | refine WQ_block_exit ?_ | refine n9 ?_)
      cases sg
      all_goals
        (refine W_regionP' [] [] [0, 1, 2, 3, 4, 5, 6, 7, 8, 9, 10, 11, 12, 13, 14, 15, 16, 17, 18, 19, 20, 21, 22, 23, 24, 25, 26, 27, 28, 29, 30, 31, 32, 33, 34, 35, 36, 37, 38, 39, 40, 41, 42, 43, 44, 45, 46, 47, 48, 49, 50, 51, 52, 53, 54, 55, 56, 57, 58, 59, 60, 61, 62, 63, 64, 65, 66, 67, 68, 69, 70, 71, 72, 73] [] (by kernel_rfl) (by kernel_rfl) (by repeat (first | exact UZ.nil _ _ | (apply UZ.cons; exact rfl; (intro _; exact rfl)))) (by exact rfl) (by (repeat (first | exact SubO.nil _ | (apply SubO.cons; (focus (repeat' (first | exact Pick.head _ _ | apply Pick.tail))))))) ?_)
        repeat (first | refine p1 ?_ | refine p2 (fun b _ => ?_) | refine p3 (fun _ _ => ?_) | refine p4 ?_ | refine p5 ?_ | refine p6 (h7) ?_ | refine p6 (h8) ?_ | refine p6 (q2) ?_ | refine p6 (q3 w) ?_ | refine p6v (h7) ?_ | refine p6v (h8) ?_ | refine p6v (q2) ?_ | refine p6v (q3 w) ?_ | refine p7 (fun b => ?_) | refine PL_nil ?_)
        refine PL_runs rfl rfl rfl rfl rfl (R_callB (Γb := [.row z 5 1 f.body.length (f.body.map bcell)]) rfl (by intro _ _; simp) (q1 z w) (perm1 (by repeat' (first | exact Pick.head _ _ | apply Pick.tail))) (Bor.sub (Bor.row (Γr := []) rfl) (AllIn.cons (by repeat' (first | exact mcs | apply mct)) (AllIn.cons (by repeat' (first | exact mcs | apply mct)) (AllIn.nil _))))) ?_
        repeat (first | refine p1 ?_ | refine p2 (fun b _ => ?_) | refine p3 (fun _ _ => ?_) | refine p4 ?_ | refine p5 ?_ | refine p6 (h7) ?_ | refine p6 (h8) ?_ | refine p6 (q2) ?_ | refine p6 (q3 w) ?_ | refine p6v (h7) ?_ | refine p6v (h8) ?_ | refine p6v (q2) ?_ | refine p6v (q3 w) ?_ | refine p7 (fun b => ?_) | refine PL_nil ?_)
        refine PL_runs rfl rfl rfl rfl rfl (R_callB (Γb := [.row z 5 1 f.body.length (f.body.map bcell)]) rfl (by intro _ _; simp) (q4 z) (perm1 (by repeat' (first | exact Pick.head _ _ | apply Pick.tail))) (Bor.sub (Bor.row (Γr := []) rfl) (AllIn.cons (by repeat' (first | exact mcs | apply mct)) (AllIn.cons (by repeat' (first | exact mcs | apply mct)) (AllIn.nil _))))) ?_
        repeat (first | refine p1 ?_ | refine p2 (fun b _ => ?_) | refine p3 (fun _ _ => ?_) | refine p4 ?_ | refine p5 ?_ | refine p7 (fun b => ?_) | refine PL_nil ?_)
        repeat (first | refine n1 ?_ | refine n2 (fun b _ => ?_) | refine n3 (fun _ _ => ?_) | refine n4 ?_ | refine n5 ?_ | refine WL_nil ?_ | refine W_seq ?_ | refine W_region ?_ | refine n7 ?_ | refine n8 ?_ | refine W_block ?_ | refine W_skip ?_ | refine W_ret ?_ | refine W_exit ?_ | refine WQ_then ?_ | refine WQ_then_ret ?_ | refine WQ_then_exit ?_ | refine WQ_block_normal ?_ | refine WQ_block_ret ?_ | refine WQ_block_exit ?_ | refine n9 ?_)
        ((apply W_loopK (X := Nat) [28] [1] (fun x => x ≤ f.body.length) (fun x => [(28, .int .i64 (x : Int))]) (fun x => [.row z 5 1 f.body.length ((turnB f.body x).map bcell)]) (fun _ => []) (fun x => f.body.length - x) (0)); (focus exact Nat.zero_le _); exact rfl; exact rfl; (intro _; exact rfl); (intro _; exact rfl); (intro _; exact rfl); (focus (repeat (first | exact FrIn.nil _ | (apply FrIn.cons; exact rfl; (first | exact rfl | (congr 1; first | omega | (dsimp only; omega)) | (simp; done)))))); (focus (repeat (first | exact SubO.nil _ | (apply SubO.cons; (focus (repeat' (first | exact Pick.head _ _ | apply Pick.tail))))))); (focus (repeat (first | exact AllE.nil _ | (apply AllE.cons; (focus (first | exact ent_nilBy | exact ent_nilSl | (apply Ent.mem; repeat' (first | exact mcs | apply mct)))))))); intro x hx)
        by_cases d1 : x < f.body.length
        · have hcg := turn_get d1
          have htn := turn_next d1
          have hxo := xor_ff (f.body.getD x 0)
          repeat (first | refine n1 ?_ | refine n2 (fun b _ => ?_) | refine n3 (fun _ _ => ?_) | refine n4 ?_ | refine n5 ?_ | refine WL_nil ?_ | refine W_seq ?_ | refine W_region ?_ | refine n7 ?_ | refine n8 ?_ | refine W_block ?_ | refine W_skip ?_ | refine W_ret ?_ | refine W_exit ?_ | refine WQ_then ?_ | refine WQ_then_ret ?_ | refine WQ_then_exit ?_ | refine WQ_block_normal ?_ | refine WQ_block_ret ?_ | refine WQ_block_exit ?_ | refine n9 ?_)
          (refine W_regionP' [10] [] [0, 1, 2, 3, 4, 5, 6, 7, 8, 9, 10] [] (by kernel_rfl) (by kernel_rfl) (by repeat (first | exact UZ.nil _ _ | (apply UZ.cons; exact rfl; (intro _; exact rfl)))) (by exact rfl) (by (repeat (first | exact SubO.nil _ | (apply SubO.cons; (focus (repeat' (first | exact Pick.head _ _ | apply Pick.tail))))))) ?_)
          repeat (first | refine p1 ?_ | refine p2 (fun b _ => ?_) | refine p3 (fun _ _ => ?_) | refine p4 ?_ | refine p5 ?_ | refine p7 (fun b => ?_) | refine PL_nil ?_)
          refine PL_runs rfl rfl rfl rfl rfl (R_xor rfl rfl hxo) ?_
          repeat (first | refine p1 ?_ | refine p2 (fun b _ => ?_) | refine p3 (fun _ _ => ?_) | refine p4 ?_ | refine p5 ?_ | refine p7 (fun b => ?_) | refine PL_nil ?_)
          refine PL_doL rfl rfl rfl rfl (E_storeRow (i := x) rfl rfl (by repeat' (first | exact Pick.head _ _ | apply Pick.tail)) rfl (by intro _; exact rfl) d1) (by kernel_rfl) (fun _ _ => ?_)
          have htn' : ((turnB f.body x).map bcell).set x (.int .u8 ((flip8 (f.body.getD x 0)).toNat : Int)) = (turnB f.body (x + 1)).map bcell := htn
          rw [htn']
          repeat (first | refine n1 ?_ | refine n2 (fun b _ => ?_) | refine n3 (fun _ _ => ?_) | refine n4 ?_ | refine n5 ?_ | refine WL_nil ?_ | refine W_seq ?_ | refine W_region ?_ | refine n7 ?_ | refine n8 ?_ | refine W_block ?_ | refine W_skip ?_ | refine W_ret ?_ | refine W_exit ?_ | refine WQ_then ?_ | refine WQ_then_ret ?_ | refine WQ_then_exit ?_ | refine WQ_block_normal ?_ | refine WQ_block_ret ?_ | refine WQ_block_exit ?_ | refine n9 ?_)
          ((apply WQ_again (x + 1)); (focus exact d1); (focus (omega)); (focus (repeat (first | exact FrIn.nil _ | (apply FrIn.cons; exact rfl; (first | exact rfl | (congr 1; first | omega | (dsimp only; omega)) | (simp; done)))))); (focus (repeat (first | exact SubO.nil _ | (apply SubO.cons; (focus (repeat' (first | exact Pick.head _ _ | apply Pick.tail))))))); (focus (repeat (first | exact AllE.nil _ | (apply AllE.cons; (focus (first | exact ent_nilBy | exact ent_nilSl | (apply Ent.mem; repeat' (first | exact mcs | apply mct)))))))))
        · obtain rfl : x = f.body.length := by omega
          repeat (first | refine n1 ?_ | refine n2 (fun b _ => ?_) | refine n3 (fun _ _ => ?_) | refine n4 ?_ | refine n5 ?_ | refine n6 (q5 w) ?_ | refine n6v (q5 w) ?_ | refine WL_nil ?_ | refine W_seq ?_ | refine W_region ?_ | refine n7 ?_ | refine n8 ?_ | refine W_block ?_ | refine W_skip ?_ | refine W_ret ?_ | refine W_exit ?_ | refine WQ_then ?_ | refine WQ_then_ret ?_ | refine WQ_then_exit ?_ | refine WQ_block_normal ?_ | refine WQ_block_ret ?_ | refine WQ_block_exit ?_ | refine n9 ?_)
          ((apply ret1 Try.results4 ( ())); (focus (first | trivial | assumption | omega)); (focus (first | exact RV_tmp rfl | (apply RV_cellN; exact rfl; (repeat' (first | exact Pick.head _ _ | apply Pick.tail)); (intro _; exact rfl); (intro _; exact rfl); exact rfl) | (apply RV_cell1; exact rfl; (repeat' (first | exact Pick.head _ _ | apply Pick.tail)); (intro _; exact rfl); exact rfl)));  (focus (first | exact rfl | (simp; done))); (focus (repeat (first | exact SubO.nil _ | (apply SubO.cons; (focus (repeat' (first | exact Pick.head _ _ | apply Pick.tail))))))); (focus (repeat (first | exact AllE.nil _ | (apply AllE.cons; (focus (first | exact ent_nilBy | exact ent_nilSl | (apply Ent.mem; repeat' (first | exact mcs | apply mct)))))))))
end Go.Proofs.Ytbdcpahifcbcfaa
