/-
  Lists of partial frames: one taken out, the oldest.
-/
import Derived.Test.YtglmcnjkcmbefaaVIc
namespace Go.Proofs.Ytglmcnjkcmbefaa
open Go Go.RowKit Go.Hs C05
def mnP : Pa → List Pa → Pa
  | m, [] => m
  | m, x :: r => mnP (if x.since - m.since < 0 then x else m) r
theorem mnP_snoc : ∀ (m : Pa) (l : List Pa) (x : Pa), mnP m (l ++ [x]) = if x.since - (mnP m l).since < 0 then x else mnP m l
  | _, [], _ => rfl
  | m, y :: l, x => mnP_snoc _ l x
theorem mnP_mem : ∀ (m : Pa) (l : List Pa), mnP m l = m ∨ mnP m l ∈ l
  | _, [] => .inl rfl
  | m, y :: l => by
    rcases mnP_mem (if y.since - m.since < 0 then y else m) l with h | h
    · by_cases e : y.since - m.since < 0
      · rw [if_pos e] at h
        right
        show mnP (if y.since - m.since < 0 then y else m) l ∈ y :: l
        rw [if_pos e, h]
        exact List.mem_cons_self
      · rw [if_neg e] at h
        left
        show mnP (if y.since - m.since < 0 then y else m) l = m
        rw [if_neg e, h]
    · right
      exact List.mem_cons_of_mem _ h
def minP (l : List Pa) : Pa := mnP (l.getD 0 p0_) (l.drop 1)
theorem mnP_next (l : List Pa) (x : Nat) (h0 : 1 ≤ x) (h : x < l.length) : mnP (l.getD 0 p0_) ((l.take (x + 1)).drop 1) = if (l.getD x p0_).since - (mnP (l.getD 0 p0_) ((l.take x).drop 1)).since < 0 then l.getD x p0_ else mnP (l.getD 0 p0_) ((l.take x).drop 1) := by
  have e : (l.take (x + 1)).drop 1 = (l.take x).drop 1 ++ [l.getD x p0_] := by
    rw [List.take_succ_eq_append_getElem h, List.drop_append, List.length_take, Nat.min_eq_left (Nat.le_of_lt h), show 1 - x = 0 by omega, List.drop_zero, List.getD_eq_getElem?_getD, List.getElem?_eq_getElem h]
    rfl
  rw [e, mnP_snoc]
theorem getD_mem {l : List Pa} {i : Nat} (hi : i < l.length) : l.getD i p0_ ∈ l := by
  rw [List.getD_eq_getElem?_getD, List.getElem?_eq_getElem hi]; exact List.getElem_mem hi
theorem mnT_mem {l : List Pa} {x : Nat} (h : 0 < l.length) : mnP (l.getD 0 p0_) ((l.take x).drop 1) ∈ l := by
  rcases mnP_mem (l.getD 0 p0_) ((l.take x).drop 1) with e | e
  · rw [e]; exact getD_mem h
  · exact List.mem_of_mem_take (List.mem_of_mem_drop e)
theorem fcP_erase {l : List Pa} {k : Nat} (hk : k < l.length) (zs : List Value) (hz : (fcP l).drop ((k + (l.length - (k + 1))) * 43) = zs) :
    ((fcP l).take (k * 43) ++ ((fcP l).drop ((k + 1) * 43) ++ zs)).take ((k + (l.length - (k + 1))) * 43) = fcP (l.eraseIdx k) := by
  have e1 : (fcP l).take (k * 43) = fcP (l.take k) := fc_take pa_len l k (Nat.le_of_lt hk)
  have e2 : (fcP l).drop ((k + 1) * 43) = fcP (l.drop (k + 1)) := fc_drop pa_len l (k + 1) hk
  have e3 : fcP (l.take k) ++ fcP (l.drop (k + 1)) = fcP (l.eraseIdx k) := by
    rw [List.eraseIdx_eq_take_drop_succ]
    exact (List.flatMap_append ..).symm
  rw [e1, e2, ← List.append_assoc, e3]
  exact List.take_left' (by rw [fcP_length, List.length_eraseIdx_of_lt hk, show k + (l.length - (k + 1)) = l.length - 1 by omega])
attribute [local irreducible] WL W WQ PL Runs Effs AllE Ent SubO FrIn Pick OneC Ones CellsE PartsE SeqE UZ By Sl Pt Ct

set_option maxRecDepth 100000 in
set_option maxHeartbeats 4000000 in
theorem delP_fn (l : List Pa) (ho : ∀ p ∈ l, p.bv.oneCell' = true) (o : Value) (k : Nat) (hk : k < l.length) :
    Ct Try.prog 32 [o, .int .i64 (k : Int), .int .i64 ((k + 1 : Nat) : Int)] [.row o 61 43 l.length (fcP l)] []
    (X := Value) (fun _ => True) (fun x => x) (fun x => [.row x 61 43 (l.eraseIdx k).length (fcP (l.eraseIdx k))]) (fun _ => []) := by
  have hm : (l.eraseIdx k).length = k + (l.length - (k + 1)) := by rw [List.length_eraseIdx_of_lt hk]; omega
  have hml : (l.eraseIdx k).length ≤ l.length := by omega
  refine Ct_intro Try.func32 rfl Try.ntmps32 (by simp) _ rfl (fun w0 O0 => ?_)
  refine W_pure (row_le (v := o) (n := l.length) (by repeat' (first | exact Pick.head _ _ | apply Pick.tail))) fun hle => ?_
  refine W_pure (row_isSl (v := o) (n := l.length) (by repeat' (first | exact Pick.head _ _ | apply Pick.tail))) fun hsl => ?_
  have hsm := hsl.pre (size := 43) hml
  repeat (first | refine n1 ?_ | refine n2 (fun b _ => ?_) | refine n3 (fun _ _ => ?_) | refine n4 ?_ | refine n5 ?_ | refine WL_nil ?_ | refine W_seq ?_ | refine W_region ?_ | refine n7 ?_ | refine n8 ?_ | refine W_block ?_ | refine W_skip ?_ | refine W_ret ?_ | refine W_exit ?_ | refine WQ_then ?_ | refine WQ_then_ret ?_ | refine WQ_then_exit ?_ | refine WQ_block_normal ?_ | refine WQ_block_ret ?_ | refine WQ_block_exit ?_ | refine n9 ?_)
  refine WL_runs rfl rfl rfl (R_cut3Row (size := 43) (i := k) (j := k + 1) (k := l.length) rfl rfl rfl rfl (by repeat' (first | exact Pick.head _ _ | apply Pick.tail)) rfl (by intro _; rfl) rfl rfl rfl (by omega) hk (Nat.le_refl _)) ?_
  repeat (first | refine n1 ?_ | refine n2 (fun b _ => ?_) | refine n3 (fun _ _ => ?_) | refine n4 ?_ | refine n5 ?_ | refine WL_nil ?_ | refine W_seq ?_ | refine W_region ?_ | refine n7 ?_ | refine n8 ?_ | refine W_block ?_ | refine W_skip ?_ | refine W_ret ?_ | refine W_exit ?_ | refine WQ_then ?_ | refine WQ_then_ret ?_ | refine WQ_then_exit ?_ | refine WQ_block_normal ?_ | refine WQ_block_ret ?_ | refine WQ_block_exit ?_ | refine n9 ?_)
  (refine W_regionP' [6] [] [0, 1, 2, 3, 4, 5, 6, 7] [0] (by kernel_rfl) (by kernel_rfl) (by repeat (first | exact UZ.nil _ _ | (apply UZ.cons; exact rfl; (intro _; exact rfl)))) (by exact rfl) (by (repeat (first | exact SubO.nil _ | (apply SubO.cons; (focus (repeat' (first | exact Pick.head _ _ | apply Pick.tail))))))) ?_)
  repeat (first | refine p1 ?_ | refine p2 (fun b _ => ?_) | refine p3 (fun _ _ => ?_) | refine p4 ?_ | refine p5 ?_ | refine p7 (fun b => ?_) | refine PL_nil ?_)
  refine PL_runs rfl rfl rfl rfl rfl (R_preV (size := 43) (j := k) rfl rfl hsl rfl (by intro _; rfl) rfl (Nat.le_of_lt hk)) ?_
  repeat (first | refine p1 ?_ | refine p2 (fun b _ => ?_) | refine p3 (fun _ _ => ?_) | refine p4 ?_ | refine p5 ?_ | refine p7 (fun b => ?_) | refine PL_nil ?_)
  refine PL_runs rfl rfl rfl rfl rfl (R_endV (size := 43) (j := k + 1) rfl rfl hsl rfl (by intro _; rfl) rfl hk) ?_
  refine PL_effs rfl rfl rfl rfl rfl (E_appendShift (size := 43) (i := k) (j := k + 1) (n := l.length) rfl rfl (by repeat' (first | exact Pick.head _ _ | apply Pick.tail)) rfl rfl rfl (by omega) hk (by omega) (Ones.lits (fcP_one ho)) rfl) (fun _ => (by (repeat (first | exact SubO.nil _ | (apply SubO.cons; (focus (repeat' (first | exact Pick.head _ _ | apply Pick.tail)))))))) (fun _ _ => ?_)
  rw [← hm]
  repeat (first | refine p1 ?_ | refine p2 (fun b _ => ?_) | refine p3 (fun _ _ => ?_) | refine p4 ?_ | refine p5 ?_ | refine p7 (fun b => ?_) | refine PL_nil ?_)
  repeat (first | refine n1 ?_ | refine n2 (fun b _ => ?_) | refine n3 (fun _ _ => ?_) | refine n4 ?_ | refine n5 ?_ | refine WL_nil ?_ | refine W_seq ?_ | refine W_region ?_ | refine n7 ?_ | refine n8 ?_ | refine W_block ?_ | refine W_skip ?_ | refine W_ret ?_ | refine W_exit ?_ | refine WQ_then ?_ | refine WQ_then_ret ?_ | refine WQ_then_exit ?_ | refine WQ_block_normal ?_ | refine WQ_block_ret ?_ | refine WQ_block_exit ?_ | refine n9 ?_)
  refine WL_runs rfl rfl rfl (R_lenV rfl hsm rfl) ?_
  repeat (first | refine n1 ?_ | refine n2 (fun b _ => ?_) | refine n3 (fun _ _ => ?_) | refine n4 ?_ | refine n5 ?_ | refine WL_nil ?_ | refine W_seq ?_ | refine W_region ?_ | refine n7 ?_ | refine n8 ?_ | refine W_block ?_ | refine W_skip ?_ | refine W_ret ?_ | refine W_exit ?_ | refine WQ_then ?_ | refine WQ_then_ret ?_ | refine WQ_then_exit ?_ | refine WQ_block_normal ?_ | refine WQ_block_ret ?_ | refine WQ_block_exit ?_ | refine n9 ?_)
  refine WL_runs rfl rfl rfl (R_backRow (size := 43) (m := (l.eraseIdx k).length) (n := l.length) rfl rfl rfl (by repeat' (first | exact Pick.head _ _ | apply Pick.tail)) rfl (by intro _; rfl) rfl rfl hml) ?_
  refine WL_do rfl rfl (E_clearRow (size := 43) (j := (l.eraseIdx k).length) rfl (by repeat' (first | exact Pick.head _ _ | apply Pick.tail)) rfl (by intro _; rfl) rfl rfl hml) ?_
  intro zs _
  refine WL_cutRow (j := (l.eraseIdx k).length) (us := fcP (l.eraseIdx k)) (by repeat' (first | exact Pick.head _ _ | apply Pick.tail)) hml (by
    have e1 : (fcP (l.eraseIdx k)).length = (l.eraseIdx k).length * 43 := fcP_length _
    rw [hm, fcP_erase hk _ rfl, ← hm, List.take_left' e1]) ?_
  repeat (first | refine n1 ?_ | refine n2 (fun b _ => ?_) | refine n3 (fun _ _ => ?_) | refine n4 ?_ | refine n5 ?_ | refine WL_nil ?_ | refine W_seq ?_ | refine W_region ?_ | refine n7 ?_ | refine n8 ?_ | refine W_block ?_ | refine W_skip ?_ | refine W_ret ?_ | refine W_exit ?_ | refine WQ_then ?_ | refine WQ_then_ret ?_ | refine WQ_then_exit ?_ | refine WQ_block_normal ?_ | refine WQ_block_ret ?_ | refine WQ_block_exit ?_ | refine n9 ?_)
  ((apply ret1 Try.results32 ( cutV 43 0 (l.eraseIdx k).length o)); (focus (first | trivial | assumption | omega)); (focus (first | exact RV_tmp rfl | (apply RV_cellN; exact rfl; (repeat' (first | exact Pick.head _ _ | apply Pick.tail)); (intro _; exact rfl); (intro _; exact rfl); exact rfl) | (apply RV_cell1; exact rfl; (repeat' (first | exact Pick.head _ _ | apply Pick.tail)); (intro _; exact rfl); exact rfl)));  (focus (first | exact rfl | (simp; done))); (focus (repeat (first | exact SubO.nil _ | (apply SubO.cons; (focus (repeat' (first | exact Pick.head _ _ | apply Pick.tail))))))); (focus (repeat (first | exact AllE.nil _ | (apply AllE.cons; (focus (first | exact ent_nilBy | exact ent_nilSl | (apply Ent.mem; repeat' (first | exact mcs | apply mct)))))))))

set_option maxRecDepth 100000 in
set_option maxHeartbeats 8000000 in
theorem minP_fn (v : Value) (l : List Pa) (h0 : 0 < l.length) (ho : ∀ p ∈ l, p.bv.oneCell' = true) (hs : ∀ p ∈ l, 0 ≤ p.since ∧ p.since ≤ maxT) :
    CtD Try.prog 34 [v, .func (.func 35) #[] #[]] [Rw 43 v l.length (fun i => (l.getD i p0_).cells)] (minP l).val := by
  have e0 : mnP (l.getD 0 p0_) ((l.take 1).drop 1) = l.getD 0 p0_ := by
    rw [List.drop_of_length_le (by rw [List.length_take]; omega)]
    rfl
  have ho0 := ho _ (getD_mem h0)
  refine Ct_intro Try.func34 rfl Try.ntmps34 (by simp) _ rfl (fun w0 O0 => ?_)
  refine W_pure (rw_le (n := l.length) (by repeat' (first | exact mcs | apply mct))) fun hle => ?_
  repeat (first | refine n1 ?_ | refine n2 (fun b _ => ?_) | refine n3 (fun _ _ => ?_) | refine n4 ?_ | refine n5 ?_ | refine WL_nil ?_ | refine W_seq ?_ | refine W_region ?_ | refine n7 ?_ | refine n8 ?_ | refine W_block ?_ | refine W_skip ?_ | refine W_ret ?_ | refine W_exit ?_ | refine WQ_then ?_ | refine WQ_then_ret ?_ | refine WQ_then_exit ?_ | refine WQ_block_normal ?_ | refine WQ_block_ret ?_ | refine WQ_block_exit ?_ | refine n9 ?_)
  refine WL_do rfl rfl (E_store (us := (l.getD 0 p0_).cells) rfl rfl (by repeat' (first | exact Pick.head _ _ | apply Pick.tail)) (CellsE.lit rfl) (by intro _; rfl) (Ones.lits (pa_one _ ho0)) (ds := (l.getD 0 p0_).cells) rfl) (fun _ _ => ?_)
  repeat (first | refine n1 ?_ | refine n2 (fun b _ => ?_) | refine n3 (fun _ _ => ?_) | refine n4 ?_ | refine n5 ?_ | refine WL_nil ?_ | refine W_seq ?_ | refine W_region ?_ | refine n7 ?_ | refine n8 ?_ | refine W_block ?_ | refine W_skip ?_ | refine W_ret ?_ | refine W_exit ?_ | refine WQ_then ?_ | refine WQ_then_ret ?_ | refine WQ_then_exit ?_ | refine WQ_block_normal ?_ | refine WQ_block_ret ?_ | refine WQ_block_exit ?_ | refine n9 ?_)
  ((apply W_loopK (X := Nat × Pa) [6] [0] (fun x => 1 ≤ x.1 ∧ x.1 ≤ l.length ∧ x.2 = mnP (l.getD 0 p0_) ((l.take x.1).drop 1)) (fun x => [(6, .int .i64 (x.1 : Int))]) (fun x => [.blk b 61 x.2.cells]) (fun _ => []) (fun x => l.length - x.1) ((1, l.getD 0 p0_))); (focus exact ⟨Nat.le_refl _, h0, e0.symm⟩); exact rfl; exact rfl; (intro _; exact rfl); (intro _; exact rfl); (intro _; exact rfl); (focus (repeat (first | exact FrIn.nil _ | (apply FrIn.cons; exact rfl; (first | exact rfl | (congr 1; first | omega | (dsimp only; omega)) | (simp; done)))))); (focus (repeat (first | exact SubO.nil _ | (apply SubO.cons; (focus (repeat' (first | exact Pick.head _ _ | apply Pick.tail))))))); (focus (repeat (first | exact AllE.nil _ | (apply AllE.cons; (focus (first | exact ent_nilBy | exact ent_nilSl | (apply Ent.mem; repeat' (first | exact mcs | apply mct)))))))); intro x hx)
  obtain ⟨k, m⟩ := x
  obtain ⟨x1, x2, x3⟩ := hx
  replace x1 : 1 ≤ k := x1
  replace x2 : k ≤ l.length := x2
  replace x3 : m = mnP (l.getD 0 p0_) ((l.take k).drop 1) := x3
  dsimp only
  by_cases c1 : k < l.length
  · have hnx := mnP_next l k x1 c1
    have hme : m ∈ l := by rw [x3]; exact mnT_mem h0
    have hke := getD_mem c1
    rw [← x3] at hnx
    have hok := ho _ hke
    have hsk := hs _ hke
    have hsm := hs _ hme
    have hom := ho _ hme
    clear x3 e0
    have hod := older_fn (l.getD k p0_) m hsk hsm
    by_cases c2 : (l.getD k p0_).since - m.since < 0
    · rw [if_pos c2] at hnx
      repeat (first | refine n1 ?_ | refine n2 (fun b _ => ?_) | refine n3 (fun _ _ => ?_) | refine n4 ?_ | refine n5 ?_ | refine WL_nil ?_ | refine W_seq ?_ | refine W_region ?_ | refine n7 ?_ | refine n8 ?_ | refine W_block ?_ | refine W_skip ?_ | refine W_ret ?_ | refine W_exit ?_ | refine WQ_then ?_ | refine WQ_then_ret ?_ | refine WQ_then_exit ?_ | refine WQ_block_normal ?_ | refine WQ_block_ret ?_ | refine WQ_block_exit ?_ | refine n9 ?_)
      (refine W_regionP' [] [] [0, 1, 2, 3, 4, 5, 6, 7] [] (by kernel_rfl) (by kernel_rfl) (by repeat (first | exact UZ.nil _ _ | (apply UZ.cons; exact rfl; (intro _; exact rfl)))) (by exact rfl) (by (repeat (first | exact SubO.nil _ | (apply SubO.cons; (focus (repeat' (first | exact Pick.head _ _ | apply Pick.tail))))))) ?_)
      repeat (first | refine p1 ?_ | refine p2 (fun b _ => ?_) | refine p3 (fun _ _ => ?_) | refine p4 ?_ | refine p5 ?_ | refine p6 (hod) ?_ | refine p6v (hod) ?_ | refine p7 (fun b => ?_) | refine PL_nil ?_)
      repeat (first | refine n1 ?_ | refine n2 (fun b _ => ?_) | refine n3 (fun _ _ => ?_) | refine n4 ?_ | refine n5 ?_ | refine WL_nil ?_ | refine W_seq ?_ | refine W_region ?_ | refine n7 ?_ | refine n8 ?_ | refine W_block ?_ | refine W_skip ?_ | refine W_ret ?_ | refine W_exit ?_ | refine WQ_then ?_ | refine WQ_then_ret ?_ | refine WQ_then_exit ?_ | refine WQ_block_normal ?_ | refine WQ_block_ret ?_ | refine WQ_block_exit ?_ | refine n9 ?_)
      refine WL_do rfl rfl (E_store (us := (l.getD k p0_).cells) rfl rfl (by repeat' (first | exact Pick.head _ _ | apply Pick.tail)) (CellsE.lit rfl) (by intro _; rfl) (Ones.lits (pa_one _ hok)) (ds := (l.getD k p0_).cells) rfl) (fun _ _ => ?_)
      repeat (first | refine n1 ?_ | refine n2 (fun b _ => ?_) | refine n3 (fun _ _ => ?_) | refine n4 ?_ | refine n5 ?_ | refine WL_nil ?_ | refine W_seq ?_ | refine W_region ?_ | refine n7 ?_ | refine n8 ?_ | refine W_block ?_ | refine W_skip ?_ | refine W_ret ?_ | refine W_exit ?_ | refine WQ_then ?_ | refine WQ_then_ret ?_ | refine WQ_then_exit ?_ | refine WQ_block_normal ?_ | refine WQ_block_ret ?_ | refine WQ_block_exit ?_ | refine n9 ?_)
      have hn' : 1 ≤ k + 1 ∧ k + 1 ≤ l.length ∧ l.getD k p0_ = mnP (l.getD 0 p0_) ((l.take (k + 1)).drop 1) := ⟨by omega, c1, hnx.symm⟩
      ((apply WQ_again ((k + 1, l.getD k p0_))); (focus exact hn'); (focus (exact (show l.length - (k + 1) < l.length - k by omega))); (focus (repeat (first | exact FrIn.nil _ | (apply FrIn.cons; exact rfl; (first | exact rfl | (congr 1; first | omega | (dsimp only; omega)) | (simp; done)))))); (focus (repeat (first | exact SubO.nil _ | (apply SubO.cons; (focus (repeat' (first | exact Pick.head _ _ | apply Pick.tail))))))); (focus (repeat (first | exact AllE.nil _ | (apply AllE.cons; (focus (first | exact ent_nilBy | exact ent_nilSl | (apply Ent.mem; repeat' (first | exact mcs | apply mct)))))))))
    · rw [if_neg c2] at hnx
      repeat (first | refine n1 ?_ | refine n2 (fun b _ => ?_) | refine n3 (fun _ _ => ?_) | refine n4 ?_ | refine n5 ?_ | refine WL_nil ?_ | refine W_seq ?_ | refine W_region ?_ | refine n7 ?_ | refine n8 ?_ | refine W_block ?_ | refine W_skip ?_ | refine W_ret ?_ | refine W_exit ?_ | refine WQ_then ?_ | refine WQ_then_ret ?_ | refine WQ_then_exit ?_ | refine WQ_block_normal ?_ | refine WQ_block_ret ?_ | refine WQ_block_exit ?_ | refine n9 ?_)
      (refine W_regionP' [] [] [0, 1, 2, 3, 4, 5, 6, 7] [] (by kernel_rfl) (by kernel_rfl) (by repeat (first | exact UZ.nil _ _ | (apply UZ.cons; exact rfl; (intro _; exact rfl)))) (by exact rfl) (by (repeat (first | exact SubO.nil _ | (apply SubO.cons; (focus (repeat' (first | exact Pick.head _ _ | apply Pick.tail))))))) ?_)
      repeat (first | refine p1 ?_ | refine p2 (fun b _ => ?_) | refine p3 (fun _ _ => ?_) | refine p4 ?_ | refine p5 ?_ | refine p6 (hod) ?_ | refine p6v (hod) ?_ | refine p7 (fun b => ?_) | refine PL_nil ?_)
      repeat (first | refine n1 ?_ | refine n2 (fun b _ => ?_) | refine n3 (fun _ _ => ?_) | refine n4 ?_ | refine n5 ?_ | refine WL_nil ?_ | refine W_seq ?_ | refine W_region ?_ | refine n7 ?_ | refine n8 ?_ | refine W_block ?_ | refine W_skip ?_ | refine W_ret ?_ | refine W_exit ?_ | refine WQ_then ?_ | refine WQ_then_ret ?_ | refine WQ_then_exit ?_ | refine WQ_block_normal ?_ | refine WQ_block_ret ?_ | refine WQ_block_exit ?_ | refine n9 ?_)
      have hn' : 1 ≤ k + 1 ∧ k + 1 ≤ l.length ∧ m = mnP (l.getD 0 p0_) ((l.take (k + 1)).drop 1) := ⟨by omega, c1, hnx.symm⟩
      ((apply WQ_again ((k + 1, m))); (focus exact hn'); (focus (exact (show l.length - (k + 1) < l.length - k by omega))); (focus (repeat (first | exact FrIn.nil _ | (apply FrIn.cons; exact rfl; (first | exact rfl | (congr 1; first | omega | (dsimp only; omega)) | (simp; done)))))); (focus (repeat (first | exact SubO.nil _ | (apply SubO.cons; (focus (repeat' (first | exact Pick.head _ _ | apply Pick.tail))))))); (focus (repeat (first | exact AllE.nil _ | (apply AllE.cons; (focus (first | exact ent_nilBy | exact ent_nilSl | (apply Ent.mem; repeat' (first | exact mcs | apply mct)))))))))
  · obtain rfl : k = l.length := by omega
    have hm' : m = minP l := by rw [x3, List.take_length]; rfl
    have hom : m.bv.oneCell' = true := ho _ (by rw [x3]; exact mnT_mem h0)
    rw [← hm']
    clear x3 hm' e0
    repeat (first | refine n1 ?_ | refine n2 (fun b _ => ?_) | refine n3 (fun _ _ => ?_) | refine n4 ?_ | refine n5 ?_ | refine WL_nil ?_ | refine W_seq ?_ | refine W_region ?_ | refine n7 ?_ | refine n8 ?_ | refine W_block ?_ | refine W_skip ?_ | refine W_ret ?_ | refine W_exit ?_ | refine WQ_then ?_ | refine WQ_then_ret ?_ | refine WQ_then_exit ?_ | refine WQ_block_normal ?_ | refine WQ_block_ret ?_ | refine WQ_block_exit ?_ | refine n9 ?_)
    refine WL_do rfl rfl (E_store (us := m.cells) rfl rfl (by repeat' (first | exact Pick.head _ _ | apply Pick.tail)) (CellsE.lit rfl) (by intro _; rfl) (Ones.lits (pa_one _ hom)) (ds := m.cells) rfl) (fun _ _ => ?_)
    repeat (first | refine n1 ?_ | refine n2 (fun b _ => ?_) | refine n3 (fun _ _ => ?_) | refine n4 ?_ | refine n5 ?_ | refine WL_nil ?_ | refine W_seq ?_ | refine W_region ?_ | refine n7 ?_ | refine n8 ?_ | refine W_block ?_ | refine W_skip ?_ | refine W_ret ?_ | refine W_exit ?_ | refine WQ_then ?_ | refine WQ_then_ret ?_ | refine WQ_then_exit ?_ | refine WQ_block_normal ?_ | refine WQ_block_ret ?_ | refine WQ_block_exit ?_ | refine n9 ?_)
    ((apply ret1 Try.results34 ( ())); (focus (first | trivial | assumption | omega)); (focus (first | exact RV_tmp rfl | (apply RV_cellN; exact rfl; (repeat' (first | exact Pick.head _ _ | apply Pick.tail)); (intro _; exact rfl); (intro _; exact rfl); exact rfl) | (apply RV_cell1; exact rfl; (repeat' (first | exact Pick.head _ _ | apply Pick.tail)); (intro _; exact rfl); exact rfl)));  (focus (first | exact rfl | (simp; done))); (focus (repeat (first | exact SubO.nil _ | (apply SubO.cons; (focus (repeat' (first | exact Pick.head _ _ | apply Pick.tail))))))); (focus (repeat (first | exact AllE.nil _ | (apply AllE.cons; (focus (first | exact ent_nilBy | exact ent_nilSl | (apply Ent.mem; repeat' (first | exact mcs | apply mct)))))))))
end Go.Proofs.Ytglmcnjkcmbefaa
