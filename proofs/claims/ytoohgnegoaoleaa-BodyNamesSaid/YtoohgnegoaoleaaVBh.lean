/-
  Bodies of frames: the program's decoders (second part).
-/
import Derived.Test.YtoohgnegoaoleaaVBg
namespace Go.Proofs.Ytoohgnegoaoleaa
open Go Go.RowKit Go.Hs
def e8 (xs : List UInt8) (k : Nat) : Nat := C01.leN ((xs.drop k).take 8)
theorem z0_ok {e : Int} (h : e = 0) (n : Nat) : z0 e n = n := if_pos h
theorem z0_bad {e : Int} (h : ¬ e = 0) (n : Nat) : z0 e n = 0 := if_neg h
attribute [local irreducible] WL W WQ PL Runs Effs AllE Ent SubO FrIn Pick OneC Ones CellsE PartsE SeqE UZ By Sl Pt Ct

set_option maxRecDepth 100000 in
set_option maxHeartbeats 8000000 in
theorem dReason_fn (dv : Value) (xs : List UInt8) (hx : xs.length ≤ 1000000) : Ct Try.prog 37 [dv] [] [By dv xs]
    (X := Value × T) (fun x => x.2.er = drF xs 2) (fun x => .tuple #[.agg #[.int .u16 (z0 (drE xs 2) (twA xs 0) : Int), x.1], .int .i64 (drE xs 2)]) (fun _ => []) (fun x => [Rw 4 x.1 x.2.len x.2.at_, x.2.tf]) := by
  refine Ct_intro Try.func37 rfl Try.ntmps37 (by simp) _ rfl (fun w0 O0 => ?_)
  repeat (first | refine n1 ?_ | refine n2 (fun b _ => ?_) | refine n3 (fun _ _ => ?_) | refine n4 ?_ | refine n5 ?_ | refine WL_nil ?_ | refine W_seq ?_ | refine W_region ?_ | refine n7 ?_ | refine n8 ?_ | refine W_block ?_ | refine W_skip ?_ | refine W_ret ?_ | refine W_exit ?_ | refine WQ_then ?_ | refine WQ_then_ret ?_ | refine WQ_then_exit ?_ | refine WQ_block_normal ?_ | refine WQ_block_ret ?_ | refine WQ_block_exit ?_ | refine n9 ?_)
  (apply WL_effs; exact rfl; exact rfl; exact rfl; apply E_call; exact rfl; (intro _ _; simp); exact read_fn dv xs; (repeat (first | exact AllE.nil _ | (apply AllE.cons; (focus (first | exact ent_nilBy | exact ent_nilSl | (apply Ent.mem; repeat' (first | exact mcs | apply mct))))))); (intro _; exact rfl); (intro _; exact rfl))
  intro c _
  have r0 := Rs.start xs
  generalize (if 2304 < xs.length then (11 : Int) else 0) = e0 at *
  have g0 := rtwo_fn c dv xs 0 e0 r0.le hx
  obtain ⟨r1, v1⟩ := r0.next 2
  have w1 := Rs.zero (xs := xs) (k := 0) (a := 0) (n := 2) (e := e0)
  generalize hb1 : rdB xs 0 e0 2 = b1 at *
  generalize rdA xs.length 0 e0 2 = a1 at *
  generalize rdE xs.length 0 e0 2 = e1 at *
  repeat (first | refine n1 ?_ | refine n2 (fun b _ => ?_) | refine n3 (fun _ _ => ?_) | refine n4 ?_ | refine n5 ?_ | refine WL_nil ?_ | refine W_seq ?_ | refine W_region ?_ | refine n7 ?_ | refine n8 ?_ | refine W_block ?_ | refine W_skip ?_ | refine W_ret ?_ | refine W_exit ?_ | refine WQ_then ?_ | refine WQ_then_ret ?_ | refine WQ_then_exit ?_ | refine WQ_block_normal ?_ | refine WQ_block_ret ?_ | refine WQ_block_exit ?_ | refine n9 ?_)
  (apply WL_effs; exact rfl; exact rfl; exact rfl; apply E_callO; exact rfl; (intro _ _; simp); exact g0; (first | (apply perm1; (focus (repeat' (first | exact Pick.head _ _ | apply Pick.tail)))) | (apply perm2; (focus (repeat' (first | exact Pick.head _ _ | apply Pick.tail))); (focus (repeat' (first | exact Pick.head _ _ | apply Pick.tail)))) | (apply perm3; (focus (repeat' (first | exact Pick.head _ _ | apply Pick.tail))); (focus (repeat' (first | exact Pick.head _ _ | apply Pick.tail))); (focus (repeat' (first | exact Pick.head _ _ | apply Pick.tail))))); (repeat (first | exact AllE.nil _ | (apply AllE.cons; (focus (first | exact ent_nilBy | exact ent_nilSl | (apply Ent.mem; repeat' (first | exact mcs | apply mct))))))); (intro _; exact rfl); (intro _; exact rfl))
  intro y1 _
  repeat (first | refine n1 ?_ | refine n2 (fun b _ => ?_) | refine n3 (fun _ _ => ?_) | refine n4 ?_ | refine n5 ?_ | refine WL_nil ?_ | refine W_seq ?_ | refine W_region ?_ | refine n7 ?_ | refine n8 ?_ | refine W_block ?_ | refine W_skip ?_ | refine W_ret ?_ | refine W_exit ?_ | refine WQ_then ?_ | refine WQ_then_ret ?_ | refine WQ_then_exit ?_ | refine WQ_block_normal ?_ | refine WQ_block_ret ?_ | refine WQ_block_exit ?_ | refine n9 ?_)
  (apply WL_effs; exact rfl; exact rfl; exact rfl; apply E_callO; exact rfl; (intro _ _; simp); exact rels_fn c y1 xs a1 e1 r1.le hx; (first | (apply perm1; (focus (repeat' (first | exact Pick.head _ _ | apply Pick.tail)))) | (apply perm2; (focus (repeat' (first | exact Pick.head _ _ | apply Pick.tail))); (focus (repeat' (first | exact Pick.head _ _ | apply Pick.tail)))) | (apply perm3; (focus (repeat' (first | exact Pick.head _ _ | apply Pick.tail))); (focus (repeat' (first | exact Pick.head _ _ | apply Pick.tail))); (focus (repeat' (first | exact Pick.head _ _ | apply Pick.tail))))); (repeat (first | exact AllE.nil _ | (apply AllE.cons; (focus (first | exact ent_nilBy | exact ent_nilSl | (apply Ent.mem; repeat' (first | exact mcs | apply mct))))))); (intro _; exact rfl); (intro _; exact rfl))
  rintro ⟨o, t⟩ ht
  replace ht : t.er = reF xs a1 e1 := ht
  obtain ⟨q1, q2⟩ := r1.els
  rw [q1] at q2 ⊢
  replace q1 : reE xs a1 e1 = drE xs 2 := q1
  replace q2 : drE xs 2 = 0 → e1 = 0 ∧ reF xs a1 e1 = drF xs 2 := q2
  repeat (first | refine n1 ?_ | refine n2 (fun b _ => ?_) | refine n3 (fun _ _ => ?_) | refine n4 ?_ | refine n5 ?_ | refine WL_nil ?_ | refine W_seq ?_ | refine W_region ?_ | refine n7 ?_ | refine n8 ?_ | refine W_block ?_ | refine W_skip ?_ | refine W_ret ?_ | refine W_exit ?_ | refine WQ_then ?_ | refine WQ_then_ret ?_ | refine WQ_then_exit ?_ | refine WQ_block_normal ?_ | refine WQ_block_ret ?_ | refine WQ_block_exit ?_ | refine n9 ?_)
  refine WL_runs rfl rfl rfl (R_callB (Γb := [.blk c 146 [y1, .int .i64 (a1 : Int), .int .i64 (drE xs (0 + 2))]]) rfl (by intro _ _; simp) (resReason_fn c y1 a1 (drE xs (0 + 2)) (tw2 b1) o t) (perm1 (by repeat' (first | exact Pick.head _ _ | apply Pick.tail))) (Bor.ent (Bor.blks (bs := [(c, 146, [y1, .int .i64 (a1 : Int), .int .i64 (drE xs (0 + 2))])])) (AllE.cons (Ent.mem (by repeat' (first | exact mcs | apply mct))) (AllE.cons (Ent.mem (by repeat' (first | exact mcs | apply mct))) (AllE.nil _))))) ?_
  by_cases h0 : drE xs 2 = 0
  · obtain ⟨z1, ht2⟩ := q2 h0
    have n1_ : tw2 b1 = twA xs 0 := by rw [v1 z1]; exact tw2_at xs 0
    rw [show drE xs (0 + 2) = 0 from h0, if_pos rfl]
    simp only [h0, z0_ok rfl, n1_]
    rw [ht2] at ht
    repeat (first | refine n1 ?_ | refine n2 (fun b _ => ?_) | refine n3 (fun _ _ => ?_) | refine n4 ?_ | refine n5 ?_ | refine WL_nil ?_ | refine W_seq ?_ | refine W_region ?_ | refine n7 ?_ | refine n8 ?_ | refine W_block ?_ | refine W_skip ?_ | refine W_ret ?_ | refine W_exit ?_ | refine WQ_then ?_ | refine WQ_then_ret ?_ | refine WQ_then_exit ?_ | refine WQ_block_normal ?_ | refine WQ_block_ret ?_ | refine WQ_block_exit ?_ | refine n9 ?_)
    ((apply ret2 Try.results37 ( (o, t))); (focus (first | trivial | assumption | omega)); (focus (first | exact RV_tmp rfl | (apply RV_cellN; exact rfl; (repeat' (first | exact Pick.head _ _ | apply Pick.tail)); (intro _; exact rfl); (intro _; exact rfl); exact rfl) | (apply RV_cell1; exact rfl; (repeat' (first | exact Pick.head _ _ | apply Pick.tail)); (intro _; exact rfl); exact rfl))); (focus (first | exact RV_tmp rfl | (apply RV_cellN; exact rfl; (repeat' (first | exact Pick.head _ _ | apply Pick.tail)); (intro _; exact rfl); (intro _; exact rfl); exact rfl) | (apply RV_cell1; exact rfl; (repeat' (first | exact Pick.head _ _ | apply Pick.tail)); (intro _; exact rfl); exact rfl)));  (focus (first | exact rfl | (simp; done))); (focus (repeat (first | exact SubO.nil _ | (apply SubO.cons; (focus (repeat' (first | exact Pick.head _ _ | apply Pick.tail))))))); (focus (repeat (first | exact AllE.nil _ | (apply AllE.cons; (focus (first | exact ent_nilBy | exact ent_nilSl | (apply Ent.mem; repeat' (first | exact mcs | apply mct)))))))))
  · rw [if_neg (show ¬ drE xs (0 + 2) = 0 from h0)]
    simp only [z0_bad h0]
    repeat (first | refine n1 ?_ | refine n2 (fun b _ => ?_) | refine n3 (fun _ _ => ?_) | refine n4 ?_ | refine n5 ?_ | refine WL_nil ?_ | refine W_seq ?_ | refine W_region ?_ | refine n7 ?_ | refine n8 ?_ | refine W_block ?_ | refine W_skip ?_ | refine W_ret ?_ | refine W_exit ?_ | refine WQ_then ?_ | refine WQ_then_ret ?_ | refine WQ_then_exit ?_ | refine WQ_block_normal ?_ | refine WQ_block_ret ?_ | refine WQ_block_exit ?_ | refine n9 ?_)
    apply C04.WQ_none2
    have hn : T.er T.nil = drF xs 2 := (drF_bad h0).symm
    ((apply ret2 Try.results37 ( (Value.slice none 0 0, T.nil))); (focus (first | trivial | assumption | omega)); (focus (first | exact RV_tmp rfl | (apply RV_cellN; exact rfl; (repeat' (first | exact Pick.head _ _ | apply Pick.tail)); (intro _; exact rfl); (intro _; exact rfl); exact rfl) | (apply RV_cell1; exact rfl; (repeat' (first | exact Pick.head _ _ | apply Pick.tail)); (intro _; exact rfl); exact rfl))); (focus (first | exact RV_tmp rfl | (apply RV_cellN; exact rfl; (repeat' (first | exact Pick.head _ _ | apply Pick.tail)); (intro _; exact rfl); (intro _; exact rfl); exact rfl) | (apply RV_cell1; exact rfl; (repeat' (first | exact Pick.head _ _ | apply Pick.tail)); (intro _; exact rfl); exact rfl)));  (focus (first | exact rfl | (simp; done))); (focus (repeat (first | exact SubO.nil _ | (apply SubO.cons; (focus (repeat' (first | exact Pick.head _ _ | apply Pick.tail))))))); (focus (repeat (first | exact AllE.nil _ | (apply AllE.cons; (focus (first | exact ent_nilBy | exact ent_nilSl | (apply Ent.mem; repeat' (first | exact mcs | apply mct)))))))))

set_option maxRecDepth 100000 in
set_option maxHeartbeats 8000000 in
theorem dAuth_fn (dv : Value) (xs : List UInt8) (hx : xs.length ≤ 1000000) : Ct Try.prog 31 [dv] [] [By dv xs]
    (X := Value × T) (fun x => x.2.er = drF xs 6) (fun x => .tuple #[.agg #[.int .u16 (z0 (drE xs 6) (twA xs 0) : Int), .int .u16 (z0 (drE xs 6) (twA xs 2) : Int), .int .u16 (z0 (drE xs 6) (twA xs 4) : Int), x.1], .int .i64 (drE xs 6)]) (fun _ => []) (fun x => [Rw 4 x.1 x.2.len x.2.at_, x.2.tf]) := by
  refine Ct_intro Try.func31 rfl Try.ntmps31 (by simp) _ rfl (fun w0 O0 => ?_)
  repeat (first | refine n1 ?_ | refine n2 (fun b _ => ?_) | refine n3 (fun _ _ => ?_) | refine n4 ?_ | refine n5 ?_ | refine WL_nil ?_ | refine W_seq ?_ | refine W_region ?_ | refine n7 ?_ | refine n8 ?_ | refine W_block ?_ | refine W_skip ?_ | refine W_ret ?_ | refine W_exit ?_ | refine WQ_then ?_ | refine WQ_then_ret ?_ | refine WQ_then_exit ?_ | refine WQ_block_normal ?_ | refine WQ_block_ret ?_ | refine WQ_block_exit ?_ | refine n9 ?_)
  (apply WL_effs; exact rfl; exact rfl; exact rfl; apply E_call; exact rfl; (intro _ _; simp); exact read_fn dv xs; (repeat (first | exact AllE.nil _ | (apply AllE.cons; (focus (first | exact ent_nilBy | exact ent_nilSl | (apply Ent.mem; repeat' (first | exact mcs | apply mct))))))); (intro _; exact rfl); (intro _; exact rfl))
  intro c _
  have r0 := Rs.start xs
  generalize (if 2304 < xs.length then (11 : Int) else 0) = e0 at *
  have g0 := rtwo_fn c dv xs 0 e0 r0.le hx
  obtain ⟨r1, v1⟩ := r0.next 2
  have w1 := Rs.zero (xs := xs) (k := 0) (a := 0) (n := 2) (e := e0)
  generalize hb1 : rdB xs 0 e0 2 = b1 at *
  generalize rdA xs.length 0 e0 2 = a1 at *
  generalize rdE xs.length 0 e0 2 = e1 at *
  repeat (first | refine n1 ?_ | refine n2 (fun b _ => ?_) | refine n3 (fun _ _ => ?_) | refine n4 ?_ | refine n5 ?_ | refine WL_nil ?_ | refine W_seq ?_ | refine W_region ?_ | refine n7 ?_ | refine n8 ?_ | refine W_block ?_ | refine W_skip ?_ | refine W_ret ?_ | refine W_exit ?_ | refine WQ_then ?_ | refine WQ_then_ret ?_ | refine WQ_then_exit ?_ | refine WQ_block_normal ?_ | refine WQ_block_ret ?_ | refine WQ_block_exit ?_ | refine n9 ?_)
  refine WL_effs rfl rfl rfl (E_callG (first := #[.pointer (some ⟨c, 0, none⟩)]) (captured := #[]) (Γp := [.blk c 146 [dv, .int .i64 ((0 : Nat) : Int), .int .i64 e0]]) rfl rfl rfl (by intro _ _; simp) g0 (perm1 (by repeat' (first | exact Pick.head _ _ | apply Pick.tail))) (by (repeat (first | exact AllE.nil _ | (apply AllE.cons; (focus (first | exact ent_nilBy | exact ent_nilSl | (apply Ent.mem; repeat' (first | exact mcs | apply mct)))))))) (fun _ => rfl) (fun _ => rfl)) ?_
  intro y1 _
  have g1 := rtwo_fn c y1 xs a1 e1 r1.le hx
  obtain ⟨r2, v2⟩ := r1.next 2
  have w2 := Rs.zero (xs := xs) (k := 0) (a := a1) (n := 2) (e := e1)
  generalize hb2 : rdB xs a1 e1 2 = b2 at *
  generalize rdA xs.length a1 e1 2 = a2 at *
  generalize rdE xs.length a1 e1 2 = e2 at *
  repeat (first | refine n1 ?_ | refine n2 (fun b _ => ?_) | refine n3 (fun _ _ => ?_) | refine n4 ?_ | refine n5 ?_ | refine WL_nil ?_ | refine W_seq ?_ | refine W_region ?_ | refine n7 ?_ | refine n8 ?_ | refine W_block ?_ | refine W_skip ?_ | refine W_ret ?_ | refine W_exit ?_ | refine WQ_then ?_ | refine WQ_then_ret ?_ | refine WQ_then_exit ?_ | refine WQ_block_normal ?_ | refine WQ_block_ret ?_ | refine WQ_block_exit ?_ | refine n9 ?_)
  refine WL_effs rfl rfl rfl (E_callG (first := #[.pointer (some ⟨c, 0, none⟩)]) (captured := #[]) (Γp := [.blk c 146 [y1, .int .i64 (a1 : Int), .int .i64 e1]]) rfl rfl rfl (by intro _ _; simp) g1 (perm1 (by repeat' (first | exact Pick.head _ _ | apply Pick.tail))) (by (repeat (first | exact AllE.nil _ | (apply AllE.cons; (focus (first | exact ent_nilBy | exact ent_nilSl | (apply Ent.mem; repeat' (first | exact mcs | apply mct)))))))) (fun _ => rfl) (fun _ => rfl)) ?_
  intro y2 _
  have g2 := rtwo_fn c y2 xs a2 e2 r2.le hx
  obtain ⟨r3, v3⟩ := r2.next 2
  have w3 := Rs.zero (xs := xs) (k := 0) (a := a2) (n := 2) (e := e2)
  generalize hb3 : rdB xs a2 e2 2 = b3 at *
  generalize rdA xs.length a2 e2 2 = a3 at *
  generalize rdE xs.length a2 e2 2 = e3 at *
  repeat (first | refine n1 ?_ | refine n2 (fun b _ => ?_) | refine n3 (fun _ _ => ?_) | refine n4 ?_ | refine n5 ?_ | refine WL_nil ?_ | refine W_seq ?_ | refine W_region ?_ | refine n7 ?_ | refine n8 ?_ | refine W_block ?_ | refine W_skip ?_ | refine W_ret ?_ | refine W_exit ?_ | refine WQ_then ?_ | refine WQ_then_ret ?_ | refine WQ_then_exit ?_ | refine WQ_block_normal ?_ | refine WQ_block_ret ?_ | refine WQ_block_exit ?_ | refine n9 ?_)
  refine WL_effs rfl rfl rfl (E_callG (first := #[.pointer (some ⟨c, 0, none⟩)]) (captured := #[]) (Γp := [.blk c 146 [y2, .int .i64 (a2 : Int), .int .i64 e2]]) rfl rfl rfl (by intro _ _; simp) g2 (perm1 (by repeat' (first | exact Pick.head _ _ | apply Pick.tail))) (by (repeat (first | exact AllE.nil _ | (apply AllE.cons; (focus (first | exact ent_nilBy | exact ent_nilSl | (apply Ent.mem; repeat' (first | exact mcs | apply mct)))))))) (fun _ => rfl) (fun _ => rfl)) ?_
  intro y3 _
  repeat (first | refine n1 ?_ | refine n2 (fun b _ => ?_) | refine n3 (fun _ _ => ?_) | refine n4 ?_ | refine n5 ?_ | refine WL_nil ?_ | refine W_seq ?_ | refine W_region ?_ | refine n7 ?_ | refine n8 ?_ | refine W_block ?_ | refine W_skip ?_ | refine W_ret ?_ | refine W_exit ?_ | refine WQ_then ?_ | refine WQ_then_ret ?_ | refine WQ_then_exit ?_ | refine WQ_block_normal ?_ | refine WQ_block_ret ?_ | refine WQ_block_exit ?_ | refine n9 ?_)
  (apply WL_effs; exact rfl; exact rfl; exact rfl; apply E_callO; exact rfl; (intro _ _; simp); exact rels_fn c y3 xs a3 e3 r3.le hx; (first | (apply perm1; (focus (repeat' (first | exact Pick.head _ _ | apply Pick.tail)))) | (apply perm2; (focus (repeat' (first | exact Pick.head _ _ | apply Pick.tail))); (focus (repeat' (first | exact Pick.head _ _ | apply Pick.tail)))) | (apply perm3; (focus (repeat' (first | exact Pick.head _ _ | apply Pick.tail))); (focus (repeat' (first | exact Pick.head _ _ | apply Pick.tail))); (focus (repeat' (first | exact Pick.head _ _ | apply Pick.tail))))); (repeat (first | exact AllE.nil _ | (apply AllE.cons; (focus (first | exact ent_nilBy | exact ent_nilSl | (apply Ent.mem; repeat' (first | exact mcs | apply mct))))))); (intro _; exact rfl); (intro _; exact rfl))
  rintro ⟨o, t⟩ ht
  replace ht : t.er = reF xs a3 e3 := ht
  obtain ⟨q1, q2⟩ := r3.els
  rw [q1] at q2 ⊢
  replace q1 : reE xs a3 e3 = drE xs 6 := q1
  replace q2 : drE xs 6 = 0 → e3 = 0 ∧ reF xs a3 e3 = drF xs 6 := q2
  repeat (first | refine n1 ?_ | refine n2 (fun b _ => ?_) | refine n3 (fun _ _ => ?_) | refine n4 ?_ | refine n5 ?_ | refine WL_nil ?_ | refine W_seq ?_ | refine W_region ?_ | refine n7 ?_ | refine n8 ?_ | refine W_block ?_ | refine W_skip ?_ | refine W_ret ?_ | refine W_exit ?_ | refine WQ_then ?_ | refine WQ_then_ret ?_ | refine WQ_then_exit ?_ | refine WQ_block_normal ?_ | refine WQ_block_ret ?_ | refine WQ_block_exit ?_ | refine n9 ?_)
  refine WL_runs rfl rfl rfl (R_callB (Γb := [.blk c 146 [y3, .int .i64 (a3 : Int), .int .i64 (drE xs (((0 + 2 + 2) + 2)))]]) rfl (by intro _ _; simp) (resAuthBody_fn c y3 a3 (drE xs (((0 + 2 + 2) + 2))) (tw2 b1) (tw2 b2) (tw2 b3) o t) (perm1 (by repeat' (first | exact Pick.head _ _ | apply Pick.tail))) (Bor.ent (Bor.blks (bs := [(c, 146, [y3, .int .i64 (a3 : Int), .int .i64 (drE xs (((0 + 2 + 2) + 2)))])])) (AllE.cons (Ent.mem (by repeat' (first | exact mcs | apply mct))) (AllE.cons (Ent.mem (by repeat' (first | exact mcs | apply mct))) (AllE.nil _))))) ?_
  by_cases h0 : drE xs 6 = 0
  · obtain ⟨z3, ht2⟩ := q2 h0
    have z2 := w3 z3
    have z1 := w2 z2
    have n1_ : tw2 b1 = twA xs 0 := by rw [v1 z1]; exact tw2_at xs 0
    have n2_ : tw2 b2 = twA xs 2 := by rw [v2 z2]; exact tw2_at xs 2
    have n3_ : tw2 b3 = twA xs 4 := by rw [v3 z3]; exact tw2_at xs 4
    rw [show drE xs (((0 + 2 + 2) + 2)) = 0 from h0, if_pos rfl]
    simp only [h0, z0_ok rfl, n1_, n2_, n3_]
    rw [ht2] at ht
    repeat (first | refine n1 ?_ | refine n2 (fun b _ => ?_) | refine n3 (fun _ _ => ?_) | refine n4 ?_ | refine n5 ?_ | refine WL_nil ?_ | refine W_seq ?_ | refine W_region ?_ | refine n7 ?_ | refine n8 ?_ | refine W_block ?_ | refine W_skip ?_ | refine W_ret ?_ | refine W_exit ?_ | refine WQ_then ?_ | refine WQ_then_ret ?_ | refine WQ_then_exit ?_ | refine WQ_block_normal ?_ | refine WQ_block_ret ?_ | refine WQ_block_exit ?_ | refine n9 ?_)
    ((apply ret2 Try.results31 ( (o, t))); (focus (first | trivial | assumption | omega)); (focus (first | exact RV_tmp rfl | (apply RV_cellN; exact rfl; (repeat' (first | exact Pick.head _ _ | apply Pick.tail)); (intro _; exact rfl); (intro _; exact rfl); exact rfl) | (apply RV_cell1; exact rfl; (repeat' (first | exact Pick.head _ _ | apply Pick.tail)); (intro _; exact rfl); exact rfl))); (focus (first | exact RV_tmp rfl | (apply RV_cellN; exact rfl; (repeat' (first | exact Pick.head _ _ | apply Pick.tail)); (intro _; exact rfl); (intro _; exact rfl); exact rfl) | (apply RV_cell1; exact rfl; (repeat' (first | exact Pick.head _ _ | apply Pick.tail)); (intro _; exact rfl); exact rfl)));  (focus (first | exact rfl | (simp; done))); (focus (repeat (first | exact SubO.nil _ | (apply SubO.cons; (focus (repeat' (first | exact Pick.head _ _ | apply Pick.tail))))))); (focus (repeat (first | exact AllE.nil _ | (apply AllE.cons; (focus (first | exact ent_nilBy | exact ent_nilSl | (apply Ent.mem; repeat' (first | exact mcs | apply mct)))))))))
  · rw [if_neg (show ¬ drE xs (((0 + 2 + 2) + 2)) = 0 from h0)]
    simp only [z0_bad h0]
    repeat (first | refine n1 ?_ | refine n2 (fun b _ => ?_) | refine n3 (fun _ _ => ?_) | refine n4 ?_ | refine n5 ?_ | refine WL_nil ?_ | refine W_seq ?_ | refine W_region ?_ | refine n7 ?_ | refine n8 ?_ | refine W_block ?_ | refine W_skip ?_ | refine W_ret ?_ | refine W_exit ?_ | refine WQ_then ?_ | refine WQ_then_ret ?_ | refine WQ_then_exit ?_ | refine WQ_block_normal ?_ | refine WQ_block_ret ?_ | refine WQ_block_exit ?_ | refine n9 ?_)
    apply C04.WQ_none2
    have hn : T.er T.nil = drF xs 6 := (drF_bad h0).symm
    ((apply ret2 Try.results31 ( (Value.slice none 0 0, T.nil))); (focus (first | trivial | assumption | omega)); (focus (first | exact RV_tmp rfl | (apply RV_cellN; exact rfl; (repeat' (first | exact Pick.head _ _ | apply Pick.tail)); (intro _; exact rfl); (intro _; exact rfl); exact rfl) | (apply RV_cell1; exact rfl; (repeat' (first | exact Pick.head _ _ | apply Pick.tail)); (intro _; exact rfl); exact rfl))); (focus (first | exact RV_tmp rfl | (apply RV_cellN; exact rfl; (repeat' (first | exact Pick.head _ _ | apply Pick.tail)); (intro _; exact rfl); (intro _; exact rfl); exact rfl) | (apply RV_cell1; exact rfl; (repeat' (first | exact Pick.head _ _ | apply Pick.tail)); (intro _; exact rfl); exact rfl)));  (focus (first | exact rfl | (simp; done))); (focus (repeat (first | exact SubO.nil _ | (apply SubO.cons; (focus (repeat' (first | exact Pick.head _ _ | apply Pick.tail))))))); (focus (repeat (first | exact AllE.nil _ | (apply AllE.cons; (focus (first | exact ent_nilBy | exact ent_nilSl | (apply Ent.mem; repeat' (first | exact mcs | apply mct)))))))))

set_option maxRecDepth 100000 in
set_option maxHeartbeats 8000000 in
theorem dBeacon_fn (dv : Value) (xs : List UInt8) (hx : xs.length ≤ 1000000) : Ct Try.prog 29 [dv] [] [By dv xs]
    (X := Value × T) (fun x => x.2.er = drF xs 12) (fun x => .tuple #[.agg #[.int .u64 (z0 (drE xs 12) (e8 xs 0) : Int), .int .u16 (z0 (drE xs 12) (twA xs 8) : Int), .int .u16 (z0 (drE xs 12) (twA xs 10) : Int), x.1], .int .i64 (drE xs 12)]) (fun _ => []) (fun x => [Rw 4 x.1 x.2.len x.2.at_, x.2.tf]) := by
  refine Ct_intro Try.func29 rfl Try.ntmps29 (by simp) _ rfl (fun w0 O0 => ?_)
  repeat (first | refine n1 ?_ | refine n2 (fun b _ => ?_) | refine n3 (fun _ _ => ?_) | refine n4 ?_ | refine n5 ?_ | refine WL_nil ?_ | refine W_seq ?_ | refine W_region ?_ | refine n7 ?_ | refine n8 ?_ | refine W_block ?_ | refine W_skip ?_ | refine W_ret ?_ | refine W_exit ?_ | refine WQ_then ?_ | refine WQ_then_ret ?_ | refine WQ_then_exit ?_ | refine WQ_block_normal ?_ | refine WQ_block_ret ?_ | refine WQ_block_exit ?_ | refine n9 ?_)
  (apply WL_effs; exact rfl; exact rfl; exact rfl; apply E_call; exact rfl; (intro _ _; simp); exact read_fn dv xs; (repeat (first | exact AllE.nil _ | (apply AllE.cons; (focus (first | exact ent_nilBy | exact ent_nilSl | (apply Ent.mem; repeat' (first | exact mcs | apply mct))))))); (intro _; exact rfl); (intro _; exact rfl))
  intro c _
  have r0 := Rs.start xs
  generalize (if 2304 < xs.length then (11 : Int) else 0) = e0 at *
  have g0 := eight_fn c dv xs 0 e0 r0.le hx
  obtain ⟨r1, v1⟩ := r0.next 8
  have w1 := Rs.zero (xs := xs) (k := 0) (a := 0) (n := 8) (e := e0)
  generalize hb1 : rdB xs 0 e0 8 = b1 at *
  generalize rdA xs.length 0 e0 8 = a1 at *
  generalize rdE xs.length 0 e0 8 = e1 at *
  repeat (first | refine n1 ?_ | refine n2 (fun b _ => ?_) | refine n3 (fun _ _ => ?_) | refine n4 ?_ | refine n5 ?_ | refine WL_nil ?_ | refine W_seq ?_ | refine W_region ?_ | refine n7 ?_ | refine n8 ?_ | refine W_block ?_ | refine W_skip ?_ | refine W_ret ?_ | refine W_exit ?_ | refine WQ_then ?_ | refine WQ_then_ret ?_ | refine WQ_then_exit ?_ | refine WQ_block_normal ?_ | refine WQ_block_ret ?_ | refine WQ_block_exit ?_ | refine n9 ?_)
  (apply WL_effs; exact rfl; exact rfl; exact rfl; apply E_callO; exact rfl; (intro _ _; simp); exact g0; (first | (apply perm1; (focus (repeat' (first | exact Pick.head _ _ | apply Pick.tail)))) | (apply perm2; (focus (repeat' (first | exact Pick.head _ _ | apply Pick.tail))); (focus (repeat' (first | exact Pick.head _ _ | apply Pick.tail)))) | (apply perm3; (focus (repeat' (first | exact Pick.head _ _ | apply Pick.tail))); (focus (repeat' (first | exact Pick.head _ _ | apply Pick.tail))); (focus (repeat' (first | exact Pick.head _ _ | apply Pick.tail))))); (repeat (first | exact AllE.nil _ | (apply AllE.cons; (focus (first | exact ent_nilBy | exact ent_nilSl | (apply Ent.mem; repeat' (first | exact mcs | apply mct))))))); (intro _; exact rfl); (intro _; exact rfl))
  intro y1 _
  have g1 := rtwo_fn c y1 xs a1 e1 r1.le hx
  obtain ⟨r2, v2⟩ := r1.next 2
  have w2 := Rs.zero (xs := xs) (k := 0) (a := a1) (n := 2) (e := e1)
  generalize hb2 : rdB xs a1 e1 2 = b2 at *
  generalize rdA xs.length a1 e1 2 = a2 at *
  generalize rdE xs.length a1 e1 2 = e2 at *
  repeat (first | refine n1 ?_ | refine n2 (fun b _ => ?_) | refine n3 (fun _ _ => ?_) | refine n4 ?_ | refine n5 ?_ | refine WL_nil ?_ | refine W_seq ?_ | refine W_region ?_ | refine n7 ?_ | refine n8 ?_ | refine W_block ?_ | refine W_skip ?_ | refine W_ret ?_ | refine W_exit ?_ | refine WQ_then ?_ | refine WQ_then_ret ?_ | refine WQ_then_exit ?_ | refine WQ_block_normal ?_ | refine WQ_block_ret ?_ | refine WQ_block_exit ?_ | refine n9 ?_)
  refine WL_effs rfl rfl rfl (E_callG (first := #[.pointer (some ⟨c, 0, none⟩)]) (captured := #[]) (Γp := [.blk c 146 [y1, .int .i64 (a1 : Int), .int .i64 e1]]) rfl rfl rfl (by intro _ _; simp) g1 (perm1 (by repeat' (first | exact Pick.head _ _ | apply Pick.tail))) (by (repeat (first | exact AllE.nil _ | (apply AllE.cons; (focus (first | exact ent_nilBy | exact ent_nilSl | (apply Ent.mem; repeat' (first | exact mcs | apply mct)))))))) (fun _ => rfl) (fun _ => rfl)) ?_
  intro y2 _
  have g2 := rtwo_fn c y2 xs a2 e2 r2.le hx
  obtain ⟨r3, v3⟩ := r2.next 2
  have w3 := Rs.zero (xs := xs) (k := 0) (a := a2) (n := 2) (e := e2)
  generalize hb3 : rdB xs a2 e2 2 = b3 at *
  generalize rdA xs.length a2 e2 2 = a3 at *
  generalize rdE xs.length a2 e2 2 = e3 at *
  repeat (first | refine n1 ?_ | refine n2 (fun b _ => ?_) | refine n3 (fun _ _ => ?_) | refine n4 ?_ | refine n5 ?_ | refine WL_nil ?_ | refine W_seq ?_ | refine W_region ?_ | refine n7 ?_ | refine n8 ?_ | refine W_block ?_ | refine W_skip ?_ | refine W_ret ?_ | refine W_exit ?_ | refine WQ_then ?_ | refine WQ_then_ret ?_ | refine WQ_then_exit ?_ | refine WQ_block_normal ?_ | refine WQ_block_ret ?_ | refine WQ_block_exit ?_ | refine n9 ?_)
  refine WL_effs rfl rfl rfl (E_callG (first := #[.pointer (some ⟨c, 0, none⟩)]) (captured := #[]) (Γp := [.blk c 146 [y2, .int .i64 (a2 : Int), .int .i64 e2]]) rfl rfl rfl (by intro _ _; simp) g2 (perm1 (by repeat' (first | exact Pick.head _ _ | apply Pick.tail))) (by (repeat (first | exact AllE.nil _ | (apply AllE.cons; (focus (first | exact ent_nilBy | exact ent_nilSl | (apply Ent.mem; repeat' (first | exact mcs | apply mct)))))))) (fun _ => rfl) (fun _ => rfl)) ?_
  intro y3 _
  repeat (first | refine n1 ?_ | refine n2 (fun b _ => ?_) | refine n3 (fun _ _ => ?_) | refine n4 ?_ | refine n5 ?_ | refine WL_nil ?_ | refine W_seq ?_ | refine W_region ?_ | refine n7 ?_ | refine n8 ?_ | refine W_block ?_ | refine W_skip ?_ | refine W_ret ?_ | refine W_exit ?_ | refine WQ_then ?_ | refine WQ_then_ret ?_ | refine WQ_then_exit ?_ | refine WQ_block_normal ?_ | refine WQ_block_ret ?_ | refine WQ_block_exit ?_ | refine n9 ?_)
  (apply WL_effs; exact rfl; exact rfl; exact rfl; apply E_callO; exact rfl; (intro _ _; simp); exact rels_fn c y3 xs a3 e3 r3.le hx; (first | (apply perm1; (focus (repeat' (first | exact Pick.head _ _ | apply Pick.tail)))) | (apply perm2; (focus (repeat' (first | exact Pick.head _ _ | apply Pick.tail))); (focus (repeat' (first | exact Pick.head _ _ | apply Pick.tail)))) | (apply perm3; (focus (repeat' (first | exact Pick.head _ _ | apply Pick.tail))); (focus (repeat' (first | exact Pick.head _ _ | apply Pick.tail))); (focus (repeat' (first | exact Pick.head _ _ | apply Pick.tail))))); (repeat (first | exact AllE.nil _ | (apply AllE.cons; (focus (first | exact ent_nilBy | exact ent_nilSl | (apply Ent.mem; repeat' (first | exact mcs | apply mct))))))); (intro _; exact rfl); (intro _; exact rfl))
  rintro ⟨o, t⟩ ht
  replace ht : t.er = reF xs a3 e3 := ht
  obtain ⟨q1, q2⟩ := r3.els
  rw [q1] at q2 ⊢
  replace q1 : reE xs a3 e3 = drE xs 12 := q1
  replace q2 : drE xs 12 = 0 → e3 = 0 ∧ reF xs a3 e3 = drF xs 12 := q2
  repeat (first | refine n1 ?_ | refine n2 (fun b _ => ?_) | refine n3 (fun _ _ => ?_) | refine n4 ?_ | refine n5 ?_ | refine WL_nil ?_ | refine W_seq ?_ | refine W_region ?_ | refine n7 ?_ | refine n8 ?_ | refine W_block ?_ | refine W_skip ?_ | refine W_ret ?_ | refine W_exit ?_ | refine WQ_then ?_ | refine WQ_then_ret ?_ | refine WQ_then_exit ?_ | refine WQ_block_normal ?_ | refine WQ_block_ret ?_ | refine WQ_block_exit ?_ | refine n9 ?_)
  refine WL_runs rfl rfl rfl (R_callB (Γb := [.blk c 146 [y3, .int .i64 (a3 : Int), .int .i64 (drE xs (((0 + 8 + 2) + 2)))]]) rfl (by intro _ _; simp) (resBeacon_fn c y3 a3 (drE xs (((0 + 8 + 2) + 2))) (C01.leN b1) (tw2 b2) (tw2 b3) o t) (perm1 (by repeat' (first | exact Pick.head _ _ | apply Pick.tail))) (Bor.ent (Bor.blks (bs := [(c, 146, [y3, .int .i64 (a3 : Int), .int .i64 (drE xs (((0 + 8 + 2) + 2)))])])) (AllE.cons (Ent.mem (by repeat' (first | exact mcs | apply mct))) (AllE.cons (Ent.mem (by repeat' (first | exact mcs | apply mct))) (AllE.nil _))))) ?_
  by_cases h0 : drE xs 12 = 0
  · obtain ⟨z3, ht2⟩ := q2 h0
    have z2 := w3 z3
    have z1 := w2 z2
    have n1_ : C01.leN b1 = e8 xs 0 := by rw [v1 z1]; rfl
    have n2_ : tw2 b2 = twA xs 8 := by rw [v2 z2]; exact tw2_at xs 8
    have n3_ : tw2 b3 = twA xs 10 := by rw [v3 z3]; exact tw2_at xs 10
    rw [show drE xs (((0 + 8 + 2) + 2)) = 0 from h0, if_pos rfl]
    simp only [h0, z0_ok rfl, n1_, n2_, n3_]
    rw [ht2] at ht
    repeat (first | refine n1 ?_ | refine n2 (fun b _ => ?_) | refine n3 (fun _ _ => ?_) | refine n4 ?_ | refine n5 ?_ | refine WL_nil ?_ | refine W_seq ?_ | refine W_region ?_ | refine n7 ?_ | refine n8 ?_ | refine W_block ?_ | refine W_skip ?_ | refine W_ret ?_ | refine W_exit ?_ | refine WQ_then ?_ | refine WQ_then_ret ?_ | refine WQ_then_exit ?_ | refine WQ_block_normal ?_ | refine WQ_block_ret ?_ | refine WQ_block_exit ?_ | refine n9 ?_)
    ((apply ret2 Try.results29 ( (o, t))); (focus (first | trivial | assumption | omega)); (focus (first | exact RV_tmp rfl | (apply RV_cellN; exact rfl; (repeat' (first | exact Pick.head _ _ | apply Pick.tail)); (intro _; exact rfl); (intro _; exact rfl); exact rfl) | (apply RV_cell1; exact rfl; (repeat' (first | exact Pick.head _ _ | apply Pick.tail)); (intro _; exact rfl); exact rfl))); (focus (first | exact RV_tmp rfl | (apply RV_cellN; exact rfl; (repeat' (first | exact Pick.head _ _ | apply Pick.tail)); (intro _; exact rfl); (intro _; exact rfl); exact rfl) | (apply RV_cell1; exact rfl; (repeat' (first | exact Pick.head _ _ | apply Pick.tail)); (intro _; exact rfl); exact rfl)));  (focus (first | exact rfl | (simp; done))); (focus (repeat (first | exact SubO.nil _ | (apply SubO.cons; (focus (repeat' (first | exact Pick.head _ _ | apply Pick.tail))))))); (focus (repeat (first | exact AllE.nil _ | (apply AllE.cons; (focus (first | exact ent_nilBy | exact ent_nilSl | (apply Ent.mem; repeat' (first | exact mcs | apply mct)))))))))
  · rw [if_neg (show ¬ drE xs (((0 + 8 + 2) + 2)) = 0 from h0)]
    simp only [z0_bad h0]
    repeat (first | refine n1 ?_ | refine n2 (fun b _ => ?_) | refine n3 (fun _ _ => ?_) | refine n4 ?_ | refine n5 ?_ | refine WL_nil ?_ | refine W_seq ?_ | refine W_region ?_ | refine n7 ?_ | refine n8 ?_ | refine W_block ?_ | refine W_skip ?_ | refine W_ret ?_ | refine W_exit ?_ | refine WQ_then ?_ | refine WQ_then_ret ?_ | refine WQ_then_exit ?_ | refine WQ_block_normal ?_ | refine WQ_block_ret ?_ | refine WQ_block_exit ?_ | refine n9 ?_)
    apply C04.WQ_none2
    have hn : T.er T.nil = drF xs 12 := (drF_bad h0).symm
    ((apply ret2 Try.results29 ( (Value.slice none 0 0, T.nil))); (focus (first | trivial | assumption | omega)); (focus (first | exact RV_tmp rfl | (apply RV_cellN; exact rfl; (repeat' (first | exact Pick.head _ _ | apply Pick.tail)); (intro _; exact rfl); (intro _; exact rfl); exact rfl) | (apply RV_cell1; exact rfl; (repeat' (first | exact Pick.head _ _ | apply Pick.tail)); (intro _; exact rfl); exact rfl))); (focus (first | exact RV_tmp rfl | (apply RV_cellN; exact rfl; (repeat' (first | exact Pick.head _ _ | apply Pick.tail)); (intro _; exact rfl); (intro _; exact rfl); exact rfl) | (apply RV_cell1; exact rfl; (repeat' (first | exact Pick.head _ _ | apply Pick.tail)); (intro _; exact rfl); exact rfl)));  (focus (first | exact rfl | (simp; done))); (focus (repeat (first | exact SubO.nil _ | (apply SubO.cons; (focus (repeat' (first | exact Pick.head _ _ | apply Pick.tail))))))); (focus (repeat (first | exact AllE.nil _ | (apply AllE.cons; (focus (first | exact ent_nilBy | exact ent_nilSl | (apply Ent.mem; repeat' (first | exact mcs | apply mct)))))))))

/-- the error of an association response: that of the number comes ahead of that of the elements. -/
def rpE (xs : List UInt8) : Int := if frE xs.length 6 = 0 ∧ 255 < twA xs 4 then 12 else drE xs 6
def rpF (xs : List UInt8) : Fo := if rpE xs = 0 then dlF (xs.drop 6) else .nil

set_option maxRecDepth 100000 in
set_option maxHeartbeats 8000000 in
theorem dResp_fn (dv : Value) (xs : List UInt8) (hx : xs.length ≤ 1000000) : Ct Try.prog 35 [dv] [] [By dv xs]
    (X := Value × T) (fun x => x.2.er = rpF xs) (fun x => .tuple #[.agg #[.int .u16 (z0 (rpE xs) (twA xs 0) : Int), .int .u16 (z0 (rpE xs) (twA xs 2) : Int), .int .i64 (z0 (rpE xs) (twA xs 4) : Int), x.1], .int .i64 (rpE xs)]) (fun _ => []) (fun x => [Rw 4 x.1 x.2.len x.2.at_, x.2.tf]) := by
  refine Ct_intro Try.func35 rfl Try.ntmps35 (by simp) _ rfl (fun w0 O0 => ?_)
  repeat (first | refine n1 ?_ | refine n2 (fun b _ => ?_) | refine n3 (fun _ _ => ?_) | refine n4 ?_ | refine n5 ?_ | refine WL_nil ?_ | refine W_seq ?_ | refine W_region ?_ | refine n7 ?_ | refine n8 ?_ | refine W_block ?_ | refine W_skip ?_ | refine W_ret ?_ | refine W_exit ?_ | refine WQ_then ?_ | refine WQ_then_ret ?_ | refine WQ_then_exit ?_ | refine WQ_block_normal ?_ | refine WQ_block_ret ?_ | refine WQ_block_exit ?_ | refine n9 ?_)
  (apply WL_effs; exact rfl; exact rfl; exact rfl; apply E_call; exact rfl; (intro _ _; simp); exact read_fn dv xs; (repeat (first | exact AllE.nil _ | (apply AllE.cons; (focus (first | exact ent_nilBy | exact ent_nilSl | (apply Ent.mem; repeat' (first | exact mcs | apply mct))))))); (intro _; exact rfl); (intro _; exact rfl))
  intro c _
  have r0 := Rs.start xs
  generalize (if 2304 < xs.length then (11 : Int) else 0) = e0 at *
  have g0 := rtwo_fn c dv xs 0 e0 r0.le hx
  obtain ⟨r1, v1⟩ := r0.next 2
  have w1 := Rs.zero (xs := xs) (k := 0) (a := 0) (n := 2) (e := e0)
  generalize hb1 : rdB xs 0 e0 2 = b1 at *
  generalize rdA xs.length 0 e0 2 = a1 at *
  generalize rdE xs.length 0 e0 2 = e1 at *
  repeat (first | refine n1 ?_ | refine n2 (fun b _ => ?_) | refine n3 (fun _ _ => ?_) | refine n4 ?_ | refine n5 ?_ | refine WL_nil ?_ | refine W_seq ?_ | refine W_region ?_ | refine n7 ?_ | refine n8 ?_ | refine W_block ?_ | refine W_skip ?_ | refine W_ret ?_ | refine W_exit ?_ | refine WQ_then ?_ | refine WQ_then_ret ?_ | refine WQ_then_exit ?_ | refine WQ_block_normal ?_ | refine WQ_block_ret ?_ | refine WQ_block_exit ?_ | refine n9 ?_)
  (apply WL_effs; exact rfl; exact rfl; exact rfl; apply E_callO; exact rfl; (intro _ _; simp); exact g0; (first | (apply perm1; (focus (repeat' (first | exact Pick.head _ _ | apply Pick.tail)))) | (apply perm2; (focus (repeat' (first | exact Pick.head _ _ | apply Pick.tail))); (focus (repeat' (first | exact Pick.head _ _ | apply Pick.tail)))) | (apply perm3; (focus (repeat' (first | exact Pick.head _ _ | apply Pick.tail))); (focus (repeat' (first | exact Pick.head _ _ | apply Pick.tail))); (focus (repeat' (first | exact Pick.head _ _ | apply Pick.tail))))); (repeat (first | exact AllE.nil _ | (apply AllE.cons; (focus (first | exact ent_nilBy | exact ent_nilSl | (apply Ent.mem; repeat' (first | exact mcs | apply mct))))))); (intro _; exact rfl); (intro _; exact rfl))
  intro y1 _
  have g1 := rtwo_fn c y1 xs a1 e1 r1.le hx
  obtain ⟨r2, v2⟩ := r1.next 2
  have w2 := Rs.zero (xs := xs) (k := 0) (a := a1) (n := 2) (e := e1)
  generalize hb2 : rdB xs a1 e1 2 = b2 at *
  generalize rdA xs.length a1 e1 2 = a2 at *
  generalize rdE xs.length a1 e1 2 = e2 at *
  repeat (first | refine n1 ?_ | refine n2 (fun b _ => ?_) | refine n3 (fun _ _ => ?_) | refine n4 ?_ | refine n5 ?_ | refine WL_nil ?_ | refine W_seq ?_ | refine W_region ?_ | refine n7 ?_ | refine n8 ?_ | refine W_block ?_ | refine W_skip ?_ | refine W_ret ?_ | refine W_exit ?_ | refine WQ_then ?_ | refine WQ_then_ret ?_ | refine WQ_then_exit ?_ | refine WQ_block_normal ?_ | refine WQ_block_ret ?_ | refine WQ_block_exit ?_ | refine n9 ?_)
  (apply WL_effs; exact rfl; exact rfl; exact rfl; apply E_callO; exact rfl; (intro _ _; simp); exact g1; (first | (apply perm1; (focus (repeat' (first | exact Pick.head _ _ | apply Pick.tail)))) | (apply perm2; (focus (repeat' (first | exact Pick.head _ _ | apply Pick.tail))); (focus (repeat' (first | exact Pick.head _ _ | apply Pick.tail)))) | (apply perm3; (focus (repeat' (first | exact Pick.head _ _ | apply Pick.tail))); (focus (repeat' (first | exact Pick.head _ _ | apply Pick.tail))); (focus (repeat' (first | exact Pick.head _ _ | apply Pick.tail))))); (repeat (first | exact AllE.nil _ | (apply AllE.cons; (focus (first | exact ent_nilBy | exact ent_nilSl | (apply Ent.mem; repeat' (first | exact mcs | apply mct))))))); (intro _; exact rfl); (intro _; exact rfl))
  intro y2 _
  have g2 := rtwo_fn c y2 xs a2 e2 r2.le hx
  obtain ⟨r3, v3⟩ := r2.next 2
  have w3 := Rs.zero (xs := xs) (k := 0) (a := a2) (n := 2) (e := e2)
  generalize hb3 : rdB xs a2 e2 2 = b3 at *
  generalize rdA xs.length a2 e2 2 = a3 at *
  generalize rdE xs.length a2 e2 2 = e3 at *
  repeat (first | refine n1 ?_ | refine n2 (fun b _ => ?_) | refine n3 (fun _ _ => ?_) | refine n4 ?_ | refine n5 ?_ | refine WL_nil ?_ | refine W_seq ?_ | refine W_region ?_ | refine n7 ?_ | refine n8 ?_ | refine W_block ?_ | refine W_skip ?_ | refine W_ret ?_ | refine W_exit ?_ | refine WQ_then ?_ | refine WQ_then_ret ?_ | refine WQ_then_exit ?_ | refine WQ_block_normal ?_ | refine WQ_block_ret ?_ | refine WQ_block_exit ?_ | refine n9 ?_)
  (apply WL_effs; exact rfl; exact rfl; exact rfl; apply E_callO; exact rfl; (intro _ _; simp); exact g2; (first | (apply perm1; (focus (repeat' (first | exact Pick.head _ _ | apply Pick.tail)))) | (apply perm2; (focus (repeat' (first | exact Pick.head _ _ | apply Pick.tail))); (focus (repeat' (first | exact Pick.head _ _ | apply Pick.tail)))) | (apply perm3; (focus (repeat' (first | exact Pick.head _ _ | apply Pick.tail))); (focus (repeat' (first | exact Pick.head _ _ | apply Pick.tail))); (focus (repeat' (first | exact Pick.head _ _ | apply Pick.tail))))); (repeat (first | exact AllE.nil _ | (apply AllE.cons; (focus (first | exact ent_nilBy | exact ent_nilSl | (apply Ent.mem; repeat' (first | exact mcs | apply mct))))))); (intro _; exact rfl); (intro _; exact rfl))
  intro y3 _
  have hn3 := tw2_lt b3
  repeat (first | refine n1 ?_ | refine n2 (fun b _ => ?_) | refine n3 (fun _ _ => ?_) | refine n4 ?_ | refine n5 ?_ | refine WL_nil ?_ | refine W_seq ?_ | refine W_region ?_ | refine n7 ?_ | refine n8 ?_ | refine W_block ?_ | refine W_skip ?_ | refine W_ret ?_ | refine W_exit ?_ | refine WQ_then ?_ | refine WQ_then_ret ?_ | refine WQ_then_exit ?_ | refine WQ_block_normal ?_ | refine WQ_block_ret ?_ | refine WQ_block_exit ?_ | refine n9 ?_)
  obtain ⟨is, his⟩ : ∃ is, decide ((tw2 b3 : Int) ≤ 255) = is := ⟨_, rfl⟩
  first | rw [his] | skip
  (apply WL_effs; exact rfl; exact rfl; exact rfl; apply E_callO; exact rfl; (intro _ _; simp); (exact req_fn c y3 (a3 : Int) e3 is 12); (first | (apply perm1; (focus (repeat' (first | exact Pick.head _ _ | apply Pick.tail)))) | (apply perm2; (focus (repeat' (first | exact Pick.head _ _ | apply Pick.tail))); (focus (repeat' (first | exact Pick.head _ _ | apply Pick.tail)))) | (apply perm3; (focus (repeat' (first | exact Pick.head _ _ | apply Pick.tail))); (focus (repeat' (first | exact Pick.head _ _ | apply Pick.tail))); (focus (repeat' (first | exact Pick.head _ _ | apply Pick.tail))))); (repeat (first | exact AllE.nil _ | (apply AllE.cons; (focus (first | exact ent_nilBy | exact ent_nilSl | (apply Ent.mem; repeat' (first | exact mcs | apply mct))))))); (intro _; exact rfl); (intro _; exact rfl))
  intro _ _
  have rr : reE xs a3 (rqI is 12 e3) = rpE xs ∧ (rpE xs = 0 → e3 = 0 ∧ reF xs a3 (rqI is 12 e3) = rpF xs) := by
    obtain ⟨q1, q2⟩ := r3.els
    have h3 : e3 = frE xs.length 6 := r3.er
    have hE : rpE xs = if e3 = 0 ∧ 255 < twA xs 4 then 12 else drE xs 6 := by unfold rpE; rw [h3]
    unfold rqI
    by_cases c1 : e3 = 0
    · have hb : tw2 b3 = twA xs 4 := by rw [v3 c1]; exact tw2_at xs 4
      rw [hb] at his
      by_cases c2 : 255 < twA xs 4
      · have : is = false := by rw [← his]; exact decide_eq_false (by omega)
        rw [if_pos ⟨c1, this⟩]
        rw [if_pos ⟨c1, c2⟩] at hE
        rw [hE]
        exact ⟨by unfold reE; rw [if_neg (by decide)], fun h => absurd h (by decide)⟩
      · have : is = true := by rw [← his]; exact decide_eq_true (by omega)
        rw [if_neg (fun h => by rw [this] at h; cases h.2)]
        rw [if_neg (fun h => c2 h.2)] at hE
        unfold rpF
        rw [hE, ← show reE xs a3 e3 = drE xs 6 from q1]
        refine ⟨rfl, fun h0 => ⟨c1, ?_⟩⟩
        rw [if_pos h0, (q2 h0).2]
        unfold drF
        rw [if_pos (by rw [← show reE xs a3 e3 = drE xs 6 from q1]; exact h0)]
    · rw [if_neg (fun h => c1 h.1)]
      rw [if_neg (fun h => c1 h.1)] at hE
      rw [hE]
      exact ⟨q1, fun h0 => absurd (q2 (by rw [show reE xs a3 e3 = drE xs 6 from q1]; exact h0)).1 c1⟩
  generalize rqI is 12 e3 = e4 at *
  repeat (first | refine n1 ?_ | refine n2 (fun b _ => ?_) | refine n3 (fun _ _ => ?_) | refine n4 ?_ | refine n5 ?_ | refine WL_nil ?_ | refine W_seq ?_ | refine W_region ?_ | refine n7 ?_ | refine n8 ?_ | refine W_block ?_ | refine W_skip ?_ | refine W_ret ?_ | refine W_exit ?_ | refine WQ_then ?_ | refine WQ_then_ret ?_ | refine WQ_then_exit ?_ | refine WQ_block_normal ?_ | refine WQ_block_ret ?_ | refine WQ_block_exit ?_ | refine n9 ?_)
  (apply WL_effs; exact rfl; exact rfl; exact rfl; apply E_callO; exact rfl; (intro _ _; simp); exact rels_fn c y3 xs a3 e4 r3.le hx; (first | (apply perm1; (focus (repeat' (first | exact Pick.head _ _ | apply Pick.tail)))) | (apply perm2; (focus (repeat' (first | exact Pick.head _ _ | apply Pick.tail))); (focus (repeat' (first | exact Pick.head _ _ | apply Pick.tail)))) | (apply perm3; (focus (repeat' (first | exact Pick.head _ _ | apply Pick.tail))); (focus (repeat' (first | exact Pick.head _ _ | apply Pick.tail))); (focus (repeat' (first | exact Pick.head _ _ | apply Pick.tail))))); (repeat (first | exact AllE.nil _ | (apply AllE.cons; (focus (first | exact ent_nilBy | exact ent_nilSl | (apply Ent.mem; repeat' (first | exact mcs | apply mct))))))); (intro _; exact rfl); (intro _; exact rfl))
  rintro ⟨o, t⟩ ht
  replace ht : t.er = reF xs a3 e4 := ht
  obtain ⟨q1, q2⟩ := rr
  rw [q1]
  repeat (first | refine n1 ?_ | refine n2 (fun b _ => ?_) | refine n3 (fun _ _ => ?_) | refine n4 ?_ | refine n5 ?_ | refine WL_nil ?_ | refine W_seq ?_ | refine W_region ?_ | refine n7 ?_ | refine n8 ?_ | refine W_block ?_ | refine W_skip ?_ | refine W_ret ?_ | refine W_exit ?_ | refine WQ_then ?_ | refine WQ_then_ret ?_ | refine WQ_then_exit ?_ | refine WQ_block_normal ?_ | refine WQ_block_ret ?_ | refine WQ_block_exit ?_ | refine n9 ?_)
  refine WL_runs rfl rfl rfl (R_callB (Γb := [.blk c 146 [y3, .int .i64 (a3 : Int), .int .i64 (rpE xs)]]) rfl (by intro _ _; simp) (resAssocResp_fn c y3 a3 (rpE xs) (tw2 b1) (tw2 b2) (tw2 b3) o t) (perm1 (by repeat' (first | exact Pick.head _ _ | apply Pick.tail))) (Bor.ent (Bor.blks (bs := [(c, 146, [y3, .int .i64 (a3 : Int), .int .i64 (rpE xs)])])) (AllE.cons (Ent.mem (by repeat' (first | exact mcs | apply mct))) (AllE.cons (Ent.mem (by repeat' (first | exact mcs | apply mct))) (AllE.nil _))))) ?_
  by_cases h0 : rpE xs = 0
  · obtain ⟨z3, ht2⟩ := q2 h0
    have z2 := w3 z3
    have z1 := w2 z2
    have n1_ : tw2 b1 = twA xs 0 := by rw [v1 z1]; exact tw2_at xs 0
    have n2_ : tw2 b2 = twA xs 2 := by rw [v2 z2]; exact tw2_at xs 2
    have n3_ : tw2 b3 = twA xs 4 := by rw [v3 z3]; exact tw2_at xs 4
    rw [h0, if_pos rfl]
    simp only [h0, z0_ok rfl, n1_, n2_, n3_]
    rw [ht2] at ht
    repeat (first | refine n1 ?_ | refine n2 (fun b _ => ?_) | refine n3 (fun _ _ => ?_) | refine n4 ?_ | refine n5 ?_ | refine WL_nil ?_ | refine W_seq ?_ | refine W_region ?_ | refine n7 ?_ | refine n8 ?_ | refine W_block ?_ | refine W_skip ?_ | refine W_ret ?_ | refine W_exit ?_ | refine WQ_then ?_ | refine WQ_then_ret ?_ | refine WQ_then_exit ?_ | refine WQ_block_normal ?_ | refine WQ_block_ret ?_ | refine WQ_block_exit ?_ | refine n9 ?_)
    ((apply ret2 Try.results35 ( (o, t))); (focus (first | trivial | assumption | omega)); (focus (first | exact RV_tmp rfl | (apply RV_cellN; exact rfl; (repeat' (first | exact Pick.head _ _ | apply Pick.tail)); (intro _; exact rfl); (intro _; exact rfl); exact rfl) | (apply RV_cell1; exact rfl; (repeat' (first | exact Pick.head _ _ | apply Pick.tail)); (intro _; exact rfl); exact rfl))); (focus (first | exact RV_tmp rfl | (apply RV_cellN; exact rfl; (repeat' (first | exact Pick.head _ _ | apply Pick.tail)); (intro _; exact rfl); (intro _; exact rfl); exact rfl) | (apply RV_cell1; exact rfl; (repeat' (first | exact Pick.head _ _ | apply Pick.tail)); (intro _; exact rfl); exact rfl)));  (focus (first | exact rfl | (simp; done))); (focus (repeat (first | exact SubO.nil _ | (apply SubO.cons; (focus (repeat' (first | exact Pick.head _ _ | apply Pick.tail))))))); (focus (repeat (first | exact AllE.nil _ | (apply AllE.cons; (focus (first | exact ent_nilBy | exact ent_nilSl | (apply Ent.mem; repeat' (first | exact mcs | apply mct)))))))))
  · rw [if_neg (show ¬ rpE xs = 0 from h0)]
    simp only [z0_bad h0]
    repeat (first | refine n1 ?_ | refine n2 (fun b _ => ?_) | refine n3 (fun _ _ => ?_) | refine n4 ?_ | refine n5 ?_ | refine WL_nil ?_ | refine W_seq ?_ | refine W_region ?_ | refine n7 ?_ | refine n8 ?_ | refine W_block ?_ | refine W_skip ?_ | refine W_ret ?_ | refine W_exit ?_ | refine WQ_then ?_ | refine WQ_then_ret ?_ | refine WQ_then_exit ?_ | refine WQ_block_normal ?_ | refine WQ_block_ret ?_ | refine WQ_block_exit ?_ | refine n9 ?_)
    apply C04.WQ_none2
    have hn : T.er T.nil = rpF xs := (if_neg h0).symm
    ((apply ret2 Try.results35 ( (Value.slice none 0 0, T.nil))); (focus (first | trivial | assumption | omega)); (focus (first | exact RV_tmp rfl | (apply RV_cellN; exact rfl; (repeat' (first | exact Pick.head _ _ | apply Pick.tail)); (intro _; exact rfl); (intro _; exact rfl); exact rfl) | (apply RV_cell1; exact rfl; (repeat' (first | exact Pick.head _ _ | apply Pick.tail)); (intro _; exact rfl); exact rfl))); (focus (first | exact RV_tmp rfl | (apply RV_cellN; exact rfl; (repeat' (first | exact Pick.head _ _ | apply Pick.tail)); (intro _; exact rfl); (intro _; exact rfl); exact rfl) | (apply RV_cell1; exact rfl; (repeat' (first | exact Pick.head _ _ | apply Pick.tail)); (intro _; exact rfl); exact rfl)));  (focus (first | exact rfl | (simp; done))); (focus (repeat (first | exact SubO.nil _ | (apply SubO.cons; (focus (repeat' (first | exact Pick.head _ _ | apply Pick.tail))))))); (focus (repeat (first | exact AllE.nil _ | (apply AllE.cons; (focus (first | exact ent_nilBy | exact ent_nilSl | (apply Ent.mem; repeat' (first | exact mcs | apply mct)))))))))

end Go.Proofs.Ytoohgnegoaoleaa
