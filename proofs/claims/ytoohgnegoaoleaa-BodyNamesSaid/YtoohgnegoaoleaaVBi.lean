/-
  Bodies of frames: the program's decoders (third part).
-/
import Derived.Test.YtoohgnegoaoleaaVBh
import Derived.Test.YtoohgnegoaoleaaXc
namespace Go.Proofs.Ytoohgnegoaoleaa
open Go Go.RowKit Go.Hs
def a6l (l : List UInt8) : A6 := ⟨l.getD 0 0, l.getD 1 0, l.getD 2 0, l.getD 3 0, l.getD 4 0, l.getD 5 0⟩
theorem a6l_map {l : List UInt8} (h : l.length = 6) : l.map bcell = [bcell (a6l l).a0, bcell (a6l l).a1, bcell (a6l l).a2, bcell (a6l l).a3, bcell (a6l l).a4, bcell (a6l l).a5] := by
  match l, h with
  | [_, _, _, _, _, _], _ => rfl
/-- what stands ahead of the elements of a request. -/
def rqN (again : Bool) : Nat := bif again then 10 else 4
def rqO (xs : List UInt8) (again : Bool) : A6 := if drE xs (rqN again) = 0 ∧ again = true then a6l ((xs.drop 4).take 6) else zA6
/-- a begin: the error, all in all. -/
def bgE (xs : List UInt8) (size : Nat) : Int := if frE xs.length size = 0 then (if twA xs 0 / 8 % 2 = 1 then 12 else if xs.length = size then 0 else 11) else frE xs.length size
def acB (xs : List UInt8) (i : Nat) : UInt8 := if frE xs.length 3 = 0 then xs.getD i 0 else 0
def acD (xs : List UInt8) : List UInt8 := if frE xs.length 3 = 0 then xs.drop 3 else []
attribute [local irreducible] WL W WQ PL Runs Effs AllE Ent SubO FrIn Pick OneC Ones CellsE PartsE SeqE UZ By Sl Pt Ct

set_option maxRecDepth 100000 in
set_option maxHeartbeats 8000000 in
theorem dReq_fn (dv : Value) (xs : List UInt8) (again : Bool) (hx : xs.length ≤ 1000000) : Ct Try.prog 33 [dv, .bool again] [] [By dv xs]
    (X := Value × T) (fun x => x.2.er = drF xs (rqN again)) (fun x => .tuple #[.agg #[.int .u16 (z0 (drE xs (rqN again)) (twA xs 0) : Int), .int .u16 (z0 (drE xs (rqN again)) (twA xs 2) : Int), bcell (rqO xs again).a0, bcell (rqO xs again).a1, bcell (rqO xs again).a2, bcell (rqO xs again).a3, bcell (rqO xs again).a4, bcell (rqO xs again).a5, x.1], .int .i64 (drE xs (rqN again))]) (fun _ => []) (fun x => [Rw 4 x.1 x.2.len x.2.at_, x.2.tf]) := by
  cases again with
  | false =>
    have hO : rqO xs false = zA6 := if_neg (fun h => Bool.noConfusion h.2)
    rw [hO]
    change Ct _ _ _ _ _ (fun x : Value × T => x.2.er = drF xs 4) (fun x : Value × T => .tuple #[.agg #[.int .u16 (z0 (drE xs 4) (twA xs 0) : Int), .int .u16 (z0 (drE xs 4) (twA xs 2) : Int), .int .u8 0, .int .u8 0, .int .u8 0, .int .u8 0, .int .u8 0, .int .u8 0, x.1], .int .i64 (drE xs 4)]) _ _
    refine Ct_intro Try.func33 rfl Try.ntmps33 (by simp) _ rfl (fun w0 O0 => ?_)
    repeat (first | refine n1 ?_ | refine n2 (fun b _ => ?_) | refine n3 (fun _ _ => ?_) | refine n4 ?_ | refine n5 ?_ | refine WL_nil ?_ | refine W_seq ?_ | refine W_region ?_ | refine n7 ?_ | refine n8 ?_ | refine W_block ?_ | refine W_skip ?_ | refine W_ret ?_ | refine W_exit ?_ | refine WQ_then ?_ | refine WQ_then_ret ?_ | refine WQ_then_exit ?_ | refine WQ_block_normal ?_ | refine WQ_block_ret ?_ | refine WQ_block_exit ?_ | refine n9 ?_)
    (apply WL_effs; exact rfl; exact rfl; exact rfl; apply E_call; exact rfl; (intro _ _; simp); exact read_fn dv xs; (repeat (first | exact AllE.nil _ | (apply AllE.cons; (focus (first | exact ent_nilBy | exact ent_nilSl | (apply Ent.mem; repeat' (first | exact mcs | apply mct))))))); (intro _; exact rfl); (intro _; exact rfl))
    intro c _
    have r0 := Rs.start xs
    generalize (if 2304 < xs.length then (11 : Int) else 0) = e0 at *
    have g0 := rtwo_fn c dv xs 0 e0 r0.le hx
    obtain ⟨r1, v1⟩ := r0.next 2
    have w1 := Rs.zero (xs := xs) (k := 0) (a := 0) (n := 2) (e := e0)
    generalize hb1 : rdB xs 0 e0 2 = b1 at *
    generalize rdA xs.length 0 e0 2 = a1 at *
    generalize rdE xs.length 0 e0 2 = e1 at *
    repeat (first | refine n1 ?_ | refine n2 (fun b _ => ?_) | refine n3 (fun _ _ => ?_) | refine n4 ?_ | refine n5 ?_ | refine WL_nil ?_ | refine W_seq ?_ | refine W_region ?_ | refine n7 ?_ | refine n8 ?_ | refine W_block ?_ | refine W_skip ?_ | refine W_ret ?_ | refine W_exit ?_ | refine WQ_then ?_ | refine WQ_then_ret ?_ | refine WQ_then_exit ?_ | refine WQ_block_normal ?_ | refine WQ_block_ret ?_ | refine WQ_block_exit ?_ | refine n9 ?_)
    (apply WL_effs; exact rfl; exact rfl; exact rfl; apply E_callO; exact rfl; (intro _ _; simp); exact g0; (first | (apply perm1; (focus (repeat' (first | exact Pick.head _ _ | apply Pick.tail)))) | (apply perm2; (focus (repeat' (first | exact Pick.head _ _ | apply Pick.tail))); (focus (repeat' (first | exact Pick.head _ _ | apply Pick.tail)))) | (apply perm3; (focus (repeat' (first | exact Pick.head _ _ | apply Pick.tail))); (focus (repeat' (first | exact Pick.head _ _ | apply Pick.tail))); (focus (repeat' (first | exact Pick.head _ _ | apply Pick.tail))))); (repeat (first | exact AllE.nil _ | (apply AllE.cons; (focus (first | exact ent_nilBy | exact ent_nilSl | (apply Ent.mem; repeat' (first | exact mcs | apply mct))))))); (intro _; exact rfl); (intro _; exact rfl))
    intro y1 _
    have g1 := rtwo_fn c y1 xs a1 e1 r1.le hx
    obtain ⟨r2, v2⟩ := r1.next 2
    have w2 := Rs.zero (xs := xs) (k := 0) (a := a1) (n := 2) (e := e1)
    generalize hb2 : rdB xs a1 e1 2 = b2 at *
    generalize rdA xs.length a1 e1 2 = a2 at *
    generalize rdE xs.length a1 e1 2 = e2 at *
    repeat (first | refine n1 ?_ | refine n2 (fun b _ => ?_) | refine n3 (fun _ _ => ?_) | refine n4 ?_ | refine n5 ?_ | refine WL_nil ?_ | refine W_seq ?_ | refine W_region ?_ | refine n7 ?_ | refine n8 ?_ | refine W_block ?_ | refine W_skip ?_ | refine W_ret ?_ | refine W_exit ?_ | refine WQ_then ?_ | refine WQ_then_ret ?_ | refine WQ_then_exit ?_ | refine WQ_block_normal ?_ | refine WQ_block_ret ?_ | refine WQ_block_exit ?_ | refine n9 ?_)
    (apply WL_effs; exact rfl; exact rfl; exact rfl; apply E_callO; exact rfl; (intro _ _; simp); exact g1; (first | (apply perm1; (focus (repeat' (first | exact Pick.head _ _ | apply Pick.tail)))) | (apply perm2; (focus (repeat' (first | exact Pick.head _ _ | apply Pick.tail))); (focus (repeat' (first | exact Pick.head _ _ | apply Pick.tail)))) | (apply perm3; (focus (repeat' (first | exact Pick.head _ _ | apply Pick.tail))); (focus (repeat' (first | exact Pick.head _ _ | apply Pick.tail))); (focus (repeat' (first | exact Pick.head _ _ | apply Pick.tail))))); (repeat (first | exact AllE.nil _ | (apply AllE.cons; (focus (first | exact ent_nilBy | exact ent_nilSl | (apply Ent.mem; repeat' (first | exact mcs | apply mct))))))); (intro _; exact rfl); (intro _; exact rfl))
    intro y2 _
    repeat (first | refine n1 ?_ | refine n2 (fun b _ => ?_) | refine n3 (fun _ _ => ?_) | refine n4 ?_ | refine n5 ?_ | refine WL_nil ?_ | refine W_seq ?_ | refine W_region ?_ | refine n7 ?_ | refine n8 ?_ | refine W_block ?_ | refine W_skip ?_ | refine W_ret ?_ | refine W_exit ?_ | refine WQ_then ?_ | refine WQ_then_ret ?_ | refine WQ_then_exit ?_ | refine WQ_block_normal ?_ | refine WQ_block_ret ?_ | refine WQ_block_exit ?_ | refine n9 ?_)
    (apply WL_effs; exact rfl; exact rfl; exact rfl; apply E_callO; exact rfl; (intro _ _; simp); exact rels_fn c y2 xs a2 e2 r2.le hx; (first | (apply perm1; (focus (repeat' (first | exact Pick.head _ _ | apply Pick.tail)))) | (apply perm2; (focus (repeat' (first | exact Pick.head _ _ | apply Pick.tail))); (focus (repeat' (first | exact Pick.head _ _ | apply Pick.tail)))) | (apply perm3; (focus (repeat' (first | exact Pick.head _ _ | apply Pick.tail))); (focus (repeat' (first | exact Pick.head _ _ | apply Pick.tail))); (focus (repeat' (first | exact Pick.head _ _ | apply Pick.tail))))); (repeat (first | exact AllE.nil _ | (apply AllE.cons; (focus (first | exact ent_nilBy | exact ent_nilSl | (apply Ent.mem; repeat' (first | exact mcs | apply mct))))))); (intro _; exact rfl); (intro _; exact rfl))
    rintro ⟨o, t⟩ ht
    replace ht : t.er = reF xs a2 e2 := ht
    obtain ⟨q1, q2⟩ := r2.els
    rw [q1] at q2 ⊢
    change drE xs 4 = 0 → e2 = 0 ∧ reF xs a2 e2 = drF xs 4 at q2
    repeat (first | refine n1 ?_ | refine n2 (fun b _ => ?_) | refine n3 (fun _ _ => ?_) | refine n4 ?_ | refine n5 ?_ | refine WL_nil ?_ | refine W_seq ?_ | refine W_region ?_ | refine n7 ?_ | refine n8 ?_ | refine W_block ?_ | refine W_skip ?_ | refine W_ret ?_ | refine W_exit ?_ | refine WQ_then ?_ | refine WQ_then_ret ?_ | refine WQ_then_exit ?_ | refine WQ_block_normal ?_ | refine WQ_block_ret ?_ | refine WQ_block_exit ?_ | refine n9 ?_)
    refine WL_runs rfl rfl rfl (R_callB (Γb := [.blk c 146 [y2, .int .i64 (a2 : Int), .int .i64 (drE xs (0 + 2 + 2))]]) rfl (by intro _ _; simp) (resAssocReq_fn c y2 a2 (drE xs (0 + 2 + 2)) (tw2 b1) (tw2 b2) zA6 o t) (perm1 (by repeat' (first | exact Pick.head _ _ | apply Pick.tail))) (Bor.ent (Bor.blks (bs := [(c, 146, [y2, .int .i64 (a2 : Int), .int .i64 (drE xs (0 + 2 + 2))])])) (AllE.cons (Ent.mem (by repeat' (first | exact mcs | apply mct))) (AllE.cons (Ent.mem (by repeat' (first | exact mcs | apply mct))) (AllE.nil _))))) ?_
    by_cases h0 : drE xs 4 = 0
    · obtain ⟨z2, ht2⟩ := q2 h0
      have z1 := w2 z2
      have n1_ : tw2 b1 = twA xs 0 := by rw [v1 z1]; exact tw2_at xs 0
      have n2_ : tw2 b2 = twA xs 2 := by rw [v2 z2]; exact tw2_at xs 2
      rw [show drE xs (0 + 2 + 2) = 0 from h0, if_pos rfl]
      simp only [h0, z0_ok rfl, n1_, n2_]
      rw [ht2] at ht
      repeat (first | refine n1 ?_ | refine n2 (fun b _ => ?_) | refine n3 (fun _ _ => ?_) | refine n4 ?_ | refine n5 ?_ | refine WL_nil ?_ | refine W_seq ?_ | refine W_region ?_ | refine n7 ?_ | refine n8 ?_ | refine W_block ?_ | refine W_skip ?_ | refine W_ret ?_ | refine W_exit ?_ | refine WQ_then ?_ | refine WQ_then_ret ?_ | refine WQ_then_exit ?_ | refine WQ_block_normal ?_ | refine WQ_block_ret ?_ | refine WQ_block_exit ?_ | refine n9 ?_)
      ((apply ret2 Try.results33 ( (o, t))); (focus (first | trivial | assumption | omega)); (focus (first | exact RV_tmp rfl | (apply RV_cellN; exact rfl; (repeat' (first | exact Pick.head _ _ | apply Pick.tail)); (intro _; exact rfl); (intro _; exact rfl); exact rfl) | (apply RV_cell1; exact rfl; (repeat' (first | exact Pick.head _ _ | apply Pick.tail)); (intro _; exact rfl); exact rfl))); (focus (first | exact RV_tmp rfl | (apply RV_cellN; exact rfl; (repeat' (first | exact Pick.head _ _ | apply Pick.tail)); (intro _; exact rfl); (intro _; exact rfl); exact rfl) | (apply RV_cell1; exact rfl; (repeat' (first | exact Pick.head _ _ | apply Pick.tail)); (intro _; exact rfl); exact rfl)));  (focus (first | exact rfl | (simp; done))); (focus (repeat (first | exact SubO.nil _ | (apply SubO.cons; (focus (repeat' (first | exact Pick.head _ _ | apply Pick.tail))))))); (focus (repeat (first | exact AllE.nil _ | (apply AllE.cons; (focus (first | exact ent_nilBy | exact ent_nilSl | (apply Ent.mem; repeat' (first | exact mcs | apply mct)))))))))
    · rw [if_neg (show ¬ drE xs (0 + 2 + 2) = 0 from h0)]
      simp only [z0_bad h0]
      repeat (first | refine n1 ?_ | refine n2 (fun b _ => ?_) | refine n3 (fun _ _ => ?_) | refine n4 ?_ | refine n5 ?_ | refine WL_nil ?_ | refine W_seq ?_ | refine W_region ?_ | refine n7 ?_ | refine n8 ?_ | refine W_block ?_ | refine W_skip ?_ | refine W_ret ?_ | refine W_exit ?_ | refine WQ_then ?_ | refine WQ_then_ret ?_ | refine WQ_then_exit ?_ | refine WQ_block_normal ?_ | refine WQ_block_ret ?_ | refine WQ_block_exit ?_ | refine n9 ?_)
      apply C04.WQ_none2
      have hn : T.er T.nil = drF xs 4 := (drF_bad h0).symm
      ((apply ret2 Try.results33 ( (Value.slice none 0 0, T.nil))); (focus (first | trivial | assumption | omega)); (focus (first | exact RV_tmp rfl | (apply RV_cellN; exact rfl; (repeat' (first | exact Pick.head _ _ | apply Pick.tail)); (intro _; exact rfl); (intro _; exact rfl); exact rfl) | (apply RV_cell1; exact rfl; (repeat' (first | exact Pick.head _ _ | apply Pick.tail)); (intro _; exact rfl); exact rfl))); (focus (first | exact RV_tmp rfl | (apply RV_cellN; exact rfl; (repeat' (first | exact Pick.head _ _ | apply Pick.tail)); (intro _; exact rfl); (intro _; exact rfl); exact rfl) | (apply RV_cell1; exact rfl; (repeat' (first | exact Pick.head _ _ | apply Pick.tail)); (intro _; exact rfl); exact rfl)));  (focus (first | exact rfl | (simp; done))); (focus (repeat (first | exact SubO.nil _ | (apply SubO.cons; (focus (repeat' (first | exact Pick.head _ _ | apply Pick.tail))))))); (focus (repeat (first | exact AllE.nil _ | (apply AllE.cons; (focus (first | exact ent_nilBy | exact ent_nilSl | (apply Ent.mem; repeat' (first | exact mcs | apply mct)))))))))
  | true =>
    change Ct _ _ _ _ _ (fun x : Value × T => x.2.er = drF xs 10) (fun x : Value × T => .tuple #[.agg #[.int .u16 (z0 (drE xs 10) (twA xs 0) : Int), .int .u16 (z0 (drE xs 10) (twA xs 2) : Int), bcell (rqO xs true).a0, bcell (rqO xs true).a1, bcell (rqO xs true).a2, bcell (rqO xs true).a3, bcell (rqO xs true).a4, bcell (rqO xs true).a5, x.1], .int .i64 (drE xs 10)]) _ _
    refine Ct_intro Try.func33 rfl Try.ntmps33 (by simp) _ rfl (fun w0 O0 => ?_)
    repeat (first | refine n1 ?_ | refine n2 (fun b _ => ?_) | refine n3 (fun _ _ => ?_) | refine n4 ?_ | refine n5 ?_ | refine WL_nil ?_ | refine W_seq ?_ | refine W_region ?_ | refine n7 ?_ | refine n8 ?_ | refine W_block ?_ | refine W_skip ?_ | refine W_ret ?_ | refine W_exit ?_ | refine WQ_then ?_ | refine WQ_then_ret ?_ | refine WQ_then_exit ?_ | refine WQ_block_normal ?_ | refine WQ_block_ret ?_ | refine WQ_block_exit ?_ | refine n9 ?_)
    (apply WL_effs; exact rfl; exact rfl; exact rfl; apply E_call; exact rfl; (intro _ _; simp); exact read_fn dv xs; (repeat (first | exact AllE.nil _ | (apply AllE.cons; (focus (first | exact ent_nilBy | exact ent_nilSl | (apply Ent.mem; repeat' (first | exact mcs | apply mct))))))); (intro _; exact rfl); (intro _; exact rfl))
    intro c _
    have r0 := Rs.start xs
    generalize (if 2304 < xs.length then (11 : Int) else 0) = e0 at *
    have g0 := rtwo_fn c dv xs 0 e0 r0.le hx
    obtain ⟨r1, v1⟩ := r0.next 2
    have w1 := Rs.zero (xs := xs) (k := 0) (a := 0) (n := 2) (e := e0)
    generalize hb1 : rdB xs 0 e0 2 = b1 at *
    generalize rdA xs.length 0 e0 2 = a1 at *
    generalize rdE xs.length 0 e0 2 = e1 at *
    repeat (first | refine n1 ?_ | refine n2 (fun b _ => ?_) | refine n3 (fun _ _ => ?_) | refine n4 ?_ | refine n5 ?_ | refine WL_nil ?_ | refine W_seq ?_ | refine W_region ?_ | refine n7 ?_ | refine n8 ?_ | refine W_block ?_ | refine W_skip ?_ | refine W_ret ?_ | refine W_exit ?_ | refine WQ_then ?_ | refine WQ_then_ret ?_ | refine WQ_then_exit ?_ | refine WQ_block_normal ?_ | refine WQ_block_ret ?_ | refine WQ_block_exit ?_ | refine n9 ?_)
    (apply WL_effs; exact rfl; exact rfl; exact rfl; apply E_callO; exact rfl; (intro _ _; simp); exact g0; (first | (apply perm1; (focus (repeat' (first | exact Pick.head _ _ | apply Pick.tail)))) | (apply perm2; (focus (repeat' (first | exact Pick.head _ _ | apply Pick.tail))); (focus (repeat' (first | exact Pick.head _ _ | apply Pick.tail)))) | (apply perm3; (focus (repeat' (first | exact Pick.head _ _ | apply Pick.tail))); (focus (repeat' (first | exact Pick.head _ _ | apply Pick.tail))); (focus (repeat' (first | exact Pick.head _ _ | apply Pick.tail))))); (repeat (first | exact AllE.nil _ | (apply AllE.cons; (focus (first | exact ent_nilBy | exact ent_nilSl | (apply Ent.mem; repeat' (first | exact mcs | apply mct))))))); (intro _; exact rfl); (intro _; exact rfl))
    intro y1 _
    have g1 := rtwo_fn c y1 xs a1 e1 r1.le hx
    obtain ⟨r2, v2⟩ := r1.next 2
    have w2 := Rs.zero (xs := xs) (k := 0) (a := a1) (n := 2) (e := e1)
    generalize hb2 : rdB xs a1 e1 2 = b2 at *
    generalize rdA xs.length a1 e1 2 = a2 at *
    generalize rdE xs.length a1 e1 2 = e2 at *
    repeat (first | refine n1 ?_ | refine n2 (fun b _ => ?_) | refine n3 (fun _ _ => ?_) | refine n4 ?_ | refine n5 ?_ | refine WL_nil ?_ | refine W_seq ?_ | refine W_region ?_ | refine n7 ?_ | refine n8 ?_ | refine W_block ?_ | refine W_skip ?_ | refine W_ret ?_ | refine W_exit ?_ | refine WQ_then ?_ | refine WQ_then_ret ?_ | refine WQ_then_exit ?_ | refine WQ_block_normal ?_ | refine WQ_block_ret ?_ | refine WQ_block_exit ?_ | refine n9 ?_)
    (apply WL_effs; exact rfl; exact rfl; exact rfl; apply E_callO; exact rfl; (intro _ _; simp); exact g1; (first | (apply perm1; (focus (repeat' (first | exact Pick.head _ _ | apply Pick.tail)))) | (apply perm2; (focus (repeat' (first | exact Pick.head _ _ | apply Pick.tail))); (focus (repeat' (first | exact Pick.head _ _ | apply Pick.tail)))) | (apply perm3; (focus (repeat' (first | exact Pick.head _ _ | apply Pick.tail))); (focus (repeat' (first | exact Pick.head _ _ | apply Pick.tail))); (focus (repeat' (first | exact Pick.head _ _ | apply Pick.tail))))); (repeat (first | exact AllE.nil _ | (apply AllE.cons; (focus (first | exact ent_nilBy | exact ent_nilSl | (apply Ent.mem; repeat' (first | exact mcs | apply mct))))))); (intro _; exact rfl); (intro _; exact rfl))
    intro y2 _
    have g2 := bytes_fn c y2 xs a2 6 e2 r2.le hx (by decide)
    rw [show ((6 : Nat) : Int) = 6 from rfl] at g2
    obtain ⟨r3, v3⟩ := r2.next 6
    have w3 := Rs.zero (xs := xs) (k := 0) (a := a2) (n := 6) (e := e2)
    have hl3 := rdB_length xs a2 e2 6
    generalize hb3 : rdB xs a2 e2 6 = b3 at *
    generalize rdA xs.length a2 e2 6 = a3 at *
    generalize rdE xs.length a2 e2 6 = e3 at *
    repeat (first | refine n1 ?_ | refine n2 (fun b _ => ?_) | refine n3 (fun _ _ => ?_) | refine n4 ?_ | refine n5 ?_ | refine WL_nil ?_ | refine W_seq ?_ | refine W_region ?_ | refine n7 ?_ | refine n8 ?_ | refine W_block ?_ | refine W_skip ?_ | refine W_ret ?_ | refine W_exit ?_ | refine WQ_then ?_ | refine WQ_then_ret ?_ | refine WQ_then_exit ?_ | refine WQ_block_normal ?_ | refine WQ_block_ret ?_ | refine WQ_block_exit ?_ | refine n9 ?_)
    (refine W_regionP' [3, 4] [] [0, 1, 2, 3, 4] [0, 1] (by kernel_rfl) (by kernel_rfl) (by repeat (first | exact UZ.nil _ _ | (apply UZ.cons; exact rfl; (intro _; exact rfl)))) (by exact rfl) (by (repeat (first | exact SubO.nil _ | (apply SubO.cons; (focus (repeat' (first | exact Pick.head _ _ | apply Pick.tail))))))) ?_)
    repeat (first | refine p1 ?_ | refine p2 (fun b _ => ?_) | refine p3 (fun _ _ => ?_) | refine p4 ?_ | refine p5 ?_ | refine p7 (fun b => ?_) | refine PL_nil ?_)
    refine PL_effs rfl rfl rfl rfl rfl (E_callO (Γp := [.blk c 146 [y2, .int .i64 (a2 : Int), .int .i64 e2]]) rfl (by intro _ _; simp) g2 (perm1 (by repeat' (first | exact Pick.head _ _ | apply Pick.tail))) (AllE.cons (Ent.mem (by repeat' (first | exact mcs | apply mct))) (AllE.nil _)) (fun _ => rfl) (fun _ => rfl)) (fun _ => (by (repeat (first | exact SubO.nil _ | (apply SubO.cons; (focus (repeat' (first | exact Pick.head _ _ | apply Pick.tail)))))))) (fun y3 _ => ?_)
    refine PL_effs rfl rfl rfl rfl rfl (E_copyBlk (o := 2) (cs := [.int .u16 (tw2 b1 : Int), .int .u16 (tw2 b2 : Int), .int .u8 0, .int .u8 0, .int .u8 0, .int .u8 0, .int .u8 0, .int .u8 0, .slice none 0 0]) (ds := [.int .u16 (tw2 b1 : Int), .int .u16 (tw2 b2 : Int), bcell (a6l b3).a0, bcell (a6l b3).a1, bcell (a6l b3).a2, bcell (a6l b3).a3, bcell (a6l b3).a4, bcell (a6l b3).a5, .slice none 0 0]) rfl rfl (by repeat' (first | exact Pick.head _ _ | apply Pick.tail)) (by repeat' (first | exact mcs | apply mct)) rfl rfl hl3 (by decide) (Nat.le_of_ble_eq_true rfl) (by rw [a6l_map hl3]; rfl)) (fun _ => (by (repeat (first | exact SubO.nil _ | (apply SubO.cons; (focus (repeat' (first | exact Pick.head _ _ | apply Pick.tail)))))))) (fun _ _ => ?_)
    repeat (first | refine p1 ?_ | refine p2 (fun b _ => ?_) | refine p3 (fun _ _ => ?_) | refine p4 ?_ | refine p5 ?_ | refine p7 (fun b => ?_) | refine PL_nil ?_)
    repeat (first | refine n1 ?_ | refine n2 (fun b _ => ?_) | refine n3 (fun _ _ => ?_) | refine n4 ?_ | refine n5 ?_ | refine WL_nil ?_ | refine W_seq ?_ | refine W_region ?_ | refine n7 ?_ | refine n8 ?_ | refine W_block ?_ | refine W_skip ?_ | refine W_ret ?_ | refine W_exit ?_ | refine WQ_then ?_ | refine WQ_then_ret ?_ | refine WQ_then_exit ?_ | refine WQ_block_normal ?_ | refine WQ_block_ret ?_ | refine WQ_block_exit ?_ | refine n9 ?_)
    (apply WL_effs; exact rfl; exact rfl; exact rfl; apply E_callO; exact rfl; (intro _ _; simp); exact rels_fn c y3.2 xs a3 e3 r3.le hx; (first | (apply perm1; (focus (repeat' (first | exact Pick.head _ _ | apply Pick.tail)))) | (apply perm2; (focus (repeat' (first | exact Pick.head _ _ | apply Pick.tail))); (focus (repeat' (first | exact Pick.head _ _ | apply Pick.tail)))) | (apply perm3; (focus (repeat' (first | exact Pick.head _ _ | apply Pick.tail))); (focus (repeat' (first | exact Pick.head _ _ | apply Pick.tail))); (focus (repeat' (first | exact Pick.head _ _ | apply Pick.tail))))); (repeat (first | exact AllE.nil _ | (apply AllE.cons; (focus (first | exact ent_nilBy | exact ent_nilSl | (apply Ent.mem; repeat' (first | exact mcs | apply mct))))))); (intro _; exact rfl); (intro _; exact rfl))
    rintro ⟨o, t⟩ ht
    replace ht : t.er = reF xs a3 e3 := ht
    obtain ⟨q1, q2⟩ := r3.els
    rw [q1] at q2 ⊢
    change drE xs 10 = 0 → e3 = 0 ∧ reF xs a3 e3 = drF xs 10 at q2
    repeat (first | refine n1 ?_ | refine n2 (fun b _ => ?_) | refine n3 (fun _ _ => ?_) | refine n4 ?_ | refine n5 ?_ | refine WL_nil ?_ | refine W_seq ?_ | refine W_region ?_ | refine n7 ?_ | refine n8 ?_ | refine W_block ?_ | refine W_skip ?_ | refine W_ret ?_ | refine W_exit ?_ | refine WQ_then ?_ | refine WQ_then_ret ?_ | refine WQ_then_exit ?_ | refine WQ_block_normal ?_ | refine WQ_block_ret ?_ | refine WQ_block_exit ?_ | refine n9 ?_)
    refine WL_runs rfl rfl rfl (R_callB (Γb := [.blk c 146 [y3.2, .int .i64 (a3 : Int), .int .i64 (drE xs (0 + 2 + 2 + 6))]]) rfl (by intro _ _; simp) (resAssocReq_fn c y3.2 a3 (drE xs (0 + 2 + 2 + 6)) (tw2 b1) (tw2 b2) (a6l b3) o t) (perm1 (by repeat' (first | exact Pick.head _ _ | apply Pick.tail))) (Bor.ent (Bor.blks (bs := [(c, 146, [y3.2, .int .i64 (a3 : Int), .int .i64 (drE xs (0 + 2 + 2 + 6))])])) (AllE.cons (Ent.mem (by repeat' (first | exact mcs | apply mct))) (AllE.cons (Ent.mem (by repeat' (first | exact mcs | apply mct))) (AllE.nil _))))) ?_
    by_cases h0 : drE xs 10 = 0
    · obtain ⟨z3, ht2⟩ := q2 h0
      have z2 := w3 z3
      have z1 := w2 z2
      have n1_ : tw2 b1 = twA xs 0 := by rw [v1 z1]; exact tw2_at xs 0
      have n2_ : tw2 b2 = twA xs 2 := by rw [v2 z2]; exact tw2_at xs 2
      have hO : rqO xs true = a6l b3 := by rw [v3 z3]; exact if_pos ⟨h0, rfl⟩
      rw [show drE xs (0 + 2 + 2 + 6) = 0 from h0, if_pos rfl, hO]
      simp only [h0, z0_ok rfl, n1_, n2_]
      rw [ht2] at ht
      repeat (first | refine n1 ?_ | refine n2 (fun b _ => ?_) | refine n3 (fun _ _ => ?_) | refine n4 ?_ | refine n5 ?_ | refine WL_nil ?_ | refine W_seq ?_ | refine W_region ?_ | refine n7 ?_ | refine n8 ?_ | refine W_block ?_ | refine W_skip ?_ | refine W_ret ?_ | refine W_exit ?_ | refine WQ_then ?_ | refine WQ_then_ret ?_ | refine WQ_then_exit ?_ | refine WQ_block_normal ?_ | refine WQ_block_ret ?_ | refine WQ_block_exit ?_ | refine n9 ?_)
      ((apply ret2 Try.results33 ( (o, t))); (focus (first | trivial | assumption | omega)); (focus (first | exact RV_tmp rfl | (apply RV_cellN; exact rfl; (repeat' (first | exact Pick.head _ _ | apply Pick.tail)); (intro _; exact rfl); (intro _; exact rfl); exact rfl) | (apply RV_cell1; exact rfl; (repeat' (first | exact Pick.head _ _ | apply Pick.tail)); (intro _; exact rfl); exact rfl))); (focus (first | exact RV_tmp rfl | (apply RV_cellN; exact rfl; (repeat' (first | exact Pick.head _ _ | apply Pick.tail)); (intro _; exact rfl); (intro _; exact rfl); exact rfl) | (apply RV_cell1; exact rfl; (repeat' (first | exact Pick.head _ _ | apply Pick.tail)); (intro _; exact rfl); exact rfl)));  (focus (first | exact rfl | (simp; done))); (focus (repeat (first | exact SubO.nil _ | (apply SubO.cons; (focus (repeat' (first | exact Pick.head _ _ | apply Pick.tail))))))); (focus (repeat (first | exact AllE.nil _ | (apply AllE.cons; (focus (first | exact ent_nilBy | exact ent_nilSl | (apply Ent.mem; repeat' (first | exact mcs | apply mct)))))))))
    · have hO : rqO xs true = zA6 := if_neg (fun h => h0 h.1)
      rw [if_neg (show ¬ drE xs (0 + 2 + 2 + 6) = 0 from h0), hO]
      simp only [z0_bad h0]
      repeat (first | refine n1 ?_ | refine n2 (fun b _ => ?_) | refine n3 (fun _ _ => ?_) | refine n4 ?_ | refine n5 ?_ | refine WL_nil ?_ | refine W_seq ?_ | refine W_region ?_ | refine n7 ?_ | refine n8 ?_ | refine W_block ?_ | refine W_skip ?_ | refine W_ret ?_ | refine W_exit ?_ | refine WQ_then ?_ | refine WQ_then_ret ?_ | refine WQ_then_exit ?_ | refine WQ_block_normal ?_ | refine WQ_block_ret ?_ | refine WQ_block_exit ?_ | refine n9 ?_)
      apply C04.WQ_none2
      have hn : T.er T.nil = drF xs 10 := (drF_bad h0).symm
      ((apply ret2 Try.results33 ( (Value.slice none 0 0, T.nil))); (focus (first | trivial | assumption | omega)); (focus (first | exact RV_tmp rfl | (apply RV_cellN; exact rfl; (repeat' (first | exact Pick.head _ _ | apply Pick.tail)); (intro _; exact rfl); (intro _; exact rfl); exact rfl) | (apply RV_cell1; exact rfl; (repeat' (first | exact Pick.head _ _ | apply Pick.tail)); (intro _; exact rfl); exact rfl))); (focus (first | exact RV_tmp rfl | (apply RV_cellN; exact rfl; (repeat' (first | exact Pick.head _ _ | apply Pick.tail)); (intro _; exact rfl); (intro _; exact rfl); exact rfl) | (apply RV_cell1; exact rfl; (repeat' (first | exact Pick.head _ _ | apply Pick.tail)); (intro _; exact rfl); exact rfl)));  (focus (first | exact rfl | (simp; done))); (focus (repeat (first | exact SubO.nil _ | (apply SubO.cons; (focus (repeat' (first | exact Pick.head _ _ | apply Pick.tail))))))); (focus (repeat (first | exact AllE.nil _ | (apply AllE.cons; (focus (first | exact ent_nilBy | exact ent_nilSl | (apply Ent.mem; repeat' (first | exact mcs | apply mct)))))))))
end Go.Proofs.Ytoohgnegoaoleaa
