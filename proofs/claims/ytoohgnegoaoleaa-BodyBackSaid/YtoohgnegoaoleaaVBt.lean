/-
  'BodyBack', the law.
-/
import Derived.Test.YtoohgnegoaoleaaVBs
namespace Go.Proofs.Ytoohgnegoaoleaa
open Go Go.RowKit Go.Hs
attribute [local irreducible] WL W WQ PL Runs Effs AllE Ent SubO FrIn Pick OneC Ones CellsE PartsE SeqE UZ By Sl Pt Ct

set_option maxRecDepth 100000 in
set_option maxHeartbeats 32000000 in
theorem backLaw_fn (x : All6) (wa : x.w) (wi : x.wi) : CtD Try.prog 8 [x.val] x.facts (.bool true) := by
  have hal := alive_fn
  have hg := great6_fn x
  obtain ⟨w1, w2, w3, w4, w5, w6, w7, w8, w9, w10, w11, w12⟩ := id wa
  refine Ct_intro Try.func8 rfl Try.ntmps8 (by simp) _ rfl (fun w0 O0 => ?_)
  refine W_ent (ψ := By (.slice none 0 0) []) ent_nilBy ?_
  repeat (first | refine n1 ?_ | refine n2 (fun b _ => ?_) | refine n3 (fun _ _ => ?_) | refine n4 ?_ | refine n5 ?_ | refine n6 (hal) ?_ | refine n6v (hal) ?_ | refine WL_nil ?_ | refine W_seq ?_ | refine W_region ?_ | refine n7 ?_ | refine n8 ?_ | refine W_block ?_ | refine W_skip ?_ | refine W_ret ?_ | refine W_exit ?_ | refine WQ_then ?_ | refine WQ_then_ret ?_ | refine WQ_then_exit ?_ | refine WQ_block_normal ?_ | refine WQ_block_ret ?_ | refine WQ_block_exit ?_ | refine n9 ?_)
  (apply WL_effs; exact rfl; exact rfl; exact rfl; apply E_call; exact rfl; (intro _ _; simp); exact hg; (repeat (first | exact AllE.nil _ | (apply AllE.cons; (focus (first | exact ent_nilBy | exact ent_nilSl | (apply Ent.mem; repeat' (first | exact mcs | apply mct))))))); (intro _; exact rfl); (intro _; exact rfl))
  intro g hsm
  cases g with
  | true =>
    repeat (first | refine n1 ?_ | refine n2 (fun b _ => ?_) | refine n3 (fun _ _ => ?_) | refine n4 ?_ | refine n5 ?_ | refine n6 (hal) ?_ | refine n6v (hal) ?_ | refine WL_nil ?_ | refine W_seq ?_ | refine W_region ?_ | refine n7 ?_ | refine n8 ?_ | refine W_block ?_ | refine W_skip ?_ | refine W_ret ?_ | refine W_exit ?_ | refine WQ_then ?_ | refine WQ_then_ret ?_ | refine WQ_then_exit ?_ | refine WQ_block_normal ?_ | refine WQ_block_ret ?_ | refine WQ_block_exit ?_ | refine n9 ?_)
    ((apply ret1 Try.results8 ( ())); (focus (first | trivial | assumption | omega)); (focus (first | exact RV_tmp rfl | (apply RV_cellN; exact rfl; (repeat' (first | exact Pick.head _ _ | apply Pick.tail)); (intro _; exact rfl); (intro _; exact rfl); exact rfl) | (apply RV_cell1; exact rfl; (repeat' (first | exact Pick.head _ _ | apply Pick.tail)); (intro _; exact rfl); exact rfl)));  (focus (first | exact rfl | (simp; done))); (focus (repeat (first | exact SubO.nil _ | (apply SubO.cons; (focus (repeat' (first | exact Pick.head _ _ | apply Pick.tail))))))); (focus (repeat (first | exact AllE.nil _ | (apply AllE.cons; (focus (first | exact ent_nilBy | exact ent_nilSl | (apply Ent.mem; repeat' (first | exact mcs | apply mct)))))))))
  | false =>
  obtain ⟨s1, s2, s3, s4, s5, s6⟩ : x.sm := hsm rfl
  repeat (first | refine n1 ?_ | refine n2 (fun b _ => ?_) | refine n3 (fun _ _ => ?_) | refine n4 ?_ | refine n5 ?_ | refine WL_nil ?_ | refine W_seq ?_ | refine W_region ?_ | refine n7 ?_ | refine n8 ?_ | refine W_block ?_ | refine W_skip ?_ | refine W_ret ?_ | refine W_exit ?_ | refine WQ_then ?_ | refine WQ_then_ret ?_ | refine WQ_then_exit ?_ | refine WQ_block_normal ?_ | refine WQ_block_ret ?_ | refine WQ_block_exit ?_ | refine n9 ?_)
  obtain ⟨by_, rfl⟩ : ∃ by_, by_ = b := ⟨b, rfl⟩
  have en1 := eBeacon_fn x.bm x.bi x.bc w1 w2 w3 x.bv x.bt s1
  have hk1 := fun h => beacon_ok w1 w2 w3 (f := x.bt.er) h
  have hd1 := fun v => dBeacon_fn v (fiY (fxBeacon x.bm x.bi x.bc) x.bt.er) (Nat.le_trans (fiY_len _ _) (by decide))
  generalize z0 (drE (fiY (fxBeacon x.bm x.bi x.bc) x.bt.er) 12) (e8 (fiY (fxBeacon x.bm x.bi x.bc) x.bt.er) 0) = n1_0 at en1 hk1 hd1
  generalize z0 (drE (fiY (fxBeacon x.bm x.bi x.bc) x.bt.er) 12) (twA (fiY (fxBeacon x.bm x.bi x.bc) x.bt.er) 8) = n1_1 at en1 hk1 hd1
  generalize z0 (drE (fiY (fxBeacon x.bm x.bi x.bc) x.bt.er) 12) (twA (fiY (fxBeacon x.bm x.bi x.bc) x.bt.er) 10) = n1_2 at en1 hk1 hd1
  generalize drF (fiY (fxBeacon x.bm x.bi x.bc) x.bt.er) 12 = F1 at en1 hk1 hd1
  generalize drE (fiY (fxBeacon x.bm x.bi x.bc) x.bt.er) 12 = D1 at en1 hk1 hd1
  generalize fiY (fxBeacon x.bm x.bi x.bc) x.bt.er = Y1 at en1 hk1 hd1
  generalize fiE (fxBeacon x.bm x.bi x.bc) x.bt.er = E1 at en1 hk1 hd1
  (apply WL_effs; exact rfl; exact rfl; exact rfl; apply E_call; exact rfl; (intro _ _; simp); exact en1; (repeat (first | exact AllE.nil _ | (apply AllE.cons; (focus (first | exact ent_nilBy | exact ent_nilSl | (apply Ent.mem; repeat' (first | exact mcs | apply mct))))))); (intro _; exact rfl); (intro _; exact rfl))
  intro u1 _
  repeat (first | refine n1 ?_ | refine n2 (fun b _ => ?_) | refine n3 (fun _ _ => ?_) | refine n4 ?_ | refine n5 ?_ | refine WL_nil ?_ | refine W_seq ?_ | refine W_region ?_ | refine n7 ?_ | refine n8 ?_ | refine W_block ?_ | refine W_skip ?_ | refine W_ret ?_ | refine W_exit ?_ | refine WQ_then ?_ | refine WQ_then_ret ?_ | refine WQ_then_exit ?_ | refine WQ_block_normal ?_ | refine WQ_block_ret ?_ | refine WQ_block_exit ?_ | refine n9 ?_)
  (apply WL_effs; exact rfl; exact rfl; exact rfl; apply E_call; exact rfl; (intro _ _; simp); exact hd1 u1; (repeat (first | exact AllE.nil _ | (apply AllE.cons; (focus (first | exact ent_nilBy | exact ent_nilSl | (apply Ent.mem; repeat' (first | exact mcs | apply mct))))))); (intro _; exact rfl); (intro _; exact rfl))
  rintro ⟨o1, t1⟩ ht1
  replace ht1 : t1.er = F1 := ht1
  dsimp only
  repeat ((fail_if_success apply W_isIf); (first | refine n1 ?_ | refine n2 (fun b _ => ?_) | refine n3 (fun _ _ => ?_) | refine n4 ?_ | refine n5 ?_ | refine WL_nil ?_ | refine W_seq ?_ | refine W_region ?_ | refine n7 ?_ | refine n8 ?_ | refine W_block ?_ | refine W_skip ?_ | refine W_ret ?_ | refine W_exit ?_ | refine WQ_then ?_ | refine WQ_then_ret ?_ | refine WQ_then_exit ?_ | refine WQ_block_normal ?_ | refine WQ_block_ret ?_ | refine WQ_block_exit ?_ | refine n9 ?_))
  ((apply W_cutK (X := Value × T) [3] [1] (fun p => p.2.er = x.bt.er) (fun _ => [(3, .bool true)]) (fun p => [.blk by_ 45 [.int .u64 (x.bm : Int), .int .u16 (x.bi : Int), .int .u16 (x.bc : Int), p.1, .int .u16 0, .int .u16 0, .int .u16 0, .slice none 0 0, .int .u16 0, .int .u16 0, .int .u8 0, .int .u8 0, .int .u8 0, .int .u8 0, .int .u8 0, .int .u8 0, .slice none 0 0, .bool false, .int .u16 0, .int .u16 0, .int .i64 0, .slice none 0 0, .int .u16 0, .slice none 0 0, .int .u8 0, .int .u8 0, .int .u8 0, .slice none 0 0, .int .i64 0, .int .i64 0, .int .i64 0, .int .i64 0, .int .u64 0]]) (fun p => [Rw 4 p.1 p.2.len p.2.at_, p.2.tf])); exact rfl; exact rfl; (intro _; exact rfl); (intro _; exact rfl); (intro _; exact rfl))
  · by_cases h0 : E1 = 0
    · obtain ⟨zd, zf, z0, z1, z2⟩ := hk1 h0
      have hi : t1.er = x.bt.er := ht1.trans zf
      subst zd
      subst z0
      subst z1
      subst z2
      repeat (first | refine n1 ?_ | refine n2 (fun b _ => ?_) | refine n3 (fun _ _ => ?_) | refine n4 ?_ | refine n5 ?_ | refine WL_nil ?_ | refine W_seq ?_ | refine W_region ?_ | refine n7 ?_ | refine n8 ?_ | refine W_block ?_ | refine W_skip ?_ | refine W_ret ?_ | refine W_exit ?_ | refine WQ_then ?_ | refine WQ_then_ret ?_ | refine WQ_then_exit ?_ | refine WQ_block_normal ?_ | refine WQ_block_ret ?_ | refine WQ_block_exit ?_ | refine n9 ?_)
      ((apply WQ_meet ((o1, t1))); (focus exact hi); (focus (repeat (first | exact FrIn.nil _ | (apply FrIn.cons; exact rfl; (first | exact rfl | (congr 1; first | omega | (dsimp only; omega)) | (simp; done)))))); (focus (repeat (first | exact SubO.nil _ | (apply SubO.cons; (focus (repeat' (first | exact Pick.head _ _ | apply Pick.tail))))))); (focus (repeat (first | exact AllE.nil _ | (apply AllE.cons; (focus (first | exact ent_nilBy | exact ent_nilSl | (apply Ent.mem; repeat' (first | exact mcs | apply mct)))))))))
    · repeat (first | refine n1 ?_ | refine n2 (fun b _ => ?_) | refine n3 (fun _ _ => ?_) | refine n4 ?_ | refine n5 ?_ | refine WL_nil ?_ | refine W_seq ?_ | refine W_region ?_ | refine n7 ?_ | refine n8 ?_ | refine W_block ?_ | refine W_skip ?_ | refine W_ret ?_ | refine W_exit ?_ | refine WQ_then ?_ | refine WQ_then_ret ?_ | refine WQ_then_exit ?_ | refine WQ_block_normal ?_ | refine WQ_block_ret ?_ | refine WQ_block_exit ?_ | refine n9 ?_)
      ((apply WQ_meet ((x.bv, x.bt))); (focus exact rfl); (focus (repeat (first | exact FrIn.nil _ | (apply FrIn.cons; exact rfl; (first | exact rfl | (congr 1; first | omega | (dsimp only; omega)) | (simp; done)))))); (focus (repeat (first | exact SubO.nil _ | (apply SubO.cons; (focus (repeat' (first | exact Pick.head _ _ | apply Pick.tail))))))); (focus (repeat (first | exact AllE.nil _ | (apply AllE.cons; (focus (first | exact ent_nilBy | exact ent_nilSl | (apply Ent.mem; repeat' (first | exact mcs | apply mct)))))))))
  rintro ⟨p1_, q1_⟩ g1_
  replace g1_ : q1_.er = x.bt.er := g1_
  dsimp only
  clear en1 hk1 hd1 ht1
  have en2 := eAuth_fn x.aa x.as_ x.ad w4 w5 w6 x.av x.at_ s2
  have hk2 := fun h => auth_ok w4 w5 w6 (f := x.at_.er) h
  have hd2 := fun v => dAuth_fn v (fiY (fxAuth x.aa x.as_ x.ad) x.at_.er) (Nat.le_trans (fiY_len _ _) (by decide))
  generalize z0 (drE (fiY (fxAuth x.aa x.as_ x.ad) x.at_.er) 6) (twA (fiY (fxAuth x.aa x.as_ x.ad) x.at_.er) 0) = n2_0 at en2 hk2 hd2
  generalize z0 (drE (fiY (fxAuth x.aa x.as_ x.ad) x.at_.er) 6) (twA (fiY (fxAuth x.aa x.as_ x.ad) x.at_.er) 2) = n2_1 at en2 hk2 hd2
  generalize z0 (drE (fiY (fxAuth x.aa x.as_ x.ad) x.at_.er) 6) (twA (fiY (fxAuth x.aa x.as_ x.ad) x.at_.er) 4) = n2_2 at en2 hk2 hd2
  generalize drF (fiY (fxAuth x.aa x.as_ x.ad) x.at_.er) 6 = F2 at en2 hk2 hd2
  generalize drE (fiY (fxAuth x.aa x.as_ x.ad) x.at_.er) 6 = D2 at en2 hk2 hd2
  generalize fiY (fxAuth x.aa x.as_ x.ad) x.at_.er = Y2 at en2 hk2 hd2
  generalize fiE (fxAuth x.aa x.as_ x.ad) x.at_.er = E2 at en2 hk2 hd2
  repeat (first | refine n1 ?_ | refine n2 (fun b _ => ?_) | refine n3 (fun _ _ => ?_) | refine n4 ?_ | refine n5 ?_ | refine WL_nil ?_ | refine W_seq ?_ | refine W_region ?_ | refine n7 ?_ | refine n8 ?_ | refine W_block ?_ | refine W_skip ?_ | refine W_ret ?_ | refine W_exit ?_ | refine WQ_then ?_ | refine WQ_then_ret ?_ | refine WQ_then_exit ?_ | refine WQ_block_normal ?_ | refine WQ_block_ret ?_ | refine WQ_block_exit ?_ | refine n9 ?_)
  (apply WL_effs; exact rfl; exact rfl; exact rfl; apply E_call; exact rfl; (intro _ _; simp); exact en2; (repeat (first | exact AllE.nil _ | (apply AllE.cons; (focus (first | exact ent_nilBy | exact ent_nilSl | (apply Ent.mem; repeat' (first | exact mcs | apply mct))))))); (intro _; exact rfl); (intro _; exact rfl))
  intro u2 _
  repeat (first | refine n1 ?_ | refine n2 (fun b _ => ?_) | refine n3 (fun _ _ => ?_) | refine n4 ?_ | refine n5 ?_ | refine WL_nil ?_ | refine W_seq ?_ | refine W_region ?_ | refine n7 ?_ | refine n8 ?_ | refine W_block ?_ | refine W_skip ?_ | refine W_ret ?_ | refine W_exit ?_ | refine WQ_then ?_ | refine WQ_then_ret ?_ | refine WQ_then_exit ?_ | refine WQ_block_normal ?_ | refine WQ_block_ret ?_ | refine WQ_block_exit ?_ | refine n9 ?_)
  (apply WL_effs; exact rfl; exact rfl; exact rfl; apply E_call; exact rfl; (intro _ _; simp); exact hd2 u2; (repeat (first | exact AllE.nil _ | (apply AllE.cons; (focus (first | exact ent_nilBy | exact ent_nilSl | (apply Ent.mem; repeat' (first | exact mcs | apply mct))))))); (intro _; exact rfl); (intro _; exact rfl))
  rintro ⟨o2, t2⟩ ht2
  replace ht2 : t2.er = F2 := ht2
  dsimp only
  repeat ((fail_if_success apply W_isIf); (first | refine n1 ?_ | refine n2 (fun b _ => ?_) | refine n3 (fun _ _ => ?_) | refine n4 ?_ | refine n5 ?_ | refine WL_nil ?_ | refine W_seq ?_ | refine W_region ?_ | refine n7 ?_ | refine n8 ?_ | refine W_block ?_ | refine W_skip ?_ | refine W_ret ?_ | refine W_exit ?_ | refine WQ_then ?_ | refine WQ_then_ret ?_ | refine WQ_then_exit ?_ | refine WQ_block_normal ?_ | refine WQ_block_ret ?_ | refine WQ_block_exit ?_ | refine n9 ?_))
  ((apply W_cutK (X := Value × T) [3] [0] (fun p => p.2.er = x.at_.er) (fun _ => [(3, .bool true)]) (fun p => [.blk by_ 45 [.int .u64 (x.bm : Int), .int .u16 (x.bi : Int), .int .u16 (x.bc : Int), p1_, .int .u16 (x.aa : Int), .int .u16 (x.as_ : Int), .int .u16 (x.ad : Int), p.1, .int .u16 0, .int .u16 0, .int .u8 0, .int .u8 0, .int .u8 0, .int .u8 0, .int .u8 0, .int .u8 0, .slice none 0 0, .bool false, .int .u16 0, .int .u16 0, .int .i64 0, .slice none 0 0, .int .u16 0, .slice none 0 0, .int .u8 0, .int .u8 0, .int .u8 0, .slice none 0 0, .int .i64 0, .int .i64 0, .int .i64 0, .int .i64 0, .int .u64 0]]) (fun p => [Rw 4 p.1 p.2.len p.2.at_, p.2.tf])); exact rfl; exact rfl; (intro _; exact rfl); (intro _; exact rfl); (intro _; exact rfl))
  · by_cases h0 : E2 = 0
    · obtain ⟨zd, zf, z0, z1, z2⟩ := hk2 h0
      have hi : t2.er = x.at_.er := ht2.trans zf
      subst zd
      subst z0
      subst z1
      subst z2
      repeat (first | refine n1 ?_ | refine n2 (fun b _ => ?_) | refine n3 (fun _ _ => ?_) | refine n4 ?_ | refine n5 ?_ | refine WL_nil ?_ | refine W_seq ?_ | refine W_region ?_ | refine n7 ?_ | refine n8 ?_ | refine W_block ?_ | refine W_skip ?_ | refine W_ret ?_ | refine W_exit ?_ | refine WQ_then ?_ | refine WQ_then_ret ?_ | refine WQ_then_exit ?_ | refine WQ_block_normal ?_ | refine WQ_block_ret ?_ | refine WQ_block_exit ?_ | refine n9 ?_)
      ((apply WQ_meet ((o2, t2))); (focus exact hi); (focus (repeat (first | exact FrIn.nil _ | (apply FrIn.cons; exact rfl; (first | exact rfl | (congr 1; first | omega | (dsimp only; omega)) | (simp; done)))))); (focus (repeat (first | exact SubO.nil _ | (apply SubO.cons; (focus (repeat' (first | exact Pick.head _ _ | apply Pick.tail))))))); (focus (repeat (first | exact AllE.nil _ | (apply AllE.cons; (focus (first | exact ent_nilBy | exact ent_nilSl | (apply Ent.mem; repeat' (first | exact mcs | apply mct)))))))))
    · repeat (first | refine n1 ?_ | refine n2 (fun b _ => ?_) | refine n3 (fun _ _ => ?_) | refine n4 ?_ | refine n5 ?_ | refine WL_nil ?_ | refine W_seq ?_ | refine W_region ?_ | refine n7 ?_ | refine n8 ?_ | refine W_block ?_ | refine W_skip ?_ | refine W_ret ?_ | refine W_exit ?_ | refine WQ_then ?_ | refine WQ_then_ret ?_ | refine WQ_then_exit ?_ | refine WQ_block_normal ?_ | refine WQ_block_ret ?_ | refine WQ_block_exit ?_ | refine n9 ?_)
      ((apply WQ_meet ((x.av, x.at_))); (focus exact rfl); (focus (repeat (first | exact FrIn.nil _ | (apply FrIn.cons; exact rfl; (first | exact rfl | (congr 1; first | omega | (dsimp only; omega)) | (simp; done)))))); (focus (repeat (first | exact SubO.nil _ | (apply SubO.cons; (focus (repeat' (first | exact Pick.head _ _ | apply Pick.tail))))))); (focus (repeat (first | exact AllE.nil _ | (apply AllE.cons; (focus (first | exact ent_nilBy | exact ent_nilSl | (apply Ent.mem; repeat' (first | exact mcs | apply mct)))))))))
  rintro ⟨p2_, q2_⟩ g2_
  replace g2_ : q2_.er = x.at_.er := g2_
  dsimp only
  clear en2 hk2 hd2 ht2
  have en3 := eReq_fn x.rc x.rl x.ag x.ro w7 w8 x.rv x.rt s3
  have hk3 := fun h => req_ok w7 w8 (g := x.ag) (o := x.ro) (f := x.rt.er) h
  have hd3 := fun v => dReq_fn v (rqY x.rc x.rl x.ag x.ro x.rt.er) x.ag (Nat.le_trans (rqY_len _ _ _ _ _) (by decide))
  generalize rqO (rqY x.rc x.rl x.ag x.ro x.rt.er) x.ag = n3_0 at en3 hk3 hd3
  generalize z0 (drE (rqY x.rc x.rl x.ag x.ro x.rt.er) (rqN x.ag)) (twA (rqY x.rc x.rl x.ag x.ro x.rt.er) 0) = n3_1 at en3 hk3 hd3
  generalize z0 (drE (rqY x.rc x.rl x.ag x.ro x.rt.er) (rqN x.ag)) (twA (rqY x.rc x.rl x.ag x.ro x.rt.er) 2) = n3_2 at en3 hk3 hd3
  generalize drF (rqY x.rc x.rl x.ag x.ro x.rt.er) (rqN x.ag) = F3 at en3 hk3 hd3
  generalize drE (rqY x.rc x.rl x.ag x.ro x.rt.er) (rqN x.ag) = D3 at en3 hk3 hd3
  generalize rqY x.rc x.rl x.ag x.ro x.rt.er = Y3 at en3 hk3 hd3
  generalize rqE x.rc x.rl x.ag x.ro x.rt.er = E3 at en3 hk3 hd3
  repeat (first | refine n1 ?_ | refine n2 (fun b _ => ?_) | refine n3 (fun _ _ => ?_) | refine n4 ?_ | refine n5 ?_ | refine WL_nil ?_ | refine W_seq ?_ | refine W_region ?_ | refine n7 ?_ | refine n8 ?_ | refine W_block ?_ | refine W_skip ?_ | refine W_ret ?_ | refine W_exit ?_ | refine WQ_then ?_ | refine WQ_then_ret ?_ | refine WQ_then_exit ?_ | refine WQ_block_normal ?_ | refine WQ_block_ret ?_ | refine WQ_block_exit ?_ | refine n9 ?_)
  (apply WL_effs; exact rfl; exact rfl; exact rfl; apply E_call; exact rfl; (intro _ _; simp); exact en3; (repeat (first | exact AllE.nil _ | (apply AllE.cons; (focus (first | exact ent_nilBy | exact ent_nilSl | (apply Ent.mem; repeat' (first | exact mcs | apply mct))))))); (intro _; exact rfl); (intro _; exact rfl))
  intro u3 _
  repeat (first | refine n1 ?_ | refine n2 (fun b _ => ?_) | refine n3 (fun _ _ => ?_) | refine n4 ?_ | refine n5 ?_ | refine WL_nil ?_ | refine W_seq ?_ | refine W_region ?_ | refine n7 ?_ | refine n8 ?_ | refine W_block ?_ | refine W_skip ?_ | refine W_ret ?_ | refine W_exit ?_ | refine WQ_then ?_ | refine WQ_then_ret ?_ | refine WQ_then_exit ?_ | refine WQ_block_normal ?_ | refine WQ_block_ret ?_ | refine WQ_block_exit ?_ | refine n9 ?_)
  (apply WL_effs; exact rfl; exact rfl; exact rfl; apply E_call; exact rfl; (intro _ _; simp); exact hd3 u3; (repeat (first | exact AllE.nil _ | (apply AllE.cons; (focus (first | exact ent_nilBy | exact ent_nilSl | (apply Ent.mem; repeat' (first | exact mcs | apply mct))))))); (intro _; exact rfl); (intro _; exact rfl))
  rintro ⟨o3, t3⟩ ht3
  replace ht3 : t3.er = F3 := ht3
  dsimp only
  repeat ((fail_if_success apply W_isIf); (first | refine n1 ?_ | refine n2 (fun b _ => ?_) | refine n3 (fun _ _ => ?_) | refine n4 ?_ | refine n5 ?_ | refine WL_nil ?_ | refine W_seq ?_ | refine W_region ?_ | refine n7 ?_ | refine n8 ?_ | refine W_block ?_ | refine W_skip ?_ | refine W_ret ?_ | refine W_exit ?_ | refine WQ_then ?_ | refine WQ_then_ret ?_ | refine WQ_then_exit ?_ | refine WQ_block_normal ?_ | refine WQ_block_ret ?_ | refine WQ_block_exit ?_ | refine n9 ?_))
  ((apply W_cutK (X := Value × T) [3] [0] (fun p => p.2.er = x.rt.er) (fun _ => [(3, .bool true)]) (fun p => [.blk by_ 45 [.int .u64 (x.bm : Int), .int .u16 (x.bi : Int), .int .u16 (x.bc : Int), p1_, .int .u16 (x.aa : Int), .int .u16 (x.as_ : Int), .int .u16 (x.ad : Int), p2_, .int .u16 (x.rc : Int), .int .u16 (x.rl : Int), bcell x.ro.a0, bcell x.ro.a1, bcell x.ro.a2, bcell x.ro.a3, bcell x.ro.a4, bcell x.ro.a5, p.1, .bool false, .int .u16 0, .int .u16 0, .int .i64 0, .slice none 0 0, .int .u16 0, .slice none 0 0, .int .u8 0, .int .u8 0, .int .u8 0, .slice none 0 0, .int .i64 0, .int .i64 0, .int .i64 0, .int .i64 0, .int .u64 0]]) (fun p => [Rw 4 p.1 p.2.len p.2.at_, p.2.tf])); exact rfl; exact rfl; (intro _; exact rfl); (intro _; exact rfl); (intro _; exact rfl))
  · by_cases h0 : E3 = 0
    · obtain ⟨zd, zf, z0, z1, z2⟩ := hk3 h0
      have hi : t3.er = x.rt.er := ht3.trans zf
      subst zd
      subst z0
      subst z1
      subst z2
      repeat (first | refine n1 ?_ | refine n2 (fun b _ => ?_) | refine n3 (fun _ _ => ?_) | refine n4 ?_ | refine n5 ?_ | refine WL_nil ?_ | refine W_seq ?_ | refine W_region ?_ | refine n7 ?_ | refine n8 ?_ | refine W_block ?_ | refine W_skip ?_ | refine W_ret ?_ | refine W_exit ?_ | refine WQ_then ?_ | refine WQ_then_ret ?_ | refine WQ_then_exit ?_ | refine WQ_block_normal ?_ | refine WQ_block_ret ?_ | refine WQ_block_exit ?_ | refine n9 ?_)
      ((apply WQ_meet ((o3, t3))); (focus exact hi); (focus (repeat (first | exact FrIn.nil _ | (apply FrIn.cons; exact rfl; (first | exact rfl | (congr 1; first | omega | (dsimp only; omega)) | (simp; done)))))); (focus (repeat (first | exact SubO.nil _ | (apply SubO.cons; (focus (repeat' (first | exact Pick.head _ _ | apply Pick.tail))))))); (focus (repeat (first | exact AllE.nil _ | (apply AllE.cons; (focus (first | exact ent_nilBy | exact ent_nilSl | (apply Ent.mem; repeat' (first | exact mcs | apply mct)))))))))
    · repeat (first | refine n1 ?_ | refine n2 (fun b _ => ?_) | refine n3 (fun _ _ => ?_) | refine n4 ?_ | refine n5 ?_ | refine WL_nil ?_ | refine W_seq ?_ | refine W_region ?_ | refine n7 ?_ | refine n8 ?_ | refine W_block ?_ | refine W_skip ?_ | refine W_ret ?_ | refine W_exit ?_ | refine WQ_then ?_ | refine WQ_then_ret ?_ | refine WQ_then_exit ?_ | refine WQ_block_normal ?_ | refine WQ_block_ret ?_ | refine WQ_block_exit ?_ | refine n9 ?_)
      ((apply WQ_meet ((x.rv, x.rt))); (focus exact rfl); (focus (repeat (first | exact FrIn.nil _ | (apply FrIn.cons; exact rfl; (first | exact rfl | (congr 1; first | omega | (dsimp only; omega)) | (simp; done)))))); (focus (repeat (first | exact SubO.nil _ | (apply SubO.cons; (focus (repeat' (first | exact Pick.head _ _ | apply Pick.tail))))))); (focus (repeat (first | exact AllE.nil _ | (apply AllE.cons; (focus (first | exact ent_nilBy | exact ent_nilSl | (apply Ent.mem; repeat' (first | exact mcs | apply mct)))))))))
  rintro ⟨p3_, q3_⟩ g3_
  replace g3_ : q3_.er = x.rt.er := g3_
  dsimp only
  clear en3 hk3 hd3 ht3
  have en4 := eResp_fn x.pc x.ps x.pa w9 w10 x.pv x.pt s4
  have hk4 := fun h => resp_ok w9 w10 (a := x.pa) (f := x.pt.er) h
  have hd4 := fun v => dResp_fn v (rsY x.pc x.ps x.pa x.pt.er) (Nat.le_trans (rsY_len _ _ _ _) (by decide))
  generalize z0 (rpE (rsY x.pc x.ps x.pa x.pt.er)) (twA (rsY x.pc x.ps x.pa x.pt.er) 0) = n4_0 at en4 hk4 hd4
  generalize z0 (rpE (rsY x.pc x.ps x.pa x.pt.er)) (twA (rsY x.pc x.ps x.pa x.pt.er) 2) = n4_1 at en4 hk4 hd4
  generalize ((z0 (rpE (rsY x.pc x.ps x.pa x.pt.er)) (twA (rsY x.pc x.ps x.pa x.pt.er) 4) : Nat) : Int) = n4_2 at en4 hk4 hd4
  generalize rpF (rsY x.pc x.ps x.pa x.pt.er) = F4 at en4 hk4 hd4
  generalize rpE (rsY x.pc x.ps x.pa x.pt.er) = D4 at en4 hk4 hd4
  generalize rsY x.pc x.ps x.pa x.pt.er = Y4 at en4 hk4 hd4
  generalize rsE x.pc x.ps x.pa x.pt.er = E4 at en4 hk4 hd4
  repeat (first | refine n1 ?_ | refine n2 (fun b _ => ?_) | refine n3 (fun _ _ => ?_) | refine n4 ?_ | refine n5 ?_ | refine WL_nil ?_ | refine W_seq ?_ | refine W_region ?_ | refine n7 ?_ | refine n8 ?_ | refine W_block ?_ | refine W_skip ?_ | refine W_ret ?_ | refine W_exit ?_ | refine WQ_then ?_ | refine WQ_then_ret ?_ | refine WQ_then_exit ?_ | refine WQ_block_normal ?_ | refine WQ_block_ret ?_ | refine WQ_block_exit ?_ | refine n9 ?_)
  (apply WL_effs; exact rfl; exact rfl; exact rfl; apply E_call; exact rfl; (intro _ _; simp); exact en4; (repeat (first | exact AllE.nil _ | (apply AllE.cons; (focus (first | exact ent_nilBy | exact ent_nilSl | (apply Ent.mem; repeat' (first | exact mcs | apply mct))))))); (intro _; exact rfl); (intro _; exact rfl))
  intro u4 _
  repeat (first | refine n1 ?_ | refine n2 (fun b _ => ?_) | refine n3 (fun _ _ => ?_) | refine n4 ?_ | refine n5 ?_ | refine WL_nil ?_ | refine W_seq ?_ | refine W_region ?_ | refine n7 ?_ | refine n8 ?_ | refine W_block ?_ | refine W_skip ?_ | refine W_ret ?_ | refine W_exit ?_ | refine WQ_then ?_ | refine WQ_then_ret ?_ | refine WQ_then_exit ?_ | refine WQ_block_normal ?_ | refine WQ_block_ret ?_ | refine WQ_block_exit ?_ | refine n9 ?_)
  (apply WL_effs; exact rfl; exact rfl; exact rfl; apply E_call; exact rfl; (intro _ _; simp); exact hd4 u4; (repeat (first | exact AllE.nil _ | (apply AllE.cons; (focus (first | exact ent_nilBy | exact ent_nilSl | (apply Ent.mem; repeat' (first | exact mcs | apply mct))))))); (intro _; exact rfl); (intro _; exact rfl))
  rintro ⟨o4, t4⟩ ht4
  replace ht4 : t4.er = F4 := ht4
  dsimp only
  repeat ((fail_if_success apply W_isIf); (first | refine n1 ?_ | refine n2 (fun b _ => ?_) | refine n3 (fun _ _ => ?_) | refine n4 ?_ | refine n5 ?_ | refine WL_nil ?_ | refine W_seq ?_ | refine W_region ?_ | refine n7 ?_ | refine n8 ?_ | refine W_block ?_ | refine W_skip ?_ | refine W_ret ?_ | refine W_exit ?_ | refine WQ_then ?_ | refine WQ_then_ret ?_ | refine WQ_then_exit ?_ | refine WQ_block_normal ?_ | refine WQ_block_ret ?_ | refine WQ_block_exit ?_ | refine n9 ?_))
  ((apply W_cutK (X := Value × T) [3] [0] (fun p => p.2.er = x.pt.er) (fun _ => [(3, .bool true)]) (fun p => [.blk by_ 45 [.int .u64 (x.bm : Int), .int .u16 (x.bi : Int), .int .u16 (x.bc : Int), p1_, .int .u16 (x.aa : Int), .int .u16 (x.as_ : Int), .int .u16 (x.ad : Int), p2_, .int .u16 (x.rc : Int), .int .u16 (x.rl : Int), bcell x.ro.a0, bcell x.ro.a1, bcell x.ro.a2, bcell x.ro.a3, bcell x.ro.a4, bcell x.ro.a5, p3_, .bool false, .int .u16 (x.pc : Int), .int .u16 (x.ps : Int), .int .i64 x.pa, p.1, .int .u16 0, .slice none 0 0, .int .u8 0, .int .u8 0, .int .u8 0, .slice none 0 0, .int .i64 0, .int .i64 0, .int .i64 0, .int .i64 0, .int .u64 0]]) (fun p => [Rw 4 p.1 p.2.len p.2.at_, p.2.tf])); exact rfl; exact rfl; (intro _; exact rfl); (intro _; exact rfl); (intro _; exact rfl))
  · by_cases h0 : E4 = 0
    · obtain ⟨zd, zf, z0, z1, z2⟩ := hk4 h0
      have hi : t4.er = x.pt.er := ht4.trans zf
      subst zd
      subst z0
      subst z1
      subst z2
      repeat (first | refine n1 ?_ | refine n2 (fun b _ => ?_) | refine n3 (fun _ _ => ?_) | refine n4 ?_ | refine n5 ?_ | refine WL_nil ?_ | refine W_seq ?_ | refine W_region ?_ | refine n7 ?_ | refine n8 ?_ | refine W_block ?_ | refine W_skip ?_ | refine W_ret ?_ | refine W_exit ?_ | refine WQ_then ?_ | refine WQ_then_ret ?_ | refine WQ_then_exit ?_ | refine WQ_block_normal ?_ | refine WQ_block_ret ?_ | refine WQ_block_exit ?_ | refine n9 ?_)
      ((apply WQ_meet ((o4, t4))); (focus exact hi); (focus (repeat (first | exact FrIn.nil _ | (apply FrIn.cons; exact rfl; (first | exact rfl | (congr 1; first | omega | (dsimp only; omega)) | (simp; done)))))); (focus (repeat (first | exact SubO.nil _ | (apply SubO.cons; (focus (repeat' (first | exact Pick.head _ _ | apply Pick.tail))))))); (focus (repeat (first | exact AllE.nil _ | (apply AllE.cons; (focus (first | exact ent_nilBy | exact ent_nilSl | (apply Ent.mem; repeat' (first | exact mcs | apply mct)))))))))
    · repeat (first | refine n1 ?_ | refine n2 (fun b _ => ?_) | refine n3 (fun _ _ => ?_) | refine n4 ?_ | refine n5 ?_ | refine WL_nil ?_ | refine W_seq ?_ | refine W_region ?_ | refine n7 ?_ | refine n8 ?_ | refine W_block ?_ | refine W_skip ?_ | refine W_ret ?_ | refine W_exit ?_ | refine WQ_then ?_ | refine WQ_then_ret ?_ | refine WQ_then_exit ?_ | refine WQ_block_normal ?_ | refine WQ_block_ret ?_ | refine WQ_block_exit ?_ | refine n9 ?_)
      ((apply WQ_meet ((x.pv, x.pt))); (focus exact rfl); (focus (repeat (first | exact FrIn.nil _ | (apply FrIn.cons; exact rfl; (first | exact rfl | (congr 1; first | omega | (dsimp only; omega)) | (simp; done)))))); (focus (repeat (first | exact SubO.nil _ | (apply SubO.cons; (focus (repeat' (first | exact Pick.head _ _ | apply Pick.tail))))))); (focus (repeat (first | exact AllE.nil _ | (apply AllE.cons; (focus (first | exact ent_nilBy | exact ent_nilSl | (apply Ent.mem; repeat' (first | exact mcs | apply mct)))))))))
  rintro ⟨p4_, q4_⟩ g4_
  replace g4_ : q4_.er = x.pt.er := g4_
  dsimp only
  clear en4 hk4 hd4 ht4
  have en5 := eReason_fn x.nc w11 x.nv x.nt s5
  have hk5 := fun h => reason_ok w11 (f := x.nt.er) h
  have hd5 := fun v => dReason_fn v (fiY (fxReason x.nc) x.nt.er) (Nat.le_trans (fiY_len _ _) (by decide))
  generalize z0 (drE (fiY (fxReason x.nc) x.nt.er) 2) (twA (fiY (fxReason x.nc) x.nt.er) 0) = n5_0 at en5 hk5 hd5
  generalize drF (fiY (fxReason x.nc) x.nt.er) 2 = F5 at en5 hk5 hd5
  generalize drE (fiY (fxReason x.nc) x.nt.er) 2 = D5 at en5 hk5 hd5
  generalize fiY (fxReason x.nc) x.nt.er = Y5 at en5 hk5 hd5
  generalize fiE (fxReason x.nc) x.nt.er = E5 at en5 hk5 hd5
  repeat (first | refine n1 ?_ | refine n2 (fun b _ => ?_) | refine n3 (fun _ _ => ?_) | refine n4 ?_ | refine n5 ?_ | refine WL_nil ?_ | refine W_seq ?_ | refine W_region ?_ | refine n7 ?_ | refine n8 ?_ | refine W_block ?_ | refine W_skip ?_ | refine W_ret ?_ | refine W_exit ?_ | refine WQ_then ?_ | refine WQ_then_ret ?_ | refine WQ_then_exit ?_ | refine WQ_block_normal ?_ | refine WQ_block_ret ?_ | refine WQ_block_exit ?_ | refine n9 ?_)
  (apply WL_effs; exact rfl; exact rfl; exact rfl; apply E_call; exact rfl; (intro _ _; simp); exact en5; (repeat (first | exact AllE.nil _ | (apply AllE.cons; (focus (first | exact ent_nilBy | exact ent_nilSl | (apply Ent.mem; repeat' (first | exact mcs | apply mct))))))); (intro _; exact rfl); (intro _; exact rfl))
  intro u5 _
  repeat (first | refine n1 ?_ | refine n2 (fun b _ => ?_) | refine n3 (fun _ _ => ?_) | refine n4 ?_ | refine n5 ?_ | refine WL_nil ?_ | refine W_seq ?_ | refine W_region ?_ | refine n7 ?_ | refine n8 ?_ | refine W_block ?_ | refine W_skip ?_ | refine W_ret ?_ | refine W_exit ?_ | refine WQ_then ?_ | refine WQ_then_ret ?_ | refine WQ_then_exit ?_ | refine WQ_block_normal ?_ | refine WQ_block_ret ?_ | refine WQ_block_exit ?_ | refine n9 ?_)
  (apply WL_effs; exact rfl; exact rfl; exact rfl; apply E_call; exact rfl; (intro _ _; simp); exact hd5 u5; (repeat (first | exact AllE.nil _ | (apply AllE.cons; (focus (first | exact ent_nilBy | exact ent_nilSl | (apply Ent.mem; repeat' (first | exact mcs | apply mct))))))); (intro _; exact rfl); (intro _; exact rfl))
  rintro ⟨o5, t5⟩ ht5
  replace ht5 : t5.er = F5 := ht5
  dsimp only
  repeat ((fail_if_success apply W_isIf); (first | refine n1 ?_ | refine n2 (fun b _ => ?_) | refine n3 (fun _ _ => ?_) | refine n4 ?_ | refine n5 ?_ | refine WL_nil ?_ | refine W_seq ?_ | refine W_region ?_ | refine n7 ?_ | refine n8 ?_ | refine W_block ?_ | refine W_skip ?_ | refine W_ret ?_ | refine W_exit ?_ | refine WQ_then ?_ | refine WQ_then_ret ?_ | refine WQ_then_exit ?_ | refine WQ_block_normal ?_ | refine WQ_block_ret ?_ | refine WQ_block_exit ?_ | refine n9 ?_))
  ((apply W_cutK (X := Value × T) [3] [0] (fun p => p.2.er = x.nt.er) (fun _ => [(3, .bool true)]) (fun p => [.blk by_ 45 [.int .u64 (x.bm : Int), .int .u16 (x.bi : Int), .int .u16 (x.bc : Int), p1_, .int .u16 (x.aa : Int), .int .u16 (x.as_ : Int), .int .u16 (x.ad : Int), p2_, .int .u16 (x.rc : Int), .int .u16 (x.rl : Int), bcell x.ro.a0, bcell x.ro.a1, bcell x.ro.a2, bcell x.ro.a3, bcell x.ro.a4, bcell x.ro.a5, p3_, .bool false, .int .u16 (x.pc : Int), .int .u16 (x.ps : Int), .int .i64 x.pa, p4_, .int .u16 (x.nc : Int), p.1, .int .u8 0, .int .u8 0, .int .u8 0, .slice none 0 0, .int .i64 0, .int .i64 0, .int .i64 0, .int .i64 0, .int .u64 0]]) (fun p => [Rw 4 p.1 p.2.len p.2.at_, p.2.tf])); exact rfl; exact rfl; (intro _; exact rfl); (intro _; exact rfl); (intro _; exact rfl))
  · by_cases h0 : E5 = 0
    · obtain ⟨zd, zf, z0⟩ := hk5 h0
      have hi : t5.er = x.nt.er := ht5.trans zf
      subst zd
      subst z0
      repeat (first | refine n1 ?_ | refine n2 (fun b _ => ?_) | refine n3 (fun _ _ => ?_) | refine n4 ?_ | refine n5 ?_ | refine WL_nil ?_ | refine W_seq ?_ | refine W_region ?_ | refine n7 ?_ | refine n8 ?_ | refine W_block ?_ | refine W_skip ?_ | refine W_ret ?_ | refine W_exit ?_ | refine WQ_then ?_ | refine WQ_then_ret ?_ | refine WQ_then_exit ?_ | refine WQ_block_normal ?_ | refine WQ_block_ret ?_ | refine WQ_block_exit ?_ | refine n9 ?_)
      ((apply WQ_meet ((o5, t5))); (focus exact hi); (focus (repeat (first | exact FrIn.nil _ | (apply FrIn.cons; exact rfl; (first | exact rfl | (congr 1; first | omega | (dsimp only; omega)) | (simp; done)))))); (focus (repeat (first | exact SubO.nil _ | (apply SubO.cons; (focus (repeat' (first | exact Pick.head _ _ | apply Pick.tail))))))); (focus (repeat (first | exact AllE.nil _ | (apply AllE.cons; (focus (first | exact ent_nilBy | exact ent_nilSl | (apply Ent.mem; repeat' (first | exact mcs | apply mct)))))))))
    · repeat (first | refine n1 ?_ | refine n2 (fun b _ => ?_) | refine n3 (fun _ _ => ?_) | refine n4 ?_ | refine n5 ?_ | refine WL_nil ?_ | refine W_seq ?_ | refine W_region ?_ | refine n7 ?_ | refine n8 ?_ | refine W_block ?_ | refine W_skip ?_ | refine W_ret ?_ | refine W_exit ?_ | refine WQ_then ?_ | refine WQ_then_ret ?_ | refine WQ_then_exit ?_ | refine WQ_block_normal ?_ | refine WQ_block_ret ?_ | refine WQ_block_exit ?_ | refine n9 ?_)
      ((apply WQ_meet ((x.nv, x.nt))); (focus exact rfl); (focus (repeat (first | exact FrIn.nil _ | (apply FrIn.cons; exact rfl; (first | exact rfl | (congr 1; first | omega | (dsimp only; omega)) | (simp; done)))))); (focus (repeat (first | exact SubO.nil _ | (apply SubO.cons; (focus (repeat' (first | exact Pick.head _ _ | apply Pick.tail))))))); (focus (repeat (first | exact AllE.nil _ | (apply AllE.cons; (focus (first | exact ent_nilBy | exact ent_nilSl | (apply Ent.mem; repeat' (first | exact mcs | apply mct)))))))))
  rintro ⟨p5_, q5_⟩ g5_
  replace g5_ : q5_.er = x.nt.er := g5_
  dsimp only
  clear en5 hk5 hd5 ht5
  have en6 := eAction_fn x.c0 x.c1 x.c2 x.cv x.cd (by omega)
  have hk6 := fun h => action_ok (c := x.c0) (k := x.c1) (t := x.c2) (ds := x.cd) h
  have hd6 := fun v => dAction_fn v (edY (acF x.c0 x.c1 x.c2) x.cd) (Nat.le_trans (edY_len _ _) (by decide))
  generalize frE (edY (acF x.c0 x.c1 x.c2) x.cd).length 3 = D6 at en6 hk6 hd6
  generalize acB (edY (acF x.c0 x.c1 x.c2) x.cd) 0 = n6_0 at en6 hk6 hd6
  generalize acB (edY (acF x.c0 x.c1 x.c2) x.cd) 1 = n6_1 at en6 hk6 hd6
  generalize acB (edY (acF x.c0 x.c1 x.c2) x.cd) 2 = n6_2 at en6 hk6 hd6
  generalize acD (edY (acF x.c0 x.c1 x.c2) x.cd) = F6 at en6 hk6 hd6
  generalize edY (acF x.c0 x.c1 x.c2) x.cd = Y6 at en6 hk6 hd6
  generalize edE 3 x.cd.length = E6 at en6 hk6 hd6
  repeat (first | refine n1 ?_ | refine n2 (fun b _ => ?_) | refine n3 (fun _ _ => ?_) | refine n4 ?_ | refine n5 ?_ | refine WL_nil ?_ | refine W_seq ?_ | refine W_region ?_ | refine n7 ?_ | refine n8 ?_ | refine W_block ?_ | refine W_skip ?_ | refine W_ret ?_ | refine W_exit ?_ | refine WQ_then ?_ | refine WQ_then_ret ?_ | refine WQ_then_exit ?_ | refine WQ_block_normal ?_ | refine WQ_block_ret ?_ | refine WQ_block_exit ?_ | refine n9 ?_)
  (apply WL_effs; exact rfl; exact rfl; exact rfl; apply E_call; exact rfl; (intro _ _; simp); exact en6; (repeat (first | exact AllE.nil _ | (apply AllE.cons; (focus (first | exact ent_nilBy | exact ent_nilSl | (apply Ent.mem; repeat' (first | exact mcs | apply mct))))))); (intro _; exact rfl); (intro _; exact rfl))
  intro u6 _
  repeat (first | refine n1 ?_ | refine n2 (fun b _ => ?_) | refine n3 (fun _ _ => ?_) | refine n4 ?_ | refine n5 ?_ | refine WL_nil ?_ | refine W_seq ?_ | refine W_region ?_ | refine n7 ?_ | refine n8 ?_ | refine W_block ?_ | refine W_skip ?_ | refine W_ret ?_ | refine W_exit ?_ | refine WQ_then ?_ | refine WQ_then_ret ?_ | refine WQ_then_exit ?_ | refine WQ_block_normal ?_ | refine WQ_block_ret ?_ | refine WQ_block_exit ?_ | refine n9 ?_)
  (apply WL_effs; exact rfl; exact rfl; exact rfl; apply E_call; exact rfl; (intro _ _; simp); exact hd6 u6; (repeat (first | exact AllE.nil _ | (apply AllE.cons; (focus (first | exact ent_nilBy | exact ent_nilSl | (apply Ent.mem; repeat' (first | exact mcs | apply mct))))))); (intro _; exact rfl); (intro _; exact rfl))
  intro o6 _
  refine WL_letgoB (bs := F6) (by repeat' (first | exact Pick.head _ _ | apply Pick.tail)) rfl ?_
  repeat ((fail_if_success apply W_isIf); (first | refine n1 ?_ | refine n2 (fun b _ => ?_) | refine n3 (fun _ _ => ?_) | refine n4 ?_ | refine n5 ?_ | refine WL_nil ?_ | refine W_seq ?_ | refine W_region ?_ | refine n7 ?_ | refine n8 ?_ | refine W_block ?_ | refine W_skip ?_ | refine W_ret ?_ | refine W_exit ?_ | refine WQ_then ?_ | refine WQ_then_ret ?_ | refine WQ_then_exit ?_ | refine WQ_block_normal ?_ | refine WQ_block_ret ?_ | refine WQ_block_exit ?_ | refine n9 ?_))
  ((apply W_cutK (X := Value) [3] [0] (fun _ => True) (fun _ => [(3, .bool true)]) (fun p => [.blk by_ 45 [.int .u64 (x.bm : Int), .int .u16 (x.bi : Int), .int .u16 (x.bc : Int), p1_, .int .u16 (x.aa : Int), .int .u16 (x.as_ : Int), .int .u16 (x.ad : Int), p2_, .int .u16 (x.rc : Int), .int .u16 (x.rl : Int), bcell x.ro.a0, bcell x.ro.a1, bcell x.ro.a2, bcell x.ro.a3, bcell x.ro.a4, bcell x.ro.a5, p3_, .bool false, .int .u16 (x.pc : Int), .int .u16 (x.ps : Int), .int .i64 x.pa, p4_, .int .u16 (x.nc : Int), p5_, bcell x.c0, bcell x.c1, bcell x.c2, p, .int .i64 0, .int .i64 0, .int .i64 0, .int .i64 0, .int .u64 0]]) (fun p => [By p x.cd])); exact rfl; exact rfl; (intro _; exact rfl); (intro _; exact rfl); (intro _; exact rfl))
  · by_cases h0 : E6 = 0
    · obtain ⟨zd, z0, z1, z2, z3⟩ := hk6 h0
      subst zd
      subst z0
      subst z1
      subst z2
      subst z3
      repeat (first | refine n1 ?_ | refine n2 (fun b _ => ?_) | refine n3 (fun _ _ => ?_) | refine n4 ?_ | refine n5 ?_ | refine WL_nil ?_ | refine W_seq ?_ | refine W_region ?_ | refine n7 ?_ | refine n8 ?_ | refine W_block ?_ | refine W_skip ?_ | refine W_ret ?_ | refine W_exit ?_ | refine WQ_then ?_ | refine WQ_then_ret ?_ | refine WQ_then_exit ?_ | refine WQ_block_normal ?_ | refine WQ_block_ret ?_ | refine WQ_block_exit ?_ | refine n9 ?_)
      ((apply WQ_meet (o6)); (focus (first | trivial | omega | assumption | exact ⟨by omega, by omega⟩ | (simp; done))); (focus (repeat (first | exact FrIn.nil _ | (apply FrIn.cons; exact rfl; (first | exact rfl | (congr 1; first | omega | (dsimp only; omega)) | (simp; done)))))); (focus (repeat (first | exact SubO.nil _ | (apply SubO.cons; (focus (repeat' (first | exact Pick.head _ _ | apply Pick.tail))))))); (focus (repeat (first | exact AllE.nil _ | (apply AllE.cons; (focus (first | exact ent_nilBy | exact ent_nilSl | (apply Ent.mem; repeat' (first | exact mcs | apply mct)))))))))
    · repeat (first | refine n1 ?_ | refine n2 (fun b _ => ?_) | refine n3 (fun _ _ => ?_) | refine n4 ?_ | refine n5 ?_ | refine WL_nil ?_ | refine W_seq ?_ | refine W_region ?_ | refine n7 ?_ | refine n8 ?_ | refine W_block ?_ | refine W_skip ?_ | refine W_ret ?_ | refine W_exit ?_ | refine WQ_then ?_ | refine WQ_then_ret ?_ | refine WQ_then_exit ?_ | refine WQ_block_normal ?_ | refine WQ_block_ret ?_ | refine WQ_block_exit ?_ | refine n9 ?_)
      ((apply WQ_meet (x.cv)); (focus (first | trivial | omega | assumption | exact ⟨by omega, by omega⟩ | (simp; done))); (focus (repeat (first | exact FrIn.nil _ | (apply FrIn.cons; exact rfl; (first | exact rfl | (congr 1; first | omega | (dsimp only; omega)) | (simp; done)))))); (focus (repeat (first | exact SubO.nil _ | (apply SubO.cons; (focus (repeat' (first | exact Pick.head _ _ | apply Pick.tail))))))); (focus (repeat (first | exact AllE.nil _ | (apply AllE.cons; (focus (first | exact ent_nilBy | exact ent_nilSl | (apply Ent.mem; repeat' (first | exact mcs | apply mct)))))))))
  intro p6_ _
  clear en6 hk6 hd6
  have en7 := eBar_fn x.t0 x.t1
  have hk7 := fun h => bar_ok (t := x.t0) (f := x.t1) h
  have hd7 := fun v => dBar_fn v (baY x.t0 x.t1) (Nat.le_trans (baY_len _ _) (by decide))
  generalize z0I (bgE (baY x.t0 x.t1) 2) (twA (baY x.t0 x.t1) 0 % 8) = n7_0 at en7 hk7 hd7
  generalize z0I (bgE (baY x.t0 x.t1) 2) (twA (baY x.t0 x.t1) 0 / 16) = n7_1 at en7 hk7 hd7
  generalize bgE (baY x.t0 x.t1) 2 = D7 at en7 hk7 hd7
  generalize baY x.t0 x.t1 = Y7 at en7 hk7 hd7
  generalize stE x.t0 x.t1 = E7 at en7 hk7 hd7
  repeat (first | refine n1 ?_ | refine n2 (fun b _ => ?_) | refine n3 (fun _ _ => ?_) | refine n4 ?_ | refine n5 ?_ | refine WL_nil ?_ | refine W_seq ?_ | refine W_region ?_ | refine n7 ?_ | refine n8 ?_ | refine W_block ?_ | refine W_skip ?_ | refine W_ret ?_ | refine W_exit ?_ | refine WQ_then ?_ | refine WQ_then_ret ?_ | refine WQ_then_exit ?_ | refine WQ_block_normal ?_ | refine WQ_block_ret ?_ | refine WQ_block_exit ?_ | refine n9 ?_)
  (apply WL_effs; exact rfl; exact rfl; exact rfl; apply E_call; exact rfl; (intro _ _; simp); exact en7; (repeat (first | exact AllE.nil _ | (apply AllE.cons; (focus (first | exact ent_nilBy | exact ent_nilSl | (apply Ent.mem; repeat' (first | exact mcs | apply mct))))))); (intro _; exact rfl); (intro _; exact rfl))
  intro u7 _
  repeat ((fail_if_success apply W_isIf); (first | refine n1 ?_ | refine n2 (fun b _ => ?_) | refine n3 (fun _ _ => ?_) | refine n4 ?_ | refine n5 ?_ | refine n6 (hd7 u7) ?_ | refine n6v (hd7 u7) ?_ | refine WL_nil ?_ | refine W_seq ?_ | refine W_region ?_ | refine n7 ?_ | refine n8 ?_ | refine W_block ?_ | refine W_skip ?_ | refine W_ret ?_ | refine W_exit ?_ | refine WQ_then ?_ | refine WQ_then_ret ?_ | refine WQ_then_exit ?_ | refine WQ_block_normal ?_ | refine WQ_block_ret ?_ | refine WQ_block_exit ?_ | refine n9 ?_))
  ((apply W_cutK (X := Unit) [3] [0] (fun _ => True) (fun _ => [(3, .bool true)]) (fun _ => [.blk by_ 45 [.int .u64 (x.bm : Int), .int .u16 (x.bi : Int), .int .u16 (x.bc : Int), p1_, .int .u16 (x.aa : Int), .int .u16 (x.as_ : Int), .int .u16 (x.ad : Int), p2_, .int .u16 (x.rc : Int), .int .u16 (x.rl : Int), bcell x.ro.a0, bcell x.ro.a1, bcell x.ro.a2, bcell x.ro.a3, bcell x.ro.a4, bcell x.ro.a5, p3_, .bool false, .int .u16 (x.pc : Int), .int .u16 (x.ps : Int), .int .i64 x.pa, p4_, .int .u16 (x.nc : Int), p5_, bcell x.c0, bcell x.c1, bcell x.c2, p6_, .int .i64 x.t0, .int .i64 x.t1, .int .i64 0, .int .i64 0, .int .u64 0]]) (fun _ => [])); exact rfl; exact rfl; (intro _; exact rfl); (intro _; exact rfl); (intro _; exact rfl))
  · by_cases h0 : E7 = 0
    · obtain ⟨zd, z0, z1⟩ := hk7 h0
      subst zd
      subst z0
      subst z1
      repeat (first | refine n1 ?_ | refine n2 (fun b _ => ?_) | refine n3 (fun _ _ => ?_) | refine n4 ?_ | refine n5 ?_ | refine WL_nil ?_ | refine W_seq ?_ | refine W_region ?_ | refine n7 ?_ | refine n8 ?_ | refine W_block ?_ | refine W_skip ?_ | refine W_ret ?_ | refine W_exit ?_ | refine WQ_then ?_ | refine WQ_then_ret ?_ | refine WQ_then_exit ?_ | refine WQ_block_normal ?_ | refine WQ_block_ret ?_ | refine WQ_block_exit ?_ | refine n9 ?_)
      ((apply WQ_meet (())); (focus (first | trivial | omega | assumption | exact ⟨by omega, by omega⟩ | (simp; done))); (focus (repeat (first | exact FrIn.nil _ | (apply FrIn.cons; exact rfl; (first | exact rfl | (congr 1; first | omega | (dsimp only; omega)) | (simp; done)))))); (focus (repeat (first | exact SubO.nil _ | (apply SubO.cons; (focus (repeat' (first | exact Pick.head _ _ | apply Pick.tail))))))); (focus (repeat (first | exact AllE.nil _ | (apply AllE.cons; (focus (first | exact ent_nilBy | exact ent_nilSl | (apply Ent.mem; repeat' (first | exact mcs | apply mct)))))))))
    · repeat (first | refine n1 ?_ | refine n2 (fun b _ => ?_) | refine n3 (fun _ _ => ?_) | refine n4 ?_ | refine n5 ?_ | refine WL_nil ?_ | refine W_seq ?_ | refine W_region ?_ | refine n7 ?_ | refine n8 ?_ | refine W_block ?_ | refine W_skip ?_ | refine W_ret ?_ | refine W_exit ?_ | refine WQ_then ?_ | refine WQ_then_ret ?_ | refine WQ_then_exit ?_ | refine WQ_block_normal ?_ | refine WQ_block_ret ?_ | refine WQ_block_exit ?_ | refine n9 ?_)
      ((apply WQ_meet (())); (focus (first | trivial | omega | assumption | exact ⟨by omega, by omega⟩ | (simp; done))); (focus (repeat (first | exact FrIn.nil _ | (apply FrIn.cons; exact rfl; (first | exact rfl | (congr 1; first | omega | (dsimp only; omega)) | (simp; done)))))); (focus (repeat (first | exact SubO.nil _ | (apply SubO.cons; (focus (repeat' (first | exact Pick.head _ _ | apply Pick.tail))))))); (focus (repeat (first | exact AllE.nil _ | (apply AllE.cons; (focus (first | exact ent_nilBy | exact ent_nilSl | (apply Ent.mem; repeat' (first | exact mcs | apply mct)))))))))
  intro _ _
  clear en7 hk7 hd7
  have en8 := eBack_fn x.k0 x.k1 x.kb w12
  have hk8 := fun h => back_ok (t := x.k0) (f := x.k1) w12 h
  have hd8 := fun v => dBack_fn v (bkY x.k0 x.k1 x.kb) (Nat.le_trans (bkY_len _ _ _) (by decide))
  generalize z0I (bgE (bkY x.k0 x.k1 x.kb) 10) (twA (bkY x.k0 x.k1 x.kb) 0 % 8) = n8_0 at en8 hk8 hd8
  generalize z0I (bgE (bkY x.k0 x.k1 x.kb) 10) (twA (bkY x.k0 x.k1 x.kb) 0 / 16) = n8_1 at en8 hk8 hd8
  generalize z0 (bgE (bkY x.k0 x.k1 x.kb) 10) (e8 (bkY x.k0 x.k1 x.kb) 2) = n8_2 at en8 hk8 hd8
  generalize bgE (bkY x.k0 x.k1 x.kb) 10 = D8 at en8 hk8 hd8
  generalize bkY x.k0 x.k1 x.kb = Y8 at en8 hk8 hd8
  generalize stE x.k0 x.k1 = E8 at en8 hk8 hd8
  repeat (first | refine n1 ?_ | refine n2 (fun b _ => ?_) | refine n3 (fun _ _ => ?_) | refine n4 ?_ | refine n5 ?_ | refine WL_nil ?_ | refine W_seq ?_ | refine W_region ?_ | refine n7 ?_ | refine n8 ?_ | refine W_block ?_ | refine W_skip ?_ | refine W_ret ?_ | refine W_exit ?_ | refine WQ_then ?_ | refine WQ_then_ret ?_ | refine WQ_then_exit ?_ | refine WQ_block_normal ?_ | refine WQ_block_ret ?_ | refine WQ_block_exit ?_ | refine n9 ?_)
  (apply WL_effs; exact rfl; exact rfl; exact rfl; apply E_call; exact rfl; (intro _ _; simp); exact en8; (repeat (first | exact AllE.nil _ | (apply AllE.cons; (focus (first | exact ent_nilBy | exact ent_nilSl | (apply Ent.mem; repeat' (first | exact mcs | apply mct))))))); (intro _; exact rfl); (intro _; exact rfl))
  intro u8 _
  repeat ((fail_if_success apply W_isIf); (first | refine n1 ?_ | refine n2 (fun b _ => ?_) | refine n3 (fun _ _ => ?_) | refine n4 ?_ | refine n5 ?_ | refine n6 (hd8 u8) ?_ | refine n6v (hd8 u8) ?_ | refine WL_nil ?_ | refine W_seq ?_ | refine W_region ?_ | refine n7 ?_ | refine n8 ?_ | refine W_block ?_ | refine W_skip ?_ | refine W_ret ?_ | refine W_exit ?_ | refine WQ_then ?_ | refine WQ_then_ret ?_ | refine WQ_then_exit ?_ | refine WQ_block_normal ?_ | refine WQ_block_ret ?_ | refine WQ_block_exit ?_ | refine n9 ?_))
  ((apply W_cutK (X := Unit) [3] [0] (fun _ => True) (fun _ => [(3, .bool true)]) (fun _ => [.blk by_ 45 [.int .u64 (x.bm : Int), .int .u16 (x.bi : Int), .int .u16 (x.bc : Int), p1_, .int .u16 (x.aa : Int), .int .u16 (x.as_ : Int), .int .u16 (x.ad : Int), p2_, .int .u16 (x.rc : Int), .int .u16 (x.rl : Int), bcell x.ro.a0, bcell x.ro.a1, bcell x.ro.a2, bcell x.ro.a3, bcell x.ro.a4, bcell x.ro.a5, p3_, .bool false, .int .u16 (x.pc : Int), .int .u16 (x.ps : Int), .int .i64 x.pa, p4_, .int .u16 (x.nc : Int), p5_, bcell x.c0, bcell x.c1, bcell x.c2, p6_, .int .i64 x.t0, .int .i64 x.t1, .int .i64 x.k0, .int .i64 x.k1, .int .u64 (x.kb : Int)]]) (fun _ => [])); exact rfl; exact rfl; (intro _; exact rfl); (intro _; exact rfl); (intro _; exact rfl))
  · by_cases h0 : E8 = 0
    · obtain ⟨zd, z0, z1, z2⟩ := hk8 h0
      subst zd
      subst z0
      subst z1
      subst z2
      repeat (first | refine n1 ?_ | refine n2 (fun b _ => ?_) | refine n3 (fun _ _ => ?_) | refine n4 ?_ | refine n5 ?_ | refine WL_nil ?_ | refine W_seq ?_ | refine W_region ?_ | refine n7 ?_ | refine n8 ?_ | refine W_block ?_ | refine W_skip ?_ | refine W_ret ?_ | refine W_exit ?_ | refine WQ_then ?_ | refine WQ_then_ret ?_ | refine WQ_then_exit ?_ | refine WQ_block_normal ?_ | refine WQ_block_ret ?_ | refine WQ_block_exit ?_ | refine n9 ?_)
      ((apply WQ_meet (())); (focus (first | trivial | omega | assumption | exact ⟨by omega, by omega⟩ | (simp; done))); (focus (repeat (first | exact FrIn.nil _ | (apply FrIn.cons; exact rfl; (first | exact rfl | (congr 1; first | omega | (dsimp only; omega)) | (simp; done)))))); (focus (repeat (first | exact SubO.nil _ | (apply SubO.cons; (focus (repeat' (first | exact Pick.head _ _ | apply Pick.tail))))))); (focus (repeat (first | exact AllE.nil _ | (apply AllE.cons; (focus (first | exact ent_nilBy | exact ent_nilSl | (apply Ent.mem; repeat' (first | exact mcs | apply mct)))))))))
    · repeat (first | refine n1 ?_ | refine n2 (fun b _ => ?_) | refine n3 (fun _ _ => ?_) | refine n4 ?_ | refine n5 ?_ | refine WL_nil ?_ | refine W_seq ?_ | refine W_region ?_ | refine n7 ?_ | refine n8 ?_ | refine W_block ?_ | refine W_skip ?_ | refine W_ret ?_ | refine W_exit ?_ | refine WQ_then ?_ | refine WQ_then_ret ?_ | refine WQ_then_exit ?_ | refine WQ_block_normal ?_ | refine WQ_block_ret ?_ | refine WQ_block_exit ?_ | refine n9 ?_)
      ((apply WQ_meet (())); (focus (first | trivial | omega | assumption | exact ⟨by omega, by omega⟩ | (simp; done))); (focus (repeat (first | exact FrIn.nil _ | (apply FrIn.cons; exact rfl; (first | exact rfl | (congr 1; first | omega | (dsimp only; omega)) | (simp; done)))))); (focus (repeat (first | exact SubO.nil _ | (apply SubO.cons; (focus (repeat' (first | exact Pick.head _ _ | apply Pick.tail))))))); (focus (repeat (first | exact AllE.nil _ | (apply AllE.cons; (focus (first | exact ent_nilBy | exact ent_nilSl | (apply Ent.mem; repeat' (first | exact mcs | apply mct)))))))))
  intro _ _
  clear en8 hk8 hd8
  have heq := equal_fn x wa wi p1_ p2_ p3_ p4_ p5_ p6_ q1_ q2_ q3_ q4_ q5_ g1_.symm g2_.symm g3_.symm g4_.symm g5_.symm false
  simp only [List.cons_append, List.nil_append, All6.val, All6.cells, All6.facts] at heq
  repeat (first | refine n1 ?_ | refine n2 (fun b _ => ?_) | refine n3 (fun _ _ => ?_) | refine n4 ?_ | refine n5 ?_ | refine n6 (heq) ?_ | refine n6v (heq) ?_ | refine WL_nil ?_ | refine W_seq ?_ | refine W_region ?_ | refine n7 ?_ | refine n8 ?_ | refine W_block ?_ | refine W_skip ?_ | refine W_ret ?_ | refine W_exit ?_ | refine WQ_then ?_ | refine WQ_then_ret ?_ | refine WQ_then_exit ?_ | refine WQ_block_normal ?_ | refine WQ_block_ret ?_ | refine WQ_block_exit ?_ | refine n9 ?_)
  ((apply ret1 Try.results8 ( ())); (focus (first | trivial | assumption | omega)); (focus (first | exact RV_tmp rfl | (apply RV_cellN; exact rfl; (repeat' (first | exact Pick.head _ _ | apply Pick.tail)); (intro _; exact rfl); (intro _; exact rfl); exact rfl) | (apply RV_cell1; exact rfl; (repeat' (first | exact Pick.head _ _ | apply Pick.tail)); (intro _; exact rfl); exact rfl)));  (focus (first | exact rfl | (simp; done))); (focus (repeat (first | exact SubO.nil _ | (apply SubO.cons; (focus (repeat' (first | exact Pick.head _ _ | apply Pick.tail))))))); (focus (repeat (first | exact AllE.nil _ | (apply AllE.cons; (focus (first | exact ent_nilBy | exact ent_nilSl | (apply Ent.mem; repeat' (first | exact mcs | apply mct)))))))))
end Go.Proofs.Ytoohgnegoaoleaa
