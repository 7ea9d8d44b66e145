/-
  The program's write.
-/
import Derived.Test.YtahkcidnmdcaaaaVEt
namespace Go.Proofs.Ytahkcidnmdcaaaa
open Go Go.RowKit Go.Hs
attribute [local irreducible] WL W WQ PL Runs Effs AllE Ent SubO FrIn Pick OneC Ones CellsE PartsE SeqE UZ By Sl Pt Ct

structure WS where
  out : List UInt8
  ov : Value
  id : UInt8
def wY (b4 b11 : Nat) (y : WS) : List OA := [.blk b4 22 [y.ov], .row y.ov 5 1 y.out.length (y.out.map bcell), .blk b11 5 [bcell y.id]]
def wPre (y : WS) (b : Value × List UInt8) : Prop := b.2.length ≤ 255 ∧ y.out.length ≤ 130000000
def wStep (y : WS) (b : Value × List UInt8) (y' : WS) : Prop := y'.out = y.out ++ [y.id, UInt8.ofNat b.2.length] ++ b.2 ∧ y'.id = 254
def wInv (full : List UInt8) (c : List UInt8) (y : WS) : Prop := y.out ++ (y.id :: bod c.length c) = full ∧ full.length ≤ 130000000

def WriteCt (N : Nat) : Prop := ∀ (t : T) (v : Value), t.size < N → Sm t.er → Ct Try.prog 36 [v] [] [Rw 4 v t.len t.at_, t.tf]
    (X := Value) (fun _ => True) (fun x => .tuple #[x, .bool (fit t.er)]) (fun x => [.row x 5 1 (enc t.er).length ((enc t.er).map bcell)]) (fun _ => [])

set_option maxRecDepth 100000 in
set_option maxHeartbeats 8000000 in
theorem write_fn (N : Nat) : WriteCt N := by
  induction N with
  | zero => intro t v h; omega
  | succ N IH =>
    intro t v hN hsm
    have hE := hsm.enc_le
    have hlc := len_cnt t
    have hcn := hsm.1
    refine Ct_introM Try.func36 rfl Try.ntmps36 (by simp) _ rfl (fun w0 O0 => ?_)
    repeat (first | refine n1 ?_ | refine n2 (fun b _ => ?_) | refine n3 (fun _ _ => ?_) | refine n4 ?_ | refine n5 ?_ | refine WL_nil ?_ | refine W_seq ?_ | refine W_region ?_ | refine n7 ?_ | refine n8 ?_ | refine W_block ?_ | refine W_skip ?_ | refine W_ret ?_ | refine W_exit ?_ | refine WQ_then ?_ | refine WQ_then_ret ?_ | refine WQ_then_exit ?_ | refine WQ_block_normal ?_ | refine WQ_block_ret ?_ | refine WQ_block_exit ?_ | refine n9 ?_)
    obtain ⟨b4, rfl⟩ : ∃ b4, b4 = b := ⟨b, rfl⟩
    apply W_nilRow 5 1
    apply W_mark0
    ((apply W_loopKM (X := Nat × List UInt8 × Value × Bool × List Nat) (fun x => x.2.2.2.2) [15, 5] [0, 1, 2] (fun x => x.1 ≤ t.len ∧ x.2.1 ++ enc (t.drop x.1).er = enc t.er ∧ (x.2.2.2.1 && fit (t.drop x.1).er) = fit t.er) (fun x => [(15, .int .i64 (x.1 : Int)), (5, .bool x.2.2.2.1)]) (fun x => [pk (mkO x.2.2.2.2), .row x.2.2.1 5 1 x.2.1.length (x.2.1.map bcell), .blk b4 22 [x.2.2.1]]) (fun _ => []) (fun x => t.len - x.1) ((0, [], .slice none 0 0, true, []))); exact rfl; (focus exact ⟨Nat.zero_le _, rfl, rfl⟩); exact rfl; exact rfl; (intro _; exact rfl); (intro _; exact rfl); (intro _; exact rfl); (focus (repeat (first | exact FrIn.nil _ | (apply FrIn.cons; exact rfl; (first | exact rfl | (congr 1; first | omega | (dsimp only; omega)) | (simp; done)))))); (focus (repeat (first | exact SubO.nil _ | (apply SubO.cons; (focus (repeat' (first | exact Pick.head _ _ | apply Pick.tail))))))); (focus (repeat (first | exact AllE.nil _ | (apply AllE.cons; (focus (first | exact ent_nilBy | exact ent_nilSl | (apply Ent.mem; repeat' (first | exact mcs | apply mct)))))))); intro x hx)
    obtain ⟨k, out, ov, fb, Ds⟩ := x
    obtain ⟨hk, hi, hf⟩ := hx
    replace hk : k ≤ t.len := hk
    replace hi : out ++ enc (t.drop k).er = enc t.er := hi
    replace hf : (fb && fit (t.drop k).er) = fit t.er := hf
    dsimp only
    by_cases c0 : k < t.len
    · obtain ⟨id, ext, dv, data, sv, subs, next, e1⟩ := T.get c0
      have e2 : (t.drop k).er = .cons id ext data subs.er next.er := by rw [e1]; rfl
      rw [enc_drop e1, ← List.append_assoc] at hi
      rw [e2] at hf
      simp only [fit] at hf
      have a1 := T.at_cons e1
      have hin := inn_le hsm e1
      have hlt := T.drop_size e1
      have hcf := cont_fn id
      have hout : out.length ≤ 60000000 := by
        have := congrArg List.length hi
        simp only [List.length_append] at this
        omega
      refine W_ent (ent_tree (t := t) (by repeat' (first | exact mcs | apply mct)) e1).1 (W_ent (ent_tree (t := t) (by repeat' (first | exact mcs | apply mct)) e1).2.1 (W_ent (ent_tree (t := t) (by repeat' (first | exact mcs | apply mct)) e1).2.2 ?_))
      repeat (first | refine n1 ?_ | refine n2 (fun b _ => ?_) | refine n3 (fun _ _ => ?_) | refine n4 ?_ | refine n5 ?_ | refine n6 (hcf) ?_ | refine n6v (hcf) ?_ | refine WL_nil ?_ | refine W_seq ?_ | refine W_region ?_ | refine n7 ?_ | refine n8 ?_ | refine W_block ?_ | refine W_skip ?_ | refine W_ret ?_ | refine W_exit ?_ | refine WQ_then ?_ | refine WQ_then_ret ?_ | refine WQ_then_exit ?_ | refine WQ_block_normal ?_ | refine WQ_block_ret ?_ | refine WQ_block_exit ?_ | refine n9 ?_)
      ((apply W_cutKT (X := Value) [8, 5] [] (fun _ => True) (fun z => [(8, z), (5, .bool (fb && (! contB id || fit subs.er)))]) (fun _ => []) (fun z => [By z (inn id data (enc subs.er))])); exact rfl; exact rfl; (intro _; exact rfl); (intro _; exact rfl); (intro _; exact rfl))
      · cases c1 : contB id with
        | true =>
          rw [show inn id data (enc subs.er) = enc subs.er by rw [inn, c1]; rfl]
          repeat (first | refine n1 ?_ | refine n2 (fun b _ => ?_) | refine n3 (fun _ _ => ?_) | refine n4 ?_ | refine n5 ?_ | refine WL_nil ?_ | refine W_seq ?_ | refine W_region ?_ | refine n7 ?_ | refine n8 ?_ | refine W_block ?_ | refine W_skip ?_ | refine W_ret ?_ | refine W_exit ?_ | refine WQ_then ?_ | refine WQ_then_ret ?_ | refine WQ_then_exit ?_ | refine WQ_block_normal ?_ | refine WQ_block_ret ?_ | refine WQ_block_exit ?_ | refine n9 ?_)
          (apply WL_effs; exact rfl; exact rfl; exact rfl; apply E_call; exact rfl; (intro _ _; simp); (exact IH subs sv (by omega) (hsm.sub e1)); (repeat (first | exact AllE.nil _ | (apply AllE.cons; (focus (first | exact ent_nilBy | exact ent_nilSl | (apply Ent.mem; repeat' (first | exact mcs | apply mct))))))); (intro _; exact rfl); (intro _; exact rfl))
          intro z _
          refine WL_letgoB (v := z) (by repeat' (first | exact Pick.head _ _ | apply Pick.tail)) rfl ?_
          cases fb with
          | true =>
            repeat (first | refine n1 ?_ | refine n2 (fun b _ => ?_) | refine n3 (fun _ _ => ?_) | refine n4 ?_ | refine n5 ?_ | refine WL_nil ?_ | refine W_seq ?_ | refine W_region ?_ | refine n7 ?_ | refine n8 ?_ | refine W_block ?_ | refine W_skip ?_ | refine W_ret ?_ | refine W_exit ?_ | refine WQ_then ?_ | refine WQ_then_ret ?_ | refine WQ_then_exit ?_ | refine WQ_block_normal ?_ | refine WQ_block_ret ?_ | refine WQ_block_exit ?_ | refine n9 ?_)
            ((apply WQ_meet (z)); (focus (first | trivial | omega | assumption | exact ⟨by omega, by omega⟩ | (simp; done))); (focus (repeat (first | exact FrIn.nil _ | (apply FrIn.cons; exact rfl; (first | exact rfl | (congr 1; first | omega | (dsimp only; omega)) | (simp; done)))))); (focus (repeat (first | exact SubO.nil _ | (apply SubO.cons; (focus (repeat' (first | exact Pick.head _ _ | apply Pick.tail))))))); (focus (repeat (first | exact AllE.nil _ | (apply AllE.cons; (focus (first | exact ent_nilBy | exact ent_nilSl | (apply Ent.mem; repeat' (first | exact mcs | apply mct)))))))))
          | false =>
            repeat (first | refine n1 ?_ | refine n2 (fun b _ => ?_) | refine n3 (fun _ _ => ?_) | refine n4 ?_ | refine n5 ?_ | refine WL_nil ?_ | refine W_seq ?_ | refine W_region ?_ | refine n7 ?_ | refine n8 ?_ | refine W_block ?_ | refine W_skip ?_ | refine W_ret ?_ | refine W_exit ?_ | refine WQ_then ?_ | refine WQ_then_ret ?_ | refine WQ_then_exit ?_ | refine WQ_block_normal ?_ | refine WQ_block_ret ?_ | refine WQ_block_exit ?_ | refine n9 ?_)
            ((apply WQ_meet (z)); (focus (first | trivial | omega | assumption | exact ⟨by omega, by omega⟩ | (simp; done))); (focus (repeat (first | exact FrIn.nil _ | (apply FrIn.cons; exact rfl; (first | exact rfl | (congr 1; first | omega | (dsimp only; omega)) | (simp; done)))))); (focus (repeat (first | exact SubO.nil _ | (apply SubO.cons; (focus (repeat' (first | exact Pick.head _ _ | apply Pick.tail))))))); (focus (repeat (first | exact AllE.nil _ | (apply AllE.cons; (focus (first | exact ent_nilBy | exact ent_nilSl | (apply Ent.mem; repeat' (first | exact mcs | apply mct)))))))))
        | false =>
          rw [show inn id data (enc subs.er) = data by rw [inn, c1]; rfl]
          rw [show (fb && (!false || fit subs.er)) = fb by simp]
          repeat (first | refine n1 ?_ | refine n2 (fun b _ => ?_) | refine n3 (fun _ _ => ?_) | refine n4 ?_ | refine n5 ?_ | refine WL_nil ?_ | refine W_seq ?_ | refine W_region ?_ | refine n7 ?_ | refine n8 ?_ | refine W_block ?_ | refine W_skip ?_ | refine W_ret ?_ | refine W_exit ?_ | refine WQ_then ?_ | refine WQ_then_ret ?_ | refine WQ_then_exit ?_ | refine WQ_block_normal ?_ | refine WQ_block_ret ?_ | refine WQ_block_exit ?_ | refine n9 ?_)
          ((apply WQ_meet (dv)); (focus (first | trivial | omega | assumption | exact ⟨by omega, by omega⟩ | (simp; done))); (focus (repeat (first | exact FrIn.nil _ | (apply FrIn.cons; exact rfl; (first | exact rfl | (congr 1; first | omega | (dsimp only; omega)) | (simp; done)))))); (focus (repeat (first | exact SubO.nil _ | (apply SubO.cons; (focus (repeat' (first | exact Pick.head _ _ | apply Pick.tail))))))); (focus (repeat (first | exact AllE.nil _ | (apply AllE.cons; (focus (first | exact ent_nilBy | exact ent_nilSl | (apply Ent.mem; repeat' (first | exact mcs | apply mct)))))))))
      · intro z _
        ((apply W_cutK (X := Unit) [5] [] (fun _ => True) (fun _ => [(5, .bool (fb && (! contB id || fit subs.er) && decide ((inn id data (enc subs.er)).length ≤ 1024)))]) (fun _ => []) (fun _ => [])); exact rfl; exact rfl; (intro _; exact rfl); (intro _; exact rfl); (intro _; exact rfl))
        · generalize (fb && (! contB id || fit subs.er)) = f1
          cases f1 with
          | true =>
            by_cases c2 : (inn id data (enc subs.er)).length ≤ 1024
            · rw [decide_eq_true c2]
              repeat (first | refine n1 ?_ | refine n2 (fun b _ => ?_) | refine n3 (fun _ _ => ?_) | refine n4 ?_ | refine n5 ?_ | refine WL_nil ?_ | refine W_seq ?_ | refine W_region ?_ | refine n7 ?_ | refine n8 ?_ | refine W_block ?_ | refine W_skip ?_ | refine W_ret ?_ | refine W_exit ?_ | refine WQ_then ?_ | refine WQ_then_ret ?_ | refine WQ_then_exit ?_ | refine WQ_block_normal ?_ | refine WQ_block_ret ?_ | refine WQ_block_exit ?_ | refine n9 ?_)
              ((apply WQ_meet (())); (focus (first | trivial | omega | assumption | exact ⟨by omega, by omega⟩ | (simp; done))); (focus (repeat (first | exact FrIn.nil _ | (apply FrIn.cons; exact rfl; (first | exact rfl | (congr 1; first | omega | (dsimp only; omega)) | (simp; done)))))); (focus (repeat (first | exact SubO.nil _ | (apply SubO.cons; (focus (repeat' (first | exact Pick.head _ _ | apply Pick.tail))))))); (focus (repeat (first | exact AllE.nil _ | (apply AllE.cons; (focus (first | exact ent_nilBy | exact ent_nilSl | (apply Ent.mem; repeat' (first | exact mcs | apply mct)))))))))
            · rw [decide_eq_false c2]
              repeat (first | refine n1 ?_ | refine n2 (fun b _ => ?_) | refine n3 (fun _ _ => ?_) | refine n4 ?_ | refine n5 ?_ | refine WL_nil ?_ | refine W_seq ?_ | refine W_region ?_ | refine n7 ?_ | refine n8 ?_ | refine W_block ?_ | refine W_skip ?_ | refine W_ret ?_ | refine W_exit ?_ | refine WQ_then ?_ | refine WQ_then_ret ?_ | refine WQ_then_exit ?_ | refine WQ_block_normal ?_ | refine WQ_block_ret ?_ | refine WQ_block_exit ?_ | refine n9 ?_)
              ((apply WQ_meet (())); (focus (first | trivial | omega | assumption | exact ⟨by omega, by omega⟩ | (simp; done))); (focus (repeat (first | exact FrIn.nil _ | (apply FrIn.cons; exact rfl; (first | exact rfl | (congr 1; first | omega | (dsimp only; omega)) | (simp; done)))))); (focus (repeat (first | exact SubO.nil _ | (apply SubO.cons; (focus (repeat' (first | exact Pick.head _ _ | apply Pick.tail))))))); (focus (repeat (first | exact AllE.nil _ | (apply AllE.cons; (focus (first | exact ent_nilBy | exact ent_nilSl | (apply Ent.mem; repeat' (first | exact mcs | apply mct)))))))))
          | false =>
            repeat (first | refine n1 ?_ | refine n2 (fun b _ => ?_) | refine n3 (fun _ _ => ?_) | refine n4 ?_ | refine n5 ?_ | refine WL_nil ?_ | refine W_seq ?_ | refine W_region ?_ | refine n7 ?_ | refine n8 ?_ | refine W_block ?_ | refine W_skip ?_ | refine W_ret ?_ | refine W_exit ?_ | refine WQ_then ?_ | refine WQ_then_ret ?_ | refine WQ_then_exit ?_ | refine WQ_block_normal ?_ | refine WQ_block_ret ?_ | refine WQ_block_exit ?_ | refine n9 ?_)
            ((apply WQ_meet (())); (focus (first | trivial | omega | assumption | exact ⟨by omega, by omega⟩ | (simp; done))); (focus (repeat (first | exact FrIn.nil _ | (apply FrIn.cons; exact rfl; (first | exact rfl | (congr 1; first | omega | (dsimp only; omega)) | (simp; done)))))); (focus (repeat (first | exact SubO.nil _ | (apply SubO.cons; (focus (repeat' (first | exact Pick.head _ _ | apply Pick.tail))))))); (focus (repeat (first | exact AllE.nil _ | (apply AllE.cons; (focus (first | exact ent_nilBy | exact ent_nilSl | (apply Ent.mem; repeat' (first | exact mcs | apply mct)))))))))
        · intro _ _
          repeat (first | refine n1 ?_ | refine n2 (fun b _ => ?_) | refine n3 (fun _ _ => ?_) | refine n4 ?_ | refine n5 ?_ | refine WL_nil ?_ | refine W_seq ?_ | refine W_region ?_ | refine n7 ?_ | refine n8 ?_ | refine W_block ?_ | refine W_skip ?_ | refine W_ret ?_ | refine W_exit ?_ | refine WQ_then ?_ | refine WQ_then_ret ?_ | refine WQ_then_exit ?_ | refine WQ_block_normal ?_ | refine WQ_block_ret ?_ | refine WQ_block_exit ?_ | refine n9 ?_)
          ((apply W_cutKT (X := Value) [8] [] (fun _ => True) (fun q => [(8, q)]) (fun _ => []) (fun q => [By q (withX id ext (inn id data (enc subs.er)))])); exact rfl; exact rfl; (intro _; exact rfl); (intro _; exact rfl); (intro _; exact rfl))
          · refine W_cond_d (p := (id.toNat : Int) = 255) rfl (fun h => ?_) (fun h => ?_)
            · have hw : withX id ext (inn id data (enc subs.er)) = ext :: inn id data (enc subs.er) := if_pos ((u8is (n := 255) (by decide)).2 (by omega))
              rw [hw]
              have l1 : 1 + (inn id data (enc subs.er)).length = (ext :: inn id data (enc subs.er)).length := by rw [List.length_cons, Nat.add_comm]
              repeat (first | refine n1 ?_ | refine n2 (fun b _ => ?_) | refine n3 (fun _ _ => ?_) | refine n4 ?_ | refine n5 ?_ | refine WL_nil ?_ | refine W_seq ?_ | refine W_region ?_ | refine n7 ?_ | refine n8 ?_ | refine W_block ?_ | refine W_skip ?_ | refine W_ret ?_ | refine W_exit ?_ | refine WQ_then ?_ | refine WQ_then_ret ?_ | refine WQ_then_exit ?_ | refine WQ_block_normal ?_ | refine WQ_block_ret ?_ | refine WQ_block_exit ?_ | refine n9 ?_)
              (apply WL_effs; exact rfl; exact rfl; exact rfl; (apply E_buildSlice; exact rfl; (focus (repeat (first | apply SeqE.nil | (apply SeqE.cons; exact rfl; (focus (first | (apply CellsE.lit; exact rfl) | (apply CellsE.one; (first | (apply OneC.lit; exact rfl) | (apply OneC.by_; (repeat' (first | exact mcs | apply mct)); done) | (apply OneC.sl; (repeat' (first | exact mcs | apply mct)); done) | (apply OneC.rw; (repeat' (first | exact mcs | apply mct)); done) | (apply OneC.row; (repeat' (first | exact Pick.head _ _ | apply Pick.tail))))))); exact rfl) | exact rfl))); exact rfl; (first | (intro _; exact (rfl : _ = Result.ok 1 _)) | (intro _; exact (rfl : _ = Result.ok 2 _)) | (intro _; exact (rfl : _ = Result.ok 3 _)) | (intro _; exact (rfl : _ = Result.ok 4 _)) | (intro _; exact (rfl : _ = Result.ok 5 _)) | (intro _; exact (rfl : _ = Result.ok 6 _)) | (intro _; exact (rfl : _ = Result.ok 7 _)) | (intro _; exact (rfl : _ = Result.ok 8 _)) | (intro _; exact (rfl : _ = Result.ok 9 _)) | (intro _; exact (rfl : _ = Result.ok 13 _)) | (intro _; exact (rfl : _ = Result.ok 14 _)) | (intro _; exact (rfl : _ = Result.ok 26 _)) | (intro _; exact (rfl : _ = Result.ok 40 _)) | (intro _; exact (rfl : _ = Result.ok 41 _)) | (intro _; exact (rfl : _ = Result.ok 42 _)) | (intro _; exact (rfl : _ = Result.ok 43 _)) | (intro _; exact (rfl : _ = Result.ok 44 _)) | (intro _; exact (rfl : _ = Result.ok 45 _)) | (intro _; exact (rfl : _ = Result.ok 46 _))); (intro _; exact rfl); exact rfl; exact Nat.le_of_ble_eq_true rfl; exact Nat.le_of_ble_eq_true rfl); skip)
              intro q1 _
              repeat (first | refine n1 ?_ | refine n2 (fun b _ => ?_) | refine n3 (fun _ _ => ?_) | refine n4 ?_ | refine n5 ?_ | refine WL_nil ?_ | refine W_seq ?_ | refine W_region ?_ | refine n7 ?_ | refine n8 ?_ | refine W_block ?_ | refine W_skip ?_ | refine W_ret ?_ | refine W_exit ?_ | refine WQ_then ?_ | refine WQ_then_ret ?_ | refine WQ_then_exit ?_ | refine WQ_block_normal ?_ | refine WQ_block_ret ?_ | refine WQ_block_exit ?_ | refine n9 ?_)
              refine WL_effs rfl rfl rfl (E_appendBy (bs := [ext]) rfl rfl (by repeat' (first | exact Pick.head _ _ | apply Pick.tail)) (by repeat' (first | exact mcs | apply mct)) rfl rfl rfl rfl rfl rfl (Nat.le_of_ble_eq_true rfl) (by omega) l1 rfl) ?_
              intro c3 _
              refine WL_letgoB (v := c3) (by repeat' (first | exact Pick.head _ _ | apply Pick.tail)) rfl ?_
              repeat (first | refine n1 ?_ | refine n2 (fun b _ => ?_) | refine n3 (fun _ _ => ?_) | refine n4 ?_ | refine n5 ?_ | refine WL_nil ?_ | refine W_seq ?_ | refine W_region ?_ | refine n7 ?_ | refine n8 ?_ | refine W_block ?_ | refine W_skip ?_ | refine W_ret ?_ | refine W_exit ?_ | refine WQ_then ?_ | refine WQ_then_ret ?_ | refine WQ_then_exit ?_ | refine WQ_block_normal ?_ | refine WQ_block_ret ?_ | refine WQ_block_exit ?_ | refine n9 ?_)
              ((apply WQ_meet (c3)); (focus (first | trivial | omega | assumption | exact ⟨by omega, by omega⟩ | (simp; done))); (focus (repeat (first | exact FrIn.nil _ | (apply FrIn.cons; exact rfl; (first | exact rfl | (congr 1; first | omega | (dsimp only; omega)) | (simp; done)))))); (focus (repeat (first | exact SubO.nil _ | (apply SubO.cons; (focus (repeat' (first | exact Pick.head _ _ | apply Pick.tail))))))); (focus (repeat (first | exact AllE.nil _ | (apply AllE.cons; (focus (first | exact ent_nilBy | exact ent_nilSl | (apply Ent.mem; repeat' (first | exact mcs | apply mct)))))))))
            · have hw : withX id ext (inn id data (enc subs.er)) = inn id data (enc subs.er) := if_neg (fun h' => h (by rw [h']; rfl))
              rw [hw]
              repeat (first | refine n1 ?_ | refine n2 (fun b _ => ?_) | refine n3 (fun _ _ => ?_) | refine n4 ?_ | refine n5 ?_ | refine WL_nil ?_ | refine W_seq ?_ | refine W_region ?_ | refine n7 ?_ | refine n8 ?_ | refine W_block ?_ | refine W_skip ?_ | refine W_ret ?_ | refine W_exit ?_ | refine WQ_then ?_ | refine WQ_then_ret ?_ | refine WQ_then_exit ?_ | refine WQ_block_normal ?_ | refine WQ_block_ret ?_ | refine WQ_block_exit ?_ | refine n9 ?_)
              ((apply WQ_meet (z)); (focus (first | trivial | omega | assumption | exact ⟨by omega, by omega⟩ | (simp; done))); (focus (repeat (first | exact FrIn.nil _ | (apply FrIn.cons; exact rfl; (first | exact rfl | (congr 1; first | omega | (dsimp only; omega)) | (simp; done)))))); (focus (repeat (first | exact SubO.nil _ | (apply SubO.cons; (focus (repeat' (first | exact Pick.head _ _ | apply Pick.tail))))))); (focus (repeat (first | exact AllE.nil _ | (apply AllE.cons; (focus (first | exact ent_nilBy | exact ent_nilSl | (apply Ent.mem; repeat' (first | exact mcs | apply mct)))))))))
          · intro cv _
            have hwl : (withX id ext (inn id data (enc subs.er))).length ≤ 60000001 := by
              unfold withX
              split
              · simp only [List.length_cons]; omega
              · omega
            generalize hc : withX id ext (inn id data (enc subs.er)) = c at hi hwl ⊢
            generalize hf2 : (fb && (! contB id || fit subs.er) && decide ((inn id data (enc subs.er)).length ≤ 1024)) = f2
            have hf' : (f2 && fit (t.drop (k + 1)).er) = fit t.er := by
              rw [T.drop_next e1, ← hf2, ← hf]
              cases fb <;> cases contB id <;> cases fit subs.er <;> cases decide ((inn id data (enc subs.er)).length ≤ 1024) <;> simp
            have hfull : (out ++ (id :: bod c.length c)).length ≤ 130000000 := by
              have h1 := congrArg List.length hi
              simp only [List.length_append] at h1 ⊢
              omega
            repeat (first | refine n1 ?_ | refine n2 (fun b _ => ?_) | refine n3 (fun _ _ => ?_) | refine n4 ?_ | refine n5 ?_ | refine WL_nil ?_ | refine W_seq ?_ | refine W_region ?_ | refine n7 ?_ | refine n8 ?_ | refine W_block ?_ | refine W_skip ?_ | refine W_ret ?_ | refine W_exit ?_ | refine WQ_then ?_ | refine WQ_then_ret ?_ | refine WQ_then_exit ?_ | refine WQ_block_normal ?_ | refine WQ_block_ret ?_ | refine WQ_block_exit ?_ | refine n9 ?_)
            obtain ⟨b11, rfl⟩ : ∃ b11, b11 = b := ⟨b, rfl⟩
            (apply WL_effs; exact rfl; exact rfl; exact rfl; apply E_call; exact rfl; (intro _ _; simp); exact parts_fn cv c; (repeat (first | exact AllE.nil _ | (apply AllE.cons; (focus (first | exact ent_nilBy | exact ent_nilSl | (apply Ent.mem; repeat' (first | exact mcs | apply mct))))))); (intro _; exact rfl); (intro _; exact rfl))
            intro bp _
            repeat (first | refine n1 ?_ | refine n2 (fun b _ => ?_) | refine n3 (fun _ _ => ?_) | refine n4 ?_ | refine n5 ?_ | refine WL_nil ?_ | refine W_seq ?_ | refine W_region ?_ | refine n7 ?_ | refine n8 ?_ | refine W_block ?_ | refine W_skip ?_ | refine W_ret ?_ | refine W_exit ?_ | refine WQ_then ?_ | refine WQ_then_ret ?_ | refine WQ_then_exit ?_ | refine WQ_block_normal ?_ | refine WQ_block_ret ?_ | refine WQ_block_exit ?_ | refine n9 ?_)
            refine W_weak [(52, .func (.func 59) #[] #[.pointer (some ⟨bp, 0, none⟩)]), (4, .pointer (some ⟨b4, 0, none⟩)), (11, .pointer (some ⟨b11, 0, none⟩)), (5, .bool f2), (13, v), (14, .int .i64 (t.len : Int)), (15, .int .i64 (k : Int)), (3, .bool false), (2, .slice none 0 0), (0, v)]
              ([.blk bp 22 [cv]] ++ (wY b4 b11 ⟨out, ov, id⟩ ++ [pk (mkO Ds)])) [By cv c, Rw 4 v t.len t.at_, t.tf] (by repeat (first | exact FrIn.nil _ | (apply FrIn.cons; exact rfl; (first | exact rfl | (congr 1; first | omega | (dsimp only; omega)) | (simp; done))))) (by (repeat (first | exact SubO.nil _ | (apply SubO.cons; (focus (repeat' (first | exact Pick.head _ _ | apply Pick.tail))))))) (by (repeat (first | exact AllE.nil _ | (apply AllE.cons; (focus (first | exact ent_nilBy | exact ent_nilSl | (apply Ent.mem; repeat' (first | exact mcs | apply mct)))))))) ?_
            refine W_rangeFunc (α := WS) (β := Value × List UInt8) (wY b4 b11) (fun _ => []) (fun _ => none) ⟨out, ov, id⟩ (fun b => b.1) (fun b => [By b.1 b.2]) wPre wStep
              (fun b => [(12, b.1), (4, .pointer (some ⟨b4, 0, none⟩)), (11, .pointer (some ⟨b11, 0, none⟩))])
              (Γi := [.blk bp 22 [cv]]) (Γr := [pk (mkO Ds)]) (Φi := [By cv c])
              (X := WS) (pf := fun x => ∃ c' y v, wInv (out ++ (id :: bod c.length c)) c' y ∧ c'.length < 255 ∧ wStep y (v, c') x) (ret := fun _ => .tuple #[]) (yx := fun x => x) (Γ' := fun _ => []) (Φ' := fun _ => [])
              rfl (by intro _ _; simp) rfl (.refl _) (by (repeat (first | exact AllE.nil _ | (apply AllE.cons; (focus (first | exact ent_nilBy | exact ent_nilSl | (apply Ent.mem; repeat' (first | exact mcs | apply mct)))))))) (by (repeat (first | exact AllE.nil _ | (apply AllE.cons; (focus (first | exact ent_nilBy | exact ent_nilSl | (apply Ent.mem; repeat' (first | exact mcs | apply mct)))))))) rfl ?_ ?_ ?_ ?_ ?_
            · intro y b hb
              rfl
            · intro l y b hb w0 O0 M o
              repeat (first | refine n1 ?_ | refine n2 (fun b _ => ?_) | refine n3 (fun _ _ => ?_) | refine n4 ?_ | refine n5 ?_ | refine WL_nil ?_ | refine W_seq ?_ | refine W_region ?_ | refine n7 ?_ | refine n8 ?_ | refine W_block ?_ | refine W_skip ?_ | refine W_ret ?_ | refine W_exit ?_ | refine WQ_then ?_ | refine WQ_then_ret ?_ | refine WQ_then_exit ?_ | refine WQ_block_normal ?_ | refine WQ_block_ret ?_ | refine WQ_block_exit ?_ | refine n9 ?_)
              exact WQ_assign (by repeat (first | exact FrIn.nil _ | (apply FrIn.cons; exact rfl; (first | exact rfl | (congr 1; first | omega | (dsimp only; omega)) | (simp; done))))) (by (repeat (first | exact SubO.nil _ | (apply SubO.cons; (focus (repeat' (first | exact Pick.head _ _ | apply Pick.tail))))))) (by (repeat (first | exact AllE.nil _ | (apply AllE.cons; (focus (first | exact ent_nilBy | exact ent_nilSl | (apply Ent.mem; repeat' (first | exact mcs | apply mct))))))))
            · intro l y b hb w0 O0 M o
              obtain ⟨u, uv, i2⟩ := y
              obtain ⟨pv, p⟩ := b
              obtain ⟨h1, h2⟩ := hb
              replace h1 : p.length ≤ 255 := h1
              replace h2 : u.length ≤ 130000000 := h2
              dsimp only [wY, List.cons_append, List.nil_append]
              repeat (first | refine n1 ?_ | refine n2 (fun b _ => ?_) | refine n3 (fun _ _ => ?_) | refine n4 ?_ | refine n5 ?_ | refine WL_nil ?_ | refine W_seq ?_ | refine W_region ?_ | refine n7 ?_ | refine n8 ?_ | refine W_block ?_ | refine W_skip ?_ | refine W_ret ?_ | refine W_exit ?_ | refine WQ_then ?_ | refine WQ_then_ret ?_ | refine WQ_then_exit ?_ | refine WQ_block_normal ?_ | refine WQ_block_ret ?_ | refine WQ_block_exit ?_ | refine n9 ?_)
              (apply WL_effs; exact rfl; exact rfl; exact rfl; (apply E_buildSlice; exact rfl; (focus (repeat (first | apply SeqE.nil | (apply SeqE.cons; exact rfl; (focus (first | (apply CellsE.lit; exact rfl) | (apply CellsE.one; (first | (apply OneC.lit; exact rfl) | (apply OneC.by_; (repeat' (first | exact mcs | apply mct)); done) | (apply OneC.sl; (repeat' (first | exact mcs | apply mct)); done) | (apply OneC.rw; (repeat' (first | exact mcs | apply mct)); done) | (apply OneC.row; (repeat' (first | exact Pick.head _ _ | apply Pick.tail))))))); exact rfl) | exact rfl))); exact rfl; (first | (intro _; exact (rfl : _ = Result.ok 1 _)) | (intro _; exact (rfl : _ = Result.ok 2 _)) | (intro _; exact (rfl : _ = Result.ok 3 _)) | (intro _; exact (rfl : _ = Result.ok 4 _)) | (intro _; exact (rfl : _ = Result.ok 5 _)) | (intro _; exact (rfl : _ = Result.ok 6 _)) | (intro _; exact (rfl : _ = Result.ok 7 _)) | (intro _; exact (rfl : _ = Result.ok 8 _)) | (intro _; exact (rfl : _ = Result.ok 9 _)) | (intro _; exact (rfl : _ = Result.ok 13 _)) | (intro _; exact (rfl : _ = Result.ok 14 _)) | (intro _; exact (rfl : _ = Result.ok 26 _)) | (intro _; exact (rfl : _ = Result.ok 40 _)) | (intro _; exact (rfl : _ = Result.ok 41 _)) | (intro _; exact (rfl : _ = Result.ok 42 _)) | (intro _; exact (rfl : _ = Result.ok 43 _)) | (intro _; exact (rfl : _ = Result.ok 44 _)) | (intro _; exact (rfl : _ = Result.ok 45 _)) | (intro _; exact (rfl : _ = Result.ok 46 _))); (intro _; exact rfl); exact rfl; exact Nat.le_of_ble_eq_true rfl; exact Nat.le_of_ble_eq_true rfl); skip)
              intro q1 _
              have l1 : u.length + 2 = (u ++ [i2, UInt8.ofNat p.length]).length := by simp
              have l2 : (u ++ [i2, UInt8.ofNat p.length]).length + p.length = (u ++ [i2, UInt8.ofNat p.length] ++ p).length := by simp only [List.length_append]
              have l3 : (u ++ [i2, UInt8.ofNat p.length]).length + p.length ≤ 140000000 := by simp only [List.length_append, List.length_cons, List.length_nil]; omega
              have cc : [bcell i2, Value.int .u8 (p.length : Int)] = [i2, UInt8.ofNat p.length].map bcell := by
                simp only [List.map_cons, List.map_nil, bcell, UInt8.toNat_ofNat']
                rw [Nat.mod_eq_of_lt (by omega)]
              refine WL_effs rfl rfl rfl (E_appendRowB (bs := u) (news := [i2, UInt8.ofNat p.length]) rfl rfl (by repeat' (first | exact Pick.head _ _ | apply Pick.tail)) (by repeat' (first | exact Pick.head _ _ | apply Pick.tail)) rfl cc rfl rfl rfl rfl rfl (Nat.le_of_ble_eq_true rfl) (by omega) l1 rfl) ?_
              intro o2 _
              repeat (first | refine n1 ?_ | refine n2 (fun b _ => ?_) | refine n3 (fun _ _ => ?_) | refine n4 ?_ | refine n5 ?_ | refine WL_nil ?_ | refine W_seq ?_ | refine W_region ?_ | refine n7 ?_ | refine n8 ?_ | refine W_block ?_ | refine W_skip ?_ | refine W_ret ?_ | refine W_exit ?_ | refine WQ_then ?_ | refine WQ_then_ret ?_ | refine WQ_then_exit ?_ | refine WQ_block_normal ?_ | refine WQ_block_ret ?_ | refine WQ_block_exit ?_ | refine n9 ?_)
              refine WL_effs rfl rfl rfl (E_appendBy (bs := u ++ [i2, UInt8.ofNat p.length]) rfl rfl (by repeat' (first | exact Pick.head _ _ | apply Pick.tail)) (by repeat' (first | exact mcs | apply mct)) rfl rfl rfl rfl rfl rfl (Nat.le_of_ble_eq_true rfl) (by omega) l2 rfl) ?_
              intro o3 _
              refine WL_do rfl rfl (E_store (us := [o3]) rfl rfl (by repeat' (first | exact Pick.head _ _ | apply Pick.tail)) (CellsE.one (OneC.row (by repeat' (first | exact Pick.head _ _ | apply Pick.tail)))) (by intro _; rfl) (Ones.cons (OneC.row (by repeat' (first | exact Pick.head _ _ | apply Pick.tail))) Ones.nil) rfl) ?_
              intro _ _
              repeat (first | refine n1 ?_ | refine n2 (fun b _ => ?_) | refine n3 (fun _ _ => ?_) | refine n4 ?_ | refine n5 ?_ | refine WL_nil ?_ | refine W_seq ?_ | refine W_region ?_ | refine n7 ?_ | refine n8 ?_ | refine W_block ?_ | refine W_skip ?_ | refine W_ret ?_ | refine W_exit ?_ | refine WQ_then ?_ | refine WQ_then_ret ?_ | refine WQ_then_exit ?_ | refine WQ_block_normal ?_ | refine WQ_block_ret ?_ | refine WQ_block_exit ?_ | refine n9 ?_)
              exact WQ_round ⟨u ++ [i2, UInt8.ofNat p.length] ++ p, o3, 254⟩ ⟨rfl, rfl⟩ rfl (by (repeat (first | exact SubO.nil _ | (apply SubO.cons; (focus (repeat' (first | exact Pick.head _ _ | apply Pick.tail))))))) (by (repeat (first | exact AllE.nil _ | (apply AllE.cons; (focus (first | exact ent_nilBy | exact ent_nilSl | (apply Ent.mem; repeat' (first | exact mcs | apply mct))))))))
            · intro l YO YS hY
              exact piter_fn l bp cv c (by omega) YO YS (wInv (out ++ (id :: bod c.length c))) ⟨out, ov, id⟩ ⟨rfl, hfull⟩ wStep wPre
                (fun c' y v ⟨h1, h2⟩ h3 => ⟨by rw [List.length_take]; omega, by rw [← h1] at h2; simp only [List.length_append] at h2; omega⟩)
                (fun c' y v ⟨h1, h2⟩ h3 => ⟨by show c'.length ≤ 255; omega, by rw [← h1] at h2; simp only [List.length_append] at h2; omega⟩)
                (fun c' y v y' ⟨h1, h2⟩ h3 ⟨h4, h5⟩ => ⟨by
                  rw [h4, h5, ← h1, bod_big h3]
                  have : (c'.take 255).length = 255 := by rw [List.length_take]; omega
                  simp [this], h2⟩) hY
            · intro D x hx
              obtain ⟨c', y, pv, ⟨h1, h2⟩, h3, h4, h5⟩ := hx
              refine ⟨fun _ => ?_, fun c hc => by cases hc⟩
              dsimp only [wY, List.cons_append, List.nil_append]
              refine WQ_mark (x := ob D (.deferred (some []))) (Δ := mkO Ds) (by repeat' (first | exact Pick.head _ _ | apply Pick.tail)) (by repeat' (first | exact Pick.head _ _ | apply Pick.tail)) ?_
              have hn' : x.out ++ enc (t.drop (k + 1)).er = enc t.er := by
                rw [← hi, h4, ← h1, bod_small h3]
                simp
              repeat (first | refine n1 ?_ | refine n2 (fun b _ => ?_) | refine n3 (fun _ _ => ?_) | refine n4 ?_ | refine n5 ?_ | refine WL_nil ?_ | refine W_seq ?_ | refine W_region ?_ | refine n7 ?_ | refine n8 ?_ | refine W_block ?_ | refine W_skip ?_ | refine W_ret ?_ | refine W_exit ?_ | refine WQ_then ?_ | refine WQ_then_ret ?_ | refine WQ_then_exit ?_ | refine WQ_block_normal ?_ | refine WQ_block_ret ?_ | refine WQ_block_exit ?_ | refine n9 ?_)
              ((apply WQ_againM ((k + 1, x.out, x.ov, f2, D :: Ds))); exact rfl; (focus exact ⟨c0, hn', hf'⟩); (focus (omega)); (focus (repeat (first | exact FrIn.nil _ | (apply FrIn.cons; exact rfl; (first | exact rfl | (congr 1; first | omega | (dsimp only; omega)) | (simp; done)))))); (focus (repeat (first | exact SubO.nil _ | (apply SubO.cons; (focus (repeat' (first | exact Pick.head _ _ | apply Pick.tail))))))); (focus (repeat (first | exact AllE.nil _ | (apply AllE.cons; (focus (first | exact ent_nilBy | exact ent_nilSl | (apply Ent.mem; repeat' (first | exact mcs | apply mct)))))))))
    · rw [drop_end (by omega)] at hi hf
      obtain rfl : out = enc t.er := by simpa [T.er, enc] using hi
      obtain rfl : fb = fit t.er := by simpa [T.er, fit] using hf
      repeat (first | refine n1 ?_ | refine n2 (fun b _ => ?_) | refine n3 (fun _ _ => ?_) | refine n4 ?_ | refine n5 ?_ | refine WL_nil ?_ | refine W_seq ?_ | refine W_region ?_ | refine n7 ?_ | refine n8 ?_ | refine W_block ?_ | refine W_skip ?_ | refine W_ret ?_ | refine W_exit ?_ | refine WQ_then ?_ | refine WQ_then_ret ?_ | refine WQ_then_exit ?_ | refine WQ_block_normal ?_ | refine WQ_block_ret ?_ | refine WQ_block_exit ?_ | refine n9 ?_)
      exact ret2Ms Ds Try.results36 ov trivial (by repeat' (first | exact Pick.head _ _ | apply Pick.tail)) (RV_tmp rfl) (RV_tmp rfl) rfl (by (repeat (first | exact SubO.nil _ | (apply SubO.cons; (focus (repeat' (first | exact Pick.head _ _ | apply Pick.tail))))))) (by (repeat (first | exact AllE.nil _ | (apply AllE.cons; (focus (first | exact ent_nilBy | exact ent_nilSl | (apply Ent.mem; repeat' (first | exact mcs | apply mct))))))))
end Go.Proofs.Ytahkcidnmdcaaaa
