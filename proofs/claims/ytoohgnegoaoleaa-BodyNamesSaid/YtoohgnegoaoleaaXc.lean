/-
  Rules for walks, merged.
-/
import Derived.Test.YtoohgnegoaoleaaXb
import Derived.DeepKeys
import Derived.Lib.AppendZerosOnto
import Derived.Test.YtoohgnegoaoleaaRows
/-
  The reference's Bytes, long, Check, Encode.
-/
namespace Go.Proofs.Ytoohgnegoaoleaa.C04
open Go Go.RowKit Go.Hs
attribute [local irreducible] WL W WQ PL Runs Effs AllE Ent SubO FrIn Pick OneC Ones CellsE PartsE SeqE UZ By Sl Pt Ct

def BytesCt (N : Nat) : Prop := ∀ (t : T) (v : Value), t.size < N → Sm t.er → Ct Try.prog 96 [v] [] [Rw 4 v t.len t.at_, t.tf]
    (X := Value) (fun _ => True) (fun x => x) (fun x => [.row x 5 1 (enc t.er).length ((enc t.er).map bcell)]) (fun _ => [])
def LF (t : T) (v : Value) : List SP := [Rw 4 v t.len t.at_, t.tf]

set_option maxRecDepth 100000 in
set_option maxHeartbeats 8000000 in
theorem inner_fn (N : Nat) (IH : BytesCt N) (id ext : UInt8) (dv : Value) (data : List UInt8) (sv : Value) (subs : T) (hN : subs.size < N) (hs : Sm subs.er) : Ct Try.prog 110 [.agg #[bcell id, bcell ext, dv, sv]] [] [By dv data, Rw 4 sv subs.len subs.at_, subs.tf]
    (X := Value) (fun _ => True) (fun x => x) (fun _ => []) (fun x => [By x (inn id data (enc subs.er))]) := by
  have hcf := rcont_fn id
  cases h : contB id with
  | true =>
    rw [h] at hcf
    rw [show inn id data (enc subs.er) = enc subs.er by rw [inn, h]; rfl]
    refine Ct_intro Try.func110 rfl Try.ntmps110 (by simp) _ rfl (fun w0 O0 => ?_)
    repeat (first | refine n1 ?_ | refine n2 (fun b _ => ?_) | refine n3 (fun _ _ => ?_) | refine n4 ?_ | refine n5 ?_ | refine n6 (hcf) ?_ | refine n6v (hcf) ?_ | refine WL_nil ?_ | refine W_seq ?_ | refine W_region ?_ | refine n7 ?_ | refine n8 ?_ | refine W_block ?_ | refine W_skip ?_ | refine W_ret ?_ | refine W_exit ?_ | refine WQ_then ?_ | refine WQ_then_ret ?_ | refine WQ_then_exit ?_ | refine WQ_block_normal ?_ | refine WQ_block_ret ?_ | refine WQ_block_exit ?_ | refine n9 ?_)
    (apply WL_effs; exact rfl; exact rfl; exact rfl; apply E_call; exact rfl; (intro _ _; simp); exact IH subs sv hN hs; (repeat (first | exact AllE.nil _ | (apply AllE.cons; (focus (first | exact ent_nilBy | exact ent_nilSl | (apply Ent.mem; repeat' (first | exact mcs | apply mct))))))); (intro _; exact rfl); (intro _; exact rfl))
    intro x _
    repeat (first | refine n1 ?_ | refine n2 (fun b _ => ?_) | refine n3 (fun _ _ => ?_) | refine n4 ?_ | refine n5 ?_ | refine WL_nil ?_ | refine W_seq ?_ | refine W_region ?_ | refine n7 ?_ | refine n8 ?_ | refine W_block ?_ | refine W_skip ?_ | refine W_ret ?_ | refine W_exit ?_ | refine WQ_then ?_ | refine WQ_then_ret ?_ | refine WQ_then_exit ?_ | refine WQ_block_normal ?_ | refine WQ_block_ret ?_ | refine WQ_block_exit ?_ | refine n9 ?_)
    refine WQ_letgoB (v := x) (by repeat' (first | exact Pick.head _ _ | apply Pick.tail)) rfl ?_
    ((apply ret1 Try.results110 ( x)); (focus (first | trivial | assumption | omega)); (focus (first | exact RV_tmp rfl | (apply RV_cellN; exact rfl; (repeat' (first | exact Pick.head _ _ | apply Pick.tail)); (intro _; exact rfl); (intro _; exact rfl); exact rfl) | (apply RV_cell1; exact rfl; (repeat' (first | exact Pick.head _ _ | apply Pick.tail)); (intro _; exact rfl); exact rfl)));  (focus (first | exact rfl | (simp; done))); (focus (repeat (first | exact SubO.nil _ | (apply SubO.cons; (focus (repeat' (first | exact Pick.head _ _ | apply Pick.tail))))))); (focus (repeat (first | exact AllE.nil _ | (apply AllE.cons; (focus (first | exact ent_nilBy | exact ent_nilSl | (apply Ent.mem; repeat' (first | exact mcs | apply mct)))))))))
  | false =>
    rw [h] at hcf
    rw [show inn id data (enc subs.er) = data by rw [inn, h]; rfl]
    refine Ct_intro Try.func110 rfl Try.ntmps110 (by simp) _ rfl (fun w0 O0 => ?_)
    repeat (first | refine n1 ?_ | refine n2 (fun b _ => ?_) | refine n3 (fun _ _ => ?_) | refine n4 ?_ | refine n5 ?_ | refine n6 (hcf) ?_ | refine n6v (hcf) ?_ | refine WL_nil ?_ | refine W_seq ?_ | refine W_region ?_ | refine n7 ?_ | refine n8 ?_ | refine W_block ?_ | refine W_skip ?_ | refine W_ret ?_ | refine W_exit ?_ | refine WQ_then ?_ | refine WQ_then_ret ?_ | refine WQ_then_exit ?_ | refine WQ_block_normal ?_ | refine WQ_block_ret ?_ | refine WQ_block_exit ?_ | refine n9 ?_)
    ((apply ret1 Try.results110 ( dv)); (focus (first | trivial | assumption | omega)); (focus (first | exact RV_tmp rfl | (apply RV_cellN; exact rfl; (repeat' (first | exact Pick.head _ _ | apply Pick.tail)); (intro _; exact rfl); (intro _; exact rfl); exact rfl) | (apply RV_cell1; exact rfl; (repeat' (first | exact Pick.head _ _ | apply Pick.tail)); (intro _; exact rfl); exact rfl)));  (focus (first | exact rfl | (simp; done))); (focus (repeat (first | exact SubO.nil _ | (apply SubO.cons; (focus (repeat' (first | exact Pick.head _ _ | apply Pick.tail))))))); (focus (repeat (first | exact AllE.nil _ | (apply AllE.cons; (focus (first | exact ent_nilBy | exact ent_nilSl | (apply Ent.mem; repeat' (first | exact mcs | apply mct)))))))))

theorem inn_le {t : T} {k : Nat} {id ext : UInt8} {dv : Value} {data : List UInt8} {sv : Value} {subs next : T} (h : Sm t.er) (e : t.drop k = .cons id ext dv data sv subs next) : (inn id data (enc subs.er)).length ≤ 60000000 := by
  have h1 := (h.sub e).enc_le
  have h2 := (at_sub e).2.2.2
  have h3 := h.2.2
  unfold inn
  split <;> omega
theorem enc_drop {t : T} {k : Nat} {id ext : UInt8} {dv : Value} {data : List UInt8} {sv : Value} {subs next : T} (e : t.drop k = .cons id ext dv data sv subs next) :
    enc (t.drop k).er = (id :: bod (withX id ext (inn id data (enc subs.er))).length (withX id ext (inn id data (enc subs.er)))) ++ enc (t.drop (k + 1)).er := by
  rw [T.drop_next e, e]
  rfl

set_option maxRecDepth 100000 in
set_option maxHeartbeats 8000000 in
theorem bytes_fn (N : Nat) : BytesCt N := by
  induction N with
  | zero => intro t v h; omega
  | succ N IH =>
    intro t v hN hsm
    have hE := hsm.enc_le
    refine Ct_intro Try.func96 rfl Try.ntmps96 (by simp) _ rfl (fun w0 O0 => ?_)
    refine W_pure (rw_le (n := t.len) (by repeat' (first | exact mcs | apply mct))) fun hle => ?_
    repeat (first | refine n1 ?_ | refine n2 (fun b _ => ?_) | refine n3 (fun _ _ => ?_) | refine n4 ?_ | refine n5 ?_ | refine WL_nil ?_ | refine W_seq ?_ | refine W_region ?_ | refine n7 ?_ | refine n8 ?_ | refine W_block ?_ | refine W_skip ?_ | refine W_ret ?_ | refine W_exit ?_ | refine WQ_then ?_ | refine WQ_then_ret ?_ | refine WQ_then_exit ?_ | refine WQ_block_normal ?_ | refine WQ_block_ret ?_ | refine WQ_block_exit ?_ | refine n9 ?_)
    apply W_nilRow 5 1
    ((apply W_loopK (X := Nat × List UInt8 × Value) [3, 4] [0] (fun x => x.1 ≤ t.len ∧ x.2.1 ++ enc (t.drop x.1).er = enc t.er) (fun x => [(3, x.2.2), (4, .int .i64 (x.1 : Int))]) (fun x => [.row x.2.2 5 1 x.2.1.length (x.2.1.map bcell)]) (fun _ => []) (fun x => t.len - x.1) ((0, [], .slice none 0 0))); (focus exact ⟨Nat.zero_le _, rfl⟩); exact rfl; exact rfl; (intro _; exact rfl); (intro _; exact rfl); (intro _; exact rfl); (focus (repeat (first | exact FrIn.nil _ | (apply FrIn.cons; exact rfl; (first | exact rfl | (congr 1; first | omega | (dsimp only; omega)) | (simp; done)))))); (focus (repeat (first | exact SubO.nil _ | (apply SubO.cons; (focus (repeat' (first | exact Pick.head _ _ | apply Pick.tail))))))); (focus (repeat (first | exact AllE.nil _ | (apply AllE.cons; (focus (first | exact ent_nilBy | exact ent_nilSl | (apply Ent.mem; repeat' (first | exact mcs | apply mct)))))))); intro x hx)
    obtain ⟨k, out, o⟩ := x
    obtain ⟨hk, hi⟩ := hx
    replace hk : k ≤ t.len := hk
    replace hi : out ++ enc (t.drop k).er = enc t.er := hi
    dsimp only
    by_cases c0 : k < t.len
    · obtain ⟨id, ext, dv, data, sv, subs, next, e1⟩ := T.get c0
      rw [enc_drop e1, ← List.append_assoc] at hi
      have a1 := T.at_cons e1
      have hin := inn_le hsm e1
      have hout : out.length ≤ 60000000 := by
        have := congrArg List.length hi
        simp only [List.length_append] at this
        omega
      refine W_ent (ent_tree (t := t) (by repeat' (first | exact mcs | apply mct)) e1).1 (W_ent (ent_tree (t := t) (by repeat' (first | exact mcs | apply mct)) e1).2.1 (W_ent (ent_tree (t := t) (by repeat' (first | exact mcs | apply mct)) e1).2.2 ?_))
      repeat (first | refine n1 ?_ | refine n2 (fun b _ => ?_) | refine n3 (fun _ _ => ?_) | refine n4 ?_ | refine n5 ?_ | refine WL_nil ?_ | refine W_seq ?_ | refine W_region ?_ | refine n7 ?_ | refine n8 ?_ | refine W_block ?_ | refine W_skip ?_ | refine W_ret ?_ | refine W_exit ?_ | refine WQ_then ?_ | refine WQ_then_ret ?_ | refine WQ_then_exit ?_ | refine WQ_block_normal ?_ | refine WQ_block_ret ?_ | refine WQ_block_exit ?_ | refine n9 ?_)
      (apply WL_effs; exact rfl; exact rfl; exact rfl; (apply E_buildSlice; exact rfl; (focus (repeat (first | apply SeqE.nil | (apply SeqE.cons; exact rfl; (focus (first | (apply CellsE.lit; exact rfl) | (apply CellsE.one; (first | (apply OneC.lit; exact rfl) | (apply OneC.by_; (repeat' (first | exact mcs | apply mct)); done) | (apply OneC.sl; (repeat' (first | exact mcs | apply mct)); done) | (apply OneC.rw; (repeat' (first | exact mcs | apply mct)); done) | (apply OneC.row; (repeat' (first | exact Pick.head _ _ | apply Pick.tail))))))); exact rfl) | exact rfl))); exact rfl; (first | (intro _; exact (rfl : _ = Result.ok 1 _)) | (intro _; exact (rfl : _ = Result.ok 2 _)) | (intro _; exact (rfl : _ = Result.ok 3 _)) | (intro _; exact (rfl : _ = Result.ok 4 _)) | (intro _; exact (rfl : _ = Result.ok 5 _)) | (intro _; exact (rfl : _ = Result.ok 6 _)) | (intro _; exact (rfl : _ = Result.ok 7 _)) | (intro _; exact (rfl : _ = Result.ok 8 _)) | (intro _; exact (rfl : _ = Result.ok 9 _)) | (intro _; exact (rfl : _ = Result.ok 13 _)) | (intro _; exact (rfl : _ = Result.ok 14 _)) | (intro _; exact (rfl : _ = Result.ok 26 _)) | (intro _; exact (rfl : _ = Result.ok 40 _)) | (intro _; exact (rfl : _ = Result.ok 41 _)) | (intro _; exact (rfl : _ = Result.ok 42 _)) | (intro _; exact (rfl : _ = Result.ok 43 _)) | (intro _; exact (rfl : _ = Result.ok 44 _)) | (intro _; exact (rfl : _ = Result.ok 45 _)) | (intro _; exact (rfl : _ = Result.ok 46 _))); (intro _; exact rfl); exact rfl; exact Nat.le_of_ble_eq_true rfl; exact Nat.le_of_ble_eq_true rfl); skip)
      intro q0 _
      repeat (first | refine n1 ?_ | refine n2 (fun b _ => ?_) | refine n3 (fun _ _ => ?_) | refine n4 ?_ | refine n5 ?_ | refine WL_nil ?_ | refine W_seq ?_ | refine W_region ?_ | refine n7 ?_ | refine n8 ?_ | refine W_block ?_ | refine W_skip ?_ | refine W_ret ?_ | refine W_exit ?_ | refine WQ_then ?_ | refine WQ_then_ret ?_ | refine WQ_then_exit ?_ | refine WQ_block_normal ?_ | refine WQ_block_ret ?_ | refine WQ_block_exit ?_ | refine n9 ?_)
      (apply WL_effs; exact rfl; exact rfl; exact rfl; apply E_call; exact rfl; (intro _ _; simp); (exact inner_fn N IH id ext dv data sv subs (by have := T.drop_size e1; omega) (hsm.sub e1)); (repeat (first | exact AllE.nil _ | (apply AllE.cons; (focus (first | exact ent_nilBy | exact ent_nilSl | (apply Ent.mem; repeat' (first | exact mcs | apply mct))))))); (intro _; exact rfl); (intro _; exact rfl))
      intro c1 _
      repeat (first | refine n1 ?_ | refine n2 (fun b _ => ?_) | refine n3 (fun _ _ => ?_) | refine n4 ?_ | refine n5 ?_ | refine WL_nil ?_ | refine W_seq ?_ | refine W_region ?_ | refine n7 ?_ | refine n8 ?_ | refine W_block ?_ | refine W_skip ?_ | refine W_ret ?_ | refine W_exit ?_ | refine WQ_then ?_ | refine WQ_then_ret ?_ | refine WQ_then_exit ?_ | refine WQ_block_normal ?_ | refine WQ_block_ret ?_ | refine WQ_block_exit ?_ | refine n9 ?_)
      refine WL_effs rfl rfl rfl (E_appendBy (bs := []) rfl rfl (by repeat' (first | exact Pick.head _ _ | apply Pick.tail)) (by repeat' (first | exact mcs | apply mct)) rfl rfl rfl rfl rfl rfl (Nat.le_of_ble_eq_true rfl) (by omega) (Nat.zero_add _) rfl) ?_
      intro c2 _
      rw [List.nil_append]
      repeat (first | refine n1 ?_ | refine n2 (fun b _ => ?_) | refine n3 (fun _ _ => ?_) | refine n4 ?_ | refine n5 ?_ | refine WL_nil ?_ | refine W_seq ?_ | refine W_region ?_ | refine n7 ?_ | refine n8 ?_ | refine W_block ?_ | refine W_skip ?_ | refine W_ret ?_ | refine W_exit ?_ | refine WQ_then ?_ | refine WQ_then_ret ?_ | refine WQ_then_exit ?_ | refine WQ_block_normal ?_ | refine WQ_block_ret ?_ | refine WQ_block_exit ?_ | refine n9 ?_)
      ((apply W_cutKT (X := Value) [5] [0] (fun _ => True) (fun z => [(5, z)]) (fun z => [.row z 5 1 (withX id ext (inn id data (enc subs.er))).length ((withX id ext (inn id data (enc subs.er))).map bcell)]) (fun _ => [])); exact rfl; exact rfl; (intro _; exact rfl); (intro _; exact rfl); (intro _; exact rfl))
      · refine W_cond_d (p := (id.toNat : Int) = 255) rfl (fun h => ?_) (fun h => ?_)
        · have hw : withX id ext (inn id data (enc subs.er)) = ext :: inn id data (enc subs.er) := if_pos ((u8is (n := 255) (by decide)).2 (by omega))
          rw [hw]
          repeat (first | refine n1 ?_ | refine n2 (fun b _ => ?_) | refine n3 (fun _ _ => ?_) | refine n4 ?_ | refine n5 ?_ | refine WL_nil ?_ | refine W_seq ?_ | refine W_region ?_ | refine n7 ?_ | refine n8 ?_ | refine W_block ?_ | refine W_skip ?_ | refine W_ret ?_ | refine W_exit ?_ | refine WQ_then ?_ | refine WQ_then_ret ?_ | refine WQ_then_exit ?_ | refine WQ_block_normal ?_ | refine WQ_block_ret ?_ | refine WQ_block_exit ?_ | refine n9 ?_)
          (apply WL_effs; exact rfl; exact rfl; exact rfl; (apply E_buildSlice; exact rfl; (focus (repeat (first | apply SeqE.nil | (apply SeqE.cons; exact rfl; (focus (first | (apply CellsE.lit; exact rfl) | (apply CellsE.one; (first | (apply OneC.lit; exact rfl) | (apply OneC.by_; (repeat' (first | exact mcs | apply mct)); done) | (apply OneC.sl; (repeat' (first | exact mcs | apply mct)); done) | (apply OneC.rw; (repeat' (first | exact mcs | apply mct)); done) | (apply OneC.row; (repeat' (first | exact Pick.head _ _ | apply Pick.tail))))))); exact rfl) | exact rfl))); exact rfl; (first | (intro _; exact (rfl : _ = Result.ok 1 _)) | (intro _; exact (rfl : _ = Result.ok 2 _)) | (intro _; exact (rfl : _ = Result.ok 3 _)) | (intro _; exact (rfl : _ = Result.ok 4 _)) | (intro _; exact (rfl : _ = Result.ok 5 _)) | (intro _; exact (rfl : _ = Result.ok 6 _)) | (intro _; exact (rfl : _ = Result.ok 7 _)) | (intro _; exact (rfl : _ = Result.ok 8 _)) | (intro _; exact (rfl : _ = Result.ok 9 _)) | (intro _; exact (rfl : _ = Result.ok 13 _)) | (intro _; exact (rfl : _ = Result.ok 14 _)) | (intro _; exact (rfl : _ = Result.ok 26 _)) | (intro _; exact (rfl : _ = Result.ok 40 _)) | (intro _; exact (rfl : _ = Result.ok 41 _)) | (intro _; exact (rfl : _ = Result.ok 42 _)) | (intro _; exact (rfl : _ = Result.ok 43 _)) | (intro _; exact (rfl : _ = Result.ok 44 _)) | (intro _; exact (rfl : _ = Result.ok 45 _)) | (intro _; exact (rfl : _ = Result.ok 46 _))); (intro _; exact rfl); exact rfl; exact Nat.le_of_ble_eq_true rfl; exact Nat.le_of_ble_eq_true rfl); skip)
          intro q1 _
          repeat (first | refine n1 ?_ | refine n2 (fun b _ => ?_) | refine n3 (fun _ _ => ?_) | refine n4 ?_ | refine n5 ?_ | refine WL_nil ?_ | refine W_seq ?_ | refine W_region ?_ | refine n7 ?_ | refine n8 ?_ | refine W_block ?_ | refine W_skip ?_ | refine W_ret ?_ | refine W_exit ?_ | refine WQ_then ?_ | refine WQ_then_ret ?_ | refine WQ_then_exit ?_ | refine WQ_block_normal ?_ | refine WQ_block_ret ?_ | refine WQ_block_exit ?_ | refine n9 ?_)
          refine WL_effs rfl rfl rfl (E_appendRowB (bs := [ext]) rfl rfl (by repeat' (first | exact Pick.head _ _ | apply Pick.tail)) (by repeat' (first | exact Pick.head _ _ | apply Pick.tail)) rfl rfl rfl rfl rfl rfl rfl (Nat.le_of_ble_eq_true rfl) (by omega) (Nat.add_comm 1 _) rfl) ?_
          intro c3 _
          repeat (first | refine n1 ?_ | refine n2 (fun b _ => ?_) | refine n3 (fun _ _ => ?_) | refine n4 ?_ | refine n5 ?_ | refine WL_nil ?_ | refine W_seq ?_ | refine W_region ?_ | refine n7 ?_ | refine n8 ?_ | refine W_block ?_ | refine W_skip ?_ | refine W_ret ?_ | refine W_exit ?_ | refine WQ_then ?_ | refine WQ_then_ret ?_ | refine WQ_then_exit ?_ | refine WQ_block_normal ?_ | refine WQ_block_ret ?_ | refine WQ_block_exit ?_ | refine n9 ?_)
          ((apply WQ_meet (c3)); (focus (first | trivial | omega | assumption | exact ⟨by omega, by omega⟩ | (simp; done))); (focus (repeat (first | exact FrIn.nil _ | (apply FrIn.cons; exact rfl; (first | exact rfl | (congr 1; first | omega | (dsimp only; omega)) | (simp; done)))))); (focus (repeat (first | exact SubO.nil _ | (apply SubO.cons; (focus (repeat' (first | exact Pick.head _ _ | apply Pick.tail))))))); (focus (repeat (first | exact AllE.nil _ | (apply AllE.cons; (focus (first | exact ent_nilBy | exact ent_nilSl | (apply Ent.mem; repeat' (first | exact mcs | apply mct)))))))))
        · have hw : withX id ext (inn id data (enc subs.er)) = inn id data (enc subs.er) := if_neg (fun h' => h (by rw [h']; rfl))
          rw [hw]
          repeat (first | refine n1 ?_ | refine n2 (fun b _ => ?_) | refine n3 (fun _ _ => ?_) | refine n4 ?_ | refine n5 ?_ | refine WL_nil ?_ | refine W_seq ?_ | refine W_region ?_ | refine n7 ?_ | refine n8 ?_ | refine W_block ?_ | refine W_skip ?_ | refine W_ret ?_ | refine W_exit ?_ | refine WQ_then ?_ | refine WQ_then_ret ?_ | refine WQ_then_exit ?_ | refine WQ_block_normal ?_ | refine WQ_block_ret ?_ | refine WQ_block_exit ?_ | refine n9 ?_)
          ((apply WQ_meet (c2)); (focus (first | trivial | omega | assumption | exact ⟨by omega, by omega⟩ | (simp; done))); (focus (repeat (first | exact FrIn.nil _ | (apply FrIn.cons; exact rfl; (first | exact rfl | (congr 1; first | omega | (dsimp only; omega)) | (simp; done)))))); (focus (repeat (first | exact SubO.nil _ | (apply SubO.cons; (focus (repeat' (first | exact Pick.head _ _ | apply Pick.tail))))))); (focus (repeat (first | exact AllE.nil _ | (apply AllE.cons; (focus (first | exact ent_nilBy | exact ent_nilSl | (apply Ent.mem; repeat' (first | exact mcs | apply mct)))))))))
      · intro c3 _
        have hwl : (withX id ext (inn id data (enc subs.er))).length ≤ 60000001 := by
          unfold withX
          split
          · simp only [List.length_cons]; omega
          · omega
        generalize withX id ext (inn id data (enc subs.er)) = c at hi hwl ⊢
        repeat (first | refine n1 ?_ | refine n2 (fun b _ => ?_) | refine n3 (fun _ _ => ?_) | refine n4 ?_ | refine n5 ?_ | refine WL_nil ?_ | refine W_seq ?_ | refine W_region ?_ | refine n7 ?_ | refine n8 ?_ | refine W_block ?_ | refine W_skip ?_ | refine W_ret ?_ | refine W_exit ?_ | refine WQ_then ?_ | refine WQ_then_ret ?_ | refine WQ_then_exit ?_ | refine WQ_block_normal ?_ | refine WQ_block_ret ?_ | refine WQ_block_exit ?_ | refine n9 ?_)
        refine W_letgoB (v := c3) (by repeat' (first | exact Pick.head _ _ | apply Pick.tail)) rfl ?_
        ((apply W_loopK (X := List UInt8 × UInt8 × List UInt8 × Value × Value) [6, 3, 5] [0] (fun x => x.1 ++ (x.2.1 :: bod x.2.2.1.length x.2.2.1) = out ++ (id :: bod c.length c) ∧ x.2.2.1.length ≤ 60000001) (fun x => [(6, bcell x.2.1), (3, x.2.2.2.1), (5, x.2.2.2.2)]) (fun x => [.row x.2.2.2.1 5 1 x.1.length (x.1.map bcell)]) (fun x => [By x.2.2.2.2 x.2.2.1]) (fun x => x.2.2.1.length) ((out, id, c, o, c3))); (focus exact ⟨rfl, hwl⟩); exact rfl; exact rfl; (intro _; exact rfl); (intro _; exact rfl); (intro _; exact rfl); (focus (repeat (first | exact FrIn.nil _ | (apply FrIn.cons; exact rfl; (first | exact rfl | (congr 1; first | omega | (dsimp only; omega)) | (simp; done)))))); (focus (repeat (first | exact SubO.nil _ | (apply SubO.cons; (focus (repeat' (first | exact Pick.head _ _ | apply Pick.tail))))))); (focus (repeat (first | exact AllE.nil _ | (apply AllE.cons; (focus (first | exact ent_nilBy | exact ent_nilSl | (apply Ent.mem; repeat' (first | exact mcs | apply mct)))))))); intro x hx)
        obtain ⟨u, i2, cur, ov, cv⟩ := x
        obtain ⟨hu, hcl⟩ := hx
        replace hu : u ++ (i2 :: bod cur.length cur) = out ++ (id :: bod c.length c) := hu
        replace hcl : cur.length ≤ 60000001 := hcl
        dsimp only
        have hul : u.length + cur.length ≤ 130000000 := by
          have h1 := congrArg List.length hu
          have h2 := congrArg List.length hi
          simp only [List.length_append, List.length_cons] at h1 h2
          omega
        by_cases c4 : 255 ≤ cur.length
        · rw [bod_big c4] at hu
          repeat (first | refine n1 ?_ | refine n2 (fun b _ => ?_) | refine n3 (fun _ _ => ?_) | refine n4 ?_ | refine n5 ?_ | refine WL_nil ?_ | refine W_seq ?_ | refine W_region ?_ | refine n7 ?_ | refine n8 ?_ | refine W_block ?_ | refine W_skip ?_ | refine W_ret ?_ | refine W_exit ?_ | refine WQ_then ?_ | refine WQ_then_ret ?_ | refine WQ_then_exit ?_ | refine WQ_block_normal ?_ | refine WQ_block_ret ?_ | refine WQ_block_exit ?_ | refine n9 ?_)
          (refine W_regionP' [2, 3, 6] [] [0, 1, 4, 5, 2, 3, 6, 7] [0] (by kernel_rfl) (by kernel_rfl) (by repeat (first | exact UZ.nil _ _ | (apply UZ.cons; exact rfl; (intro _; exact rfl)))) (by exact rfl) (by (repeat (first | exact SubO.nil _ | (apply SubO.cons; (focus (repeat' (first | exact Pick.head _ _ | apply Pick.tail))))))) ?_)
          repeat (first | refine p1 ?_ | refine p2 (fun b _ => ?_) | refine p3 (fun _ _ => ?_) | refine p4 ?_ | refine p5 ?_ | refine p7 (fun b => ?_) | refine PL_nil ?_)
          (apply PL_effs; exact rfl; exact rfl; exact rfl; exact rfl; exact rfl; (apply E_buildSlice; exact rfl; (focus (repeat (first | apply SeqE.nil | (apply SeqE.cons; exact rfl; (focus (first | (apply CellsE.lit; exact rfl) | (apply CellsE.one; (first | (apply OneC.lit; exact rfl) | (apply OneC.by_; (repeat' (first | exact mcs | apply mct)); done) | (apply OneC.sl; (repeat' (first | exact mcs | apply mct)); done) | (apply OneC.rw; (repeat' (first | exact mcs | apply mct)); done) | (apply OneC.row; (repeat' (first | exact Pick.head _ _ | apply Pick.tail))))))); exact rfl) | exact rfl))); exact rfl; (first | (intro _; exact (rfl : _ = Result.ok 1 _)) | (intro _; exact (rfl : _ = Result.ok 2 _)) | (intro _; exact (rfl : _ = Result.ok 3 _)) | (intro _; exact (rfl : _ = Result.ok 4 _)) | (intro _; exact (rfl : _ = Result.ok 5 _)) | (intro _; exact (rfl : _ = Result.ok 6 _)) | (intro _; exact (rfl : _ = Result.ok 7 _)) | (intro _; exact (rfl : _ = Result.ok 8 _)) | (intro _; exact (rfl : _ = Result.ok 9 _)) | (intro _; exact (rfl : _ = Result.ok 13 _)) | (intro _; exact (rfl : _ = Result.ok 14 _)) | (intro _; exact (rfl : _ = Result.ok 26 _)) | (intro _; exact (rfl : _ = Result.ok 40 _)) | (intro _; exact (rfl : _ = Result.ok 41 _)) | (intro _; exact (rfl : _ = Result.ok 42 _)) | (intro _; exact (rfl : _ = Result.ok 43 _)) | (intro _; exact (rfl : _ = Result.ok 44 _)) | (intro _; exact (rfl : _ = Result.ok 45 _)) | (intro _; exact (rfl : _ = Result.ok 46 _))); (intro _; exact rfl); exact rfl; exact Nat.le_of_ble_eq_true rfl; exact Nat.le_of_ble_eq_true rfl); (intro _; (repeat (first | exact SubO.nil _ | (apply SubO.cons; (focus (repeat' (first | exact Pick.head _ _ | apply Pick.tail))))))); skip)
          intro q1 _
          have l1 : u.length + 2 = (u ++ [i2, 255]).length := by simp
          have l2 : (u ++ [i2, 255]).length + (cur.take 255).length = (u ++ [i2, 255] ++ cur.take 255).length := by simp only [List.length_append]
          have l3 : (u ++ [i2, 255]).length + (cur.take 255).length ≤ 140000000 := by simp only [List.length_append, List.length_cons, List.length_nil, List.length_take]; omega
          refine PL_effs rfl rfl rfl rfl rfl (E_appendRowB (bs := u) (news := [i2, 255]) rfl rfl (by repeat' (first | exact Pick.head _ _ | apply Pick.tail)) (by repeat' (first | exact Pick.head _ _ | apply Pick.tail)) rfl rfl rfl rfl rfl rfl rfl (Nat.le_of_ble_eq_true rfl) (by omega) l1 rfl) (by intro _; exact (by (repeat (first | exact SubO.nil _ | (apply SubO.cons; (focus (repeat' (first | exact Pick.head _ _ | apply Pick.tail)))))))) ?_
          intro o2 _
          refine PL_effs rfl rfl rfl rfl rfl (E_appendBy (bs := u ++ [i2, 255]) rfl rfl (by repeat' (first | exact Pick.head _ _ | apply Pick.tail)) (by repeat' (first | exact mcs | apply mct)) rfl rfl rfl rfl rfl rfl (Nat.le_of_ble_eq_true rfl) (by omega) l2 rfl) (by intro _; exact (by (repeat (first | exact SubO.nil _ | (apply SubO.cons; (focus (repeat' (first | exact Pick.head _ _ | apply Pick.tail)))))))) ?_
          intro o3 _
          repeat (first | refine p1 ?_ | refine p2 (fun b _ => ?_) | refine p3 (fun _ _ => ?_) | refine p4 ?_ | refine p5 ?_ | refine p7 (fun b => ?_) | refine PL_nil ?_)
          repeat (first | refine n1 ?_ | refine n2 (fun b _ => ?_) | refine n3 (fun _ _ => ?_) | refine n4 ?_ | refine n5 ?_ | refine WL_nil ?_ | refine W_seq ?_ | refine W_region ?_ | refine n7 ?_ | refine n8 ?_ | refine W_block ?_ | refine W_skip ?_ | refine W_ret ?_ | refine W_exit ?_ | refine WQ_then ?_ | refine WQ_then_ret ?_ | refine WQ_then_exit ?_ | refine WQ_block_normal ?_ | refine WQ_block_ret ?_ | refine WQ_block_exit ?_ | refine n9 ?_)
          rw [take_end]
          repeat (first | refine n1 ?_ | refine n2 (fun b _ => ?_) | refine n3 (fun _ _ => ?_) | refine n4 ?_ | refine n5 ?_ | refine WL_nil ?_ | refine W_seq ?_ | refine W_region ?_ | refine n7 ?_ | refine n8 ?_ | refine W_block ?_ | refine W_skip ?_ | refine W_ret ?_ | refine W_exit ?_ | refine WQ_then ?_ | refine WQ_then_ret ?_ | refine WQ_then_exit ?_ | refine WQ_block_normal ?_ | refine WQ_block_ret ?_ | refine WQ_block_exit ?_ | refine n9 ?_)
          have n1 : u ++ [i2, 255] ++ cur.take 255 ++ (254 :: bod (cur.drop 255).length (cur.drop 255)) = out ++ (id :: bod c.length c) := by
            rw [← hu]
            simp
          have n2 : (cur.drop 255).length ≤ 60000001 := by rw [List.length_drop]; omega
          have n3 : (cur.drop 255).length < cur.length := by rw [List.length_drop]; omega
          ((apply WQ_again ((u ++ [i2, 255] ++ cur.take 255, 254, cur.drop 255, o3, cutV 1 255 cur.length cv))); (focus exact ⟨n1, n2⟩); (focus exact n3); (focus (repeat (first | exact FrIn.nil _ | (apply FrIn.cons; exact rfl; (first | exact rfl | (congr 1; first | omega | (dsimp only; omega)) | (simp; done)))))); (focus (repeat (first | exact SubO.nil _ | (apply SubO.cons; (focus (repeat' (first | exact Pick.head _ _ | apply Pick.tail))))))); (focus (repeat (first | exact AllE.nil _ | (apply AllE.cons; (focus (first | exact ent_nilBy | exact ent_nilSl | (apply Ent.mem; repeat' (first | exact mcs | apply mct)))))))))
        · rw [bod_small (by omega)] at hu
          repeat (first | refine n1 ?_ | refine n2 (fun b _ => ?_) | refine n3 (fun _ _ => ?_) | refine n4 ?_ | refine n5 ?_ | refine WL_nil ?_ | refine W_seq ?_ | refine W_region ?_ | refine n7 ?_ | refine n8 ?_ | refine W_block ?_ | refine W_skip ?_ | refine W_ret ?_ | refine W_exit ?_ | refine WQ_then ?_ | refine WQ_then_ret ?_ | refine WQ_then_exit ?_ | refine WQ_block_normal ?_ | refine WQ_block_ret ?_ | refine WQ_block_exit ?_ | refine n9 ?_)
          (apply WL_effs; exact rfl; exact rfl; exact rfl; (apply E_buildSlice; exact rfl; (focus (repeat (first | apply SeqE.nil | (apply SeqE.cons; exact rfl; (focus (first | (apply CellsE.lit; exact rfl) | (apply CellsE.one; (first | (apply OneC.lit; exact rfl) | (apply OneC.by_; (repeat' (first | exact mcs | apply mct)); done) | (apply OneC.sl; (repeat' (first | exact mcs | apply mct)); done) | (apply OneC.rw; (repeat' (first | exact mcs | apply mct)); done) | (apply OneC.row; (repeat' (first | exact Pick.head _ _ | apply Pick.tail))))))); exact rfl) | exact rfl))); exact rfl; (first | (intro _; exact (rfl : _ = Result.ok 1 _)) | (intro _; exact (rfl : _ = Result.ok 2 _)) | (intro _; exact (rfl : _ = Result.ok 3 _)) | (intro _; exact (rfl : _ = Result.ok 4 _)) | (intro _; exact (rfl : _ = Result.ok 5 _)) | (intro _; exact (rfl : _ = Result.ok 6 _)) | (intro _; exact (rfl : _ = Result.ok 7 _)) | (intro _; exact (rfl : _ = Result.ok 8 _)) | (intro _; exact (rfl : _ = Result.ok 9 _)) | (intro _; exact (rfl : _ = Result.ok 13 _)) | (intro _; exact (rfl : _ = Result.ok 14 _)) | (intro _; exact (rfl : _ = Result.ok 26 _)) | (intro _; exact (rfl : _ = Result.ok 40 _)) | (intro _; exact (rfl : _ = Result.ok 41 _)) | (intro _; exact (rfl : _ = Result.ok 42 _)) | (intro _; exact (rfl : _ = Result.ok 43 _)) | (intro _; exact (rfl : _ = Result.ok 44 _)) | (intro _; exact (rfl : _ = Result.ok 45 _)) | (intro _; exact (rfl : _ = Result.ok 46 _))); (intro _; exact rfl); exact rfl; exact Nat.le_of_ble_eq_true rfl; exact Nat.le_of_ble_eq_true rfl); skip)
          intro q1 _
          have l1 : u.length + 2 = (u ++ [i2, UInt8.ofNat cur.length]).length := by simp
          have l2 : (u ++ [i2, UInt8.ofNat cur.length]).length + cur.length = (u ++ [i2, UInt8.ofNat cur.length] ++ cur).length := by simp only [List.length_append]
          have l3 : (u ++ [i2, UInt8.ofNat cur.length]).length + cur.length ≤ 140000000 := by simp only [List.length_append, List.length_cons, List.length_nil]; omega
          have cc : [bcell i2, Value.int .u8 (cur.length : Int)] = [i2, UInt8.ofNat cur.length].map bcell := by
            simp only [List.map_cons, List.map_nil, bcell, UInt8.toNat_ofNat']
            rw [Nat.mod_eq_of_lt (by omega)]
          refine WL_effs rfl rfl rfl (E_appendRowB (bs := u) (news := [i2, UInt8.ofNat cur.length]) rfl rfl (by repeat' (first | exact Pick.head _ _ | apply Pick.tail)) (by repeat' (first | exact Pick.head _ _ | apply Pick.tail)) rfl cc rfl rfl rfl rfl rfl (Nat.le_of_ble_eq_true rfl) (by omega) l1 rfl) ?_
          intro o2 _
          repeat (first | refine n1 ?_ | refine n2 (fun b _ => ?_) | refine n3 (fun _ _ => ?_) | refine n4 ?_ | refine n5 ?_ | refine WL_nil ?_ | refine W_seq ?_ | refine W_region ?_ | refine n7 ?_ | refine n8 ?_ | refine W_block ?_ | refine W_skip ?_ | refine W_ret ?_ | refine W_exit ?_ | refine WQ_then ?_ | refine WQ_then_ret ?_ | refine WQ_then_exit ?_ | refine WQ_block_normal ?_ | refine WQ_block_ret ?_ | refine WQ_block_exit ?_ | refine n9 ?_)
          refine WL_effs rfl rfl rfl (E_appendBy (bs := u ++ [i2, UInt8.ofNat cur.length]) rfl rfl (by repeat' (first | exact Pick.head _ _ | apply Pick.tail)) (by repeat' (first | exact mcs | apply mct)) rfl rfl rfl rfl rfl rfl (Nat.le_of_ble_eq_true rfl) (by omega) l2 rfl) ?_
          intro o3 _
          repeat (first | refine n1 ?_ | refine n2 (fun b _ => ?_) | refine n3 (fun _ _ => ?_) | refine n4 ?_ | refine n5 ?_ | refine WL_nil ?_ | refine W_seq ?_ | refine W_region ?_ | refine n7 ?_ | refine n8 ?_ | refine W_block ?_ | refine W_skip ?_ | refine W_ret ?_ | refine W_exit ?_ | refine WQ_then ?_ | refine WQ_then_ret ?_ | refine WQ_then_exit ?_ | refine WQ_block_normal ?_ | refine WQ_block_ret ?_ | refine WQ_block_exit ?_ | refine n9 ?_)
          have n1 : u ++ [i2, UInt8.ofNat cur.length] ++ cur ++ enc (t.drop (k + 1)).er = enc t.er := by
            rw [← hi, ← hu]
            simp
          ((apply WQ_again ((k + 1, u ++ [i2, UInt8.ofNat cur.length] ++ cur, o3))); (focus exact ⟨c0, n1⟩); (focus (omega)); (focus (repeat (first | exact FrIn.nil _ | (apply FrIn.cons; exact rfl; (first | exact rfl | (congr 1; first | omega | (dsimp only; omega)) | (simp; done)))))); (focus (repeat (first | exact SubO.nil _ | (apply SubO.cons; (focus (repeat' (first | exact Pick.head _ _ | apply Pick.tail))))))); (focus (repeat (first | exact AllE.nil _ | (apply AllE.cons; (focus (first | exact ent_nilBy | exact ent_nilSl | (apply Ent.mem; repeat' (first | exact mcs | apply mct)))))))))
    · rw [drop_end (by omega)] at hi
      replace hi : out = enc t.er := by simpa [T.er, enc] using hi
      subst hi
      repeat (first | refine n1 ?_ | refine n2 (fun b _ => ?_) | refine n3 (fun _ _ => ?_) | refine n4 ?_ | refine n5 ?_ | refine WL_nil ?_ | refine W_seq ?_ | refine W_region ?_ | refine n7 ?_ | refine n8 ?_ | refine W_block ?_ | refine W_skip ?_ | refine W_ret ?_ | refine W_exit ?_ | refine WQ_then ?_ | refine WQ_then_ret ?_ | refine WQ_then_exit ?_ | refine WQ_block_normal ?_ | refine WQ_block_ret ?_ | refine WQ_block_exit ?_ | refine n9 ?_)
      ((apply ret1 Try.results96 ( o)); (focus (first | trivial | assumption | omega)); (focus (first | exact RV_tmp rfl | (apply RV_cellN; exact rfl; (repeat' (first | exact Pick.head _ _ | apply Pick.tail)); (intro _; exact rfl); (intro _; exact rfl); exact rfl) | (apply RV_cell1; exact rfl; (repeat' (first | exact Pick.head _ _ | apply Pick.tail)); (intro _; exact rfl); exact rfl)));  (focus (first | exact rfl | (simp; done))); (focus (repeat (first | exact SubO.nil _ | (apply SubO.cons; (focus (repeat' (first | exact Pick.head _ _ | apply Pick.tail))))))); (focus (repeat (first | exact AllE.nil _ | (apply AllE.cons; (focus (first | exact ent_nilBy | exact ent_nilSl | (apply Ent.mem; repeat' (first | exact mcs | apply mct)))))))))
end Go.Proofs.Ytoohgnegoaoleaa.C04

/-
  The reference's long, Check, Encode.
-/
namespace Go.Proofs.Ytoohgnegoaoleaa.C04
open Go Go.RowKit Go.Hs
attribute [local irreducible] WL W WQ PL Runs Effs AllE Ent SubO FrIn Pick OneC Ones CellsE PartsE SeqE UZ By Sl Pt Ct

def lng : Fo → Bool
  | .nil => false
  | .cons id _ data subs next => decide (1024 < (inn id data (enc subs)).length) || lng subs || lng next
/-- the bytes that Encode hands back. -/
def encE (t : Fo) : List UInt8 := if chk t = 0 then enc t else []
theorem encE_ok {t : Fo} (h : chk t = 0) : encE t = enc t := if_pos h
theorem encE_bad {t : Fo} (h : ¬ chk t = 0) : encE t = [] := if_neg h
end Go.Proofs.Ytoohgnegoaoleaa.C04

/-
  The program's walk over a list, as Check uses it.
-/
namespace Go.Proofs.Ytoohgnegoaoleaa.C04
open Go Go.RowKit Go.Hs
attribute [local irreducible] WL W WQ PL Runs Effs AllE Ent SubO FrIn Pick OneC Ones CellsE PartsE SeqE UZ By Sl Pt Ct

def nB (b : Bool) : Bool := ! b
set_option maxRecDepth 100000 in
set_option maxHeartbeats 8000000 in
theorem visit_fn (b1 b2 b3 n m dp : Nat) (b r : Bool) (id ext : UInt8) (dv : Value) (data : List UInt8) (sv : Value) (subs : T) (hn : n ≤ 1000000) (hm : m ≤ 1000000) (hd : dp ≤ 1000000) (hr : r = (b || ! own id ext data subs.er)) :
    Ct Try.prog 105 [.agg #[bcell id, bcell ext, dv, sv], .int .i64 (dp : Int), .pointer (some ⟨b1, 0, none⟩), .pointer (some ⟨b2, 0, none⟩), .pointer (some ⟨b3, 0, none⟩)]
      [.blk b1 3 [.int .i64 (n : Int)], .blk b2 3 [.int .i64 (m : Int)], .blk b3 4 [.bool b]] [By dv data, Rw 4 sv subs.len subs.at_]
      (X := Unit) (fun _ => True) (fun _ => .tuple #[]) (fun _ => [.blk b1 3 [.int .i64 ((n + 1 : Nat) : Int)], .blk b2 3 [.int .i64 ((max m dp : Nat) : Int)], .blk b3 4 [.bool r]]) (fun _ => []) := by
  have hcf := cont_fn id
  have hmx : (m < dp ∧ max m dp = dp) ∨ (¬ m < dp ∧ max m dp = m) := by omega
  have hsl : subs.len = 0 ↔ isN subs.er = true := by cases subs <;> simp [T.len, T.er, isN]
  rcases hmx with ⟨c0, hmx⟩ | ⟨c0, hmx⟩
  all_goals rw [hmx]
  all_goals
    cases b with
    | true =>
      obtain rfl : r = true := by simpa using hr
      cases c4 : contB id with
      | true =>
        rw [c4] at hcf
        refine Ct_intro Try.func105 rfl Try.ntmps105 (by simp) _ rfl (fun w0 O0 => ?_)
        repeat (first | refine n1 ?_ | refine n2 (fun b _ => ?_) | refine n3 (fun _ _ => ?_) | refine n4 ?_ | refine n5 ?_ | refine n6 (hcf) ?_ | refine n6v (hcf) ?_ | refine WL_nil ?_ | refine W_seq ?_ | refine W_region ?_ | refine n7 ?_ | refine n8 ?_ | refine W_block ?_ | refine W_skip ?_ | refine W_ret ?_ | refine W_exit ?_ | refine WQ_then ?_ | refine WQ_then_ret ?_ | refine WQ_then_exit ?_ | refine WQ_block_normal ?_ | refine WQ_block_ret ?_ | refine WQ_block_exit ?_ | refine n9 ?_)
        ((apply ret0 (by first | exact .inl rfl | exact .inr rfl) Try.results105 ( ())); (focus (first | trivial | assumption | omega)); (focus (first | exact rfl | (simp; done))); (focus (repeat (first | exact SubO.nil _ | (apply SubO.cons; (focus (repeat' (first | exact Pick.head _ _ | apply Pick.tail))))))); (focus (repeat (first | exact AllE.nil _ | (apply AllE.cons; (focus (first | exact ent_nilBy | exact ent_nilSl | (apply Ent.mem; repeat' (first | exact mcs | apply mct)))))))))
      | false =>
        rw [c4] at hcf
        refine Ct_intro Try.func105 rfl Try.ntmps105 (by simp) _ rfl (fun w0 O0 => ?_)
        repeat (first | refine n1 ?_ | refine n2 (fun b _ => ?_) | refine n3 (fun _ _ => ?_) | refine n4 ?_ | refine n5 ?_ | refine n6 (hcf) ?_ | refine n6v (hcf) ?_ | refine WL_nil ?_ | refine W_seq ?_ | refine W_region ?_ | refine n7 ?_ | refine n8 ?_ | refine W_block ?_ | refine W_skip ?_ | refine W_ret ?_ | refine W_exit ?_ | refine WQ_then ?_ | refine WQ_then_ret ?_ | refine WQ_then_exit ?_ | refine WQ_block_normal ?_ | refine WQ_block_ret ?_ | refine WQ_block_exit ?_ | refine n9 ?_)
        ((apply ret0 (by first | exact .inl rfl | exact .inr rfl) Try.results105 ( ())); (focus (first | trivial | assumption | omega)); (focus (first | exact rfl | (simp; done))); (focus (repeat (first | exact SubO.nil _ | (apply SubO.cons; (focus (repeat' (first | exact Pick.head _ _ | apply Pick.tail))))))); (focus (repeat (first | exact AllE.nil _ | (apply AllE.cons; (focus (first | exact ent_nilBy | exact ent_nilSl | (apply Ent.mem; repeat' (first | exact mcs | apply mct)))))))))
    | false =>
      rw [Bool.false_or] at hr
      by_cases c1 : id.toNat = 254
      · obtain rfl : id = 254 := (u8is (n := 254) (by decide)).2 c1
        obtain rfl : r = true := by simpa [own] using hr
        rw [cont254] at hcf
        refine Ct_intro Try.func105 rfl Try.ntmps105 (by simp) _ rfl (fun w0 O0 => ?_)
        repeat (first | refine n1 ?_ | refine n2 (fun b _ => ?_) | refine n3 (fun _ _ => ?_) | refine n4 ?_ | refine n5 ?_ | refine n6 (hcf) ?_ | refine n6v (hcf) ?_ | refine WL_nil ?_ | refine W_seq ?_ | refine W_region ?_ | refine n7 ?_ | refine n8 ?_ | refine W_block ?_ | refine W_skip ?_ | refine W_ret ?_ | refine W_exit ?_ | refine WQ_then ?_ | refine WQ_then_ret ?_ | refine WQ_then_exit ?_ | refine WQ_block_normal ?_ | refine WQ_block_ret ?_ | refine WQ_block_exit ?_ | refine n9 ?_)
        ((apply ret0 (by first | exact .inl rfl | exact .inr rfl) Try.results105 ( ())); (focus (first | trivial | assumption | omega)); (focus (first | exact rfl | (simp; done))); (focus (repeat (first | exact SubO.nil _ | (apply SubO.cons; (focus (repeat' (first | exact Pick.head _ _ | apply Pick.tail))))))); (focus (repeat (first | exact AllE.nil _ | (apply AllE.cons; (focus (first | exact ent_nilBy | exact ent_nilSl | (apply Ent.mem; repeat' (first | exact mcs | apply mct)))))))))
      · have c1' : ¬ id = 254 := fun h => c1 ((u8is (n := 254) (by decide)).1 h)
        by_cases c2 : id.toNat = 255
        · obtain rfl : id = 255 := (u8is (n := 255) (by decide)).2 c2
          rw [cont255] at hcf
          obtain rfl : r = ! decide ((subs.len : Int) = 0) := by
            rw [hr]
            simp only [own, cont255]
            by_cases h : subs.len = 0
            · simp [h, hsl.1 h]
            · have : isN subs.er = false := by simpa using fun h' => h (hsl.2 h')
              simp [h, this]
          refine Ct_intro Try.func105 rfl Try.ntmps105 (by simp) _ rfl (fun w0 O0 => ?_)
          repeat (first | refine n1 ?_ | refine n2 (fun b _ => ?_) | refine n3 (fun _ _ => ?_) | refine n4 ?_ | refine n5 ?_ | refine n6 (hcf) ?_ | refine n6v (hcf) ?_ | refine WL_nil ?_ | refine W_seq ?_ | refine W_region ?_ | refine n7 ?_ | refine n8 ?_ | refine W_block ?_ | refine W_skip ?_ | refine W_ret ?_ | refine W_exit ?_ | refine WQ_then ?_ | refine WQ_then_ret ?_ | refine WQ_then_exit ?_ | refine WQ_block_normal ?_ | refine WQ_block_ret ?_ | refine WQ_block_exit ?_ | refine n9 ?_)
          ((apply ret0 (by first | exact .inl rfl | exact .inr rfl) Try.results105 ( ())); (focus (first | trivial | assumption | omega)); (focus (first | exact rfl | (simp; done))); (focus (repeat (first | exact SubO.nil _ | (apply SubO.cons; (focus (repeat' (first | exact Pick.head _ _ | apply Pick.tail))))))); (focus (repeat (first | exact AllE.nil _ | (apply AllE.cons; (focus (first | exact ent_nilBy | exact ent_nilSl | (apply Ent.mem; repeat' (first | exact mcs | apply mct)))))))))
        · have c2' : ¬ id = 255 := fun h => c2 ((u8is (n := 255) (by decide)).1 h)
          by_cases c3 : ext.toNat = 0
          · obtain rfl : ext = 0 := (u8is (n := 0) (by decide)).2 c3
            cases c4 : contB id with
            | true =>
              rw [c4] at hcf
              obtain rfl : r = ! decide ((data.length : Int) = 0) := by
                rw [hr]
                cases data <;> simp [own, c1', c4]
                omega
              refine Ct_intro Try.func105 rfl Try.ntmps105 (by simp) _ rfl (fun w0 O0 => ?_)
              repeat (first | refine n1 ?_ | refine n2 (fun b _ => ?_) | refine n3 (fun _ _ => ?_) | refine n4 ?_ | refine n5 ?_ | refine n6 (hcf) ?_ | refine n6v (hcf) ?_ | refine WL_nil ?_ | refine W_seq ?_ | refine W_region ?_ | refine n7 ?_ | refine n8 ?_ | refine W_block ?_ | refine W_skip ?_ | refine W_ret ?_ | refine W_exit ?_ | refine WQ_then ?_ | refine WQ_then_ret ?_ | refine WQ_then_exit ?_ | refine WQ_block_normal ?_ | refine WQ_block_ret ?_ | refine WQ_block_exit ?_ | refine n9 ?_)
              ((apply ret0 (by first | exact .inl rfl | exact .inr rfl) Try.results105 ( ())); (focus (first | trivial | assumption | omega)); (focus (first | exact rfl | (simp; done))); (focus (repeat (first | exact SubO.nil _ | (apply SubO.cons; (focus (repeat' (first | exact Pick.head _ _ | apply Pick.tail))))))); (focus (repeat (first | exact AllE.nil _ | (apply AllE.cons; (focus (first | exact ent_nilBy | exact ent_nilSl | (apply Ent.mem; repeat' (first | exact mcs | apply mct)))))))))
            | false =>
              rw [c4] at hcf
              obtain rfl : r = ! decide ((subs.len : Int) = 0) := by
                rw [hr]
                by_cases h : subs.len = 0
                · simp [own, c1', c4, h, hsl.1 h]
                · have : isN subs.er = false := by simpa using fun h' => h (hsl.2 h')
                  simp [own, c1', c4, h, this]
              refine Ct_intro Try.func105 rfl Try.ntmps105 (by simp) _ rfl (fun w0 O0 => ?_)
              repeat (first | refine n1 ?_ | refine n2 (fun b _ => ?_) | refine n3 (fun _ _ => ?_) | refine n4 ?_ | refine n5 ?_ | refine n6 (hcf) ?_ | refine n6v (hcf) ?_ | refine WL_nil ?_ | refine W_seq ?_ | refine W_region ?_ | refine n7 ?_ | refine n8 ?_ | refine W_block ?_ | refine W_skip ?_ | refine W_ret ?_ | refine W_exit ?_ | refine WQ_then ?_ | refine WQ_then_ret ?_ | refine WQ_then_exit ?_ | refine WQ_block_normal ?_ | refine WQ_block_ret ?_ | refine WQ_block_exit ?_ | refine n9 ?_)
              ((apply ret0 (by first | exact .inl rfl | exact .inr rfl) Try.results105 ( ())); (focus (first | trivial | assumption | omega)); (focus (first | exact rfl | (simp; done))); (focus (repeat (first | exact SubO.nil _ | (apply SubO.cons; (focus (repeat' (first | exact Pick.head _ _ | apply Pick.tail))))))); (focus (repeat (first | exact AllE.nil _ | (apply AllE.cons; (focus (first | exact ent_nilBy | exact ent_nilSl | (apply Ent.mem; repeat' (first | exact mcs | apply mct)))))))))
          · have c3' : ¬ ext = 0 := fun h => c3 ((u8is (n := 0) (by decide)).1 h)
            obtain rfl : r = true := by simpa [own, c1', c2', c3'] using hr
            cases c4 : contB id with
            | true =>
              rw [c4] at hcf
              refine Ct_intro Try.func105 rfl Try.ntmps105 (by simp) _ rfl (fun w0 O0 => ?_)
              repeat (first | refine n1 ?_ | refine n2 (fun b _ => ?_) | refine n3 (fun _ _ => ?_) | refine n4 ?_ | refine n5 ?_ | refine n6 (hcf) ?_ | refine n6v (hcf) ?_ | refine WL_nil ?_ | refine W_seq ?_ | refine W_region ?_ | refine n7 ?_ | refine n8 ?_ | refine W_block ?_ | refine W_skip ?_ | refine W_ret ?_ | refine W_exit ?_ | refine WQ_then ?_ | refine WQ_then_ret ?_ | refine WQ_then_exit ?_ | refine WQ_block_normal ?_ | refine WQ_block_ret ?_ | refine WQ_block_exit ?_ | refine n9 ?_)
              ((apply ret0 (by first | exact .inl rfl | exact .inr rfl) Try.results105 ( ())); (focus (first | trivial | assumption | omega)); (focus (first | exact rfl | (simp; done))); (focus (repeat (first | exact SubO.nil _ | (apply SubO.cons; (focus (repeat' (first | exact Pick.head _ _ | apply Pick.tail))))))); (focus (repeat (first | exact AllE.nil _ | (apply AllE.cons; (focus (first | exact ent_nilBy | exact ent_nilSl | (apply Ent.mem; repeat' (first | exact mcs | apply mct)))))))))
            | false =>
              rw [c4] at hcf
              refine Ct_intro Try.func105 rfl Try.ntmps105 (by simp) _ rfl (fun w0 O0 => ?_)
              repeat (first | refine n1 ?_ | refine n2 (fun b _ => ?_) | refine n3 (fun _ _ => ?_) | refine n4 ?_ | refine n5 ?_ | refine n6 (hcf) ?_ | refine n6v (hcf) ?_ | refine WL_nil ?_ | refine W_seq ?_ | refine W_region ?_ | refine n7 ?_ | refine n8 ?_ | refine W_block ?_ | refine W_skip ?_ | refine W_ret ?_ | refine W_exit ?_ | refine WQ_then ?_ | refine WQ_then_ret ?_ | refine WQ_then_exit ?_ | refine WQ_block_normal ?_ | refine WQ_block_ret ?_ | refine WQ_block_exit ?_ | refine n9 ?_)
              ((apply ret0 (by first | exact .inl rfl | exact .inr rfl) Try.results105 ( ())); (focus (first | trivial | assumption | omega)); (focus (first | exact rfl | (simp; done))); (focus (repeat (first | exact SubO.nil _ | (apply SubO.cons; (focus (repeat' (first | exact Pick.head _ _ | apply Pick.tail))))))); (focus (repeat (first | exact AllE.nil _ | (apply AllE.cons; (focus (first | exact ent_nilBy | exact ent_nilSl | (apply Ent.mem; repeat' (first | exact mcs | apply mct)))))))))
end Go.Proofs.Ytoohgnegoaoleaa.C04

/-
  The program's walk over a list.
-/
namespace Go.Proofs.Ytoohgnegoaoleaa.C04
open Go Go.RowKit Go.Hs
attribute [local irreducible] WL W WQ PL Runs Effs AllE Ent SubO FrIn Pick OneC Ones CellsE PartsE SeqE UZ By Sl Pt Ct

set_option maxRecDepth 100000 in
set_option maxHeartbeats 8000000 in
theorem walk_fn (b1 b2 b3 : Nat) : ∀ (N : Nat) (t : T) (v : Value) (n m dp : Nat) (bb : Bool), t.size < N → n + cnt t.er ≤ 1000000 → m ≤ 1000000 → dp + 1 + dep t.er ≤ 1000000 → dp ≤ m →
    Ct Try.prog 104 [v, .int .i64 ((dp + 1 : Nat) : Int), .func (.func 105) #[] #[.pointer (some ⟨b1, 0, none⟩), .pointer (some ⟨b2, 0, none⟩), .pointer (some ⟨b3, 0, none⟩)]]
      [.blk b1 3 [.int .i64 (n : Int)], .blk b2 3 [.int .i64 (m : Int)], .blk b3 4 [.bool bb]] [Rw 4 v t.len t.at_, t.tf]
      (X := Unit) (fun _ => True) (fun _ => .tuple #[]) (fun _ => [.blk b1 3 [.int .i64 ((n + cnt t.er : Nat) : Int)], .blk b2 3 [.int .i64 ((max m (dp + dep t.er) : Nat) : Int)], .blk b3 4 [.bool (bb || ! val t.er)]]) (fun _ => []) := by
  intro N
  induction N with
  | zero => intro t v n m dp bb h; omega
  | succ N IH =>
    intro t v n m dp bb hN hn hm hd hdm
    have hlc := len_cnt t
    refine Ct_intro Try.func104 rfl Try.ntmps104 (by simp) _ rfl (fun w0 O0 => ?_)
    repeat (first | refine n1 ?_ | refine n2 (fun b _ => ?_) | refine n3 (fun _ _ => ?_) | refine n4 ?_ | refine n5 ?_ | refine WL_nil ?_ | refine W_seq ?_ | refine W_region ?_ | refine n7 ?_ | refine n8 ?_ | refine W_block ?_ | refine W_skip ?_ | refine W_ret ?_ | refine W_exit ?_ | refine WQ_then ?_ | refine WQ_then_ret ?_ | refine WQ_then_exit ?_ | refine WQ_block_normal ?_ | refine WQ_block_ret ?_ | refine WQ_block_exit ?_ | refine n9 ?_)
    ((apply W_loopK (X := Nat × Nat × Nat × Bool) [10] [0, 1, 2] (fun x => x.1 ≤ t.len ∧ x.2.1 + cnt (t.drop x.1).er = n + cnt t.er ∧ max x.2.2.1 (dp + dep (t.drop x.1).er) = max m (dp + dep t.er) ∧ (x.2.2.2 || ! val (t.drop x.1).er) = (bb || ! val t.er) ∧ x.2.2.1 ≤ 1000000 ∧ dp ≤ x.2.2.1) (fun x => [(10, .int .i64 (x.1 : Int))]) (fun x => [.blk b1 3 [.int .i64 (x.2.1 : Int)], .blk b2 3 [.int .i64 (x.2.2.1 : Int)], .blk b3 4 [.bool x.2.2.2]]) (fun _ => []) (fun x => t.len - x.1) ((0, n, m, bb))); (focus exact ⟨Nat.zero_le _, rfl, rfl, rfl, hm, hdm⟩); exact rfl; exact rfl; (intro _; exact rfl); (intro _; exact rfl); (intro _; exact rfl); (focus (repeat (first | exact FrIn.nil _ | (apply FrIn.cons; exact rfl; (first | exact rfl | (congr 1; first | omega | (dsimp only; omega)) | (simp; done)))))); (focus (repeat (first | exact SubO.nil _ | (apply SubO.cons; (focus (repeat' (first | exact Pick.head _ _ | apply Pick.tail))))))); (focus (repeat (first | exact AllE.nil _ | (apply AllE.cons; (focus (first | exact ent_nilBy | exact ent_nilSl | (apply Ent.mem; repeat' (first | exact mcs | apply mct)))))))); intro x hx)
    obtain ⟨k, nn, mm, rr⟩ := x
    obtain ⟨i1, i2, i3, i4, i5, i6⟩ := hx
    replace i1 : k ≤ t.len := i1
    replace i2 : nn + cnt (t.drop k).er = n + cnt t.er := i2
    replace i3 : max mm (dp + dep (t.drop k).er) = max m (dp + dep t.er) := i3
    replace i4 : (rr || ! val (t.drop k).er) = (bb || ! val t.er) := i4
    replace i5 : mm ≤ 1000000 := i5
    replace i6 : dp ≤ mm := i6
    dsimp only
    by_cases c0 : k < t.len
    · obtain ⟨id, ext, dv, data, sv, subs, next, e1⟩ := T.get c0
      rw [e1] at i2 i3 i4
      simp only [T.er, cnt, dep, val] at i2 i3 i4
      replace i3 := Kp.mk i3
      have a1 := T.at_cons e1
      have has := at_sub e1
      have hlt := T.drop_size e1
      refine W_ent (ent_tree (t := t) (by repeat' (first | exact mcs | apply mct)) e1).1 (W_ent (ent_tree (t := t) (by repeat' (first | exact mcs | apply mct)) e1).2.1 (W_ent (ent_tree (t := t) (by repeat' (first | exact mcs | apply mct)) e1).2.2 ?_))
      repeat (first | refine n1 ?_ | refine n2 (fun b _ => ?_) | refine n3 (fun _ _ => ?_) | refine n4 ?_ | refine n5 ?_ | refine WL_nil ?_ | refine W_seq ?_ | refine W_region ?_ | refine n7 ?_ | refine n8 ?_ | refine W_block ?_ | refine W_skip ?_ | refine W_ret ?_ | refine W_exit ?_ | refine WQ_then ?_ | refine WQ_then_ret ?_ | refine WQ_then_exit ?_ | refine WQ_block_normal ?_ | refine WQ_block_ret ?_ | refine WQ_block_exit ?_ | refine n9 ?_)
      apply WL_effs
      · exact rfl
      · exact rfl
      · exact rfl
      · apply E_callG (first := #[]) (captured := #[.pointer (some ⟨b1, 0, none⟩), .pointer (some ⟨b2, 0, none⟩), .pointer (some ⟨b3, 0, none⟩)])
        · exact rfl
        · exact rfl
        · exact rfl
        · intro _ _
          simp
        · exact visit_fn b1 b2 b3 nn mm (dp + 1) rr _ id ext dv data sv subs (by omega) i5 (by omega) rfl
        · exact perm3 (by repeat' (first | exact Pick.head _ _ | apply Pick.tail)) (by repeat' (first | exact Pick.head _ _ | apply Pick.tail)) (by repeat' (first | exact Pick.head _ _ | apply Pick.tail))
        · exact (by (repeat (first | exact AllE.nil _ | (apply AllE.cons; (focus (first | exact ent_nilBy | exact ent_nilSl | (apply Ent.mem; repeat' (first | exact mcs | apply mct))))))))
        · intro _
          exact rfl
        · intro _
          exact rfl
      intro _ _
      have hs := IH subs sv (nn + 1) (max mm (dp + 1)) (dp + 1) (rr || ! own id ext data subs.er) (by omega) (by omega) (by omega) (by omega) (by omega)
      rw [show (((dp + 1 + 1 : Nat)) : Int) = ((dp + 1 : Nat) : Int) + 1 by omega] at hs
      repeat (first | refine n1 ?_ | refine n2 (fun b _ => ?_) | refine n3 (fun _ _ => ?_) | refine n4 ?_ | refine n5 ?_ | refine WL_nil ?_ | refine W_seq ?_ | refine W_region ?_ | refine n7 ?_ | refine n8 ?_ | refine W_block ?_ | refine W_skip ?_ | refine W_ret ?_ | refine W_exit ?_ | refine WQ_then ?_ | refine WQ_then_ret ?_ | refine WQ_then_exit ?_ | refine WQ_block_normal ?_ | refine WQ_block_ret ?_ | refine WQ_block_exit ?_ | refine n9 ?_)
      (apply WL_effs; exact rfl; exact rfl; exact rfl; apply E_callO; exact rfl; (intro _ _; simp); exact hs; (first | (apply perm1; (focus (repeat' (first | exact Pick.head _ _ | apply Pick.tail)))) | (apply perm2; (focus (repeat' (first | exact Pick.head _ _ | apply Pick.tail))); (focus (repeat' (first | exact Pick.head _ _ | apply Pick.tail)))) | (apply perm3; (focus (repeat' (first | exact Pick.head _ _ | apply Pick.tail))); (focus (repeat' (first | exact Pick.head _ _ | apply Pick.tail))); (focus (repeat' (first | exact Pick.head _ _ | apply Pick.tail))))); (repeat (first | exact AllE.nil _ | (apply AllE.cons; (focus (first | exact ent_nilBy | exact ent_nilSl | (apply Ent.mem; repeat' (first | exact mcs | apply mct))))))); (intro _; exact rfl); (intro _; exact rfl))
      intro _ _
      repeat (first | refine n1 ?_ | refine n2 (fun b _ => ?_) | refine n3 (fun _ _ => ?_) | refine n4 ?_ | refine n5 ?_ | refine WL_nil ?_ | refine W_seq ?_ | refine W_region ?_ | refine n7 ?_ | refine n8 ?_ | refine W_block ?_ | refine W_skip ?_ | refine W_ret ?_ | refine W_exit ?_ | refine WQ_then ?_ | refine WQ_then_ret ?_ | refine WQ_then_exit ?_ | refine WQ_block_normal ?_ | refine WQ_block_ret ?_ | refine WQ_block_exit ?_ | refine n9 ?_)
      have hn' : k + 1 ≤ t.len ∧ (nn + 1 + cnt subs.er) + cnt (t.drop (k + 1)).er = n + cnt t.er ∧ max (max (max mm (dp + 1)) (dp + 1 + dep subs.er)) (dp + dep (t.drop (k + 1)).er) = max m (dp + dep t.er) ∧
          ((rr || ! own id ext data subs.er || ! val subs.er) || ! val (t.drop (k + 1)).er) = (bb || ! val t.er) ∧ max (max mm (dp + 1)) (dp + 1 + dep subs.er) ≤ 1000000 ∧ dp ≤ max (max mm (dp + 1)) (dp + 1 + dep subs.er) := by
        rw [T.drop_next e1]
        have i3 := i3.out
        refine ⟨c0, by omega, by omega, ?_, by omega, by omega⟩
        rw [← i4]
        cases rr <;> cases own id ext data subs.er <;> cases val subs.er <;> simp
      ((apply WQ_again ((k + 1, nn + 1 + cnt subs.er, max (max mm (dp + 1)) (dp + 1 + dep subs.er), (rr || ! own id ext data subs.er || ! val subs.er)))); (focus exact hn'); (focus (omega)); (focus (repeat (first | exact FrIn.nil _ | (apply FrIn.cons; exact rfl; (first | exact rfl | (congr 1; first | omega | (dsimp only; omega)) | (simp; done)))))); (focus (repeat (first | exact SubO.nil _ | (apply SubO.cons; (focus (repeat' (first | exact Pick.head _ _ | apply Pick.tail))))))); (focus (repeat (first | exact AllE.nil _ | (apply AllE.cons; (focus (first | exact ent_nilBy | exact ent_nilSl | (apply Ent.mem; repeat' (first | exact mcs | apply mct)))))))))
    · rw [drop_end (by omega)] at i2 i3 i4
      obtain rfl : nn = n + cnt t.er := by simpa [T.er, cnt] using i2
      obtain rfl : mm = max m (dp + dep t.er) := by
        simp only [T.er, dep] at i3
        omega
      obtain rfl : rr = (bb || ! val t.er) := by simpa [T.er, val] using i4
      repeat (first | refine n1 ?_ | refine n2 (fun b _ => ?_) | refine n3 (fun _ _ => ?_) | refine n4 ?_ | refine n5 ?_ | refine WL_nil ?_ | refine W_seq ?_ | refine W_region ?_ | refine n7 ?_ | refine n8 ?_ | refine W_block ?_ | refine W_skip ?_ | refine W_ret ?_ | refine W_exit ?_ | refine WQ_then ?_ | refine WQ_then_ret ?_ | refine WQ_then_exit ?_ | refine WQ_block_normal ?_ | refine WQ_block_ret ?_ | refine WQ_block_exit ?_ | refine n9 ?_)
      ((apply ret0 (by first | exact .inl rfl | exact .inr rfl) Try.results104 ( ())); (focus (first | trivial | assumption | omega)); (focus (first | exact rfl | (simp; done))); (focus (repeat (first | exact SubO.nil _ | (apply SubO.cons; (focus (repeat' (first | exact Pick.head _ _ | apply Pick.tail))))))); (focus (repeat (first | exact AllE.nil _ | (apply AllE.cons; (focus (first | exact ent_nilBy | exact ent_nilSl | (apply Ent.mem; repeat' (first | exact mcs | apply mct)))))))))
end Go.Proofs.Ytoohgnegoaoleaa.C04

/-
  The program's write: the iterator over the parts of a content.
-/
namespace Go.Proofs.Ytoohgnegoaoleaa.C04
open Go Go.RowKit Go.Hs
attribute [local irreducible] WL W WQ PL Runs Effs AllE Ent SubO FrIn Pick OneC Ones CellsE PartsE SeqE UZ By Sl Pt Ct

set_option maxRecDepth 100000 in
theorem parts_fn (dv : Value) (xs : List UInt8) : Ct Try.prog 106 [dv] [] [By dv xs]
    (X := Nat) (fun _ => True) (fun x => .func (.func 112) #[] #[.pointer (some ⟨x, 0, none⟩)]) (fun x => [.blk x 37 [dv]]) (fun _ => []) := by
  refine Ct_intro Try.func106 rfl Try.ntmps106 (by simp) _ rfl (fun w0 O0 => ?_)
  repeat (first | refine n1 ?_ | refine n2 (fun b _ => ?_) | refine n3 (fun _ _ => ?_) | refine n4 ?_ | refine n5 ?_ | refine WL_nil ?_ | refine W_seq ?_ | refine W_region ?_ | refine n7 ?_ | refine n8 ?_ | refine W_block ?_ | refine W_skip ?_ | refine W_ret ?_ | refine W_exit ?_ | refine WQ_then ?_ | refine WQ_then_ret ?_ | refine WQ_then_exit ?_ | refine WQ_block_normal ?_ | refine WQ_block_ret ?_ | refine WQ_block_exit ?_ | refine n9 ?_)
  ((apply ret1 Try.results106 ( b)); (focus (first | trivial | assumption | omega)); (focus (first | exact RV_tmp rfl | (apply RV_cellN; exact rfl; (repeat' (first | exact Pick.head _ _ | apply Pick.tail)); (intro _; exact rfl); (intro _; exact rfl); exact rfl) | (apply RV_cell1; exact rfl; (repeat' (first | exact Pick.head _ _ | apply Pick.tail)); (intro _; exact rfl); exact rfl)));  (focus (first | exact rfl | (simp; done))); (focus (repeat (first | exact SubO.nil _ | (apply SubO.cons; (focus (repeat' (first | exact Pick.head _ _ | apply Pick.tail))))))); (focus (repeat (first | exact AllE.nil _ | (apply AllE.cons; (focus (first | exact ent_nilBy | exact ent_nilSl | (apply Ent.mem; repeat' (first | exact mcs | apply mct)))))))))

set_option maxRecDepth 100000 in
set_option maxHeartbeats 4000000 in
theorem piter_fn {α : Type} (l b1 : Nat) (dv : Value) (xs : List UInt8) (hx : xs.length ≤ 1000000000) (YO : α → OA) (YS : α → SP) (inv : List UInt8 → α → Prop) (y0 : α) (h0 : inv xs y0)
    (step : α → Value × List UInt8 → α → Prop) (pre : α → Value × List UInt8 → Prop) (hpre1 : ∀ c y v, inv c y → 255 ≤ c.length → pre y (v, c.take 255)) (hpre2 : ∀ c y v, inv c y → c.length < 255 → pre y (v, c))
    (hstep : ∀ c y v y', inv c y → 255 ≤ c.length → step y (v, c.take 255) y' → inv (c.drop 255) y')
    (hY : ∀ y b, pre y b → Yc Try.prog l [b.1] [YO y] ([By b.1 b.2] ++ [YS y]) (X := α) (step y b) (fun _ => .bool true) (fun y' => [YO y']) (fun y' => [YS y'])) :
    Ct Try.prog 112 [.func (.yield l) #[] #[], .pointer (some ⟨b1, 0, none⟩)] [.blk b1 37 [dv], YO y0] [By dv xs, YS y0]
      (X := α) (fun x => ∃ c y v, inv c y ∧ c.length < 255 ∧ step y (v, c) x) (fun _ => .tuple #[]) (fun x => [YO x]) (fun x => [YS x]) := by
  refine Ct_intro Try.func112 rfl Try.ntmps112 (by simp) _ rfl (fun w0 O0 => ?_)
  refine W_seq (W_block ?_)
  ((apply W_loopK (X := List UInt8 × Value × α) [] [0, 1] (fun x => inv x.1 x.2.2 ∧ x.1.length ≤ 1000000000) (fun _ => []) (fun x => [.blk b1 37 [x.2.1], YO x.2.2]) (fun x => [By x.2.1 x.1, YS x.2.2]) (fun x => x.1.length) ((xs, dv, y0))); (focus exact ⟨h0, hx⟩); exact rfl; exact rfl; (intro _; exact rfl); (intro _; exact rfl); (intro _; exact rfl); (focus (repeat (first | exact FrIn.nil _ | (apply FrIn.cons; exact rfl; (first | exact rfl | (congr 1; first | omega | (dsimp only; omega)) | (simp; done)))))); (focus (repeat (first | exact SubO.nil _ | (apply SubO.cons; (focus (repeat' (first | exact Pick.head _ _ | apply Pick.tail))))))); (focus (repeat (first | exact AllE.nil _ | (apply AllE.cons; (focus (first | exact ent_nilBy | exact ent_nilSl | (apply Ent.mem; repeat' (first | exact mcs | apply mct)))))))); intro x hx)
  obtain ⟨c, v, y⟩ := x
  obtain ⟨hi, hl⟩ := hx
  replace hi : inv c y := hi
  replace hl : c.length ≤ 1000000000 := hl
  dsimp only
  by_cases h1 : 255 ≤ c.length
  · repeat (first | refine n1 ?_ | refine n2 (fun b _ => ?_) | refine n3 (fun _ _ => ?_) | refine n4 ?_ | refine n5 ?_ | refine WL_nil ?_ | refine W_seq ?_ | refine W_region ?_ | refine n7 ?_ | refine n8 ?_ | refine W_block ?_ | refine W_skip ?_ | refine W_ret ?_ | refine W_exit ?_ | refine WQ_then ?_ | refine WQ_then_ret ?_ | refine WQ_then_exit ?_ | refine WQ_block_normal ?_ | refine WQ_block_ret ?_ | refine WQ_block_exit ?_ | refine n9 ?_)
    apply WL_effs
    · exact rfl
    · exact rfl
    · exact rfl
    · apply E_yield (Γp := [YO y]) (Γr := [.blk b1 37 [v]])
      · exact rfl
      · exact rfl
      · exact hY y (_, c.take 255) (hpre1 c y _ hi h1)
      · exact List.Perm.swap _ _ _
      · exact (by (repeat (first | exact AllE.nil _ | (apply AllE.cons; (focus (first | exact ent_nilBy | exact ent_nilSl | (apply Ent.mem; repeat' (first | exact mcs | apply mct))))))))
      · intro _
        exact rfl
      · intro _
        exact rfl
    intro y' hst
    have hd := hstep c y _ y' hi h1 hst
    have hdl : (c.drop 255).length ≤ 1000000000 := by rw [List.length_drop]; omega
    have hlt : (c.drop 255).length < c.length := by rw [List.length_drop]; omega
    repeat (first | refine n1 ?_ | refine n2 (fun b _ => ?_) | refine n3 (fun _ _ => ?_) | refine n4 ?_ | refine n5 ?_ | refine WL_nil ?_ | refine W_seq ?_ | refine W_region ?_ | refine n7 ?_ | refine n8 ?_ | refine W_block ?_ | refine W_skip ?_ | refine W_ret ?_ | refine W_exit ?_ | refine WQ_then ?_ | refine WQ_then_ret ?_ | refine WQ_then_exit ?_ | refine WQ_block_normal ?_ | refine WQ_block_ret ?_ | refine WQ_block_exit ?_ | refine n9 ?_)
    rw [take_end]
    repeat (first | refine n1 ?_ | refine n2 (fun b _ => ?_) | refine n3 (fun _ _ => ?_) | refine n4 ?_ | refine n5 ?_ | refine WL_nil ?_ | refine W_seq ?_ | refine W_region ?_ | refine n7 ?_ | refine n8 ?_ | refine W_block ?_ | refine W_skip ?_ | refine W_ret ?_ | refine W_exit ?_ | refine WQ_then ?_ | refine WQ_then_ret ?_ | refine WQ_then_exit ?_ | refine WQ_block_normal ?_ | refine WQ_block_ret ?_ | refine WQ_block_exit ?_ | refine n9 ?_)
    ((apply WQ_again ((c.drop 255, cutV 1 255 c.length v, y'))); (focus exact ⟨hd, hdl⟩); (focus exact hlt); (focus (repeat (first | exact FrIn.nil _ | (apply FrIn.cons; exact rfl; (first | exact rfl | (congr 1; first | omega | (dsimp only; omega)) | (simp; done)))))); (focus (repeat (first | exact SubO.nil _ | (apply SubO.cons; (focus (repeat' (first | exact Pick.head _ _ | apply Pick.tail))))))); (focus (repeat (first | exact AllE.nil _ | (apply AllE.cons; (focus (first | exact ent_nilBy | exact ent_nilSl | (apply Ent.mem; repeat' (first | exact mcs | apply mct)))))))))
  · repeat (first | refine n1 ?_ | refine n2 (fun b _ => ?_) | refine n3 (fun _ _ => ?_) | refine n4 ?_ | refine n5 ?_ | refine WL_nil ?_ | refine W_seq ?_ | refine W_region ?_ | refine n7 ?_ | refine n8 ?_ | refine W_block ?_ | refine W_skip ?_ | refine W_ret ?_ | refine W_exit ?_ | refine WQ_then ?_ | refine WQ_then_ret ?_ | refine WQ_then_exit ?_ | refine WQ_block_normal ?_ | refine WQ_block_ret ?_ | refine WQ_block_exit ?_ | refine n9 ?_)
    apply WL_effs
    · exact rfl
    · exact rfl
    · exact rfl
    · apply E_yield (Γp := [YO y]) (Γr := [.blk b1 37 [v]])
      · exact rfl
      · exact rfl
      · exact hY y (v, c) (hpre2 c y _ hi (by omega))
      · exact List.Perm.swap _ _ _
      · exact (by (repeat (first | exact AllE.nil _ | (apply AllE.cons; (focus (first | exact ent_nilBy | exact ent_nilSl | (apply Ent.mem; repeat' (first | exact mcs | apply mct))))))))
      · intro _
        exact rfl
      · intro _
        exact rfl
    intro y' hst
    repeat (first | refine n1 ?_ | refine n2 (fun b _ => ?_) | refine n3 (fun _ _ => ?_) | refine n4 ?_ | refine n5 ?_ | refine WL_nil ?_ | refine W_seq ?_ | refine W_region ?_ | refine n7 ?_ | refine n8 ?_ | refine W_block ?_ | refine W_skip ?_ | refine W_ret ?_ | refine W_exit ?_ | refine WQ_then ?_ | refine WQ_then_ret ?_ | refine WQ_then_exit ?_ | refine WQ_block_normal ?_ | refine WQ_block_ret ?_ | refine WQ_block_exit ?_ | refine n9 ?_)
    have hfin : ∃ c y v, inv c y ∧ c.length < 255 ∧ step y (v, c) y' := ⟨c, y, v, hi, by omega, hst⟩
    ((apply ret0 (by first | exact .inl rfl | exact .inr rfl) Try.results112 ( y')); (focus (first | trivial | assumption | omega)); (focus (first | exact rfl | (simp; done))); (focus (repeat (first | exact SubO.nil _ | (apply SubO.cons; (focus (repeat' (first | exact Pick.head _ _ | apply Pick.tail))))))); (focus (repeat (first | exact AllE.nil _ | (apply AllE.cons; (focus (first | exact ent_nilBy | exact ent_nilSl | (apply Ent.mem; repeat' (first | exact mcs | apply mct)))))))))
end Go.Proofs.Ytoohgnegoaoleaa.C04

/-
  The program's write.
-/
namespace Go.Proofs.Ytoohgnegoaoleaa.C04
open Go Go.RowKit Go.Hs
attribute [local irreducible] WL W WQ PL Runs Effs AllE Ent SubO FrIn Pick OneC Ones CellsE PartsE SeqE UZ By Sl Pt Ct

structure WS where
  out : List UInt8
  ov : Value
  id : UInt8
def wY (b4 b11 : Nat) (y : WS) : List OA := [.blk b4 37 [y.ov], .row y.ov 5 1 y.out.length (y.out.map bcell), .blk b11 5 [bcell y.id]]
def wPre (y : WS) (b : Value × List UInt8) : Prop := b.2.length ≤ 255 ∧ y.out.length ≤ 130000000
def wStep (y : WS) (b : Value × List UInt8) (y' : WS) : Prop := y'.out = y.out ++ [y.id, UInt8.ofNat b.2.length] ++ b.2 ∧ y'.id = 254
def wInv (full : List UInt8) (c : List UInt8) (y : WS) : Prop := y.out ++ (y.id :: bod c.length c) = full ∧ full.length ≤ 130000000

def WriteCt (N : Nat) : Prop := ∀ (t : T) (v : Value), t.size < N → Sm t.er → Ct Try.prog 94 [v] [] [Rw 4 v t.len t.at_, t.tf]
    (X := Value) (fun _ => True) (fun x => .tuple #[x, .bool (fit t.er)]) (fun x => [.row x 5 1 (enc t.er).length ((enc t.er).map bcell)]) (fun _ => [])

set_option maxRecDepth 100000 in
set_option maxHeartbeats 8000000 in
theorem write_fn (N : Nat) : WriteCt N := by
  induction N with
  | zero => intro t v h; omega
  | succ N IH =>
    intro t v hN hsm
    have hE := hsm.enc_le
    have hlc := len_cnt t
    have hcn := hsm.1
    refine Ct_introM Try.func94 rfl Try.ntmps94 (by simp) _ rfl (fun w0 O0 => ?_)
    repeat (first | refine n1 ?_ | refine n2 (fun b _ => ?_) | refine n3 (fun _ _ => ?_) | refine n4 ?_ | refine n5 ?_ | refine WL_nil ?_ | refine W_seq ?_ | refine W_region ?_ | refine n7 ?_ | refine n8 ?_ | refine W_block ?_ | refine W_skip ?_ | refine W_ret ?_ | refine W_exit ?_ | refine WQ_then ?_ | refine WQ_then_ret ?_ | refine WQ_then_exit ?_ | refine WQ_block_normal ?_ | refine WQ_block_ret ?_ | refine WQ_block_exit ?_ | refine n9 ?_)
    obtain ⟨b4, rfl⟩ : ∃ b4, b4 = b := ⟨b, rfl⟩
    apply W_nilRow 5 1
    apply W_mark0
    ((apply W_loopKM (X := Nat × List UInt8 × Value × Bool × List Nat) (fun x => x.2.2.2.2) [15, 5] [0, 1, 2] (fun x => x.1 ≤ t.len ∧ x.2.1 ++ enc (t.drop x.1).er = enc t.er ∧ (x.2.2.2.1 && fit (t.drop x.1).er) = fit t.er) (fun x => [(15, .int .i64 (x.1 : Int)), (5, .bool x.2.2.2.1)]) (fun x => [pk (mkO x.2.2.2.2), .row x.2.2.1 5 1 x.2.1.length (x.2.1.map bcell), .blk b4 37 [x.2.2.1]]) (fun _ => []) (fun x => t.len - x.1) ((0, [], .slice none 0 0, true, []))); exact rfl; (focus exact ⟨Nat.zero_le _, rfl, rfl⟩); exact rfl; exact rfl; (intro _; exact rfl); (intro _; exact rfl); (intro _; exact rfl); (focus (repeat (first | exact FrIn.nil _ | (apply FrIn.cons; exact rfl; (first | exact rfl | (congr 1; first | omega | (dsimp only; omega)) | (simp; done)))))); (focus (repeat (first | exact SubO.nil _ | (apply SubO.cons; (focus (repeat' (first | exact Pick.head _ _ | apply Pick.tail))))))); (focus (repeat (first | exact AllE.nil _ | (apply AllE.cons; (focus (first | exact ent_nilBy | exact ent_nilSl | (apply Ent.mem; repeat' (first | exact mcs | apply mct)))))))); intro x hx)
    obtain ⟨k, out, ov, fb, Ds⟩ := x
    obtain ⟨hk, hi, hf⟩ := hx
    replace hk : k ≤ t.len := hk
    replace hi : out ++ enc (t.drop k).er = enc t.er := hi
    replace hf : (fb && fit (t.drop k).er) = fit t.er := hf
    dsimp only
    by_cases c0 : k < t.len
    · obtain ⟨id, ext, dv, data, sv, subs, next, e1⟩ := T.get c0
      have e2 : (t.drop k).er = .cons id ext data subs.er next.er := by rw [e1]; rfl
      rw [enc_drop e1, ← List.append_assoc] at hi
      rw [e2] at hf
      simp only [fit] at hf
      have a1 := T.at_cons e1
      have hin := inn_le hsm e1
      have hlt := T.drop_size e1
      have hcf := cont_fn id
      have hout : out.length ≤ 60000000 := by
        have := congrArg List.length hi
        simp only [List.length_append] at this
        omega
      refine W_ent (ent_tree (t := t) (by repeat' (first | exact mcs | apply mct)) e1).1 (W_ent (ent_tree (t := t) (by repeat' (first | exact mcs | apply mct)) e1).2.1 (W_ent (ent_tree (t := t) (by repeat' (first | exact mcs | apply mct)) e1).2.2 ?_))
      repeat (first | refine n1 ?_ | refine n2 (fun b _ => ?_) | refine n3 (fun _ _ => ?_) | refine n4 ?_ | refine n5 ?_ | refine n6 (hcf) ?_ | refine n6v (hcf) ?_ | refine WL_nil ?_ | refine W_seq ?_ | refine W_region ?_ | refine n7 ?_ | refine n8 ?_ | refine W_block ?_ | refine W_skip ?_ | refine W_ret ?_ | refine W_exit ?_ | refine WQ_then ?_ | refine WQ_then_ret ?_ | refine WQ_then_exit ?_ | refine WQ_block_normal ?_ | refine WQ_block_ret ?_ | refine WQ_block_exit ?_ | refine n9 ?_)
      ((apply W_cutKT (X := Value) [8, 5] [] (fun _ => True) (fun z => [(8, z), (5, .bool (fb && (! contB id || fit subs.er)))]) (fun _ => []) (fun z => [By z (inn id data (enc subs.er))])); exact rfl; exact rfl; (intro _; exact rfl); (intro _; exact rfl); (intro _; exact rfl))
      · cases c1 : contB id with
        | true =>
          rw [show inn id data (enc subs.er) = enc subs.er by rw [inn, c1]; rfl]
          repeat (first | refine n1 ?_ | refine n2 (fun b _ => ?_) | refine n3 (fun _ _ => ?_) | refine n4 ?_ | refine n5 ?_ | refine WL_nil ?_ | refine W_seq ?_ | refine W_region ?_ | refine n7 ?_ | refine n8 ?_ | refine W_block ?_ | refine W_skip ?_ | refine W_ret ?_ | refine W_exit ?_ | refine WQ_then ?_ | refine WQ_then_ret ?_ | refine WQ_then_exit ?_ | refine WQ_block_normal ?_ | refine WQ_block_ret ?_ | refine WQ_block_exit ?_ | refine n9 ?_)
          (apply WL_effs; exact rfl; exact rfl; exact rfl; apply E_call; exact rfl; (intro _ _; simp); (exact IH subs sv (by omega) (hsm.sub e1)); (repeat (first | exact AllE.nil _ | (apply AllE.cons; (focus (first | exact ent_nilBy | exact ent_nilSl | (apply Ent.mem; repeat' (first | exact mcs | apply mct))))))); (intro _; exact rfl); (intro _; exact rfl))
          intro z _
          refine WL_letgoB (v := z) (by repeat' (first | exact Pick.head _ _ | apply Pick.tail)) rfl ?_
          cases fb with
          | true =>
            repeat (first | refine n1 ?_ | refine n2 (fun b _ => ?_) | refine n3 (fun _ _ => ?_) | refine n4 ?_ | refine n5 ?_ | refine WL_nil ?_ | refine W_seq ?_ | refine W_region ?_ | refine n7 ?_ | refine n8 ?_ | refine W_block ?_ | refine W_skip ?_ | refine W_ret ?_ | refine W_exit ?_ | refine WQ_then ?_ | refine WQ_then_ret ?_ | refine WQ_then_exit ?_ | refine WQ_block_normal ?_ | refine WQ_block_ret ?_ | refine WQ_block_exit ?_ | refine n9 ?_)
            ((apply WQ_meet (z)); (focus (first | trivial | omega | assumption | exact ⟨by omega, by omega⟩ | (simp; done))); (focus (repeat (first | exact FrIn.nil _ | (apply FrIn.cons; exact rfl; (first | exact rfl | (congr 1; first | omega | (dsimp only; omega)) | (simp; done)))))); (focus (repeat (first | exact SubO.nil _ | (apply SubO.cons; (focus (repeat' (first | exact Pick.head _ _ | apply Pick.tail))))))); (focus (repeat (first | exact AllE.nil _ | (apply AllE.cons; (focus (first | exact ent_nilBy | exact ent_nilSl | (apply Ent.mem; repeat' (first | exact mcs | apply mct)))))))))
          | false =>
            repeat (first | refine n1 ?_ | refine n2 (fun b _ => ?_) | refine n3 (fun _ _ => ?_) | refine n4 ?_ | refine n5 ?_ | refine WL_nil ?_ | refine W_seq ?_ | refine W_region ?_ | refine n7 ?_ | refine n8 ?_ | refine W_block ?_ | refine W_skip ?_ | refine W_ret ?_ | refine W_exit ?_ | refine WQ_then ?_ | refine WQ_then_ret ?_ | refine WQ_then_exit ?_ | refine WQ_block_normal ?_ | refine WQ_block_ret ?_ | refine WQ_block_exit ?_ | refine n9 ?_)
            ((apply WQ_meet (z)); (focus (first | trivial | omega | assumption | exact ⟨by omega, by omega⟩ | (simp; done))); (focus (repeat (first | exact FrIn.nil _ | (apply FrIn.cons; exact rfl; (first | exact rfl | (congr 1; first | omega | (dsimp only; omega)) | (simp; done)))))); (focus (repeat (first | exact SubO.nil _ | (apply SubO.cons; (focus (repeat' (first | exact Pick.head _ _ | apply Pick.tail))))))); (focus (repeat (first | exact AllE.nil _ | (apply AllE.cons; (focus (first | exact ent_nilBy | exact ent_nilSl | (apply Ent.mem; repeat' (first | exact mcs | apply mct)))))))))
        | false =>
          rw [show inn id data (enc subs.er) = data by rw [inn, c1]; rfl]
          rw [show (fb && (!false || fit subs.er)) = fb by simp]
          repeat (first | refine n1 ?_ | refine n2 (fun b _ => ?_) | refine n3 (fun _ _ => ?_) | refine n4 ?_ | refine n5 ?_ | refine WL_nil ?_ | refine W_seq ?_ | refine W_region ?_ | refine n7 ?_ | refine n8 ?_ | refine W_block ?_ | refine W_skip ?_ | refine W_ret ?_ | refine W_exit ?_ | refine WQ_then ?_ | refine WQ_then_ret ?_ | refine WQ_then_exit ?_ | refine WQ_block_normal ?_ | refine WQ_block_ret ?_ | refine WQ_block_exit ?_ | refine n9 ?_)
          ((apply WQ_meet (dv)); (focus (first | trivial | omega | assumption | exact ⟨by omega, by omega⟩ | (simp; done))); (focus (repeat (first | exact FrIn.nil _ | (apply FrIn.cons; exact rfl; (first | exact rfl | (congr 1; first | omega | (dsimp only; omega)) | (simp; done)))))); (focus (repeat (first | exact SubO.nil _ | (apply SubO.cons; (focus (repeat' (first | exact Pick.head _ _ | apply Pick.tail))))))); (focus (repeat (first | exact AllE.nil _ | (apply AllE.cons; (focus (first | exact ent_nilBy | exact ent_nilSl | (apply Ent.mem; repeat' (first | exact mcs | apply mct)))))))))
      · intro z _
        ((apply W_cutK (X := Unit) [5] [] (fun _ => True) (fun _ => [(5, .bool (fb && (! contB id || fit subs.er) && decide ((inn id data (enc subs.er)).length ≤ 1024)))]) (fun _ => []) (fun _ => [])); exact rfl; exact rfl; (intro _; exact rfl); (intro _; exact rfl); (intro _; exact rfl))
        · generalize (fb && (! contB id || fit subs.er)) = f1
          cases f1 with
          | true =>
            by_cases c2 : (inn id data (enc subs.er)).length ≤ 1024
            · rw [decide_eq_true c2]
              repeat (first | refine n1 ?_ | refine n2 (fun b _ => ?_) | refine n3 (fun _ _ => ?_) | refine n4 ?_ | refine n5 ?_ | refine WL_nil ?_ | refine W_seq ?_ | refine W_region ?_ | refine n7 ?_ | refine n8 ?_ | refine W_block ?_ | refine W_skip ?_ | refine W_ret ?_ | refine W_exit ?_ | refine WQ_then ?_ | refine WQ_then_ret ?_ | refine WQ_then_exit ?_ | refine WQ_block_normal ?_ | refine WQ_block_ret ?_ | refine WQ_block_exit ?_ | refine n9 ?_)
              ((apply WQ_meet (())); (focus (first | trivial | omega | assumption | exact ⟨by omega, by omega⟩ | (simp; done))); (focus (repeat (first | exact FrIn.nil _ | (apply FrIn.cons; exact rfl; (first | exact rfl | (congr 1; first | omega | (dsimp only; omega)) | (simp; done)))))); (focus (repeat (first | exact SubO.nil _ | (apply SubO.cons; (focus (repeat' (first | exact Pick.head _ _ | apply Pick.tail))))))); (focus (repeat (first | exact AllE.nil _ | (apply AllE.cons; (focus (first | exact ent_nilBy | exact ent_nilSl | (apply Ent.mem; repeat' (first | exact mcs | apply mct)))))))))
            · rw [decide_eq_false c2]
              repeat (first | refine n1 ?_ | refine n2 (fun b _ => ?_) | refine n3 (fun _ _ => ?_) | refine n4 ?_ | refine n5 ?_ | refine WL_nil ?_ | refine W_seq ?_ | refine W_region ?_ | refine n7 ?_ | refine n8 ?_ | refine W_block ?_ | refine W_skip ?_ | refine W_ret ?_ | refine W_exit ?_ | refine WQ_then ?_ | refine WQ_then_ret ?_ | refine WQ_then_exit ?_ | refine WQ_block_normal ?_ | refine WQ_block_ret ?_ | refine WQ_block_exit ?_ | refine n9 ?_)
              ((apply WQ_meet (())); (focus (first | trivial | omega | assumption | exact ⟨by omega, by omega⟩ | (simp; done))); (focus (repeat (first | exact FrIn.nil _ | (apply FrIn.cons; exact rfl; (first | exact rfl | (congr 1; first | omega | (dsimp only; omega)) | (simp; done)))))); (focus (repeat (first | exact SubO.nil _ | (apply SubO.cons; (focus (repeat' (first | exact Pick.head _ _ | apply Pick.tail))))))); (focus (repeat (first | exact AllE.nil _ | (apply AllE.cons; (focus (first | exact ent_nilBy | exact ent_nilSl | (apply Ent.mem; repeat' (first | exact mcs | apply mct)))))))))
          | false =>
            repeat (first | refine n1 ?_ | refine n2 (fun b _ => ?_) | refine n3 (fun _ _ => ?_) | refine n4 ?_ | refine n5 ?_ | refine WL_nil ?_ | refine W_seq ?_ | refine W_region ?_ | refine n7 ?_ | refine n8 ?_ | refine W_block ?_ | refine W_skip ?_ | refine W_ret ?_ | refine W_exit ?_ | refine WQ_then ?_ | refine WQ_then_ret ?_ | refine WQ_then_exit ?_ | refine WQ_block_normal ?_ | refine WQ_block_ret ?_ | refine WQ_block_exit ?_ | refine n9 ?_)
            ((apply WQ_meet (())); (focus (first | trivial | omega | assumption | exact ⟨by omega, by omega⟩ | (simp; done))); (focus (repeat (first | exact FrIn.nil _ | (apply FrIn.cons; exact rfl; (first | exact rfl | (congr 1; first | omega | (dsimp only; omega)) | (simp; done)))))); (focus (repeat (first | exact SubO.nil _ | (apply SubO.cons; (focus (repeat' (first | exact Pick.head _ _ | apply Pick.tail))))))); (focus (repeat (first | exact AllE.nil _ | (apply AllE.cons; (focus (first | exact ent_nilBy | exact ent_nilSl | (apply Ent.mem; repeat' (first | exact mcs | apply mct)))))))))
        · intro _ _
          repeat (first | refine n1 ?_ | refine n2 (fun b _ => ?_) | refine n3 (fun _ _ => ?_) | refine n4 ?_ | refine n5 ?_ | refine WL_nil ?_ | refine W_seq ?_ | refine W_region ?_ | refine n7 ?_ | refine n8 ?_ | refine W_block ?_ | refine W_skip ?_ | refine W_ret ?_ | refine W_exit ?_ | refine WQ_then ?_ | refine WQ_then_ret ?_ | refine WQ_then_exit ?_ | refine WQ_block_normal ?_ | refine WQ_block_ret ?_ | refine WQ_block_exit ?_ | refine n9 ?_)
          ((apply W_cutKT (X := Value) [8] [] (fun _ => True) (fun q => [(8, q)]) (fun _ => []) (fun q => [By q (withX id ext (inn id data (enc subs.er)))])); exact rfl; exact rfl; (intro _; exact rfl); (intro _; exact rfl); (intro _; exact rfl))
          · refine W_cond_d (p := (id.toNat : Int) = 255) rfl (fun h => ?_) (fun h => ?_)
            · have hw : withX id ext (inn id data (enc subs.er)) = ext :: inn id data (enc subs.er) := if_pos ((u8is (n := 255) (by decide)).2 (by omega))
              rw [hw]
              have l1 : 1 + (inn id data (enc subs.er)).length = (ext :: inn id data (enc subs.er)).length := by rw [List.length_cons, Nat.add_comm]
              repeat (first | refine n1 ?_ | refine n2 (fun b _ => ?_) | refine n3 (fun _ _ => ?_) | refine n4 ?_ | refine n5 ?_ | refine WL_nil ?_ | refine W_seq ?_ | refine W_region ?_ | refine n7 ?_ | refine n8 ?_ | refine W_block ?_ | refine W_skip ?_ | refine W_ret ?_ | refine W_exit ?_ | refine WQ_then ?_ | refine WQ_then_ret ?_ | refine WQ_then_exit ?_ | refine WQ_block_normal ?_ | refine WQ_block_ret ?_ | refine WQ_block_exit ?_ | refine n9 ?_)
              (apply WL_effs; exact rfl; exact rfl; exact rfl; (apply E_buildSlice; exact rfl; (focus (repeat (first | apply SeqE.nil | (apply SeqE.cons; exact rfl; (focus (first | (apply CellsE.lit; exact rfl) | (apply CellsE.one; (first | (apply OneC.lit; exact rfl) | (apply OneC.by_; (repeat' (first | exact mcs | apply mct)); done) | (apply OneC.sl; (repeat' (first | exact mcs | apply mct)); done) | (apply OneC.rw; (repeat' (first | exact mcs | apply mct)); done) | (apply OneC.row; (repeat' (first | exact Pick.head _ _ | apply Pick.tail))))))); exact rfl) | exact rfl))); exact rfl; (first | (intro _; exact (rfl : _ = Result.ok 1 _)) | (intro _; exact (rfl : _ = Result.ok 2 _)) | (intro _; exact (rfl : _ = Result.ok 3 _)) | (intro _; exact (rfl : _ = Result.ok 4 _)) | (intro _; exact (rfl : _ = Result.ok 5 _)) | (intro _; exact (rfl : _ = Result.ok 6 _)) | (intro _; exact (rfl : _ = Result.ok 7 _)) | (intro _; exact (rfl : _ = Result.ok 8 _)) | (intro _; exact (rfl : _ = Result.ok 9 _)) | (intro _; exact (rfl : _ = Result.ok 13 _)) | (intro _; exact (rfl : _ = Result.ok 14 _)) | (intro _; exact (rfl : _ = Result.ok 26 _)) | (intro _; exact (rfl : _ = Result.ok 40 _)) | (intro _; exact (rfl : _ = Result.ok 41 _)) | (intro _; exact (rfl : _ = Result.ok 42 _)) | (intro _; exact (rfl : _ = Result.ok 43 _)) | (intro _; exact (rfl : _ = Result.ok 44 _)) | (intro _; exact (rfl : _ = Result.ok 45 _)) | (intro _; exact (rfl : _ = Result.ok 46 _))); (intro _; exact rfl); exact rfl; exact Nat.le_of_ble_eq_true rfl; exact Nat.le_of_ble_eq_true rfl); skip)
              intro q1 _
              repeat (first | refine n1 ?_ | refine n2 (fun b _ => ?_) | refine n3 (fun _ _ => ?_) | refine n4 ?_ | refine n5 ?_ | refine WL_nil ?_ | refine W_seq ?_ | refine W_region ?_ | refine n7 ?_ | refine n8 ?_ | refine W_block ?_ | refine W_skip ?_ | refine W_ret ?_ | refine W_exit ?_ | refine WQ_then ?_ | refine WQ_then_ret ?_ | refine WQ_then_exit ?_ | refine WQ_block_normal ?_ | refine WQ_block_ret ?_ | refine WQ_block_exit ?_ | refine n9 ?_)
              refine WL_effs rfl rfl rfl (E_appendBy (bs := [ext]) rfl rfl (by repeat' (first | exact Pick.head _ _ | apply Pick.tail)) (by repeat' (first | exact mcs | apply mct)) rfl rfl rfl rfl rfl rfl (Nat.le_of_ble_eq_true rfl) (by omega) l1 rfl) ?_
              intro c3 _
              refine WL_letgoB (v := c3) (by repeat' (first | exact Pick.head _ _ | apply Pick.tail)) rfl ?_
              repeat (first | refine n1 ?_ | refine n2 (fun b _ => ?_) | refine n3 (fun _ _ => ?_) | refine n4 ?_ | refine n5 ?_ | refine WL_nil ?_ | refine W_seq ?_ | refine W_region ?_ | refine n7 ?_ | refine n8 ?_ | refine W_block ?_ | refine W_skip ?_ | refine W_ret ?_ | refine W_exit ?_ | refine WQ_then ?_ | refine WQ_then_ret ?_ | refine WQ_then_exit ?_ | refine WQ_block_normal ?_ | refine WQ_block_ret ?_ | refine WQ_block_exit ?_ | refine n9 ?_)
              ((apply WQ_meet (c3)); (focus (first | trivial | omega | assumption | exact ⟨by omega, by omega⟩ | (simp; done))); (focus (repeat (first | exact FrIn.nil _ | (apply FrIn.cons; exact rfl; (first | exact rfl | (congr 1; first | omega | (dsimp only; omega)) | (simp; done)))))); (focus (repeat (first | exact SubO.nil _ | (apply SubO.cons; (focus (repeat' (first | exact Pick.head _ _ | apply Pick.tail))))))); (focus (repeat (first | exact AllE.nil _ | (apply AllE.cons; (focus (first | exact ent_nilBy | exact ent_nilSl | (apply Ent.mem; repeat' (first | exact mcs | apply mct)))))))))
            · have hw : withX id ext (inn id data (enc subs.er)) = inn id data (enc subs.er) := if_neg (fun h' => h (by rw [h']; rfl))
              rw [hw]
              repeat (first | refine n1 ?_ | refine n2 (fun b _ => ?_) | refine n3 (fun _ _ => ?_) | refine n4 ?_ | refine n5 ?_ | refine WL_nil ?_ | refine W_seq ?_ | refine W_region ?_ | refine n7 ?_ | refine n8 ?_ | refine W_block ?_ | refine W_skip ?_ | refine W_ret ?_ | refine W_exit ?_ | refine WQ_then ?_ | refine WQ_then_ret ?_ | refine WQ_then_exit ?_ | refine WQ_block_normal ?_ | refine WQ_block_ret ?_ | refine WQ_block_exit ?_ | refine n9 ?_)
              ((apply WQ_meet (z)); (focus (first | trivial | omega | assumption | exact ⟨by omega, by omega⟩ | (simp; done))); (focus (repeat (first | exact FrIn.nil _ | (apply FrIn.cons; exact rfl; (first | exact rfl | (congr 1; first | omega | (dsimp only; omega)) | (simp; done)))))); (focus (repeat (first | exact SubO.nil _ | (apply SubO.cons; (focus (repeat' (first | exact Pick.head _ _ | apply Pick.tail))))))); (focus (repeat (first | exact AllE.nil _ | (apply AllE.cons; (focus (first | exact ent_nilBy | exact ent_nilSl | (apply Ent.mem; repeat' (first | exact mcs | apply mct)))))))))
          · intro cv _
            have hwl : (withX id ext (inn id data (enc subs.er))).length ≤ 60000001 := by
              unfold withX
              split
              · simp only [List.length_cons]; omega
              · omega
            generalize hc : withX id ext (inn id data (enc subs.er)) = c at hi hwl ⊢
            generalize hf2 : (fb && (! contB id || fit subs.er) && decide ((inn id data (enc subs.er)).length ≤ 1024)) = f2
            have hf' : (f2 && fit (t.drop (k + 1)).er) = fit t.er := by
              rw [T.drop_next e1, ← hf2, ← hf]
              cases fb <;> cases contB id <;> cases fit subs.er <;> cases decide ((inn id data (enc subs.er)).length ≤ 1024) <;> simp
            have hfull : (out ++ (id :: bod c.length c)).length ≤ 130000000 := by
              have h1 := congrArg List.length hi
              simp only [List.length_append] at h1 ⊢
              omega
            repeat (first | refine n1 ?_ | refine n2 (fun b _ => ?_) | refine n3 (fun _ _ => ?_) | refine n4 ?_ | refine n5 ?_ | refine WL_nil ?_ | refine W_seq ?_ | refine W_region ?_ | refine n7 ?_ | refine n8 ?_ | refine W_block ?_ | refine W_skip ?_ | refine W_ret ?_ | refine W_exit ?_ | refine WQ_then ?_ | refine WQ_then_ret ?_ | refine WQ_then_exit ?_ | refine WQ_block_normal ?_ | refine WQ_block_ret ?_ | refine WQ_block_exit ?_ | refine n9 ?_)
            obtain ⟨b11, rfl⟩ : ∃ b11, b11 = b := ⟨b, rfl⟩
            (apply WL_effs; exact rfl; exact rfl; exact rfl; apply E_call; exact rfl; (intro _ _; simp); exact parts_fn cv c; (repeat (first | exact AllE.nil _ | (apply AllE.cons; (focus (first | exact ent_nilBy | exact ent_nilSl | (apply Ent.mem; repeat' (first | exact mcs | apply mct))))))); (intro _; exact rfl); (intro _; exact rfl))
            intro bp _
            repeat (first | refine n1 ?_ | refine n2 (fun b _ => ?_) | refine n3 (fun _ _ => ?_) | refine n4 ?_ | refine n5 ?_ | refine WL_nil ?_ | refine W_seq ?_ | refine W_region ?_ | refine n7 ?_ | refine n8 ?_ | refine W_block ?_ | refine W_skip ?_ | refine W_ret ?_ | refine W_exit ?_ | refine WQ_then ?_ | refine WQ_then_ret ?_ | refine WQ_then_exit ?_ | refine WQ_block_normal ?_ | refine WQ_block_ret ?_ | refine WQ_block_exit ?_ | refine n9 ?_)
            refine W_weak [(52, .func (.func 112) #[] #[.pointer (some ⟨bp, 0, none⟩)]), (4, .pointer (some ⟨b4, 0, none⟩)), (11, .pointer (some ⟨b11, 0, none⟩)), (5, .bool f2), (13, v), (14, .int .i64 (t.len : Int)), (15, .int .i64 (k : Int)), (3, .bool false), (2, .slice none 0 0), (0, v)]
              ([.blk bp 37 [cv]] ++ (wY b4 b11 ⟨out, ov, id⟩ ++ [pk (mkO Ds)])) [By cv c, Rw 4 v t.len t.at_, t.tf] (by repeat (first | exact FrIn.nil _ | (apply FrIn.cons; exact rfl; (first | exact rfl | (congr 1; first | omega | (dsimp only; omega)) | (simp; done))))) (by (repeat (first | exact SubO.nil _ | (apply SubO.cons; (focus (repeat' (first | exact Pick.head _ _ | apply Pick.tail))))))) (by (repeat (first | exact AllE.nil _ | (apply AllE.cons; (focus (first | exact ent_nilBy | exact ent_nilSl | (apply Ent.mem; repeat' (first | exact mcs | apply mct)))))))) ?_
            refine W_rangeFunc (α := WS) (β := Value × List UInt8) (wY b4 b11) (fun _ => []) (fun _ => none) ⟨out, ov, id⟩ (fun b => b.1) (fun b => [By b.1 b.2]) wPre wStep
              (fun b => [(12, b.1), (4, .pointer (some ⟨b4, 0, none⟩)), (11, .pointer (some ⟨b11, 0, none⟩))])
              (Γi := [.blk bp 37 [cv]]) (Γr := [pk (mkO Ds)]) (Φi := [By cv c])
              (X := WS) (pf := fun x => ∃ c' y v, wInv (out ++ (id :: bod c.length c)) c' y ∧ c'.length < 255 ∧ wStep y (v, c') x) (ret := fun _ => .tuple #[]) (yx := fun x => x) (Γ' := fun _ => []) (Φ' := fun _ => [])
              rfl (by intro _ _; simp) rfl (.refl _) (by (repeat (first | exact AllE.nil _ | (apply AllE.cons; (focus (first | exact ent_nilBy | exact ent_nilSl | (apply Ent.mem; repeat' (first | exact mcs | apply mct)))))))) (by (repeat (first | exact AllE.nil _ | (apply AllE.cons; (focus (first | exact ent_nilBy | exact ent_nilSl | (apply Ent.mem; repeat' (first | exact mcs | apply mct)))))))) rfl ?_ ?_ ?_ ?_ ?_
            · intro y b hb
              rfl
            · intro l y b hb w0 O0 M o
              repeat (first | refine n1 ?_ | refine n2 (fun b _ => ?_) | refine n3 (fun _ _ => ?_) | refine n4 ?_ | refine n5 ?_ | refine WL_nil ?_ | refine W_seq ?_ | refine W_region ?_ | refine n7 ?_ | refine n8 ?_ | refine W_block ?_ | refine W_skip ?_ | refine W_ret ?_ | refine W_exit ?_ | refine WQ_then ?_ | refine WQ_then_ret ?_ | refine WQ_then_exit ?_ | refine WQ_block_normal ?_ | refine WQ_block_ret ?_ | refine WQ_block_exit ?_ | refine n9 ?_)
              exact WQ_assign (by repeat (first | exact FrIn.nil _ | (apply FrIn.cons; exact rfl; (first | exact rfl | (congr 1; first | omega | (dsimp only; omega)) | (simp; done))))) (by (repeat (first | exact SubO.nil _ | (apply SubO.cons; (focus (repeat' (first | exact Pick.head _ _ | apply Pick.tail))))))) (by (repeat (first | exact AllE.nil _ | (apply AllE.cons; (focus (first | exact ent_nilBy | exact ent_nilSl | (apply Ent.mem; repeat' (first | exact mcs | apply mct))))))))
            · intro l y b hb w0 O0 M o
              obtain ⟨u, uv, i2⟩ := y
              obtain ⟨pv, p⟩ := b
              obtain ⟨h1, h2⟩ := hb
              replace h1 : p.length ≤ 255 := h1
              replace h2 : u.length ≤ 130000000 := h2
              dsimp only [wY, List.cons_append, List.nil_append]
              repeat (first | refine n1 ?_ | refine n2 (fun b _ => ?_) | refine n3 (fun _ _ => ?_) | refine n4 ?_ | refine n5 ?_ | refine WL_nil ?_ | refine W_seq ?_ | refine W_region ?_ | refine n7 ?_ | refine n8 ?_ | refine W_block ?_ | refine W_skip ?_ | refine W_ret ?_ | refine W_exit ?_ | refine WQ_then ?_ | refine WQ_then_ret ?_ | refine WQ_then_exit ?_ | refine WQ_block_normal ?_ | refine WQ_block_ret ?_ | refine WQ_block_exit ?_ | refine n9 ?_)
              (apply WL_effs; exact rfl; exact rfl; exact rfl; (apply E_buildSlice; exact rfl; (focus (repeat (first | apply SeqE.nil | (apply SeqE.cons; exact rfl; (focus (first | (apply CellsE.lit; exact rfl) | (apply CellsE.one; (first | (apply OneC.lit; exact rfl) | (apply OneC.by_; (repeat' (first | exact mcs | apply mct)); done) | (apply OneC.sl; (repeat' (first | exact mcs | apply mct)); done) | (apply OneC.rw; (repeat' (first | exact mcs | apply mct)); done) | (apply OneC.row; (repeat' (first | exact Pick.head _ _ | apply Pick.tail))))))); exact rfl) | exact rfl))); exact rfl; (first | (intro _; exact (rfl : _ = Result.ok 1 _)) | (intro _; exact (rfl : _ = Result.ok 2 _)) | (intro _; exact (rfl : _ = Result.ok 3 _)) | (intro _; exact (rfl : _ = Result.ok 4 _)) | (intro _; exact (rfl : _ = Result.ok 5 _)) | (intro _; exact (rfl : _ = Result.ok 6 _)) | (intro _; exact (rfl : _ = Result.ok 7 _)) | (intro _; exact (rfl : _ = Result.ok 8 _)) | (intro _; exact (rfl : _ = Result.ok 9 _)) | (intro _; exact (rfl : _ = Result.ok 13 _)) | (intro _; exact (rfl : _ = Result.ok 14 _)) | (intro _; exact (rfl : _ = Result.ok 26 _)) | (intro _; exact (rfl : _ = Result.ok 40 _)) | (intro _; exact (rfl : _ = Result.ok 41 _)) | (intro _; exact (rfl : _ = Result.ok 42 _)) | (intro _; exact (rfl : _ = Result.ok 43 _)) | (intro _; exact (rfl : _ = Result.ok 44 _)) | (intro _; exact (rfl : _ = Result.ok 45 _)) | (intro _; exact (rfl : _ = Result.ok 46 _))); (intro _; exact rfl); exact rfl; exact Nat.le_of_ble_eq_true rfl; exact Nat.le_of_ble_eq_true rfl); skip)
              intro q1 _
              have l1 : u.length + 2 = (u ++ [i2, UInt8.ofNat p.length]).length := by simp
              have l2 : (u ++ [i2, UInt8.ofNat p.length]).length + p.length = (u ++ [i2, UInt8.ofNat p.length] ++ p).length := by simp only [List.length_append]
              have l3 : (u ++ [i2, UInt8.ofNat p.length]).length + p.length ≤ 140000000 := by simp only [List.length_append, List.length_cons, List.length_nil]; omega
              have cc : [bcell i2, Value.int .u8 (p.length : Int)] = [i2, UInt8.ofNat p.length].map bcell := by
                simp only [List.map_cons, List.map_nil, bcell, UInt8.toNat_ofNat']
                rw [Nat.mod_eq_of_lt (by omega)]
              refine WL_effs rfl rfl rfl (E_appendRowB (bs := u) (news := [i2, UInt8.ofNat p.length]) rfl rfl (by repeat' (first | exact Pick.head _ _ | apply Pick.tail)) (by repeat' (first | exact Pick.head _ _ | apply Pick.tail)) rfl cc rfl rfl rfl rfl rfl (Nat.le_of_ble_eq_true rfl) (by omega) l1 rfl) ?_
              intro o2 _
              repeat (first | refine n1 ?_ | refine n2 (fun b _ => ?_) | refine n3 (fun _ _ => ?_) | refine n4 ?_ | refine n5 ?_ | refine WL_nil ?_ | refine W_seq ?_ | refine W_region ?_ | refine n7 ?_ | refine n8 ?_ | refine W_block ?_ | refine W_skip ?_ | refine W_ret ?_ | refine W_exit ?_ | refine WQ_then ?_ | refine WQ_then_ret ?_ | refine WQ_then_exit ?_ | refine WQ_block_normal ?_ | refine WQ_block_ret ?_ | refine WQ_block_exit ?_ | refine n9 ?_)
              refine WL_effs rfl rfl rfl (E_appendBy (bs := u ++ [i2, UInt8.ofNat p.length]) rfl rfl (by repeat' (first | exact Pick.head _ _ | apply Pick.tail)) (by repeat' (first | exact mcs | apply mct)) rfl rfl rfl rfl rfl rfl (Nat.le_of_ble_eq_true rfl) (by omega) l2 rfl) ?_
              intro o3 _
              refine WL_do rfl rfl (E_store (us := [o3]) rfl rfl (by repeat' (first | exact Pick.head _ _ | apply Pick.tail)) (CellsE.one (OneC.row (by repeat' (first | exact Pick.head _ _ | apply Pick.tail)))) (by intro _; rfl) (Ones.cons (OneC.row (by repeat' (first | exact Pick.head _ _ | apply Pick.tail))) Ones.nil) rfl) ?_
              intro _ _
              repeat (first | refine n1 ?_ | refine n2 (fun b _ => ?_) | refine n3 (fun _ _ => ?_) | refine n4 ?_ | refine n5 ?_ | refine WL_nil ?_ | refine W_seq ?_ | refine W_region ?_ | refine n7 ?_ | refine n8 ?_ | refine W_block ?_ | refine W_skip ?_ | refine W_ret ?_ | refine W_exit ?_ | refine WQ_then ?_ | refine WQ_then_ret ?_ | refine WQ_then_exit ?_ | refine WQ_block_normal ?_ | refine WQ_block_ret ?_ | refine WQ_block_exit ?_ | refine n9 ?_)
              exact WQ_round ⟨u ++ [i2, UInt8.ofNat p.length] ++ p, o3, 254⟩ ⟨rfl, rfl⟩ rfl (by (repeat (first | exact SubO.nil _ | (apply SubO.cons; (focus (repeat' (first | exact Pick.head _ _ | apply Pick.tail))))))) (by (repeat (first | exact AllE.nil _ | (apply AllE.cons; (focus (first | exact ent_nilBy | exact ent_nilSl | (apply Ent.mem; repeat' (first | exact mcs | apply mct))))))))
            · intro l YO YS hY
              exact piter_fn l bp cv c (by omega) YO YS (wInv (out ++ (id :: bod c.length c))) ⟨out, ov, id⟩ ⟨rfl, hfull⟩ wStep wPre
                (fun c' y v ⟨h1, h2⟩ h3 => ⟨by rw [List.length_take]; omega, by rw [← h1] at h2; simp only [List.length_append] at h2; omega⟩)
                (fun c' y v ⟨h1, h2⟩ h3 => ⟨by show c'.length ≤ 255; omega, by rw [← h1] at h2; simp only [List.length_append] at h2; omega⟩)
                (fun c' y v y' ⟨h1, h2⟩ h3 ⟨h4, h5⟩ => ⟨by
                  rw [h4, h5, ← h1, bod_big h3]
                  have : (c'.take 255).length = 255 := by rw [List.length_take]; omega
                  simp [this], h2⟩) hY
            · intro D x hx
              obtain ⟨c', y, pv, ⟨h1, h2⟩, h3, h4, h5⟩ := hx
              refine ⟨fun _ => ?_, fun c hc => by cases hc⟩
              dsimp only [wY, List.cons_append, List.nil_append]
              refine WQ_mark (x := ob D (.deferred (some []))) (Δ := mkO Ds) (by repeat' (first | exact Pick.head _ _ | apply Pick.tail)) (by repeat' (first | exact Pick.head _ _ | apply Pick.tail)) ?_
              have hn' : x.out ++ enc (t.drop (k + 1)).er = enc t.er := by
                rw [← hi, h4, ← h1, bod_small h3]
                simp
              repeat (first | refine n1 ?_ | refine n2 (fun b _ => ?_) | refine n3 (fun _ _ => ?_) | refine n4 ?_ | refine n5 ?_ | refine WL_nil ?_ | refine W_seq ?_ | refine W_region ?_ | refine n7 ?_ | refine n8 ?_ | refine W_block ?_ | refine W_skip ?_ | refine W_ret ?_ | refine W_exit ?_ | refine WQ_then ?_ | refine WQ_then_ret ?_ | refine WQ_then_exit ?_ | refine WQ_block_normal ?_ | refine WQ_block_ret ?_ | refine WQ_block_exit ?_ | refine n9 ?_)
              ((apply WQ_againM ((k + 1, x.out, x.ov, f2, D :: Ds))); exact rfl; (focus exact ⟨c0, hn', hf'⟩); (focus (omega)); (focus (repeat (first | exact FrIn.nil _ | (apply FrIn.cons; exact rfl; (first | exact rfl | (congr 1; first | omega | (dsimp only; omega)) | (simp; done)))))); (focus (repeat (first | exact SubO.nil _ | (apply SubO.cons; (focus (repeat' (first | exact Pick.head _ _ | apply Pick.tail))))))); (focus (repeat (first | exact AllE.nil _ | (apply AllE.cons; (focus (first | exact ent_nilBy | exact ent_nilSl | (apply Ent.mem; repeat' (first | exact mcs | apply mct)))))))))
    · rw [drop_end (by omega)] at hi hf
      obtain rfl : out = enc t.er := by simpa [T.er, enc] using hi
      obtain rfl : fb = fit t.er := by simpa [T.er, fit] using hf
      repeat (first | refine n1 ?_ | refine n2 (fun b _ => ?_) | refine n3 (fun _ _ => ?_) | refine n4 ?_ | refine n5 ?_ | refine WL_nil ?_ | refine W_seq ?_ | refine W_region ?_ | refine n7 ?_ | refine n8 ?_ | refine W_block ?_ | refine W_skip ?_ | refine W_ret ?_ | refine W_exit ?_ | refine WQ_then ?_ | refine WQ_then_ret ?_ | refine WQ_then_exit ?_ | refine WQ_block_normal ?_ | refine WQ_block_ret ?_ | refine WQ_block_exit ?_ | refine n9 ?_)
      exact ret2Ms Ds Try.results94 ov trivial (by repeat' (first | exact Pick.head _ _ | apply Pick.tail)) (RV_tmp rfl) (RV_tmp rfl) rfl (by (repeat (first | exact SubO.nil _ | (apply SubO.cons; (focus (repeat' (first | exact Pick.head _ _ | apply Pick.tail))))))) (by (repeat (first | exact AllE.nil _ | (apply AllE.cons; (focus (first | exact ent_nilBy | exact ent_nilSl | (apply Ent.mem; repeat' (first | exact mcs | apply mct))))))))
end Go.Proofs.Ytoohgnegoaoleaa.C04

/-
  The program's Check, Encode, Size.
-/
namespace Go.Proofs.Ytoohgnegoaoleaa.C04
open Go Go.RowKit Go.Hs
attribute [local irreducible] WL W WQ PL Runs Effs AllE Ent SubO FrIn Pick OneC Ones CellsE PartsE SeqE UZ By Sl Pt Ct

set_option maxRecDepth 100000 in
set_option maxHeartbeats 8000000 in
theorem check_fn (t : T) (v : Value) (hsm : Sm t.er) : CtD Try.prog 93 [v] [Rw 4 v t.len t.at_, t.tf] (.int .i64 (chk t.er)) := by
  have hb1 := hsm.1
  have hb2 := hsm.2.1
  refine Ct_intro Try.func93 rfl Try.ntmps93 (by simp) _ rfl (fun w0 O0 => ?_)
  repeat (first | refine n1 ?_ | refine n2 (fun b _ => ?_) | refine n3 (fun _ _ => ?_) | refine n4 ?_ | refine n5 ?_ | refine WL_nil ?_ | refine W_seq ?_ | refine W_region ?_ | refine n7 ?_ | refine n8 ?_ | refine W_block ?_ | refine W_skip ?_ | refine W_ret ?_ | refine W_exit ?_ | refine WQ_then ?_ | refine WQ_then_ret ?_ | refine WQ_then_exit ?_ | refine WQ_block_normal ?_ | refine WQ_block_ret ?_ | refine WQ_block_exit ?_ | refine n9 ?_)
  have hw := fun b1 b2 b3 => walk_fn b1 b2 b3 (t.size + 1) t v 0 0 0 false (Nat.lt_succ_self _) (by omega) (by decide) (by omega) (Nat.le_refl _)
  (apply WL_effs; exact rfl; exact rfl; exact rfl; apply E_callO; exact rfl; (intro _ _; simp); exact hw _ _ _; ((apply perm3; (focus (repeat' (first | exact Pick.head _ _ | apply Pick.tail))); (focus (repeat' (first | exact Pick.head _ _ | apply Pick.tail))); (focus (repeat' (first | exact Pick.head _ _ | apply Pick.tail))))); (repeat (first | exact AllE.nil _ | (apply AllE.cons; (focus (first | exact ent_nilBy | exact ent_nilSl | (apply Ent.mem; repeat' (first | exact mcs | apply mct))))))); (intro _; exact rfl); (intro _; exact rfl))
  intro _ _
  dsimp only
  rw [Nat.zero_add, show max 0 (0 + dep t.er) = dep t.er by omega, Bool.false_or]
  unfold chk
  by_cases c1 : 64 < cnt t.er
  · rw [if_pos (.inl c1)]
    repeat (first | refine n1 ?_ | refine n2 (fun b _ => ?_) | refine n3 (fun _ _ => ?_) | refine n4 ?_ | refine n5 ?_ | refine WL_nil ?_ | refine W_seq ?_ | refine W_region ?_ | refine n7 ?_ | refine n8 ?_ | refine W_block ?_ | refine W_skip ?_ | refine W_ret ?_ | refine W_exit ?_ | refine WQ_then ?_ | refine WQ_then_ret ?_ | refine WQ_then_exit ?_ | refine WQ_block_normal ?_ | refine WQ_block_ret ?_ | refine WQ_block_exit ?_ | refine n9 ?_)
    ((apply ret1 Try.results93 ( ())); (focus (first | trivial | assumption | omega)); (focus (first | exact RV_tmp rfl | (apply RV_cellN; exact rfl; (repeat' (first | exact Pick.head _ _ | apply Pick.tail)); (intro _; exact rfl); (intro _; exact rfl); exact rfl) | (apply RV_cell1; exact rfl; (repeat' (first | exact Pick.head _ _ | apply Pick.tail)); (intro _; exact rfl); exact rfl)));  (focus (first | exact rfl | (simp; done))); (focus (repeat (first | exact SubO.nil _ | (apply SubO.cons; (focus (repeat' (first | exact Pick.head _ _ | apply Pick.tail))))))); (focus (repeat (first | exact AllE.nil _ | (apply AllE.cons; (focus (first | exact ent_nilBy | exact ent_nilSl | (apply Ent.mem; repeat' (first | exact mcs | apply mct)))))))))
  · by_cases c2 : 4 < dep t.er
    · rw [if_pos (.inr c2)]
      repeat (first | refine n1 ?_ | refine n2 (fun b _ => ?_) | refine n3 (fun _ _ => ?_) | refine n4 ?_ | refine n5 ?_ | refine WL_nil ?_ | refine W_seq ?_ | refine W_region ?_ | refine n7 ?_ | refine n8 ?_ | refine W_block ?_ | refine W_skip ?_ | refine W_ret ?_ | refine W_exit ?_ | refine WQ_then ?_ | refine WQ_then_ret ?_ | refine WQ_then_exit ?_ | refine WQ_block_normal ?_ | refine WQ_block_ret ?_ | refine WQ_block_exit ?_ | refine n9 ?_)
      ((apply ret1 Try.results93 ( ())); (focus (first | trivial | assumption | omega)); (focus (first | exact RV_tmp rfl | (apply RV_cellN; exact rfl; (repeat' (first | exact Pick.head _ _ | apply Pick.tail)); (intro _; exact rfl); (intro _; exact rfl); exact rfl) | (apply RV_cell1; exact rfl; (repeat' (first | exact Pick.head _ _ | apply Pick.tail)); (intro _; exact rfl); exact rfl)));  (focus (first | exact rfl | (simp; done))); (focus (repeat (first | exact SubO.nil _ | (apply SubO.cons; (focus (repeat' (first | exact Pick.head _ _ | apply Pick.tail))))))); (focus (repeat (first | exact AllE.nil _ | (apply AllE.cons; (focus (first | exact ent_nilBy | exact ent_nilSl | (apply Ent.mem; repeat' (first | exact mcs | apply mct)))))))))
    · rw [if_neg (fun h => h.elim c1 c2)]
      cases c3 : val t.er with
      | false =>
        rw [if_pos rfl]
        repeat (first | refine n1 ?_ | refine n2 (fun b _ => ?_) | refine n3 (fun _ _ => ?_) | refine n4 ?_ | refine n5 ?_ | refine WL_nil ?_ | refine W_seq ?_ | refine W_region ?_ | refine n7 ?_ | refine n8 ?_ | refine W_block ?_ | refine W_skip ?_ | refine W_ret ?_ | refine W_exit ?_ | refine WQ_then ?_ | refine WQ_then_ret ?_ | refine WQ_then_exit ?_ | refine WQ_block_normal ?_ | refine WQ_block_ret ?_ | refine WQ_block_exit ?_ | refine n9 ?_)
        ((apply ret1 Try.results93 ( ())); (focus (first | trivial | assumption | omega)); (focus (first | exact RV_tmp rfl | (apply RV_cellN; exact rfl; (repeat' (first | exact Pick.head _ _ | apply Pick.tail)); (intro _; exact rfl); (intro _; exact rfl); exact rfl) | (apply RV_cell1; exact rfl; (repeat' (first | exact Pick.head _ _ | apply Pick.tail)); (intro _; exact rfl); exact rfl)));  (focus (first | exact rfl | (simp; done))); (focus (repeat (first | exact SubO.nil _ | (apply SubO.cons; (focus (repeat' (first | exact Pick.head _ _ | apply Pick.tail))))))); (focus (repeat (first | exact AllE.nil _ | (apply AllE.cons; (focus (first | exact ent_nilBy | exact ent_nilSl | (apply Ent.mem; repeat' (first | exact mcs | apply mct)))))))))
      | true =>
        rw [if_neg Bool.noConfusion]
        repeat (first | refine n1 ?_ | refine n2 (fun b _ => ?_) | refine n3 (fun _ _ => ?_) | refine n4 ?_ | refine n5 ?_ | refine WL_nil ?_ | refine W_seq ?_ | refine W_region ?_ | refine n7 ?_ | refine n8 ?_ | refine W_block ?_ | refine W_skip ?_ | refine W_ret ?_ | refine W_exit ?_ | refine WQ_then ?_ | refine WQ_then_ret ?_ | refine WQ_then_exit ?_ | refine WQ_block_normal ?_ | refine WQ_block_ret ?_ | refine WQ_block_exit ?_ | refine n9 ?_)
        (apply WL_effs; exact rfl; exact rfl; exact rfl; apply E_call; exact rfl; (intro _ _; simp); (exact write_fn (t.size + 1) t v (Nat.lt_succ_self _) hsm); (repeat (first | exact AllE.nil _ | (apply AllE.cons; (focus (first | exact ent_nilBy | exact ent_nilSl | (apply Ent.mem; repeat' (first | exact mcs | apply mct))))))); (intro _; exact rfl); (intro _; exact rfl))
        intro x _
        cases c4 : fit t.er with
        | false =>
          rw [if_pos rfl]
          repeat (first | refine n1 ?_ | refine n2 (fun b _ => ?_) | refine n3 (fun _ _ => ?_) | refine n4 ?_ | refine n5 ?_ | refine WL_nil ?_ | refine W_seq ?_ | refine W_region ?_ | refine n7 ?_ | refine n8 ?_ | refine W_block ?_ | refine W_skip ?_ | refine W_ret ?_ | refine W_exit ?_ | refine WQ_then ?_ | refine WQ_then_ret ?_ | refine WQ_then_exit ?_ | refine WQ_block_normal ?_ | refine WQ_block_ret ?_ | refine WQ_block_exit ?_ | refine n9 ?_)
          ((apply ret1 Try.results93 ( ())); (focus (first | trivial | assumption | omega)); (focus (first | exact RV_tmp rfl | (apply RV_cellN; exact rfl; (repeat' (first | exact Pick.head _ _ | apply Pick.tail)); (intro _; exact rfl); (intro _; exact rfl); exact rfl) | (apply RV_cell1; exact rfl; (repeat' (first | exact Pick.head _ _ | apply Pick.tail)); (intro _; exact rfl); exact rfl)));  (focus (first | exact rfl | (simp; done))); (focus (repeat (first | exact SubO.nil _ | (apply SubO.cons; (focus (repeat' (first | exact Pick.head _ _ | apply Pick.tail))))))); (focus (repeat (first | exact AllE.nil _ | (apply AllE.cons; (focus (first | exact ent_nilBy | exact ent_nilSl | (apply Ent.mem; repeat' (first | exact mcs | apply mct)))))))))
        | true =>
          rw [if_neg Bool.noConfusion]
          repeat (first | refine n1 ?_ | refine n2 (fun b _ => ?_) | refine n3 (fun _ _ => ?_) | refine n4 ?_ | refine n5 ?_ | refine WL_nil ?_ | refine W_seq ?_ | refine W_region ?_ | refine n7 ?_ | refine n8 ?_ | refine W_block ?_ | refine W_skip ?_ | refine W_ret ?_ | refine W_exit ?_ | refine WQ_then ?_ | refine WQ_then_ret ?_ | refine WQ_then_exit ?_ | refine WQ_block_normal ?_ | refine WQ_block_ret ?_ | refine WQ_block_exit ?_ | refine n9 ?_)
          ((apply ret1 Try.results93 ( ())); (focus (first | trivial | assumption | omega)); (focus (first | exact RV_tmp rfl | (apply RV_cellN; exact rfl; (repeat' (first | exact Pick.head _ _ | apply Pick.tail)); (intro _; exact rfl); (intro _; exact rfl); exact rfl) | (apply RV_cell1; exact rfl; (repeat' (first | exact Pick.head _ _ | apply Pick.tail)); (intro _; exact rfl); exact rfl)));  (focus (first | exact rfl | (simp; done))); (focus (repeat (first | exact SubO.nil _ | (apply SubO.cons; (focus (repeat' (first | exact Pick.head _ _ | apply Pick.tail))))))); (focus (repeat (first | exact AllE.nil _ | (apply AllE.cons; (focus (first | exact ent_nilBy | exact ent_nilSl | (apply Ent.mem; repeat' (first | exact mcs | apply mct)))))))))

set_option maxRecDepth 100000 in
set_option maxHeartbeats 8000000 in
theorem encode_fn (t : T) (v : Value) (hsm : Sm t.er) : Ct Try.prog 85 [v] [] [Rw 4 v t.len t.at_, t.tf]
    (X := Value) (fun _ => True) (fun x => .tuple #[x, .int .i64 (chk t.er)]) (fun _ => []) (fun x => [By x (encE t.er)]) := by
  have h1 := check_fn t v hsm
  by_cases c : chk t.er = 0
  · rw [encE_ok c]
    rw [c] at h1 ⊢
    refine Ct_intro Try.func85 rfl Try.ntmps85 (by simp) _ rfl (fun w0 O0 => ?_)
    repeat (first | refine n1 ?_ | refine n2 (fun b _ => ?_) | refine n3 (fun _ _ => ?_) | refine n4 ?_ | refine n5 ?_ | refine n6 (h1) ?_ | refine n6v (h1) ?_ | refine WL_nil ?_ | refine W_seq ?_ | refine W_region ?_ | refine n7 ?_ | refine n8 ?_ | refine W_block ?_ | refine W_skip ?_ | refine W_ret ?_ | refine W_exit ?_ | refine WQ_then ?_ | refine WQ_then_ret ?_ | refine WQ_then_exit ?_ | refine WQ_block_normal ?_ | refine WQ_block_ret ?_ | refine WQ_block_exit ?_ | refine n9 ?_)
    (apply WL_effs; exact rfl; exact rfl; exact rfl; apply E_call; exact rfl; (intro _ _; simp); (exact write_fn (t.size + 1) t v (Nat.lt_succ_self _) hsm); (repeat (first | exact AllE.nil _ | (apply AllE.cons; (focus (first | exact ent_nilBy | exact ent_nilSl | (apply Ent.mem; repeat' (first | exact mcs | apply mct))))))); (intro _; exact rfl); (intro _; exact rfl))
    intro x _
    repeat (first | refine n1 ?_ | refine n2 (fun b _ => ?_) | refine n3 (fun _ _ => ?_) | refine n4 ?_ | refine n5 ?_ | refine WL_nil ?_ | refine W_seq ?_ | refine W_region ?_ | refine n7 ?_ | refine n8 ?_ | refine W_block ?_ | refine W_skip ?_ | refine W_ret ?_ | refine W_exit ?_ | refine WQ_then ?_ | refine WQ_then_ret ?_ | refine WQ_then_exit ?_ | refine WQ_block_normal ?_ | refine WQ_block_ret ?_ | refine WQ_block_exit ?_ | refine n9 ?_)
    refine WQ_letgoB (v := x) (by repeat' (first | exact Pick.head _ _ | apply Pick.tail)) rfl ?_
    ((apply ret2 Try.results85 ( x)); (focus (first | trivial | assumption | omega)); (focus (first | exact RV_tmp rfl | (apply RV_cellN; exact rfl; (repeat' (first | exact Pick.head _ _ | apply Pick.tail)); (intro _; exact rfl); (intro _; exact rfl); exact rfl) | (apply RV_cell1; exact rfl; (repeat' (first | exact Pick.head _ _ | apply Pick.tail)); (intro _; exact rfl); exact rfl))); (focus (first | exact RV_tmp rfl | (apply RV_cellN; exact rfl; (repeat' (first | exact Pick.head _ _ | apply Pick.tail)); (intro _; exact rfl); (intro _; exact rfl); exact rfl) | (apply RV_cell1; exact rfl; (repeat' (first | exact Pick.head _ _ | apply Pick.tail)); (intro _; exact rfl); exact rfl)));  (focus (first | exact rfl | (simp; done))); (focus (repeat (first | exact SubO.nil _ | (apply SubO.cons; (focus (repeat' (first | exact Pick.head _ _ | apply Pick.tail))))))); (focus (repeat (first | exact AllE.nil _ | (apply AllE.cons; (focus (first | exact ent_nilBy | exact ent_nilSl | (apply Ent.mem; repeat' (first | exact mcs | apply mct)))))))))
  · rw [encE_bad c]
    refine Ct_intro Try.func85 rfl Try.ntmps85 (by simp) _ rfl (fun w0 O0 => ?_)
    repeat (first | refine n1 ?_ | refine n2 (fun b _ => ?_) | refine n3 (fun _ _ => ?_) | refine n4 ?_ | refine n5 ?_ | refine n6 (h1) ?_ | refine n6v (h1) ?_ | refine WL_nil ?_ | refine W_seq ?_ | refine W_region ?_ | refine n7 ?_ | refine n8 ?_ | refine W_block ?_ | refine W_skip ?_ | refine W_ret ?_ | refine W_exit ?_ | refine WQ_then ?_ | refine WQ_then_ret ?_ | refine WQ_then_exit ?_ | refine WQ_block_normal ?_ | refine WQ_block_ret ?_ | refine WQ_block_exit ?_ | refine n9 ?_)
    ((apply ret2 Try.results85 ( Value.slice none 0 0)); (focus (first | trivial | assumption | omega)); (focus (first | exact RV_tmp rfl | (apply RV_cellN; exact rfl; (repeat' (first | exact Pick.head _ _ | apply Pick.tail)); (intro _; exact rfl); (intro _; exact rfl); exact rfl) | (apply RV_cell1; exact rfl; (repeat' (first | exact Pick.head _ _ | apply Pick.tail)); (intro _; exact rfl); exact rfl))); (focus (first | exact RV_tmp rfl | (apply RV_cellN; exact rfl; (repeat' (first | exact Pick.head _ _ | apply Pick.tail)); (intro _; exact rfl); (intro _; exact rfl); exact rfl) | (apply RV_cell1; exact rfl; (repeat' (first | exact Pick.head _ _ | apply Pick.tail)); (intro _; exact rfl); exact rfl)));  (focus (first | exact rfl | (simp; done))); (focus (repeat (first | exact SubO.nil _ | (apply SubO.cons; (focus (repeat' (first | exact Pick.head _ _ | apply Pick.tail))))))); (focus (repeat (first | exact AllE.nil _ | (apply AllE.cons; (focus (first | exact ent_nilBy | exact ent_nilSl | (apply Ent.mem; repeat' (first | exact mcs | apply mct)))))))))

end Go.Proofs.Ytoohgnegoaoleaa.C04

/-
  What is encoded is decoded, told of the checks; the chapter's examples; the law 'ElementBack' walked.
-/
namespace Go.Proofs.Ytoohgnegoaoleaa.C04
open Go Go.RowKit Go.Hs
attribute [local irreducible] WL W WQ PL Runs Effs AllE Ent SubO FrIn Pick OneC Ones CellsE PartsE SeqE UZ By Sl Pt Ct

theorem encE_le {t : Fo} (h : Sm t) : (encE t).length ≤ 60000000 := by
  unfold encE
  split
  · exact h.enc_le
  · exact Nat.zero_le _

def tS (dv : Value) (data : List UInt8) (next : T) : T := .cons 7 0 dv data (.slice none 0 0) .nil next
end Go.Proofs.Ytoohgnegoaoleaa.C04

/-
  The rules of the small logic for arrays of six bytes, for slices of arrays, and for comparing things of several cells. No program is named here.
-/
namespace Go.Hs
open Go Go.RowKit

/-- six bytes. -/
structure A6 where
  a0 : UInt8
  a1 : UInt8
  a2 : UInt8
  a3 : UInt8
  a4 : UInt8
  a5 : UInt8
deriving DecidableEq
def A6.bytes (a : A6) : List UInt8 := [a.a0, a.a1, a.a2, a.a3, a.a4, a.a5]
def A6.cells (a : A6) : List Value := [bcell a.a0, bcell a.a1, bcell a.a2, bcell a.a3, bcell a.a4, bcell a.a5]
theorem A6.bytes_inj {a b : A6} (h : a.bytes = b.bytes) : a = b := by
  obtain ⟨a0, a1, a2, a3, a4, a5⟩ := a
  obtain ⟨b0, b1, b2, b3, b4, b5⟩ := b
  simp only [A6.bytes, List.cons.injEq, and_true] at h
  obtain ⟨rfl, rfl, rfl, rfl, rfl, rfl⟩ := h
  rfl
def A6.of (l : List UInt8) : A6 := ⟨l.getD 0 0, l.getD 1 0, l.getD 2 0, l.getD 3 0, l.getD 4 0, l.getD 5 0⟩
def zA6 : A6 := ⟨0, 0, 0, 0, 0, 0⟩
/-- a cell that holds a byte. -/
def Bc (v : Value) (b : UInt8) : Prop := v = bcell b
theorem Bc.self (b : UInt8) : Bc (bcell b) b := rfl
theorem Bc.zero : Bc (.int .u8 0) 0 := rfl
theorem Bc.lit (n : Nat) (h : Nat.blt n 256 = true) : Bc (.int .u8 (Int.ofNat n)) (UInt8.ofNat n) := by
  have h : n < 256 := Nat.le_of_ble_eq_true h
  show Value.int .u8 (Int.ofNat n) = .int .u8 ((UInt8.ofNat n).toNat : Int)
  rw [UInt8.toNat_ofNat', Nat.mod_eq_of_lt h]
  rfl

/-- a cell and what it tells when compared. -/
def Kc (P : Program) (t : TypeId) (cs : List Value) (ls : List Lit) : Prop := ∃ D, P.keyLits D t cs = some ls

section
variable {P : Program}
theorem keyLits_mono_u8 {e : TypeId} (he : P.underlying e = some (.int .u8)) (b : UInt8) : P.keyLits 1 e [bcell b] = some [.int .u8 (b.toNat : Int)] := by
  have h : (Lit.int .u8 (b.toNat : Int)).wf = true := by
    have := b.toNat_lt
    simp [Lit.wf, IntKind.min, IntKind.max, IntKind.signed, IntKind.bits] <;> omega
  simp [Program.keyLits, he, bcell, h]
theorem keyLits_a6 {t e : TypeId} (ht : P.underlying t = some (.array 6 e)) (he : P.underlying e = some (.int .u8)) (hce : P.cellsOf e = 1) (hct : P.cellsOf t = 6) (a : A6) :
    P.keyLits 2 t a.cells = some (a.bytes.map fun b => .int .u8 (b.toNat : Int)) := by
  have h := fun b => keyLits_mono_u8 he b
  have hr : List.range 6 = [0, 1, 2, 3, 4, 5] := rfl
  rw [show (2 : Nat) = 1 + 1 from rfl]
  unfold Program.keyLits
  simp only [ht, hct, hce, A6.cells, List.length_cons, List.length_nil, if_true, hr, List.mapM_cons, List.mapM_nil, Nat.zero_mul, Nat.one_mul, Nat.mul_one, List.drop_zero, List.drop_succ_cons, List.take_succ_cons, List.take_zero, h,
    Option.pure_def, Option.bind_eq_bind, Option.bind_some, Option.map_some]
  rfl
theorem a6_lits_inj {a b : A6} : (a.bytes.map fun b => Lit.int .u8 (b.toNat : Int)) = (b.bytes.map fun b => Lit.int .u8 (b.toNat : Int)) ↔ a = b := by
  constructor
  · intro h
    apply A6.bytes_inj
    refine List.map_inj_right (fun x y hxy => ?_) |>.1 h
    injection hxy with _ hxy
    exact UInt8.toNat_inj.1 (by omega)
  · rintro rfl; rfl
end

section
variable {C : Ctx} {ops : Array Oper} {l : List Oper} {fr : Fr} {Γ Γ' Γ1 : List OA} {Φ : List SP} {Q : Exit → Act → World → Prop}
  {d : Nat} {ty : TypeId} {pos : String} {aft : Array Edge} {g : Option (Nat × Bool)}

theorem neS_t' {α : Type} {a b : α} [Decidable (a = b)] (h : ¬ a = b) : (!decide (a = b)) = true := by rw [decide_eq_false h]; rfl
theorem neS_f' {α : Type} {a b : α} [Decidable (a = b)] (h : a = b) : (!decide (a = b)) = false := by rw [decide_eq_true h]; rfl
/-- two things of several cells compared. -/
theorem R_eqG {x y : Operand} {t t' : TypeId} {cs ds : List Value} {D D' : Nat} {la lb : List Lit} {c : Bool} {m : Nat} (hx : evO fr x = some (.agg cs.toArray)) (hy : evO fr y = some (.agg ds.toArray))
    (hk : C.P.keyTypeAt m t = true) (hm : Nat.ble m 10000 = true) (hg : C.P.eqGuardType C.P.depth t = false)
    (fx : (Value.agg cs.toArray).formed C.P t = true) (fy : (Value.agg ds.toArray).formed C.P t = true) {p : Prop} [Decidable p] (ka : C.P.keyLits D t cs = some la) (kb : C.P.keyLits D' t ds = some lb) (hp : la = lb ↔ p) (hr : decide p = c) :
    Runs C fr Γ Φ ⟨some d, .binOp .eql t x y t', ty, pos, aft, g⟩ (.bool c) :=
  Runs.pure fun a w ha hw => by
    subst hr
    obtain ⟨r, hr, hi⟩ := run_equalIn_deep (P := C.P) (10000 - m) m t hk w D D' (.agg cs.toArray) (.agg ds.toArray) la lb fx fy (by simpa [Value.cells] using ka) (by simpa [Value.cells] using kb)
    rw [show 10000 - m + m = 10000 from Nat.sub_add_cancel (Nat.le_of_ble_eq_true hm)] at hr
    have hd : r = decide p := by
      cases r
      · exact (decide_eq_false fun e => by simpa using hi.2 (hp.2 e)).symm
      · exact (decide_eq_true (hp.1 (hi.1 rfl))).symm
    subst hd
    simp only [execOp, evO_sound ha hx, evO_sound ha hy, Sem.run_bind, run_eqGuard_agg w .eql t x y _ _ hg, Result.andThen_ok, run_eql_struct, hr, Sem.run_pure]
theorem R_neG {x y : Operand} {t t' : TypeId} {cs ds : List Value} {D D' : Nat} {la lb : List Lit} {c : Bool} {m : Nat} (hx : evO fr x = some (.agg cs.toArray)) (hy : evO fr y = some (.agg ds.toArray))
    (hk : C.P.keyTypeAt m t = true) (hm : Nat.ble m 10000 = true) (hg : C.P.eqGuardType C.P.depth t = false)
    (fx : (Value.agg cs.toArray).formed C.P t = true) (fy : (Value.agg ds.toArray).formed C.P t = true) {p : Prop} [Decidable p] (ka : C.P.keyLits D t cs = some la) (kb : C.P.keyLits D' t ds = some lb) (hp : la = lb ↔ p) (hr : (!decide p) = c) :
    Runs C fr Γ Φ ⟨some d, .binOp .neq t x y t', ty, pos, aft, g⟩ (.bool c) :=
  Runs.pure fun a w ha hw => by
    subst hr
    obtain ⟨r, hr, hi⟩ := run_equalIn_deep (P := C.P) (10000 - m) m t hk w D D' (.agg cs.toArray) (.agg ds.toArray) la lb fx fy (by simpa [Value.cells] using ka) (by simpa [Value.cells] using kb)
    rw [show 10000 - m + m = 10000 from Nat.sub_add_cancel (Nat.le_of_ble_eq_true hm)] at hr
    have hd : r = decide p := by
      cases r
      · exact (decide_eq_false fun e => by simpa using hi.2 (hp.2 e)).symm
      · exact (decide_eq_true (hp.1 (hi.1 rfl))).symm
    subst hd
    simp only [execOp, evO_sound ha hx, evO_sound ha hy, Sem.run_bind, run_eqGuard_agg w .neq t x y _ _ hg, Result.andThen_ok, run_neq_struct, hr, Sem.run_pure]
/-- two addresses compared. -/
theorem R_eqA {x y : Operand} {t t' e : TypeId} {v0 v1 v2 v3 v4 v5 u0 u1 u2 u3 u4 u5 : Value} {a0 a1 a2 a3 a4 a5 b0 b1 b2 b3 b4 b5 : UInt8} {c : Bool} (hx : evO fr x = some (.agg #[v0, v1, v2, v3, v4, v5])) (hy : evO fr y = some (.agg #[u0, u1, u2, u3, u4, u5]))
    (ht : C.P.underlying t = some (.array 6 e)) (he : C.P.underlying e = some (.int .u8)) (hce : C.P.cellsOf e = 1) (hct : C.P.cellsOf t = 6) (hg : C.P.eqGuardType C.P.depth t = false)
    (p0 : Bc v0 a0) (p1 : Bc v1 a1) (p2 : Bc v2 a2) (p3 : Bc v3 a3) (p4 : Bc v4 a4) (p5 : Bc v5 a5) (q0 : Bc u0 b0) (q1 : Bc u1 b1) (q2 : Bc u2 b2) (q3 : Bc u3 b3) (q4 : Bc u4 b4) (q5 : Bc u5 b5)
    (hr : decide ((⟨a0, a1, a2, a3, a4, a5⟩ : A6) = ⟨b0, b1, b2, b3, b4, b5⟩) = c) : Runs C fr Γ Φ ⟨some d, .binOp .eql t x y t', ty, pos, aft, g⟩ (.bool c) := by
  subst p0; subst p1; subst p2; subst p3; subst p4; subst p5; subst q0; subst q1; subst q2; subst q3; subst q4; subst q5
  have hk : C.P.keyTypeAt 2 t = true := by simp [Program.keyTypeAt, ht, he]
  refine R_eqG (cs := A6.cells ⟨a0, a1, a2, a3, a4, a5⟩) (ds := A6.cells ⟨b0, b1, b2, b3, b4, b5⟩) hx hy hk rfl hg (by simp [Value.formed, ht, hct, A6.cells]) (by simp [Value.formed, ht, hct, A6.cells]) (keyLits_a6 ht he hce hct _) (keyLits_a6 ht he hce hct _) a6_lits_inj hr
theorem R_neA {x y : Operand} {t t' e : TypeId} {v0 v1 v2 v3 v4 v5 u0 u1 u2 u3 u4 u5 : Value} {a0 a1 a2 a3 a4 a5 b0 b1 b2 b3 b4 b5 : UInt8} {c : Bool} (hx : evO fr x = some (.agg #[v0, v1, v2, v3, v4, v5])) (hy : evO fr y = some (.agg #[u0, u1, u2, u3, u4, u5]))
    (ht : C.P.underlying t = some (.array 6 e)) (he : C.P.underlying e = some (.int .u8)) (hce : C.P.cellsOf e = 1) (hct : C.P.cellsOf t = 6) (hg : C.P.eqGuardType C.P.depth t = false)
    (p0 : Bc v0 a0) (p1 : Bc v1 a1) (p2 : Bc v2 a2) (p3 : Bc v3 a3) (p4 : Bc v4 a4) (p5 : Bc v5 a5) (q0 : Bc u0 b0) (q1 : Bc u1 b1) (q2 : Bc u2 b2) (q3 : Bc u3 b3) (q4 : Bc u4 b4) (q5 : Bc u5 b5)
    (hr : (!decide ((⟨a0, a1, a2, a3, a4, a5⟩ : A6) = ⟨b0, b1, b2, b3, b4, b5⟩)) = c) : Runs C fr Γ Φ ⟨some d, .binOp .neq t x y t', ty, pos, aft, g⟩ (.bool c) := by
  subst p0; subst p1; subst p2; subst p3; subst p4; subst p5; subst q0; subst q1; subst q2; subst q3; subst q4; subst q5
  have hk : C.P.keyTypeAt 2 t = true := by simp [Program.keyTypeAt, ht, he]
  refine R_neG (cs := A6.cells ⟨a0, a1, a2, a3, a4, a5⟩) (ds := A6.cells ⟨b0, b1, b2, b3, b4, b5⟩) hx hy hk rfl hg (by simp [Value.formed, ht, hct, A6.cells]) (by simp [Value.formed, ht, hct, A6.cells]) (keyLits_a6 ht he hce hct _) (keyLits_a6 ht he hce hct _) a6_lits_inj hr

/-- the front of what a pointer leads to is loaded. -/
theorem R_loadPT {t : TypeId} {x : Operand} {p : Value} {us us' : List Value} {n : Nat} (hx : evO fr x = some p)
    (hm : Pt p us ∈ Φ) (hagg : ∀ w, (isAgg t).run C.P w = .ok true w) (hs : ∀ w, (sizeOf t).run C.P w = .ok n w) (ht : takeN 0 n us = some us') : Runs C fr Γ Φ ⟨some d, .load t x, ty, pos, aft, g⟩ (.agg us'.toArray) :=
  Runs.pure fun a w ha hw => by
    obtain ⟨ad, hv, _, _, hcell⟩ := hw.sp _ hm
    obtain ⟨h1, h2⟩ := takeN_at ht
    simp [execOp, evO_sound ha hx, hv, Instr.loadAt, Instr.sureAddr, run_loadVar_agg (w := w) (a := ad) (us := us') hagg (fun w => by rw [h1]; exact hs w) (fun j u hu => hcell j u (by have := h2 j u hu; rwa [Nat.zero_add] at this))]
/-- a part of a lasting block is loaded. -/
theorem R_loadPO {t : TypeId} {x : Operand} {b off : Nat} {us : List Value} {v : Value} (hx : evO fr x = some (.pointer (some ⟨b, off, none⟩)))
    (hm : Pt (.pointer (some ⟨b, 0, none⟩)) us ∈ Φ) (hagg : ∀ w, (isAgg t).run C.P w = .ok false w) (hc : us[off]? = some v) : Runs C fr Γ Φ ⟨some d, .load t x, ty, pos, aft, g⟩ v :=
  Runs.pure fun a w ha hw => by
    obtain ⟨ad, hv, _, _, hcell⟩ := hw.sp _ hm
    injection hv with hv
    injection hv with hv
    subst hv
    have h0 := hcell off v hc
    rw [Addr.add_lit, Nat.zero_add] at h0
    simp [execOp, evO_sound ha hx, Instr.loadAt, Instr.sureAddr, run_loadVar_one hagg h0]
theorem R_loadPON {t : TypeId} {x : Operand} {b off n : Nat} {us us' : List Value} (hx : evO fr x = some (.pointer (some ⟨b, off, none⟩)))
    (hm : Pt (.pointer (some ⟨b, 0, none⟩)) us ∈ Φ) (hagg : ∀ w, (isAgg t).run C.P w = .ok true w) (hs : ∀ w, (sizeOf t).run C.P w = .ok n w) (ht : takeN off n us = some us') : Runs C fr Γ Φ ⟨some d, .load t x, ty, pos, aft, g⟩ (.agg us'.toArray) :=
  Runs.pure fun a w ha hw => by
    obtain ⟨ad, hv, _, _, hcell⟩ := hw.sp _ hm
    injection hv with hv
    injection hv with hv
    subst hv
    obtain ⟨h1, h2⟩ := takeN_at ht
    simp [execOp, evO_sound ha hx, Instr.loadAt, Instr.sureAddr, run_loadVar_agg (w := w) (a := ⟨b, off, none⟩) (us := us') hagg (fun w => by rw [h1]; exact hs w) (fun j u hu => by
      have h3 := hcell _ u (h2 j u hu)
      rw [Addr.add_lit, Nat.zero_add] at h3
      rw [Addr.add_lit]
      exact h3)]
/-- a slice of an array, whole: the slice's value. -/
theorem R_sliceArr {t e : TypeId} {x : Operand} {b off n : Nat} (hx : evO fr x = some (.pointer (some ⟨b, off, none⟩))) (ht : C.P.underlying t = some (.array n e))
    (hs : ∀ w, (sizeOf e).run C.P w = .ok 1 w) (hn : Nat.beq n 0 = false) : Runs C fr Γ Φ ⟨some d, .slice t x none none none, ty, pos, aft, g⟩ (.slice (some ⟨b, off, none⟩) n n) :=
  Runs.pure fun a w ha hw => by
    have h0 : ¬ n = 0 := fun e => by rw [e] at hn; cases hn
    simp [execOp, evO_sound ha hx, Instr.sliceAt, Instr.sliceBounds, run_underlying ht, hs, h0, Instr.sureAddr, Addr.add]

end
end Go.Hs

/-
  The rules of the small logic for appending zeros ('append(s, make([]T, k)...)'), and for the capacity of nothing. No program is named here.
-/
namespace Go.Hs
open Go Go.RowKit Go.Lib

section
variable {P : Program} (w : World)
end

section
variable {C : Ctx} {fr : Fr} {Γ Γ' Γ1 : List OA} {Φ : List SP}
  {d : Nat} {ty : TypeId} {pos : String} {aft : Array Edge} {g : Option (Nat × Bool)}
end

section
variable {C : Ctx} {fr : Fr} {Γ Γ' Γ1 : List OA} {Φ : List SP}
  {d : Nat} {ty : TypeId} {pos : String} {aft : Array Edge} {g : Option (Nat × Bool)}
theorem fill_pre {size : Nat} {R : List OA} {w : World} (hw : Holds C (Γ ++ R) Φ w) : ∀ {ps : List (Nat × Value)} {k : Nat} {us done rest : List Value}, SeqE C Γ Φ size k ps us → done.length = k * size → us.length ≤ rest.length →
    Instr.fill (fun i => some (i * size, size)) (done ++ rest).toArray ps = some (done ++ (us ++ rest.drop us.length)).toArray
  | [], k, us, done, rest, h, _, hr => by
    have h : us = [] := h
    subst h
    rfl
  | (i, v) :: r, k, us, done, rest, h, hd, hr => by
    obtain ⟨rfl, u1, u2, rfl, hl, hc, hs⟩ := h
    have hc := hc R w hw
    rw [List.length_append] at hr
    have hlen : i * size + size ≤ (done ++ rest).length := by simp [hd]; omega
    have hf := fold_set u1 0 (i * size) (done ++ rest) (by simpa [hl] using hlen)
    have e1 : (done ++ rest).take (i * size) = done := by rw [← hd]; simp
    have e2 : (done ++ rest).drop (i * size + u1.length) = rest.drop u1.length := by rw [← hd, ← List.drop_drop]; simp
    simp only [Nat.add_zero, e1, e2] at hf
    simp only [Instr.fill, hc]
    rw [if_neg (by simp [hl] at hlen ⊢; omega)]
    have ih := fill_pre hw hs (done := done ++ u1) (rest := rest.drop u1.length) (by simp [hd, hl, Nat.add_mul]) (by rw [List.length_drop]; omega)
    rw [List.length_append, ← List.drop_drop, List.append_assoc u1 u2, ← List.append_assoc done u1, ← ih]
    congr 1
    rw [← Array.foldl_toList]
    simpa using hf
theorem R_buildArr {t e : TypeId} {parts : Array (Nat × Operand)} {pv : List (Nat × Value)} {size n : Nat} {us zs ds : List Value} {z : Value}
    (hpv : evPs fr parts.toList = some pv) (hq : SeqE C Γ Φ size 0 pv us) (hz : ∀ w, (zeroValue t).run C.P w = .ok z w) (hzs : listO z.cells.toList = some zs) (ht : C.P.underlying t = some (.array n e))
    (hs : ∀ w, (sizeOf e).run C.P w = .ok size w) (hl : Nat.ble us.length zs.length = true) (hds : us ++ zs.drop us.length = ds) :
    Runs C fr Γ Φ ⟨some d, .build t parts, ty, pos, aft, g⟩ (.agg ds.toArray) :=
  Runs.pure fun a w ha hw => by
    subst hds
    have h1 := fill_pre (R := []) (by simpa using hw) hq (done := []) (rest := zs) (by simp) (Nat.le_of_ble_eq_true hl)
    simp only [List.nil_append] at h1
    have e1 : z.cells = zs.toArray := by rw [← listO_eq hzs]
    simp only [execOp, evPs_sound ha hpv, Instr.build, Sem.run_bind, hz, Result.andThen_ok, run_underlying ht, hs, e1, h1, Sem.run_pure]
end
end Go.Hs

/-
  Rules for walks: things lent side by side; bits of numbers. No program is named here.
-/
namespace Go.Hs
open Go Go.RowKit
theorem Bor.app {Γ1 Γ2 : List OA} {Φ Φ1 Φ2 : List SP} (h1 : Bor Γ1 Φ Φ1) (h2 : Bor Γ2 Φ Φ2) : Bor (Γ1 ++ Γ2) Φ (Φ1 ++ Φ2) := fun w O ho hd hΦ ψ hψ => by
  obtain ⟨o1, o2, _⟩ := Own.append.1 ho
  rcases List.mem_append.1 hψ with h | h
  · exact h1 w O o1 (fun k hk => hd k (fpL_append.2 (.inl hk))) hΦ ψ h
  · exact h2 w O o2 (fun k hk => hd k (fpL_append.2 (.inr hk))) hΦ ψ h
theorem nat_andP (a i : Nat) : a &&& 2 ^ i = a / 2 ^ i % 2 * 2 ^ i := by
  rw [← Nat.toNat_testBit]
  apply Nat.eq_of_testBit_eq
  intro j
  rw [Nat.testBit_and, Nat.testBit_two_pow]
  by_cases e : i = j
  · subst e
    cases h : a.testBit i
    · simp
    · simp [Nat.testBit_two_pow]
  · rw [decide_eq_false e, Bool.and_false]
    cases h : a.testBit i
    · simp
    · simp [Nat.testBit_two_pow, e]
theorem i64_andN (a b : Nat) (ha : a < 4611686018427387904) (hb : b < 4611686018427387904) : bits .and .i64 (a : Int) (b : Int) = ((a &&& b : Nat) : Int) := by
  have hx : a &&& b ≤ a := Nat.and_le_left
  show IntKind.i64.wrap ((BitVec.ofInt 64 (a : Int) &&& BitVec.ofInt 64 (b : Int)).toNat : Int) = _
  rw [BitVec.toNat_and, BitVec.ofInt_natCast, BitVec.ofInt_natCast, BitVec.toNat_ofNat, BitVec.toNat_ofNat, Nat.mod_eq_of_lt (by omega), Nat.mod_eq_of_lt (by omega)]
  exact wx_i64 (by omega)
theorem i64_andPw (a i : Nat) (ha : a < 4611686018427387904) (hi : i < 16) : bits .and .i64 (a : Int) ((2 ^ i : Nat) : Int) = ((a / 2 ^ i % 2 * 2 ^ i : Nat) : Int) := by
  have hp : 2 ^ i ≤ 2 ^ 16 := Nat.pow_le_pow_right (by decide) (by omega)
  have h16 : (2 : Nat) ^ 16 = 65536 := by decide
  rw [i64_andN _ _ ha (by omega), nat_andP]
theorem i64_shrK (v k : Nat) (hk : k ≤ 64) : (v : Int).fdiv (2 ^ (min ((k : Int)).toNat IntKind.i64.bits)) = ((v / 2 ^ k : Nat) : Int) := by
  have e2 : min ((k : Int)).toNat IntKind.i64.bits = k := by
    rw [Int.toNat_natCast]
    exact Nat.min_eq_left hk
  rw [e2, Int.fdiv_eq_ediv_of_nonneg _ (by exact Int.le_of_lt (Int.pow_pos (by decide)))]
  rw [Int.natCast_ediv, Int.natCast_pow]
  rfl
theorem i64_low7 (v : Nat) : bits .and .i64 (v : Int) 7 = ((v % 8 : Nat) : Int) := by rw [i64_and7]; omega
end Go.Hs

/-
  Bytes copied into a part of an own block.
-/
namespace Go.Hs
open Go Go.RowKit
section
variable {C : Ctx} {fr : Fr} {Γ Γ' : List OA} {Φ : List SP} {d : Tmp} {ty : TypeId} {pos : String} {aft : Array Edge} {g : Option (Nat × Bool)}
theorem E_copyBlk {t t' e bt : TypeId} {x y : Operand} {u : Value} {b o n : Nat} {bs : List UInt8} {cs ds : List Value} (hx : evO fr x = some (.slice (some ⟨b, o, none⟩) n n)) (hy : evO fr y = some u) (hp : Pick (.blk b bt cs) Γ Γ') (hm : By u bs ∈ Φ)
    (ht : C.P.underlying t = some (.slice e)) (hs : (C.P.info? e).map (·.size) = some 1) (hn : bs.length = n) (h0 : 0 < n) (hf : o + n ≤ cs.length) (hu : cs.take o ++ bs.map bcell ++ cs.drop (o + n) = ds) :
    Effs C fr Γ Φ ⟨some d, .call { callee := .builtin .copy, args := #[x, y], argTypes := #[t, t'] }, ty, pos, aft, g⟩ (X := Unit) (fun _ => True) (fun _ => .int .i64 (bs.length : Int)) (fun _ => .blk b bt ds :: Γ') (fun _ => Φ) := by
  subst hu
  refine ⟨fun _ => AllIn.refl _, fun R a w ha hw => ?_⟩
  have hw' := pick_holds (pick_app hp R) hw
  obtain ⟨hl, B, c', hu', _, _, hr⟩ := hw'.sp _ hm
  obtain ⟨ad, rfl, _, _, hcell⟩ := hr (by omega)
  subst hu'
  have hb : w.heap[b]? = some (.cells cs.toArray bt (0, 0)) := hw'.own.1
  have hrun := run_copy_row (P := C.P) w t t' ty e b o n n ad bs.length c' cs.toArray bt (bs.map bcell) ht hs hb (by rw [List.length_map]; exact (Nat.min_eq_left (Nat.le_of_eq hn)).symm) hcell (by rw [List.length_map, hn]; exact hf) (bcells_one _)
  refine .val (v := .int .i64 (bs.length : Int)) (w' := _) ?_ ⟨(), trivial, rfl, setRow_holds (ds := cs.take o ++ bs.map bcell ++ cs.drop (o + n)) hw'⟩
  have e2 : (bs.map bcell).length = n := by rw [List.length_map, hn]
  rw [e2] at hrun
  simp only [execOp, resolve, invoke, builtin, Sem.run_bind, Sem.run_pure, Result.andThen_ok, List.map_toArray, List.map_cons, List.map_nil, evO_sound ha hx, evO_sound ha hy, hrun]
  simp only [Result.andThen_ok, goInt, hn]
end
end Go.Hs

/-
  Contracts of the functions of layer 1 that read and set bits.
-/
namespace Go.Proofs.Ytoohgnegoaoleaa.C01
open Go Go.RowKit Go.Hs
attribute [local irreducible] WL W WQ PL Runs Effs AllE Ent SubO FrIn Pick OneC Ones CellsE PartsE SeqE UZ By Sl Pt Ct

theorem powc (k : Nat) : ((2 ^ k : Nat) : Int) = 2 ^ k := by simp

def inB (a n : Int) : Prop := 0 ≤ a ∧ a ≤ 64 ∧ 1 ≤ n ∧ n ≤ 64 - a
instance (a n : Int) : Decidable (inB a n) := by unfold inB; infer_instance

theorem shr_eq (v k : Nat) (hk : k ≤ 64) : (v : Int).fdiv (2 ^ (min ((k : Int)).toNat IntKind.u64.bits)) = ((v / 2 ^ k : Nat) : Int) := by
  have e2 : min ((k : Int)).toNat IntKind.u64.bits = k := by
    rw [Int.toNat_natCast]
    exact Nat.min_eq_left (show k ≤ 64 by omega)
  rw [e2, ← powc, Int.fdiv_eq_ediv_of_nonneg _ (Int.natCast_nonneg _)]
  rfl
end Go.Proofs.Ytoohgnegoaoleaa.C01

/-
  Contracts of the functions of layer 1 that write numbers and texts.
-/
namespace Go.Proofs.Ytoohgnegoaoleaa.C01
open Go Go.RowKit Go.Hs
attribute [local irreducible] WL W WQ PL Runs Effs AllE Ent SubO FrIn Pick OneC Ones CellsE PartsE SeqE UZ By Sl Pt Ct

/-- the n lowest bytes of a number, the lowest first. -/
def leB (n v : Nat) : List UInt8 := (List.range n).map fun i => UInt8.ofNat (v / 256 ^ i)
theorem leB_length (n v : Nat) : (leB n v).length = n := by simp [leB]
theorem leB_succ (n v : Nat) : leB (n + 1) v = leB n v ++ [UInt8.ofNat (v / 256 ^ n)] := by simp [leB, List.range_succ]

theorem shr8_eq (v k : Nat) (hk : k ≤ 8) : (v : Int).fdiv (2 ^ (min ((8 * (k : Int))).toNat IntKind.u64.bits)) = ((v / 256 ^ k : Nat) : Int) := by
  rw [show (8 * (k : Int)) = ((8 * k : Nat) : Int) by omega, shr_eq v (8 * k) (by omega), Nat.pow_mul]
theorem low8 (x : Nat) : IntKind.u8.wrap (x : Int) = (((UInt8.ofNat x).toNat : Nat) : Int) := by
  rw [IntKind.wrap_u8]
  simp

set_option maxRecDepth 100000 in
set_option maxHeartbeats 1000000 in
theorem put_u16 (dv : Value) (xs : List UInt8) (v : Nat) (hx : xs.length ≤ 1000000000) (hv : v < 65536) : Ct Try.prog 92 [dv, .int .u16 (v : Int), .int .i64 2] [] [By dv xs]
    (X := Value) (fun _ => True) (fun x => x) (fun x => [.row x 5 1 (xs.length + 2) ((xs ++ leB 2 v).map bcell)]) (fun _ => []) := by
  refine Ct_intro Try.func92 rfl Try.ntmps92 (by simp) _ rfl (fun w0 O0 => ?_)
  repeat (first | refine n1 ?_ | refine n2 (fun b _ => ?_) | refine n3 (fun _ _ => ?_) | refine n4 ?_ | refine n5 ?_ | refine WL_nil ?_ | refine W_seq ?_ | refine W_region ?_ | refine n7 ?_ | refine n8 ?_ | refine W_block ?_ | refine W_skip ?_ | refine W_ret ?_ | refine W_exit ?_ | refine WQ_then ?_ | refine WQ_then_ret ?_ | refine WQ_then_exit ?_ | refine WQ_block_normal ?_ | refine WQ_block_ret ?_ | refine WQ_block_exit ?_ | refine n9 ?_)
  (apply WL_effs; exact rfl; exact rfl; exact rfl; (apply E_make; exact rfl; exact rfl; (focus (first | exact lit0 | exact lit1 | exact lit2 | exact lit3 | exact lit4 | exact lit5 | exact lit6 | exact lit7 | exact lit8 | exact rfl | (simp; done) | omega)); (focus (first | exact lit0 | exact lit1 | exact lit2 | exact lit3 | exact lit4 | exact lit5 | exact lit6 | exact lit7 | exact lit8 | exact rfl | (simp; done) | omega)); (first | omega | (simp only [List.length_take, List.length_drop, List.length_append, List.length_cons, List.length_nil, List.length_map, List.length_replicate]; omega)); exact rfl; exact rfl; exact rfl; exact rfl; exact Nat.le_of_ble_eq_true rfl; (first | omega | (simp only [List.length_take, List.length_drop, List.length_append, List.length_cons, List.length_nil, List.length_map, List.length_replicate]; omega)); exact rfl); skip)
  intro out _
  repeat (first | refine n1 ?_ | refine n2 (fun b _ => ?_) | refine n3 (fun _ _ => ?_) | refine n4 ?_ | refine n5 ?_ | refine WL_nil ?_ | refine W_seq ?_ | refine W_region ?_ | refine n7 ?_ | refine n8 ?_ | refine W_block ?_ | refine W_skip ?_ | refine W_ret ?_ | refine W_exit ?_ | refine WQ_then ?_ | refine WQ_then_ret ?_ | refine WQ_then_exit ?_ | refine WQ_block_normal ?_ | refine WQ_block_ret ?_ | refine WQ_block_exit ?_ | refine n9 ?_)
  (apply WL_effs; exact rfl; exact rfl; exact rfl; (apply E_copyAll; exact rfl; exact rfl; (repeat' (first | exact Pick.head _ _ | apply Pick.tail)); (repeat' (first | exact mcs | apply mct)); exact rfl; exact rfl; (focus (first | exact lit0 | exact lit1 | exact lit2 | exact lit3 | exact lit4 | exact lit5 | exact lit6 | exact lit7 | exact lit8 | exact rfl | (simp; done) | omega))); skip)
  intro _ _
  repeat (first | refine n1 ?_ | refine n2 (fun b _ => ?_) | refine n3 (fun _ _ => ?_) | refine n4 ?_ | refine n5 ?_ | refine WL_nil ?_ | refine W_seq ?_ | refine W_region ?_ | refine n7 ?_ | refine n8 ?_ | refine W_block ?_ | refine W_skip ?_ | refine W_ret ?_ | refine W_exit ?_ | refine WQ_then ?_ | refine WQ_then_ret ?_ | refine WQ_then_exit ?_ | refine WQ_block_normal ?_ | refine WQ_block_ret ?_ | refine WQ_block_exit ?_ | refine n9 ?_)
  ((apply W_loopK (X := Nat × List UInt8 × Value) [7, 20] [0] (fun x => x.1 ≤ 2 ∧ x.2.1 = xs ++ leB x.1 v) (fun x => [(7, x.2.2), (20, .int .i64 (x.1 : Int))]) (fun x => [.row x.2.2 5 1 (xs.length + x.1) (x.2.1.map bcell)]) (fun _ => []) (fun x => 2 - x.1) ((0, xs, out))); (focus exact ⟨Nat.zero_le _, by simp [leB]⟩); exact rfl; exact rfl; (intro _; exact rfl); (intro _; exact rfl); (intro _; exact rfl); (focus (repeat (first | exact FrIn.nil _ | (apply FrIn.cons; exact rfl; (first | exact rfl | (congr 1; first | omega | (dsimp only; omega)) | (simp; done)))))); (focus (repeat (first | exact SubO.nil _ | (apply SubO.cons; (focus (repeat' (first | exact Pick.head _ _ | apply Pick.tail))))))); (focus (repeat (first | exact AllE.nil _ | (apply AllE.cons; (focus (first | exact ent_nilBy | exact ent_nilSl | (apply Ent.mem; repeat' (first | exact mcs | apply mct)))))))); intro x hx)
  obtain ⟨k, ys, o⟩ := x
  obtain ⟨hk, hy⟩ := hx
  have hy : ys = xs ++ leB k v := hy
  subst hy
  have hk : k ≤ 2 := hk
  have hl : (xs ++ leB k v).length = xs.length + k := by rw [List.length_append, leB_length]
  have hd : v / 256 ^ k ≤ v := Nat.div_le_self _ _
  by_cases h : k < 2
  · repeat (first | refine n1 ?_ | refine n2 (fun b _ => ?_) | refine n3 (fun _ _ => ?_) | refine n4 ?_ | refine n5 ?_ | refine WL_nil ?_ | refine W_seq ?_ | refine W_region ?_ | refine n7 ?_ | refine n8 ?_ | refine W_block ?_ | refine W_skip ?_ | refine W_ret ?_ | refine W_exit ?_ | refine WQ_then ?_ | refine WQ_then_ret ?_ | refine WQ_then_exit ?_ | refine WQ_block_normal ?_ | refine WQ_block_ret ?_ | refine WQ_block_exit ?_ | refine n9 ?_)
    refine WL_runs rfl rfl rfl (R_shr rfl rfl (by omega) (shr8_eq v k (by omega))) ?_
    refine WL_runs rfl rfl rfl (R_convi rfl rfl rfl (low8 _)) ?_
    (apply WL_effs; exact rfl; exact rfl; exact rfl; (apply E_buildSlice; exact rfl; (focus (repeat (first | apply SeqE.nil | (apply SeqE.cons; exact rfl; (focus (first | (apply CellsE.lit; exact rfl) | (apply CellsE.one; (first | (apply OneC.lit; exact rfl) | (apply OneC.by_; (repeat' (first | exact mcs | apply mct)); done) | (apply OneC.sl; (repeat' (first | exact mcs | apply mct)); done) | (apply OneC.rw; (repeat' (first | exact mcs | apply mct)); done) | (apply OneC.row; (repeat' (first | exact Pick.head _ _ | apply Pick.tail))))))); exact rfl) | exact rfl))); exact rfl; (first | (intro _; exact (rfl : _ = Result.ok 1 _)) | (intro _; exact (rfl : _ = Result.ok 2 _)) | (intro _; exact (rfl : _ = Result.ok 3 _)) | (intro _; exact (rfl : _ = Result.ok 4 _)) | (intro _; exact (rfl : _ = Result.ok 5 _)) | (intro _; exact (rfl : _ = Result.ok 6 _)) | (intro _; exact (rfl : _ = Result.ok 7 _)) | (intro _; exact (rfl : _ = Result.ok 8 _)) | (intro _; exact (rfl : _ = Result.ok 9 _)) | (intro _; exact (rfl : _ = Result.ok 13 _)) | (intro _; exact (rfl : _ = Result.ok 14 _)) | (intro _; exact (rfl : _ = Result.ok 26 _)) | (intro _; exact (rfl : _ = Result.ok 40 _)) | (intro _; exact (rfl : _ = Result.ok 41 _)) | (intro _; exact (rfl : _ = Result.ok 42 _)) | (intro _; exact (rfl : _ = Result.ok 43 _)) | (intro _; exact (rfl : _ = Result.ok 44 _)) | (intro _; exact (rfl : _ = Result.ok 45 _)) | (intro _; exact (rfl : _ = Result.ok 46 _))); (intro _; exact rfl); exact rfl; exact Nat.le_of_ble_eq_true rfl; exact Nat.le_of_ble_eq_true rfl); skip)
    intro q _
    repeat (first | refine n1 ?_ | refine n2 (fun b _ => ?_) | refine n3 (fun _ _ => ?_) | refine n4 ?_ | refine n5 ?_ | refine WL_nil ?_ | refine W_seq ?_ | refine W_region ?_ | refine n7 ?_ | refine n8 ?_ | refine W_block ?_ | refine W_skip ?_ | refine W_ret ?_ | refine W_exit ?_ | refine WQ_then ?_ | refine WQ_then_ret ?_ | refine WQ_then_exit ?_ | refine WQ_block_normal ?_ | refine WQ_block_ret ?_ | refine WQ_block_exit ?_ | refine n9 ?_)
    (apply WL_effs; exact rfl; exact rfl; exact rfl; (apply E_appendRowB; exact rfl; exact rfl; (repeat' (first | exact Pick.head _ _ | apply Pick.tail)); (repeat' (first | exact Pick.head _ _ | apply Pick.tail)); (first | exact nil_map | exact one_map _ | exact two_map _ _ | exact rfl); (first | exact nil_map | exact one_map _ | exact two_map _ _ | exact rfl); exact rfl; exact rfl; exact rfl; exact rfl; exact rfl; exact Nat.le_of_ble_eq_true rfl; (first | omega | (simp only [List.length_take, List.length_drop, List.length_append, List.length_cons, List.length_nil, List.length_map, List.length_replicate]; omega)); (focus (first | exact Nat.zero_add _ | exact rfl)); (focus ((try (conv => lhs; simp only [Nat.add_sub_cancel_left, Nat.sub_zero, List.drop_zero, List.nil_append])); (first | done | exact rfl)))); skip)
    intro o2 _
    rw [List.append_assoc, ← leB_succ]
    repeat (first | refine n1 ?_ | refine n2 (fun b _ => ?_) | refine n3 (fun _ _ => ?_) | refine n4 ?_ | refine n5 ?_ | refine WL_nil ?_ | refine W_seq ?_ | refine W_region ?_ | refine n7 ?_ | refine n8 ?_ | refine W_block ?_ | refine W_skip ?_ | refine W_ret ?_ | refine W_exit ?_ | refine WQ_then ?_ | refine WQ_then_ret ?_ | refine WQ_then_exit ?_ | refine WQ_block_normal ?_ | refine WQ_block_ret ?_ | refine WQ_block_exit ?_ | refine n9 ?_)
    ((apply WQ_again ((k + 1, xs ++ leB (k + 1) v, o2))); (focus exact ⟨h, rfl⟩); (focus (omega)); (focus (repeat (first | exact FrIn.nil _ | (apply FrIn.cons; exact rfl; (first | exact rfl | (congr 1; first | omega | (dsimp only; omega)) | (simp; done)))))); (focus (repeat (first | exact SubO.nil _ | (apply SubO.cons; (focus (repeat' (first | exact Pick.head _ _ | apply Pick.tail))))))); (focus (repeat (first | exact AllE.nil _ | (apply AllE.cons; (focus (first | exact ent_nilBy | exact ent_nilSl | (apply Ent.mem; repeat' (first | exact mcs | apply mct)))))))))
  · obtain rfl : k = 2 := by omega
    repeat (first | refine n1 ?_ | refine n2 (fun b _ => ?_) | refine n3 (fun _ _ => ?_) | refine n4 ?_ | refine n5 ?_ | refine WL_nil ?_ | refine W_seq ?_ | refine W_region ?_ | refine n7 ?_ | refine n8 ?_ | refine W_block ?_ | refine W_skip ?_ | refine W_ret ?_ | refine W_exit ?_ | refine WQ_then ?_ | refine WQ_then_ret ?_ | refine WQ_then_exit ?_ | refine WQ_block_normal ?_ | refine WQ_block_ret ?_ | refine WQ_block_exit ?_ | refine n9 ?_)
    ((apply ret1 Try.results92 ( o)); (focus (first | trivial | assumption | omega)); (focus (first | exact RV_tmp rfl | (apply RV_cellN; exact rfl; (repeat' (first | exact Pick.head _ _ | apply Pick.tail)); (intro _; exact rfl); (intro _; exact rfl); exact rfl) | (apply RV_cell1; exact rfl; (repeat' (first | exact Pick.head _ _ | apply Pick.tail)); (intro _; exact rfl); exact rfl)));  (focus (first | exact rfl | (simp; done))); (focus (repeat (first | exact SubO.nil _ | (apply SubO.cons; (focus (repeat' (first | exact Pick.head _ _ | apply Pick.tail))))))); (focus (repeat (first | exact AllE.nil _ | (apply AllE.cons; (focus (first | exact ent_nilBy | exact ent_nilSl | (apply Ent.mem; repeat' (first | exact mcs | apply mct)))))))))

set_option maxRecDepth 100000 in
theorem Put16_fn (dv : Value) (xs : List UInt8) (v : Nat) (hx : xs.length ≤ 1000000000) (hv : v < 65536) : Ct Try.prog 84 [dv, .int .u16 (v : Int)] [] [By dv xs]
    (X := Value) (fun _ => True) (fun x => x) (fun x => [.row x 5 1 (xs.length + 2) ((xs ++ leB 2 v).map bcell)]) (fun _ => []) := by
  refine Ct_intro Try.func84 rfl Try.ntmps84 (by simp) _ rfl (fun w0 O0 => ?_)
  repeat (first | refine n1 ?_ | refine n2 (fun b _ => ?_) | refine n3 (fun _ _ => ?_) | refine n4 ?_ | refine n5 ?_ | refine WL_nil ?_ | refine W_seq ?_ | refine W_region ?_ | refine n7 ?_ | refine n8 ?_ | refine W_block ?_ | refine W_skip ?_ | refine W_ret ?_ | refine W_exit ?_ | refine WQ_then ?_ | refine WQ_then_ret ?_ | refine WQ_then_exit ?_ | refine WQ_block_normal ?_ | refine WQ_block_ret ?_ | refine WQ_block_exit ?_ | refine n9 ?_)
  (apply WL_effs; exact rfl; exact rfl; exact rfl; apply E_call; exact rfl; (intro _ _; simp); exact put_u16 dv xs v hx hv; (repeat (first | exact AllE.nil _ | (apply AllE.cons; (focus (first | exact ent_nilBy | exact ent_nilSl | (apply Ent.mem; repeat' (first | exact mcs | apply mct))))))); (intro _; exact rfl); (intro _; exact rfl))
  intro x _
  repeat (first | refine n1 ?_ | refine n2 (fun b _ => ?_) | refine n3 (fun _ _ => ?_) | refine n4 ?_ | refine n5 ?_ | refine WL_nil ?_ | refine W_seq ?_ | refine W_region ?_ | refine n7 ?_ | refine n8 ?_ | refine W_block ?_ | refine W_skip ?_ | refine W_ret ?_ | refine W_exit ?_ | refine WQ_then ?_ | refine WQ_then_ret ?_ | refine WQ_then_exit ?_ | refine WQ_block_normal ?_ | refine WQ_block_ret ?_ | refine WQ_block_exit ?_ | refine n9 ?_)
  ((apply ret1 Try.results84 ( x)); (focus (first | trivial | assumption | omega)); (focus (first | exact RV_tmp rfl | (apply RV_cellN; exact rfl; (repeat' (first | exact Pick.head _ _ | apply Pick.tail)); (intro _; exact rfl); (intro _; exact rfl); exact rfl) | (apply RV_cell1; exact rfl; (repeat' (first | exact Pick.head _ _ | apply Pick.tail)); (intro _; exact rfl); exact rfl)));  (focus (first | exact rfl | (simp; done))); (focus (repeat (first | exact SubO.nil _ | (apply SubO.cons; (focus (repeat' (first | exact Pick.head _ _ | apply Pick.tail))))))); (focus (repeat (first | exact AllE.nil _ | (apply AllE.cons; (focus (first | exact ent_nilBy | exact ent_nilSl | (apply Ent.mem; repeat' (first | exact mcs | apply mct)))))))))
set_option maxRecDepth 100000 in
set_option maxHeartbeats 1000000 in
theorem put_u64 (dv : Value) (xs : List UInt8) (v : Nat) (hx : xs.length ≤ 1000000000) (hv : v < 18446744073709551616) : Ct Try.prog 83 [dv, .int .u64 (v : Int), .int .i64 8] [] [By dv xs]
    (X := Value) (fun _ => True) (fun x => x) (fun x => [.row x 5 1 (xs.length + 8) ((xs ++ leB 8 v).map bcell)]) (fun _ => []) := by
  refine Ct_intro Try.func83 rfl Try.ntmps83 (by simp) _ rfl (fun w0 O0 => ?_)
  repeat (first | refine n1 ?_ | refine n2 (fun b _ => ?_) | refine n3 (fun _ _ => ?_) | refine n4 ?_ | refine n5 ?_ | refine WL_nil ?_ | refine W_seq ?_ | refine W_region ?_ | refine n7 ?_ | refine n8 ?_ | refine W_block ?_ | refine W_skip ?_ | refine W_ret ?_ | refine W_exit ?_ | refine WQ_then ?_ | refine WQ_then_ret ?_ | refine WQ_then_exit ?_ | refine WQ_block_normal ?_ | refine WQ_block_ret ?_ | refine WQ_block_exit ?_ | refine n9 ?_)
  (apply WL_effs; exact rfl; exact rfl; exact rfl; (apply E_make; exact rfl; exact rfl; (focus (first | exact lit0 | exact lit1 | exact lit2 | exact lit3 | exact lit4 | exact lit5 | exact lit6 | exact lit7 | exact lit8 | exact rfl | (simp; done) | omega)); (focus (first | exact lit0 | exact lit1 | exact lit2 | exact lit3 | exact lit4 | exact lit5 | exact lit6 | exact lit7 | exact lit8 | exact rfl | (simp; done) | omega)); (first | omega | (simp only [List.length_take, List.length_drop, List.length_append, List.length_cons, List.length_nil, List.length_map, List.length_replicate]; omega)); exact rfl; exact rfl; exact rfl; exact rfl; exact Nat.le_of_ble_eq_true rfl; (first | omega | (simp only [List.length_take, List.length_drop, List.length_append, List.length_cons, List.length_nil, List.length_map, List.length_replicate]; omega)); exact rfl); skip)
  intro out _
  repeat (first | refine n1 ?_ | refine n2 (fun b _ => ?_) | refine n3 (fun _ _ => ?_) | refine n4 ?_ | refine n5 ?_ | refine WL_nil ?_ | refine W_seq ?_ | refine W_region ?_ | refine n7 ?_ | refine n8 ?_ | refine W_block ?_ | refine W_skip ?_ | refine W_ret ?_ | refine W_exit ?_ | refine WQ_then ?_ | refine WQ_then_ret ?_ | refine WQ_then_exit ?_ | refine WQ_block_normal ?_ | refine WQ_block_ret ?_ | refine WQ_block_exit ?_ | refine n9 ?_)
  (apply WL_effs; exact rfl; exact rfl; exact rfl; (apply E_copyAll; exact rfl; exact rfl; (repeat' (first | exact Pick.head _ _ | apply Pick.tail)); (repeat' (first | exact mcs | apply mct)); exact rfl; exact rfl; (focus (first | exact lit0 | exact lit1 | exact lit2 | exact lit3 | exact lit4 | exact lit5 | exact lit6 | exact lit7 | exact lit8 | exact rfl | (simp; done) | omega))); skip)
  intro _ _
  repeat (first | refine n1 ?_ | refine n2 (fun b _ => ?_) | refine n3 (fun _ _ => ?_) | refine n4 ?_ | refine n5 ?_ | refine WL_nil ?_ | refine W_seq ?_ | refine W_region ?_ | refine n7 ?_ | refine n8 ?_ | refine W_block ?_ | refine W_skip ?_ | refine W_ret ?_ | refine W_exit ?_ | refine WQ_then ?_ | refine WQ_then_ret ?_ | refine WQ_then_exit ?_ | refine WQ_block_normal ?_ | refine WQ_block_ret ?_ | refine WQ_block_exit ?_ | refine n9 ?_)
  ((apply W_loopK (X := Nat × List UInt8 × Value) [7, 20] [0] (fun x => x.1 ≤ 8 ∧ x.2.1 = xs ++ leB x.1 v) (fun x => [(7, x.2.2), (20, .int .i64 (x.1 : Int))]) (fun x => [.row x.2.2 5 1 (xs.length + x.1) (x.2.1.map bcell)]) (fun _ => []) (fun x => 8 - x.1) ((0, xs, out))); (focus exact ⟨Nat.zero_le _, by simp [leB]⟩); exact rfl; exact rfl; (intro _; exact rfl); (intro _; exact rfl); (intro _; exact rfl); (focus (repeat (first | exact FrIn.nil _ | (apply FrIn.cons; exact rfl; (first | exact rfl | (congr 1; first | omega | (dsimp only; omega)) | (simp; done)))))); (focus (repeat (first | exact SubO.nil _ | (apply SubO.cons; (focus (repeat' (first | exact Pick.head _ _ | apply Pick.tail))))))); (focus (repeat (first | exact AllE.nil _ | (apply AllE.cons; (focus (first | exact ent_nilBy | exact ent_nilSl | (apply Ent.mem; repeat' (first | exact mcs | apply mct)))))))); intro x hx)
  obtain ⟨k, ys, o⟩ := x
  obtain ⟨hk, hy⟩ := hx
  have hy : ys = xs ++ leB k v := hy
  subst hy
  have hk : k ≤ 8 := hk
  have hl : (xs ++ leB k v).length = xs.length + k := by rw [List.length_append, leB_length]
  have hd : v / 256 ^ k ≤ v := Nat.div_le_self _ _
  by_cases h : k < 8
  · repeat (first | refine n1 ?_ | refine n2 (fun b _ => ?_) | refine n3 (fun _ _ => ?_) | refine n4 ?_ | refine n5 ?_ | refine WL_nil ?_ | refine W_seq ?_ | refine W_region ?_ | refine n7 ?_ | refine n8 ?_ | refine W_block ?_ | refine W_skip ?_ | refine W_ret ?_ | refine W_exit ?_ | refine WQ_then ?_ | refine WQ_then_ret ?_ | refine WQ_then_exit ?_ | refine WQ_block_normal ?_ | refine WQ_block_ret ?_ | refine WQ_block_exit ?_ | refine n9 ?_)
    refine WL_runs rfl rfl rfl (R_shr rfl rfl (by omega) (shr8_eq v k (by omega))) ?_
    refine WL_runs rfl rfl rfl (R_convi rfl rfl rfl (low8 _)) ?_
    (apply WL_effs; exact rfl; exact rfl; exact rfl; (apply E_buildSlice; exact rfl; (focus (repeat (first | apply SeqE.nil | (apply SeqE.cons; exact rfl; (focus (first | (apply CellsE.lit; exact rfl) | (apply CellsE.one; (first | (apply OneC.lit; exact rfl) | (apply OneC.by_; (repeat' (first | exact mcs | apply mct)); done) | (apply OneC.sl; (repeat' (first | exact mcs | apply mct)); done) | (apply OneC.rw; (repeat' (first | exact mcs | apply mct)); done) | (apply OneC.row; (repeat' (first | exact Pick.head _ _ | apply Pick.tail))))))); exact rfl) | exact rfl))); exact rfl; (first | (intro _; exact (rfl : _ = Result.ok 1 _)) | (intro _; exact (rfl : _ = Result.ok 2 _)) | (intro _; exact (rfl : _ = Result.ok 3 _)) | (intro _; exact (rfl : _ = Result.ok 4 _)) | (intro _; exact (rfl : _ = Result.ok 5 _)) | (intro _; exact (rfl : _ = Result.ok 6 _)) | (intro _; exact (rfl : _ = Result.ok 7 _)) | (intro _; exact (rfl : _ = Result.ok 8 _)) | (intro _; exact (rfl : _ = Result.ok 9 _)) | (intro _; exact (rfl : _ = Result.ok 13 _)) | (intro _; exact (rfl : _ = Result.ok 14 _)) | (intro _; exact (rfl : _ = Result.ok 26 _)) | (intro _; exact (rfl : _ = Result.ok 40 _)) | (intro _; exact (rfl : _ = Result.ok 41 _)) | (intro _; exact (rfl : _ = Result.ok 42 _)) | (intro _; exact (rfl : _ = Result.ok 43 _)) | (intro _; exact (rfl : _ = Result.ok 44 _)) | (intro _; exact (rfl : _ = Result.ok 45 _)) | (intro _; exact (rfl : _ = Result.ok 46 _))); (intro _; exact rfl); exact rfl; exact Nat.le_of_ble_eq_true rfl; exact Nat.le_of_ble_eq_true rfl); skip)
    intro q _
    repeat (first | refine n1 ?_ | refine n2 (fun b _ => ?_) | refine n3 (fun _ _ => ?_) | refine n4 ?_ | refine n5 ?_ | refine WL_nil ?_ | refine W_seq ?_ | refine W_region ?_ | refine n7 ?_ | refine n8 ?_ | refine W_block ?_ | refine W_skip ?_ | refine W_ret ?_ | refine W_exit ?_ | refine WQ_then ?_ | refine WQ_then_ret ?_ | refine WQ_then_exit ?_ | refine WQ_block_normal ?_ | refine WQ_block_ret ?_ | refine WQ_block_exit ?_ | refine n9 ?_)
    (apply WL_effs; exact rfl; exact rfl; exact rfl; (apply E_appendRowB; exact rfl; exact rfl; (repeat' (first | exact Pick.head _ _ | apply Pick.tail)); (repeat' (first | exact Pick.head _ _ | apply Pick.tail)); (first | exact nil_map | exact one_map _ | exact two_map _ _ | exact rfl); (first | exact nil_map | exact one_map _ | exact two_map _ _ | exact rfl); exact rfl; exact rfl; exact rfl; exact rfl; exact rfl; exact Nat.le_of_ble_eq_true rfl; (first | omega | (simp only [List.length_take, List.length_drop, List.length_append, List.length_cons, List.length_nil, List.length_map, List.length_replicate]; omega)); (focus (first | exact Nat.zero_add _ | exact rfl)); (focus ((try (conv => lhs; simp only [Nat.add_sub_cancel_left, Nat.sub_zero, List.drop_zero, List.nil_append])); (first | done | exact rfl)))); skip)
    intro o2 _
    rw [List.append_assoc, ← leB_succ]
    repeat (first | refine n1 ?_ | refine n2 (fun b _ => ?_) | refine n3 (fun _ _ => ?_) | refine n4 ?_ | refine n5 ?_ | refine WL_nil ?_ | refine W_seq ?_ | refine W_region ?_ | refine n7 ?_ | refine n8 ?_ | refine W_block ?_ | refine W_skip ?_ | refine W_ret ?_ | refine W_exit ?_ | refine WQ_then ?_ | refine WQ_then_ret ?_ | refine WQ_then_exit ?_ | refine WQ_block_normal ?_ | refine WQ_block_ret ?_ | refine WQ_block_exit ?_ | refine n9 ?_)
    ((apply WQ_again ((k + 1, xs ++ leB (k + 1) v, o2))); (focus exact ⟨h, rfl⟩); (focus (omega)); (focus (repeat (first | exact FrIn.nil _ | (apply FrIn.cons; exact rfl; (first | exact rfl | (congr 1; first | omega | (dsimp only; omega)) | (simp; done)))))); (focus (repeat (first | exact SubO.nil _ | (apply SubO.cons; (focus (repeat' (first | exact Pick.head _ _ | apply Pick.tail))))))); (focus (repeat (first | exact AllE.nil _ | (apply AllE.cons; (focus (first | exact ent_nilBy | exact ent_nilSl | (apply Ent.mem; repeat' (first | exact mcs | apply mct)))))))))
  · obtain rfl : k = 8 := by omega
    repeat (first | refine n1 ?_ | refine n2 (fun b _ => ?_) | refine n3 (fun _ _ => ?_) | refine n4 ?_ | refine n5 ?_ | refine WL_nil ?_ | refine W_seq ?_ | refine W_region ?_ | refine n7 ?_ | refine n8 ?_ | refine W_block ?_ | refine W_skip ?_ | refine W_ret ?_ | refine W_exit ?_ | refine WQ_then ?_ | refine WQ_then_ret ?_ | refine WQ_then_exit ?_ | refine WQ_block_normal ?_ | refine WQ_block_ret ?_ | refine WQ_block_exit ?_ | refine n9 ?_)
    ((apply ret1 Try.results83 ( o)); (focus (first | trivial | assumption | omega)); (focus (first | exact RV_tmp rfl | (apply RV_cellN; exact rfl; (repeat' (first | exact Pick.head _ _ | apply Pick.tail)); (intro _; exact rfl); (intro _; exact rfl); exact rfl) | (apply RV_cell1; exact rfl; (repeat' (first | exact Pick.head _ _ | apply Pick.tail)); (intro _; exact rfl); exact rfl)));  (focus (first | exact rfl | (simp; done))); (focus (repeat (first | exact SubO.nil _ | (apply SubO.cons; (focus (repeat' (first | exact Pick.head _ _ | apply Pick.tail))))))); (focus (repeat (first | exact AllE.nil _ | (apply AllE.cons; (focus (first | exact ent_nilBy | exact ent_nilSl | (apply Ent.mem; repeat' (first | exact mcs | apply mct)))))))))

set_option maxRecDepth 100000 in
theorem Put64_fn (dv : Value) (xs : List UInt8) (v : Nat) (hx : xs.length ≤ 1000000000) (hv : v < 18446744073709551616) : Ct Try.prog 50 [dv, .int .u64 (v : Int)] [] [By dv xs]
    (X := Value) (fun _ => True) (fun x => x) (fun x => [.row x 5 1 (xs.length + 8) ((xs ++ leB 8 v).map bcell)]) (fun _ => []) := by
  refine Ct_intro Try.func50 rfl Try.ntmps50 (by simp) _ rfl (fun w0 O0 => ?_)
  repeat (first | refine n1 ?_ | refine n2 (fun b _ => ?_) | refine n3 (fun _ _ => ?_) | refine n4 ?_ | refine n5 ?_ | refine WL_nil ?_ | refine W_seq ?_ | refine W_region ?_ | refine n7 ?_ | refine n8 ?_ | refine W_block ?_ | refine W_skip ?_ | refine W_ret ?_ | refine W_exit ?_ | refine WQ_then ?_ | refine WQ_then_ret ?_ | refine WQ_then_exit ?_ | refine WQ_block_normal ?_ | refine WQ_block_ret ?_ | refine WQ_block_exit ?_ | refine n9 ?_)
  (apply WL_effs; exact rfl; exact rfl; exact rfl; apply E_call; exact rfl; (intro _ _; simp); exact put_u64 dv xs v hx hv; (repeat (first | exact AllE.nil _ | (apply AllE.cons; (focus (first | exact ent_nilBy | exact ent_nilSl | (apply Ent.mem; repeat' (first | exact mcs | apply mct))))))); (intro _; exact rfl); (intro _; exact rfl))
  intro x _
  repeat (first | refine n1 ?_ | refine n2 (fun b _ => ?_) | refine n3 (fun _ _ => ?_) | refine n4 ?_ | refine n5 ?_ | refine WL_nil ?_ | refine W_seq ?_ | refine W_region ?_ | refine n7 ?_ | refine n8 ?_ | refine W_block ?_ | refine W_skip ?_ | refine W_ret ?_ | refine W_exit ?_ | refine WQ_then ?_ | refine WQ_then_ret ?_ | refine WQ_then_exit ?_ | refine WQ_block_normal ?_ | refine WQ_block_ret ?_ | refine WQ_block_exit ?_ | refine n9 ?_)
  ((apply ret1 Try.results50 ( x)); (focus (first | trivial | assumption | omega)); (focus (first | exact RV_tmp rfl | (apply RV_cellN; exact rfl; (repeat' (first | exact Pick.head _ _ | apply Pick.tail)); (intro _; exact rfl); (intro _; exact rfl); exact rfl) | (apply RV_cell1; exact rfl; (repeat' (first | exact Pick.head _ _ | apply Pick.tail)); (intro _; exact rfl); exact rfl)));  (focus (first | exact rfl | (simp; done))); (focus (repeat (first | exact SubO.nil _ | (apply SubO.cons; (focus (repeat' (first | exact Pick.head _ _ | apply Pick.tail))))))); (focus (repeat (first | exact AllE.nil _ | (apply AllE.cons; (focus (first | exact ent_nilBy | exact ent_nilSl | (apply Ent.mem; repeat' (first | exact mcs | apply mct)))))))))
end Go.Proofs.Ytoohgnegoaoleaa.C01

/-
  Parts of arrays in own blocks: slices of them, elements of such slices, appends onto them. No program is named here.
-/
namespace Go.Hs
open Go Go.RowKit
section
variable {C : Ctx} {fr : Fr} {Γ Γ' : List OA} {Φ : List SP} {d : Tmp} {ty : TypeId} {pos : String} {aft : Array Edge} {g : Option (Nat × Bool)}

/-- the goal stands at a region. -/
theorem W_isReg {C : Ctx} {fr : Fr} {Γ : List OA} {Φ : List SP} {Q : Exit → Act → World → Prop} (id : Nat) {l : Array Oper} {b : Bool} (h : W C (.region id l b) fr Γ Φ Q) : W C (.region id l b) fr Γ Φ Q := h
theorem add_at (b o k : Nat) : (⟨b, o, none⟩ : Addr).add k = ⟨b, o + k, none⟩ := by
  unfold Addr.add
  by_cases h : k = 0
  · subst h; rw [if_pos rfl]; rfl
  · rw [if_neg h]
/-- a part of what a pointer leads to, read as bytes. -/
theorem ent_ptByO {b off n : Nat} {xs : List Value} {bs : List UInt8} (hm : Pt (.pointer (some ⟨b, 0, none⟩)) xs ∈ Φ) (hx : (xs.drop off).take n = bs.map bcell) (hl : bs.length = n) (h0 : 0 < n) (hn : n ≤ 1000) : Ent Φ (By (.slice (some ⟨b, off, none⟩) n n) bs) := fun w O h => by
  obtain ⟨ad, hv, hlt, hO, hcell⟩ := h _ hm
  injection hv with hv
  injection hv with hv
  subst hv
  refine ⟨by rw [List.length_map, Nat.mul_one], some ⟨b, off, none⟩, n, by rw [hl], by omega, by simp only [maxLen]; omega, fun _ => ⟨⟨b, off, none⟩, rfl, hlt, hO, fun j u hu => ?_⟩⟩
  rw [← hx] at hu
  have hj : j < n := by
    have := (List.getElem?_eq_some_iff.1 hu).1
    rw [List.length_take] at this
    omega
  rw [List.getElem?_take, if_pos hj, List.getElem?_drop] at hu
  have := hcell (off + j) u hu
  rw [add_at, Nat.zero_add] at this
  rw [add_at]
  exact this
end
end Go.Hs

/-
  A region that draws its order, in which some operations are free: each makes something of its own, or tells lasting facts, in any order; one walk, in an order of our own, serves every order that the edges allow. No program is named here.
-/
namespace Go.Hs
open Go Go.RowKit

/-- the walk behind the settled beginning: settled operations lean on Γs alone; those of es make or write what is owned; those of us are free. -/
def PF (C : Ctx) (ops : Array Oper) (Γs : List OA) (es us : List Nat) (F : Nat → Value → List SP) (G : Nat → Value → List OA) (Q : Exit → Act → World → Prop) : List Nat → Fr → List OA → List SP → Prop
  | [], fr, Γ, Φ => WQ C .normal fr Γ Φ Q
  | i :: π, fr, Γ, Φ => ∃ o, ops[i]? = some o ∧ dstOk o.dst C.n = true ∧
      ((clsOf es us i = 0 ∧ ∃ v N, (∀ ψ ∈ N, Ent Φ ψ) ∧ ((gv ops fr o.guard = some true ∧ Runs C fr Γs Φ o v) ∨ (gv ops fr o.guard = some false ∧ v = undef)) ∧ PF C ops Γs es us F G Q π (putFr o.dst v fr) Γ (N ++ Φ)) ∨
       (clsOf es us i = 1 ∧ gv ops fr o.guard = some true ∧ ∃ (X : Type) (pf : X → Prop) (vx : X → Value) (Γ' : X → List OA) (Φ' : X → List SP), Effs C fr Γ Φ o pf vx Γ' Φ' ∧
          ∀ x, pf x → (SubO (Γ' x) Γs ∨ (π = [] ∧ ∀ j, j < ops.size → j ≠ i → depOn ops i j = true)) ∧ PF C ops Γs es us F G Q π (putFr o.dst (vx x) fr) (Γ' x) (Φ' x)) ∨
       (clsOf es us i = 2 ∧ ∀ v, PF C ops Γs es us F G Q π (putFr o.dst v fr) (G i v ++ Γ) (F i v ++ Φ)))

/-- a free operation: some value; what is told of it, what is its own. -/
def FreeE (C : Ctx) (fr : Fr) (Φ : List SP) (o : Oper) (F : Value → List SP) (G : Value → List OA) : Prop :=
  ∀ Ψ, Effs C fr [] (Φ ++ Ψ) o (X := Value) (fun _ => True) (fun v => v) G (fun v => F v ++ (Φ ++ Ψ))

def frOn (ops : Array Oper) (val : Nat → Value) (fr0 : Fr) : List Nat → Fr
  | [] => fr0
  | j :: r => putFr (dstAt ops j) (val j) (frOn ops val fr0 r)
def fsOn (F : Nat → Value → List SP) (val : Nat → Value) : List Nat → List SP
  | [] => []
  | j :: r => F j (val j) ++ fsOn F val r
def gsOn (G : Nat → Value → List OA) (val : Nat → Value) : List Nat → List OA
  | [] => []
  | j :: r => G j (val j) ++ gsOn G val r

def FSpec (C : Ctx) (ops : Array Oper) (us : List Nat) (dl : Nat → List Nat) (F : Nat → Value → List SP) (G : Nat → Value → List OA) (fr0 : Fr) (Φ0 : List SP) : Prop :=
  ∀ u ∈ us, ∃ o, ops[u]? = some o ∧ o.guard = none ∧ ∀ val, FreeE C (frOn ops val fr0 (dl u)) (fsOn F val (dl u) ++ Φ0) o (F u) (G u)

theorem fsOn_upd {F : Nat → Value → List SP} {val : Nat → Value} {i : Nat} {v : Value} : ∀ {l : List Nat}, i ∉ l → fsOn F (upd val i v) l = fsOn F val l
  | [], _ => rfl
  | j :: r, h => by
    rw [fsOn, fsOn, fsOn_upd fun hk => h (List.mem_cons_of_mem _ hk), upd_other _ _ fun (e : j = i) => h (List.mem_cons.2 (.inl e.symm))]
theorem gsOn_upd {G : Nat → Value → List OA} {val : Nat → Value} {i : Nat} {v : Value} : ∀ {l : List Nat}, i ∉ l → gsOn G (upd val i v) l = gsOn G val l
  | [], _ => rfl
  | j :: r, h => by
    rw [gsOn, gsOn, gsOn_upd fun hk => h (List.mem_cons_of_mem _ hk), upd_other _ _ fun (e : j = i) => h (List.mem_cons.2 (.inl e.symm))]
theorem fsOn_mem {F : Nat → Value → List SP} {val : Nat → Value} : ∀ {l : List Nat} {j : Nat}, j ∈ l → AllIn (F j (val j)) (fsOn F val l)
  | [], _, h => by cases h
  | k :: r, j, h => fun ψ hψ => by
    rw [fsOn]
    rcases List.mem_cons.1 h with rfl | h
    · exact List.mem_append.2 (.inl hψ)
    · exact List.mem_append.2 (.inr (fsOn_mem h ψ hψ))
theorem fsOn_nil {F : Nat → Value → List SP} {val : Nat → Value} : ∀ {l : List Nat}, (∀ j ∈ l, ∀ v, F j v = []) → fsOn F val l = []
  | [], _ => rfl
  | j :: r, h => by rw [fsOn, h j List.mem_cons_self, fsOn_nil fun k hk => h k (List.mem_cons_of_mem _ hk)]; rfl
theorem fsOn_all {F : Nat → Value → List SP} {val : Nat → Value} {Φ : List SP} : ∀ {l : List Nat}, (∀ j ∈ l, AllIn (F j (val j)) Φ) → AllIn (fsOn F val l) Φ
  | [], _ => fun _ h => by cases h
  | j :: r, h => fun ψ hψ => by
    rcases List.mem_append.1 hψ with h1 | h1
    · exact h j List.mem_cons_self ψ h1
    · exact fsOn_all (fun k hk => h k (List.mem_cons_of_mem _ hk)) ψ h1
theorem fsOn_app {F : Nat → Value → List SP} {val : Nat → Value} : ∀ {l m : List Nat}, fsOn F val (l ++ m) = fsOn F val l ++ fsOn F val m
  | [], _ => rfl
  | j :: r, m => by rw [List.cons_append, fsOn, fsOn, fsOn_app, List.append_assoc]
theorem gsOn_app {G : Nat → Value → List OA} {val : Nat → Value} : ∀ {l m : List Nat}, gsOn G val (l ++ m) = gsOn G val l ++ gsOn G val m
  | [], _ => rfl
  | j :: r, m => by rw [List.cons_append, gsOn, gsOn, gsOn_app, List.append_assoc]

/-- what is asked of the free operations' leanings. -/
structure FitF (ops : Array Oper) (es us s : List Nat) (dl : Nat → List Nat) (F : Nat → Value → List SP) (n : Nat) : Prop where
  dus : ∀ u ∈ us, ∀ j ∈ dl u, j ∈ us ∧ clsOf es us j = 2 ∧ depOn ops u j = true ∧ dstOk (dstAt ops j) n = true
  dep : ∀ u ∈ us, ∀ j, depOn ops u j = true → j ∈ s ∨ j ∈ dl u
  per : ∀ i, i < ops.size → clsOf es us i = 1 → ∀ j ∈ us, depOn ops i j = true ∨ ∀ v, F j v = []

section
variable {C : Ctx} {ops : Array Oper} {es us π0 s : List Nat} {dl : Nat → List Nat} {F : Nat → Value → List SP} {G : Nat → Value → List OA} {fr0 : Fr} {Φ0 : List SP} {Γs : List OA} {Q : Exit → Act → World → Prop}

theorem frOn_fok {a0 : Act} {val : Nat → Value} (h : fok C fr0 (puts ops a0 val s)) : ∀ {l : List Nat}, (∀ j ∈ l, dstOk (dstAt ops j) C.n = true) → fok C (frOn ops val fr0 l) (puts ops a0 val (l ++ s))
  | [], _ => h
  | j :: r, hd => by
    rw [List.cons_append, frOn, puts]
    exact (frOn_fok h fun k hk => hd k (List.mem_cons_of_mem _ hk)).putd (hd j List.mem_cons_self)

/-- the state of a drawn region, held against our walk. -/
structure SF (C : Ctx) (ops : Array Oper) (es us π0 s : List Nat) (F : Nat → Value → List SP) (G : Nat → Value → List OA) (fr0 : Fr) (Φ0 : List SP) (Γs : List OA) (Q : Exit → Act → World → Prop) (a0 : Act) (fuel : Nat) (π ps ex : List Nat) (val : Nat → Value) (fr : Fr) (Γ : List OA) (Φ : List SP)
    (el : List Nat) (listed : Array Bool) (w : World) : Prop where
  plan : π0 = ps.reverse ++ π
  lsz : listed.size = ops.size
  lex : ∀ i, i < ops.size → (listed.getD i false = true ↔ i ∈ ex)
  xlt : ∀ i ∈ ex, i < ops.size
  fu : (π0.filter fun k => !ex.contains k).length ≤ fuel
  xdep : ∀ i ∈ ex, ∀ j, depOn ops i j = true → j ∈ ex
  xps : ∀ i ∈ ex, i ∈ ps ∨ (i ∈ π ∧ i ∈ el)
  early : ∀ i ∈ el, i ∈ ex ∧ i ∈ π ∧ clsOf es us i = 2
  elnd : el.Nodup
  pend : ∀ j ∈ ps, j ∉ ex → Pend C ops Γs a0 val Φ ps j
  frm : fok C fr (puts ops a0 val ps)
  hol : Holds C (Γ ++ gsOn G val el) (fsOn F val el ++ Φ) w
  sub : SubO Γ Γs ∨ (π = [] ∧ ∀ j ∈ ps, j ∈ ex)
  walk : PF C ops Γs es us F G Q π fr Γ Φ
  base : fok C fr0 (puts ops a0 val s)
  sps : ∀ j ∈ s, j ∈ ps
  fct : AllIn Φ0 Φ
  pfct : ∀ j ∈ ps, clsOf es us j = 2 → AllIn (F j (val j)) Φ

theorem allR (Ψ Φ : List SP) : AllIn Φ (Ψ ++ Φ) := fun _ h => List.mem_append.2 (.inr h)
theorem allL (Ψ Φ : List SP) : AllIn Ψ (Ψ ++ Φ) := fun _ h => List.mem_append.2 (.inl h)
theorem AllIn.trans {Ψ Φ Θ : List SP} (h : AllIn Ψ Φ) (k : AllIn Φ Θ) : AllIn Ψ Θ := fun ψ hψ => k ψ (h ψ hψ)
theorem AllIn.app {Ψ Φ Θ : List SP} (h : AllIn Ψ Θ) (k : AllIn Φ Θ) : AllIn (Ψ ++ Φ) Θ := fun ψ hψ => (List.mem_append.1 hψ).elim (h ψ) (k ψ)

theorem SF.proper {a0 : Act} {fuel : Nat} {π ps ex : List Nat} {val : Nat → Value} {fr : Fr} {Γ : List OA} {Φ : List SP} {el : List Nat} {listed : Array Bool} {w : World}
    (T : Fit ops es us π0) (S : SF C ops es us π0 s F G fr0 Φ0 Γs Q a0 fuel π ps ex val fr Γ Φ el listed w) {i : Nat} {o : Oper} (ho : ops[i]? = some o) (hx : i ∉ ex) (hdep : ∀ j, depOn ops i j = true → j ∈ ex) : Proper ops i o ex := by
  refine ⟨hdep, fun k hk => ?_⟩
  obtain ⟨ok, hok⟩ : ∃ ok, ops[k]? = some ok := ⟨_, Array.getElem?_eq_getElem (S.xlt k hk)⟩
  have hne : k ≠ i := fun e => hx (e ▸ hk)
  rcases T.apart k i ok o hne hok ho with h | h | h
  · exact absurd (S.xdep k hk i h) hx
  · exact .inl h
  · exact .inr fun t ht => h t (by rw [← dstAt_eq hok]; exact ht)

/-- what is behind an operation in our order it does not look at. -/
theorem behind (T : Fit ops es us π0) {ps π : List Nat} (hp : π0 = ps.reverse ++ π) {i : Nat} {o : Oper} (ho : ops[i]? = some o) (hi : i ∉ ps) {k : Nat} (hk : k ∈ ps) : depOn ops i k = true ∨ ∀ t, dstAt ops k = some t → t ∉ o.looksAt ops := by
  have hklt := T.lt k (by rw [hp]; simp [hk])
  obtain ⟨ok, hok⟩ : ∃ ok, ops[k]? = some ok := ⟨_, Array.getElem?_eq_getElem hklt⟩
  rcases T.apart k i ok o (fun e => hi (e ▸ hk)) hok ho with h | h | h
  · exfalso
    obtain ⟨l1, l2, hl⟩ := List.append_of_mem (List.mem_reverse.2 hk)
    have h1 := T.ord l1 k (l2 ++ π) (by rw [hp, hl]; simp) i h
    exact hi (List.mem_reverse.1 (by rw [hl]; simp [h1]))
  · exact .inl h
  · exact .inr fun t ht => h t (by rw [← dstAt_eq hok]; exact ht)

/-- one operation is done. -/
theorem SF.step (T : Fit ops es us π0) (TF : FitF ops es us s dl F C.n) (hU : FSpec C ops us dl F G fr0 Φ0) {a0 : Act} {fuel : Nat}
    (ih : ∀ (π ps ex : List Nat) (val : Nat → Value) (fr : Fr) (Γ : List OA) (Φ : List SP) (el : List Nat) (listed : Array Bool) (w : World), SF C ops es us π0 s F G fr0 Φ0 Γs Q a0 fuel π ps ex val fr Γ Φ el listed w → wpAnyIn (fenceOf C.rd) 0 C.P .any ops Q fuel listed (puts ops a0 val ex) w)
    {π ps ex : List Nat} {val : Nat → Value} {fr : Fr} {Γ : List OA} {Φ : List SP} {el : List Nat} {listed : Array Bool} {w : World}
    (S : SF C ops es us π0 s F G fr0 Φ0 Γs Q a0 (fuel + 1) π ps ex val fr Γ Φ el listed w)
    (hst : ∀ h r, π = h :: r → h ∉ ex ∧ clsOf es us h ≠ 0) {i : Nat} (hlt : i < ops.size) (hx : i ∉ ex) (hdep : ∀ j, depOn ops i j = true → j ∈ ex) :
    wpOpIn (fenceOf C.rd) 0 C.P ops Q i (wpAnyIn (fenceOf C.rd) 0 C.P .any ops Q fuel (listed.setIfInBounds i true)) (puts ops a0 val ex) w := by
  obtain ⟨o, ho⟩ : ∃ o, ops[i]? = some o := ⟨_, Array.getElem?_eq_getElem hlt⟩
  have hprop := S.proper T ho hx hdep
  have hi0 := T.all i hlt
  have lsz' : (listed.setIfInBounds i true).size = ops.size := by simp [S.lsz]
  have lex' : ∀ j, j < ops.size → ((listed.setIfInBounds i true).getD j false = true ↔ j ∈ i :: ex) := fun j hj => by
    rw [getD_set_iff S.lsz hlt, S.lex j hj]
    simp
  have xlt' : ∀ j ∈ i :: ex, j < ops.size := fun j hj => by
    rcases List.mem_cons.1 hj with rfl | hj
    · exact hlt
    · exact S.xlt j hj
  have fu' : (π0.filter fun k => !(i :: ex).contains k).length ≤ fuel := by
    have := filter_lt (p := fun k => !ex.contains k) (q := fun k => !(i :: ex).contains k) (fun x hq => by simp at hq ⊢; exact hq.2) hi0 (by simpa using hx) (by simp)
    have := S.fu
    omega
  have xdep' : ∀ k ∈ i :: ex, ∀ j, depOn ops k j = true → j ∈ i :: ex := fun k hk j hj => by
    rcases List.mem_cons.1 hk with rfl | hk
    · exact List.mem_cons_of_mem _ (hdep j hj)
    · exact List.mem_cons_of_mem _ (S.xdep k hk j hj)
  have hmem : i ∈ ps ∨ i ∈ π := by
    rw [S.plan] at hi0
    simpa using hi0
  unfold wpOpIn
  rw [ho]
  show if Region.wanted o (yielded ops (puts ops a0 val ex).tmps) = true then _ else _
  rcases hmem with hmem | hmem
  · -- it waited
    obtain ⟨o', Φj, X, ho', hin, hT, hTp, h⟩ := S.pend i hmem hx
    obtain rfl : o = o' := by rw [ho] at ho'; injection ho' with e
    obtain ⟨e1, e2⟩ := exec_same T (a0 := a0) (val := val) ho hTp hprop
    have next : ∀ w', Holds C (Γ ++ gsOn G val el) (fsOn F val el ++ Φ) w' → SF C ops es us π0 s F G fr0 Φ0 Γs Q a0 fuel π ps (i :: ex) val fr Γ Φ el (listed.setIfInBounds i true) w' := fun w' hw' =>
      { plan := S.plan, lsz := lsz', lex := lex', xlt := xlt', fu := fu', xdep := xdep', elnd := S.elnd, frm := S.frm, hol := hw', sub := S.sub.imp_right (fun h => ⟨h.1, fun j hj => List.mem_cons_of_mem _ (h.2 j hj)⟩), walk := S.walk
        base := S.base, sps := S.sps, fct := S.fct, pfct := S.pfct
        xps := fun k hk => by
          rcases List.mem_cons.1 hk with rfl | hk
          · exact .inl hmem
          · exact S.xps k hk
        early := fun p hp => ⟨List.mem_cons_of_mem _ (S.early p hp).1, (S.early p hp).2⟩
        pend := fun j hj hjx => S.pend j hj fun hk => hjx (List.mem_cons_of_mem _ hk) }
    rcases h with ⟨hw1, hg⟩ | ⟨hw1, hv⟩
    · rw [if_pos (by rw [← e2]; exact hw1)]
      have hG := hg w (sub_holds S.hol (S.sub.resolve_right fun h => hx (h.2 i hmem)) (hin.trans (allR _ _)))
      rw [e1] at hG
      refine hG.wp fun v' w' ⟨hv, hm⟩ => ?_
      subst hv
      have := ih _ _ _ _ _ _ _ _ _ _ (next w' (S.hol.ext hm))
      rw [puts, dstAt_eq ho] at this
      exact this
    · rw [if_neg (by rw [← e2, hw1]; simp)]
      have := ih _ _ _ _ _ _ _ _ _ _ (next w S.hol)
      rw [puts, dstAt_eq ho, hv] at this
      exact ⟨fun f _ => fenceOf_fn _ f, this⟩
  · have hnps : i ∉ ps := fun h => by
      have := T.nodup
      rw [S.plan] at this
      exact (List.nodup_append.1 this).2.2 i (List.mem_reverse.2 h) i hmem rfl
    have hpps : ∀ k ∈ ps, k ≠ i := fun k hk e => hnps (e ▸ hk)
    have hns : i ∉ s := fun h => hnps (S.sps i h)
    by_cases hc : clsOf es us i = 2
    · -- a free operation
      have hius := cls_us hc
      obtain ⟨o', ho', hgd, hsp⟩ := hU i hius
      obtain rfl : o = o' := by rw [ho] at ho'; injection ho' with e
      have hdl := TF.dus i hius
      have hPr : Proper ops i o (dl i ++ s) := by
        refine ⟨fun j hj => List.mem_append.2 ((TF.dep i hius j hj).symm), fun k hk => ?_⟩
        rcases List.mem_append.1 hk with hk | hk
        · exact .inl (hdl k hk).2.2.1
        · exact behind T S.plan ho hnps (S.sps k hk)
      obtain ⟨e1, _⟩ := exec_same T (a0 := a0) (val := val) ho hPr hprop
      rw [if_pos (by simp [Region.wanted, hgd])]
      have hfk := frOn_fok S.base (l := dl i) fun j hj => (hdl j hj).2.2.2
      have hall : AllIn (fsOn F val (dl i) ++ Φ0) (fsOn F val el ++ Φ) := by
        refine AllIn.app (fsOn_all fun j hj => ?_) (S.fct.trans (allR _ _))
        rcases S.xps j (hdep j (hdl j hj).2.2.1) with h | ⟨_, h⟩
        · exact (S.pfct j h (hdl j hj).2.1).trans (allR _ _)
        · exact (fsOn_mem h).trans (allL _ _)
      have hG := (hsp val (fsOn F val el ++ Φ)).2 (Γ ++ gsOn G val el) _ w hfk ⟨S.hol.mod, S.hol.own, S.hol.ofp, S.hol.o0, fun ψ hψ => S.hol.sp ψ ((hall.app (AllIn.refl _)) ψ hψ)⟩
      rw [e1] at hG
      refine hG.wp fun v' w' ⟨x, _, hv, hw'⟩ => ?_
      subst hv
      have hnel : i ∉ el := fun h => hx (S.early i h).1
      have S' : SF C ops es us π0 s F G fr0 Φ0 Γs Q a0 fuel π ps (i :: ex) (upd val i v') fr Γ Φ (i :: el) (listed.setIfInBounds i true) w' :=
        { plan := S.plan, lsz := lsz', lex := lex', xlt := xlt', fu := fu', xdep := xdep', sub := S.sub.imp_right (fun h => ⟨h.1, fun j hj => List.mem_cons_of_mem _ (h.2 j hj)⟩), walk := S.walk
          base := by rw [puts_upd hns]; exact S.base
          sps := S.sps, fct := S.fct
          pfct := fun j hj hj2 => by rw [upd_other _ _ (hpps j hj)]; exact S.pfct j hj hj2
          xps := fun k hk => by
            rcases List.mem_cons.1 hk with rfl | hk
            · exact .inr ⟨hmem, List.mem_cons_self⟩
            · rcases S.xps k hk with h | ⟨h, hA⟩
              · exact .inl h
              · exact .inr ⟨h, List.mem_cons_of_mem _ hA⟩
          early := fun p hp => by
            rcases List.mem_cons.1 hp with rfl | hp
            · exact ⟨List.mem_cons_self, hmem, hc⟩
            · exact ⟨List.mem_cons_of_mem _ (S.early p hp).1, (S.early p hp).2⟩
          elnd := List.nodup_cons.2 ⟨hnel, S.elnd⟩
          pend := fun j hj hjx => (S.pend j hj fun hk => hjx (List.mem_cons_of_mem _ hk)).turn (fun k hk => (upd_other _ _ (hpps k hk)).symm) (upd_other _ _ (hpps j hj)).symm (AllIn.refl _) fun k hk => hk
          frm := by rw [puts_upd hnps]; exact S.frm
          hol := by
            rw [fsOn, gsOn, fsOn_upd hnel, gsOn_upd hnel, upd_same]
            have h1 : Holds C (G i v' ++ (Γ ++ gsOn G val el)) (F i v' ++ fsOn F val el ++ Φ) w' := hw'.sub fun ψ hψ => by
              rw [List.append_assoc] at hψ
              rcases List.mem_append.1 hψ with h | h
              · exact List.mem_append.2 (.inl h)
              · exact List.mem_append.2 (.inr (List.mem_append.2 (.inr h)))
            refine h1.perm ?_
            rw [← List.append_assoc, ← List.append_assoc]
            exact List.Perm.append_right _ List.perm_append_comm }
      have := ih _ _ _ _ _ _ _ _ _ _ S'
      rw [puts, dstAt_eq ho, upd_same, puts_upd hx] at this
      exact this
    · -- the walk's next
      cases hπ : π with
      | nil => rw [hπ] at hmem; cases hmem
      | cons h r =>
        obtain ⟨hhx, hh0⟩ := hst h r hπ
        have hih : i = h := by
          rw [hπ] at hmem
          rcases List.mem_cons.1 hmem with e | hr
          · exact e
          · exact absurd (hdep h (T.eff ps.reverse h r (by rw [S.plan, hπ]) hh0 i hr hc)) hhx
        subst hih
        have hpl := S.walk
        rw [hπ] at hpl
        obtain ⟨o', ho', hdo, hnode⟩ := hpl
        obtain rfl : o = o' := by rw [ho] at ho'; injection ho' with e
        rcases hnode with ⟨h0, _⟩ | ⟨hc1, hgv, X, pf, vx, Γ', Φ', heff, hk⟩ | ⟨h2, _⟩
        · exact absurd h0 hh0
        · have hpprop : Proper ops i o ps := ⟨fun j hj => by simpa using T.ord ps.reverse i r (by rw [S.plan, hπ]) j hj, fun k hk => behind T S.plan ho hnps hk⟩
          obtain ⟨e1, e2⟩ := exec_same T (a0 := a0) (val := val) ho hpprop hprop
          have hnone : fsOn F val el = [] := fsOn_nil fun j hj v => by
            obtain ⟨_, hjπ, hj2⟩ := S.early j hj
            rcases TF.per i hlt hc1 j (cls_us hj2) with h | h
            · have := T.ord ps.reverse i r (by rw [S.plan, hπ]) j h
              have hjp := List.mem_reverse.1 this
              have hnd := T.nodup
              rw [S.plan] at hnd
              exact absurd rfl ((List.nodup_append.1 hnd).2.2 j (List.mem_reverse.2 hjp) j hjπ)
            · exact h v
          rw [if_pos (by rw [← e2]; exact gv_sound S.frm hgv)]
          have hhol := S.hol
          rw [hnone, List.nil_append] at hhol
          have hG := heff.2 _ _ w S.frm hhol
          rw [e1] at hG
          refine hG.wp fun v' w' ⟨x, hpf, hv, hw'⟩ => ?_
          subst hv
          obtain ⟨hsub, hpl'⟩ := hk x hpf
          have hnel : i ∉ el := fun h => hx (S.early i h).1
          have S' : SF C ops es us π0 s F G fr0 Φ0 Γs Q a0 fuel r (i :: ps) (i :: ex) (upd val i (vx x)) (putFr o.dst (vx x) fr) (Γ' x) (Φ' x) el (listed.setIfInBounds i true) w' :=
            { plan := by rw [S.plan, hπ]; simp
              lsz := lsz', lex := lex', xlt := xlt', fu := fu', xdep := xdep', walk := hpl'
              sub := hsub.imp_right (fun h => ⟨h.1, fun j hj => by
                by_cases e : j = i
                · rw [e]; exact List.mem_cons_self
                · rcases List.mem_cons.1 hj with h' | h'
                  · exact absurd h' e
                  · exact List.mem_cons_of_mem _ (hdep j (h.2 j (T.lt j (by rw [S.plan]; simp [h'])) e))⟩)
              elnd := S.elnd
              hol := by rw [fsOn_upd hnel, gsOn_upd hnel, hnone, List.nil_append]; exact hw'
              base := by rw [puts_upd hns]; exact S.base
              sps := fun j hj => List.mem_cons_of_mem _ (S.sps j hj)
              fct := S.fct.trans (heff.1 x)
              pfct := fun j hj hj2 => by
                rcases List.mem_cons.1 hj with rfl | hj
                · exact absurd hj2 hc
                · rw [upd_other _ _ (hpps j hj)]; exact (S.pfct j hj hj2).trans (heff.1 x)
              xps := fun k hk => by
                rcases List.mem_cons.1 hk with rfl | hk
                · exact .inl List.mem_cons_self
                · rcases S.xps k hk with h | ⟨h, hA⟩
                  · exact .inl (List.mem_cons_of_mem _ h)
                  · rw [hπ] at h
                    rcases List.mem_cons.1 h with h | h
                    · exact absurd (h ▸ hk) hx
                    · exact .inr ⟨h, hA⟩
              early := fun p hp => by
                obtain ⟨h1, h2, h3⟩ := S.early p hp
                refine ⟨List.mem_cons_of_mem _ h1, ?_, h3⟩
                rw [hπ] at h2
                exact (List.mem_cons.1 h2).resolve_left fun e => hx (e ▸ h1)
              pend := fun j hj hjx => by
                rcases List.mem_cons.1 hj with rfl | hj
                · exact absurd List.mem_cons_self hjx
                · exact (S.pend j hj fun hk => hjx (List.mem_cons_of_mem _ hk)).turn (fun k hk => (upd_other _ _ (hpps k hk)).symm) (upd_other _ _ (hpps j hj)).symm (heff.1 x) fun k hk => List.mem_cons_of_mem _ hk
              frm := by
                rw [puts, upd_same, puts_upd hnps, dstAt_eq ho]
                exact S.frm.putd hdo }
          have := ih _ _ _ _ _ _ _ _ _ _ S'
          rw [puts, dstAt_eq ho, upd_same, puts_upd hx] at this
          exact this
        · exact absurd h2 hc
theorem SF.ready {a0 : Act} {fuel : Nat} {π ps ex : List Nat} {val : Nat → Value} {fr : Fr} {Γ : List OA} {Φ : List SP} {el : List Nat} {listed : Array Bool} {w : World}
    (T : Fit ops es us π0) (S : SF C ops es us π0 s F G fr0 Φ0 Γs Q a0 fuel π ps ex val fr Γ Φ el listed w) {i : Nat} (h : i ∈ Region.ready .any ops listed) : i < ops.size ∧ i ∉ ex ∧ ∀ j, depOn ops i j = true → j ∈ ex := by
  obtain ⟨hlt, hl, o, ho, hall⟩ := ready_mem h
  refine ⟨hlt, fun hx => ?_, fun j hj => ?_⟩
  · have := (S.lex i hlt).2 hx
    have hlt' : i < listed.size := by rw [S.lsz]; exact hlt
    simp [Array.getD_eq_getD_getElem?, hlt'] at this hl
    rw [this] at hl
    cases hl
  · obtain ⟨o', e, ho', he, hb, hor⟩ := T.clos i j hlt hj
    obtain rfl : o = o' := by rw [ho] at ho'; injection ho' with e
    have hle := hall e he hb
    have helt : e.on < ops.size := by
      rcases Nat.lt_or_ge e.on ops.size with h | h
      · exact h
      · have : listed[e.on]? = none := Array.getElem?_eq_none (by rw [S.lsz]; exact h)
        simp [Array.getD_eq_getD_getElem?, this] at hle
    have hex := (S.lex e.on helt).1 hle
    rcases hor with rfl | hor
    · exact hex
    · exact S.xdep _ hex j hor

/-- nothing is ready: all is done. -/
theorem SF.done {a0 : Act} {fuel : Nat} {π ps ex : List Nat} {val : Nat → Value} {fr : Fr} {Γ : List OA} {Φ : List SP} {el : List Nat} {listed : Array Bool} {w : World}
    (T : Fit ops es us π0) (S : SF C ops es us π0 s F G fr0 Φ0 Γs Q a0 fuel π ps ex val fr Γ Φ el listed w) (hr : Region.ready .any ops listed = []) : ∀ i ∈ π0, i ∈ ex := by
  have key : ∀ n l1 i l2, l1.length = n → π0 = l1 ++ i :: l2 → i ∈ ex := by
    intro n
    induction n using Nat.strongRecOn with
    | _ n ih =>
      intro l1 i l2 hn hl
      have hlt := T.lt i (by rw [hl]; simp)
      obtain ⟨o, ho⟩ : ∃ o, ops[i]? = some o := ⟨_, Array.getElem?_eq_getElem hlt⟩
      rcases Classical.em (i ∈ ex) with hx | hx
      · exact hx
      · exfalso
        have : i ∈ Region.ready .any ops listed := by
          refine mem_ready.2 ⟨?_, o, ho, fun e he hb => ?_⟩
          · have hlt' : i < listed.size := by rw [S.lsz]; exact hlt
            have h2 : ¬ listed.getD i false = true := fun h => hx ((S.lex i hlt).1 h)
            simp [Array.getD_eq_getD_getElem?, hlt'] at h2 ⊢
            exact h2
          · have hd := T.edge i o e ho he hb
            have hm := T.ord l1 i l2 hl e.on hd
            obtain ⟨m1, m2, hm2⟩ := List.append_of_mem hm
            have helt := T.lt e.on (by rw [hl, hm2]; simp)
            refine (S.lex e.on helt).2 (ih m1.length (by rw [← hn, hm2]; simp) m1 e.on (m2 ++ i :: l2) rfl (by rw [hl, hm2]; simp))
        rw [hr] at this
        cases this
  intro i hi
  obtain ⟨l1, l2, hl⟩ := List.append_of_mem hi
  exact key _ l1 i l2 rfl hl

theorem SF.fin {a0 : Act} {fuel : Nat} {π ps ex : List Nat} {val : Nat → Value} {fr : Fr} {Γ : List OA} {Φ : List SP} {el : List Nat} {listed : Array Bool} {w : World}
    (T : Fit ops es us π0) (S : SF C ops es us π0 s F G fr0 Φ0 Γs Q a0 fuel π ps ex val fr Γ Φ el listed w) (hst : ∀ h r, π = h :: r → h ∉ ex ∧ clsOf es us h ≠ 0) (hall : ∀ i ∈ π0, i ∈ ex) : Q .normal (puts ops a0 val ex) w := by
  have hπ : π = [] := by
    cases hπ : π with
    | nil => rfl
    | cons h r => exact absurd (hall h (by rw [S.plan, hπ]; simp)) (hst h r hπ).1
  subst hπ
  have hel : el = [] := by
    cases el with
    | nil => rfl
    | cons p r => have := (S.early p List.mem_cons_self).2.1; cases this
  subst hel
  have hw := S.walk
  refine hw _ w (fok_same T (fun j => ⟨fun h => hall j (by rw [S.plan]; simp [h]), fun h => ?_⟩) S.frm) (by simpa [gsOn, fsOn] using S.hol)
  rcases S.xps j h with h | ⟨h, _⟩
  · exact h
  · cases h

/-- what can be settled is settled, ahead of the next step. -/
theorem SF.settle (T : Fit ops es us π0) {a0 : Act} {fuel : Nat} {listed : Array Bool} {w : World} {ex : List Nat} {K : (Nat → Value) → Prop}
    (hK : ∀ (π ps : List Nat) (val : Nat → Value) (fr : Fr) (Γ : List OA) (Φ : List SP) (el : List Nat), SF C ops es us π0 s F G fr0 Φ0 Γs Q a0 fuel π ps ex val fr Γ Φ el listed w → (∀ h r, π = h :: r → h ∉ ex ∧ clsOf es us h ≠ 0) → K val)
    (hKc : ∀ val val', (∀ k ∈ ex, val k = val' k) → K val' → K val) :
    ∀ (π ps : List Nat) (val : Nat → Value) (fr : Fr) (Γ : List OA) (Φ : List SP) (el : List Nat), SF C ops es us π0 s F G fr0 Φ0 Γs Q a0 fuel π ps ex val fr Γ Φ el listed w → K val := by
  intro π
  induction π with
  | nil => exact fun ps val fr Γ Φ el S => hK _ _ _ _ _ _ _ S fun h r e => by cases e
  | cons i r ih =>
    intro ps val fr Γ Φ el S
    have hnd := T.nodup
    rw [S.plan] at hnd
    have hnps : i ∉ ps := fun h => (List.nodup_append.1 hnd).2.2 i (List.mem_reverse.2 h) i List.mem_cons_self rfl
    have hpps : ∀ k ∈ ps, k ≠ i := fun k hk e => hnps (e ▸ hk)
    have hns : i ∉ s := fun h => hnps (S.sps i h)
    obtain ⟨o, ho, hdo, hnode⟩ := S.walk
    have hpprop : Proper ops i o ps := ⟨fun j hj => by simpa using T.ord ps.reverse i r S.plan j hj, fun k hk => behind T S.plan ho hnps hk⟩
    rcases hnode with ⟨h0, v, N, hN, hrun, hpl⟩ | ⟨h1, _⟩ | ⟨h2, hpl⟩
    · -- settled by what is known
      have hix : i ∉ ex := fun h => by
        rcases S.xps i h with h | ⟨_, hA⟩
        · exact hnps h
        · have := (S.early _ hA).2.2
          rw [h0] at this
          cases this
      have hnel : i ∉ el := fun h => hix (S.early i h).1
      have hin : AllIn Φ (N ++ Φ) := fun ψ hψ => List.mem_append.2 (.inr hψ)
      refine hKc val (upd val i v) (fun k hk => (upd_other _ _ (fun (e : k = i) => hix (e ▸ hk))).symm) (ih (i :: ps) (upd val i v) (putFr o.dst v fr) Γ (N ++ Φ) el
        { plan := by rw [S.plan]; simp
          lsz := S.lsz, lex := S.lex, xlt := S.xlt, fu := S.fu, xdep := S.xdep, elnd := S.elnd, sub := .inl (S.sub.resolve_right fun h => by cases h.1), walk := hpl
          base := by rw [puts_upd hns]; exact S.base
          sps := fun j hj => List.mem_cons_of_mem _ (S.sps j hj)
          fct := S.fct.trans hin
          pfct := fun j hj hj2 => by
            rcases List.mem_cons.1 hj with rfl | hj
            · rw [h0] at hj2; cases hj2
            · rw [upd_other _ _ (hpps j hj)]; exact (S.pfct j hj hj2).trans hin
          hol := by
            rw [fsOn_upd hnel, gsOn_upd hnel]
            exact ⟨S.hol.mod, S.hol.own, S.hol.ofp, S.hol.o0, fun ψ hψ => by
              rcases List.mem_append.1 hψ with hψ | hψ
              · exact S.hol.sp ψ (List.mem_append.2 (.inl hψ))
              · rcases List.mem_append.1 hψ with hψ | hψ
                · exact hN ψ hψ _ _ fun χ hχ => S.hol.sp χ (List.mem_append.2 (.inr hχ))
                · exact S.hol.sp ψ (List.mem_append.2 (.inr hψ))⟩
          xps := fun k hk => by
            rcases S.xps k hk with h | ⟨h, A⟩
            · exact .inl (List.mem_cons_of_mem _ h)
            · exact .inr ⟨(List.mem_cons.1 h).resolve_left (fun (e : k = i) => hix (by rw [← e]; exact hk)), A⟩
          early := fun p hp => by
            obtain ⟨h1, h2, h3⟩ := S.early p hp
            exact ⟨h1, (List.mem_cons.1 h2).resolve_left fun e => hix (e ▸ h1), h3⟩
          pend := fun j hj hjx => by
            rcases List.mem_cons.1 hj with rfl | hj
            · refine ⟨o, Φ, ps, ho, hin, fun k hk => List.mem_cons_of_mem _ hk, hpprop, ?_⟩
              rw [puts_upd hnps, upd_same]
              rcases hrun with ⟨hg, hr⟩ | ⟨hg, hv⟩
              · refine .inl ⟨gv_sound S.frm hg, fun w' hw' => hr _ w' S.frm hw'⟩
              · exact .inr ⟨gv_sound S.frm hg, hv⟩
            · exact (S.pend j hj hjx).turn (fun k hk => (upd_other _ _ (hpps k hk)).symm) (upd_other _ _ (hpps j hj)).symm hin fun k hk => List.mem_cons_of_mem _ hk
          frm := by
            rw [puts, upd_same, puts_upd hnps, dstAt_eq ho]
            exact S.frm.putd hdo })
    · exact hK _ _ _ _ _ _ _ S fun h r' e => by
        injection e with e1 e2
        subst e1
        refine ⟨fun hx => ?_, by rw [h1]; decide⟩
        rcases S.xps i hx with h | ⟨_, hA⟩
        · exact hnps h
        · have := (S.early _ hA).2.2
          rw [h1] at this
          cases this
    · by_cases hx : i ∈ ex
      · -- what was done ahead takes its place
        have hA : i ∈ el := by
          rcases S.xps i hx with h | ⟨_, h⟩
          · exact absurd h hnps
          · exact h
        obtain ⟨e1, e2, hel⟩ := List.append_of_mem hA
        have hnd2 := S.elnd
        rw [hel] at hnd2
        have hni : ∀ p ∈ e1 ++ e2, p ≠ i := fun p hp e => by
          rw [List.nodup_append] at hnd2
          obtain ⟨_, h2, h3⟩ := hnd2
          rcases List.mem_append.1 hp with hp | hp
          · exact h3 p hp i List.mem_cons_self e
          · exact (List.nodup_cons.1 h2).1 (e ▸ hp)
        have hback : ∀ p ∈ e1 ++ e2, p ∈ el := fun p hp => by
          rw [hel]
          rcases List.mem_append.1 hp with h | h
          · exact List.mem_append.2 (.inl h)
          · exact List.mem_append.2 (.inr (List.mem_cons_of_mem _ h))
        have hin : AllIn Φ (F i (val i) ++ Φ) := allR _ _
        refine ih (i :: ps) val (putFr o.dst (val i) fr) (G i (val i) ++ Γ) (F i (val i) ++ Φ) (e1 ++ e2)
          { plan := by rw [S.plan]; simp
            lsz := S.lsz, lex := S.lex, xlt := S.xlt, fu := S.fu, xdep := S.xdep, walk := hpl (val i)
            base := S.base
            sps := fun j hj => List.mem_cons_of_mem _ (S.sps j hj)
            fct := S.fct.trans hin
            pfct := fun j hj hj2 => by
              rcases List.mem_cons.1 hj with rfl | hj
              · exact allL _ _
              · exact (S.pfct j hj hj2).trans hin
            sub := by
              obtain ⟨X, hX⟩ := S.sub.resolve_right fun h => by cases h.1
              refine .inl ⟨G i (val i) ++ X, (List.Perm.append_left _ hX).trans ?_⟩
              rw [← List.append_assoc, ← List.append_assoc]
              exact List.Perm.append_right _ List.perm_append_comm
            elnd := by
              rw [List.nodup_append] at hnd2 ⊢
              obtain ⟨h1, h2, h3⟩ := hnd2
              exact ⟨h1, (List.nodup_cons.1 h2).2, fun a ha b hb => h3 a ha b (List.mem_cons_of_mem _ hb)⟩
            hol := by
              have hh := S.hol
              rw [hel, fsOn_app, gsOn_app, fsOn, gsOn] at hh
              rw [fsOn_app, gsOn_app]
              have h1 := hh.sub (Ψ := fsOn F val e1 ++ fsOn F val e2 ++ (F i (val i) ++ Φ)) fun ψ hψ => by
                simp only [List.mem_append] at hψ ⊢
                rcases hψ with (h | h) | h | h
                · exact .inl (.inl h)
                · exact .inl (.inr (.inr h))
                · exact .inl (.inr (.inl h))
                · exact .inr h
              refine h1.perm ?_
              generalize gsOn G val e1 = A1
              generalize gsOn G val e2 = A2
              generalize G i (val i) = B
              have p1 : (A1 ++ (B ++ A2)).Perm (B ++ (A1 ++ A2)) := by
                rw [← List.append_assoc, ← List.append_assoc]
                exact List.Perm.append_right _ List.perm_append_comm
              refine (List.Perm.append_left Γ p1).trans ?_
              rw [← List.append_assoc]
              exact List.Perm.append_right _ List.perm_append_comm
            xps := fun k hk => by
              rcases S.xps k hk with h | ⟨h, hA'⟩
              · exact .inl (List.mem_cons_of_mem _ h)
              · by_cases e : k = i
                · exact .inl (e ▸ List.mem_cons_self)
                · refine .inr ⟨(List.mem_cons.1 h).resolve_left e, ?_⟩
                  rw [hel] at hA'
                  rcases List.mem_append.1 hA' with h | h
                  · exact List.mem_append.2 (.inl h)
                  · rcases List.mem_cons.1 h with h | h
                    · exact absurd h e
                    · exact List.mem_append.2 (.inr h)
            early := fun p hp => by
              obtain ⟨h1, h2, h3⟩ := S.early p (hback p hp)
              exact ⟨h1, (List.mem_cons.1 h2).resolve_left (hni p hp), h3⟩
            pend := fun j hj hjx => by
              rcases List.mem_cons.1 hj with rfl | hj
              · exact absurd hx hjx
              · exact (S.pend j hj hjx).turn (fun _ _ => rfl) rfl hin fun k hk => List.mem_cons_of_mem _ hk
            frm := by
              rw [puts, dstAt_eq ho]
              exact S.frm.putd hdo }
      · exact hK _ _ _ _ _ _ _ S fun h r' e => by
          injection e with e1 e2
          subst e1
          exact ⟨hx, by rw [h2]; decide⟩

theorem PF_main (T : Fit ops es us π0) (TF : FitF ops es us s dl F C.n) (hU : FSpec C ops us dl F G fr0 Φ0) (a0 : Act) : ∀ (fuel : Nat) (π ps ex : List Nat) (val : Nat → Value) (fr : Fr) (Γ : List OA) (Φ : List SP) (el : List Nat) (listed : Array Bool) (w : World),
    SF C ops es us π0 s F G fr0 Φ0 Γs Q a0 fuel π ps ex val fr Γ Φ el listed w → wpAnyIn (fenceOf C.rd) 0 C.P .any ops Q fuel listed (puts ops a0 val ex) w := by
  intro fuel
  induction fuel with
  | zero =>
    intro π ps ex val fr Γ Φ el listed w S
    refine SF.settle T (K := fun val => wpAnyIn (fenceOf C.rd) 0 C.P .any ops Q 0 listed (puts ops a0 val ex) w) ?_ (fun v v' h hk => by rw [puts_congr ex h]; exact hk) π ps val fr Γ Φ el S
    intro π ps val fr Γ Φ el S hst
    have hall : ∀ i ∈ π0, i ∈ ex := fun i hi => by
      rcases Classical.em (i ∈ ex) with h | h
      · exact h
      · have : i ∈ π0.filter fun k => !ex.contains k := List.mem_filter.2 ⟨hi, by simpa using h⟩
        have h0 := List.length_pos_of_mem this
        have := S.fu
        omega
    refine ⟨?_, S.fin T hst hall⟩
    cases hr : Region.ready .any ops listed with
    | nil => rfl
    | cons i r =>
      obtain ⟨h1, h2, _⟩ := S.ready T (i := i) (by rw [hr]; exact List.mem_cons_self)
      exact absurd (hall i (T.all i h1)) h2
  | succ fuel ih =>
    intro π ps ex val fr Γ Φ el listed w S
    refine SF.settle T (K := fun val => wpAnyIn (fenceOf C.rd) 0 C.P .any ops Q (fuel + 1) listed (puts ops a0 val ex) w) ?_ (fun v v' h hk => by rw [puts_congr ex h]; exact hk) π ps val fr Γ Φ el S
    intro π ps val fr Γ Φ el S hst
    refine ⟨fun hr => S.fin T hst (S.done T hr), fun i hi => ?_⟩
    obtain ⟨h1, h2, h3⟩ := S.ready T hi
    exact SF.step T TF hU ih S hst h1 h2 h3

/-- the settled beginning; what is known behind it serves the free operations. -/
def PS (C : Ctx) (ops : Array Oper) (Γs : List OA) (es us : List Nat) (Γ : List OA) (K : Fr → List SP → Prop) : List Nat → Fr → List SP → Prop
  | [], fr, Φ => K fr Φ
  | i :: s, fr, Φ => ∃ o, ops[i]? = some o ∧ dstOk o.dst C.n = true ∧ clsOf es us i = 0 ∧ ∃ v N, (∀ ψ ∈ N, Ent Φ ψ) ∧ ((gv ops fr o.guard = some true ∧ Runs C fr Γs Φ o v) ∨ (gv ops fr o.guard = some false ∧ v = undef)) ∧ PS C ops Γs es us Γ K s (putFr o.dst v fr) (N ++ Φ)

/-- behind the settled beginning. -/
theorem PS.go (T : Fit ops es us π0) {a0 : Act} {w : World} {Γ : List OA} {K : Fr → List SP → Prop} {R : Prop} :
    ∀ (s2 : List Nat) (ps : List Nat) (val : Nat → Value) (fr : Fr) (Φ : List SP) (π1 : List Nat), π0 = ps.reverse ++ (s2 ++ π1) → (∀ j ∈ ps, clsOf es us j = 0) → fok C fr (puts ops a0 val ps) → Holds C Γ Φ w → (∀ j ∈ ps, Pend C ops Γs a0 val Φ ps j) → PS C ops Γs es us Γ K s2 fr Φ →
      (∀ (val' : Nat → Value) (fr' : Fr) (Φ' : List SP), fok C fr' (puts ops a0 val' (s2.reverse ++ ps)) → Holds C Γ Φ' w → (∀ j ∈ s2.reverse ++ ps, Pend C ops Γs a0 val' Φ' (s2.reverse ++ ps) j) → (∀ j ∈ s2.reverse ++ ps, clsOf es us j = 0) → K fr' Φ' → R) → R := by
  intro s2
  induction s2 with
  | nil => exact fun ps val fr Φ π1 _ hc hf hh hp hs hR => hR val fr Φ hf hh hp hc hs
  | cons i r ih =>
    intro ps val fr Φ π1 hpl hc hf hh hp ⟨o, ho, hdo, h0, v, N, hN, hrun, hs⟩ hR
    have hnd := T.nodup
    rw [hpl] at hnd
    have hnps : i ∉ ps := fun h => (List.nodup_append.1 hnd).2.2 i (List.mem_reverse.2 h) i (by simp) rfl
    have hpps : ∀ k ∈ ps, k ≠ i := fun k hk e => hnps (e ▸ hk)
    have hpprop : Proper ops i o ps := ⟨fun j hj => by simpa using T.ord ps.reverse i (r ++ π1) hpl j hj, fun k hk => behind T hpl ho hnps hk⟩
    have hin : AllIn Φ (N ++ Φ) := fun ψ hψ => List.mem_append.2 (.inr hψ)
    refine ih (i :: ps) (upd val i v) (putFr o.dst v fr) (N ++ Φ) π1 (by rw [hpl]; simp) (fun j hj => ?_) ?_ ?_ (fun j hj => ?_) hs fun val' fr' Φ' h1 h2 h3 h4 h5 => hR val' fr' Φ' (by simpa using h1) h2 (by simpa using h3) (by simpa using h4) h5
    · rcases List.mem_cons.1 hj with rfl | hj
      · exact h0
      · exact hc j hj
    · rw [puts, upd_same, puts_upd hnps, dstAt_eq ho]
      exact hf.putd hdo
    · exact ⟨hh.mod, hh.own, hh.ofp, hh.o0, fun ψ hψ => (List.mem_append.1 hψ).elim (fun h => hN ψ h _ _ hh.sp) (hh.sp ψ)⟩
    · rcases List.mem_cons.1 hj with rfl | hj
      · refine ⟨o, Φ, ps, ho, hin, fun k hk => List.mem_cons_of_mem _ hk, hpprop, ?_⟩
        rw [puts_upd hnps, upd_same]
        rcases hrun with ⟨hg, hr⟩ | ⟨hg, hv⟩
        · exact .inl ⟨gv_sound hf hg, fun w' hw' => hr _ w' hf hw'⟩
        · exact .inr ⟨gv_sound hf hg, hv⟩
      · exact (hp j hj).turn (fun k hk => (upd_other _ _ (hpps k hk)).symm) (upd_other _ _ (hpps j hj)).symm hin fun k hk => List.mem_cons_of_mem _ hk

/-- the free operations' leanings, by reckoning: nf names those of which nothing is told. -/
def chkF (ops : Array Oper) (es us s nf : List Nat) (dl : Nat → List Nat) (n : Nat) : Bool :=
  let D := Region.before ops
  D.size == ops.size && (us.all fun u => ((dl u).all fun j => us.contains j && clsOf es us j == 2 && (D.getD u 0).testBit j && dstOk (dstAt ops j) n) && ((List.range ops.size).all fun j => !((D.getD u 0).testBit j) || s.contains j || (dl u).contains j)) &&
  ((List.range ops.size).all fun i => clsOf es us i != 1 || us.all fun j => (D.getD i 0).testBit j || nf.contains j)

theorem fitF_of_chk {nf : List Nat} {n : Nat} (T : Fit ops es us π0) (hc : chkF ops es us s nf dl n = true) (hnf : ∀ j ∈ nf, ∀ v, F j v = []) : FitF ops es us s dl F n := by
  simp only [chkF, Bool.and_eq_true, List.all_eq_true, List.mem_range] at hc
  obtain ⟨⟨h0, h1⟩, h2⟩ := hc
  refine ⟨fun u hu j hj => ?_, fun u hu j hj => ?_, fun i hi hc1 j hj => ?_⟩
  · have := (h1 u hu).1 j hj
    obtain ⟨⟨⟨a, b⟩, c⟩, d⟩ := this
    exact ⟨by simpa using a, by simpa using b, c, d⟩
  · have hjlt : j < ops.size := by
      by_cases hlt : u < ops.size
      · obtain ⟨l1, l2, hl⟩ := List.append_of_mem (T.all u hlt)
        have := T.ord l1 u l2 hl j hj
        exact T.lt j (by rw [hl]; simp [this])
      · exfalso
        unfold depOn at hj
        have hs : (Region.before ops).size = ops.size := by simpa using h0
        have : (Region.before ops)[u]? = none := Array.getElem?_eq_none (by rw [hs]; omega)
        simp [Array.getD_eq_getD_getElem?, this] at hj
    have := (h1 u hu).2 j hjlt
    unfold depOn at hj
    rw [hj] at this
    simpa using this
  · have := h2 i hi
    rw [hc1] at this
    simp only [bne_self_eq_false, Bool.false_or, List.all_eq_true] at this
    rcases Bool.or_eq_true .. |>.mp (this j hj) with h | h
    · exact .inl h
    · exact .inr (hnf j (by simpa using h))

theorem W_regionF {id : Nat} {l : List Oper} {fr : Fr} {Γ : List OA} {Φ : List SP} (es us s π1 nf : List Nat) (dl : Nat → List Nat) (F : Nat → Value → List SP) (G : Nat → Value → List OA) (Γs : List OA) (hm : C.P.follows .mixedOrders = true) (hc : chk l.toArray es us (s ++ π1) = true) (hcf : chkF l.toArray es us s nf dl C.n = true) (hnf : ∀ j ∈ nf, ∀ v, F j v = []) (hs : SubO Γ Γs)
    (h : PS C l.toArray Γs es us Γ (fun fr0 Φ0 => FSpec C l.toArray us dl F G fr0 Φ0 ∧ PF C l.toArray Γs es us F G Q π1 fr0 Γ Φ0) s fr Φ) : W C (.region id l.toArray true) fr Γ Φ Q := by
  intro a w ha hw
  have T := fit_of_chk hc
  refine wpIn_region_any hm ?_
  have hw1 : Holds C Γ Φ { w with drawn := w.drawn + 1 } := hw.ext (w' := { w with drawn := w.drawn + 1 }) ⟨rfl, rfl, rfl, Nat.le_refl _, fun _ _ _ => rfl⟩
  refine PS.go T (a0 := a) (w := { w with drawn := w.drawn + 1 }) s [] (fun _ => undef) fr Φ π1 rfl (fun _ h => by cases h) ha hw1 (fun _ h => by cases h) h fun val fr0 Φ0 hf hh hp hcl ⟨hU, hP⟩ => ?_
  rw [List.append_nil] at hf hp hcl
  have TF := fitF_of_chk (F := F) (s := s) (n := C.n) T hcf hnf
  have TF' : FitF l.toArray es us s.reverse dl F C.n := ⟨TF.dus, fun u hu j hj => (TF.dep u hu j hj).imp_left List.mem_reverse.2, TF.per⟩
  refine PF_main (Γs := Γs) (Q := Q) T TF' hU a _ π1 s.reverse [] val fr0 Γ Φ0 [] _ _ { plan := (by simp), lsz := (by simp), lex := ?_, xlt := (fun _ h => by cases h), fu := ?_, xdep := (fun _ h => by cases h), xps := (fun _ h => by cases h), early := (fun _ h => by cases h), elnd := List.nodup_nil, pend := (fun j hj _ => hp j hj), frm := hf, hol := (by simpa [gsOn, fsOn] using hh), sub := .inl hs, walk := hP, base := hf, sps := (fun _ h => h), fct := AllIn.refl _, pfct := (fun j hj h2 => by have := hcl j hj; rw [this] at h2; cases h2) }
  · intro i hi
    have hi' : i < l.length := by simpa using hi
    simp [Array.getD_eq_getD_getElem?, hi']
  · have := T.len
    refine Nat.le_trans (List.length_filter_le _ _) ?_
    simpa using this

end
end Go.Hs

/-
  The steps of a walk through a region with free operations. No program is named here.
-/
namespace Go.Hs
open Go Go.RowKit
section
variable {C : Ctx} {ops : Array Oper} {o : Oper} {d : Nat} {v : Value} {fr fr0 fr1 : Fr} {Γ Γs : List OA} {Φ : List SP} {Q : Exit → Act → World → Prop} {ψ : SP}
  {X : Type} {pf : X → Prop} {vx : X → Value} {Γ' : X → List OA} {Φ' : X → List SP} {es us π s : List Nat} {i : Nat} {F : Nat → Value → List SP} {G : Nat → Value → List OA} {K : Fr → List SP → Prop}

theorem PS_nil (h : K fr Φ) : PS C ops Γs es us Γ K [] fr Φ := h
theorem PF_nil (h : WQ C .normal fr Γ Φ Q) : PF C ops Γs es us F G Q [] fr Γ Φ := h
theorem PF_runs (he : clsOf es us i = 0) (ho : lget ops.toList i = some o) (hg : gv ops fr o.guard = some true) (hd : o.dst = some d) (hn : Nat.blt d C.n = true) (h : Runs C fr Γs Φ o v)
    (k : PF C ops Γs es us F G Q π ((d, v) :: fr) Γ Φ) : PF C ops Γs es us F G Q (i :: π) fr Γ Φ :=
  ⟨o, lget_ops ho, by rw [hd]; exact hn, .inl ⟨he, v, [], (fun _ h => by cases h), .inl ⟨hg, h⟩, by rw [hd]; exact k⟩⟩
theorem PF_runsF (he : clsOf es us i = 0) (ho : lget ops.toList i = some o) (hg : gv ops fr o.guard = some true) (hd : o.dst = some d) (hn : Nat.blt d C.n = true) (h : Runs C fr Γs Φ o v ∧ Ent Φ ψ)
    (k : PF C ops Γs es us F G Q π ((d, v) :: fr) Γ (ψ :: Φ)) : PF C ops Γs es us F G Q (i :: π) fr Γ Φ :=
  ⟨o, lget_ops ho, by rw [hd]; exact hn, .inl ⟨he, v, [ψ], (fun χ hχ => by rcases List.mem_cons.1 hχ with rfl | hχ; exact h.2; cases hχ), .inl ⟨hg, h.1⟩, by rw [hd]; exact k⟩⟩
theorem PF_pass (he : clsOf es us i = 0) (ho : lget ops.toList i = some o) (hg : gv ops fr o.guard = some false) (hd : o.dst = some d) (hn : Nat.blt d C.n = true)
    (k : PF C ops Γs es us F G Q π ((d, undef) :: fr) Γ Φ) : PF C ops Γs es us F G Q (i :: π) fr Γ Φ :=
  ⟨o, lget_ops ho, by rw [hd]; exact hn, .inl ⟨he, undef, [], (fun _ h => by cases h), .inr ⟨hg, rfl⟩, by rw [hd]; exact k⟩⟩
theorem PF_effs (he : clsOf es us i = 1) (ho : lget ops.toList i = some o) (hg : gv ops fr o.guard = some true) (hd : o.dst = some d) (hn : Nat.blt d C.n = true)
    (h : Effs C fr Γ Φ o pf vx Γ' Φ') (hs : ∀ x, SubO (Γ' x) Γs) (k : ∀ x, pf x → PF C ops Γs es us F G Q π ((d, vx x) :: fr) (Γ' x) (Φ' x)) : PF C ops Γs es us F G Q (i :: π) fr Γ Φ :=
  ⟨o, lget_ops ho, by rw [hd]; exact hn, .inr (.inl ⟨he, hg, X, pf, vx, Γ', Φ', h, fun x hx => ⟨.inl (hs x), by rw [hd]; exact k x hx⟩⟩)⟩
theorem PF_do (he : clsOf es us i = 1) (ho : lget ops.toList i = some o) (hg : gv ops fr o.guard = some true) (hd : o.dst = none)
    (h : Effs C fr Γ Φ o pf vx Γ' Φ') (hs : ∀ x, SubO (Γ' x) Γs) (k : ∀ x, pf x → PF C ops Γs es us F G Q π fr (Γ' x) (Φ' x)) : PF C ops Γs es us F G Q (i :: π) fr Γ Φ :=
  ⟨o, lget_ops ho, by rw [hd]; rfl, .inr (.inl ⟨he, hg, X, pf, vx, Γ', Φ', h, fun x hx => ⟨.inl (hs x), by rw [hd]; exact k x hx⟩⟩)⟩
/-- a free operation in its place. -/
theorem PF_free {Γ1 : Value → List OA} {Φ1 : Value → List SP} (he : clsOf es us i = 2) (ho : lget ops.toList i = some o) (hd : o.dst = some d) (hn : Nat.blt d C.n = true)
    (hG : ∀ v, appO (G i v) Γ = some (Γ1 v)) (hF : ∀ v, appO (F i v) Φ = some (Φ1 v)) (k : ∀ v, PF C ops Γs es us F G Q π ((d, v) :: fr) (Γ1 v) (Φ1 v)) : PF C ops Γs es us F G Q (i :: π) fr Γ Φ :=
  ⟨o, lget_ops ho, by rw [hd]; exact hn, .inr (.inr ⟨he, fun v => by rw [hd, appO_eq (hG v), appO_eq (hF v)]; exact k v⟩)⟩

/-- the frame of a free operation, reckoned to the end. -/
def frOnO (ops : Array Oper) (val : Nat → Value) (fr0 : Fr) : List Nat → Option Fr
  | [] => some fr0
  | j :: r => match lget ops.toList j with
    | some o => match o.dst with
      | some d => match frOnO ops val fr0 r with
        | some f => some ((d, val j) :: f)
        | none => none
      | none => frOnO ops val fr0 r
    | none => none
theorem frOnO_eq {val : Nat → Value} : ∀ {l : List Nat} {f : Fr}, frOnO ops val fr0 l = some f → frOn ops val fr0 l = f
  | [], f, h => by injection h
  | j :: r, f, h => by
    rw [frOn]
    rw [frOnO] at h
    cases ho : lget ops.toList j with
    | none => rw [ho] at h; cases h
    | some o =>
      rw [ho] at h
      rw [dstAt_eq (lget_ops ho)]
      simp only at h
      cases hd : o.dst with
      | none => rw [hd] at h; exact frOnO_eq h
      | some d =>
        rw [hd] at h
        simp only at h
        cases hr : frOnO ops val fr0 r with
        | none => rw [hr] at h; cases h
        | some g =>
          rw [hr] at h
          injection h with h
          rw [← h, frOnO_eq hr]
          rfl

theorem FSpec.nil {dl : Nat → List Nat} {Φ0 : List SP} : FSpec C ops [] dl F G fr0 Φ0 := fun _ h => by cases h
theorem FSpec.cons {u : Nat} {dl : Nat → List Nat} {Φ0 : List SP} {frv : (Nat → Value) → Fr} {Φv : (Nat → Value) → List SP → List SP} {Φw : List SP → List SP} (ho : lget ops.toList u = some o) (hg : o.guard = none)
    (hf : ∀ val, frOnO ops val fr0 (dl u) = some (frv val)) (hw : ∀ Ψ, appO Φ0 Ψ = some (Φw Ψ)) (hv : ∀ val Ψ, appO (fsOn F val (dl u)) (Φw Ψ) = some (Φv val Ψ))
    (h : ∀ val Ψ, Effs C (frv val) [] (Φv val Ψ) o (X := Value) (fun _ => True) (fun v => v) (G u) (fun v => F u v ++ Φv val Ψ)) (k : FSpec C ops us dl F G fr0 Φ0) : FSpec C ops (u :: us) dl F G fr0 Φ0 := fun j hj => by
  rcases List.mem_cons.1 hj with rfl | hj
  · refine ⟨o, lget_ops ho, hg, fun val Ψ => ?_⟩
    rw [frOnO_eq (hf val), List.append_assoc, appO_eq (hw Ψ), appO_eq (hv val Ψ)]
    exact h val Ψ
  · exact k j hj

theorem Effs.tellB {o : Oper} {Γ1 : List OA} {pf : Value → Prop} {vx : Value → Value} {t : TypeId} {n : Nat} {xs : List Value} {bs : List UInt8} (h : Effs C fr Γ Φ o (X := Value) pf vx (fun v => .row (vx v) t 1 n xs :: Γ1) (fun _ => Φ)) (hb : xs = bs.map bcell) : Effs C fr Γ Φ o (X := Value) pf vx (fun _ => Γ1) (fun v => By (vx v) bs :: Φ) :=
  ⟨fun _ ψ hψ => List.mem_cons_of_mem _ hψ, fun R a w ha hw => (h.2 R a w ha hw).mono fun _ _ ⟨x, hp, hv, hw'⟩ => ⟨x, hp, hv, Holds.letgoB hw' hb⟩⟩
end
end Go.Hs

/-
  The steps of a walk through a region with free operations, with the reckoning of each side goal by default. No program is named here.
-/
namespace Go.Hs
open Go Go.RowKit
attribute [local irreducible] WL W WQ PL PS PF Runs Effs AllE Ent SubO FrIn Pick OneC Ones CellsE PartsE SeqE UZ By Sl Pt Ct
section
variable {C : Ctx} {ops : Array Oper} {o : Oper} {d : Nat} {v : Value} {fr : Fr} {Γ Γs : List OA} {Φ : List SP} {Q : Exit → Act → World → Prop} {ψ : SP}
  {X : Type} {pf : X → Prop} {vx : X → Value} {Γ' : X → List OA} {Φ' : X → List SP} {es us π s : List Nat} {i : Nat} {F : Nat → Value → List SP} {G : Nat → Value → List OA} {K : Fr → List SP → Prop}

theorem ff1 (k : PF C ops Γs es us F G Q π ((d, v) :: fr) Γ Φ) (he : clsOf es us i = 0 := by exact rfl) (ho : lget ops.toList i = some o := by exact rfl) (hg : gv ops fr o.guard = some true := by exact rfl) (hd : o.dst = some d := by exact rfl) (hn : Nat.blt d C.n = true := by exact rfl)
    (h : Runs C fr Γs Φ o v := by (first | (apply Go.Hs.R_move; exact rfl) | (apply Go.Hs.R_assign; exact rfl) | (apply Go.Hs.R_extract; exact rfl; exact rfl) | (apply Go.Hs.R_pick_t; exact rfl; exact rfl) | (apply Go.Hs.R_pick_f; exact rfl; exact rfl) | (apply Go.Hs.G_bin; (first | (apply Go.Hs.R_cmp; exact rfl; exact rfl; exact rfl; (first | exact decide_eq_true (by omega) | exact decide_eq_false (by omega) | exact rfl)) | (apply Go.Hs.R_ari; exact rfl; exact rfl; exact rfl; (first | exact Go.Hs.wx_i64 (by omega) | exact Go.Hs.wx_u8 (by omega) | exact Go.Hs.wx_u64 (by omega) | exact Go.Hs.wx_u32 (by omega) | exact Go.Hs.wx_u16 (by omega) | exact Go.Hs.wx_b8 _ | exact rfl)) | (apply Go.Hs.R_eqB; exact rfl; exact rfl; exact rfl; exact rfl) | (apply Go.Hs.R_neB; exact rfl; exact rfl; exact rfl; exact rfl) | (apply Go.Hs.R_eqS; exact rfl; exact rfl; (first | exact decide_eq_true rfl | exact decide_eq_true (by assumption) | exact decide_eq_false (by assumption) | exact rfl)) | (apply Go.Hs.R_neS; exact rfl; exact rfl; (first | exact Go.Hs.neS_f rfl | exact Go.Hs.neS_f (by assumption) | exact Go.Hs.neS_t (by assumption) | exact rfl)) | (apply Go.Hs.R_addS; exact rfl; exact rfl; (first | omega | (simp only [List.length_take, List.length_drop, List.length_append, List.length_cons, List.length_nil, List.length_map, List.length_replicate]; omega))) | (apply Go.Hs.R_eqA; exact rfl; exact rfl; exact rfl; exact rfl; (first | exact rfl | kernel_rfl); (first | exact rfl | kernel_rfl); (first | exact rfl | kernel_rfl); (first | exact Go.Hs.Bc.self _ | exact Go.Hs.Bc.zero | exact Go.Hs.Bc.lit _ rfl); (first | exact Go.Hs.Bc.self _ | exact Go.Hs.Bc.zero | exact Go.Hs.Bc.lit _ rfl); (first | exact Go.Hs.Bc.self _ | exact Go.Hs.Bc.zero | exact Go.Hs.Bc.lit _ rfl); (first | exact Go.Hs.Bc.self _ | exact Go.Hs.Bc.zero | exact Go.Hs.Bc.lit _ rfl); (first | exact Go.Hs.Bc.self _ | exact Go.Hs.Bc.zero | exact Go.Hs.Bc.lit _ rfl); (first | exact Go.Hs.Bc.self _ | exact Go.Hs.Bc.zero | exact Go.Hs.Bc.lit _ rfl); (first | exact Go.Hs.Bc.self _ | exact Go.Hs.Bc.zero | exact Go.Hs.Bc.lit _ rfl); (first | exact Go.Hs.Bc.self _ | exact Go.Hs.Bc.zero | exact Go.Hs.Bc.lit _ rfl); (first | exact Go.Hs.Bc.self _ | exact Go.Hs.Bc.zero | exact Go.Hs.Bc.lit _ rfl); (first | exact Go.Hs.Bc.self _ | exact Go.Hs.Bc.zero | exact Go.Hs.Bc.lit _ rfl); (first | exact Go.Hs.Bc.self _ | exact Go.Hs.Bc.zero | exact Go.Hs.Bc.lit _ rfl); (first | exact Go.Hs.Bc.self _ | exact Go.Hs.Bc.zero | exact Go.Hs.Bc.lit _ rfl); (first | exact decide_eq_true (by assumption) | exact decide_eq_false (by assumption) | exact decide_eq_true rfl | exact decide_eq_false (by decide) | exact rfl)) | (apply Go.Hs.R_neA; exact rfl; exact rfl; exact rfl; exact rfl; (first | exact rfl | kernel_rfl); (first | exact rfl | kernel_rfl); (first | exact rfl | kernel_rfl); (first | exact Go.Hs.Bc.self _ | exact Go.Hs.Bc.zero | exact Go.Hs.Bc.lit _ rfl); (first | exact Go.Hs.Bc.self _ | exact Go.Hs.Bc.zero | exact Go.Hs.Bc.lit _ rfl); (first | exact Go.Hs.Bc.self _ | exact Go.Hs.Bc.zero | exact Go.Hs.Bc.lit _ rfl); (first | exact Go.Hs.Bc.self _ | exact Go.Hs.Bc.zero | exact Go.Hs.Bc.lit _ rfl); (first | exact Go.Hs.Bc.self _ | exact Go.Hs.Bc.zero | exact Go.Hs.Bc.lit _ rfl); (first | exact Go.Hs.Bc.self _ | exact Go.Hs.Bc.zero | exact Go.Hs.Bc.lit _ rfl); (first | exact Go.Hs.Bc.self _ | exact Go.Hs.Bc.zero | exact Go.Hs.Bc.lit _ rfl); (first | exact Go.Hs.Bc.self _ | exact Go.Hs.Bc.zero | exact Go.Hs.Bc.lit _ rfl); (first | exact Go.Hs.Bc.self _ | exact Go.Hs.Bc.zero | exact Go.Hs.Bc.lit _ rfl); (first | exact Go.Hs.Bc.self _ | exact Go.Hs.Bc.zero | exact Go.Hs.Bc.lit _ rfl); (first | exact Go.Hs.Bc.self _ | exact Go.Hs.Bc.zero | exact Go.Hs.Bc.lit _ rfl); (first | exact Go.Hs.Bc.self _ | exact Go.Hs.Bc.zero | exact Go.Hs.Bc.lit _ rfl); (first | exact Go.Hs.neS_f' (by assumption) | exact Go.Hs.neS_t' (by assumption) | exact Go.Hs.neS_f' rfl | exact Go.Hs.neS_t' (by decide) | exact rfl)))) | (apply Go.Hs.G_load; (first | (apply Go.Hs.R_load1; exact rfl; (repeat' (first | exact Go.Hs.Pick.head _ _ | apply Go.Hs.Pick.tail)); (intro _; exact rfl); exact rfl) | (apply Go.Hs.R_loadN; exact rfl; (repeat' (first | exact Go.Hs.Pick.head _ _ | apply Go.Hs.Pick.tail)); (intro _; exact rfl); (intro _; exact rfl); exact rfl) | (apply Go.Hs.R_loadP; exact rfl; (repeat' (first | exact Go.Hs.mcs | apply Go.Hs.mct)); (intro _; exact rfl); exact rfl) | (apply Go.Hs.R_loadPN; exact rfl; (repeat' (first | exact Go.Hs.mcs | apply Go.Hs.mct)); (intro _; exact rfl); (intro _; exact rfl)) | (apply Go.Hs.R_loadPT; exact rfl; (repeat' (first | exact Go.Hs.mcs | apply Go.Hs.mct)); (intro _; exact rfl); (intro _; exact rfl); exact rfl) | (apply Go.Hs.R_loadPO; exact rfl; (repeat' (first | exact Go.Hs.mcs | apply Go.Hs.mct)); (intro _; exact rfl); exact rfl) | (apply Go.Hs.R_loadPON; exact rfl; (repeat' (first | exact Go.Hs.mcs | apply Go.Hs.mct)); (intro _; exact rfl); (intro _; exact rfl); exact rfl) | (apply Go.Hs.R_loadRow; exact rfl; (repeat' (first | exact Go.Hs.Pick.head _ _ | apply Go.Hs.Pick.tail)); (intro _; exact rfl); (first | omega | (simp only [List.length_take, List.length_drop, List.length_append, List.length_cons, List.length_nil, List.length_map, List.length_replicate]; omega)); (assumption)) | (apply Go.Hs.R_loadRowF; exact rfl; (repeat' (first | exact Go.Hs.Pick.head _ _ | apply Go.Hs.Pick.tail)); (intro _; exact rfl); (assumption)))) | (apply Go.Hs.R_fieldO0; exact rfl; exact rfl; exact rfl; (intro _; exact rfl); exact rfl) | (apply Go.Hs.R_fieldO; exact rfl; exact rfl; exact rfl; (intro _; exact rfl); exact rfl) | (apply Go.Hs.R_not; exact rfl; exact rfl) | (apply Go.Hs.G_call; (first | (apply Go.Hs.R_lenBy; exact rfl; (repeat' (first | exact Go.Hs.mcs | apply Go.Hs.mct)); exact rfl) | (apply Go.Hs.R_lenRow; exact rfl; (repeat' (first | exact Go.Hs.Pick.head _ _ | apply Go.Hs.Pick.tail)); exact rfl) | (apply Go.Hs.R_lenSl; exact rfl; (repeat' (first | exact Go.Hs.mcs | apply Go.Hs.mct)); exact rfl) | (apply Go.Hs.R_lenRw; exact rfl; (repeat' (first | exact Go.Hs.mcs | apply Go.Hs.mct)); exact rfl) | (apply Go.Hs.R_lenNil; exact rfl; exact rfl) | (apply Go.Hs.R_max2; exact rfl; exact rfl; (first | exact if_pos (by omega) | exact if_neg (by omega))) | (apply Go.Hs.R_min2; exact rfl; exact rfl; (first | exact if_pos (by omega) | exact if_neg (by omega))))) | (apply Go.Hs.R_convi; exact rfl; exact rfl; exact rfl; (first | exact Go.Hs.wx_i64 (by omega) | exact Go.Hs.wx_u8 (by omega) | exact Go.Hs.wx_u64 (by omega) | exact Go.Hs.wx_u32 (by omega) | exact Go.Hs.wx_u16 (by omega) | exact Go.Hs.wx_b8 _ | exact rfl)) | (apply Go.Hs.R_toStr; exact rfl; (repeat' (first | exact Go.Hs.mcs | apply Go.Hs.mct)); exact rfl; exact rfl; exact rfl) | (apply Go.Hs.R_toStrRow; exact rfl; (repeat' (first | exact Go.Hs.Pick.head _ _ | apply Go.Hs.Pick.tail)); (first | exact Go.Hs.nil_map | exact Go.Hs.one_map _ | exact Go.Hs.two_map _ _ | exact rfl); exact rfl; exact rfl; exact rfl) | (apply Go.Hs.R_build; exact rfl; (focus (repeat (first | apply Go.Hs.PartsE.nil | (apply Go.Hs.PartsE.cons; (focus (first | (apply Go.Hs.CellsE.lit; exact rfl) | (apply Go.Hs.CellsE.one; (first | (apply Go.Hs.OneC.lit; exact rfl) | (apply Go.Hs.OneC.by_; (repeat' (first | exact Go.Hs.mcs | apply Go.Hs.mct)); done) | (apply Go.Hs.OneC.sl; (repeat' (first | exact Go.Hs.mcs | apply Go.Hs.mct)); done) | (apply Go.Hs.OneC.rw; (repeat' (first | exact Go.Hs.mcs | apply Go.Hs.mct)); done) | (apply Go.Hs.OneC.row; (repeat' (first | exact Go.Hs.Pick.head _ _ | apply Go.Hs.Pick.tail))))))))))); (intro _; exact rfl); exact rfl; exact rfl; (intro _; go_simp; exact rfl); exact rfl) | (apply Go.Hs.R_buildArr; exact rfl; (focus (repeat (first | apply Go.Hs.SeqE.nil | (apply Go.Hs.SeqE.cons; exact rfl; (focus (first | (apply Go.Hs.CellsE.lit; exact rfl) | (apply Go.Hs.CellsE.one; (first | (apply Go.Hs.OneC.lit; exact rfl) | (apply Go.Hs.OneC.by_; (repeat' (first | exact Go.Hs.mcs | apply Go.Hs.mct)); done) | (apply Go.Hs.OneC.sl; (repeat' (first | exact Go.Hs.mcs | apply Go.Hs.mct)); done) | (apply Go.Hs.OneC.rw; (repeat' (first | exact Go.Hs.mcs | apply Go.Hs.mct)); done) | (apply Go.Hs.OneC.row; (repeat' (first | exact Go.Hs.Pick.head _ _ | apply Go.Hs.Pick.tail))))))); exact rfl) | exact rfl))); (intro _; exact rfl); exact rfl; exact rfl; (intro _; exact rfl); exact rfl; exact rfl) | (apply Go.Hs.R_field1; exact rfl; exact rfl; exact rfl; (intro _; exact rfl); exact rfl) | (apply Go.Hs.R_fieldN; exact rfl; exact rfl; exact rfl; (intro _; exact rfl); (intro _; exact rfl); exact rfl) | (apply Go.Hs.R_nilCheck; exact rfl) | (apply Go.Hs.R_makeFunc; exact rfl) | (apply Go.Hs.R_makeFunc1; exact rfl) | (apply Go.Hs.R_idxRow; exact rfl; exact rfl; (repeat' (first | exact Go.Hs.Pick.head _ _ | apply Go.Hs.Pick.tail)); exact rfl; (intro _; exact rfl); (focus (first | exact Go.Hs.lit0 | exact Go.Hs.lit1 | exact Go.Hs.lit2 | exact Go.Hs.lit3 | exact Go.Hs.lit4 | exact Go.Hs.lit5 | exact Go.Hs.lit6 | exact Go.Hs.lit7 | exact Go.Hs.lit8 | exact rfl | (simp; done) | omega)); (first | omega | (simp only [List.length_take, List.length_drop, List.length_append, List.length_cons, List.length_nil, List.length_map, List.length_replicate]; omega))) | (apply Go.Hs.R_fieldRow; exact rfl; (repeat' (first | exact Go.Hs.Pick.head _ _ | apply Go.Hs.Pick.tail)); (first | omega | (simp only [List.length_take, List.length_drop, List.length_append, List.length_cons, List.length_nil, List.length_map, List.length_replicate]; omega)); exact rfl; exact rfl; (intro _; exact rfl); exact rfl) | (apply Go.Hs.R_idxArr; exact rfl; exact rfl; exact rfl; (intro _; exact rfl); (focus (first | exact Go.Hs.lit0 | exact Go.Hs.lit1 | exact Go.Hs.lit2 | exact Go.Hs.lit3 | exact Go.Hs.lit4 | exact Go.Hs.lit5 | exact Go.Hs.lit6 | exact Go.Hs.lit7 | exact Go.Hs.lit8 | exact rfl | (simp; done) | omega)); (first | omega | (simp only [List.length_take, List.length_drop, List.length_append, List.length_cons, List.length_nil, List.length_map, List.length_replicate]; omega))) | (apply Go.Hs.R_sliceArr; exact rfl; exact rfl; (intro _; exact rfl); exact rfl))) : PF C ops Γs es us F G Q (i :: π) fr Γ Φ := PF_runs he ho hg hd hn h k
theorem ff2 (k : ∀ x, pf x → PF C ops Γs es us F G Q π ((d, vx x) :: fr) (Γ' x) (Φ' x)) (he : clsOf es us i = 1 := by exact rfl) (ho : lget ops.toList i = some o := by exact rfl) (hg : gv ops fr o.guard = some true := by exact rfl) (hd : o.dst = some d := by exact rfl) (hn : Nat.blt d C.n = true := by exact rfl)
    (h : Effs C fr Γ Φ o pf vx Γ' Φ' := by (first | (apply Go.Hs.E_alloc; (intro _; exact rfl); exact rfl) | (apply Go.Hs.E_box; exact rfl; (focus (first | (apply Go.Hs.CellsE.lit; exact rfl) | (apply Go.Hs.CellsE.one; (first | (apply Go.Hs.OneC.lit; exact rfl) | (apply Go.Hs.OneC.by_; (repeat' (first | exact Go.Hs.mcs | apply Go.Hs.mct)); done) | (apply Go.Hs.OneC.sl; (repeat' (first | exact Go.Hs.mcs | apply Go.Hs.mct)); done) | (apply Go.Hs.OneC.rw; (repeat' (first | exact Go.Hs.mcs | apply Go.Hs.mct)); done) | (apply Go.Hs.OneC.row; (repeat' (first | exact Go.Hs.Pick.head _ _ | apply Go.Hs.Pick.tail)))))))))) (hs : ∀ x, SubO (Γ' x) Γs := by (intro _; (first | ((repeat (first | exact Go.Hs.SubO.nil _ | (apply Go.Hs.SubO.cons; (focus (repeat' (first | exact Go.Hs.Pick.head _ _ | apply Go.Hs.Pick.tail)))))); done) | fail))) : PF C ops Γs es us F G Q (i :: π) fr Γ Φ := PF_effs he ho hg hd hn h hs k
theorem ff3 (k : ∀ x, pf x → PF C ops Γs es us F G Q π fr (Γ' x) (Φ' x)) (he : clsOf es us i = 1 := by exact rfl) (ho : lget ops.toList i = some o := by exact rfl) (hg : gv ops fr o.guard = some true := by exact rfl) (hd : o.dst = none := by exact rfl)
    (h : Effs C fr Γ Φ o pf vx Γ' Φ' := by (first | (apply Go.Hs.E_store; exact rfl; exact rfl; (repeat' (first | exact Go.Hs.Pick.head _ _ | apply Go.Hs.Pick.tail)); (focus (first | (apply Go.Hs.CellsE.lit; exact rfl) | (apply Go.Hs.CellsE.one; (first | (apply Go.Hs.OneC.lit; exact rfl) | (apply Go.Hs.OneC.by_; (repeat' (first | exact Go.Hs.mcs | apply Go.Hs.mct)); done) | (apply Go.Hs.OneC.sl; (repeat' (first | exact Go.Hs.mcs | apply Go.Hs.mct)); done) | (apply Go.Hs.OneC.rw; (repeat' (first | exact Go.Hs.mcs | apply Go.Hs.mct)); done) | (apply Go.Hs.OneC.row; (repeat' (first | exact Go.Hs.Pick.head _ _ | apply Go.Hs.Pick.tail))))))); (intro _; exact rfl); (focus (repeat (first | apply Go.Hs.Ones.nil | exact Go.Hs.Ones.bytes | (apply Go.Hs.Ones.cons; (focus (first | (apply Go.Hs.OneC.lit; exact rfl) | (apply Go.Hs.OneC.by_; (repeat' (first | exact Go.Hs.mcs | apply Go.Hs.mct)); done) | (apply Go.Hs.OneC.sl; (repeat' (first | exact Go.Hs.mcs | apply Go.Hs.mct)); done) | (apply Go.Hs.OneC.rw; (repeat' (first | exact Go.Hs.mcs | apply Go.Hs.mct)); done) | (apply Go.Hs.OneC.row; (repeat' (first | exact Go.Hs.Pick.head _ _ | apply Go.Hs.Pick.tail))))))))); exact rfl))) (hs : ∀ x, SubO (Γ' x) Γs := by (intro _; (first | ((repeat (first | exact Go.Hs.SubO.nil _ | (apply Go.Hs.SubO.cons; (focus (repeat' (first | exact Go.Hs.Pick.head _ _ | apply Go.Hs.Pick.tail)))))); done) | fail))) : PF C ops Γs es us F G Q (i :: π) fr Γ Φ := PF_do he ho hg hd h hs k
theorem ff4 (k : PF C ops Γs es us F G Q π ((d, v) :: fr) Γ (ψ :: Φ)) (he : clsOf es us i = 0 := by exact rfl) (ho : lget ops.toList i = some o := by exact rfl) (hg : gv ops fr o.guard = some true := by exact rfl) (hd : o.dst = some d := by exact rfl) (hn : Nat.blt d C.n = true := by exact rfl)
    (h : Runs C fr Γs Φ o v ∧ Ent Φ ψ := by (first | (apply Go.Hs.R_idxBy; exact rfl; exact rfl; (repeat' (first | exact Go.Hs.mcs | apply Go.Hs.mct)); exact rfl; (intro _; exact rfl); (focus (first | exact Go.Hs.lit0 | exact Go.Hs.lit1 | exact Go.Hs.lit2 | exact Go.Hs.lit3 | exact Go.Hs.lit4 | exact Go.Hs.lit5 | exact Go.Hs.lit6 | exact Go.Hs.lit7 | exact Go.Hs.lit8 | exact rfl | (simp; done) | omega)); (first | omega | (simp only [List.length_take, List.length_drop, List.length_append, List.length_cons, List.length_nil, List.length_map, List.length_replicate]; omega))) | (apply Go.Hs.R_idxRw; exact rfl; exact rfl; (repeat' (first | exact Go.Hs.mcs | apply Go.Hs.mct)); exact rfl; (intro _; exact rfl); (focus (first | exact Go.Hs.lit0 | exact Go.Hs.lit1 | exact Go.Hs.lit2 | exact Go.Hs.lit3 | exact Go.Hs.lit4 | exact Go.Hs.lit5 | exact Go.Hs.lit6 | exact Go.Hs.lit7 | exact Go.Hs.lit8 | exact rfl | (simp; done) | omega)); (first | omega | (simp only [List.length_take, List.length_drop, List.length_append, List.length_cons, List.length_nil, List.length_map, List.length_replicate]; omega)); (first | assumption | exact rfl)) | (apply Go.Hs.R_cutBy; exact rfl; (repeat' (first | exact Go.Hs.mcs | apply Go.Hs.mct)); exact rfl; (intro _; exact rfl); exact rfl; exact rfl; (focus (first | exact Go.Hs.lit0 | exact Go.Hs.lit1 | exact Go.Hs.lit2 | exact Go.Hs.lit3 | exact Go.Hs.lit4 | exact Go.Hs.lit5 | exact Go.Hs.lit6 | exact Go.Hs.lit7 | exact Go.Hs.lit8 | exact rfl | (simp; done) | omega)); (focus (first | exact Go.Hs.lit0 | exact Go.Hs.lit1 | exact Go.Hs.lit2 | exact Go.Hs.lit3 | exact Go.Hs.lit4 | exact Go.Hs.lit5 | exact Go.Hs.lit6 | exact Go.Hs.lit7 | exact Go.Hs.lit8 | exact rfl | (simp; done) | omega)); (first | omega | (simp only [List.length_take, List.length_drop, List.length_append, List.length_cons, List.length_nil, List.length_map, List.length_replicate]; omega)); (first | omega | (simp only [List.length_take, List.length_drop, List.length_append, List.length_cons, List.length_nil, List.length_map, List.length_replicate]; omega)); (focus ((try (conv => lhs; simp only [Nat.add_sub_cancel_left, Nat.sub_zero, List.drop_zero, List.nil_append])); (first | done | exact rfl)))) | (apply Go.Hs.R_fieldP; exact rfl; (repeat' (first | exact Go.Hs.mcs | apply Go.Hs.mct)); exact rfl; exact rfl; (intro _; exact rfl); exact rfl; exact rfl))) : PF C ops Γs es us F G Q (i :: π) fr Γ Φ := PF_runsF he ho hg hd hn h k
theorem ff5 (k : PF C ops Γs es us F G Q π ((d, undef) :: fr) Γ Φ) (he : clsOf es us i = 0 := by exact rfl) (ho : lget ops.toList i = some o := by exact rfl) (hg : gv ops fr o.guard = some false := by exact rfl) (hd : o.dst = some d := by exact rfl) (hn : Nat.blt d C.n = true := by exact rfl) :
    PF C ops Γs es us F G Q (i :: π) fr Γ Φ := PF_pass he ho hg hd hn k
theorem ff7 {Γ1 : Value → List OA} {Φ1 : Value → List SP} (k : ∀ v, PF C ops Γs es us F G Q π ((d, v) :: fr) (Γ1 v) (Φ1 v)) (he : clsOf es us i = 2 := by exact rfl) (ho : lget ops.toList i = some o := by exact rfl) (hd : o.dst = some d := by exact rfl) (hn : Nat.blt d C.n = true := by exact rfl)
    (hG : ∀ v, appO (G i v) Γ = some (Γ1 v) := by (intro _; exact rfl)) (hF : ∀ v, appO (F i v) Φ = some (Φ1 v) := by (intro _; exact rfl)) : PF C ops Γs es us F G Q (i :: π) fr Γ Φ := PF_free he ho hd hn hG hF k
end
end Go.Hs

/-
  Rules for walks: an operation with a settled value, taken as an effect.
-/
namespace Go.Hs
open Go Go.RowKit
theorem SubO.self : ∀ Γ : List OA, SubO Γ Γ
  | [] => SubO.nil _
  | _ :: Γ => SubO.cons (Pick.head _ _) (SubO.self Γ)
end Go.Hs
