/-
  Rules for walks, merged.
-/
import Derived.Test.YtoohgnegoaoleaaXc
import Derived.DeepKeys
import Derived.Lib.AppendZerosOnto
import Derived.Test.YtoohgnegoaoleaaRows
import Derived.Test.YtoohgnegoaoleaaXb
import Derived.Test.YtoohgnegoaoleaaXa
import Derived.WalkKit
import Derived.ProofKit
import Derived.OpenShut
import Derived.ShutString
import Derived.ChangeOld
import Derived.SizedLaws
import Derived.Below
import Derived.Carry
import Derived.ChangeSlices
import Derived.Deep.Slices
/-
  The program's write: the iterator over the parts of a content.
-/
namespace Go.Proofs.Ytoohgnegoaoleaa.C04
open Go Go.RowKit Go.Hs
attribute [local irreducible] WL W WQ PL Runs Effs AllE Ent SubO FrIn Pick OneC Ones CellsE PartsE SeqE UZ By Sl Pt Ct

set_option maxRecDepth 100000 in
theorem parts_fn (dv : Value) (xs : List UInt8) : Ct Try.prog 106 [dv] [] [By dv xs]
    (X := Nat) (fun _ => True) (fun x => .func (.func 112) #[] #[.pointer (some ⟨x, 0, none⟩)]) (fun x => [.blk x 37 [dv]]) (fun _ => []) := by
  refine Ct_intro Try.func106 rfl Try.ntmps106 (by simp) _ rfl (fun w0 O0 => ?_)
  repeat (first | refine n1 ?_ | refine n2 (fun b _ => ?_) | refine n3 (fun _ _ => ?_) | refine n4 ?_ | refine n5 ?_ | refine WL_nil ?_ | refine W_seq ?_ | refine W_region ?_ | refine n7 ?_ | refine n8 ?_ | refine W_block ?_ | refine W_skip ?_ | refine W_ret ?_ | refine W_exit ?_ | refine WQ_then ?_ | refine WQ_then_ret ?_ | refine WQ_then_exit ?_ | refine WQ_block_normal ?_ | refine WQ_block_ret ?_ | refine WQ_block_exit ?_ | refine n9 ?_)
  ((apply ret1 Try.results106 ( b)); (focus (first | trivial | assumption | omega)); (focus (first | exact RV_tmp rfl | (apply RV_cellN; exact rfl; (repeat' (first | exact Pick.head _ _ | apply Pick.tail)); (intro _; exact rfl); (intro _; exact rfl); exact rfl) | (apply RV_cell1; exact rfl; (repeat' (first | exact Pick.head _ _ | apply Pick.tail)); (intro _; exact rfl); exact rfl)));  (focus (first | exact rfl | (simp; done))); (focus (repeat (first | exact SubO.nil _ | (apply SubO.cons; (focus (repeat' (first | exact Pick.head _ _ | apply Pick.tail))))))); (focus (repeat (first | exact AllE.nil _ | (apply AllE.cons; (focus (first | exact ent_nilBy | exact ent_nilSl | (apply Ent.mem; repeat' (first | exact mcs | apply mct)))))))))

set_option maxRecDepth 100000 in
set_option maxHeartbeats 4000000 in
theorem piter_fn {α : Type} (l b1 : Nat) (dv : Value) (xs : List UInt8) (hx : xs.length ≤ 1000000000) (YO : α → OA) (YS : α → SP) (inv : List UInt8 → α → Prop) (y0 : α) (h0 : inv xs y0)
    (step : α → Value × List UInt8 → α → Prop) (pre : α → Value × List UInt8 → Prop) (hpre1 : ∀ c y v, inv c y → 255 ≤ c.length → pre y (v, c.take 255)) (hpre2 : ∀ c y v, inv c y → c.length < 255 → pre y (v, c))
    (hstep : ∀ c y v y', inv c y → 255 ≤ c.length → step y (v, c.take 255) y' → inv (c.drop 255) y')
    (hY : ∀ y b, pre y b → Yc Try.prog l [b.1] [YO y] ([By b.1 b.2] ++ [YS y]) (X := α) (step y b) (fun _ => .bool true) (fun y' => [YO y']) (fun y' => [YS y'])) :
    Ct Try.prog 112 [.func (.yield l) #[] #[], .pointer (some ⟨b1, 0, none⟩)] [.blk b1 37 [dv], YO y0] [By dv xs, YS y0]
      (X := α) (fun x => ∃ c y v, inv c y ∧ c.length < 255 ∧ step y (v, c) x) (fun _ => .tuple #[]) (fun x => [YO x]) (fun x => [YS x]) := by
  refine Ct_intro Try.func112 rfl Try.ntmps112 (by simp) _ rfl (fun w0 O0 => ?_)
  refine W_seq (W_block ?_)
  ((apply W_loopK (X := List UInt8 × Value × α) [] [0, 1] (fun x => inv x.1 x.2.2 ∧ x.1.length ≤ 1000000000) (fun _ => []) (fun x => [.blk b1 37 [x.2.1], YO x.2.2]) (fun x => [By x.2.1 x.1, YS x.2.2]) (fun x => x.1.length) ((xs, dv, y0))); (focus exact ⟨h0, hx⟩); exact rfl; exact rfl; (intro _; exact rfl); (intro _; exact rfl); (intro _; exact rfl); (focus (repeat (first | exact FrIn.nil _ | (apply FrIn.cons; exact rfl; (first | exact rfl | (congr 1; first | omega | (dsimp only; omega)) | (simp; done)))))); (focus (repeat (first | exact SubO.nil _ | (apply SubO.cons; (focus (repeat' (first | exact Pick.head _ _ | apply Pick.tail))))))); (focus (repeat (first | exact AllE.nil _ | (apply AllE.cons; (focus (first | exact ent_nilBy | exact ent_nilSl | (apply Ent.mem; repeat' (first | exact mcs | apply mct)))))))); intro x hx)
  obtain ⟨c, v, y⟩ := x
  obtain ⟨hi, hl⟩ := hx
  replace hi : inv c y := hi
  replace hl : c.length ≤ 1000000000 := hl
  dsimp only
  by_cases h1 : 255 ≤ c.length
  · repeat (first | refine n1 ?_ | refine n2 (fun b _ => ?_) | refine n3 (fun _ _ => ?_) | refine n4 ?_ | refine n5 ?_ | refine WL_nil ?_ | refine W_seq ?_ | refine W_region ?_ | refine n7 ?_ | refine n8 ?_ | refine W_block ?_ | refine W_skip ?_ | refine W_ret ?_ | refine W_exit ?_ | refine WQ_then ?_ | refine WQ_then_ret ?_ | refine WQ_then_exit ?_ | refine WQ_block_normal ?_ | refine WQ_block_ret ?_ | refine WQ_block_exit ?_ | refine n9 ?_)
    apply WL_effs
    · exact rfl
    · exact rfl
    · exact rfl
    · apply E_yield (Γp := [YO y]) (Γr := [.blk b1 37 [v]])
      · exact rfl
      · exact rfl
      · exact hY y (_, c.take 255) (hpre1 c y _ hi h1)
      · exact List.Perm.swap _ _ _
      · exact (by (repeat (first | exact AllE.nil _ | (apply AllE.cons; (focus (first | exact ent_nilBy | exact ent_nilSl | (apply Ent.mem; repeat' (first | exact mcs | apply mct))))))))
      · intro _
        exact rfl
      · intro _
        exact rfl
    intro y' hst
    have hd := hstep c y _ y' hi h1 hst
    have hdl : (c.drop 255).length ≤ 1000000000 := by rw [List.length_drop]; omega
    have hlt : (c.drop 255).length < c.length := by rw [List.length_drop]; omega
    repeat (first | refine n1 ?_ | refine n2 (fun b _ => ?_) | refine n3 (fun _ _ => ?_) | refine n4 ?_ | refine n5 ?_ | refine WL_nil ?_ | refine W_seq ?_ | refine W_region ?_ | refine n7 ?_ | refine n8 ?_ | refine W_block ?_ | refine W_skip ?_ | refine W_ret ?_ | refine W_exit ?_ | refine WQ_then ?_ | refine WQ_then_ret ?_ | refine WQ_then_exit ?_ | refine WQ_block_normal ?_ | refine WQ_block_ret ?_ | refine WQ_block_exit ?_ | refine n9 ?_)
    rw [take_end]
    repeat (first | refine n1 ?_ | refine n2 (fun b _ => ?_) | refine n3 (fun _ _ => ?_) | refine n4 ?_ | refine n5 ?_ | refine WL_nil ?_ | refine W_seq ?_ | refine W_region ?_ | refine n7 ?_ | refine n8 ?_ | refine W_block ?_ | refine W_skip ?_ | refine W_ret ?_ | refine W_exit ?_ | refine WQ_then ?_ | refine WQ_then_ret ?_ | refine WQ_then_exit ?_ | refine WQ_block_normal ?_ | refine WQ_block_ret ?_ | refine WQ_block_exit ?_ | refine n9 ?_)
    ((apply WQ_again ((c.drop 255, cutV 1 255 c.length v, y'))); (focus exact ⟨hd, hdl⟩); (focus exact hlt); (focus (repeat (first | exact FrIn.nil _ | (apply FrIn.cons; exact rfl; (first | exact rfl | (congr 1; first | omega | (dsimp only; omega)) | (simp; done)))))); (focus (repeat (first | exact SubO.nil _ | (apply SubO.cons; (focus (repeat' (first | exact Pick.head _ _ | apply Pick.tail))))))); (focus (repeat (first | exact AllE.nil _ | (apply AllE.cons; (focus (first | exact ent_nilBy | exact ent_nilSl | (apply Ent.mem; repeat' (first | exact mcs | apply mct)))))))))
  · repeat (first | refine n1 ?_ | refine n2 (fun b _ => ?_) | refine n3 (fun _ _ => ?_) | refine n4 ?_ | refine n5 ?_ | refine WL_nil ?_ | refine W_seq ?_ | refine W_region ?_ | refine n7 ?_ | refine n8 ?_ | refine W_block ?_ | refine W_skip ?_ | refine W_ret ?_ | refine W_exit ?_ | refine WQ_then ?_ | refine WQ_then_ret ?_ | refine WQ_then_exit ?_ | refine WQ_block_normal ?_ | refine WQ_block_ret ?_ | refine WQ_block_exit ?_ | refine n9 ?_)
    apply WL_effs
    · exact rfl
    · exact rfl
    · exact rfl
    · apply E_yield (Γp := [YO y]) (Γr := [.blk b1 37 [v]])
      · exact rfl
      · exact rfl
      · exact hY y (v, c) (hpre2 c y _ hi (by omega))
      · exact List.Perm.swap _ _ _
      · exact (by (repeat (first | exact AllE.nil _ | (apply AllE.cons; (focus (first | exact ent_nilBy | exact ent_nilSl | (apply Ent.mem; repeat' (first | exact mcs | apply mct))))))))
      · intro _
        exact rfl
      · intro _
        exact rfl
    intro y' hst
    repeat (first | refine n1 ?_ | refine n2 (fun b _ => ?_) | refine n3 (fun _ _ => ?_) | refine n4 ?_ | refine n5 ?_ | refine WL_nil ?_ | refine W_seq ?_ | refine W_region ?_ | refine n7 ?_ | refine n8 ?_ | refine W_block ?_ | refine W_skip ?_ | refine W_ret ?_ | refine W_exit ?_ | refine WQ_then ?_ | refine WQ_then_ret ?_ | refine WQ_then_exit ?_ | refine WQ_block_normal ?_ | refine WQ_block_ret ?_ | refine WQ_block_exit ?_ | refine n9 ?_)
    have hfin : ∃ c y v, inv c y ∧ c.length < 255 ∧ step y (v, c) y' := ⟨c, y, v, hi, by omega, hst⟩
    ((apply ret0 (by first | exact .inl rfl | exact .inr rfl) Try.results112 ( y')); (focus (first | trivial | assumption | omega)); (focus (first | exact rfl | (simp; done))); (focus (repeat (first | exact SubO.nil _ | (apply SubO.cons; (focus (repeat' (first | exact Pick.head _ _ | apply Pick.tail))))))); (focus (repeat (first | exact AllE.nil _ | (apply AllE.cons; (focus (first | exact ent_nilBy | exact ent_nilSl | (apply Ent.mem; repeat' (first | exact mcs | apply mct)))))))))
end Go.Proofs.Ytoohgnegoaoleaa.C04

/-
  The program's write.
-/
namespace Go.Proofs.Ytoohgnegoaoleaa.C04
open Go Go.RowKit Go.Hs
attribute [local irreducible] WL W WQ PL Runs Effs AllE Ent SubO FrIn Pick OneC Ones CellsE PartsE SeqE UZ By Sl Pt Ct

structure WS where
  out : List UInt8
  ov : Value
  id : UInt8
def wY (b4 b11 : Nat) (y : WS) : List OA := [.blk b4 37 [y.ov], .row y.ov 5 1 y.out.length (y.out.map bcell), .blk b11 5 [bcell y.id]]
def wPre (y : WS) (b : Value × List UInt8) : Prop := b.2.length ≤ 255 ∧ y.out.length ≤ 130000000
def wStep (y : WS) (b : Value × List UInt8) (y' : WS) : Prop := y'.out = y.out ++ [y.id, UInt8.ofNat b.2.length] ++ b.2 ∧ y'.id = 254
def wInv (full : List UInt8) (c : List UInt8) (y : WS) : Prop := y.out ++ (y.id :: bod c.length c) = full ∧ full.length ≤ 130000000

def WriteCt (N : Nat) : Prop := ∀ (t : T) (v : Value), t.size < N → Sm t.er → Ct Try.prog 94 [v] [] [Rw 4 v t.len t.at_, t.tf]
    (X := Value) (fun _ => True) (fun x => .tuple #[x, .bool (fit t.er)]) (fun x => [.row x 5 1 (enc t.er).length ((enc t.er).map bcell)]) (fun _ => [])

set_option maxRecDepth 100000 in
set_option maxHeartbeats 8000000 in
theorem write_fn (N : Nat) : WriteCt N := by
  induction N with
  | zero => intro t v h; omega
  | succ N IH =>
    intro t v hN hsm
    have hE := hsm.enc_le
    have hlc := len_cnt t
    have hcn := hsm.1
    refine Ct_introM Try.func94 rfl Try.ntmps94 (by simp) _ rfl (fun w0 O0 => ?_)
    repeat (first | refine n1 ?_ | refine n2 (fun b _ => ?_) | refine n3 (fun _ _ => ?_) | refine n4 ?_ | refine n5 ?_ | refine WL_nil ?_ | refine W_seq ?_ | refine W_region ?_ | refine n7 ?_ | refine n8 ?_ | refine W_block ?_ | refine W_skip ?_ | refine W_ret ?_ | refine W_exit ?_ | refine WQ_then ?_ | refine WQ_then_ret ?_ | refine WQ_then_exit ?_ | refine WQ_block_normal ?_ | refine WQ_block_ret ?_ | refine WQ_block_exit ?_ | refine n9 ?_)
    obtain ⟨b4, rfl⟩ : ∃ b4, b4 = b := ⟨b, rfl⟩
    apply W_nilRow 5 1
    apply W_mark0
    ((apply W_loopKM (X := Nat × List UInt8 × Value × Bool × List Nat) (fun x => x.2.2.2.2) [15, 5] [0, 1, 2] (fun x => x.1 ≤ t.len ∧ x.2.1 ++ enc (t.drop x.1).er = enc t.er ∧ (x.2.2.2.1 && fit (t.drop x.1).er) = fit t.er) (fun x => [(15, .int .i64 (x.1 : Int)), (5, .bool x.2.2.2.1)]) (fun x => [pk (mkO x.2.2.2.2), .row x.2.2.1 5 1 x.2.1.length (x.2.1.map bcell), .blk b4 37 [x.2.2.1]]) (fun _ => []) (fun x => t.len - x.1) ((0, [], .slice none 0 0, true, []))); exact rfl; (focus exact ⟨Nat.zero_le _, rfl, rfl⟩); exact rfl; exact rfl; (intro _; exact rfl); (intro _; exact rfl); (intro _; exact rfl); (focus (repeat (first | exact FrIn.nil _ | (apply FrIn.cons; exact rfl; (first | exact rfl | (congr 1; first | omega | (dsimp only; omega)) | (simp; done)))))); (focus (repeat (first | exact SubO.nil _ | (apply SubO.cons; (focus (repeat' (first | exact Pick.head _ _ | apply Pick.tail))))))); (focus (repeat (first | exact AllE.nil _ | (apply AllE.cons; (focus (first | exact ent_nilBy | exact ent_nilSl | (apply Ent.mem; repeat' (first | exact mcs | apply mct)))))))); intro x hx)
    obtain ⟨k, out, ov, fb, Ds⟩ := x
    obtain ⟨hk, hi, hf⟩ := hx
    replace hk : k ≤ t.len := hk
    replace hi : out ++ enc (t.drop k).er = enc t.er := hi
    replace hf : (fb && fit (t.drop k).er) = fit t.er := hf
    dsimp only
    by_cases c0 : k < t.len
    · obtain ⟨id, ext, dv, data, sv, subs, next, e1⟩ := T.get c0
      have e2 : (t.drop k).er = .cons id ext data subs.er next.er := by rw [e1]; rfl
      rw [enc_drop e1, ← List.append_assoc] at hi
      rw [e2] at hf
      simp only [fit] at hf
      have a1 := T.at_cons e1
      have hin := inn_le hsm e1
      have hlt := T.drop_size e1
      have hcf := cont_fn id
      have hout : out.length ≤ 60000000 := by
        have := congrArg List.length hi
        simp only [List.length_append] at this
        omega
      refine W_ent (ent_tree (t := t) (by repeat' (first | exact mcs | apply mct)) e1).1 (W_ent (ent_tree (t := t) (by repeat' (first | exact mcs | apply mct)) e1).2.1 (W_ent (ent_tree (t := t) (by repeat' (first | exact mcs | apply mct)) e1).2.2 ?_))
      repeat (first | refine n1 ?_ | refine n2 (fun b _ => ?_) | refine n3 (fun _ _ => ?_) | refine n4 ?_ | refine n5 ?_ | refine n6 (hcf) ?_ | refine n6v (hcf) ?_ | refine WL_nil ?_ | refine W_seq ?_ | refine W_region ?_ | refine n7 ?_ | refine n8 ?_ | refine W_block ?_ | refine W_skip ?_ | refine W_ret ?_ | refine W_exit ?_ | refine WQ_then ?_ | refine WQ_then_ret ?_ | refine WQ_then_exit ?_ | refine WQ_block_normal ?_ | refine WQ_block_ret ?_ | refine WQ_block_exit ?_ | refine n9 ?_)
      ((apply W_cutKT (X := Value) [8, 5] [] (fun _ => True) (fun z => [(8, z), (5, .bool (fb && (! contB id || fit subs.er)))]) (fun _ => []) (fun z => [By z (inn id data (enc subs.er))])); exact rfl; exact rfl; (intro _; exact rfl); (intro _; exact rfl); (intro _; exact rfl))
      · cases c1 : contB id with
        | true =>
          rw [show inn id data (enc subs.er) = enc subs.er by rw [inn, c1]; rfl]
          repeat (first | refine n1 ?_ | refine n2 (fun b _ => ?_) | refine n3 (fun _ _ => ?_) | refine n4 ?_ | refine n5 ?_ | refine WL_nil ?_ | refine W_seq ?_ | refine W_region ?_ | refine n7 ?_ | refine n8 ?_ | refine W_block ?_ | refine W_skip ?_ | refine W_ret ?_ | refine W_exit ?_ | refine WQ_then ?_ | refine WQ_then_ret ?_ | refine WQ_then_exit ?_ | refine WQ_block_normal ?_ | refine WQ_block_ret ?_ | refine WQ_block_exit ?_ | refine n9 ?_)
          (apply WL_effs; exact rfl; exact rfl; exact rfl; apply E_call; exact rfl; (intro _ _; simp); (exact IH subs sv (by omega) (hsm.sub e1)); (repeat (first | exact AllE.nil _ | (apply AllE.cons; (focus (first | exact ent_nilBy | exact ent_nilSl | (apply Ent.mem; repeat' (first | exact mcs | apply mct))))))); (intro _; exact rfl); (intro _; exact rfl))
          intro z _
          refine WL_letgoB (v := z) (by repeat' (first | exact Pick.head _ _ | apply Pick.tail)) rfl ?_
          cases fb with
          | true =>
            repeat (first | refine n1 ?_ | refine n2 (fun b _ => ?_) | refine n3 (fun _ _ => ?_) | refine n4 ?_ | refine n5 ?_ | refine WL_nil ?_ | refine W_seq ?_ | refine W_region ?_ | refine n7 ?_ | refine n8 ?_ | refine W_block ?_ | refine W_skip ?_ | refine W_ret ?_ | refine W_exit ?_ | refine WQ_then ?_ | refine WQ_then_ret ?_ | refine WQ_then_exit ?_ | refine WQ_block_normal ?_ | refine WQ_block_ret ?_ | refine WQ_block_exit ?_ | refine n9 ?_)
            ((apply WQ_meet (z)); (focus (first | trivial | omega | assumption | exact ⟨by omega, by omega⟩ | (simp; done))); (focus (repeat (first | exact FrIn.nil _ | (apply FrIn.cons; exact rfl; (first | exact rfl | (congr 1; first | omega | (dsimp only; omega)) | (simp; done)))))); (focus (repeat (first | exact SubO.nil _ | (apply SubO.cons; (focus (repeat' (first | exact Pick.head _ _ | apply Pick.tail))))))); (focus (repeat (first | exact AllE.nil _ | (apply AllE.cons; (focus (first | exact ent_nilBy | exact ent_nilSl | (apply Ent.mem; repeat' (first | exact mcs | apply mct)))))))))
          | false =>
            repeat (first | refine n1 ?_ | refine n2 (fun b _ => ?_) | refine n3 (fun _ _ => ?_) | refine n4 ?_ | refine n5 ?_ | refine WL_nil ?_ | refine W_seq ?_ | refine W_region ?_ | refine n7 ?_ | refine n8 ?_ | refine W_block ?_ | refine W_skip ?_ | refine W_ret ?_ | refine W_exit ?_ | refine WQ_then ?_ | refine WQ_then_ret ?_ | refine WQ_then_exit ?_ | refine WQ_block_normal ?_ | refine WQ_block_ret ?_ | refine WQ_block_exit ?_ | refine n9 ?_)
            ((apply WQ_meet (z)); (focus (first | trivial | omega | assumption | exact ⟨by omega, by omega⟩ | (simp; done))); (focus (repeat (first | exact FrIn.nil _ | (apply FrIn.cons; exact rfl; (first | exact rfl | (congr 1; first | omega | (dsimp only; omega)) | (simp; done)))))); (focus (repeat (first | exact SubO.nil _ | (apply SubO.cons; (focus (repeat' (first | exact Pick.head _ _ | apply Pick.tail))))))); (focus (repeat (first | exact AllE.nil _ | (apply AllE.cons; (focus (first | exact ent_nilBy | exact ent_nilSl | (apply Ent.mem; repeat' (first | exact mcs | apply mct)))))))))
        | false =>
          rw [show inn id data (enc subs.er) = data by rw [inn, c1]; rfl]
          rw [show (fb && (!false || fit subs.er)) = fb by simp]
          repeat (first | refine n1 ?_ | refine n2 (fun b _ => ?_) | refine n3 (fun _ _ => ?_) | refine n4 ?_ | refine n5 ?_ | refine WL_nil ?_ | refine W_seq ?_ | refine W_region ?_ | refine n7 ?_ | refine n8 ?_ | refine W_block ?_ | refine W_skip ?_ | refine W_ret ?_ | refine W_exit ?_ | refine WQ_then ?_ | refine WQ_then_ret ?_ | refine WQ_then_exit ?_ | refine WQ_block_normal ?_ | refine WQ_block_ret ?_ | refine WQ_block_exit ?_ | refine n9 ?_)
          ((apply WQ_meet (dv)); (focus (first | trivial | omega | assumption | exact ⟨by omega, by omega⟩ | (simp; done))); (focus (repeat (first | exact FrIn.nil _ | (apply FrIn.cons; exact rfl; (first | exact rfl | (congr 1; first | omega | (dsimp only; omega)) | (simp; done)))))); (focus (repeat (first | exact SubO.nil _ | (apply SubO.cons; (focus (repeat' (first | exact Pick.head _ _ | apply Pick.tail))))))); (focus (repeat (first | exact AllE.nil _ | (apply AllE.cons; (focus (first | exact ent_nilBy | exact ent_nilSl | (apply Ent.mem; repeat' (first | exact mcs | apply mct)))))))))
      · intro z _
        ((apply W_cutK (X := Unit) [5] [] (fun _ => True) (fun _ => [(5, .bool (fb && (! contB id || fit subs.er) && decide ((inn id data (enc subs.er)).length ≤ 1024)))]) (fun _ => []) (fun _ => [])); exact rfl; exact rfl; (intro _; exact rfl); (intro _; exact rfl); (intro _; exact rfl))
        · generalize (fb && (! contB id || fit subs.er)) = f1
          cases f1 with
          | true =>
            by_cases c2 : (inn id data (enc subs.er)).length ≤ 1024
            · rw [decide_eq_true c2]
              repeat (first | refine n1 ?_ | refine n2 (fun b _ => ?_) | refine n3 (fun _ _ => ?_) | refine n4 ?_ | refine n5 ?_ | refine WL_nil ?_ | refine W_seq ?_ | refine W_region ?_ | refine n7 ?_ | refine n8 ?_ | refine W_block ?_ | refine W_skip ?_ | refine W_ret ?_ | refine W_exit ?_ | refine WQ_then ?_ | refine WQ_then_ret ?_ | refine WQ_then_exit ?_ | refine WQ_block_normal ?_ | refine WQ_block_ret ?_ | refine WQ_block_exit ?_ | refine n9 ?_)
              ((apply WQ_meet (())); (focus (first | trivial | omega | assumption | exact ⟨by omega, by omega⟩ | (simp; done))); (focus (repeat (first | exact FrIn.nil _ | (apply FrIn.cons; exact rfl; (first | exact rfl | (congr 1; first | omega | (dsimp only; omega)) | (simp; done)))))); (focus (repeat (first | exact SubO.nil _ | (apply SubO.cons; (focus (repeat' (first | exact Pick.head _ _ | apply Pick.tail))))))); (focus (repeat (first | exact AllE.nil _ | (apply AllE.cons; (focus (first | exact ent_nilBy | exact ent_nilSl | (apply Ent.mem; repeat' (first | exact mcs | apply mct)))))))))
            · rw [decide_eq_false c2]
              repeat (first | refine n1 ?_ | refine n2 (fun b _ => ?_) | refine n3 (fun _ _ => ?_) | refine n4 ?_ | refine n5 ?_ | refine WL_nil ?_ | refine W_seq ?_ | refine W_region ?_ | refine n7 ?_ | refine n8 ?_ | refine W_block ?_ | refine W_skip ?_ | refine W_ret ?_ | refine W_exit ?_ | refine WQ_then ?_ | refine WQ_then_ret ?_ | refine WQ_then_exit ?_ | refine WQ_block_normal ?_ | refine WQ_block_ret ?_ | refine WQ_block_exit ?_ | refine n9 ?_)
              ((apply WQ_meet (())); (focus (first | trivial | omega | assumption | exact ⟨by omega, by omega⟩ | (simp; done))); (focus (repeat (first | exact FrIn.nil _ | (apply FrIn.cons; exact rfl; (first | exact rfl | (congr 1; first | omega | (dsimp only; omega)) | (simp; done)))))); (focus (repeat (first | exact SubO.nil _ | (apply SubO.cons; (focus (repeat' (first | exact Pick.head _ _ | apply Pick.tail))))))); (focus (repeat (first | exact AllE.nil _ | (apply AllE.cons; (focus (first | exact ent_nilBy | exact ent_nilSl | (apply Ent.mem; repeat' (first | exact mcs | apply mct)))))))))
          | false =>
            repeat (first | refine n1 ?_ | refine n2 (fun b _ => ?_) | refine n3 (fun _ _ => ?_) | refine n4 ?_ | refine n5 ?_ | refine WL_nil ?_ | refine W_seq ?_ | refine W_region ?_ | refine n7 ?_ | refine n8 ?_ | refine W_block ?_ | refine W_skip ?_ | refine W_ret ?_ | refine W_exit ?_ | refine WQ_then ?_ | refine WQ_then_ret ?_ | refine WQ_then_exit ?_ | refine WQ_block_normal ?_ | refine WQ_block_ret ?_ | refine WQ_block_exit ?_ | refine n9 ?_)
            ((apply WQ_meet (())); (focus (first | trivial | omega | assumption | exact ⟨by omega, by omega⟩ | (simp; done))); (focus (repeat (first | exact FrIn.nil _ | (apply FrIn.cons; exact rfl; (first | exact rfl | (congr 1; first | omega | (dsimp only; omega)) | (simp; done)))))); (focus (repeat (first | exact SubO.nil _ | (apply SubO.cons; (focus (repeat' (first | exact Pick.head _ _ | apply Pick.tail))))))); (focus (repeat (first | exact AllE.nil _ | (apply AllE.cons; (focus (first | exact ent_nilBy | exact ent_nilSl | (apply Ent.mem; repeat' (first | exact mcs | apply mct)))))))))
        · intro _ _
          repeat (first | refine n1 ?_ | refine n2 (fun b _ => ?_) | refine n3 (fun _ _ => ?_) | refine n4 ?_ | refine n5 ?_ | refine WL_nil ?_ | refine W_seq ?_ | refine W_region ?_ | refine n7 ?_ | refine n8 ?_ | refine W_block ?_ | refine W_skip ?_ | refine W_ret ?_ | refine W_exit ?_ | refine WQ_then ?_ | refine WQ_then_ret ?_ | refine WQ_then_exit ?_ | refine WQ_block_normal ?_ | refine WQ_block_ret ?_ | refine WQ_block_exit ?_ | refine n9 ?_)
          ((apply W_cutKT (X := Value) [8] [] (fun _ => True) (fun q => [(8, q)]) (fun _ => []) (fun q => [By q (withX id ext (inn id data (enc subs.er)))])); exact rfl; exact rfl; (intro _; exact rfl); (intro _; exact rfl); (intro _; exact rfl))
          · refine W_cond_d (p := (id.toNat : Int) = 255) rfl (fun h => ?_) (fun h => ?_)
            · have hw : withX id ext (inn id data (enc subs.er)) = ext :: inn id data (enc subs.er) := if_pos ((u8is (n := 255) (by decide)).2 (by omega))
              rw [hw]
              have l1 : 1 + (inn id data (enc subs.er)).length = (ext :: inn id data (enc subs.er)).length := by rw [List.length_cons, Nat.add_comm]
              repeat (first | refine n1 ?_ | refine n2 (fun b _ => ?_) | refine n3 (fun _ _ => ?_) | refine n4 ?_ | refine n5 ?_ | refine WL_nil ?_ | refine W_seq ?_ | refine W_region ?_ | refine n7 ?_ | refine n8 ?_ | refine W_block ?_ | refine W_skip ?_ | refine W_ret ?_ | refine W_exit ?_ | refine WQ_then ?_ | refine WQ_then_ret ?_ | refine WQ_then_exit ?_ | refine WQ_block_normal ?_ | refine WQ_block_ret ?_ | refine WQ_block_exit ?_ | refine n9 ?_)
              (apply WL_effs; exact rfl; exact rfl; exact rfl; (apply E_buildSlice; exact rfl; (focus (repeat (first | apply SeqE.nil | (apply SeqE.cons; exact rfl; (focus (first | (apply CellsE.lit; exact rfl) | (apply CellsE.one; (first | (apply OneC.lit; exact rfl) | (apply OneC.by_; (repeat' (first | exact mcs | apply mct)); done) | (apply OneC.sl; (repeat' (first | exact mcs | apply mct)); done) | (apply OneC.rw; (repeat' (first | exact mcs | apply mct)); done) | (apply OneC.row; (repeat' (first | exact Pick.head _ _ | apply Pick.tail))))))); exact rfl) | exact rfl))); exact rfl; (first | (intro _; exact (rfl : _ = Result.ok 1 _)) | (intro _; exact (rfl : _ = Result.ok 2 _)) | (intro _; exact (rfl : _ = Result.ok 3 _)) | (intro _; exact (rfl : _ = Result.ok 4 _)) | (intro _; exact (rfl : _ = Result.ok 5 _)) | (intro _; exact (rfl : _ = Result.ok 6 _)) | (intro _; exact (rfl : _ = Result.ok 7 _)) | (intro _; exact (rfl : _ = Result.ok 8 _)) | (intro _; exact (rfl : _ = Result.ok 9 _)) | (intro _; exact (rfl : _ = Result.ok 13 _)) | (intro _; exact (rfl : _ = Result.ok 14 _)) | (intro _; exact (rfl : _ = Result.ok 26 _)) | (intro _; exact (rfl : _ = Result.ok 40 _)) | (intro _; exact (rfl : _ = Result.ok 41 _)) | (intro _; exact (rfl : _ = Result.ok 42 _)) | (intro _; exact (rfl : _ = Result.ok 43 _)) | (intro _; exact (rfl : _ = Result.ok 44 _)) | (intro _; exact (rfl : _ = Result.ok 45 _)) | (intro _; exact (rfl : _ = Result.ok 46 _))); (intro _; exact rfl); exact rfl; exact Nat.le_of_ble_eq_true rfl; exact Nat.le_of_ble_eq_true rfl); skip)
              intro q1 _
              repeat (first | refine n1 ?_ | refine n2 (fun b _ => ?_) | refine n3 (fun _ _ => ?_) | refine n4 ?_ | refine n5 ?_ | refine WL_nil ?_ | refine W_seq ?_ | refine W_region ?_ | refine n7 ?_ | refine n8 ?_ | refine W_block ?_ | refine W_skip ?_ | refine W_ret ?_ | refine W_exit ?_ | refine WQ_then ?_ | refine WQ_then_ret ?_ | refine WQ_then_exit ?_ | refine WQ_block_normal ?_ | refine WQ_block_ret ?_ | refine WQ_block_exit ?_ | refine n9 ?_)
              refine WL_effs rfl rfl rfl (E_appendBy (bs := [ext]) rfl rfl (by repeat' (first | exact Pick.head _ _ | apply Pick.tail)) (by repeat' (first | exact mcs | apply mct)) rfl rfl rfl rfl rfl rfl (Nat.le_of_ble_eq_true rfl) (by omega) l1 rfl) ?_
              intro c3 _
              refine WL_letgoB (v := c3) (by repeat' (first | exact Pick.head _ _ | apply Pick.tail)) rfl ?_
              repeat (first | refine n1 ?_ | refine n2 (fun b _ => ?_) | refine n3 (fun _ _ => ?_) | refine n4 ?_ | refine n5 ?_ | refine WL_nil ?_ | refine W_seq ?_ | refine W_region ?_ | refine n7 ?_ | refine n8 ?_ | refine W_block ?_ | refine W_skip ?_ | refine W_ret ?_ | refine W_exit ?_ | refine WQ_then ?_ | refine WQ_then_ret ?_ | refine WQ_then_exit ?_ | refine WQ_block_normal ?_ | refine WQ_block_ret ?_ | refine WQ_block_exit ?_ | refine n9 ?_)
              ((apply WQ_meet (c3)); (focus (first | trivial | omega | assumption | exact ⟨by omega, by omega⟩ | (simp; done))); (focus (repeat (first | exact FrIn.nil _ | (apply FrIn.cons; exact rfl; (first | exact rfl | (congr 1; first | omega | (dsimp only; omega)) | (simp; done)))))); (focus (repeat (first | exact SubO.nil _ | (apply SubO.cons; (focus (repeat' (first | exact Pick.head _ _ | apply Pick.tail))))))); (focus (repeat (first | exact AllE.nil _ | (apply AllE.cons; (focus (first | exact ent_nilBy | exact ent_nilSl | (apply Ent.mem; repeat' (first | exact mcs | apply mct)))))))))
            · have hw : withX id ext (inn id data (enc subs.er)) = inn id data (enc subs.er) := if_neg (fun h' => h (by rw [h']; rfl))
              rw [hw]
              repeat (first | refine n1 ?_ | refine n2 (fun b _ => ?_) | refine n3 (fun _ _ => ?_) | refine n4 ?_ | refine n5 ?_ | refine WL_nil ?_ | refine W_seq ?_ | refine W_region ?_ | refine n7 ?_ | refine n8 ?_ | refine W_block ?_ | refine W_skip ?_ | refine W_ret ?_ | refine W_exit ?_ | refine WQ_then ?_ | refine WQ_then_ret ?_ | refine WQ_then_exit ?_ | refine WQ_block_normal ?_ | refine WQ_block_ret ?_ | refine WQ_block_exit ?_ | refine n9 ?_)
              ((apply WQ_meet (z)); (focus (first | trivial | omega | assumption | exact ⟨by omega, by omega⟩ | (simp; done))); (focus (repeat (first | exact FrIn.nil _ | (apply FrIn.cons; exact rfl; (first | exact rfl | (congr 1; first | omega | (dsimp only; omega)) | (simp; done)))))); (focus (repeat (first | exact SubO.nil _ | (apply SubO.cons; (focus (repeat' (first | exact Pick.head _ _ | apply Pick.tail))))))); (focus (repeat (first | exact AllE.nil _ | (apply AllE.cons; (focus (first | exact ent_nilBy | exact ent_nilSl | (apply Ent.mem; repeat' (first | exact mcs | apply mct)))))))))
          · intro cv _
            have hwl : (withX id ext (inn id data (enc subs.er))).length ≤ 60000001 := by
              unfold withX
              split
              · simp only [List.length_cons]; omega
              · omega
            generalize hc : withX id ext (inn id data (enc subs.er)) = c at hi hwl ⊢
            generalize hf2 : (fb && (! contB id || fit subs.er) && decide ((inn id data (enc subs.er)).length ≤ 1024)) = f2
            have hf' : (f2 && fit (t.drop (k + 1)).er) = fit t.er := by
              rw [T.drop_next e1, ← hf2, ← hf]
              cases fb <;> cases contB id <;> cases fit subs.er <;> cases decide ((inn id data (enc subs.er)).length ≤ 1024) <;> simp
            have hfull : (out ++ (id :: bod c.length c)).length ≤ 130000000 := by
              have h1 := congrArg List.length hi
              simp only [List.length_append] at h1 ⊢
              omega
            repeat (first | refine n1 ?_ | refine n2 (fun b _ => ?_) | refine n3 (fun _ _ => ?_) | refine n4 ?_ | refine n5 ?_ | refine WL_nil ?_ | refine W_seq ?_ | refine W_region ?_ | refine n7 ?_ | refine n8 ?_ | refine W_block ?_ | refine W_skip ?_ | refine W_ret ?_ | refine W_exit ?_ | refine WQ_then ?_ | refine WQ_then_ret ?_ | refine WQ_then_exit ?_ | refine WQ_block_normal ?_ | refine WQ_block_ret ?_ | refine WQ_block_exit ?_ | refine n9 ?_)
            obtain ⟨b11, rfl⟩ : ∃ b11, b11 = b := ⟨b, rfl⟩
            (apply WL_effs; exact rfl; exact rfl; exact rfl; apply E_call; exact rfl; (intro _ _; simp); exact parts_fn cv c; (repeat (first | exact AllE.nil _ | (apply AllE.cons; (focus (first | exact ent_nilBy | exact ent_nilSl | (apply Ent.mem; repeat' (first | exact mcs | apply mct))))))); (intro _; exact rfl); (intro _; exact rfl))
            intro bp _
            repeat (first | refine n1 ?_ | refine n2 (fun b _ => ?_) | refine n3 (fun _ _ => ?_) | refine n4 ?_ | refine n5 ?_ | refine WL_nil ?_ | refine W_seq ?_ | refine W_region ?_ | refine n7 ?_ | refine n8 ?_ | refine W_block ?_ | refine W_skip ?_ | refine W_ret ?_ | refine W_exit ?_ | refine WQ_then ?_ | refine WQ_then_ret ?_ | refine WQ_then_exit ?_ | refine WQ_block_normal ?_ | refine WQ_block_ret ?_ | refine WQ_block_exit ?_ | refine n9 ?_)
            refine W_weak [(52, .func (.func 112) #[] #[.pointer (some ⟨bp, 0, none⟩)]), (4, .pointer (some ⟨b4, 0, none⟩)), (11, .pointer (some ⟨b11, 0, none⟩)), (5, .bool f2), (13, v), (14, .int .i64 (t.len : Int)), (15, .int .i64 (k : Int)), (3, .bool false), (2, .slice none 0 0), (0, v)]
              ([.blk bp 37 [cv]] ++ (wY b4 b11 ⟨out, ov, id⟩ ++ [pk (mkO Ds)])) [By cv c, Rw 4 v t.len t.at_, t.tf] (by repeat (first | exact FrIn.nil _ | (apply FrIn.cons; exact rfl; (first | exact rfl | (congr 1; first | omega | (dsimp only; omega)) | (simp; done))))) (by (repeat (first | exact SubO.nil _ | (apply SubO.cons; (focus (repeat' (first | exact Pick.head _ _ | apply Pick.tail))))))) (by (repeat (first | exact AllE.nil _ | (apply AllE.cons; (focus (first | exact ent_nilBy | exact ent_nilSl | (apply Ent.mem; repeat' (first | exact mcs | apply mct)))))))) ?_
            refine W_rangeFunc (α := WS) (β := Value × List UInt8) (wY b4 b11) (fun _ => []) (fun _ => none) ⟨out, ov, id⟩ (fun b => b.1) (fun b => [By b.1 b.2]) wPre wStep
              (fun b => [(12, b.1), (4, .pointer (some ⟨b4, 0, none⟩)), (11, .pointer (some ⟨b11, 0, none⟩))])
              (Γi := [.blk bp 37 [cv]]) (Γr := [pk (mkO Ds)]) (Φi := [By cv c])
              (X := WS) (pf := fun x => ∃ c' y v, wInv (out ++ (id :: bod c.length c)) c' y ∧ c'.length < 255 ∧ wStep y (v, c') x) (ret := fun _ => .tuple #[]) (yx := fun x => x) (Γ' := fun _ => []) (Φ' := fun _ => [])
              rfl (by intro _ _; simp) rfl (.refl _) (by (repeat (first | exact AllE.nil _ | (apply AllE.cons; (focus (first | exact ent_nilBy | exact ent_nilSl | (apply Ent.mem; repeat' (first | exact mcs | apply mct)))))))) (by (repeat (first | exact AllE.nil _ | (apply AllE.cons; (focus (first | exact ent_nilBy | exact ent_nilSl | (apply Ent.mem; repeat' (first | exact mcs | apply mct)))))))) rfl ?_ ?_ ?_ ?_ ?_
            · intro y b hb
              rfl
            · intro l y b hb w0 O0 M o
              repeat (first | refine n1 ?_ | refine n2 (fun b _ => ?_) | refine n3 (fun _ _ => ?_) | refine n4 ?_ | refine n5 ?_ | refine WL_nil ?_ | refine W_seq ?_ | refine W_region ?_ | refine n7 ?_ | refine n8 ?_ | refine W_block ?_ | refine W_skip ?_ | refine W_ret ?_ | refine W_exit ?_ | refine WQ_then ?_ | refine WQ_then_ret ?_ | refine WQ_then_exit ?_ | refine WQ_block_normal ?_ | refine WQ_block_ret ?_ | refine WQ_block_exit ?_ | refine n9 ?_)
              exact WQ_assign (by repeat (first | exact FrIn.nil _ | (apply FrIn.cons; exact rfl; (first | exact rfl | (congr 1; first | omega | (dsimp only; omega)) | (simp; done))))) (by (repeat (first | exact SubO.nil _ | (apply SubO.cons; (focus (repeat' (first | exact Pick.head _ _ | apply Pick.tail))))))) (by (repeat (first | exact AllE.nil _ | (apply AllE.cons; (focus (first | exact ent_nilBy | exact ent_nilSl | (apply Ent.mem; repeat' (first | exact mcs | apply mct))))))))
            · intro l y b hb w0 O0 M o
              obtain ⟨u, uv, i2⟩ := y
              obtain ⟨pv, p⟩ := b
              obtain ⟨h1, h2⟩ := hb
              replace h1 : p.length ≤ 255 := h1
              replace h2 : u.length ≤ 130000000 := h2
              dsimp only [wY, List.cons_append, List.nil_append]
              repeat (first | refine n1 ?_ | refine n2 (fun b _ => ?_) | refine n3 (fun _ _ => ?_) | refine n4 ?_ | refine n5 ?_ | refine WL_nil ?_ | refine W_seq ?_ | refine W_region ?_ | refine n7 ?_ | refine n8 ?_ | refine W_block ?_ | refine W_skip ?_ | refine W_ret ?_ | refine W_exit ?_ | refine WQ_then ?_ | refine WQ_then_ret ?_ | refine WQ_then_exit ?_ | refine WQ_block_normal ?_ | refine WQ_block_ret ?_ | refine WQ_block_exit ?_ | refine n9 ?_)
              (apply WL_effs; exact rfl; exact rfl; exact rfl; (apply E_buildSlice; exact rfl; (focus (repeat (first | apply SeqE.nil | (apply SeqE.cons; exact rfl; (focus (first | (apply CellsE.lit; exact rfl) | (apply CellsE.one; (first | (apply OneC.lit; exact rfl) | (apply OneC.by_; (repeat' (first | exact mcs | apply mct)); done) | (apply OneC.sl; (repeat' (first | exact mcs | apply mct)); done) | (apply OneC.rw; (repeat' (first | exact mcs | apply mct)); done) | (apply OneC.row; (repeat' (first | exact Pick.head _ _ | apply Pick.tail))))))); exact rfl) | exact rfl))); exact rfl; (first | (intro _; exact (rfl : _ = Result.ok 1 _)) | (intro _; exact (rfl : _ = Result.ok 2 _)) | (intro _; exact (rfl : _ = Result.ok 3 _)) | (intro _; exact (rfl : _ = Result.ok 4 _)) | (intro _; exact (rfl : _ = Result.ok 5 _)) | (intro _; exact (rfl : _ = Result.ok 6 _)) | (intro _; exact (rfl : _ = Result.ok 7 _)) | (intro _; exact (rfl : _ = Result.ok 8 _)) | (intro _; exact (rfl : _ = Result.ok 9 _)) | (intro _; exact (rfl : _ = Result.ok 13 _)) | (intro _; exact (rfl : _ = Result.ok 14 _)) | (intro _; exact (rfl : _ = Result.ok 26 _)) | (intro _; exact (rfl : _ = Result.ok 40 _)) | (intro _; exact (rfl : _ = Result.ok 41 _)) | (intro _; exact (rfl : _ = Result.ok 42 _)) | (intro _; exact (rfl : _ = Result.ok 43 _)) | (intro _; exact (rfl : _ = Result.ok 44 _)) | (intro _; exact (rfl : _ = Result.ok 45 _)) | (intro _; exact (rfl : _ = Result.ok 46 _))); (intro _; exact rfl); exact rfl; exact Nat.le_of_ble_eq_true rfl; exact Nat.le_of_ble_eq_true rfl); skip)
              intro q1 _
              have l1 : u.length + 2 = (u ++ [i2, UInt8.ofNat p.length]).length := by simp
              have l2 : (u ++ [i2, UInt8.ofNat p.length]).length + p.length = (u ++ [i2, UInt8.ofNat p.length] ++ p).length := by simp only [List.length_append]
              have l3 : (u ++ [i2, UInt8.ofNat p.length]).length + p.length ≤ 140000000 := by simp only [List.length_append, List.length_cons, List.length_nil]; omega
              have cc : [bcell i2, Value.int .u8 (p.length : Int)] = [i2, UInt8.ofNat p.length].map bcell := by
                simp only [List.map_cons, List.map_nil, bcell, UInt8.toNat_ofNat']
                rw [Nat.mod_eq_of_lt (by omega)]
              refine WL_effs rfl rfl rfl (E_appendRowB (bs := u) (news := [i2, UInt8.ofNat p.length]) rfl rfl (by repeat' (first | exact Pick.head _ _ | apply Pick.tail)) (by repeat' (first | exact Pick.head _ _ | apply Pick.tail)) rfl cc rfl rfl rfl rfl rfl (Nat.le_of_ble_eq_true rfl) (by omega) l1 rfl) ?_
              intro o2 _
              repeat (first | refine n1 ?_ | refine n2 (fun b _ => ?_) | refine n3 (fun _ _ => ?_) | refine n4 ?_ | refine n5 ?_ | refine WL_nil ?_ | refine W_seq ?_ | refine W_region ?_ | refine n7 ?_ | refine n8 ?_ | refine W_block ?_ | refine W_skip ?_ | refine W_ret ?_ | refine W_exit ?_ | refine WQ_then ?_ | refine WQ_then_ret ?_ | refine WQ_then_exit ?_ | refine WQ_block_normal ?_ | refine WQ_block_ret ?_ | refine WQ_block_exit ?_ | refine n9 ?_)
              refine WL_effs rfl rfl rfl (E_appendBy (bs := u ++ [i2, UInt8.ofNat p.length]) rfl rfl (by repeat' (first | exact Pick.head _ _ | apply Pick.tail)) (by repeat' (first | exact mcs | apply mct)) rfl rfl rfl rfl rfl rfl (Nat.le_of_ble_eq_true rfl) (by omega) l2 rfl) ?_
              intro o3 _
              refine WL_do rfl rfl (E_store (us := [o3]) rfl rfl (by repeat' (first | exact Pick.head _ _ | apply Pick.tail)) (CellsE.one (OneC.row (by repeat' (first | exact Pick.head _ _ | apply Pick.tail)))) (by intro _; rfl) (Ones.cons (OneC.row (by repeat' (first | exact Pick.head _ _ | apply Pick.tail))) Ones.nil) rfl) ?_
              intro _ _
              repeat (first | refine n1 ?_ | refine n2 (fun b _ => ?_) | refine n3 (fun _ _ => ?_) | refine n4 ?_ | refine n5 ?_ | refine WL_nil ?_ | refine W_seq ?_ | refine W_region ?_ | refine n7 ?_ | refine n8 ?_ | refine W_block ?_ | refine W_skip ?_ | refine W_ret ?_ | refine W_exit ?_ | refine WQ_then ?_ | refine WQ_then_ret ?_ | refine WQ_then_exit ?_ | refine WQ_block_normal ?_ | refine WQ_block_ret ?_ | refine WQ_block_exit ?_ | refine n9 ?_)
              exact WQ_round ⟨u ++ [i2, UInt8.ofNat p.length] ++ p, o3, 254⟩ ⟨rfl, rfl⟩ rfl (by (repeat (first | exact SubO.nil _ | (apply SubO.cons; (focus (repeat' (first | exact Pick.head _ _ | apply Pick.tail))))))) (by (repeat (first | exact AllE.nil _ | (apply AllE.cons; (focus (first | exact ent_nilBy | exact ent_nilSl | (apply Ent.mem; repeat' (first | exact mcs | apply mct))))))))
            · intro l YO YS hY
              exact piter_fn l bp cv c (by omega) YO YS (wInv (out ++ (id :: bod c.length c))) ⟨out, ov, id⟩ ⟨rfl, hfull⟩ wStep wPre
                (fun c' y v ⟨h1, h2⟩ h3 => ⟨by rw [List.length_take]; omega, by rw [← h1] at h2; simp only [List.length_append] at h2; omega⟩)
                (fun c' y v ⟨h1, h2⟩ h3 => ⟨by show c'.length ≤ 255; omega, by rw [← h1] at h2; simp only [List.length_append] at h2; omega⟩)
                (fun c' y v y' ⟨h1, h2⟩ h3 ⟨h4, h5⟩ => ⟨by
                  rw [h4, h5, ← h1, bod_big h3]
                  have : (c'.take 255).length = 255 := by rw [List.length_take]; omega
                  simp [this], h2⟩) hY
            · intro D x hx
              obtain ⟨c', y, pv, ⟨h1, h2⟩, h3, h4, h5⟩ := hx
              refine ⟨fun _ => ?_, fun c hc => by cases hc⟩
              dsimp only [wY, List.cons_append, List.nil_append]
              refine WQ_mark (x := ob D (.deferred (some []))) (Δ := mkO Ds) (by repeat' (first | exact Pick.head _ _ | apply Pick.tail)) (by repeat' (first | exact Pick.head _ _ | apply Pick.tail)) ?_
              have hn' : x.out ++ enc (t.drop (k + 1)).er = enc t.er := by
                rw [← hi, h4, ← h1, bod_small h3]
                simp
              repeat (first | refine n1 ?_ | refine n2 (fun b _ => ?_) | refine n3 (fun _ _ => ?_) | refine n4 ?_ | refine n5 ?_ | refine WL_nil ?_ | refine W_seq ?_ | refine W_region ?_ | refine n7 ?_ | refine n8 ?_ | refine W_block ?_ | refine W_skip ?_ | refine W_ret ?_ | refine W_exit ?_ | refine WQ_then ?_ | refine WQ_then_ret ?_ | refine WQ_then_exit ?_ | refine WQ_block_normal ?_ | refine WQ_block_ret ?_ | refine WQ_block_exit ?_ | refine n9 ?_)
              ((apply WQ_againM ((k + 1, x.out, x.ov, f2, D :: Ds))); exact rfl; (focus exact ⟨c0, hn', hf'⟩); (focus (omega)); (focus (repeat (first | exact FrIn.nil _ | (apply FrIn.cons; exact rfl; (first | exact rfl | (congr 1; first | omega | (dsimp only; omega)) | (simp; done)))))); (focus (repeat (first | exact SubO.nil _ | (apply SubO.cons; (focus (repeat' (first | exact Pick.head _ _ | apply Pick.tail))))))); (focus (repeat (first | exact AllE.nil _ | (apply AllE.cons; (focus (first | exact ent_nilBy | exact ent_nilSl | (apply Ent.mem; repeat' (first | exact mcs | apply mct)))))))))
    · rw [drop_end (by omega)] at hi hf
      obtain rfl : out = enc t.er := by simpa [T.er, enc] using hi
      obtain rfl : fb = fit t.er := by simpa [T.er, fit] using hf
      repeat (first | refine n1 ?_ | refine n2 (fun b _ => ?_) | refine n3 (fun _ _ => ?_) | refine n4 ?_ | refine n5 ?_ | refine WL_nil ?_ | refine W_seq ?_ | refine W_region ?_ | refine n7 ?_ | refine n8 ?_ | refine W_block ?_ | refine W_skip ?_ | refine W_ret ?_ | refine W_exit ?_ | refine WQ_then ?_ | refine WQ_then_ret ?_ | refine WQ_then_exit ?_ | refine WQ_block_normal ?_ | refine WQ_block_ret ?_ | refine WQ_block_exit ?_ | refine n9 ?_)
      exact ret2Ms Ds Try.results94 ov trivial (by repeat' (first | exact Pick.head _ _ | apply Pick.tail)) (RV_tmp rfl) (RV_tmp rfl) rfl (by (repeat (first | exact SubO.nil _ | (apply SubO.cons; (focus (repeat' (first | exact Pick.head _ _ | apply Pick.tail))))))) (by (repeat (first | exact AllE.nil _ | (apply AllE.cons; (focus (first | exact ent_nilBy | exact ent_nilSl | (apply Ent.mem; repeat' (first | exact mcs | apply mct))))))))
end Go.Proofs.Ytoohgnegoaoleaa.C04

/-
  The program's Check, Encode, Size.
-/
namespace Go.Proofs.Ytoohgnegoaoleaa.C04
open Go Go.RowKit Go.Hs
attribute [local irreducible] WL W WQ PL Runs Effs AllE Ent SubO FrIn Pick OneC Ones CellsE PartsE SeqE UZ By Sl Pt Ct

set_option maxRecDepth 100000 in
set_option maxHeartbeats 8000000 in
theorem check_fn (t : T) (v : Value) (hsm : Sm t.er) : CtD Try.prog 93 [v] [Rw 4 v t.len t.at_, t.tf] (.int .i64 (chk t.er)) := by
  have hb1 := hsm.1
  have hb2 := hsm.2.1
  refine Ct_intro Try.func93 rfl Try.ntmps93 (by simp) _ rfl (fun w0 O0 => ?_)
  repeat (first | refine n1 ?_ | refine n2 (fun b _ => ?_) | refine n3 (fun _ _ => ?_) | refine n4 ?_ | refine n5 ?_ | refine WL_nil ?_ | refine W_seq ?_ | refine W_region ?_ | refine n7 ?_ | refine n8 ?_ | refine W_block ?_ | refine W_skip ?_ | refine W_ret ?_ | refine W_exit ?_ | refine WQ_then ?_ | refine WQ_then_ret ?_ | refine WQ_then_exit ?_ | refine WQ_block_normal ?_ | refine WQ_block_ret ?_ | refine WQ_block_exit ?_ | refine n9 ?_)
  have hw := fun b1 b2 b3 => walk_fn b1 b2 b3 (t.size + 1) t v 0 0 0 false (Nat.lt_succ_self _) (by omega) (by decide) (by omega) (Nat.le_refl _)
  (apply WL_effs; exact rfl; exact rfl; exact rfl; apply E_callO; exact rfl; (intro _ _; simp); exact hw _ _ _; ((apply perm3; (focus (repeat' (first | exact Pick.head _ _ | apply Pick.tail))); (focus (repeat' (first | exact Pick.head _ _ | apply Pick.tail))); (focus (repeat' (first | exact Pick.head _ _ | apply Pick.tail))))); (repeat (first | exact AllE.nil _ | (apply AllE.cons; (focus (first | exact ent_nilBy | exact ent_nilSl | (apply Ent.mem; repeat' (first | exact mcs | apply mct))))))); (intro _; exact rfl); (intro _; exact rfl))
  intro _ _
  dsimp only
  rw [Nat.zero_add, show max 0 (0 + dep t.er) = dep t.er by omega, Bool.false_or]
  unfold chk
  by_cases c1 : 64 < cnt t.er
  · rw [if_pos (.inl c1)]
    repeat (first | refine n1 ?_ | refine n2 (fun b _ => ?_) | refine n3 (fun _ _ => ?_) | refine n4 ?_ | refine n5 ?_ | refine WL_nil ?_ | refine W_seq ?_ | refine W_region ?_ | refine n7 ?_ | refine n8 ?_ | refine W_block ?_ | refine W_skip ?_ | refine W_ret ?_ | refine W_exit ?_ | refine WQ_then ?_ | refine WQ_then_ret ?_ | refine WQ_then_exit ?_ | refine WQ_block_normal ?_ | refine WQ_block_ret ?_ | refine WQ_block_exit ?_ | refine n9 ?_)
    ((apply ret1 Try.results93 ( ())); (focus (first | trivial | assumption | omega)); (focus (first | exact RV_tmp rfl | (apply RV_cellN; exact rfl; (repeat' (first | exact Pick.head _ _ | apply Pick.tail)); (intro _; exact rfl); (intro _; exact rfl); exact rfl) | (apply RV_cell1; exact rfl; (repeat' (first | exact Pick.head _ _ | apply Pick.tail)); (intro _; exact rfl); exact rfl)));  (focus (first | exact rfl | (simp; done))); (focus (repeat (first | exact SubO.nil _ | (apply SubO.cons; (focus (repeat' (first | exact Pick.head _ _ | apply Pick.tail))))))); (focus (repeat (first | exact AllE.nil _ | (apply AllE.cons; (focus (first | exact ent_nilBy | exact ent_nilSl | (apply Ent.mem; repeat' (first | exact mcs | apply mct)))))))))
  · by_cases c2 : 4 < dep t.er
    · rw [if_pos (.inr c2)]
      repeat (first | refine n1 ?_ | refine n2 (fun b _ => ?_) | refine n3 (fun _ _ => ?_) | refine n4 ?_ | refine n5 ?_ | refine WL_nil ?_ | refine W_seq ?_ | refine W_region ?_ | refine n7 ?_ | refine n8 ?_ | refine W_block ?_ | refine W_skip ?_ | refine W_ret ?_ | refine W_exit ?_ | refine WQ_then ?_ | refine WQ_then_ret ?_ | refine WQ_then_exit ?_ | refine WQ_block_normal ?_ | refine WQ_block_ret ?_ | refine WQ_block_exit ?_ | refine n9 ?_)
      ((apply ret1 Try.results93 ( ())); (focus (first | trivial | assumption | omega)); (focus (first | exact RV_tmp rfl | (apply RV_cellN; exact rfl; (repeat' (first | exact Pick.head _ _ | apply Pick.tail)); (intro _; exact rfl); (intro _; exact rfl); exact rfl) | (apply RV_cell1; exact rfl; (repeat' (first | exact Pick.head _ _ | apply Pick.tail)); (intro _; exact rfl); exact rfl)));  (focus (first | exact rfl | (simp; done))); (focus (repeat (first | exact SubO.nil _ | (apply SubO.cons; (focus (repeat' (first | exact Pick.head _ _ | apply Pick.tail))))))); (focus (repeat (first | exact AllE.nil _ | (apply AllE.cons; (focus (first | exact ent_nilBy | exact ent_nilSl | (apply Ent.mem; repeat' (first | exact mcs | apply mct)))))))))
    · rw [if_neg (fun h => h.elim c1 c2)]
      cases c3 : val t.er with
      | false =>
        rw [if_pos rfl]
        repeat (first | refine n1 ?_ | refine n2 (fun b _ => ?_) | refine n3 (fun _ _ => ?_) | refine n4 ?_ | refine n5 ?_ | refine WL_nil ?_ | refine W_seq ?_ | refine W_region ?_ | refine n7 ?_ | refine n8 ?_ | refine W_block ?_ | refine W_skip ?_ | refine W_ret ?_ | refine W_exit ?_ | refine WQ_then ?_ | refine WQ_then_ret ?_ | refine WQ_then_exit ?_ | refine WQ_block_normal ?_ | refine WQ_block_ret ?_ | refine WQ_block_exit ?_ | refine n9 ?_)
        ((apply ret1 Try.results93 ( ())); (focus (first | trivial | assumption | omega)); (focus (first | exact RV_tmp rfl | (apply RV_cellN; exact rfl; (repeat' (first | exact Pick.head _ _ | apply Pick.tail)); (intro _; exact rfl); (intro _; exact rfl); exact rfl) | (apply RV_cell1; exact rfl; (repeat' (first | exact Pick.head _ _ | apply Pick.tail)); (intro _; exact rfl); exact rfl)));  (focus (first | exact rfl | (simp; done))); (focus (repeat (first | exact SubO.nil _ | (apply SubO.cons; (focus (repeat' (first | exact Pick.head _ _ | apply Pick.tail))))))); (focus (repeat (first | exact AllE.nil _ | (apply AllE.cons; (focus (first | exact ent_nilBy | exact ent_nilSl | (apply Ent.mem; repeat' (first | exact mcs | apply mct)))))))))
      | true =>
        rw [if_neg Bool.noConfusion]
        repeat (first | refine n1 ?_ | refine n2 (fun b _ => ?_) | refine n3 (fun _ _ => ?_) | refine n4 ?_ | refine n5 ?_ | refine WL_nil ?_ | refine W_seq ?_ | refine W_region ?_ | refine n7 ?_ | refine n8 ?_ | refine W_block ?_ | refine W_skip ?_ | refine W_ret ?_ | refine W_exit ?_ | refine WQ_then ?_ | refine WQ_then_ret ?_ | refine WQ_then_exit ?_ | refine WQ_block_normal ?_ | refine WQ_block_ret ?_ | refine WQ_block_exit ?_ | refine n9 ?_)
        (apply WL_effs; exact rfl; exact rfl; exact rfl; apply E_call; exact rfl; (intro _ _; simp); (exact write_fn (t.size + 1) t v (Nat.lt_succ_self _) hsm); (repeat (first | exact AllE.nil _ | (apply AllE.cons; (focus (first | exact ent_nilBy | exact ent_nilSl | (apply Ent.mem; repeat' (first | exact mcs | apply mct))))))); (intro _; exact rfl); (intro _; exact rfl))
        intro x _
        cases c4 : fit t.er with
        | false =>
          rw [if_pos rfl]
          repeat (first | refine n1 ?_ | refine n2 (fun b _ => ?_) | refine n3 (fun _ _ => ?_) | refine n4 ?_ | refine n5 ?_ | refine WL_nil ?_ | refine W_seq ?_ | refine W_region ?_ | refine n7 ?_ | refine n8 ?_ | refine W_block ?_ | refine W_skip ?_ | refine W_ret ?_ | refine W_exit ?_ | refine WQ_then ?_ | refine WQ_then_ret ?_ | refine WQ_then_exit ?_ | refine WQ_block_normal ?_ | refine WQ_block_ret ?_ | refine WQ_block_exit ?_ | refine n9 ?_)
          ((apply ret1 Try.results93 ( ())); (focus (first | trivial | assumption | omega)); (focus (first | exact RV_tmp rfl | (apply RV_cellN; exact rfl; (repeat' (first | exact Pick.head _ _ | apply Pick.tail)); (intro _; exact rfl); (intro _; exact rfl); exact rfl) | (apply RV_cell1; exact rfl; (repeat' (first | exact Pick.head _ _ | apply Pick.tail)); (intro _; exact rfl); exact rfl)));  (focus (first | exact rfl | (simp; done))); (focus (repeat (first | exact SubO.nil _ | (apply SubO.cons; (focus (repeat' (first | exact Pick.head _ _ | apply Pick.tail))))))); (focus (repeat (first | exact AllE.nil _ | (apply AllE.cons; (focus (first | exact ent_nilBy | exact ent_nilSl | (apply Ent.mem; repeat' (first | exact mcs | apply mct)))))))))
        | true =>
          rw [if_neg Bool.noConfusion]
          repeat (first | refine n1 ?_ | refine n2 (fun b _ => ?_) | refine n3 (fun _ _ => ?_) | refine n4 ?_ | refine n5 ?_ | refine WL_nil ?_ | refine W_seq ?_ | refine W_region ?_ | refine n7 ?_ | refine n8 ?_ | refine W_block ?_ | refine W_skip ?_ | refine W_ret ?_ | refine W_exit ?_ | refine WQ_then ?_ | refine WQ_then_ret ?_ | refine WQ_then_exit ?_ | refine WQ_block_normal ?_ | refine WQ_block_ret ?_ | refine WQ_block_exit ?_ | refine n9 ?_)
          ((apply ret1 Try.results93 ( ())); (focus (first | trivial | assumption | omega)); (focus (first | exact RV_tmp rfl | (apply RV_cellN; exact rfl; (repeat' (first | exact Pick.head _ _ | apply Pick.tail)); (intro _; exact rfl); (intro _; exact rfl); exact rfl) | (apply RV_cell1; exact rfl; (repeat' (first | exact Pick.head _ _ | apply Pick.tail)); (intro _; exact rfl); exact rfl)));  (focus (first | exact rfl | (simp; done))); (focus (repeat (first | exact SubO.nil _ | (apply SubO.cons; (focus (repeat' (first | exact Pick.head _ _ | apply Pick.tail))))))); (focus (repeat (first | exact AllE.nil _ | (apply AllE.cons; (focus (first | exact ent_nilBy | exact ent_nilSl | (apply Ent.mem; repeat' (first | exact mcs | apply mct)))))))))

end Go.Proofs.Ytoohgnegoaoleaa.C04

/-
  What is encoded is decoded, told of the checks; the chapter's examples; the law 'ElementBack' walked.
-/
namespace Go.Proofs.Ytoohgnegoaoleaa.C04
open Go Go.RowKit Go.Hs
attribute [local irreducible] WL W WQ PL Runs Effs AllE Ent SubO FrIn Pick OneC Ones CellsE PartsE SeqE UZ By Sl Pt Ct

def tS (dv : Value) (data : List UInt8) (next : T) : T := .cons 7 0 dv data (.slice none 0 0) .nil next
end Go.Proofs.Ytoohgnegoaoleaa.C04

/-
  The rules of the small logic for arrays of six bytes, for slices of arrays, and for comparing things of several cells. No program is named here.
-/
namespace Go.Hs
open Go Go.RowKit

/-- six bytes. -/
structure A6 where
  a0 : UInt8
  a1 : UInt8
  a2 : UInt8
  a3 : UInt8
  a4 : UInt8
  a5 : UInt8
deriving DecidableEq
def A6.bytes (a : A6) : List UInt8 := [a.a0, a.a1, a.a2, a.a3, a.a4, a.a5]
def A6.cells (a : A6) : List Value := [bcell a.a0, bcell a.a1, bcell a.a2, bcell a.a3, bcell a.a4, bcell a.a5]
theorem A6.bytes_inj {a b : A6} (h : a.bytes = b.bytes) : a = b := by
  obtain ⟨a0, a1, a2, a3, a4, a5⟩ := a
  obtain ⟨b0, b1, b2, b3, b4, b5⟩ := b
  simp only [A6.bytes, List.cons.injEq, and_true] at h
  obtain ⟨rfl, rfl, rfl, rfl, rfl, rfl⟩ := h
  rfl
def A6.of (l : List UInt8) : A6 := ⟨l.getD 0 0, l.getD 1 0, l.getD 2 0, l.getD 3 0, l.getD 4 0, l.getD 5 0⟩
def zA6 : A6 := ⟨0, 0, 0, 0, 0, 0⟩
/-- a cell that holds a byte. -/
def Bc (v : Value) (b : UInt8) : Prop := v = bcell b
theorem Bc.self (b : UInt8) : Bc (bcell b) b := rfl
theorem Bc.zero : Bc (.int .u8 0) 0 := rfl
theorem Bc.lit (n : Nat) (h : Nat.blt n 256 = true) : Bc (.int .u8 (Int.ofNat n)) (UInt8.ofNat n) := by
  have h : n < 256 := Nat.le_of_ble_eq_true h
  show Value.int .u8 (Int.ofNat n) = .int .u8 ((UInt8.ofNat n).toNat : Int)
  rw [UInt8.toNat_ofNat', Nat.mod_eq_of_lt h]
  rfl

/-- a cell and what it tells when compared. -/
def Kc (P : Program) (t : TypeId) (cs : List Value) (ls : List Lit) : Prop := ∃ D, P.keyLits D t cs = some ls

section
variable {P : Program}
theorem keyLits_mono_u8 {e : TypeId} (he : P.underlying e = some (.int .u8)) (b : UInt8) : P.keyLits 1 e [bcell b] = some [.int .u8 (b.toNat : Int)] := by
  have h : (Lit.int .u8 (b.toNat : Int)).wf = true := by
    have := b.toNat_lt
    simp [Lit.wf, IntKind.min, IntKind.max, IntKind.signed, IntKind.bits] <;> omega
  simp [Program.keyLits, he, bcell, h]
theorem keyLits_a6 {t e : TypeId} (ht : P.underlying t = some (.array 6 e)) (he : P.underlying e = some (.int .u8)) (hce : P.cellsOf e = 1) (hct : P.cellsOf t = 6) (a : A6) :
    P.keyLits 2 t a.cells = some (a.bytes.map fun b => .int .u8 (b.toNat : Int)) := by
  have h := fun b => keyLits_mono_u8 he b
  have hr : List.range 6 = [0, 1, 2, 3, 4, 5] := rfl
  rw [show (2 : Nat) = 1 + 1 from rfl]
  unfold Program.keyLits
  simp only [ht, hct, hce, A6.cells, List.length_cons, List.length_nil, if_true, hr, List.mapM_cons, List.mapM_nil, Nat.zero_mul, Nat.one_mul, Nat.mul_one, List.drop_zero, List.drop_succ_cons, List.take_succ_cons, List.take_zero, h,
    Option.pure_def, Option.bind_eq_bind, Option.bind_some, Option.map_some]
  rfl
theorem a6_lits_inj {a b : A6} : (a.bytes.map fun b => Lit.int .u8 (b.toNat : Int)) = (b.bytes.map fun b => Lit.int .u8 (b.toNat : Int)) ↔ a = b := by
  constructor
  · intro h
    apply A6.bytes_inj
    refine List.map_inj_right (fun x y hxy => ?_) |>.1 h
    injection hxy with _ hxy
    exact UInt8.toNat_inj.1 (by omega)
  · rintro rfl; rfl
end

section
variable {C : Ctx} {ops : Array Oper} {l : List Oper} {fr : Fr} {Γ Γ' Γ1 : List OA} {Φ : List SP} {Q : Exit → Act → World → Prop}
  {d : Nat} {ty : TypeId} {pos : String} {aft : Array Edge} {g : Option (Nat × Bool)}

theorem neS_t' {α : Type} {a b : α} [Decidable (a = b)] (h : ¬ a = b) : (!decide (a = b)) = true := by rw [decide_eq_false h]; rfl
theorem neS_f' {α : Type} {a b : α} [Decidable (a = b)] (h : a = b) : (!decide (a = b)) = false := by rw [decide_eq_true h]; rfl
/-- two things of several cells compared. -/
theorem R_eqG {x y : Operand} {t t' : TypeId} {cs ds : List Value} {D D' : Nat} {la lb : List Lit} {c : Bool} {m : Nat} (hx : evO fr x = some (.agg cs.toArray)) (hy : evO fr y = some (.agg ds.toArray))
    (hk : C.P.keyTypeAt m t = true) (hm : Nat.ble m 10000 = true) (hg : C.P.eqGuardType C.P.depth t = false)
    (fx : (Value.agg cs.toArray).formed C.P t = true) (fy : (Value.agg ds.toArray).formed C.P t = true) {p : Prop} [Decidable p] (ka : C.P.keyLits D t cs = some la) (kb : C.P.keyLits D' t ds = some lb) (hp : la = lb ↔ p) (hr : decide p = c) :
    Runs C fr Γ Φ ⟨some d, .binOp .eql t x y t', ty, pos, aft, g⟩ (.bool c) :=
  Runs.pure fun a w ha hw => by
    subst hr
    obtain ⟨r, hr, hi⟩ := run_equalIn_deep (P := C.P) (10000 - m) m t hk w D D' (.agg cs.toArray) (.agg ds.toArray) la lb fx fy (by simpa [Value.cells] using ka) (by simpa [Value.cells] using kb)
    rw [show 10000 - m + m = 10000 from Nat.sub_add_cancel (Nat.le_of_ble_eq_true hm)] at hr
    have hd : r = decide p := by
      cases r
      · exact (decide_eq_false fun e => by simpa using hi.2 (hp.2 e)).symm
      · exact (decide_eq_true (hp.1 (hi.1 rfl))).symm
    subst hd
    simp only [execOp, evO_sound ha hx, evO_sound ha hy, Sem.run_bind, run_eqGuard_agg w .eql t x y _ _ hg, Result.andThen_ok, run_eql_struct, hr, Sem.run_pure]
theorem R_neG {x y : Operand} {t t' : TypeId} {cs ds : List Value} {D D' : Nat} {la lb : List Lit} {c : Bool} {m : Nat} (hx : evO fr x = some (.agg cs.toArray)) (hy : evO fr y = some (.agg ds.toArray))
    (hk : C.P.keyTypeAt m t = true) (hm : Nat.ble m 10000 = true) (hg : C.P.eqGuardType C.P.depth t = false)
    (fx : (Value.agg cs.toArray).formed C.P t = true) (fy : (Value.agg ds.toArray).formed C.P t = true) {p : Prop} [Decidable p] (ka : C.P.keyLits D t cs = some la) (kb : C.P.keyLits D' t ds = some lb) (hp : la = lb ↔ p) (hr : (!decide p) = c) :
    Runs C fr Γ Φ ⟨some d, .binOp .neq t x y t', ty, pos, aft, g⟩ (.bool c) :=
  Runs.pure fun a w ha hw => by
    subst hr
    obtain ⟨r, hr, hi⟩ := run_equalIn_deep (P := C.P) (10000 - m) m t hk w D D' (.agg cs.toArray) (.agg ds.toArray) la lb fx fy (by simpa [Value.cells] using ka) (by simpa [Value.cells] using kb)
    rw [show 10000 - m + m = 10000 from Nat.sub_add_cancel (Nat.le_of_ble_eq_true hm)] at hr
    have hd : r = decide p := by
      cases r
      · exact (decide_eq_false fun e => by simpa using hi.2 (hp.2 e)).symm
      · exact (decide_eq_true (hp.1 (hi.1 rfl))).symm
    subst hd
    simp only [execOp, evO_sound ha hx, evO_sound ha hy, Sem.run_bind, run_eqGuard_agg w .neq t x y _ _ hg, Result.andThen_ok, run_neq_struct, hr, Sem.run_pure]
/-- two addresses compared. -/
theorem R_eqA {x y : Operand} {t t' e : TypeId} {v0 v1 v2 v3 v4 v5 u0 u1 u2 u3 u4 u5 : Value} {a0 a1 a2 a3 a4 a5 b0 b1 b2 b3 b4 b5 : UInt8} {c : Bool} (hx : evO fr x = some (.agg #[v0, v1, v2, v3, v4, v5])) (hy : evO fr y = some (.agg #[u0, u1, u2, u3, u4, u5]))
    (ht : C.P.underlying t = some (.array 6 e)) (he : C.P.underlying e = some (.int .u8)) (hce : C.P.cellsOf e = 1) (hct : C.P.cellsOf t = 6) (hg : C.P.eqGuardType C.P.depth t = false)
    (p0 : Bc v0 a0) (p1 : Bc v1 a1) (p2 : Bc v2 a2) (p3 : Bc v3 a3) (p4 : Bc v4 a4) (p5 : Bc v5 a5) (q0 : Bc u0 b0) (q1 : Bc u1 b1) (q2 : Bc u2 b2) (q3 : Bc u3 b3) (q4 : Bc u4 b4) (q5 : Bc u5 b5)
    (hr : decide ((⟨a0, a1, a2, a3, a4, a5⟩ : A6) = ⟨b0, b1, b2, b3, b4, b5⟩) = c) : Runs C fr Γ Φ ⟨some d, .binOp .eql t x y t', ty, pos, aft, g⟩ (.bool c) := by
  subst p0; subst p1; subst p2; subst p3; subst p4; subst p5; subst q0; subst q1; subst q2; subst q3; subst q4; subst q5
  have hk : C.P.keyTypeAt 2 t = true := by simp [Program.keyTypeAt, ht, he]
  refine R_eqG (cs := A6.cells ⟨a0, a1, a2, a3, a4, a5⟩) (ds := A6.cells ⟨b0, b1, b2, b3, b4, b5⟩) hx hy hk rfl hg (by simp [Value.formed, ht, hct, A6.cells]) (by simp [Value.formed, ht, hct, A6.cells]) (keyLits_a6 ht he hce hct _) (keyLits_a6 ht he hce hct _) a6_lits_inj hr
theorem R_neA {x y : Operand} {t t' e : TypeId} {v0 v1 v2 v3 v4 v5 u0 u1 u2 u3 u4 u5 : Value} {a0 a1 a2 a3 a4 a5 b0 b1 b2 b3 b4 b5 : UInt8} {c : Bool} (hx : evO fr x = some (.agg #[v0, v1, v2, v3, v4, v5])) (hy : evO fr y = some (.agg #[u0, u1, u2, u3, u4, u5]))
    (ht : C.P.underlying t = some (.array 6 e)) (he : C.P.underlying e = some (.int .u8)) (hce : C.P.cellsOf e = 1) (hct : C.P.cellsOf t = 6) (hg : C.P.eqGuardType C.P.depth t = false)
    (p0 : Bc v0 a0) (p1 : Bc v1 a1) (p2 : Bc v2 a2) (p3 : Bc v3 a3) (p4 : Bc v4 a4) (p5 : Bc v5 a5) (q0 : Bc u0 b0) (q1 : Bc u1 b1) (q2 : Bc u2 b2) (q3 : Bc u3 b3) (q4 : Bc u4 b4) (q5 : Bc u5 b5)
    (hr : (!decide ((⟨a0, a1, a2, a3, a4, a5⟩ : A6) = ⟨b0, b1, b2, b3, b4, b5⟩)) = c) : Runs C fr Γ Φ ⟨some d, .binOp .neq t x y t', ty, pos, aft, g⟩ (.bool c) := by
  subst p0; subst p1; subst p2; subst p3; subst p4; subst p5; subst q0; subst q1; subst q2; subst q3; subst q4; subst q5
  have hk : C.P.keyTypeAt 2 t = true := by simp [Program.keyTypeAt, ht, he]
  refine R_neG (cs := A6.cells ⟨a0, a1, a2, a3, a4, a5⟩) (ds := A6.cells ⟨b0, b1, b2, b3, b4, b5⟩) hx hy hk rfl hg (by simp [Value.formed, ht, hct, A6.cells]) (by simp [Value.formed, ht, hct, A6.cells]) (keyLits_a6 ht he hce hct _) (keyLits_a6 ht he hce hct _) a6_lits_inj hr

/-- the front of what a pointer leads to is loaded. -/
theorem R_loadPT {t : TypeId} {x : Operand} {p : Value} {us us' : List Value} {n : Nat} (hx : evO fr x = some p)
    (hm : Pt p us ∈ Φ) (hagg : ∀ w, (isAgg t).run C.P w = .ok true w) (hs : ∀ w, (sizeOf t).run C.P w = .ok n w) (ht : takeN 0 n us = some us') : Runs C fr Γ Φ ⟨some d, .load t x, ty, pos, aft, g⟩ (.agg us'.toArray) :=
  Runs.pure fun a w ha hw => by
    obtain ⟨ad, hv, _, _, hcell⟩ := hw.sp _ hm
    obtain ⟨h1, h2⟩ := takeN_at ht
    simp [execOp, evO_sound ha hx, hv, Instr.loadAt, Instr.sureAddr, run_loadVar_agg (w := w) (a := ad) (us := us') hagg (fun w => by rw [h1]; exact hs w) (fun j u hu => hcell j u (by have := h2 j u hu; rwa [Nat.zero_add] at this))]
/-- a part of a lasting block is loaded. -/
theorem R_loadPO {t : TypeId} {x : Operand} {b off : Nat} {us : List Value} {v : Value} (hx : evO fr x = some (.pointer (some ⟨b, off, none⟩)))
    (hm : Pt (.pointer (some ⟨b, 0, none⟩)) us ∈ Φ) (hagg : ∀ w, (isAgg t).run C.P w = .ok false w) (hc : us[off]? = some v) : Runs C fr Γ Φ ⟨some d, .load t x, ty, pos, aft, g⟩ v :=
  Runs.pure fun a w ha hw => by
    obtain ⟨ad, hv, _, _, hcell⟩ := hw.sp _ hm
    injection hv with hv
    injection hv with hv
    subst hv
    have h0 := hcell off v hc
    rw [Addr.add_lit, Nat.zero_add] at h0
    simp [execOp, evO_sound ha hx, Instr.loadAt, Instr.sureAddr, run_loadVar_one hagg h0]
theorem R_loadPON {t : TypeId} {x : Operand} {b off n : Nat} {us us' : List Value} (hx : evO fr x = some (.pointer (some ⟨b, off, none⟩)))
    (hm : Pt (.pointer (some ⟨b, 0, none⟩)) us ∈ Φ) (hagg : ∀ w, (isAgg t).run C.P w = .ok true w) (hs : ∀ w, (sizeOf t).run C.P w = .ok n w) (ht : takeN off n us = some us') : Runs C fr Γ Φ ⟨some d, .load t x, ty, pos, aft, g⟩ (.agg us'.toArray) :=
  Runs.pure fun a w ha hw => by
    obtain ⟨ad, hv, _, _, hcell⟩ := hw.sp _ hm
    injection hv with hv
    injection hv with hv
    subst hv
    obtain ⟨h1, h2⟩ := takeN_at ht
    simp [execOp, evO_sound ha hx, Instr.loadAt, Instr.sureAddr, run_loadVar_agg (w := w) (a := ⟨b, off, none⟩) (us := us') hagg (fun w => by rw [h1]; exact hs w) (fun j u hu => by
      have h3 := hcell _ u (h2 j u hu)
      rw [Addr.add_lit, Nat.zero_add] at h3
      rw [Addr.add_lit]
      exact h3)]
/-- a slice of an array, whole: the slice's value. -/
theorem R_sliceArr {t e : TypeId} {x : Operand} {b off n : Nat} (hx : evO fr x = some (.pointer (some ⟨b, off, none⟩))) (ht : C.P.underlying t = some (.array n e))
    (hs : ∀ w, (sizeOf e).run C.P w = .ok 1 w) (hn : Nat.beq n 0 = false) : Runs C fr Γ Φ ⟨some d, .slice t x none none none, ty, pos, aft, g⟩ (.slice (some ⟨b, off, none⟩) n n) :=
  Runs.pure fun a w ha hw => by
    have h0 : ¬ n = 0 := fun e => by rw [e] at hn; cases hn
    simp [execOp, evO_sound ha hx, Instr.sliceAt, Instr.sliceBounds, run_underlying ht, hs, h0, Instr.sureAddr, Addr.add]

end
end Go.Hs

/-
  The rules of the small logic for appending zeros ('append(s, make([]T, k)...)'), and for the capacity of nothing. No program is named here.
-/
namespace Go.Hs
open Go Go.RowKit Go.Lib

section
variable {P : Program} (w : World)
end

section
variable {C : Ctx} {fr : Fr} {Γ Γ' Γ1 : List OA} {Φ : List SP}
  {d : Nat} {ty : TypeId} {pos : String} {aft : Array Edge} {g : Option (Nat × Bool)}
end

section
variable {C : Ctx} {fr : Fr} {Γ Γ' Γ1 : List OA} {Φ : List SP}
  {d : Nat} {ty : TypeId} {pos : String} {aft : Array Edge} {g : Option (Nat × Bool)}
theorem fill_pre {size : Nat} {R : List OA} {w : World} (hw : Holds C (Γ ++ R) Φ w) : ∀ {ps : List (Nat × Value)} {k : Nat} {us done rest : List Value}, SeqE C Γ Φ size k ps us → done.length = k * size → us.length ≤ rest.length →
    Instr.fill (fun i => some (i * size, size)) (done ++ rest).toArray ps = some (done ++ (us ++ rest.drop us.length)).toArray
  | [], k, us, done, rest, h, _, hr => by
    have h : us = [] := h
    subst h
    rfl
  | (i, v) :: r, k, us, done, rest, h, hd, hr => by
    obtain ⟨rfl, u1, u2, rfl, hl, hc, hs⟩ := h
    have hc := hc R w hw
    rw [List.length_append] at hr
    have hlen : i * size + size ≤ (done ++ rest).length := by simp [hd]; omega
    have hf := fold_set u1 0 (i * size) (done ++ rest) (by simpa [hl] using hlen)
    have e1 : (done ++ rest).take (i * size) = done := by rw [← hd]; simp
    have e2 : (done ++ rest).drop (i * size + u1.length) = rest.drop u1.length := by rw [← hd, ← List.drop_drop]; simp
    simp only [Nat.add_zero, e1, e2] at hf
    simp only [Instr.fill, hc]
    rw [if_neg (by simp [hl] at hlen ⊢; omega)]
    have ih := fill_pre hw hs (done := done ++ u1) (rest := rest.drop u1.length) (by simp [hd, hl, Nat.add_mul]) (by rw [List.length_drop]; omega)
    rw [List.length_append, ← List.drop_drop, List.append_assoc u1 u2, ← List.append_assoc done u1, ← ih]
    congr 1
    rw [← Array.foldl_toList]
    simpa using hf
theorem R_buildArr {t e : TypeId} {parts : Array (Nat × Operand)} {pv : List (Nat × Value)} {size n : Nat} {us zs ds : List Value} {z : Value}
    (hpv : evPs fr parts.toList = some pv) (hq : SeqE C Γ Φ size 0 pv us) (hz : ∀ w, (zeroValue t).run C.P w = .ok z w) (hzs : listO z.cells.toList = some zs) (ht : C.P.underlying t = some (.array n e))
    (hs : ∀ w, (sizeOf e).run C.P w = .ok size w) (hl : Nat.ble us.length zs.length = true) (hds : us ++ zs.drop us.length = ds) :
    Runs C fr Γ Φ ⟨some d, .build t parts, ty, pos, aft, g⟩ (.agg ds.toArray) :=
  Runs.pure fun a w ha hw => by
    subst hds
    have h1 := fill_pre (R := []) (by simpa using hw) hq (done := []) (rest := zs) (by simp) (Nat.le_of_ble_eq_true hl)
    simp only [List.nil_append] at h1
    have e1 : z.cells = zs.toArray := by rw [← listO_eq hzs]
    simp only [execOp, evPs_sound ha hpv, Instr.build, Sem.run_bind, hz, Result.andThen_ok, run_underlying ht, hs, e1, h1, Sem.run_pure]
end
end Go.Hs

/-
  Rules for walks: things lent side by side; bits of numbers. No program is named here.
-/
namespace Go.Hs
open Go Go.RowKit
theorem Bor.app {Γ1 Γ2 : List OA} {Φ Φ1 Φ2 : List SP} (h1 : Bor Γ1 Φ Φ1) (h2 : Bor Γ2 Φ Φ2) : Bor (Γ1 ++ Γ2) Φ (Φ1 ++ Φ2) := fun w O ho hd hΦ ψ hψ => by
  obtain ⟨o1, o2, _⟩ := Own.append.1 ho
  rcases List.mem_append.1 hψ with h | h
  · exact h1 w O o1 (fun k hk => hd k (fpL_append.2 (.inl hk))) hΦ ψ h
  · exact h2 w O o2 (fun k hk => hd k (fpL_append.2 (.inr hk))) hΦ ψ h
theorem nat_andP (a i : Nat) : a &&& 2 ^ i = a / 2 ^ i % 2 * 2 ^ i := by
  rw [← Nat.toNat_testBit]
  apply Nat.eq_of_testBit_eq
  intro j
  rw [Nat.testBit_and, Nat.testBit_two_pow]
  by_cases e : i = j
  · subst e
    cases h : a.testBit i
    · simp
    · simp [Nat.testBit_two_pow]
  · rw [decide_eq_false e, Bool.and_false]
    cases h : a.testBit i
    · simp
    · simp [Nat.testBit_two_pow, e]
theorem i64_andN (a b : Nat) (ha : a < 4611686018427387904) (hb : b < 4611686018427387904) : bits .and .i64 (a : Int) (b : Int) = ((a &&& b : Nat) : Int) := by
  have hx : a &&& b ≤ a := Nat.and_le_left
  show IntKind.i64.wrap ((BitVec.ofInt 64 (a : Int) &&& BitVec.ofInt 64 (b : Int)).toNat : Int) = _
  rw [BitVec.toNat_and, BitVec.ofInt_natCast, BitVec.ofInt_natCast, BitVec.toNat_ofNat, BitVec.toNat_ofNat, Nat.mod_eq_of_lt (by omega), Nat.mod_eq_of_lt (by omega)]
  exact wx_i64 (by omega)
theorem i64_andPw (a i : Nat) (ha : a < 4611686018427387904) (hi : i < 16) : bits .and .i64 (a : Int) ((2 ^ i : Nat) : Int) = ((a / 2 ^ i % 2 * 2 ^ i : Nat) : Int) := by
  have hp : 2 ^ i ≤ 2 ^ 16 := Nat.pow_le_pow_right (by decide) (by omega)
  have h16 : (2 : Nat) ^ 16 = 65536 := by decide
  rw [i64_andN _ _ ha (by omega), nat_andP]
theorem i64_shrK (v k : Nat) (hk : k ≤ 64) : (v : Int).fdiv (2 ^ (min ((k : Int)).toNat IntKind.i64.bits)) = ((v / 2 ^ k : Nat) : Int) := by
  have e2 : min ((k : Int)).toNat IntKind.i64.bits = k := by
    rw [Int.toNat_natCast]
    exact Nat.min_eq_left hk
  rw [e2, Int.fdiv_eq_ediv_of_nonneg _ (by exact Int.le_of_lt (Int.pow_pos (by decide)))]
  rw [Int.natCast_ediv, Int.natCast_pow]
  rfl
theorem i64_low7 (v : Nat) : bits .and .i64 (v : Int) 7 = ((v % 8 : Nat) : Int) := by rw [i64_and7]; omega
end Go.Hs

/-
  Bytes copied into a part of an own block.
-/
namespace Go.Hs
open Go Go.RowKit
section
variable {C : Ctx} {fr : Fr} {Γ Γ' : List OA} {Φ : List SP} {d : Tmp} {ty : TypeId} {pos : String} {aft : Array Edge} {g : Option (Nat × Bool)}
theorem E_copyBlk {t t' e bt : TypeId} {x y : Operand} {u : Value} {b o n : Nat} {bs : List UInt8} {cs ds : List Value} (hx : evO fr x = some (.slice (some ⟨b, o, none⟩) n n)) (hy : evO fr y = some u) (hp : Pick (.blk b bt cs) Γ Γ') (hm : By u bs ∈ Φ)
    (ht : C.P.underlying t = some (.slice e)) (hs : (C.P.info? e).map (·.size) = some 1) (hn : bs.length = n) (h0 : 0 < n) (hf : o + n ≤ cs.length) (hu : cs.take o ++ bs.map bcell ++ cs.drop (o + n) = ds) :
    Effs C fr Γ Φ ⟨some d, .call { callee := .builtin .copy, args := #[x, y], argTypes := #[t, t'] }, ty, pos, aft, g⟩ (X := Unit) (fun _ => True) (fun _ => .int .i64 (bs.length : Int)) (fun _ => .blk b bt ds :: Γ') (fun _ => Φ) := by
  subst hu
  refine ⟨fun _ => AllIn.refl _, fun R a w ha hw => ?_⟩
  have hw' := pick_holds (pick_app hp R) hw
  obtain ⟨hl, B, c', hu', _, _, hr⟩ := hw'.sp _ hm
  obtain ⟨ad, rfl, _, _, hcell⟩ := hr (by omega)
  subst hu'
  have hb : w.heap[b]? = some (.cells cs.toArray bt (0, 0)) := hw'.own.1
  have hrun := run_copy_row (P := C.P) w t t' ty e b o n n ad bs.length c' cs.toArray bt (bs.map bcell) ht hs hb (by rw [List.length_map]; exact (Nat.min_eq_left (Nat.le_of_eq hn)).symm) hcell (by rw [List.length_map, hn]; exact hf) (bcells_one _)
  refine .val (v := .int .i64 (bs.length : Int)) (w' := _) ?_ ⟨(), trivial, rfl, setRow_holds (ds := cs.take o ++ bs.map bcell ++ cs.drop (o + n)) hw'⟩
  have e2 : (bs.map bcell).length = n := by rw [List.length_map, hn]
  rw [e2] at hrun
  simp only [execOp, resolve, invoke, builtin, Sem.run_bind, Sem.run_pure, Result.andThen_ok, List.map_toArray, List.map_cons, List.map_nil, evO_sound ha hx, evO_sound ha hy, hrun]
  simp only [Result.andThen_ok, goInt, hn]
end
end Go.Hs

/-
  Contracts of the functions of layer 1 that read and set bits.
-/
namespace Go.Proofs.Ytoohgnegoaoleaa.C01
open Go Go.RowKit Go.Hs
attribute [local irreducible] WL W WQ PL Runs Effs AllE Ent SubO FrIn Pick OneC Ones CellsE PartsE SeqE UZ By Sl Pt Ct

def inB (a n : Int) : Prop := 0 ≤ a ∧ a ≤ 64 ∧ 1 ≤ n ∧ n ≤ 64 - a
instance (a n : Int) : Decidable (inB a n) := by unfold inB; infer_instance

end Go.Proofs.Ytoohgnegoaoleaa.C01

/-
  Contracts of the functions of layer 1 that write numbers and texts.
-/
namespace Go.Proofs.Ytoohgnegoaoleaa.C01
open Go Go.RowKit Go.Hs
attribute [local irreducible] WL W WQ PL Runs Effs AllE Ent SubO FrIn Pick OneC Ones CellsE PartsE SeqE UZ By Sl Pt Ct

/-- the n lowest bytes of a number, the lowest first. -/
def leB (n v : Nat) : List UInt8 := (List.range n).map fun i => UInt8.ofNat (v / 256 ^ i)
theorem leB_length (n v : Nat) : (leB n v).length = n := by simp [leB]
end Go.Proofs.Ytoohgnegoaoleaa.C01

/-
  Parts of arrays in own blocks: slices of them, elements of such slices, appends onto them. No program is named here.
-/
namespace Go.Hs
open Go Go.RowKit
section
variable {C : Ctx} {fr : Fr} {Γ Γ' : List OA} {Φ : List SP} {d : Tmp} {ty : TypeId} {pos : String} {aft : Array Edge} {g : Option (Nat × Bool)}

end
end Go.Hs

/-
  The law 'ElementBack' walked.
-/
namespace Go.Proofs.Ytoohgnegoaoleaa.C04
open Go Go.RowKit Go.Hs
attribute [local irreducible] WL W WQ PL Runs Effs AllE Ent SubO FrIn Pick OneC Ones CellsE PartsE SeqE UZ By Sl Pt Ct

end Go.Proofs.Ytoohgnegoaoleaa.C04

/-
  The law 'ElementJoins' walked.
-/
namespace Go.Proofs.Ytoohgnegoaoleaa.C04
open Go Go.RowKit Go.Hs
attribute [local irreducible] WL W WQ PL Runs Effs AllE Ent SubO FrIn Pick OneC Ones CellsE PartsE SeqE UZ By Sl Pt Ct

end Go.Proofs.Ytoohgnegoaoleaa.C04

/-
  Contracts of the functions of layer 1 that write numbers and texts: the reference's, and texts.
-/
namespace Go.Proofs.Ytoohgnegoaoleaa.C01
open Go Go.RowKit Go.Hs
attribute [local irreducible] WL W WQ PL Runs Effs AllE Ent SubO FrIn Pick OneC Ones CellsE PartsE SeqE UZ By Sl Pt Ct

end Go.Proofs.Ytoohgnegoaoleaa.C01

/-
  Contracts of the readers of texts of layer 1; the law 'OctetReads' walked.
-/
namespace Go.Proofs.Ytoohgnegoaoleaa.C01
open Go Go.RowKit Go.Hs
attribute [local irreducible] WL W WQ PL Runs Effs AllE Ent SubO FrIn Pick OneC Ones CellsE PartsE SeqE UZ By Sl Pt Ct

def txN (xs : List UInt8) (a : Int) : Int := (leN (tkB xs a 1) : Int)
def txE (xs : List UInt8) (a : Int) : Int := if tkE xs.length a 1 = 0 then tkE xs.length (a + 1) (txN xs a) else tkE xs.length a 1
def txB (xs : List UInt8) (a : Int) : List UInt8 := if tkE xs.length a 1 = 0 then tkB xs (a + 1) (txN xs a) else []
def txD (xs : List UInt8) (a : Int) : List UInt8 := if tkE xs.length a 1 = 0 then tkD xs (a + 1) (txN xs a) else []
def txA (xs : List UInt8) (a : Int) : Int := if tkE xs.length a 1 = 0 then tkA xs.length (a + 1) (txN xs a) else 0

end Go.Proofs.Ytoohgnegoaoleaa.C01

/-
  Contracts of octet.Bits, octet.SetBits and of the reference's.
-/
namespace Go.Proofs.Ytoohgnegoaoleaa.C01
open Go Go.RowKit Go.Hs
attribute [local irreducible] WL W WQ PL Runs Effs AllE Ent SubO FrIn Pick OneC Ones CellsE PartsE SeqE UZ By Sl Pt Ct

def biE (a n : Int) : Int := if inB a n then 0 else 2
def biV (v : Nat) (a n : Int) : Nat := if inB a n then v / 2 ^ a.toNat % 2 ^ n.toNat else 0
def seE (a n : Int) (x : Nat) : Int := if inB a n then (if x < 2 ^ n.toNat then 0 else 11) else 2
def seV (v : Nat) (a n : Int) (x : Nat) : Nat := if inB a n then (if x < 2 ^ n.toNat then v - v / 2 ^ a.toNat % 2 ^ n.toNat * 2 ^ a.toNat + x * 2 ^ a.toNat else 0) else 0

end Go.Proofs.Ytoohgnegoaoleaa.C01

/-
  Contracts of layer 1: PutText, Join, the chapter's examples.
-/
namespace Go.Proofs.Ytoohgnegoaoleaa.C01
open Go Go.RowKit Go.Hs
attribute [local irreducible] WL W WQ PL Runs Effs AllE Ent SubO FrIn Pick OneC Ones CellsE PartsE SeqE UZ By Sl Pt Ct

def ptE (s : List UInt8) : Int := if s.length ≤ 255 then 0 else 11
def ptB (xs s : List UInt8) : List UInt8 := if s.length ≤ 255 then xs ++ leB 1 s.length ++ s else []

/-- fields joined. -/
def jn (fs : List (List UInt8)) : List UInt8 := fs.flatMap fun f => leB 2 f.length ++ f
def jnE (fs : List (List UInt8)) : Int := if 256 < fs.length then 4 else if ∀ f ∈ fs, f.length ≤ 65535 then 0 else 11
def jnB (fs : List (List UInt8)) : List UInt8 := if jnE fs = 0 then jn fs else []

end Go.Proofs.Ytoohgnegoaoleaa.C01

/-
  The law 'OctetReads' walked.
-/
namespace Go.Proofs.Ytoohgnegoaoleaa.C01
open Go Go.RowKit Go.Hs
attribute [local irreducible] WL W WQ PL Runs Effs AllE Ent SubO FrIn Pick OneC Ones CellsE PartsE SeqE UZ By Sl Pt Ct

end Go.Proofs.Ytoohgnegoaoleaa.C01

/-
  The chapter's examples; the laws 'OctetParts' and 'OctetPrefix' walked.
-/
namespace Go.Proofs.Ytoohgnegoaoleaa.C01
open Go Go.RowKit Go.Hs
attribute [local irreducible] WL W WQ PL Runs Effs AllE Ent SubO FrIn Pick OneC Ones CellsE PartsE SeqE UZ By Sl Pt Ct

end Go.Proofs.Ytoohgnegoaoleaa.C01

/-
  The laws 'OctetParts' and 'OctetPrefix' walked.
-/
namespace Go.Proofs.Ytoohgnegoaoleaa.C01
open Go Go.RowKit Go.Hs
attribute [local irreducible] WL W WQ PL Runs Effs AllE Ent SubO FrIn Pick OneC Ones CellsE PartsE SeqE UZ By Sl Pt Ct

def putW (v k m x : Nat) : Nat := v - v / 2 ^ k % 2 ^ m * 2 ^ k + x * 2 ^ k
end Go.Proofs.Ytoohgnegoaoleaa.C01

/-
  The law 'OctetBack' walked.
-/
namespace Go.Proofs.Ytoohgnegoaoleaa.C01
open Go Go.RowKit Go.Hs
attribute [local irreducible] WL W WQ PL Runs Effs AllE Ent SubO FrIn Pick OneC Ones CellsE PartsE SeqE UZ By Sl Pt Ct

section
variable (kd : Nat → UInt8) (nn : Nat → Nat) (tx : Nat → List UInt8)
def encV (i : Nat) : List UInt8 :=
  if kd i = 0 then leB 1 (nn i % 256) else if kd i = 1 then leB 2 (nn i % 65536) else if kd i = 2 then leB 4 (nn i % 4294967296) else if kd i = 3 then leB 8 (nn i) else leB 1 (tx i).length ++ tx i
def outV : Nat → List UInt8
  | 0 => []
  | k + 1 => outV k ++ encV kd nn tx k
def okV (k : Nat) : Prop := ∀ i, i < k → kd i = 0 ∨ kd i = 1 ∨ kd i = 2 ∨ kd i = 3 ∨ (tx i).length ≤ 255
theorem enc_len (i : Nat) (h : kd i = 0 ∨ kd i = 1 ∨ kd i = 2 ∨ kd i = 3 ∨ (tx i).length ≤ 255) : (encV kd nn tx i).length ≤ 256 := by
  unfold encV
  split
  · rw [leB_length]; omega
  · split
    · rw [leB_length]; omega
    · split
      · rw [leB_length]; omega
      · split
        · rw [leB_length]; omega
        · rw [List.length_append, leB_length]
          rcases h with h | h | h | h | h
          · contradiction
          · contradiction
          · contradiction
          · contradiction
          · omega
end
end Go.Proofs.Ytoohgnegoaoleaa.C01

/-
  From a contract to what a row asks: what was there before the call has not turned. No program is named here.
-/
namespace Go.Hs
open Go Go.RowKit Go.ChangeShapes Go.WideShapes Go.ChangeAt

theorem CtD.below {P : Program} {f : FuncId} {args : List Value} {Φ : List SP} {v : Value} {w : World} (h : CtD P f args Φ v) (hp : ∀ ψ ∈ Φ, ψ.p w (fun _ => False)) :
    Calls P f args.toArray w fun e w' => e = .returned v ∧ Below w.heap.size w w' := by
  have ha : avo (fun _ => False) [] = fun _ => False := by
    funext k
    apply propext
    constructor
    · rintro (h | ⟨x, hx, _⟩)
      · exact h
      · cases hx
    · exact False.elim
  refine (h w (fun _ => False) (fun k hk => hk.elim) trivial (fun ψ hψ => by rw [ha]; exact hp ψ hψ)).mono fun e w' ⟨_, _, he, hm, _⟩ => ?_
  refine ⟨he, hm.os, hm.tape, hm.output, hm.size, fun k hk => hm.block k hk ?_⟩
  rintro ⟨x, hx, _⟩
  cases hx

theorem trodAll_stays {H : Type} {enc : TypeId × Value → H} {P : Program} (hl : laidOutB P = true) {W W' : World} (hb : Below W.heap.size W W') :
    ∀ {ts : List TypeId} {vs : List Value} {ds : List (DataW H)} {ps : List MemPlace}, ts.all (fun t => P.readableRec t && decide (t < P.types.size)) = true →
      DataW.TrodAll enc P W 0 (fun _ => true) true ts vs ds ps → DataW.TrodAll enc P W' 0 (fun b => decide (b < W.heap.size)) true ts vs ds ps
  | [], vs, ds, ps, _, h => by
    cases vs <;> cases ds <;> simp [DataW.TrodAll] at h ⊢
    exact h
  | t :: ts, vs, ds, ps, ha, h => by
    obtain ⟨v, vs', d, ds', p, q, rfl, rfl, rfl, h1, h2⟩ := trodAll_cons h
    simp only [List.all_cons, Bool.and_eq_true, decide_eq_true_eq] at ha
    obtain ⟨⟨ha, hs⟩, hr⟩ := ha
    refine trodAll_cons_mk (Below.trod hl ha hs h1 hb ?_) (trodAll_stays hl hb hr h2)
    obtain ⟨m, hm⟩ := h1
    exact DataW.trod_lt m _ _ _ hm

theorem trodAll_length {H : Type} {enc : TypeId × Value → H} {P : Program} {W : World} {b : Nat} {sp : Nat → Bool} {hd : Bool} :
    ∀ {ts : List TypeId} {vs : List Value} {ds : List (DataW H)} {ps : List MemPlace}, DataW.TrodAll enc P W b sp hd ts vs ds ps → ds.length = ts.length
  | [], vs, ds, ps, h => by cases vs <;> cases ds <;> simp [DataW.TrodAll] at h ⊢
  | t :: ts, vs, ds, ps, h => by
    obtain ⟨v, vs', d, ds', p, q, rfl, rfl, rfl, h1, h2⟩ := trodAll_cons h
    simp [trodAll_length h2]

theorem law_lift {H : Type} {enc : TypeId × Value → H} {C : Checked} {os : Os} {f : FuncId} {fn : Func} {s : ChangeSpec} {conds : List PathCond} {tb : TypeId}
    (own : ownKnob C.prog.godebug = none) (started : os.Started) (noInit : C.prog.inits.idxOf? f = none) (hfn : C.prog.funcs[f]? = some fn)
    (witness : ∃ (w : World) (tape : Tape) (i : Input), w.os = os ∧ (w.forCall tape i).Shaped C.prog ∧ i.vars = [] ∧ Input.okWide C.prog (w.forCall tape i) .any w.heap.size f i ∧
      s.pre6 enc C.prog fn conds false (w.forCall tape i).memory i.args ∧ ({} : Assume).holds C.prog (lone (Frame.enter C.prog f i.args .normal) [] (w.forCall tape i)))
    (hl : laidOutB C.prog = true) (hp : fn.params.toList.all (fun t => C.prog.readableRec t && decide (t < C.prog.types.size)) = true) (hv : s.vars = [])
    (hr : fn.resultTypes = #[tb]) (htb : C.prog.underlying tb = some .bool)
    (hs : ∀ (ds : List (DataW H)), ds.length = fn.params.toList.length → s.fn H ds = { results := [.lit (.bool true)], args := ds })
    (walk : ∀ (W : World) (base : Nat) (args : Array Value) (ds : List (DataW H)) (p : List MemPlace),
      (∀ (j : Nat) t v, fn.params[j]? = some t → args[j]? = some v → Value.okWide C.prog W .any base t v) →
      DataW.TrodAll enc C.prog W 0 (fun _ => true) true fn.params.toList args.toList ds p →
      (DataW.weightsEach C.prog fn.params.toList ds).all (· ≤ reachBytes) = true →
      Calls C.prog f args W fun e W' => e = .returned (.bool true) ∧ Below W.heap.size W W') :
    ReturnsInHanded {} C os f .any (s.pre6 enc C.prog fn conds false) (s.post enc C.prog fn false true false false) := by
  refine returnsInHanded_of_change_sized own started noInit hfn witness ?_
  intro W base args ds gs before hval hW _ hz _
  have hW' := hW
  obtain ⟨p, q, hA, hV, rfl, hfz, hnd⟩ := hW
  rw [hv] at hV
  obtain ⟨rfl, rfl⟩ := trodVars_none hV
  have hz' : (DataW.weightsEach C.prog fn.params.toList ds).all (· ≤ reachBytes) = true := by
    have e : s.plain.varTypes C.prog = [] := by simp [ChangeSpec.plain, DataSpec.varTypes, hv]
    rw [e, List.append_nil, List.append_nil] at hz
    exact hz
  refine (walk W base args ds p hval hA hz').mono fun e W' ⟨he, bel⟩ => ?_
  subst he
  have hf := hs ds (trodAll_length hA)
  refine ⟨_, rfl, ds, [], _, [], p, [], hW', ?_, ?_, ?_, bel.frame _, fun h => by cases h⟩
  · rw [List.append_nil, hf, hr]
    exact trodAll_mk1 (shut_bool htb _)
  · rw [List.append_nil, hf]
    exact trodAll_stays hl bel hp hA
  · rw [List.append_nil, hf, hv]
    rfl

theorem wf_u8 {n : Int} (h : (Lit.int .u8 n).wf = true) : ∃ k : UInt8, n = (k.toNat : Int) := by
  simp [Lit.wf, IntKind.min, IntKind.max, IntKind.signed, IntKind.bits] at h
  exact ⟨UInt8.ofNat n.toNat, by simp; omega⟩

-- ===== what an argument is, read off its reading =====

section
variable {H : Type} {enc : TypeId × Value → H} {P : Program} {w : World} {held : Bool}

theorem cell_block {w : World} {a : Addr} {v : Value} (h : w.cell? a = some v) : a.block < w.heap.size := by
  rcases Nat.lt_or_ge a.block w.heap.size with h1 | h1
  · exact h1
  · simp [World.cell?, Array.getElem?_eq_none h1] at h

theorem op_bytes {t e : TypeId} {fuel : Nat} {cs : List Value} {x : DataW H × List MemPlace} (ht : P.underlying t = some (.slice e)) (he : P.underlying e = some (.int .u8)) (hc : P.cellsOf e = 1)
    (h : DataW.trod enc P w 0 (fun _ => true) held fuel t cs = some x) : ∃ v bs, cs = [v] ∧ (By v bs).p w (fun _ => False) ∧ bs.length ≤ maxLen := by
  rcases open_ints ht he hc h with ⟨rfl, _⟩ | ⟨a, len, cap, zs, rfl, _, hl, hm, hz, _, hcell, hwz⟩
  · exact ⟨_, [], rfl, ⟨rfl, none, 0, rfl, Nat.le_refl _, by simp [maxLen], fun h => absurd h (by simp)⟩, by simp⟩
  · simp only [if_true] at hz
    have hlen : ((zs.take len).map fun z => UInt8.ofNat z.toNat).length = len := by simp; omega
    refine ⟨_, (zs.take len).map fun z => UInt8.ofNat z.toNat, rfl, ⟨by simp, some a, cap, by rw [hlen], by rw [hlen]; exact hl, hm, fun hn => ⟨a, rfl, ?_, fun h => h, fun j u hu => ?_⟩⟩, by rw [hlen]; omega⟩
    · rw [hlen] at hn
      have := cell_block (hcell 0 (by omega))
      rwa [block_add] at this
    · rw [List.map_map, List.getElem?_map] at hu
      cases hz2 : (zs.take len)[j]? with
      | none => rw [hz2] at hu; cases hu
      | some z =>
        rw [hz2] at hu
        simp only [Option.map_some, Option.some.injEq] at hu
        subst hu
        have hj : j < len := by
          have := (List.getElem?_eq_some_iff.1 hz2).1
          simp at this
          omega
        have hzj : zs[j]? = some z := by rwa [List.getElem?_take_of_lt hj] at hz2
        rw [hcell j (by omega), List.getD, hzj]
        obtain ⟨k, rfl⟩ := wf_u8 (hwz z (List.mem_of_getElem? hzj))
        simp [bcell]

theorem open_bytes {t e : TypeId} {r : Reach} {base : Nat} {v : Value} {d : DataW H} {ps : List MemPlace} (ht : P.underlying t = some (.slice e)) (he : P.underlying e = some (.int .u8)) (hc : P.cellsOf e = 1)
    (hval : Value.okWide P w r base t v) (h : DataW.Trod enc P w 0 (fun _ => true) held t v d ps) : ∃ bs, (By v bs).p w (fun _ => False) ∧ bs.length ≤ maxLen := by
  obtain ⟨a, len, cap, rfl⟩ := okWide_slice ht hval
  obtain ⟨fuel, hf⟩ := h
  obtain ⟨v, bs, e0, hb, hl⟩ := op_bytes ht he hc hf
  have e0 : [Value.slice a len cap] = [v] := e0
  injection e0 with e0
  subst e0
  exact ⟨bs, hb, hl⟩

end
end Go.Hs

/-
  Arguments that are slices of things: what is read off their reading. No program is named here.
-/
namespace Go.Hs
open Go Go.RowKit Go.ChangeShapes Go.WideShapes Go.ChangeAt

section
variable {H : Type} {enc : TypeId × Value → H} {P : Program} {w : World} {held : Bool}

end
end Go.Hs

/-
  Arguments that are slices of things, with the measure of their reading. No program is named here.
-/
namespace Go.Hs
open Go Go.RowKit Go.ChangeShapes Go.WideShapes Go.ChangeAt

section
variable {H : Type} {enc : TypeId × Value → H} {P : Program} {w : World} {held : Bool}

end
end Go.Hs

/-
  A list of elements that is handed in: what is read off its reading.
-/
namespace Go.Proofs.Ytoohgnegoaoleaa.C04
open Go Go.RowKit Go.Hs Go.ChangeShapes Go.WideShapes Go.ChangeAt

end Go.Proofs.Ytoohgnegoaoleaa.C04

/-
  Openings of arguments that are arrays of bytes. No program is named here.
-/
namespace Go.Hs
open Go Go.RowKit

section
variable {H : Type} {enc : TypeId × Value → H} {P : Program} {w : World} {held : Bool}
end
end Go.Hs

/-
  Rules for walks: an operation with a settled value, taken as an effect.
-/
namespace Go.Hs
open Go Go.RowKit
theorem SubO.self : ∀ Γ : List OA, SubO Γ Γ
  | [] => SubO.nil _
  | _ :: Γ => SubO.cons (Pick.head _ _) (SubO.self Γ)
theorem Effs.runs {C : Ctx} {fr : Fr} {Γ : List OA} {Φ : List SP} {o : Oper} {v : Value} (h : Runs C fr Γ Φ o v) : Effs C fr Γ Φ o (X := Unit) (fun _ => True) (fun _ => v) (fun _ => Γ) (fun _ => Φ) := by
  refine ⟨fun _ ψ hψ => hψ, fun R a w ha hw => ?_⟩
  refine (h a w ha (sub_holds hw (SubO.self Γ) (fun _ h => h))).mono fun v' w' ⟨e, m⟩ => ⟨(), trivial, e, hw.ext m⟩
end Go.Hs
