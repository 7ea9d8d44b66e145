/-
  Contracts of octet.Split: the iterator over the fields of a byte string.
-/
import Derived.Test.YtlbihmfpgpfboaaOl
import Derived.Test.YtlbihmfpgpfboaaLz
namespace Go.Proofs.Ytlbihmfpgpfboaa
open Go Go.RowKit Go.Hs
attribute [local irreducible] WL W WQ PL Runs Effs AllE Ent SubO FrIn Pick OneC Ones CellsE PartsE SeqE UZ By Sl Pt Ct

def fldLen (xs : List UInt8) (p : Nat) : Nat := (xs.getD p 0).toNat + (xs.getD (p + 1) 0).toNat * 256
def fldOk (xs : List UInt8) (p : Nat) : Prop := p + 2 ≤ xs.length ∧ p + 2 + fldLen xs p ≤ xs.length
def piece (xs : List UInt8) (p : Nat) : List UInt8 := (xs.drop (p + 2)).take (fldLen xs p)
theorem piece_length {xs : List UInt8} {p : Nat} (h : fldOk xs p) : (piece xs p).length = fldLen xs p := by
  rw [piece, List.length_take, List.length_drop]
  have := h.2
  omega

set_option maxRecDepth 100000 in
theorem fields_fn (dv : Value) (xs : List UInt8) (eb : Nat) : Ct Try.prog 52 [dv, .pointer (some ⟨eb, 0, none⟩)] [] [By dv xs]
    (X := Nat × Nat) (fun _ => True) (fun x => .func (.func 57) #[] #[.pointer (some ⟨x.1, 0, none⟩), .pointer (some ⟨x.2, 0, none⟩)])
    (fun x => [.blk x.1 31 [dv], .blk x.2 95 [.pointer (some ⟨eb, 0, none⟩)]]) (fun _ => []) := by
  refine Ct_intro Try.func52 rfl Try.ntmps52 (by simp) _ rfl (fun w0 O0 => ?_)
  refine W_seq (W_region ?_)
  refine WL_effs rfl rfl rfl (E_box rfl (CellsE.one (OneC.by_ (by (focus (repeat' (first | exact mcs | apply mct))))))) ?_
  intro b1 _
  refine WL_effs rfl rfl rfl (E_box rfl (CellsE.lit rfl)) ?_
  intro b2 _
  repeat (first | refine n1 ?_ | refine n2 (fun b _ => ?_) | refine n3 (fun _ _ => ?_) | refine n4 ?_ | refine n5 ?_ | refine WL_nil ?_ | refine W_seq ?_ | refine W_region ?_ | refine n7 ?_ | refine n8 ?_ | refine W_block ?_ | refine W_skip ?_ | refine W_ret ?_ | refine W_exit ?_ | refine WQ_then ?_ | refine WQ_then_ret ?_ | refine WQ_then_exit ?_ | refine WQ_block_normal ?_ | refine WQ_block_ret ?_ | refine WQ_block_exit ?_ | refine n9 ?_)
  refine WL_runs rfl rfl rfl (R_makeFunc rfl) ?_
  repeat (first | refine n1 ?_ | refine n2 (fun b _ => ?_) | refine n3 (fun _ _ => ?_) | refine n4 ?_ | refine n5 ?_ | refine WL_nil ?_ | refine W_seq ?_ | refine W_region ?_ | refine n7 ?_ | refine n8 ?_ | refine W_block ?_ | refine W_skip ?_ | refine W_ret ?_ | refine W_exit ?_ | refine WQ_then ?_ | refine WQ_then_ret ?_ | refine WQ_then_exit ?_ | refine WQ_block_normal ?_ | refine WQ_block_ret ?_ | refine WQ_block_exit ?_ | refine n9 ?_)
  ((apply ret1 Try.results52 ( (b1, b2))); (focus (first | trivial | assumption | omega)); (focus (first | exact RV_tmp rfl | (apply RV_cellN; exact rfl; (repeat' (first | exact Pick.head _ _ | apply Pick.tail)); (intro _; exact rfl); (intro _; exact rfl); exact rfl) | (apply RV_cell1; exact rfl; (repeat' (first | exact Pick.head _ _ | apply Pick.tail)); (intro _; exact rfl); exact rfl)));  (focus (first | exact rfl | (simp; done))); (focus (repeat (first | exact SubO.nil _ | (apply SubO.cons; (focus (repeat' (first | exact Pick.head _ _ | apply Pick.tail))))))); (focus (repeat (first | exact AllE.nil _ | (apply AllE.cons; (focus (first | exact ent_nilBy | exact ent_nilSl | (apply Ent.mem; repeat' (first | exact mcs | apply mct)))))))))

theorem getD_drop (xs : List UInt8) (p i : Nat) : (xs.drop p).getD i 0 = xs.getD (p + i) 0 := by
  rw [List.getD_eq_getElem?_getD, List.getD_eq_getElem?_getD, List.getElem?_drop]
theorem shl8I (a : Nat) (h : a ≤ 255) : IntKind.i64.wrap ((a : Int) * 2 ^ (min (8 : Int).toNat IntKind.i64.bits)) = ((a * 256 : Nat) : Int) := by
  rw [show ((2 : Int) ^ (min (8 : Int).toNat IntKind.i64.bits)) = 256 from rfl]
  rw [wx_i64 (by omega)]
  omega
theorem u8le (c : UInt8) : c.toNat ≤ 255 := by have := c.toNat_lt; omega

set_option maxRecDepth 100000 in
set_option maxHeartbeats 4000000 in
theorem iter_fn {α : Type} (l b1 b2 eb : Nat) (dv : Value) (xs : List UInt8) (hx : xs.length ≤ 1000000000) (YO : α → OA) (YS : α → SP) (e : α → Option Code) (inv : Nat → α → Prop) (y0 : α) (h0 : inv 0 y0) (he0 : e y0 = none)
    (step : α → Value × Nat → α → Prop) (pre : α → Value × Nat → Prop) (hpre : ∀ p y v, inv p y → fldOk xs p → pre y (v, p))
    (hstep : ∀ p y v y', inv p y → fldOk xs p → step y (v, p) y' → e y' = none → inv (p + 2 + fldLen xs p) y')
    (hY : ∀ y b, pre y b → Yc Try.prog l [b.1] [YO y] ([By b.1 (piece xs b.2)] ++ [YS y]) (X := α) (step y b) (fun y' => .bool (e y').isNone) (fun y' => [YO y']) (fun y' => [YS y'])) :
    Ct Try.prog 57 [.func (.yield l) #[] #[], .pointer (some ⟨b1, 0, none⟩), .pointer (some ⟨b2, 0, none⟩)]
      [.blk b1 31 [dv], .blk b2 95 [.pointer (some ⟨eb, 0, none⟩)], .blk eb 23 [.int .i64 0], YO y0] [By dv xs, YS y0]
      (X := α × Int) (fun x => (∃ p y v, inv p y ∧ fldOk xs p ∧ step y (v, p) x.1 ∧ ¬ e x.1 = none) ∨ (e x.1 = none ∧ ∃ p, inv p x.1 ∧ ((x.2 = 0 ∧ p = xs.length) ∨ (x.2 = 10 ∧ p < xs.length ∧ ¬ fldOk xs p))))
      (fun _ => .tuple #[]) (fun x => [YO x.1, .blk eb 23 [.int .i64 x.2]]) (fun x => [YS x.1]) := by
  refine Ct_intro Try.func57 rfl Try.ntmps57 (by simp) _ rfl (fun w0 O0 => ?_)
  refine W_block ?_
  ((apply W_loopK (X := Nat × Value × α) [] [0, 3] (fun x => x.1 ≤ xs.length ∧ inv x.1 x.2.2 ∧ e x.2.2 = none) (fun _ => []) (fun x => [.blk b1 31 [x.2.1], YO x.2.2]) (fun x => [By x.2.1 (xs.drop x.1), YS x.2.2]) (fun x => xs.length - x.1) ((0, dv, y0))); (focus exact ⟨Nat.zero_le _, h0, he0⟩); exact rfl; exact rfl; (intro _; exact rfl); (intro _; exact rfl); (intro _; exact rfl); (focus (repeat (first | exact FrIn.nil _ | (apply FrIn.cons; exact rfl; (first | exact rfl | (congr 1; omega) | (simp; done)))))); (focus (repeat (first | exact SubO.nil _ | (apply SubO.cons; (focus (repeat' (first | exact Pick.head _ _ | apply Pick.tail))))))); (focus (repeat (first | exact AllE.nil _ | (apply AllE.cons; (focus (first | exact ent_nilBy | exact ent_nilSl | (apply Ent.mem; repeat' (first | exact mcs | apply mct)))))))); intro x hx)
  obtain ⟨p, v, y⟩ := x
  obtain ⟨hp, hi, he⟩ := hx
  replace hp : p ≤ xs.length := hp
  replace hi : inv p y := hi
  replace he : e y = none := he
  dsimp only
  have hl : (xs.drop p).length = xs.length - p := List.length_drop
  have hfl : fldLen xs p = ((xs.drop p).getD 0 0).toNat + ((xs.drop p).getD 1 0).toNat * 256 := by rw [getD_drop, getD_drop]; rfl
  have q0 := u8le ((xs.drop p).getD 0 0)
  have q1 := u8le ((xs.drop p).getD 1 0)
  by_cases hlt : p < xs.length
  · by_cases h2 : p + 2 ≤ xs.length
    · by_cases h3 : fldOk xs p
      · have h3' := h3.2
        repeat (first | refine n1 ?_ | refine n2 (fun b _ => ?_) | refine n3 (fun _ _ => ?_) | refine n4 ?_ | refine n5 ?_ | refine WL_nil ?_ | refine W_seq ?_ | refine W_region ?_ | refine n7 ?_ | refine n8 ?_ | refine W_block ?_ | refine W_skip ?_ | refine W_ret ?_ | refine W_exit ?_ | refine WQ_then ?_ | refine WQ_then_ret ?_ | refine WQ_then_exit ?_ | refine WQ_block_normal ?_ | refine WQ_block_ret ?_ | refine WQ_block_exit ?_ | refine n9 ?_)
        (refine W_regionP' [] [] [0, 1, 2, 3, 4, 5, 6, 7, 8, 9, 10, 11, 12, 13, 14, 15, 16, 17, 18] [] (by kernel_rfl) (by kernel_rfl) (by repeat (first | exact UZ.nil _ _ | (apply UZ.cons; exact rfl; (intro _; exact rfl)))) (by exact rfl) (by (repeat (first | exact SubO.nil _ | (apply SubO.cons; (focus (repeat' (first | exact Pick.head _ _ | apply Pick.tail))))))) ?_)
        repeat (first | refine p1 ?_ | refine p2 (fun b _ => ?_) | refine p3 (fun _ _ => ?_) | refine p4 ?_ | refine p5 ?_ | refine p7 (fun b => ?_) | refine PL_nil ?_)
        refine PL_runs rfl rfl rfl rfl rfl (R_shl rfl rfl (by decide) (shl8I _ q1)) ?_
        repeat (first | refine p1 ?_ | refine p2 (fun b _ => ?_) | refine p3 (fun _ _ => ?_) | refine p4 ?_ | refine p5 ?_ | refine p7 (fun b => ?_) | refine PL_nil ?_)
        repeat (first | refine n1 ?_ | refine n2 (fun b _ => ?_) | refine n3 (fun _ _ => ?_) | refine n4 ?_ | refine n5 ?_ | refine WL_nil ?_ | refine W_seq ?_ | refine W_region ?_ | refine n7 ?_ | refine n8 ?_ | refine W_block ?_ | refine W_skip ?_ | refine W_ret ?_ | refine W_exit ?_ | refine WQ_then ?_ | refine WQ_then_ret ?_ | refine WQ_then_exit ?_ | refine WQ_block_normal ?_ | refine WQ_block_ret ?_ | refine WQ_block_exit ?_ | refine n9 ?_)
        (refine W_regionP' [] [] [0, 1, 2, 3, 4, 5, 6, 7, 8, 9, 10, 11] [] (by kernel_rfl) (by kernel_rfl) (by repeat (first | exact UZ.nil _ _ | (apply UZ.cons; exact rfl; (intro _; exact rfl)))) (by exact rfl) (by (repeat (first | exact SubO.nil _ | (apply SubO.cons; (focus (repeat' (first | exact Pick.head _ _ | apply Pick.tail))))))) ?_)
        repeat (first | refine p1 ?_ | refine p2 (fun b _ => ?_) | refine p3 (fun _ _ => ?_) | refine p4 ?_ | refine p5 ?_ | refine p7 (fun b => ?_) | refine PL_nil ?_)
        refine PL_runs rfl rfl rfl rfl rfl (R_shl rfl rfl (by decide) (shl8I _ q1)) ?_
        repeat (first | refine p1 ?_ | refine p2 (fun b _ => ?_) | refine p3 (fun _ _ => ?_) | refine p4 ?_ | refine p5 ?_ | refine p7 (fun b => ?_) | refine PL_nil ?_)
        rw [show (2 + (((xs.drop p).getD 0 0).toNat : Int) + ((((xs.drop p).getD 1 0).toNat * 256 : Nat) : Int)) = ((2 + fldLen xs p : Nat) : Int) by rw [hfl]; omega]
        repeat (first | refine n1 ?_ | refine n2 (fun b _ => ?_) | refine n3 (fun _ _ => ?_) | refine n4 ?_ | refine n5 ?_ | refine WL_nil ?_ | refine W_seq ?_ | refine W_region ?_ | refine n7 ?_ | refine n8 ?_ | refine W_block ?_ | refine W_skip ?_ | refine W_ret ?_ | refine W_exit ?_ | refine WQ_then ?_ | refine WQ_then_ret ?_ | refine WQ_then_exit ?_ | refine WQ_block_normal ?_ | refine WQ_block_ret ?_ | refine WQ_block_exit ?_ | refine n9 ?_)
        rw [show List.take (fldLen xs p) (List.drop 2 (xs.drop p)) = piece xs p by rw [List.drop_drop]; rfl]
        apply WL_effs
        · exact rfl
        · exact rfl
        · exact rfl
        · apply E_yield (Γp := [YO y]) (Γr := [.blk b1 31 [v], .blk b2 95 [.pointer (some ⟨eb, 0, none⟩)], .blk eb 23 [.int .i64 0]])
          · exact rfl
          · exact rfl
          · exact hY y (_, p) (hpre p y _ hi h3)
          · exact List.Perm.swap _ _ _
          · exact (by (repeat (first | exact AllE.nil _ | (apply AllE.cons; (focus (first | exact ent_nilBy | exact ent_nilSl | (apply Ent.mem; repeat' (first | exact mcs | apply mct))))))))
          · intro _
            exact rfl
          · intro _
            exact rfl
        intro y' hst
        cases hy : e y' with
        | none =>
          repeat (first | refine n1 ?_ | refine n2 (fun b _ => ?_) | refine n3 (fun _ _ => ?_) | refine n4 ?_ | refine n5 ?_ | refine WL_nil ?_ | refine W_seq ?_ | refine W_region ?_ | refine n7 ?_ | refine n8 ?_ | refine W_block ?_ | refine W_skip ?_ | refine W_ret ?_ | refine W_exit ?_ | refine WQ_then ?_ | refine WQ_then_ret ?_ | refine WQ_then_exit ?_ | refine WQ_block_normal ?_ | refine WQ_block_ret ?_ | refine WQ_block_exit ?_ | refine n9 ?_)
          rw [show List.take ((xs.drop p).length - (2 + fldLen xs p)) (List.drop (2 + fldLen xs p) (xs.drop p)) = xs.drop (p + 2 + fldLen xs p) by
            rw [List.take_of_length_le (by rw [List.length_drop]; omega), List.drop_drop]
            congr 1
            omega]
          repeat (first | refine n1 ?_ | refine n2 (fun b _ => ?_) | refine n3 (fun _ _ => ?_) | refine n4 ?_ | refine n5 ?_ | refine WL_nil ?_ | refine W_seq ?_ | refine W_region ?_ | refine n7 ?_ | refine n8 ?_ | refine W_block ?_ | refine W_skip ?_ | refine W_ret ?_ | refine W_exit ?_ | refine WQ_then ?_ | refine WQ_then_ret ?_ | refine WQ_then_exit ?_ | refine WQ_block_normal ?_ | refine WQ_block_ret ?_ | refine WQ_block_exit ?_ | refine n9 ?_)
          ((apply WQ_again ((p + 2 + fldLen xs p, cutV 1 (2 + fldLen xs p) (xs.drop p).length v, y'))); (focus exact ⟨h3', hstep p y _ y' hi h3 hst hy, hy⟩); (focus (omega)); (focus (repeat (first | exact FrIn.nil _ | (apply FrIn.cons; exact rfl; (first | exact rfl | (congr 1; omega) | (simp; done)))))); (focus (repeat (first | exact SubO.nil _ | (apply SubO.cons; (focus (repeat' (first | exact Pick.head _ _ | apply Pick.tail))))))); (focus (repeat (first | exact AllE.nil _ | (apply AllE.cons; (focus (first | exact ent_nilBy | exact ent_nilSl | (apply Ent.mem; repeat' (first | exact mcs | apply mct)))))))))
        | some c =>
          repeat (first | refine n1 ?_ | refine n2 (fun b _ => ?_) | refine n3 (fun _ _ => ?_) | refine n4 ?_ | refine n5 ?_ | refine WL_nil ?_ | refine W_seq ?_ | refine W_region ?_ | refine n7 ?_ | refine n8 ?_ | refine W_block ?_ | refine W_skip ?_ | refine W_ret ?_ | refine W_exit ?_ | refine WQ_then ?_ | refine WQ_then_ret ?_ | refine WQ_then_exit ?_ | refine WQ_block_normal ?_ | refine WQ_block_ret ?_ | refine WQ_block_exit ?_ | refine n9 ?_)
          refine ret0 (.inl rfl) Try.results57 (y', 0) (.inl ⟨p, y, _, hi, h3, hst, by rw [hy]; intro h; cases h⟩) rfl (by (repeat (first | exact SubO.nil _ | (apply SubO.cons; (focus (repeat' (first | exact Pick.head _ _ | apply Pick.tail))))))) (by (repeat (first | exact AllE.nil _ | (apply AllE.cons; (focus (first | exact ent_nilBy | exact ent_nilSl | (apply Ent.mem; repeat' (first | exact mcs | apply mct))))))))
      · have h3' : xs.length < p + 2 + fldLen xs p := by
          unfold fldOk at h3
          omega
        repeat (first | refine n1 ?_ | refine n2 (fun b _ => ?_) | refine n3 (fun _ _ => ?_) | refine n4 ?_ | refine n5 ?_ | refine WL_nil ?_ | refine W_seq ?_ | refine W_region ?_ | refine n7 ?_ | refine n8 ?_ | refine W_block ?_ | refine W_skip ?_ | refine W_ret ?_ | refine W_exit ?_ | refine WQ_then ?_ | refine WQ_then_ret ?_ | refine WQ_then_exit ?_ | refine WQ_block_normal ?_ | refine WQ_block_ret ?_ | refine WQ_block_exit ?_ | refine n9 ?_)
        (refine W_regionP' [] [] [0, 1, 2, 3, 4, 5, 6, 7, 8, 9, 10, 11, 12, 13, 14, 15, 16, 17, 18] [] (by kernel_rfl) (by kernel_rfl) (by repeat (first | exact UZ.nil _ _ | (apply UZ.cons; exact rfl; (intro _; exact rfl)))) (by exact rfl) (by (repeat (first | exact SubO.nil _ | (apply SubO.cons; (focus (repeat' (first | exact Pick.head _ _ | apply Pick.tail))))))) ?_)
        repeat (first | refine p1 ?_ | refine p2 (fun b _ => ?_) | refine p3 (fun _ _ => ?_) | refine p4 ?_ | refine p5 ?_ | refine p7 (fun b => ?_) | refine PL_nil ?_)
        refine PL_runs rfl rfl rfl rfl rfl (R_shl rfl rfl (by decide) (shl8I _ q1)) ?_
        repeat (first | refine p1 ?_ | refine p2 (fun b _ => ?_) | refine p3 (fun _ _ => ?_) | refine p4 ?_ | refine p5 ?_ | refine p7 (fun b => ?_) | refine PL_nil ?_)
        repeat (first | refine n1 ?_ | refine n2 (fun b _ => ?_) | refine n3 (fun _ _ => ?_) | refine n4 ?_ | refine n5 ?_ | refine WL_nil ?_ | refine W_seq ?_ | refine W_region ?_ | refine n7 ?_ | refine n8 ?_ | refine W_block ?_ | refine W_skip ?_ | refine W_ret ?_ | refine W_exit ?_ | refine WQ_then ?_ | refine WQ_then_ret ?_ | refine WQ_then_exit ?_ | refine WQ_block_normal ?_ | refine WQ_block_ret ?_ | refine WQ_block_exit ?_ | refine n9 ?_)
        refine WL_runs rfl rfl rfl (R_nilCheck rfl) ?_
        repeat (first | refine n1 ?_ | refine n2 (fun b _ => ?_) | refine n3 (fun _ _ => ?_) | refine n4 ?_ | refine n5 ?_ | refine WL_nil ?_ | refine W_seq ?_ | refine W_region ?_ | refine n7 ?_ | refine n8 ?_ | refine W_block ?_ | refine W_skip ?_ | refine W_ret ?_ | refine W_exit ?_ | refine WQ_then ?_ | refine WQ_then_ret ?_ | refine WQ_then_exit ?_ | refine WQ_block_normal ?_ | refine WQ_block_ret ?_ | refine WQ_block_exit ?_ | refine n9 ?_)
        refine ret0 (.inl rfl) Try.results57 (y, 10) (.inr ⟨he, p, hi, .inr ⟨rfl, hlt, h3⟩⟩) rfl (by (repeat (first | exact SubO.nil _ | (apply SubO.cons; (focus (repeat' (first | exact Pick.head _ _ | apply Pick.tail))))))) (by (repeat (first | exact AllE.nil _ | (apply AllE.cons; (focus (first | exact ent_nilBy | exact ent_nilSl | (apply Ent.mem; repeat' (first | exact mcs | apply mct))))))))
    · have h3 : ¬ fldOk xs p := fun h => h2 h.1
      repeat (first | refine n1 ?_ | refine n2 (fun b _ => ?_) | refine n3 (fun _ _ => ?_) | refine n4 ?_ | refine n5 ?_ | refine WL_nil ?_ | refine W_seq ?_ | refine W_region ?_ | refine n7 ?_ | refine n8 ?_ | refine W_block ?_ | refine W_skip ?_ | refine W_ret ?_ | refine W_exit ?_ | refine WQ_then ?_ | refine WQ_then_ret ?_ | refine WQ_then_exit ?_ | refine WQ_block_normal ?_ | refine WQ_block_ret ?_ | refine WQ_block_exit ?_ | refine n9 ?_)
      (refine W_regionP' [] [] [0, 1, 2, 3, 4, 5, 6, 7, 8, 9, 10, 11, 12, 13, 14, 15, 16, 17, 18] [] (by kernel_rfl) (by kernel_rfl) (by repeat (first | exact UZ.nil _ _ | (apply UZ.cons; exact rfl; (intro _; exact rfl)))) (by exact rfl) (by (repeat (first | exact SubO.nil _ | (apply SubO.cons; (focus (repeat' (first | exact Pick.head _ _ | apply Pick.tail))))))) ?_)
      repeat (first | refine p1 ?_ | refine p2 (fun b _ => ?_) | refine p3 (fun _ _ => ?_) | refine p4 ?_ | refine p5 ?_ | refine p7 (fun b => ?_) | refine PL_nil ?_)
      repeat (first | refine n1 ?_ | refine n2 (fun b _ => ?_) | refine n3 (fun _ _ => ?_) | refine n4 ?_ | refine n5 ?_ | refine WL_nil ?_ | refine W_seq ?_ | refine W_region ?_ | refine n7 ?_ | refine n8 ?_ | refine W_block ?_ | refine W_skip ?_ | refine W_ret ?_ | refine W_exit ?_ | refine WQ_then ?_ | refine WQ_then_ret ?_ | refine WQ_then_exit ?_ | refine WQ_block_normal ?_ | refine WQ_block_ret ?_ | refine WQ_block_exit ?_ | refine n9 ?_)
      refine WL_runs rfl rfl rfl (R_nilCheck rfl) ?_
      repeat (first | refine n1 ?_ | refine n2 (fun b _ => ?_) | refine n3 (fun _ _ => ?_) | refine n4 ?_ | refine n5 ?_ | refine WL_nil ?_ | refine W_seq ?_ | refine W_region ?_ | refine n7 ?_ | refine n8 ?_ | refine W_block ?_ | refine W_skip ?_ | refine W_ret ?_ | refine W_exit ?_ | refine WQ_then ?_ | refine WQ_then_ret ?_ | refine WQ_then_exit ?_ | refine WQ_block_normal ?_ | refine WQ_block_ret ?_ | refine WQ_block_exit ?_ | refine n9 ?_)
      refine ret0 (.inl rfl) Try.results57 (y, 10) (.inr ⟨he, p, hi, .inr ⟨rfl, hlt, h3⟩⟩) rfl (by (repeat (first | exact SubO.nil _ | (apply SubO.cons; (focus (repeat' (first | exact Pick.head _ _ | apply Pick.tail))))))) (by (repeat (first | exact AllE.nil _ | (apply AllE.cons; (focus (first | exact ent_nilBy | exact ent_nilSl | (apply Ent.mem; repeat' (first | exact mcs | apply mct))))))))
  · obtain rfl : p = xs.length := by omega
    repeat (first | refine n1 ?_ | refine n2 (fun b _ => ?_) | refine n3 (fun _ _ => ?_) | refine n4 ?_ | refine n5 ?_ | refine WL_nil ?_ | refine W_seq ?_ | refine W_region ?_ | refine n7 ?_ | refine n8 ?_ | refine W_block ?_ | refine W_skip ?_ | refine W_ret ?_ | refine W_exit ?_ | refine WQ_then ?_ | refine WQ_then_ret ?_ | refine WQ_then_exit ?_ | refine WQ_block_normal ?_ | refine WQ_block_ret ?_ | refine WQ_block_exit ?_ | refine n9 ?_)
    refine ret0 (.inr rfl) Try.results57 (y, 0) (.inr ⟨he, _, hi, .inl ⟨rfl, rfl⟩⟩) rfl (by (repeat (first | exact SubO.nil _ | (apply SubO.cons; (focus (repeat' (first | exact Pick.head _ _ | apply Pick.tail))))))) (by (repeat (first | exact AllE.nil _ | (apply AllE.cons; (focus (first | exact ent_nilBy | exact ent_nilSl | (apply Ent.mem; repeat' (first | exact mcs | apply mct))))))))
end Go.Proofs.Ytlbihmfpgpfboaa
