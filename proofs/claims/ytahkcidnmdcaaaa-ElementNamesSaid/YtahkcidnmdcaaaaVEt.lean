/-
  The program's write: the iterator over the parts of a content.
-/
import Derived.Test.YtahkcidnmdcaaaaVEs
import Derived.Test.YtahkcidnmdcaaaaXb
namespace Go.Proofs.Ytahkcidnmdcaaaa
open Go Go.RowKit Go.Hs
attribute [local irreducible] WL W WQ PL Runs Effs AllE Ent SubO FrIn Pick OneC Ones CellsE PartsE SeqE UZ By Sl Pt Ct

set_option maxRecDepth 100000 in
theorem parts_fn (dv : Value) (xs : List UInt8) : Ct Try.prog 54 [dv] [] [By dv xs]
    (X := Nat) (fun _ => True) (fun x => .func (.func 59) #[] #[.pointer (some ⟨x, 0, none⟩)]) (fun x => [.blk x 22 [dv]]) (fun _ => []) := by
  refine Ct_intro Try.func54 rfl Try.ntmps54 (by simp) _ rfl (fun w0 O0 => ?_)
  repeat (first | refine n1 ?_ | refine n2 (fun b _ => ?_) | refine n3 (fun _ _ => ?_) | refine n4 ?_ | refine n5 ?_ | refine WL_nil ?_ | refine W_seq ?_ | refine W_region ?_ | refine n7 ?_ | refine n8 ?_ | refine W_block ?_ | refine W_skip ?_ | refine W_ret ?_ | refine W_exit ?_ | refine WQ_then ?_ | refine WQ_then_ret ?_ | refine WQ_then_exit ?_ | refine WQ_block_normal ?_ | refine WQ_block_ret ?_ | refine WQ_block_exit ?_ | refine n9 ?_)
  ((apply ret1 Try.results54 ( b)); (focus (first | trivial | assumption | omega)); (focus (first | exact RV_tmp rfl | (apply RV_cellN; exact rfl; (repeat' (first | exact Pick.head _ _ | apply Pick.tail)); (intro _; exact rfl); (intro _; exact rfl); exact rfl) | (apply RV_cell1; exact rfl; (repeat' (first | exact Pick.head _ _ | apply Pick.tail)); (intro _; exact rfl); exact rfl)));  (focus (first | exact rfl | (simp; done))); (focus (repeat (first | exact SubO.nil _ | (apply SubO.cons; (focus (repeat' (first | exact Pick.head _ _ | apply Pick.tail))))))); (focus (repeat (first | exact AllE.nil _ | (apply AllE.cons; (focus (first | exact ent_nilBy | exact ent_nilSl | (apply Ent.mem; repeat' (first | exact mcs | apply mct)))))))))

set_option maxRecDepth 100000 in
set_option maxHeartbeats 4000000 in
theorem piter_fn {α : Type} (l b1 : Nat) (dv : Value) (xs : List UInt8) (hx : xs.length ≤ 1000000000) (YO : α → OA) (YS : α → SP) (inv : List UInt8 → α → Prop) (y0 : α) (h0 : inv xs y0)
    (step : α → Value × List UInt8 → α → Prop) (pre : α → Value × List UInt8 → Prop) (hpre1 : ∀ c y v, inv c y → 255 ≤ c.length → pre y (v, c.take 255)) (hpre2 : ∀ c y v, inv c y → c.length < 255 → pre y (v, c))
    (hstep : ∀ c y v y', inv c y → 255 ≤ c.length → step y (v, c.take 255) y' → inv (c.drop 255) y')
    (hY : ∀ y b, pre y b → Yc Try.prog l [b.1] [YO y] ([By b.1 b.2] ++ [YS y]) (X := α) (step y b) (fun _ => .bool true) (fun y' => [YO y']) (fun y' => [YS y'])) :
    Ct Try.prog 59 [.func (.yield l) #[] #[], .pointer (some ⟨b1, 0, none⟩)] [.blk b1 22 [dv], YO y0] [By dv xs, YS y0]
      (X := α) (fun x => ∃ c y v, inv c y ∧ c.length < 255 ∧ step y (v, c) x) (fun _ => .tuple #[]) (fun x => [YO x]) (fun x => [YS x]) := by
  refine Ct_intro Try.func59 rfl Try.ntmps59 (by simp) _ rfl (fun w0 O0 => ?_)
  refine W_seq (W_block ?_)
  ((apply W_loopK (X := List UInt8 × Value × α) [] [0, 1] (fun x => inv x.1 x.2.2 ∧ x.1.length ≤ 1000000000) (fun _ => []) (fun x => [.blk b1 22 [x.2.1], YO x.2.2]) (fun x => [By x.2.1 x.1, YS x.2.2]) (fun x => x.1.length) ((xs, dv, y0))); (focus exact ⟨h0, hx⟩); exact rfl; exact rfl; (intro _; exact rfl); (intro _; exact rfl); (intro _; exact rfl); (focus (repeat (first | exact FrIn.nil _ | (apply FrIn.cons; exact rfl; (first | exact rfl | (congr 1; first | omega | (dsimp only; omega)) | (simp; done)))))); (focus (repeat (first | exact SubO.nil _ | (apply SubO.cons; (focus (repeat' (first | exact Pick.head _ _ | apply Pick.tail))))))); (focus (repeat (first | exact AllE.nil _ | (apply AllE.cons; (focus (first | exact ent_nilBy | exact ent_nilSl | (apply Ent.mem; repeat' (first | exact mcs | apply mct)))))))); intro x hx)
  obtain ⟨c, v, y⟩ := x
  obtain ⟨hi, hl⟩ := hx
  replace hi : inv c y := hi
  replace hl : c.length ≤ 1000000000 := hl
  dsimp only
  by_cases h1 : 255 ≤ c.length
  · repeat (first | refine n1 ?_ | refine n2 (fun b _ => ?_) | refine n3 (fun _ _ => ?_) | refine n4 ?_ | refine n5 ?_ | refine WL_nil ?_ | refine W_seq ?_ | refine W_region ?_ | refine n7 ?_ | refine n8 ?_ | refine W_block ?_ | refine W_skip ?_ | refine W_ret ?_ | refine W_exit ?_ | refine WQ_then ?_ | refine WQ_then_ret ?_ | refine WQ_then_exit ?_ | refine WQ_block_normal ?_ | refine WQ_block_ret ?_ | refine WQ_block_exit ?_ | refine n9 ?_)
    apply WL_effs
    · exact rfl
    · exact rfl
    · exact rfl
    · apply E_yield (Γp := [YO y]) (Γr := [.blk b1 22 [v]])
      · exact rfl
      · exact rfl
      · exact hY y (_, c.take 255) (hpre1 c y _ hi h1)
      · exact List.Perm.swap _ _ _
      · exact (by (repeat (first | exact AllE.nil _ | (apply AllE.cons; (focus (first | exact ent_nilBy | exact ent_nilSl | (apply Ent.mem; repeat' (first | exact mcs | apply mct))))))))
      · intro _
        exact rfl
      · intro _
        exact rfl
    intro y' hst
    have hd := hstep c y _ y' hi h1 hst
    have hdl : (c.drop 255).length ≤ 1000000000 := by rw [List.length_drop]; omega
    have hlt : (c.drop 255).length < c.length := by rw [List.length_drop]; omega
    repeat (first | refine n1 ?_ | refine n2 (fun b _ => ?_) | refine n3 (fun _ _ => ?_) | refine n4 ?_ | refine n5 ?_ | refine WL_nil ?_ | refine W_seq ?_ | refine W_region ?_ | refine n7 ?_ | refine n8 ?_ | refine W_block ?_ | refine W_skip ?_ | refine W_ret ?_ | refine W_exit ?_ | refine WQ_then ?_ | refine WQ_then_ret ?_ | refine WQ_then_exit ?_ | refine WQ_block_normal ?_ | refine WQ_block_ret ?_ | refine WQ_block_exit ?_ | refine n9 ?_)
    rw [take_end]
    repeat (first | refine n1 ?_ | refine n2 (fun b _ => ?_) | refine n3 (fun _ _ => ?_) | refine n4 ?_ | refine n5 ?_ | refine WL_nil ?_ | refine W_seq ?_ | refine W_region ?_ | refine n7 ?_ | refine n8 ?_ | refine W_block ?_ | refine W_skip ?_ | refine W_ret ?_ | refine W_exit ?_ | refine WQ_then ?_ | refine WQ_then_ret ?_ | refine WQ_then_exit ?_ | refine WQ_block_normal ?_ | refine WQ_block_ret ?_ | refine WQ_block_exit ?_ | refine n9 ?_)
    ((apply WQ_again ((c.drop 255, cutV 1 255 c.length v, y'))); (focus exact ⟨hd, hdl⟩); (focus exact hlt); (focus (repeat (first | exact FrIn.nil _ | (apply FrIn.cons; exact rfl; (first | exact rfl | (congr 1; first | omega | (dsimp only; omega)) | (simp; done)))))); (focus (repeat (first | exact SubO.nil _ | (apply SubO.cons; (focus (repeat' (first | exact Pick.head _ _ | apply Pick.tail))))))); (focus (repeat (first | exact AllE.nil _ | (apply AllE.cons; (focus (first | exact ent_nilBy | exact ent_nilSl | (apply Ent.mem; repeat' (first | exact mcs | apply mct)))))))))
  · repeat (first | refine n1 ?_ | refine n2 (fun b _ => ?_) | refine n3 (fun _ _ => ?_) | refine n4 ?_ | refine n5 ?_ | refine WL_nil ?_ | refine W_seq ?_ | refine W_region ?_ | refine n7 ?_ | refine n8 ?_ | refine W_block ?_ | refine W_skip ?_ | refine W_ret ?_ | refine W_exit ?_ | refine WQ_then ?_ | refine WQ_then_ret ?_ | refine WQ_then_exit ?_ | refine WQ_block_normal ?_ | refine WQ_block_ret ?_ | refine WQ_block_exit ?_ | refine n9 ?_)
    apply WL_effs
    · exact rfl
    · exact rfl
    · exact rfl
    · apply E_yield (Γp := [YO y]) (Γr := [.blk b1 22 [v]])
      · exact rfl
      · exact rfl
      · exact hY y (v, c) (hpre2 c y _ hi (by omega))
      · exact List.Perm.swap _ _ _
      · exact (by (repeat (first | exact AllE.nil _ | (apply AllE.cons; (focus (first | exact ent_nilBy | exact ent_nilSl | (apply Ent.mem; repeat' (first | exact mcs | apply mct))))))))
      · intro _
        exact rfl
      · intro _
        exact rfl
    intro y' hst
    repeat (first | refine n1 ?_ | refine n2 (fun b _ => ?_) | refine n3 (fun _ _ => ?_) | refine n4 ?_ | refine n5 ?_ | refine WL_nil ?_ | refine W_seq ?_ | refine W_region ?_ | refine n7 ?_ | refine n8 ?_ | refine W_block ?_ | refine W_skip ?_ | refine W_ret ?_ | refine W_exit ?_ | refine WQ_then ?_ | refine WQ_then_ret ?_ | refine WQ_then_exit ?_ | refine WQ_block_normal ?_ | refine WQ_block_ret ?_ | refine WQ_block_exit ?_ | refine n9 ?_)
    have hfin : ∃ c y v, inv c y ∧ c.length < 255 ∧ step y (v, c) y' := ⟨c, y, v, hi, by omega, hst⟩
    ((apply ret0 (by first | exact .inl rfl | exact .inr rfl) Try.results59 ( y')); (focus (first | trivial | assumption | omega)); (focus (first | exact rfl | (simp; done))); (focus (repeat (first | exact SubO.nil _ | (apply SubO.cons; (focus (repeat' (first | exact Pick.head _ _ | apply Pick.tail))))))); (focus (repeat (first | exact AllE.nil _ | (apply AllE.cons; (focus (first | exact ent_nilBy | exact ent_nilSl | (apply Ent.mem; repeat' (first | exact mcs | apply mct)))))))))
end Go.Proofs.Ytahkcidnmdcaaaa
