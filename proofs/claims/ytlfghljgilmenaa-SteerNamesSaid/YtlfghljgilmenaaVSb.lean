/-
  States of stations: searches, 'Check', the reference's 'Valid'.
-/
import Derived.Test.YtlfghljgilmenaaVSa
namespace Go.Proofs.Ytlfghljgilmenaa
open Go Go.RowKit Go.Hs

/-- the first place below n where q holds. -/
def firstI (q : Nat → Bool) : Nat → Nat → Int
  | 0, _ => -1
  | f + 1, k => if q k then (k : Int) else firstI q f (k + 1)
theorem firstI_skip (q : Nat → Bool) : ∀ (f k x : Nat), (∀ j, k ≤ j → j < x → q j = false) → k ≤ x → x ≤ k + f → firstI q f k = firstI q (k + f - x) x
  | f, k, x, h, h1, h2 => by
    induction f generalizing k with
    | zero =>
      obtain rfl : k = x := by omega
      rw [Nat.add_sub_cancel_left]
    | succ f ih =>
      by_cases e : k = x
      · subst e; rw [Nat.add_sub_cancel_left]
      · rw [firstI, if_neg (by rw [h k (Nat.le_refl _) (by omega)]; decide), ih (k + 1) (fun j h3 h4 => h j (by omega) h4) (by omega) (by omega)]
        congr 1
        omega
def idxQ (n : Nat) (q : Nat → Bool) : Int := firstI q n 0
theorem idxQ_at {n x : Nat} {q : Nat → Bool} (h : ∀ j, j < x → q j = false) (hx : x < n) (hq : q x = true) : idxQ n q = (x : Int) := by
  unfold idxQ
  rw [firstI_skip q n 0 x (fun j _ hj => h j hj) (Nat.zero_le _) (by omega), Nat.zero_add]
  obtain ⟨m, hm⟩ : ∃ m, n - x = m + 1 := ⟨n - x - 1, by omega⟩
  rw [hm, firstI, if_pos hq]
theorem idxQ_none {n : Nat} {q : Nat → Bool} (h : ∀ j, j < n → q j = false) : idxQ n q = -1 := by
  unfold idxQ
  rw [firstI_skip q n 0 n (fun j _ hj => h j hj) (Nat.zero_le _) (by omega), Nat.zero_add, Nat.sub_self]
  rfl
def anyQ (n : Nat) (q : Nat → Bool) : Bool := decide (0 ≤ idxQ n q)
theorem anyQ_iff {n : Nat} {q : Nat → Bool} : anyQ n q = true ↔ ∃ j, j < n ∧ q j = true := by
  unfold anyQ
  rw [decide_eq_true_eq]
  constructor
  · intro h
    apply Classical.byContradiction
    intro hn
    rw [idxQ_none (fun j hj => by cases hq : q j; rfl; exact absurd ⟨j, hj, hq⟩ hn)] at h
    omega
  · rintro ⟨j, hj, hq⟩
    induction j using Nat.strongRecOn with
    | _ j ih =>
      by_cases hx : ∃ k, k < j ∧ q k = true
      · obtain ⟨k, hk, hqk⟩ := hx
        exact ih k hk (by omega) hqk
      · rw [idxQ_at (x := j) (fun k hk => by cases hqk : q k; rfl; exact absurd ⟨k, hk, hqk⟩ hx) hj hq]
        omega
attribute [local irreducible] WL W WQ PL Runs Effs AllE Ent SubO FrIn Pick OneC Ones CellsE PartsE SeqE UZ By Sl Pt Ct

set_option maxRecDepth 100000 in
set_option maxHeartbeats 1000000 in
theorem indexV_fn (v : Value) (l : List Vis) (n : Nat) (hn : n ≤ l.length) (g : FuncId) (hg : ∀ (a : Array Value) (w : World), (callFunc g a).run Try.prog w = .ok (.enter g a) w) (caps : List Value) (ψ : SP) (q : Nat → Bool) (hc : ∀ i, i < n → CtD Try.prog g ((l.getD i v0_).val :: caps) [ψ] (.bool (q i))) :
    CtD Try.prog 67 [v, .func (.func g) #[] caps.toArray] [Rw 7 v n (fun i => (l.getD i v0_).cells), ψ] (.int .i64 (idxQ n q)) := by
  refine Ct_intro Try.func67 rfl Try.ntmps67 (by simp) _ rfl (fun w0 O0 => ?_)
  refine W_pure (rw_le (n := n) (by repeat' (first | exact mcs | apply mct))) fun hle => ?_
  repeat (first | refine n1 ?_ | refine n2 (fun b _ => ?_) | refine n3 (fun _ _ => ?_) | refine n4 ?_ | refine n5 ?_ | refine WL_nil ?_ | refine W_seq ?_ | refine W_region ?_ | refine n7 ?_ | refine n8 ?_ | refine W_block ?_ | refine W_skip ?_ | refine W_ret ?_ | refine W_exit ?_ | refine WQ_then ?_ | refine WQ_then_ret ?_ | refine WQ_then_exit ?_ | refine WQ_block_normal ?_ | refine WQ_block_ret ?_ | refine WQ_block_exit ?_ | refine n9 ?_)
  ((apply W_loopK (X := Nat) [8, 5] [] (fun x => x ≤ n ∧ ∀ j, j < x → q j = false) (fun x => [(8, .int .i64 (x : Int))]) (fun _ => []) (fun _ => []) (fun x => n - x) (0)); (focus (exact ⟨Nat.zero_le _, fun j hj => absurd hj (by omega)⟩)); exact rfl; exact rfl; (intro _; exact rfl); (intro _; exact rfl); (intro _; exact rfl); (focus (repeat (first | exact FrIn.nil _ | (apply FrIn.cons; exact rfl; (first | exact rfl | (congr 1; first | omega | (dsimp only; omega)) | (simp; done)))))); (focus (repeat (first | exact SubO.nil _ | (apply SubO.cons; (focus (repeat' (first | exact Pick.head _ _ | apply Pick.tail))))))); (focus (repeat (first | exact AllE.nil _ | (apply AllE.cons; (focus (first | exact ent_nilBy | exact ent_nilSl | (apply Ent.mem; repeat' (first | exact mcs | apply mct)))))))); intro x hx)
  obtain ⟨hk, hi⟩ := hx
  by_cases c1 : x < n
  · have hcx := hc x c1
    cases hq : q x with
    | true =>
      rw [hq] at hcx
      rw [idxQ_at hi c1 hq]
      repeat (first | refine n1 ?_ | refine n2 (fun b _ => ?_) | refine n3 (fun _ _ => ?_) | refine n4 ?_ | refine n5 ?_ | refine WL_nil ?_ | refine W_seq ?_ | refine W_region ?_ | refine n7 ?_ | refine n8 ?_ | refine W_block ?_ | refine W_skip ?_ | refine W_ret ?_ | refine W_exit ?_ | refine WQ_then ?_ | refine WQ_then_ret ?_ | refine WQ_then_exit ?_ | refine WQ_block_normal ?_ | refine WQ_block_ret ?_ | refine WQ_block_exit ?_ | refine n9 ?_)
      refine n6v hcx ?_ (hrun := fun a w => hg a w)
      repeat (first | refine n1 ?_ | refine n2 (fun b _ => ?_) | refine n3 (fun _ _ => ?_) | refine n4 ?_ | refine n5 ?_ | refine WL_nil ?_ | refine W_seq ?_ | refine W_region ?_ | refine n7 ?_ | refine n8 ?_ | refine W_block ?_ | refine W_skip ?_ | refine W_ret ?_ | refine W_exit ?_ | refine WQ_then ?_ | refine WQ_then_ret ?_ | refine WQ_then_exit ?_ | refine WQ_block_normal ?_ | refine WQ_block_ret ?_ | refine WQ_block_exit ?_ | refine n9 ?_)
      ((apply ret1 Try.results67 ( ())); (focus (first | trivial | assumption | omega)); (focus (first | exact RV_tmp rfl | (apply RV_cellN; exact rfl; (repeat' (first | exact Pick.head _ _ | apply Pick.tail)); (intro _; exact rfl); (intro _; exact rfl); exact rfl) | (apply RV_cell1; exact rfl; (repeat' (first | exact Pick.head _ _ | apply Pick.tail)); (intro _; exact rfl); exact rfl)));  (focus (first | exact rfl | (simp; done))); (focus (repeat (first | exact SubO.nil _ | (apply SubO.cons; (focus (repeat' (first | exact Pick.head _ _ | apply Pick.tail))))))); (focus (repeat (first | exact AllE.nil _ | (apply AllE.cons; (focus (first | exact ent_nilBy | exact ent_nilSl | (apply Ent.mem; repeat' (first | exact mcs | apply mct)))))))))
    | false =>
      rw [hq] at hcx
      repeat (first | refine n1 ?_ | refine n2 (fun b _ => ?_) | refine n3 (fun _ _ => ?_) | refine n4 ?_ | refine n5 ?_ | refine WL_nil ?_ | refine W_seq ?_ | refine W_region ?_ | refine n7 ?_ | refine n8 ?_ | refine W_block ?_ | refine W_skip ?_ | refine W_ret ?_ | refine W_exit ?_ | refine WQ_then ?_ | refine WQ_then_ret ?_ | refine WQ_then_exit ?_ | refine WQ_block_normal ?_ | refine WQ_block_ret ?_ | refine WQ_block_exit ?_ | refine n9 ?_)
      refine n6v hcx ?_ (hrun := fun a w => hg a w)
      repeat (first | refine n1 ?_ | refine n2 (fun b _ => ?_) | refine n3 (fun _ _ => ?_) | refine n4 ?_ | refine n5 ?_ | refine WL_nil ?_ | refine W_seq ?_ | refine W_region ?_ | refine n7 ?_ | refine n8 ?_ | refine W_block ?_ | refine W_skip ?_ | refine W_ret ?_ | refine W_exit ?_ | refine WQ_then ?_ | refine WQ_then_ret ?_ | refine WQ_then_exit ?_ | refine WQ_block_normal ?_ | refine WQ_block_ret ?_ | refine WQ_block_exit ?_ | refine n9 ?_)
      have hn' : x + 1 ≤ n ∧ ∀ j, j < x + 1 → q j = false := ⟨c1, fun j hj => by
        by_cases e : j = x
        · subst e; exact hq
        · exact hi j (by omega)⟩
      ((apply WQ_again (x + 1)); (focus exact hn'); (focus (omega)); (focus (repeat (first | exact FrIn.nil _ | (apply FrIn.cons; exact rfl; (first | exact rfl | (congr 1; first | omega | (dsimp only; omega)) | (simp; done)))))); (focus (repeat (first | exact SubO.nil _ | (apply SubO.cons; (focus (repeat' (first | exact Pick.head _ _ | apply Pick.tail))))))); (focus (repeat (first | exact AllE.nil _ | (apply AllE.cons; (focus (first | exact ent_nilBy | exact ent_nilSl | (apply Ent.mem; repeat' (first | exact mcs | apply mct)))))))))
  · obtain rfl : x = n := by omega
    rw [idxQ_none hi]
    repeat (first | refine n1 ?_ | refine n2 (fun b _ => ?_) | refine n3 (fun _ _ => ?_) | refine n4 ?_ | refine n5 ?_ | refine WL_nil ?_ | refine W_seq ?_ | refine W_region ?_ | refine n7 ?_ | refine n8 ?_ | refine W_block ?_ | refine W_skip ?_ | refine W_ret ?_ | refine W_exit ?_ | refine WQ_then ?_ | refine WQ_then_ret ?_ | refine WQ_then_exit ?_ | refine WQ_block_normal ?_ | refine WQ_block_ret ?_ | refine WQ_block_exit ?_ | refine n9 ?_)
    ((apply ret1 Try.results67 ( ())); (focus (first | trivial | assumption | omega)); (focus (first | exact RV_tmp rfl | (apply RV_cellN; exact rfl; (repeat' (first | exact Pick.head _ _ | apply Pick.tail)); (intro _; exact rfl); (intro _; exact rfl); exact rfl) | (apply RV_cell1; exact rfl; (repeat' (first | exact Pick.head _ _ | apply Pick.tail)); (intro _; exact rfl); exact rfl)));  (focus (first | exact rfl | (simp; done))); (focus (repeat (first | exact SubO.nil _ | (apply SubO.cons; (focus (repeat' (first | exact Pick.head _ _ | apply Pick.tail))))))); (focus (repeat (first | exact AllE.nil _ | (apply AllE.cons; (focus (first | exact ent_nilBy | exact ent_nilSl | (apply Ent.mem; repeat' (first | exact mcs | apply mct)))))))))

set_option maxRecDepth 100000 in
theorem containsV_fn (v : Value) (l : List Vis) (n : Nat) (hn : n ≤ l.length) (g : FuncId) (hg : ∀ (a : Array Value) (w : World), (callFunc g a).run Try.prog w = .ok (.enter g a) w) (caps : List Value) (ψ : SP) (q : Nat → Bool) (hc : ∀ i, i < n → CtD Try.prog g ((l.getD i v0_).val :: caps) [ψ] (.bool (q i))) :
    CtD Try.prog 46 [v, .func (.func g) #[] caps.toArray] [Rw 7 v n (fun i => (l.getD i v0_).cells), ψ] (.bool (anyQ n q)) := by
  have hi := indexV_fn v l n hn g hg caps ψ q hc
  unfold anyQ
  generalize idxQ n q = r at *
  by_cases h : 0 ≤ r
  · rw [decide_eq_true h]
    refine Ct_intro Try.func46 rfl Try.ntmps46 (by simp) _ rfl (fun w0 O0 => ?_)
    repeat (first | refine n1 ?_ | refine n2 (fun b _ => ?_) | refine n3 (fun _ _ => ?_) | refine n4 ?_ | refine n5 ?_ | refine n6 (hi) ?_ | refine n6v (hi) ?_ | refine WL_nil ?_ | refine W_seq ?_ | refine W_region ?_ | refine n7 ?_ | refine n8 ?_ | refine W_block ?_ | refine W_skip ?_ | refine W_ret ?_ | refine W_exit ?_ | refine WQ_then ?_ | refine WQ_then_ret ?_ | refine WQ_then_exit ?_ | refine WQ_block_normal ?_ | refine WQ_block_ret ?_ | refine WQ_block_exit ?_ | refine n9 ?_)
    ((apply ret1 Try.results46 ( ())); (focus (first | trivial | assumption | omega)); (focus (first | exact RV_tmp rfl | (apply RV_cellN; exact rfl; (repeat' (first | exact Pick.head _ _ | apply Pick.tail)); (intro _; exact rfl); (intro _; exact rfl); exact rfl) | (apply RV_cell1; exact rfl; (repeat' (first | exact Pick.head _ _ | apply Pick.tail)); (intro _; exact rfl); exact rfl)));  (focus (first | exact rfl | (simp; done))); (focus (repeat (first | exact SubO.nil _ | (apply SubO.cons; (focus (repeat' (first | exact Pick.head _ _ | apply Pick.tail))))))); (focus (repeat (first | exact AllE.nil _ | (apply AllE.cons; (focus (first | exact ent_nilBy | exact ent_nilSl | (apply Ent.mem; repeat' (first | exact mcs | apply mct)))))))))
  · rw [decide_eq_false h]
    refine Ct_intro Try.func46 rfl Try.ntmps46 (by simp) _ rfl (fun w0 O0 => ?_)
    repeat (first | refine n1 ?_ | refine n2 (fun b _ => ?_) | refine n3 (fun _ _ => ?_) | refine n4 ?_ | refine n5 ?_ | refine n6 (hi) ?_ | refine n6v (hi) ?_ | refine WL_nil ?_ | refine W_seq ?_ | refine W_region ?_ | refine n7 ?_ | refine n8 ?_ | refine W_block ?_ | refine W_skip ?_ | refine W_ret ?_ | refine W_exit ?_ | refine WQ_then ?_ | refine WQ_then_ret ?_ | refine WQ_then_exit ?_ | refine WQ_block_normal ?_ | refine WQ_block_ret ?_ | refine WQ_block_exit ?_ | refine n9 ?_)
    ((apply ret1 Try.results46 ( ())); (focus (first | trivial | assumption | omega)); (focus (first | exact RV_tmp rfl | (apply RV_cellN; exact rfl; (repeat' (first | exact Pick.head _ _ | apply Pick.tail)); (intro _; exact rfl); (intro _; exact rfl); exact rfl) | (apply RV_cell1; exact rfl; (repeat' (first | exact Pick.head _ _ | apply Pick.tail)); (intro _; exact rfl); exact rfl)));  (focus (first | exact rfl | (simp; done))); (focus (repeat (first | exact SubO.nil _ | (apply SubO.cons; (focus (repeat' (first | exact Pick.head _ _ | apply Pick.tail))))))); (focus (repeat (first | exact AllE.nil _ | (apply AllE.cons; (focus (first | exact ent_nilBy | exact ent_nilSl | (apply Ent.mem; repeat' (first | exact mcs | apply mct)))))))))

set_option maxRecDepth 100000 in
theorem check1_fn (x y : Vis) (p : Value) : CtD Try.prog 47 [x.val, p] [Pt p y.cells] (.bool (decide (x.pt = y.pt))) := by
  by_cases h : x.pt = y.pt
  · rw [decide_eq_true h]
    refine Ct_intro Try.func47 rfl Try.ntmps47 (by simp) _ rfl (fun w0 O0 => ?_)
    repeat (first | refine n1 ?_ | refine n2 (fun b _ => ?_) | refine n3 (fun _ _ => ?_) | refine n4 ?_ | refine n5 ?_ | refine WL_nil ?_ | refine W_seq ?_ | refine W_region ?_ | refine n7 ?_ | refine n8 ?_ | refine W_block ?_ | refine W_skip ?_ | refine W_ret ?_ | refine W_exit ?_ | refine WQ_then ?_ | refine WQ_then_ret ?_ | refine WQ_then_exit ?_ | refine WQ_block_normal ?_ | refine WQ_block_ret ?_ | refine WQ_block_exit ?_ | refine n9 ?_)
    ((apply ret1 Try.results47 ( ())); (focus (first | trivial | assumption | omega)); (focus (first | exact RV_tmp rfl | (apply RV_cellN; exact rfl; (repeat' (first | exact Pick.head _ _ | apply Pick.tail)); (intro _; exact rfl); (intro _; exact rfl); exact rfl) | (apply RV_cell1; exact rfl; (repeat' (first | exact Pick.head _ _ | apply Pick.tail)); (intro _; exact rfl); exact rfl)));  (focus (first | exact rfl | (simp; done))); (focus (repeat (first | exact SubO.nil _ | (apply SubO.cons; (focus (repeat' (first | exact Pick.head _ _ | apply Pick.tail))))))); (focus (repeat (first | exact AllE.nil _ | (apply AllE.cons; (focus (first | exact ent_nilBy | exact ent_nilSl | (apply Ent.mem; repeat' (first | exact mcs | apply mct)))))))))
  · rw [decide_eq_false h]
    refine Ct_intro Try.func47 rfl Try.ntmps47 (by simp) _ rfl (fun w0 O0 => ?_)
    repeat (first | refine n1 ?_ | refine n2 (fun b _ => ?_) | refine n3 (fun _ _ => ?_) | refine n4 ?_ | refine n5 ?_ | refine WL_nil ?_ | refine W_seq ?_ | refine W_region ?_ | refine n7 ?_ | refine n8 ?_ | refine W_block ?_ | refine W_skip ?_ | refine W_ret ?_ | refine W_exit ?_ | refine WQ_then ?_ | refine WQ_then_ret ?_ | refine WQ_then_exit ?_ | refine WQ_block_normal ?_ | refine WQ_block_ret ?_ | refine WQ_block_exit ?_ | refine n9 ?_)
    ((apply ret1 Try.results47 ( ())); (focus (first | trivial | assumption | omega)); (focus (first | exact RV_tmp rfl | (apply RV_cellN; exact rfl; (repeat' (first | exact Pick.head _ _ | apply Pick.tail)); (intro _; exact rfl); (intro _; exact rfl); exact rfl) | (apply RV_cell1; exact rfl; (repeat' (first | exact Pick.head _ _ | apply Pick.tail)); (intro _; exact rfl); exact rfl)));  (focus (first | exact rfl | (simp; done))); (focus (repeat (first | exact SubO.nil _ | (apply SubO.cons; (focus (repeat' (first | exact Pick.head _ _ | apply Pick.tail))))))); (focus (repeat (first | exact AllE.nil _ | (apply AllE.cons; (focus (first | exact ent_nilBy | exact ent_nilSl | (apply Ent.mem; repeat' (first | exact mcs | apply mct)))))))))
end Go.Proofs.Ytlfghljgilmenaa
