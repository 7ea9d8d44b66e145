/-
  The program's walk over a list.
-/
import Derived.Test.YtahkcidnmdcaaaaVEr
namespace Go.Proofs.Ytahkcidnmdcaaaa
open Go Go.RowKit Go.Hs
attribute [local irreducible] WL W WQ PL Runs Effs AllE Ent SubO FrIn Pick OneC Ones CellsE PartsE SeqE UZ By Sl Pt Ct

set_option maxRecDepth 100000 in
set_option maxHeartbeats 8000000 in
theorem walk_fn (b1 b2 b3 : Nat) : ∀ (N : Nat) (t : T) (v : Value) (n m dp : Nat) (bb : Bool), t.size < N → n + cnt t.er ≤ 1000000 → m ≤ 1000000 → dp + 1 + dep t.er ≤ 1000000 → dp ≤ m →
    Ct Try.prog 43 [v, .int .i64 ((dp + 1 : Nat) : Int), .func (.func 44) #[] #[.pointer (some ⟨b1, 0, none⟩), .pointer (some ⟨b2, 0, none⟩), .pointer (some ⟨b3, 0, none⟩)]]
      [.blk b1 3 [.int .i64 (n : Int)], .blk b2 3 [.int .i64 (m : Int)], .blk b3 4 [.bool bb]] [Rw 4 v t.len t.at_, t.tf]
      (X := Unit) (fun _ => True) (fun _ => .tuple #[]) (fun _ => [.blk b1 3 [.int .i64 ((n + cnt t.er : Nat) : Int)], .blk b2 3 [.int .i64 ((max m (dp + dep t.er) : Nat) : Int)], .blk b3 4 [.bool (bb || ! val t.er)]]) (fun _ => []) := by
  intro N
  induction N with
  | zero => intro t v n m dp bb h; omega
  | succ N IH =>
    intro t v n m dp bb hN hn hm hd hdm
    have hlc := len_cnt t
    refine Ct_intro Try.func43 rfl Try.ntmps43 (by simp) _ rfl (fun w0 O0 => ?_)
    repeat (first | refine n1 ?_ | refine n2 (fun b _ => ?_) | refine n3 (fun _ _ => ?_) | refine n4 ?_ | refine n5 ?_ | refine WL_nil ?_ | refine W_seq ?_ | refine W_region ?_ | refine n7 ?_ | refine n8 ?_ | refine W_block ?_ | refine W_skip ?_ | refine W_ret ?_ | refine W_exit ?_ | refine WQ_then ?_ | refine WQ_then_ret ?_ | refine WQ_then_exit ?_ | refine WQ_block_normal ?_ | refine WQ_block_ret ?_ | refine WQ_block_exit ?_ | refine n9 ?_)
    ((apply W_loopK (X := Nat × Nat × Nat × Bool) [10] [0, 1, 2] (fun x => x.1 ≤ t.len ∧ x.2.1 + cnt (t.drop x.1).er = n + cnt t.er ∧ max x.2.2.1 (dp + dep (t.drop x.1).er) = max m (dp + dep t.er) ∧ (x.2.2.2 || ! val (t.drop x.1).er) = (bb || ! val t.er) ∧ x.2.2.1 ≤ 1000000 ∧ dp ≤ x.2.2.1) (fun x => [(10, .int .i64 (x.1 : Int))]) (fun x => [.blk b1 3 [.int .i64 (x.2.1 : Int)], .blk b2 3 [.int .i64 (x.2.2.1 : Int)], .blk b3 4 [.bool x.2.2.2]]) (fun _ => []) (fun x => t.len - x.1) ((0, n, m, bb))); (focus exact ⟨Nat.zero_le _, rfl, rfl, rfl, hm, hdm⟩); exact rfl; exact rfl; (intro _; exact rfl); (intro _; exact rfl); (intro _; exact rfl); (focus (repeat (first | exact FrIn.nil _ | (apply FrIn.cons; exact rfl; (first | exact rfl | (congr 1; first | omega | (dsimp only; omega)) | (simp; done)))))); (focus (repeat (first | exact SubO.nil _ | (apply SubO.cons; (focus (repeat' (first | exact Pick.head _ _ | apply Pick.tail))))))); (focus (repeat (first | exact AllE.nil _ | (apply AllE.cons; (focus (first | exact ent_nilBy | exact ent_nilSl | (apply Ent.mem; repeat' (first | exact mcs | apply mct)))))))); intro x hx)
    obtain ⟨k, nn, mm, rr⟩ := x
    obtain ⟨i1, i2, i3, i4, i5, i6⟩ := hx
    replace i1 : k ≤ t.len := i1
    replace i2 : nn + cnt (t.drop k).er = n + cnt t.er := i2
    replace i3 : max mm (dp + dep (t.drop k).er) = max m (dp + dep t.er) := i3
    replace i4 : (rr || ! val (t.drop k).er) = (bb || ! val t.er) := i4
    replace i5 : mm ≤ 1000000 := i5
    replace i6 : dp ≤ mm := i6
    dsimp only
    by_cases c0 : k < t.len
    · obtain ⟨id, ext, dv, data, sv, subs, next, e1⟩ := T.get c0
      rw [e1] at i2 i3 i4
      simp only [T.er, cnt, dep, val] at i2 i3 i4
      replace i3 := Kp.mk i3
      have a1 := T.at_cons e1
      have has := at_sub e1
      have hlt := T.drop_size e1
      refine W_ent (ent_tree (t := t) (by repeat' (first | exact mcs | apply mct)) e1).1 (W_ent (ent_tree (t := t) (by repeat' (first | exact mcs | apply mct)) e1).2.1 (W_ent (ent_tree (t := t) (by repeat' (first | exact mcs | apply mct)) e1).2.2 ?_))
      repeat (first | refine n1 ?_ | refine n2 (fun b _ => ?_) | refine n3 (fun _ _ => ?_) | refine n4 ?_ | refine n5 ?_ | refine WL_nil ?_ | refine W_seq ?_ | refine W_region ?_ | refine n7 ?_ | refine n8 ?_ | refine W_block ?_ | refine W_skip ?_ | refine W_ret ?_ | refine W_exit ?_ | refine WQ_then ?_ | refine WQ_then_ret ?_ | refine WQ_then_exit ?_ | refine WQ_block_normal ?_ | refine WQ_block_ret ?_ | refine WQ_block_exit ?_ | refine n9 ?_)
      apply WL_effs
      · exact rfl
      · exact rfl
      · exact rfl
      · apply E_callG (first := #[]) (captured := #[.pointer (some ⟨b1, 0, none⟩), .pointer (some ⟨b2, 0, none⟩), .pointer (some ⟨b3, 0, none⟩)])
        · exact rfl
        · exact rfl
        · exact rfl
        · intro _ _
          simp
        · exact visit_fn b1 b2 b3 nn mm (dp + 1) rr _ id ext dv data sv subs (by omega) i5 (by omega) rfl
        · exact perm3 (by repeat' (first | exact Pick.head _ _ | apply Pick.tail)) (by repeat' (first | exact Pick.head _ _ | apply Pick.tail)) (by repeat' (first | exact Pick.head _ _ | apply Pick.tail))
        · exact (by (repeat (first | exact AllE.nil _ | (apply AllE.cons; (focus (first | exact ent_nilBy | exact ent_nilSl | (apply Ent.mem; repeat' (first | exact mcs | apply mct))))))))
        · intro _
          exact rfl
        · intro _
          exact rfl
      intro _ _
      have hs := IH subs sv (nn + 1) (max mm (dp + 1)) (dp + 1) (rr || ! own id ext data subs.er) (by omega) (by omega) (by omega) (by omega) (by omega)
      rw [show (((dp + 1 + 1 : Nat)) : Int) = ((dp + 1 : Nat) : Int) + 1 by omega] at hs
      repeat (first | refine n1 ?_ | refine n2 (fun b _ => ?_) | refine n3 (fun _ _ => ?_) | refine n4 ?_ | refine n5 ?_ | refine WL_nil ?_ | refine W_seq ?_ | refine W_region ?_ | refine n7 ?_ | refine n8 ?_ | refine W_block ?_ | refine W_skip ?_ | refine W_ret ?_ | refine W_exit ?_ | refine WQ_then ?_ | refine WQ_then_ret ?_ | refine WQ_then_exit ?_ | refine WQ_block_normal ?_ | refine WQ_block_ret ?_ | refine WQ_block_exit ?_ | refine n9 ?_)
      (apply WL_effs; exact rfl; exact rfl; exact rfl; apply E_callO; exact rfl; (intro _ _; simp); exact hs; (first | (apply perm1; (focus (repeat' (first | exact Pick.head _ _ | apply Pick.tail)))) | (apply perm2; (focus (repeat' (first | exact Pick.head _ _ | apply Pick.tail))); (focus (repeat' (first | exact Pick.head _ _ | apply Pick.tail)))) | (apply perm3; (focus (repeat' (first | exact Pick.head _ _ | apply Pick.tail))); (focus (repeat' (first | exact Pick.head _ _ | apply Pick.tail))); (focus (repeat' (first | exact Pick.head _ _ | apply Pick.tail))))); (repeat (first | exact AllE.nil _ | (apply AllE.cons; (focus (first | exact ent_nilBy | exact ent_nilSl | (apply Ent.mem; repeat' (first | exact mcs | apply mct))))))); (intro _; exact rfl); (intro _; exact rfl))
      intro _ _
      repeat (first | refine n1 ?_ | refine n2 (fun b _ => ?_) | refine n3 (fun _ _ => ?_) | refine n4 ?_ | refine n5 ?_ | refine WL_nil ?_ | refine W_seq ?_ | refine W_region ?_ | refine n7 ?_ | refine n8 ?_ | refine W_block ?_ | refine W_skip ?_ | refine W_ret ?_ | refine W_exit ?_ | refine WQ_then ?_ | refine WQ_then_ret ?_ | refine WQ_then_exit ?_ | refine WQ_block_normal ?_ | refine WQ_block_ret ?_ | refine WQ_block_exit ?_ | refine n9 ?_)
      have hn' : k + 1 ≤ t.len ∧ (nn + 1 + cnt subs.er) + cnt (t.drop (k + 1)).er = n + cnt t.er ∧ max (max (max mm (dp + 1)) (dp + 1 + dep subs.er)) (dp + dep (t.drop (k + 1)).er) = max m (dp + dep t.er) ∧
          ((rr || ! own id ext data subs.er || ! val subs.er) || ! val (t.drop (k + 1)).er) = (bb || ! val t.er) ∧ max (max mm (dp + 1)) (dp + 1 + dep subs.er) ≤ 1000000 ∧ dp ≤ max (max mm (dp + 1)) (dp + 1 + dep subs.er) := by
        rw [T.drop_next e1]
        have i3 := i3.out
        refine ⟨c0, by omega, by omega, ?_, by omega, by omega⟩
        rw [← i4]
        cases rr <;> cases own id ext data subs.er <;> cases val subs.er <;> simp
      ((apply WQ_again ((k + 1, nn + 1 + cnt subs.er, max (max mm (dp + 1)) (dp + 1 + dep subs.er), (rr || ! own id ext data subs.er || ! val subs.er)))); (focus exact hn'); (focus (omega)); (focus (repeat (first | exact FrIn.nil _ | (apply FrIn.cons; exact rfl; (first | exact rfl | (congr 1; first | omega | (dsimp only; omega)) | (simp; done)))))); (focus (repeat (first | exact SubO.nil _ | (apply SubO.cons; (focus (repeat' (first | exact Pick.head _ _ | apply Pick.tail))))))); (focus (repeat (first | exact AllE.nil _ | (apply AllE.cons; (focus (first | exact ent_nilBy | exact ent_nilSl | (apply Ent.mem; repeat' (first | exact mcs | apply mct)))))))))
    · rw [drop_end (by omega)] at i2 i3 i4
      obtain rfl : nn = n + cnt t.er := by simpa [T.er, cnt] using i2
      obtain rfl : mm = max m (dp + dep t.er) := by
        simp only [T.er, dep] at i3
        omega
      obtain rfl : rr = (bb || ! val t.er) := by simpa [T.er, val] using i4
      repeat (first | refine n1 ?_ | refine n2 (fun b _ => ?_) | refine n3 (fun _ _ => ?_) | refine n4 ?_ | refine n5 ?_ | refine WL_nil ?_ | refine W_seq ?_ | refine W_region ?_ | refine n7 ?_ | refine n8 ?_ | refine W_block ?_ | refine W_skip ?_ | refine W_ret ?_ | refine W_exit ?_ | refine WQ_then ?_ | refine WQ_then_ret ?_ | refine WQ_then_exit ?_ | refine WQ_block_normal ?_ | refine WQ_block_ret ?_ | refine WQ_block_exit ?_ | refine n9 ?_)
      ((apply ret0 (by first | exact .inl rfl | exact .inr rfl) Try.results43 ( ())); (focus (first | trivial | assumption | omega)); (focus (first | exact rfl | (simp; done))); (focus (repeat (first | exact SubO.nil _ | (apply SubO.cons; (focus (repeat' (first | exact Pick.head _ _ | apply Pick.tail))))))); (focus (repeat (first | exact AllE.nil _ | (apply AllE.cons; (focus (first | exact ent_nilBy | exact ent_nilSl | (apply Ent.mem; repeat' (first | exact mcs | apply mct)))))))))
end Go.Proofs.Ytahkcidnmdcaaaa
