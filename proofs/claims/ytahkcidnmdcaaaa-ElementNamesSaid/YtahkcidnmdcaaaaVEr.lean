/-
  The program's walk over a list, as Check uses it.
-/
import Derived.Test.YtahkcidnmdcaaaaVEq
namespace Go.Proofs.Ytahkcidnmdcaaaa
open Go Go.RowKit Go.Hs
attribute [local irreducible] WL W WQ PL Runs Effs AllE Ent SubO FrIn Pick OneC Ones CellsE PartsE SeqE UZ By Sl Pt Ct

def nB (b : Bool) : Bool := ! b
set_option maxRecDepth 100000 in
set_option maxHeartbeats 8000000 in
theorem visit_fn (b1 b2 b3 n m dp : Nat) (b r : Bool) (id ext : UInt8) (dv : Value) (data : List UInt8) (sv : Value) (subs : T) (hn : n ≤ 1000000) (hm : m ≤ 1000000) (hd : dp ≤ 1000000) (hr : r = (b || ! own id ext data subs.er)) :
    Ct Try.prog 44 [.agg #[bcell id, bcell ext, dv, sv], .int .i64 (dp : Int), .pointer (some ⟨b1, 0, none⟩), .pointer (some ⟨b2, 0, none⟩), .pointer (some ⟨b3, 0, none⟩)]
      [.blk b1 3 [.int .i64 (n : Int)], .blk b2 3 [.int .i64 (m : Int)], .blk b3 4 [.bool b]] [By dv data, Rw 4 sv subs.len subs.at_]
      (X := Unit) (fun _ => True) (fun _ => .tuple #[]) (fun _ => [.blk b1 3 [.int .i64 ((n + 1 : Nat) : Int)], .blk b2 3 [.int .i64 ((max m dp : Nat) : Int)], .blk b3 4 [.bool r]]) (fun _ => []) := by
  have hcf := cont_fn id
  have hmx : (m < dp ∧ max m dp = dp) ∨ (¬ m < dp ∧ max m dp = m) := by omega
  have hsl : subs.len = 0 ↔ isN subs.er = true := by cases subs <;> simp [T.len, T.er, isN]
  rcases hmx with ⟨c0, hmx⟩ | ⟨c0, hmx⟩
  all_goals rw [hmx]
  all_goals
    cases b with
    | true =>
      obtain rfl : r = true := by simpa using hr
      cases c4 : contB id with
      | true =>
        rw [c4] at hcf
        refine Ct_intro Try.func44 rfl Try.ntmps44 (by simp) _ rfl (fun w0 O0 => ?_)
        repeat (first | refine n1 ?_ | refine n2 (fun b _ => ?_) | refine n3 (fun _ _ => ?_) | refine n4 ?_ | refine n5 ?_ | refine n6 (hcf) ?_ | refine n6v (hcf) ?_ | refine WL_nil ?_ | refine W_seq ?_ | refine W_region ?_ | refine n7 ?_ | refine n8 ?_ | refine W_block ?_ | refine W_skip ?_ | refine W_ret ?_ | refine W_exit ?_ | refine WQ_then ?_ | refine WQ_then_ret ?_ | refine WQ_then_exit ?_ | refine WQ_block_normal ?_ | refine WQ_block_ret ?_ | refine WQ_block_exit ?_ | refine n9 ?_)
        ((apply ret0 (by first | exact .inl rfl | exact .inr rfl) Try.results44 ( ())); (focus (first | trivial | assumption | omega)); (focus (first | exact rfl | (simp; done))); (focus (repeat (first | exact SubO.nil _ | (apply SubO.cons; (focus (repeat' (first | exact Pick.head _ _ | apply Pick.tail))))))); (focus (repeat (first | exact AllE.nil _ | (apply AllE.cons; (focus (first | exact ent_nilBy | exact ent_nilSl | (apply Ent.mem; repeat' (first | exact mcs | apply mct)))))))))
      | false =>
        rw [c4] at hcf
        refine Ct_intro Try.func44 rfl Try.ntmps44 (by simp) _ rfl (fun w0 O0 => ?_)
        repeat (first | refine n1 ?_ | refine n2 (fun b _ => ?_) | refine n3 (fun _ _ => ?_) | refine n4 ?_ | refine n5 ?_ | refine n6 (hcf) ?_ | refine n6v (hcf) ?_ | refine WL_nil ?_ | refine W_seq ?_ | refine W_region ?_ | refine n7 ?_ | refine n8 ?_ | refine W_block ?_ | refine W_skip ?_ | refine W_ret ?_ | refine W_exit ?_ | refine WQ_then ?_ | refine WQ_then_ret ?_ | refine WQ_then_exit ?_ | refine WQ_block_normal ?_ | refine WQ_block_ret ?_ | refine WQ_block_exit ?_ | refine n9 ?_)
        ((apply ret0 (by first | exact .inl rfl | exact .inr rfl) Try.results44 ( ())); (focus (first | trivial | assumption | omega)); (focus (first | exact rfl | (simp; done))); (focus (repeat (first | exact SubO.nil _ | (apply SubO.cons; (focus (repeat' (first | exact Pick.head _ _ | apply Pick.tail))))))); (focus (repeat (first | exact AllE.nil _ | (apply AllE.cons; (focus (first | exact ent_nilBy | exact ent_nilSl | (apply Ent.mem; repeat' (first | exact mcs | apply mct)))))))))
    | false =>
      rw [Bool.false_or] at hr
      by_cases c1 : id.toNat = 254
      · obtain rfl : id = 254 := (u8is (n := 254) (by decide)).2 c1
        obtain rfl : r = true := by simpa [own] using hr
        rw [cont254] at hcf
        refine Ct_intro Try.func44 rfl Try.ntmps44 (by simp) _ rfl (fun w0 O0 => ?_)
        repeat (first | refine n1 ?_ | refine n2 (fun b _ => ?_) | refine n3 (fun _ _ => ?_) | refine n4 ?_ | refine n5 ?_ | refine n6 (hcf) ?_ | refine n6v (hcf) ?_ | refine WL_nil ?_ | refine W_seq ?_ | refine W_region ?_ | refine n7 ?_ | refine n8 ?_ | refine W_block ?_ | refine W_skip ?_ | refine W_ret ?_ | refine W_exit ?_ | refine WQ_then ?_ | refine WQ_then_ret ?_ | refine WQ_then_exit ?_ | refine WQ_block_normal ?_ | refine WQ_block_ret ?_ | refine WQ_block_exit ?_ | refine n9 ?_)
        ((apply ret0 (by first | exact .inl rfl | exact .inr rfl) Try.results44 ( ())); (focus (first | trivial | assumption | omega)); (focus (first | exact rfl | (simp; done))); (focus (repeat (first | exact SubO.nil _ | (apply SubO.cons; (focus (repeat' (first | exact Pick.head _ _ | apply Pick.tail))))))); (focus (repeat (first | exact AllE.nil _ | (apply AllE.cons; (focus (first | exact ent_nilBy | exact ent_nilSl | (apply Ent.mem; repeat' (first | exact mcs | apply mct)))))))))
      · have c1' : ¬ id = 254 := fun h => c1 ((u8is (n := 254) (by decide)).1 h)
        by_cases c2 : id.toNat = 255
        · obtain rfl : id = 255 := (u8is (n := 255) (by decide)).2 c2
          rw [cont255] at hcf
          obtain rfl : r = ! decide ((subs.len : Int) = 0) := by
            rw [hr]
            simp only [own, cont255]
            by_cases h : subs.len = 0
            · simp [h, hsl.1 h]
            · have : isN subs.er = false := by simpa using fun h' => h (hsl.2 h')
              simp [h, this]
          refine Ct_intro Try.func44 rfl Try.ntmps44 (by simp) _ rfl (fun w0 O0 => ?_)
          repeat (first | refine n1 ?_ | refine n2 (fun b _ => ?_) | refine n3 (fun _ _ => ?_) | refine n4 ?_ | refine n5 ?_ | refine n6 (hcf) ?_ | refine n6v (hcf) ?_ | refine WL_nil ?_ | refine W_seq ?_ | refine W_region ?_ | refine n7 ?_ | refine n8 ?_ | refine W_block ?_ | refine W_skip ?_ | refine W_ret ?_ | refine W_exit ?_ | refine WQ_then ?_ | refine WQ_then_ret ?_ | refine WQ_then_exit ?_ | refine WQ_block_normal ?_ | refine WQ_block_ret ?_ | refine WQ_block_exit ?_ | refine n9 ?_)
          ((apply ret0 (by first | exact .inl rfl | exact .inr rfl) Try.results44 ( ())); (focus (first | trivial | assumption | omega)); (focus (first | exact rfl | (simp; done))); (focus (repeat (first | exact SubO.nil _ | (apply SubO.cons; (focus (repeat' (first | exact Pick.head _ _ | apply Pick.tail))))))); (focus (repeat (first | exact AllE.nil _ | (apply AllE.cons; (focus (first | exact ent_nilBy | exact ent_nilSl | (apply Ent.mem; repeat' (first | exact mcs | apply mct)))))))))
        · have c2' : ¬ id = 255 := fun h => c2 ((u8is (n := 255) (by decide)).1 h)
          by_cases c3 : ext.toNat = 0
          · obtain rfl : ext = 0 := (u8is (n := 0) (by decide)).2 c3
            cases c4 : contB id with
            | true =>
              rw [c4] at hcf
              obtain rfl : r = ! decide ((data.length : Int) = 0) := by
                rw [hr]
                cases data <;> simp [own, c1', c4]
                omega
              refine Ct_intro Try.func44 rfl Try.ntmps44 (by simp) _ rfl (fun w0 O0 => ?_)
              repeat (first | refine n1 ?_ | refine n2 (fun b _ => ?_) | refine n3 (fun _ _ => ?_) | refine n4 ?_ | refine n5 ?_ | refine n6 (hcf) ?_ | refine n6v (hcf) ?_ | refine WL_nil ?_ | refine W_seq ?_ | refine W_region ?_ | refine n7 ?_ | refine n8 ?_ | refine W_block ?_ | refine W_skip ?_ | refine W_ret ?_ | refine W_exit ?_ | refine WQ_then ?_ | refine WQ_then_ret ?_ | refine WQ_then_exit ?_ | refine WQ_block_normal ?_ | refine WQ_block_ret ?_ | refine WQ_block_exit ?_ | refine n9 ?_)
              ((apply ret0 (by first | exact .inl rfl | exact .inr rfl) Try.results44 ( ())); (focus (first | trivial | assumption | omega)); (focus (first | exact rfl | (simp; done))); (focus (repeat (first | exact SubO.nil _ | (apply SubO.cons; (focus (repeat' (first | exact Pick.head _ _ | apply Pick.tail))))))); (focus (repeat (first | exact AllE.nil _ | (apply AllE.cons; (focus (first | exact ent_nilBy | exact ent_nilSl | (apply Ent.mem; repeat' (first | exact mcs | apply mct)))))))))
            | false =>
              rw [c4] at hcf
              obtain rfl : r = ! decide ((subs.len : Int) = 0) := by
                rw [hr]
                by_cases h : subs.len = 0
                · simp [own, c1', c4, h, hsl.1 h]
                · have : isN subs.er = false := by simpa using fun h' => h (hsl.2 h')
                  simp [own, c1', c4, h, this]
              refine Ct_intro Try.func44 rfl Try.ntmps44 (by simp) _ rfl (fun w0 O0 => ?_)
              repeat (first | refine n1 ?_ | refine n2 (fun b _ => ?_) | refine n3 (fun _ _ => ?_) | refine n4 ?_ | refine n5 ?_ | refine n6 (hcf) ?_ | refine n6v (hcf) ?_ | refine WL_nil ?_ | refine W_seq ?_ | refine W_region ?_ | refine n7 ?_ | refine n8 ?_ | refine W_block ?_ | refine W_skip ?_ | refine W_ret ?_ | refine W_exit ?_ | refine WQ_then ?_ | refine WQ_then_ret ?_ | refine WQ_then_exit ?_ | refine WQ_block_normal ?_ | refine WQ_block_ret ?_ | refine WQ_block_exit ?_ | refine n9 ?_)
              ((apply ret0 (by first | exact .inl rfl | exact .inr rfl) Try.results44 ( ())); (focus (first | trivial | assumption | omega)); (focus (first | exact rfl | (simp; done))); (focus (repeat (first | exact SubO.nil _ | (apply SubO.cons; (focus (repeat' (first | exact Pick.head _ _ | apply Pick.tail))))))); (focus (repeat (first | exact AllE.nil _ | (apply AllE.cons; (focus (first | exact ent_nilBy | exact ent_nilSl | (apply Ent.mem; repeat' (first | exact mcs | apply mct)))))))))
          · have c3' : ¬ ext = 0 := fun h => c3 ((u8is (n := 0) (by decide)).1 h)
            obtain rfl : r = true := by simpa [own, c1', c2', c3'] using hr
            cases c4 : contB id with
            | true =>
              rw [c4] at hcf
              refine Ct_intro Try.func44 rfl Try.ntmps44 (by simp) _ rfl (fun w0 O0 => ?_)
              repeat (first | refine n1 ?_ | refine n2 (fun b _ => ?_) | refine n3 (fun _ _ => ?_) | refine n4 ?_ | refine n5 ?_ | refine n6 (hcf) ?_ | refine n6v (hcf) ?_ | refine WL_nil ?_ | refine W_seq ?_ | refine W_region ?_ | refine n7 ?_ | refine n8 ?_ | refine W_block ?_ | refine W_skip ?_ | refine W_ret ?_ | refine W_exit ?_ | refine WQ_then ?_ | refine WQ_then_ret ?_ | refine WQ_then_exit ?_ | refine WQ_block_normal ?_ | refine WQ_block_ret ?_ | refine WQ_block_exit ?_ | refine n9 ?_)
              ((apply ret0 (by first | exact .inl rfl | exact .inr rfl) Try.results44 ( ())); (focus (first | trivial | assumption | omega)); (focus (first | exact rfl | (simp; done))); (focus (repeat (first | exact SubO.nil _ | (apply SubO.cons; (focus (repeat' (first | exact Pick.head _ _ | apply Pick.tail))))))); (focus (repeat (first | exact AllE.nil _ | (apply AllE.cons; (focus (first | exact ent_nilBy | exact ent_nilSl | (apply Ent.mem; repeat' (first | exact mcs | apply mct)))))))))
            | false =>
              rw [c4] at hcf
              refine Ct_intro Try.func44 rfl Try.ntmps44 (by simp) _ rfl (fun w0 O0 => ?_)
              repeat (first | refine n1 ?_ | refine n2 (fun b _ => ?_) | refine n3 (fun _ _ => ?_) | refine n4 ?_ | refine n5 ?_ | refine n6 (hcf) ?_ | refine n6v (hcf) ?_ | refine WL_nil ?_ | refine W_seq ?_ | refine W_region ?_ | refine n7 ?_ | refine n8 ?_ | refine W_block ?_ | refine W_skip ?_ | refine W_ret ?_ | refine W_exit ?_ | refine WQ_then ?_ | refine WQ_then_ret ?_ | refine WQ_then_exit ?_ | refine WQ_block_normal ?_ | refine WQ_block_ret ?_ | refine WQ_block_exit ?_ | refine n9 ?_)
              ((apply ret0 (by first | exact .inl rfl | exact .inr rfl) Try.results44 ( ())); (focus (first | trivial | assumption | omega)); (focus (first | exact rfl | (simp; done))); (focus (repeat (first | exact SubO.nil _ | (apply SubO.cons; (focus (repeat' (first | exact Pick.head _ _ | apply Pick.tail))))))); (focus (repeat (first | exact AllE.nil _ | (apply AllE.cons; (focus (first | exact ent_nilBy | exact ent_nilSl | (apply Ent.mem; repeat' (first | exact mcs | apply mct)))))))))
end Go.Proofs.Ytahkcidnmdcaaaa
