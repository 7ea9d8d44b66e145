/-
  Lists of neighbours: encoded.
-/
import Derived.Test.YtlfghljgilmenaaVSl
import Derived.Test.YtlfghljgilmenaaXc
namespace Go.Proofs.Ytlfghljgilmenaa
open Go Go.RowKit Go.Hs

def encN (n : Nea) : List UInt8 := n.pt.bytes ++ [UInt8.ofNat n.ch.toNat, UInt8.ofNat (n.lv + 2000).toNat, UInt8.ofNat ((n.lv + 2000).toNat / 256), UInt8.ofNat n.ld.toNat]
theorem encN_length (n : Nea) : (encN n).length = 10 := rfl
def encL (l : List Nea) : List UInt8 := UInt8.ofNat l.length :: l.flatMap encN
def encT (l : List Nea) (x : Nat) : List UInt8 := UInt8.ofNat l.length :: (l.take x).flatMap encN
theorem encT_length (l : List Nea) (x : Nat) (h : x ≤ l.length) : (encT l x).length = 1 + 10 * x := by
  have e : ∀ (k : List Nea), (k.flatMap encN).length = 10 * k.length := fun k => by
    induction k with
    | nil => rfl
    | cons a r ih => rw [List.flatMap_cons, List.length_append, encN_length, ih, List.length_cons]; omega
  unfold encT
  rw [List.length_cons, e, List.length_take, Nat.min_eq_left h]
  omega
theorem encT_all (l : List Nea) : encT l l.length = encL l := by unfold encT encL; rw [List.take_length]
theorem encT_next (l : List Nea) (x : Nat) (h : x < l.length) : encT l (x + 1) = encT l x ++ encN (l.getD x n0_) := by
  unfold encT
  rw [take_getD l x h n0_, List.flatMap_append, List.cons_append]
  simp
theorem goodN_in {l : List Nea} {i : Nat} (h : goodN l i = true) : (1 ≤ (l.getD i n0_).ch ∧ (l.getD i n0_).ch ≤ 64) ∧ (-2000 ≤ (l.getD i n0_).lv ∧ (l.getD i n0_).lv ≤ 1000) ∧ 0 ≤ (l.getD i n0_).ld ∧ (l.getD i n0_).ld ≤ 255 := by
  obtain ⟨_, h1, h2, h3⟩ := goodN_iff.1 h
  simp only [inB, decide_eq_true_eq] at h1 h2 h3
  exact ⟨h1, h2, h3⟩
theorem leb1 (n : Nat) : C01.leB 1 n = [UInt8.ofNat n] := by simp [C01.leB, List.range_succ]
theorem leb2 (n : Nat) : C01.leB 2 n = [UInt8.ofNat n, UInt8.ofNat (n / 256)] := by simp [C01.leB, List.range_succ]
def encE (l : List Nea) : Int := if listB l then 0 else 8
def encR (l : List Nea) : List UInt8 := if listB l then encL l else []
attribute [local irreducible] WL W WQ PL Runs Effs AllE Ent SubO FrIn Pick OneC Ones CellsE PartsE SeqE UZ By Sl Pt Ct

set_option maxRecDepth 100000 in
set_option maxHeartbeats 8000000 in
theorem encode_fn (v : Value) (l : List Nea) : Ct Try.prog 18 [v] [] [Rw 9 v l.length (fun i => (l.getD i n0_).cells)]
    (X := Value) (fun _ => True) (fun x => .tuple #[x, .int .i64 (encE l)]) (fun _ => []) (fun x => [By x (encR l)]) := by
  have hl := list_fn v l
  unfold encE encR
  cases h : listB l with
  | false =>
    rw [h] at hl
    refine Ct_intro Try.func18 rfl Try.ntmps18 (by simp) _ rfl (fun w0 O0 => ?_)
    repeat (first | refine n1 ?_ | refine n2 (fun b _ => ?_) | refine n3 (fun _ _ => ?_) | refine n4 ?_ | refine n5 ?_ | refine n6 (hl) ?_ | refine n6v (hl) ?_ | refine WL_nil ?_ | refine W_seq ?_ | refine W_region ?_ | refine n7 ?_ | refine n8 ?_ | refine W_block ?_ | refine W_skip ?_ | refine W_ret ?_ | refine W_exit ?_ | refine WQ_then ?_ | refine WQ_then_ret ?_ | refine WQ_then_exit ?_ | refine WQ_block_normal ?_ | refine WQ_block_ret ?_ | refine WQ_block_exit ?_ | refine n9 ?_)
    refine WQ_ent (ψ := By (.slice none 0 0) []) ent_nilBy ?_
    ((apply ret2 Try.results18 ( Value.slice none 0 0)); (focus (first | trivial | assumption | omega)); (focus (first | exact RV_tmp rfl | (apply RV_cellN; exact rfl; (repeat' (first | exact Pick.head _ _ | apply Pick.tail)); (intro _; exact rfl); (intro _; exact rfl); exact rfl) | (apply RV_cell1; exact rfl; (repeat' (first | exact Pick.head _ _ | apply Pick.tail)); (intro _; exact rfl); exact rfl))); (focus (first | exact RV_tmp rfl | (apply RV_cellN; exact rfl; (repeat' (first | exact Pick.head _ _ | apply Pick.tail)); (intro _; exact rfl); (intro _; exact rfl); exact rfl) | (apply RV_cell1; exact rfl; (repeat' (first | exact Pick.head _ _ | apply Pick.tail)); (intro _; exact rfl); exact rfl)));  (focus (first | exact rfl | (simp; done))); (focus (repeat (first | exact SubO.nil _ | (apply SubO.cons; (focus (repeat' (first | exact Pick.head _ _ | apply Pick.tail))))))); (focus (repeat (first | exact AllE.nil _ | (apply AllE.cons; (focus (first | exact ent_nilBy | exact ent_nilSl | (apply Ent.mem; repeat' (first | exact mcs | apply mct)))))))))
  | true =>
    rw [h] at hl
    obtain ⟨h32, hg⟩ := listB_iff.1 h
    refine Ct_intro Try.func18 rfl Try.ntmps18 (by simp) _ rfl (fun w0 O0 => ?_)
    repeat (first | refine n1 ?_ | refine n2 (fun b _ => ?_) | refine n3 (fun _ _ => ?_) | refine n4 ?_ | refine n5 ?_ | refine n6 (hl) ?_ | refine n6v (hl) ?_ | refine WL_nil ?_ | refine W_seq ?_ | refine W_region ?_ | refine n7 ?_ | refine n8 ?_ | refine W_block ?_ | refine W_skip ?_ | refine W_ret ?_ | refine W_exit ?_ | refine WQ_then ?_ | refine WQ_then_ret ?_ | refine WQ_then_exit ?_ | refine WQ_block_normal ?_ | refine WQ_block_ret ?_ | refine WQ_block_exit ?_ | refine n9 ?_)
    (apply WL_effs; exact rfl; exact rfl; exact rfl; (apply E_buildSlice; exact rfl; (focus (repeat (first | apply SeqE.nil | (apply SeqE.cons; exact rfl; (focus (first | (apply CellsE.lit; exact rfl) | (apply CellsE.one; (first | (apply OneC.lit; exact rfl) | (apply OneC.by_; (repeat' (first | exact mcs | apply mct)); done) | (apply OneC.sl; (repeat' (first | exact mcs | apply mct)); done) | (apply OneC.rw; (repeat' (first | exact mcs | apply mct)); done) | (apply OneC.row; (repeat' (first | exact Pick.head _ _ | apply Pick.tail))))))); exact rfl) | exact rfl))); exact rfl; (first | (intro _; exact (rfl : _ = Result.ok 1 _)) | (intro _; exact (rfl : _ = Result.ok 2 _)) | (intro _; exact (rfl : _ = Result.ok 3 _)) | (intro _; exact (rfl : _ = Result.ok 4 _)) | (intro _; exact (rfl : _ = Result.ok 5 _)) | (intro _; exact (rfl : _ = Result.ok 6 _)) | (intro _; exact (rfl : _ = Result.ok 7 _)) | (intro _; exact (rfl : _ = Result.ok 8 _)) | (intro _; exact (rfl : _ = Result.ok 9 _)) | (intro _; exact (rfl : _ = Result.ok 13 _)) | (intro _; exact (rfl : _ = Result.ok 14 _)) | (intro _; exact (rfl : _ = Result.ok 26 _)) | (intro _; exact (rfl : _ = Result.ok 40 _)) | (intro _; exact (rfl : _ = Result.ok 41 _)) | (intro _; exact (rfl : _ = Result.ok 42 _)) | (intro _; exact (rfl : _ = Result.ok 43 _)) | (intro _; exact (rfl : _ = Result.ok 44 _)) | (intro _; exact (rfl : _ = Result.ok 45 _)) | (intro _; exact (rfl : _ = Result.ok 46 _))); (intro _; exact rfl); exact rfl; exact Nat.le_of_ble_eq_true rfl; exact Nat.le_of_ble_eq_true rfl); skip)
    intro q _
    repeat (first | refine n1 ?_ | refine n2 (fun b _ => ?_) | refine n3 (fun _ _ => ?_) | refine n4 ?_ | refine n5 ?_ | refine WL_nil ?_ | refine W_seq ?_ | refine W_region ?_ | refine n7 ?_ | refine n8 ?_ | refine W_block ?_ | refine W_skip ?_ | refine W_ret ?_ | refine W_exit ?_ | refine WQ_then ?_ | refine WQ_then_ret ?_ | refine WQ_then_exit ?_ | refine WQ_block_normal ?_ | refine WQ_block_ret ?_ | refine WQ_block_exit ?_ | refine n9 ?_)
    have e0 : [Value.int .u8 (l.length : Int)] = (encT l 0).map bcell := by
      show [Value.int .u8 (l.length : Int)] = [.int .u8 ((UInt8.ofNat l.length).toNat : Int)]
      rw [UInt8.toNat_ofNat', Nat.mod_eq_of_lt (by omega)]
    rw [e0]
    ((apply W_loopK (X := Nat × Value) [4, 6, 16] [0] (fun x => x.1 ≤ l.length) (fun x => [(4, x.2), (16, .int .i64 (x.1 : Int))]) (fun x => [.row x.2 5 1 (1 + 10 * x.1) ((encT l x.1).map bcell)]) (fun _ => []) (fun x => l.length - x.1) ((0, q))); (focus exact Nat.zero_le _); exact rfl; exact rfl; (intro _; exact rfl); (intro _; exact rfl); (intro _; exact rfl); (focus (repeat (first | exact FrIn.nil _ | (apply FrIn.cons; exact rfl; (first | exact rfl | (congr 1; first | omega | (dsimp only; omega)) | (simp; done)))))); (focus (repeat (first | exact SubO.nil _ | (apply SubO.cons; (focus (repeat' (first | exact Pick.head _ _ | apply Pick.tail))))))); (focus (repeat (first | exact AllE.nil _ | (apply AllE.cons; (focus (first | exact ent_nilBy | exact ent_nilSl | (apply Ent.mem; repeat' (first | exact mcs | apply mct)))))))); intro x hx)
    obtain ⟨x, o⟩ := x
    replace hx : x ≤ l.length := hx
    dsimp only
    have hel := encT_length l x hx
    by_cases c1 : x < l.length
    · obtain ⟨⟨k1, k2⟩, ⟨k3, k4⟩, k5, k6⟩ := goodN_in (hg x c1)
      have hen := encT_next l x c1
      obtain ⟨c, hc, hc2⟩ : ∃ c : Nat, (c : Int) = (l.getD x n0_).ch ∧ (l.getD x n0_).ch.toNat = c := ⟨_, Int.toNat_of_nonneg (by omega), rfl⟩
      obtain ⟨e, he, he2⟩ : ∃ c : Nat, (c : Int) = (l.getD x n0_).lv - -2000 ∧ ((l.getD x n0_).lv + 2000).toNat = c := ⟨((l.getD x n0_).lv + 2000).toNat, by rw [Int.toNat_of_nonneg (by omega)]; omega, rfl⟩
      obtain ⟨f, hf, hf2⟩ : ∃ c : Nat, (c : Int) = (l.getD x n0_).ld ∧ (l.getD x n0_).ld.toNat = c := ⟨_, Int.toNat_of_nonneg (by omega), rfl⟩
      have u1 := fun dv xs hx => C01.Put8_fn dv xs c hx (by omega)
      have u2 := fun dv xs hx => C01.Put16_fn dv xs e hx (by omega)
      have u3 := fun dv xs hx => C01.Put8_fn dv xs f hx (by omega)
      simp only [hc] at u1
      simp only [he] at u2
      simp only [hf] at u3
      rw [encN, hc2, he2, hf2] at hen
      repeat (first | refine n1 ?_ | refine n2 (fun b _ => ?_) | refine n3 (fun _ _ => ?_) | refine n4 ?_ | refine n5 ?_ | refine WL_nil ?_ | refine W_seq ?_ | refine W_region ?_ | refine n7 ?_ | refine n8 ?_ | refine W_block ?_ | refine W_skip ?_ | refine W_ret ?_ | refine W_exit ?_ | refine WQ_then ?_ | refine WQ_then_ret ?_ | refine WQ_then_exit ?_ | refine WQ_block_normal ?_ | refine WQ_block_ret ?_ | refine WQ_block_exit ?_ | refine n9 ?_)
      obtain ⟨b6, rfl⟩ : ∃ b6, b6 = b := ⟨b, rfl⟩
      refine WL_letgoK (b := b6) (by repeat' (first | exact Pick.head _ _ | apply Pick.tail)) ?_
      refine WL_ent (ent_ptBy (b := b6) (off := 0) (n := 6) (xs := (l.getD x n0_).cells) (bs := (l.getD x n0_).pt.bytes) (by repeat' (first | exact mcs | apply mct)) rfl rfl (by decide) (by decide)) ?_
      refine WL_effs rfl rfl rfl (E_appendBy (bs := encT l x) (news := (l.getD x n0_).pt.bytes) (nm := 1 + 10 * x + 6) (all := encT l x ++ (l.getD x n0_).pt.bytes) rfl rfl (by repeat' (first | exact Pick.head _ _ | apply Pick.tail)) (by repeat' (first | exact mcs | apply mct)) rfl rfl rfl rfl rfl rfl (Nat.le_of_ble_eq_true rfl) (by show 1 + 10 * x + 6 ≤ _; omega) rfl rfl) ?_
      intro o1 _
      refine WL_letgoB (v := o1) (by repeat' (first | exact Pick.head _ _ | apply Pick.tail)) rfl ?_
      have l1 : (encT l x ++ (l.getD x n0_).pt.bytes).length = 1 + 10 * x + 6 := by rw [List.length_append, hel]; rfl
      repeat (first | refine n1 ?_ | refine n2 (fun b _ => ?_) | refine n3 (fun _ _ => ?_) | refine n4 ?_ | refine n5 ?_ | refine WL_nil ?_ | refine W_seq ?_ | refine W_region ?_ | refine n7 ?_ | refine n8 ?_ | refine W_block ?_ | refine W_skip ?_ | refine W_ret ?_ | refine W_exit ?_ | refine WQ_then ?_ | refine WQ_then_ret ?_ | refine WQ_then_exit ?_ | refine WQ_block_normal ?_ | refine WQ_block_ret ?_ | refine WQ_block_exit ?_ | refine n9 ?_)
      (apply WL_effs; exact rfl; exact rfl; exact rfl; apply E_call; exact rfl; (intro _ _; simp); (exact u1 o1 _ (by rw [l1]; omega)); (repeat (first | exact AllE.nil _ | (apply AllE.cons; (focus (first | exact ent_nilBy | exact ent_nilSl | (apply Ent.mem; repeat' (first | exact mcs | apply mct))))))); (intro _; exact rfl); (intro _; exact rfl))
      intro o2 _
      refine WL_letgoB (v := o2) (by repeat' (first | exact Pick.head _ _ | apply Pick.tail)) rfl ?_
      have l2 : (encT l x ++ (l.getD x n0_).pt.bytes ++ C01.leB 1 c).length = 1 + 10 * x + 7 := by rw [List.length_append, l1]; rfl
      repeat (first | refine n1 ?_ | refine n2 (fun b _ => ?_) | refine n3 (fun _ _ => ?_) | refine n4 ?_ | refine n5 ?_ | refine WL_nil ?_ | refine W_seq ?_ | refine W_region ?_ | refine n7 ?_ | refine n8 ?_ | refine W_block ?_ | refine W_skip ?_ | refine W_ret ?_ | refine W_exit ?_ | refine WQ_then ?_ | refine WQ_then_ret ?_ | refine WQ_then_exit ?_ | refine WQ_block_normal ?_ | refine WQ_block_ret ?_ | refine WQ_block_exit ?_ | refine n9 ?_)
      (apply WL_effs; exact rfl; exact rfl; exact rfl; apply E_call; exact rfl; (intro _ _; simp); (exact u2 o2 _ (by rw [l2]; omega)); (repeat (first | exact AllE.nil _ | (apply AllE.cons; (focus (first | exact ent_nilBy | exact ent_nilSl | (apply Ent.mem; repeat' (first | exact mcs | apply mct))))))); (intro _; exact rfl); (intro _; exact rfl))
      intro o3 _
      refine WL_letgoB (v := o3) (by repeat' (first | exact Pick.head _ _ | apply Pick.tail)) rfl ?_
      have l3 : (encT l x ++ (l.getD x n0_).pt.bytes ++ C01.leB 1 c ++ C01.leB 2 e).length = 1 + 10 * x + 9 := by rw [List.length_append, l2]; rfl
      repeat (first | refine n1 ?_ | refine n2 (fun b _ => ?_) | refine n3 (fun _ _ => ?_) | refine n4 ?_ | refine n5 ?_ | refine WL_nil ?_ | refine W_seq ?_ | refine W_region ?_ | refine n7 ?_ | refine n8 ?_ | refine W_block ?_ | refine W_skip ?_ | refine W_ret ?_ | refine W_exit ?_ | refine WQ_then ?_ | refine WQ_then_ret ?_ | refine WQ_then_exit ?_ | refine WQ_block_normal ?_ | refine WQ_block_ret ?_ | refine WQ_block_exit ?_ | refine n9 ?_)
      (apply WL_effs; exact rfl; exact rfl; exact rfl; apply E_call; exact rfl; (intro _ _; simp); (exact u3 o3 _ (by rw [l3]; omega)); (repeat (first | exact AllE.nil _ | (apply AllE.cons; (focus (first | exact ent_nilBy | exact ent_nilSl | (apply Ent.mem; repeat' (first | exact mcs | apply mct))))))); (intro _; exact rfl); (intro _; exact rfl))
      intro o4 _
      have l4 : (encT l x ++ (l.getD x n0_).pt.bytes ++ C01.leB 1 c ++ C01.leB 2 e).length + 1 = 1 + 10 * (x + 1) := by rw [l3]; omega
      have l5 : encT l x ++ (l.getD x n0_).pt.bytes ++ C01.leB 1 c ++ C01.leB 2 e ++ C01.leB 1 f = encT l (x + 1) := by
        rw [hen, leb1, leb1, leb2]
        simp only [List.append_assoc, List.cons_append, List.nil_append]
      rw [l4, l5]
      repeat (first | refine n1 ?_ | refine n2 (fun b _ => ?_) | refine n3 (fun _ _ => ?_) | refine n4 ?_ | refine n5 ?_ | refine WL_nil ?_ | refine W_seq ?_ | refine W_region ?_ | refine n7 ?_ | refine n8 ?_ | refine W_block ?_ | refine W_skip ?_ | refine W_ret ?_ | refine W_exit ?_ | refine WQ_then ?_ | refine WQ_then_ret ?_ | refine WQ_then_exit ?_ | refine WQ_block_normal ?_ | refine WQ_block_ret ?_ | refine WQ_block_exit ?_ | refine n9 ?_)
      ((apply WQ_again ((x + 1, o4))); (focus exact c1); (focus (exact (show l.length - (x + 1) < l.length - x by omega))); (focus (repeat (first | exact FrIn.nil _ | (apply FrIn.cons; exact rfl; (first | exact rfl | (congr 1; first | omega | (dsimp only; omega)) | (simp; done)))))); (focus (repeat (first | exact SubO.nil _ | (apply SubO.cons; (focus (repeat' (first | exact Pick.head _ _ | apply Pick.tail))))))); (focus (repeat (first | exact AllE.nil _ | (apply AllE.cons; (focus (first | exact ent_nilBy | exact ent_nilSl | (apply Ent.mem; repeat' (first | exact mcs | apply mct)))))))))
    · obtain rfl : x = l.length := by omega
      rw [encT_all]
      repeat (first | refine n1 ?_ | refine n2 (fun b _ => ?_) | refine n3 (fun _ _ => ?_) | refine n4 ?_ | refine n5 ?_ | refine WL_nil ?_ | refine W_seq ?_ | refine W_region ?_ | refine n7 ?_ | refine n8 ?_ | refine W_block ?_ | refine W_skip ?_ | refine W_ret ?_ | refine W_exit ?_ | refine WQ_then ?_ | refine WQ_then_ret ?_ | refine WQ_then_exit ?_ | refine WQ_block_normal ?_ | refine WQ_block_ret ?_ | refine WQ_block_exit ?_ | refine n9 ?_)
      refine WQ_letgoB (v := o) (by repeat' (first | exact Pick.head _ _ | apply Pick.tail)) rfl ?_
      ((apply ret2 Try.results18 ( o)); (focus (first | trivial | assumption | omega)); (focus (first | exact RV_tmp rfl | (apply RV_cellN; exact rfl; (repeat' (first | exact Pick.head _ _ | apply Pick.tail)); (intro _; exact rfl); (intro _; exact rfl); exact rfl) | (apply RV_cell1; exact rfl; (repeat' (first | exact Pick.head _ _ | apply Pick.tail)); (intro _; exact rfl); exact rfl))); (focus (first | exact RV_tmp rfl | (apply RV_cellN; exact rfl; (repeat' (first | exact Pick.head _ _ | apply Pick.tail)); (intro _; exact rfl); (intro _; exact rfl); exact rfl) | (apply RV_cell1; exact rfl; (repeat' (first | exact Pick.head _ _ | apply Pick.tail)); (intro _; exact rfl); exact rfl)));  (focus (first | exact rfl | (simp; done))); (focus (repeat (first | exact SubO.nil _ | (apply SubO.cons; (focus (repeat' (first | exact Pick.head _ _ | apply Pick.tail))))))); (focus (repeat (first | exact AllE.nil _ | (apply AllE.cons; (focus (first | exact ent_nilBy | exact ent_nilSl | (apply Ent.mem; repeat' (first | exact mcs | apply mct)))))))))
end Go.Proofs.Ytlfghljgilmenaa
