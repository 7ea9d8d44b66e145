/-
  The law 'OctetBack' walked.
-/
import Derived.Test.YtlbihmfpgpfboaaOn
namespace Go.Proofs.Ytlbihmfpgpfboaa
open Go Go.RowKit Go.Hs
attribute [local irreducible] WL W WQ PL Runs Effs AllE Ent SubO FrIn Pick OneC Ones CellsE PartsE SeqE UZ By Sl Pt Ct

theorem leN_append (a b : List UInt8) : leN (a ++ b) = leN a + 256 ^ a.length * leN b := by
  induction a with
  | nil => simp [leN]
  | cons c a ih =>
    simp only [List.cons_append, leN, ih, List.length_cons, Nat.pow_succ]
    rw [Nat.mul_add, ← Nat.mul_assoc, Nat.mul_comm 256 (256 ^ a.length)]
    omega
theorem leN_leB : ∀ (n v : Nat), leN (leB n v) = v % 256 ^ n
  | 0, v => by simp [leB, leN, Nat.mod_one]
  | n + 1, v => by
    rw [leB_succ, leN_append, leN_leB n v, leB_length]
    simp only [leN, Nat.mul_zero, Nat.add_zero, UInt8.toNat_ofNat']
    rw [show (2 : Nat) ^ 8 = 256 from rfl, Nat.pow_succ, Nat.mod_mul]

theorem rd_e (A B R : List UInt8) : tkE (A ++ B ++ R).length (A.length : Int) (B.length : Int) = 0 := by
  have h : (A ++ B ++ R).length = A.length + B.length + R.length := by simp [Nat.add_assoc]
  rw [tkE, if_neg (by omega), if_neg (by omega), if_neg (by omega)]
theorem rd_b (A B R : List UInt8) : tkB (A ++ B ++ R) (A.length : Int) (B.length : Int) = B := by
  rw [tkB, if_pos (rd_e A B R), Int.toNat_natCast, Int.toNat_natCast, List.append_assoc, List.drop_left' rfl, List.take_left' rfl]
theorem rd_a (A B R : List UInt8) : tkA (A ++ B ++ R).length (A.length : Int) (B.length : Int) = (A.length : Int) + B.length := if_pos (rd_e A B R)
theorem rd_d (A B R : List UInt8) : tkD (A ++ B ++ R) (A.length : Int) (B.length : Int) = A ++ B ++ R := if_pos (rd_e A B R)

section
variable (kd : Nat → UInt8) (nn : Nat → Nat) (tx : Nat → List UInt8)
def encV (i : Nat) : List UInt8 :=
  if kd i = 0 then leB 1 (nn i % 256) else if kd i = 1 then leB 2 (nn i % 65536) else if kd i = 2 then leB 4 (nn i % 4294967296) else if kd i = 3 then leB 8 (nn i) else leB 1 (tx i).length ++ tx i
def outV : Nat → List UInt8
  | 0 => []
  | k + 1 => outV k ++ encV kd nn tx k
def okV (k : Nat) : Prop := ∀ i, i < k → kd i = 0 ∨ kd i = 1 ∨ kd i = 2 ∨ kd i = 3 ∨ (tx i).length ≤ 255
theorem enc_len (i : Nat) (h : kd i = 0 ∨ kd i = 1 ∨ kd i = 2 ∨ kd i = 3 ∨ (tx i).length ≤ 255) : (encV kd nn tx i).length ≤ 256 := by
  unfold encV
  split
  · rw [leB_length]; omega
  · split
    · rw [leB_length]; omega
    · split
      · rw [leB_length]; omega
      · split
        · rw [leB_length]; omega
        · rw [List.length_append, leB_length]
          rcases h with h | h | h | h | h
          · contradiction
          · contradiction
          · contradiction
          · contradiction
          · omega
theorem out_len : ∀ k, okV kd tx k → (outV kd nn tx k).length ≤ 256 * k
  | 0, _ => by simp [outV]
  | k + 1, h => by
    have h1 := out_len k fun i hi => h i (by omega)
    have h2 := enc_len kd nn tx k (h k (by omega))
    rw [outV, List.length_append]
    omega
theorem out_split (k : Nat) : ∀ d, ∃ R, outV kd nn tx (k + d) = outV kd nn tx k ++ R
  | 0 => ⟨[], by simp⟩
  | d + 1 => by
    obtain ⟨R, hR⟩ := out_split k d
    exact ⟨R ++ encV kd nn tx (k + d), by rw [← Nat.add_assoc, outV, hR, List.append_assoc]⟩
theorem out_at (k n : Nat) (h : k < n) : ∃ R, outV kd nn tx n = outV kd nn tx k ++ encV kd nn tx k ++ R := by
  obtain ⟨R, hR⟩ := out_split kd nn tx (k + 1) (n - (k + 1))
  rw [show k + 1 + (n - (k + 1)) = n by omega] at hR
  exact ⟨R, hR⟩
end
theorem okV_next {kd : Nat → UInt8} {tx : Nat → List UInt8} {k : Nat} (h : okV kd tx k) (h2 : kd k = 0 ∨ kd k = 1 ∨ kd k = 2 ∨ kd k = 3 ∨ (tx k).length ≤ 255) : okV kd tx (k + 1) := fun i hi => by
  by_cases e : i = k
  · subst e; exact h2
  · exact h i (by omega)

theorem w8 (x : Nat) : ((x % 256 : Nat) : Int) = ((UInt8.ofNat x).toNat : Int) := by simp
theorem w16 (x : Nat) : IntKind.u16.wrap (x : Int) = ((x % 65536 : Nat) : Int) := by rw [IntKind.wrap_u16]; omega
theorem w32 (x : Nat) : IntKind.u32.wrap (x : Int) = ((x % 4294967296 : Nat) : Int) := by rw [IntKind.wrap_u32]; omega
theorem kd_ne {a b : UInt8} (h : ¬ a = b) : ¬ (a.toNat : Int) = (b.toNat : Int) := fun e => h (UInt8.toNat_inj.1 (Int.ofNat.inj e))
theorem done_end (xs : List UInt8) : doE xs.length (xs.length : Int) = 0 := by
  rw [doE, if_neg (by omega), if_neg (by omega)]

/-- what is read at a place where something was written. -/
theorem U8_at (dv : Value) (A R : List UInt8) (v : Nat) (hx : (A ++ leB 1 v ++ R).length ≤ 1000000000) : Ct Try.prog 17 [.agg #[dv, .int .i64 (A.length : Int)]] [] [By dv (A ++ leB 1 v ++ R)]
    (X := Value) (fun _ => True) (fun x => .tuple #[.int .u8 ((v % 256 ^ 1 : Nat) : Int), .agg #[x, .int .i64 ((A ++ leB 1 v).length : Int)], .int .i64 0]) (fun _ => []) (fun x => [By x (A ++ leB 1 v ++ R)]) := by
  have h := U8_fn dv (A ++ leB 1 v ++ R) (A.length : Int) hx
  have e := rd_e A (leB 1 v) R
  have eb := rd_b A (leB 1 v) R
  have ea := rd_a A (leB 1 v) R
  have ed := rd_d A (leB 1 v) R
  rw [leB_length] at e eb ea ed
  rw [show ((1 : Nat) : Int) = (1 : Int) from rfl] at e eb ea ed
  rw [e, eb, ea, ed, leN_leB] at h
  rw [show ((A ++ leB 1 v).length : Int) = (A.length : Int) + 1 by rw [List.length_append, leB_length]; omega]
  exact h
theorem U16_at (dv : Value) (A R : List UInt8) (v : Nat) (hx : (A ++ leB 2 v ++ R).length ≤ 1000000000) : Ct Try.prog 18 [.agg #[dv, .int .i64 (A.length : Int)]] [] [By dv (A ++ leB 2 v ++ R)]
    (X := Value) (fun _ => True) (fun x => .tuple #[.int .u16 ((v % 256 ^ 2 : Nat) : Int), .agg #[x, .int .i64 ((A ++ leB 2 v).length : Int)], .int .i64 0]) (fun _ => []) (fun x => [By x (A ++ leB 2 v ++ R)]) := by
  have h := U16_fn dv (A ++ leB 2 v ++ R) (A.length : Int) hx
  have e := rd_e A (leB 2 v) R
  have eb := rd_b A (leB 2 v) R
  have ea := rd_a A (leB 2 v) R
  have ed := rd_d A (leB 2 v) R
  rw [leB_length] at e eb ea ed
  rw [show ((2 : Nat) : Int) = (2 : Int) from rfl] at e eb ea ed
  rw [e, eb, ea, ed, leN_leB] at h
  rw [show ((A ++ leB 2 v).length : Int) = (A.length : Int) + 2 by rw [List.length_append, leB_length]; omega]
  exact h
theorem U32_at (dv : Value) (A R : List UInt8) (v : Nat) (hx : (A ++ leB 4 v ++ R).length ≤ 1000000000) : Ct Try.prog 19 [.agg #[dv, .int .i64 (A.length : Int)]] [] [By dv (A ++ leB 4 v ++ R)]
    (X := Value) (fun _ => True) (fun x => .tuple #[.int .u32 ((v % 256 ^ 4 : Nat) : Int), .agg #[x, .int .i64 ((A ++ leB 4 v).length : Int)], .int .i64 0]) (fun _ => []) (fun x => [By x (A ++ leB 4 v ++ R)]) := by
  have h := U32_fn dv (A ++ leB 4 v ++ R) (A.length : Int) hx
  have e := rd_e A (leB 4 v) R
  have eb := rd_b A (leB 4 v) R
  have ea := rd_a A (leB 4 v) R
  have ed := rd_d A (leB 4 v) R
  rw [leB_length] at e eb ea ed
  rw [show ((4 : Nat) : Int) = (4 : Int) from rfl] at e eb ea ed
  rw [e, eb, ea, ed, leN_leB] at h
  rw [show ((A ++ leB 4 v).length : Int) = (A.length : Int) + 4 by rw [List.length_append, leB_length]; omega]
  exact h
theorem U64_at (dv : Value) (A R : List UInt8) (v : Nat) (hx : (A ++ leB 8 v ++ R).length ≤ 1000000000) : Ct Try.prog 20 [.agg #[dv, .int .i64 (A.length : Int)]] [] [By dv (A ++ leB 8 v ++ R)]
    (X := Value) (fun _ => True) (fun x => .tuple #[.int .u64 ((v % 256 ^ 8 : Nat) : Int), .agg #[x, .int .i64 ((A ++ leB 8 v).length : Int)], .int .i64 0]) (fun _ => []) (fun x => [By x (A ++ leB 8 v ++ R)]) := by
  have h := U64_fn dv (A ++ leB 8 v ++ R) (A.length : Int) hx
  have e := rd_e A (leB 8 v) R
  have eb := rd_b A (leB 8 v) R
  have ea := rd_a A (leB 8 v) R
  have ed := rd_d A (leB 8 v) R
  rw [leB_length] at e eb ea ed
  rw [show ((8 : Nat) : Int) = (8 : Int) from rfl] at e eb ea ed
  rw [e, eb, ea, ed, leN_leB] at h
  rw [show ((A ++ leB 8 v).length : Int) = (A.length : Int) + 8 by rw [List.length_append, leB_length]; omega]
  exact h
theorem text_at (dv : Value) (A R s : List UInt8) (hs : s.length ≤ 255) (hx : (A ++ (leB 1 s.length ++ s) ++ R).length ≤ 1000000000) : Ct Try.prog 26 [.agg #[dv, .int .i64 (A.length : Int)]] [] [By dv (A ++ (leB 1 s.length ++ s) ++ R)]
    (X := Value × Value) (fun _ => True) (fun x => .tuple #[x.1, .agg #[x.2, .int .i64 ((A ++ (leB 1 s.length ++ s)).length : Int)], .int .i64 0]) (fun _ => []) (fun x => [By x.1 s, By x.2 (A ++ (leB 1 s.length ++ s) ++ R)]) := by
  have h := text_fn dv (A ++ (leB 1 s.length ++ s) ++ R) (A.length : Int) hx
  have e0 : A ++ (leB 1 s.length ++ s) ++ R = A ++ leB 1 s.length ++ (s ++ R) := by simp only [List.append_assoc]
  have e1 : A ++ (leB 1 s.length ++ s) ++ R = (A ++ leB 1 s.length) ++ s ++ R := by simp only [List.append_assoc]
  have a1 := rd_e A (leB 1 s.length) (s ++ R)
  have a2 := rd_b A (leB 1 s.length) (s ++ R)
  rw [leB_length, ← e0, show ((1 : Nat) : Int) = (1 : Int) from rfl] at a1 a2
  have b1 := rd_e (A ++ leB 1 s.length) s R
  have b2 := rd_b (A ++ leB 1 s.length) s R
  have b3 := rd_a (A ++ leB 1 s.length) s R
  have b4 := rd_d (A ++ leB 1 s.length) s R
  rw [← e1] at b1 b2 b3 b4
  have en : txN (A ++ (leB 1 s.length ++ s) ++ R) (A.length : Int) = (s.length : Int) := by
    rw [txN, a2, leN_leB]
    omega
  have el : ((A ++ leB 1 s.length).length : Int) = (A.length : Int) + 1 := by rw [List.length_append, leB_length]; omega
  rw [el] at b1 b2 b3 b4
  rw [txE, txB, txA, txD, if_pos a1, if_pos a1, if_pos a1, if_pos a1, en, b1, b2, b3, b4] at h
  rw [show ((A ++ (leB 1 s.length ++ s)).length : Int) = (A.length : Int) + 1 + s.length by rw [List.length_append, List.length_append, leB_length]; omega]
  exact h

set_option maxRecDepth 100000 in
set_option maxHeartbeats 16000000 in
theorem backLaw_fn (l : Value) (n : Nat) (kd : Nat → UInt8) (nn : Nat → Nat) (hnn : ∀ i, nn i < 18446744073709551616) (tv : Nat → Value) (tx : Nat → List UInt8) :
    CtD Try.prog 8 [l] [Rw 3 l n (fun i => [.int .u8 ((kd i).toNat : Int), .int .u64 (nn i : Int), tv i]), Al n (fun i => By (tv i) (tx i))] (.bool true) := by
  have hal := alive_fn
  by_cases h0 : (100 : Int) < n
  · refine Ct_intro Try.func8 rfl Try.ntmps8 (by simp) _ rfl (fun w0 O0 => ?_)
    repeat (first | refine n1 ?_ | refine n2 (fun b _ => ?_) | refine n3 (fun _ _ => ?_) | refine n4 ?_ | refine n5 ?_ | refine n6 (hal) ?_ | refine WL_nil ?_ | refine W_seq ?_ | refine W_region ?_ | refine n7 ?_ | refine n8 ?_ | refine W_block ?_ | refine W_skip ?_ | refine W_ret ?_ | refine W_exit ?_ | refine WQ_then ?_ | refine WQ_then_ret ?_ | refine WQ_then_exit ?_ | refine WQ_block_normal ?_ | refine WQ_block_ret ?_ | refine WQ_block_exit ?_ | refine n9 ?_)
    ((apply ret1 Try.results8 ( ())); (focus (first | trivial | assumption | omega)); (focus (first | exact RV_tmp rfl | (apply RV_cellN; exact rfl; (repeat' (first | exact Pick.head _ _ | apply Pick.tail)); (intro _; exact rfl); (intro _; exact rfl); exact rfl) | (apply RV_cell1; exact rfl; (repeat' (first | exact Pick.head _ _ | apply Pick.tail)); (intro _; exact rfl); exact rfl)));  (focus (first | exact rfl | (simp; done))); (focus (repeat (first | exact SubO.nil _ | (apply SubO.cons; (focus (repeat' (first | exact Pick.head _ _ | apply Pick.tail))))))); (focus (repeat (first | exact AllE.nil _ | (apply AllE.cons; (focus (first | exact ent_nilBy | exact ent_nilSl | (apply Ent.mem; repeat' (first | exact mcs | apply mct)))))))))
  · refine Ct_intro Try.func8 rfl Try.ntmps8 (by simp) _ rfl (fun w0 O0 => ?_)
    repeat (first | refine n1 ?_ | refine n2 (fun b _ => ?_) | refine n3 (fun _ _ => ?_) | refine n4 ?_ | refine n5 ?_ | refine n6 (hal) ?_ | refine WL_nil ?_ | refine W_seq ?_ | refine W_region ?_ | refine n7 ?_ | refine n8 ?_ | refine W_block ?_ | refine W_skip ?_ | refine W_ret ?_ | refine W_exit ?_ | refine WQ_then ?_ | refine WQ_then_ret ?_ | refine WQ_then_exit ?_ | refine WQ_block_normal ?_ | refine WQ_block_ret ?_ | refine WQ_block_exit ?_ | refine n9 ?_)
    ((apply W_loopK (X := Nat × Value) [5, 4] [] (fun x => x.1 ≤ n ∧ okV kd tx x.1) (fun x => [(5, .int .i64 (x.1 : Int)), (4, x.2)]) (fun _ => []) (fun x => [By x.2 (outV kd nn tx x.1)]) (fun x => n - x.1) ((0, .slice none 0 0))); (focus (exact ⟨Nat.zero_le _, fun i hi => absurd hi (by omega)⟩)); exact rfl; exact rfl; (intro _; exact rfl); (intro _; exact rfl); (intro _; exact rfl); (focus (repeat (first | exact FrIn.nil _ | (apply FrIn.cons; exact rfl; (first | exact rfl | (congr 1; omega) | (simp; done)))))); (focus (repeat (first | exact SubO.nil _ | (apply SubO.cons; (focus (repeat' (first | exact Pick.head _ _ | apply Pick.tail))))))); (focus (repeat (first | exact AllE.nil _ | (apply AllE.cons; (focus (first | exact ent_nilBy | exact ent_nilSl | (apply Ent.mem; repeat' (first | exact mcs | apply mct)))))))); intro x hx)
    obtain ⟨k, o⟩ := x
    obtain ⟨hk, ho⟩ := hx
    replace hk : k ≤ n := hk
    replace ho : okV kd tx k := ho
    dsimp only
    have hol := out_len kd nn tx k ho
    by_cases hlt : k < n
    · have hb := (kd k).toNat_lt
      by_cases c0 : kd k = 0
      · have e : encV kd nn tx k = leB 1 (nn k % 256) := by simp only [encV, if_pos c0]
        have eo : outV kd nn tx k ++ leB 1 (nn k % 256) = outV kd nn tx (k + 1) := by rw [outV, e]
        have ev : ((kd k).toNat : Int) = 0 := by rw [c0]; rfl
        have hp := Put8_fnB o (outV kd nn tx k) (nn k % 256) (by omega) (Nat.mod_lt _ (by decide))
        rw [eo] at hp
        repeat (first | refine n1 ?_ | refine n2 (fun b _ => ?_) | refine n3 (fun _ _ => ?_) | refine n4 ?_ | refine n5 ?_ | refine WL_nil ?_ | refine W_seq ?_ | refine W_region ?_ | refine n7 ?_ | refine n8 ?_ | refine W_block ?_ | refine W_skip ?_ | refine W_ret ?_ | refine W_exit ?_ | refine WQ_then ?_ | refine WQ_then_ret ?_ | refine WQ_then_exit ?_ | refine WQ_block_normal ?_ | refine WQ_block_ret ?_ | refine WQ_block_exit ?_ | refine n9 ?_)
        rw [← w8 (nn k)]
        (apply WL_effs; exact rfl; exact rfl; exact rfl; apply E_call; exact rfl; (intro _ _; simp); exact hp; (repeat (first | exact AllE.nil _ | (apply AllE.cons; (focus (first | exact ent_nilBy | exact ent_nilSl | (apply Ent.mem; repeat' (first | exact mcs | apply mct))))))); (intro _; exact rfl); (intro _; exact rfl))
        intro o2 _
        repeat (first | refine n1 ?_ | refine n2 (fun b _ => ?_) | refine n3 (fun _ _ => ?_) | refine n4 ?_ | refine n5 ?_ | refine WL_nil ?_ | refine W_seq ?_ | refine W_region ?_ | refine n7 ?_ | refine n8 ?_ | refine W_block ?_ | refine W_skip ?_ | refine W_ret ?_ | refine W_exit ?_ | refine WQ_then ?_ | refine WQ_then_ret ?_ | refine WQ_then_exit ?_ | refine WQ_block_normal ?_ | refine WQ_block_ret ?_ | refine WQ_block_exit ?_ | refine n9 ?_)
        ((apply WQ_again ((k + 1, o2))); (focus (exact ⟨hlt, okV_next ho (Or.inl c0)⟩)); (focus (omega)); (focus (repeat (first | exact FrIn.nil _ | (apply FrIn.cons; exact rfl; (first | exact rfl | (congr 1; omega) | (simp; done)))))); (focus (repeat (first | exact SubO.nil _ | (apply SubO.cons; (focus (repeat' (first | exact Pick.head _ _ | apply Pick.tail))))))); (focus (repeat (first | exact AllE.nil _ | (apply AllE.cons; (focus (first | exact ent_nilBy | exact ent_nilSl | (apply Ent.mem; repeat' (first | exact mcs | apply mct)))))))))
      · skip
        have d0 : ¬ ((kd k).toNat : Int) = 0 := kd_ne (b := 0) c0
        by_cases c1 : kd k = 1
        · have e : encV kd nn tx k = leB 2 (nn k % 65536) := by simp only [encV, if_neg c0, if_pos c1]
          have eo : outV kd nn tx k ++ leB 2 (nn k % 65536) = outV kd nn tx (k + 1) := by rw [outV, e]
          have ev : ((kd k).toNat : Int) = 1 := by rw [c1]; rfl
          have hp := Put16_fnB o (outV kd nn tx k) (nn k % 65536) (by omega) (Nat.mod_lt _ (by decide))
          rw [eo] at hp
          repeat (first | refine n1 ?_ | refine n2 (fun b _ => ?_) | refine n3 (fun _ _ => ?_) | refine n4 ?_ | refine n5 ?_ | refine WL_nil ?_ | refine W_seq ?_ | refine W_region ?_ | refine n7 ?_ | refine n8 ?_ | refine W_block ?_ | refine W_skip ?_ | refine W_ret ?_ | refine W_exit ?_ | refine WQ_then ?_ | refine WQ_then_ret ?_ | refine WQ_then_exit ?_ | refine WQ_block_normal ?_ | refine WQ_block_ret ?_ | refine WQ_block_exit ?_ | refine n9 ?_)
          rw [w16 (nn k)]
          (apply WL_effs; exact rfl; exact rfl; exact rfl; apply E_call; exact rfl; (intro _ _; simp); exact hp; (repeat (first | exact AllE.nil _ | (apply AllE.cons; (focus (first | exact ent_nilBy | exact ent_nilSl | (apply Ent.mem; repeat' (first | exact mcs | apply mct))))))); (intro _; exact rfl); (intro _; exact rfl))
          intro o2 _
          repeat (first | refine n1 ?_ | refine n2 (fun b _ => ?_) | refine n3 (fun _ _ => ?_) | refine n4 ?_ | refine n5 ?_ | refine WL_nil ?_ | refine W_seq ?_ | refine W_region ?_ | refine n7 ?_ | refine n8 ?_ | refine W_block ?_ | refine W_skip ?_ | refine W_ret ?_ | refine W_exit ?_ | refine WQ_then ?_ | refine WQ_then_ret ?_ | refine WQ_then_exit ?_ | refine WQ_block_normal ?_ | refine WQ_block_ret ?_ | refine WQ_block_exit ?_ | refine n9 ?_)
          ((apply WQ_again ((k + 1, o2))); (focus (exact ⟨hlt, okV_next ho (Or.inr (Or.inl c1))⟩)); (focus (omega)); (focus (repeat (first | exact FrIn.nil _ | (apply FrIn.cons; exact rfl; (first | exact rfl | (congr 1; omega) | (simp; done)))))); (focus (repeat (first | exact SubO.nil _ | (apply SubO.cons; (focus (repeat' (first | exact Pick.head _ _ | apply Pick.tail))))))); (focus (repeat (first | exact AllE.nil _ | (apply AllE.cons; (focus (first | exact ent_nilBy | exact ent_nilSl | (apply Ent.mem; repeat' (first | exact mcs | apply mct)))))))))
        · skip
          have d1 : ¬ ((kd k).toNat : Int) = 1 := kd_ne (b := 1) c1
          by_cases c2 : kd k = 2
          · have e : encV kd nn tx k = leB 4 (nn k % 4294967296) := by simp only [encV, if_neg c0, if_neg c1, if_pos c2]
            have eo : outV kd nn tx k ++ leB 4 (nn k % 4294967296) = outV kd nn tx (k + 1) := by rw [outV, e]
            have ev : ((kd k).toNat : Int) = 2 := by rw [c2]; rfl
            have hp := Put32_fnB o (outV kd nn tx k) (nn k % 4294967296) (by omega) (Nat.mod_lt _ (by decide))
            rw [eo] at hp
            repeat (first | refine n1 ?_ | refine n2 (fun b _ => ?_) | refine n3 (fun _ _ => ?_) | refine n4 ?_ | refine n5 ?_ | refine WL_nil ?_ | refine W_seq ?_ | refine W_region ?_ | refine n7 ?_ | refine n8 ?_ | refine W_block ?_ | refine W_skip ?_ | refine W_ret ?_ | refine W_exit ?_ | refine WQ_then ?_ | refine WQ_then_ret ?_ | refine WQ_then_exit ?_ | refine WQ_block_normal ?_ | refine WQ_block_ret ?_ | refine WQ_block_exit ?_ | refine n9 ?_)
            rw [w32 (nn k)]
            (apply WL_effs; exact rfl; exact rfl; exact rfl; apply E_call; exact rfl; (intro _ _; simp); exact hp; (repeat (first | exact AllE.nil _ | (apply AllE.cons; (focus (first | exact ent_nilBy | exact ent_nilSl | (apply Ent.mem; repeat' (first | exact mcs | apply mct))))))); (intro _; exact rfl); (intro _; exact rfl))
            intro o2 _
            repeat (first | refine n1 ?_ | refine n2 (fun b _ => ?_) | refine n3 (fun _ _ => ?_) | refine n4 ?_ | refine n5 ?_ | refine WL_nil ?_ | refine W_seq ?_ | refine W_region ?_ | refine n7 ?_ | refine n8 ?_ | refine W_block ?_ | refine W_skip ?_ | refine W_ret ?_ | refine W_exit ?_ | refine WQ_then ?_ | refine WQ_then_ret ?_ | refine WQ_then_exit ?_ | refine WQ_block_normal ?_ | refine WQ_block_ret ?_ | refine WQ_block_exit ?_ | refine n9 ?_)
            ((apply WQ_again ((k + 1, o2))); (focus (exact ⟨hlt, okV_next ho (Or.inr (Or.inr (Or.inl c2)))⟩)); (focus (omega)); (focus (repeat (first | exact FrIn.nil _ | (apply FrIn.cons; exact rfl; (first | exact rfl | (congr 1; omega) | (simp; done)))))); (focus (repeat (first | exact SubO.nil _ | (apply SubO.cons; (focus (repeat' (first | exact Pick.head _ _ | apply Pick.tail))))))); (focus (repeat (first | exact AllE.nil _ | (apply AllE.cons; (focus (first | exact ent_nilBy | exact ent_nilSl | (apply Ent.mem; repeat' (first | exact mcs | apply mct)))))))))
          · skip
            have d2 : ¬ ((kd k).toNat : Int) = 2 := kd_ne (b := 2) c2
            by_cases c3 : kd k = 3
            · have e : encV kd nn tx k = leB 8 (nn k) := by simp only [encV, if_neg c0, if_neg c1, if_neg c2, if_pos c3]
              have eo : outV kd nn tx k ++ leB 8 (nn k) = outV kd nn tx (k + 1) := by rw [outV, e]
              have ev : ((kd k).toNat : Int) = 3 := by rw [c3]; rfl
              have hp := Put64_fnB o (outV kd nn tx k) (nn k) (by omega) (hnn k)
              rw [eo] at hp
              repeat (first | refine n1 ?_ | refine n2 (fun b _ => ?_) | refine n3 (fun _ _ => ?_) | refine n4 ?_ | refine n5 ?_ | refine WL_nil ?_ | refine W_seq ?_ | refine W_region ?_ | refine n7 ?_ | refine n8 ?_ | refine W_block ?_ | refine W_skip ?_ | refine W_ret ?_ | refine W_exit ?_ | refine WQ_then ?_ | refine WQ_then_ret ?_ | refine WQ_then_exit ?_ | refine WQ_block_normal ?_ | refine WQ_block_ret ?_ | refine WQ_block_exit ?_ | refine n9 ?_)
              (apply WL_effs; exact rfl; exact rfl; exact rfl; apply E_call; exact rfl; (intro _ _; simp); exact hp; (repeat (first | exact AllE.nil _ | (apply AllE.cons; (focus (first | exact ent_nilBy | exact ent_nilSl | (apply Ent.mem; repeat' (first | exact mcs | apply mct))))))); (intro _; exact rfl); (intro _; exact rfl))
              intro o2 _
              repeat (first | refine n1 ?_ | refine n2 (fun b _ => ?_) | refine n3 (fun _ _ => ?_) | refine n4 ?_ | refine n5 ?_ | refine WL_nil ?_ | refine W_seq ?_ | refine W_region ?_ | refine n7 ?_ | refine n8 ?_ | refine W_block ?_ | refine W_skip ?_ | refine W_ret ?_ | refine W_exit ?_ | refine WQ_then ?_ | refine WQ_then_ret ?_ | refine WQ_then_exit ?_ | refine WQ_block_normal ?_ | refine WQ_block_ret ?_ | refine WQ_block_exit ?_ | refine n9 ?_)
              ((apply WQ_again ((k + 1, o2))); (focus (exact ⟨hlt, okV_next ho (Or.inr (Or.inr (Or.inr (Or.inl c3))))⟩)); (focus (omega)); (focus (repeat (first | exact FrIn.nil _ | (apply FrIn.cons; exact rfl; (first | exact rfl | (congr 1; omega) | (simp; done)))))); (focus (repeat (first | exact SubO.nil _ | (apply SubO.cons; (focus (repeat' (first | exact Pick.head _ _ | apply Pick.tail))))))); (focus (repeat (first | exact AllE.nil _ | (apply AllE.cons; (focus (first | exact ent_nilBy | exact ent_nilSl | (apply Ent.mem; repeat' (first | exact mcs | apply mct)))))))))
            · skip
              have d3 : ¬ ((kd k).toNat : Int) = 3 := kd_ne (b := 3) c3
              have hp := ptext_fn o (tv k) (outV kd nn tx k) (tx k) (by omega)
              by_cases h5 : (tx k).length ≤ 255
              · have e : encV kd nn tx k = leB 1 (tx k).length ++ tx k := by simp only [encV, if_neg c0, if_neg c1, if_neg c2, if_neg c3]
                have eo : outV kd nn tx k ++ leB 1 (tx k).length ++ tx k = outV kd nn tx (k + 1) := by rw [outV, e, List.append_assoc]
                rw [ptE, ptB, if_pos h5, if_pos h5, eo] at hp
                repeat (first | refine n1 ?_ | refine n2 (fun b _ => ?_) | refine n3 (fun _ _ => ?_) | refine n4 ?_ | refine n5 ?_ | refine WL_nil ?_ | refine W_seq ?_ | refine W_region ?_ | refine n7 ?_ | refine n8 ?_ | refine W_block ?_ | refine W_skip ?_ | refine W_ret ?_ | refine W_exit ?_ | refine WQ_then ?_ | refine WQ_then_ret ?_ | refine WQ_then_exit ?_ | refine WQ_block_normal ?_ | refine WQ_block_ret ?_ | refine WQ_block_exit ?_ | refine n9 ?_)
                refine WL_ent (ent_al (i := k) (ψ := fun i => By (tv i) (tx i)) (by (focus (repeat' (first | exact mcs | apply mct)))) hlt) ?_
                (apply WL_effs; exact rfl; exact rfl; exact rfl; apply E_call; exact rfl; (intro _ _; simp); exact hp; (repeat (first | exact AllE.nil _ | (apply AllE.cons; (focus (first | exact ent_nilBy | exact ent_nilSl | (apply Ent.mem; repeat' (first | exact mcs | apply mct))))))); (intro _; exact rfl); (intro _; exact rfl))
                intro o2 _
                repeat (first | refine n1 ?_ | refine n2 (fun b _ => ?_) | refine n3 (fun _ _ => ?_) | refine n4 ?_ | refine n5 ?_ | refine WL_nil ?_ | refine W_seq ?_ | refine W_region ?_ | refine n7 ?_ | refine n8 ?_ | refine W_block ?_ | refine W_skip ?_ | refine W_ret ?_ | refine W_exit ?_ | refine WQ_then ?_ | refine WQ_then_ret ?_ | refine WQ_then_exit ?_ | refine WQ_block_normal ?_ | refine WQ_block_ret ?_ | refine WQ_block_exit ?_ | refine n9 ?_)
                ((apply WQ_again ((k + 1, o2))); (focus (exact ⟨hlt, okV_next ho (Or.inr (Or.inr (Or.inr (Or.inr h5))))⟩)); (focus (omega)); (focus (repeat (first | exact FrIn.nil _ | (apply FrIn.cons; exact rfl; (first | exact rfl | (congr 1; omega) | (simp; done)))))); (focus (repeat (first | exact SubO.nil _ | (apply SubO.cons; (focus (repeat' (first | exact Pick.head _ _ | apply Pick.tail))))))); (focus (repeat (first | exact AllE.nil _ | (apply AllE.cons; (focus (first | exact ent_nilBy | exact ent_nilSl | (apply Ent.mem; repeat' (first | exact mcs | apply mct)))))))))
              · rw [ptE, ptB, if_neg h5, if_neg h5] at hp
                repeat (first | refine n1 ?_ | refine n2 (fun b _ => ?_) | refine n3 (fun _ _ => ?_) | refine n4 ?_ | refine n5 ?_ | refine WL_nil ?_ | refine W_seq ?_ | refine W_region ?_ | refine n7 ?_ | refine n8 ?_ | refine W_block ?_ | refine W_skip ?_ | refine W_ret ?_ | refine W_exit ?_ | refine WQ_then ?_ | refine WQ_then_ret ?_ | refine WQ_then_exit ?_ | refine WQ_block_normal ?_ | refine WQ_block_ret ?_ | refine WQ_block_exit ?_ | refine n9 ?_)
                refine WL_ent (ent_al (i := k) (ψ := fun i => By (tv i) (tx i)) (by (focus (repeat' (first | exact mcs | apply mct)))) hlt) ?_
                (apply WL_effs; exact rfl; exact rfl; exact rfl; apply E_call; exact rfl; (intro _ _; simp); exact hp; (repeat (first | exact AllE.nil _ | (apply AllE.cons; (focus (first | exact ent_nilBy | exact ent_nilSl | (apply Ent.mem; repeat' (first | exact mcs | apply mct))))))); (intro _; exact rfl); (intro _; exact rfl))
                intro o2 _
                repeat (first | refine n1 ?_ | refine n2 (fun b _ => ?_) | refine n3 (fun _ _ => ?_) | refine n4 ?_ | refine n5 ?_ | refine WL_nil ?_ | refine W_seq ?_ | refine W_region ?_ | refine n7 ?_ | refine n8 ?_ | refine W_block ?_ | refine W_skip ?_ | refine W_ret ?_ | refine W_exit ?_ | refine WQ_then ?_ | refine WQ_then_ret ?_ | refine WQ_then_exit ?_ | refine WQ_block_normal ?_ | refine WQ_block_ret ?_ | refine WQ_block_exit ?_ | refine n9 ?_)
                ((apply ret1 Try.results8 ( ())); (focus (first | trivial | assumption | omega)); (focus (first | exact RV_tmp rfl | (apply RV_cellN; exact rfl; (repeat' (first | exact Pick.head _ _ | apply Pick.tail)); (intro _; exact rfl); (intro _; exact rfl); exact rfl) | (apply RV_cell1; exact rfl; (repeat' (first | exact Pick.head _ _ | apply Pick.tail)); (intro _; exact rfl); exact rfl)));  (focus (first | exact rfl | (simp; done))); (focus (repeat (first | exact SubO.nil _ | (apply SubO.cons; (focus (repeat' (first | exact Pick.head _ _ | apply Pick.tail))))))); (focus (repeat (first | exact AllE.nil _ | (apply AllE.cons; (focus (first | exact ent_nilBy | exact ent_nilSl | (apply Ent.mem; repeat' (first | exact mcs | apply mct)))))))))
    · obtain rfl : k = n := by omega
      repeat (first | refine n1 ?_ | refine n2 (fun b _ => ?_) | refine n3 (fun _ _ => ?_) | refine n4 ?_ | refine n5 ?_ | refine WL_nil ?_ | refine W_seq ?_ | refine W_region ?_ | refine n7 ?_ | refine n8 ?_ | refine W_block ?_ | refine W_skip ?_ | refine W_ret ?_ | refine W_exit ?_ | refine WQ_then ?_ | refine WQ_then_ret ?_ | refine WQ_then_exit ?_ | refine WQ_block_normal ?_ | refine WQ_block_ret ?_ | refine WQ_block_exit ?_ | refine n9 ?_)
      ((apply W_loopK (X := Nat × Value) [9] [0] (fun x => x.1 ≤ k) (fun x => [(9, .int .i64 (x.1 : Int))]) (fun x => [.blk b 33 [x.2, .int .i64 ((outV kd nn tx x.1).length : Int)]]) (fun x => [By x.2 (outV kd nn tx k)]) (fun x => k - x.1) ((0, o))); (focus exact Nat.zero_le _); exact rfl; exact rfl; (intro _; exact rfl); (intro _; exact rfl); (intro _; exact rfl); (focus (repeat (first | exact FrIn.nil _ | (apply FrIn.cons; exact rfl; (first | exact rfl | (congr 1; omega) | (simp; done)))))); (focus (repeat (first | exact SubO.nil _ | (apply SubO.cons; (focus (repeat' (first | exact Pick.head _ _ | apply Pick.tail))))))); (focus (repeat (first | exact AllE.nil _ | (apply AllE.cons; (focus (first | exact ent_nilBy | exact ent_nilSl | (apply Ent.mem; repeat' (first | exact mcs | apply mct)))))))); intro x hx)
      obtain ⟨i, rv⟩ := x
      replace hx : i ≤ k := hx
      dsimp only
      have hdone := done_fn rv (outV kd nn tx k) ((outV kd nn tx k).length : Int)
      rw [done_end] at hdone
      by_cases hi : i < k
      · obtain ⟨R, hR⟩ := out_at kd nn tx i k hi
        have hlR : (outV kd nn tx k).length ≤ 1000000000 := by omega
        have hki := ho i hi
        by_cases c0 : kd i = 0
        · have e : encV kd nn tx i = leB 1 (nn i % 256) := by simp only [encV, if_pos c0]
          have eo : outV kd nn tx i ++ leB 1 (nn i % 256) = outV kd nn tx (i + 1) := by rw [outV, e]
          have ev : ((kd i).toNat : Int) = 0 := by rw [c0]; rfl
          have hw := w8 (nn i)
          rw [e] at hR
          have hu := U8_at rv (outV kd nn tx i) R (nn i % 256) (by rw [← hR]; exact hlR)
          rw [← hR, eo, Nat.mod_eq_of_lt (show nn i % 256 < 256 ^ 1 from Nat.mod_lt _ (by decide))] at hu
          repeat (first | refine n1 ?_ | refine n2 (fun b _ => ?_) | refine n3 (fun _ _ => ?_) | refine n4 ?_ | refine n5 ?_ | refine WL_nil ?_ | refine W_seq ?_ | refine W_region ?_ | refine n7 ?_ | refine n8 ?_ | refine W_block ?_ | refine W_skip ?_ | refine W_ret ?_ | refine W_exit ?_ | refine WQ_then ?_ | refine WQ_then_ret ?_ | refine WQ_then_exit ?_ | refine WQ_block_normal ?_ | refine WQ_block_ret ?_ | refine WQ_block_exit ?_ | refine n9 ?_)
          (apply WL_effs; exact rfl; exact rfl; exact rfl; apply E_call; exact rfl; (intro _ _; simp); exact hu; (repeat (first | exact AllE.nil _ | (apply AllE.cons; (focus (first | exact ent_nilBy | exact ent_nilSl | (apply Ent.mem; repeat' (first | exact mcs | apply mct))))))); (intro _; exact rfl); (intro _; exact rfl))
          intro x _
          repeat (first | refine n1 ?_ | refine n2 (fun b _ => ?_) | refine n3 (fun _ _ => ?_) | refine n4 ?_ | refine n5 ?_ | refine WL_nil ?_ | refine W_seq ?_ | refine W_region ?_ | refine n7 ?_ | refine n8 ?_ | refine W_block ?_ | refine W_skip ?_ | refine W_ret ?_ | refine W_exit ?_ | refine WQ_then ?_ | refine WQ_then_ret ?_ | refine WQ_then_exit ?_ | refine WQ_block_normal ?_ | refine WQ_block_ret ?_ | refine WQ_block_exit ?_ | refine n9 ?_)
          (refine W_regionP' [11] [] [0, 1, 2, 3, 4, 5, 6, 7, 8, 9, 10, 11, 12] [1] (by kernel_rfl) (by kernel_rfl) (by repeat (first | exact UZ.nil _ _ | (apply UZ.cons; exact rfl; (intro _; exact rfl)))) (by exact rfl) (by (repeat (first | exact SubO.nil _ | (apply SubO.cons; (focus (repeat' (first | exact Pick.head _ _ | apply Pick.tail))))))) ?_)
          repeat (first | refine p1 ?_ | refine p2 (fun b _ => ?_) | refine p3 (fun _ _ => ?_) | refine p4 ?_ | refine p5 ?_ | refine p7 (fun b => ?_) | refine PL_nil ?_)
          repeat (first | refine n1 ?_ | refine n2 (fun b _ => ?_) | refine n3 (fun _ _ => ?_) | refine n4 ?_ | refine n5 ?_ | refine WL_nil ?_ | refine W_seq ?_ | refine W_region ?_ | refine n7 ?_ | refine n8 ?_ | refine W_block ?_ | refine W_skip ?_ | refine W_ret ?_ | refine W_exit ?_ | refine WQ_then ?_ | refine WQ_then_ret ?_ | refine WQ_then_exit ?_ | refine WQ_block_normal ?_ | refine WQ_block_ret ?_ | refine WQ_block_exit ?_ | refine n9 ?_)
          ((apply WQ_again ((i + 1, x))); (focus exact hi); (focus (omega)); (focus (repeat (first | exact FrIn.nil _ | (apply FrIn.cons; exact rfl; (first | exact rfl | (congr 1; omega) | (simp; done)))))); (focus (repeat (first | exact SubO.nil _ | (apply SubO.cons; (focus (repeat' (first | exact Pick.head _ _ | apply Pick.tail))))))); (focus (repeat (first | exact AllE.nil _ | (apply AllE.cons; (focus (first | exact ent_nilBy | exact ent_nilSl | (apply Ent.mem; repeat' (first | exact mcs | apply mct)))))))))
        · have d0 : ¬ ((kd i).toNat : Int) = 0 := kd_ne (b := 0) c0
          by_cases c1 : kd i = 1
          · have e : encV kd nn tx i = leB 2 (nn i % 65536) := by simp only [encV, if_neg c0, if_pos c1]
            have eo : outV kd nn tx i ++ leB 2 (nn i % 65536) = outV kd nn tx (i + 1) := by rw [outV, e]
            have ev : ((kd i).toNat : Int) = 1 := by rw [c1]; rfl
            have hw := w16 (nn i)
            rw [e] at hR
            have hu := U16_at rv (outV kd nn tx i) R (nn i % 65536) (by rw [← hR]; exact hlR)
            rw [← hR, eo, Nat.mod_eq_of_lt (show nn i % 65536 < 256 ^ 2 from Nat.mod_lt _ (by decide))] at hu
            repeat (first | refine n1 ?_ | refine n2 (fun b _ => ?_) | refine n3 (fun _ _ => ?_) | refine n4 ?_ | refine n5 ?_ | refine WL_nil ?_ | refine W_seq ?_ | refine W_region ?_ | refine n7 ?_ | refine n8 ?_ | refine W_block ?_ | refine W_skip ?_ | refine W_ret ?_ | refine W_exit ?_ | refine WQ_then ?_ | refine WQ_then_ret ?_ | refine WQ_then_exit ?_ | refine WQ_block_normal ?_ | refine WQ_block_ret ?_ | refine WQ_block_exit ?_ | refine n9 ?_)
            (apply WL_effs; exact rfl; exact rfl; exact rfl; apply E_call; exact rfl; (intro _ _; simp); exact hu; (repeat (first | exact AllE.nil _ | (apply AllE.cons; (focus (first | exact ent_nilBy | exact ent_nilSl | (apply Ent.mem; repeat' (first | exact mcs | apply mct))))))); (intro _; exact rfl); (intro _; exact rfl))
            intro x _
            repeat (first | refine n1 ?_ | refine n2 (fun b _ => ?_) | refine n3 (fun _ _ => ?_) | refine n4 ?_ | refine n5 ?_ | refine WL_nil ?_ | refine W_seq ?_ | refine W_region ?_ | refine n7 ?_ | refine n8 ?_ | refine W_block ?_ | refine W_skip ?_ | refine W_ret ?_ | refine W_exit ?_ | refine WQ_then ?_ | refine WQ_then_ret ?_ | refine WQ_then_exit ?_ | refine WQ_block_normal ?_ | refine WQ_block_ret ?_ | refine WQ_block_exit ?_ | refine n9 ?_)
            (refine W_regionP' [11] [] [0, 1, 2, 3, 4, 5, 6, 7, 8, 9, 10, 11, 12] [1] (by kernel_rfl) (by kernel_rfl) (by repeat (first | exact UZ.nil _ _ | (apply UZ.cons; exact rfl; (intro _; exact rfl)))) (by exact rfl) (by (repeat (first | exact SubO.nil _ | (apply SubO.cons; (focus (repeat' (first | exact Pick.head _ _ | apply Pick.tail))))))) ?_)
            repeat (first | refine p1 ?_ | refine p2 (fun b _ => ?_) | refine p3 (fun _ _ => ?_) | refine p4 ?_ | refine p5 ?_ | refine p7 (fun b => ?_) | refine PL_nil ?_)
            repeat (first | refine n1 ?_ | refine n2 (fun b _ => ?_) | refine n3 (fun _ _ => ?_) | refine n4 ?_ | refine n5 ?_ | refine WL_nil ?_ | refine W_seq ?_ | refine W_region ?_ | refine n7 ?_ | refine n8 ?_ | refine W_block ?_ | refine W_skip ?_ | refine W_ret ?_ | refine W_exit ?_ | refine WQ_then ?_ | refine WQ_then_ret ?_ | refine WQ_then_exit ?_ | refine WQ_block_normal ?_ | refine WQ_block_ret ?_ | refine WQ_block_exit ?_ | refine n9 ?_)
            ((apply WQ_again ((i + 1, x))); (focus exact hi); (focus (omega)); (focus (repeat (first | exact FrIn.nil _ | (apply FrIn.cons; exact rfl; (first | exact rfl | (congr 1; omega) | (simp; done)))))); (focus (repeat (first | exact SubO.nil _ | (apply SubO.cons; (focus (repeat' (first | exact Pick.head _ _ | apply Pick.tail))))))); (focus (repeat (first | exact AllE.nil _ | (apply AllE.cons; (focus (first | exact ent_nilBy | exact ent_nilSl | (apply Ent.mem; repeat' (first | exact mcs | apply mct)))))))))
          · have d1 : ¬ ((kd i).toNat : Int) = 1 := kd_ne (b := 1) c1
            by_cases c2 : kd i = 2
            · have e : encV kd nn tx i = leB 4 (nn i % 4294967296) := by simp only [encV, if_neg c0, if_neg c1, if_pos c2]
              have eo : outV kd nn tx i ++ leB 4 (nn i % 4294967296) = outV kd nn tx (i + 1) := by rw [outV, e]
              have ev : ((kd i).toNat : Int) = 2 := by rw [c2]; rfl
              have hw := w32 (nn i)
              rw [e] at hR
              have hu := U32_at rv (outV kd nn tx i) R (nn i % 4294967296) (by rw [← hR]; exact hlR)
              rw [← hR, eo, Nat.mod_eq_of_lt (show nn i % 4294967296 < 256 ^ 4 from Nat.mod_lt _ (by decide))] at hu
              repeat (first | refine n1 ?_ | refine n2 (fun b _ => ?_) | refine n3 (fun _ _ => ?_) | refine n4 ?_ | refine n5 ?_ | refine WL_nil ?_ | refine W_seq ?_ | refine W_region ?_ | refine n7 ?_ | refine n8 ?_ | refine W_block ?_ | refine W_skip ?_ | refine W_ret ?_ | refine W_exit ?_ | refine WQ_then ?_ | refine WQ_then_ret ?_ | refine WQ_then_exit ?_ | refine WQ_block_normal ?_ | refine WQ_block_ret ?_ | refine WQ_block_exit ?_ | refine n9 ?_)
              (apply WL_effs; exact rfl; exact rfl; exact rfl; apply E_call; exact rfl; (intro _ _; simp); exact hu; (repeat (first | exact AllE.nil _ | (apply AllE.cons; (focus (first | exact ent_nilBy | exact ent_nilSl | (apply Ent.mem; repeat' (first | exact mcs | apply mct))))))); (intro _; exact rfl); (intro _; exact rfl))
              intro x _
              repeat (first | refine n1 ?_ | refine n2 (fun b _ => ?_) | refine n3 (fun _ _ => ?_) | refine n4 ?_ | refine n5 ?_ | refine WL_nil ?_ | refine W_seq ?_ | refine W_region ?_ | refine n7 ?_ | refine n8 ?_ | refine W_block ?_ | refine W_skip ?_ | refine W_ret ?_ | refine W_exit ?_ | refine WQ_then ?_ | refine WQ_then_ret ?_ | refine WQ_then_exit ?_ | refine WQ_block_normal ?_ | refine WQ_block_ret ?_ | refine WQ_block_exit ?_ | refine n9 ?_)
              (refine W_regionP' [11] [] [0, 1, 2, 3, 4, 5, 6, 7, 8, 9, 10, 11, 12] [1] (by kernel_rfl) (by kernel_rfl) (by repeat (first | exact UZ.nil _ _ | (apply UZ.cons; exact rfl; (intro _; exact rfl)))) (by exact rfl) (by (repeat (first | exact SubO.nil _ | (apply SubO.cons; (focus (repeat' (first | exact Pick.head _ _ | apply Pick.tail))))))) ?_)
              repeat (first | refine p1 ?_ | refine p2 (fun b _ => ?_) | refine p3 (fun _ _ => ?_) | refine p4 ?_ | refine p5 ?_ | refine p7 (fun b => ?_) | refine PL_nil ?_)
              repeat (first | refine n1 ?_ | refine n2 (fun b _ => ?_) | refine n3 (fun _ _ => ?_) | refine n4 ?_ | refine n5 ?_ | refine WL_nil ?_ | refine W_seq ?_ | refine W_region ?_ | refine n7 ?_ | refine n8 ?_ | refine W_block ?_ | refine W_skip ?_ | refine W_ret ?_ | refine W_exit ?_ | refine WQ_then ?_ | refine WQ_then_ret ?_ | refine WQ_then_exit ?_ | refine WQ_block_normal ?_ | refine WQ_block_ret ?_ | refine WQ_block_exit ?_ | refine n9 ?_)
              ((apply WQ_again ((i + 1, x))); (focus exact hi); (focus (omega)); (focus (repeat (first | exact FrIn.nil _ | (apply FrIn.cons; exact rfl; (first | exact rfl | (congr 1; omega) | (simp; done)))))); (focus (repeat (first | exact SubO.nil _ | (apply SubO.cons; (focus (repeat' (first | exact Pick.head _ _ | apply Pick.tail))))))); (focus (repeat (first | exact AllE.nil _ | (apply AllE.cons; (focus (first | exact ent_nilBy | exact ent_nilSl | (apply Ent.mem; repeat' (first | exact mcs | apply mct)))))))))
            · have d2 : ¬ ((kd i).toNat : Int) = 2 := kd_ne (b := 2) c2
              by_cases c3 : kd i = 3
              · have e : encV kd nn tx i = leB 8 (nn i) := by simp only [encV, if_neg c0, if_neg c1, if_neg c2, if_pos c3]
                have eo : outV kd nn tx i ++ leB 8 (nn i) = outV kd nn tx (i + 1) := by rw [outV, e]
                have ev : ((kd i).toNat : Int) = 3 := by rw [c3]; rfl
                skip
                rw [e] at hR
                have hu := U64_at rv (outV kd nn tx i) R (nn i) (by rw [← hR]; exact hlR)
                rw [← hR, eo, Nat.mod_eq_of_lt (show nn i < 256 ^ 8 from hnn i)] at hu
                repeat (first | refine n1 ?_ | refine n2 (fun b _ => ?_) | refine n3 (fun _ _ => ?_) | refine n4 ?_ | refine n5 ?_ | refine WL_nil ?_ | refine W_seq ?_ | refine W_region ?_ | refine n7 ?_ | refine n8 ?_ | refine W_block ?_ | refine W_skip ?_ | refine W_ret ?_ | refine W_exit ?_ | refine WQ_then ?_ | refine WQ_then_ret ?_ | refine WQ_then_exit ?_ | refine WQ_block_normal ?_ | refine WQ_block_ret ?_ | refine WQ_block_exit ?_ | refine n9 ?_)
                (apply WL_effs; exact rfl; exact rfl; exact rfl; apply E_call; exact rfl; (intro _ _; simp); exact hu; (repeat (first | exact AllE.nil _ | (apply AllE.cons; (focus (first | exact ent_nilBy | exact ent_nilSl | (apply Ent.mem; repeat' (first | exact mcs | apply mct))))))); (intro _; exact rfl); (intro _; exact rfl))
                intro x _
                repeat (first | refine n1 ?_ | refine n2 (fun b _ => ?_) | refine n3 (fun _ _ => ?_) | refine n4 ?_ | refine n5 ?_ | refine WL_nil ?_ | refine W_seq ?_ | refine W_region ?_ | refine n7 ?_ | refine n8 ?_ | refine W_block ?_ | refine W_skip ?_ | refine W_ret ?_ | refine W_exit ?_ | refine WQ_then ?_ | refine WQ_then_ret ?_ | refine WQ_then_exit ?_ | refine WQ_block_normal ?_ | refine WQ_block_ret ?_ | refine WQ_block_exit ?_ | refine n9 ?_)
                (refine W_regionP' [10] [] [0, 1, 2, 3, 4, 5, 6, 7, 8, 9, 10, 11] [1] (by kernel_rfl) (by kernel_rfl) (by repeat (first | exact UZ.nil _ _ | (apply UZ.cons; exact rfl; (intro _; exact rfl)))) (by exact rfl) (by (repeat (first | exact SubO.nil _ | (apply SubO.cons; (focus (repeat' (first | exact Pick.head _ _ | apply Pick.tail))))))) ?_)
                repeat (first | refine p1 ?_ | refine p2 (fun b _ => ?_) | refine p3 (fun _ _ => ?_) | refine p4 ?_ | refine p5 ?_ | refine p7 (fun b => ?_) | refine PL_nil ?_)
                repeat (first | refine n1 ?_ | refine n2 (fun b _ => ?_) | refine n3 (fun _ _ => ?_) | refine n4 ?_ | refine n5 ?_ | refine WL_nil ?_ | refine W_seq ?_ | refine W_region ?_ | refine n7 ?_ | refine n8 ?_ | refine W_block ?_ | refine W_skip ?_ | refine W_ret ?_ | refine W_exit ?_ | refine WQ_then ?_ | refine WQ_then_ret ?_ | refine WQ_then_exit ?_ | refine WQ_block_normal ?_ | refine WQ_block_ret ?_ | refine WQ_block_exit ?_ | refine n9 ?_)
                ((apply WQ_again ((i + 1, x))); (focus exact hi); (focus (omega)); (focus (repeat (first | exact FrIn.nil _ | (apply FrIn.cons; exact rfl; (first | exact rfl | (congr 1; omega) | (simp; done)))))); (focus (repeat (first | exact SubO.nil _ | (apply SubO.cons; (focus (repeat' (first | exact Pick.head _ _ | apply Pick.tail))))))); (focus (repeat (first | exact AllE.nil _ | (apply AllE.cons; (focus (first | exact ent_nilBy | exact ent_nilSl | (apply Ent.mem; repeat' (first | exact mcs | apply mct)))))))))
              · have d3 : ¬ ((kd i).toNat : Int) = 3 := kd_ne (b := 3) c3
                have h5 : (tx i).length ≤ 255 := by
                  rcases hki with h | h | h | h | h
                  · exact absurd h c0
                  · exact absurd h c1
                  · exact absurd h c2
                  · exact absurd h c3
                  · exact h
                have e : encV kd nn tx i = leB 1 (tx i).length ++ tx i := by simp only [encV, if_neg c0, if_neg c1, if_neg c2, if_neg c3]
                have eo : outV kd nn tx i ++ (leB 1 (tx i).length ++ tx i) = outV kd nn tx (i + 1) := by rw [outV, e]
                rw [e] at hR
                have hu := text_at rv (outV kd nn tx i) R (tx i) h5 (by rw [← hR]; exact hlR)
                rw [← hR, eo] at hu
                repeat (first | refine n1 ?_ | refine n2 (fun b _ => ?_) | refine n3 (fun _ _ => ?_) | refine n4 ?_ | refine n5 ?_ | refine WL_nil ?_ | refine W_seq ?_ | refine W_region ?_ | refine n7 ?_ | refine n8 ?_ | refine W_block ?_ | refine W_skip ?_ | refine W_ret ?_ | refine W_exit ?_ | refine WQ_then ?_ | refine WQ_then_ret ?_ | refine WQ_then_exit ?_ | refine WQ_block_normal ?_ | refine WQ_block_ret ?_ | refine WQ_block_exit ?_ | refine n9 ?_)
                (apply WL_effs; exact rfl; exact rfl; exact rfl; apply E_call; exact rfl; (intro _ _; simp); exact hu; (repeat (first | exact AllE.nil _ | (apply AllE.cons; (focus (first | exact ent_nilBy | exact ent_nilSl | (apply Ent.mem; repeat' (first | exact mcs | apply mct))))))); (intro _; exact rfl); (intro _; exact rfl))
                intro x _
                repeat (first | refine n1 ?_ | refine n2 (fun b _ => ?_) | refine n3 (fun _ _ => ?_) | refine n4 ?_ | refine n5 ?_ | refine WL_nil ?_ | refine W_seq ?_ | refine W_region ?_ | refine n7 ?_ | refine n8 ?_ | refine W_block ?_ | refine W_skip ?_ | refine W_ret ?_ | refine W_exit ?_ | refine WQ_then ?_ | refine WQ_then_ret ?_ | refine WQ_then_exit ?_ | refine WQ_block_normal ?_ | refine WQ_block_ret ?_ | refine WQ_block_exit ?_ | refine n9 ?_)
                refine W_ent (ent_al (i := i) (ψ := fun i => By (tv i) (tx i)) (by (focus (repeat' (first | exact mcs | apply mct)))) hi) ?_
                have hs := sameY x.1 (tv i) (tx i)
                (refine W_regionP' [10] [] [0, 1, 2, 3, 4, 5, 6, 7, 8, 9, 10, 11] [1] (by kernel_rfl) (by kernel_rfl) (by repeat (first | exact UZ.nil _ _ | (apply UZ.cons; exact rfl; (intro _; exact rfl)))) (by exact rfl) (by (repeat (first | exact SubO.nil _ | (apply SubO.cons; (focus (repeat' (first | exact Pick.head _ _ | apply Pick.tail))))))) ?_)
                repeat (first | refine p1 ?_ | refine p2 (fun b _ => ?_) | refine p3 (fun _ _ => ?_) | refine p4 ?_ | refine p5 ?_ | refine p6 (hs) ?_ | refine p7 (fun b => ?_) | refine PL_nil ?_)
                repeat (first | refine n1 ?_ | refine n2 (fun b _ => ?_) | refine n3 (fun _ _ => ?_) | refine n4 ?_ | refine n5 ?_ | refine WL_nil ?_ | refine W_seq ?_ | refine W_region ?_ | refine n7 ?_ | refine n8 ?_ | refine W_block ?_ | refine W_skip ?_ | refine W_ret ?_ | refine W_exit ?_ | refine WQ_then ?_ | refine WQ_then_ret ?_ | refine WQ_then_exit ?_ | refine WQ_block_normal ?_ | refine WQ_block_ret ?_ | refine WQ_block_exit ?_ | refine n9 ?_)
                ((apply WQ_again ((i + 1, x.2))); (focus exact hi); (focus (omega)); (focus (repeat (first | exact FrIn.nil _ | (apply FrIn.cons; exact rfl; (first | exact rfl | (congr 1; omega) | (simp; done)))))); (focus (repeat (first | exact SubO.nil _ | (apply SubO.cons; (focus (repeat' (first | exact Pick.head _ _ | apply Pick.tail))))))); (focus (repeat (first | exact AllE.nil _ | (apply AllE.cons; (focus (first | exact ent_nilBy | exact ent_nilSl | (apply Ent.mem; repeat' (first | exact mcs | apply mct)))))))))
      · obtain rfl : i = k := by omega
        repeat (first | refine n1 ?_ | refine n2 (fun b _ => ?_) | refine n3 (fun _ _ => ?_) | refine n4 ?_ | refine n5 ?_ | refine n6 (hdone) ?_ | refine WL_nil ?_ | refine W_seq ?_ | refine W_region ?_ | refine n7 ?_ | refine n8 ?_ | refine W_block ?_ | refine W_skip ?_ | refine W_ret ?_ | refine W_exit ?_ | refine WQ_then ?_ | refine WQ_then_ret ?_ | refine WQ_then_exit ?_ | refine WQ_block_normal ?_ | refine WQ_block_ret ?_ | refine WQ_block_exit ?_ | refine n9 ?_)
        ((apply ret1 Try.results8 ( ())); (focus (first | trivial | assumption | omega)); (focus (first | exact RV_tmp rfl | (apply RV_cellN; exact rfl; (repeat' (first | exact Pick.head _ _ | apply Pick.tail)); (intro _; exact rfl); (intro _; exact rfl); exact rfl) | (apply RV_cell1; exact rfl; (repeat' (first | exact Pick.head _ _ | apply Pick.tail)); (intro _; exact rfl); exact rfl)));  (focus (first | exact rfl | (simp; done))); (focus (repeat (first | exact SubO.nil _ | (apply SubO.cons; (focus (repeat' (first | exact Pick.head _ _ | apply Pick.tail))))))); (focus (repeat (first | exact AllE.nil _ | (apply AllE.cons; (focus (first | exact ent_nilBy | exact ent_nilSl | (apply Ent.mem; repeat' (first | exact mcs | apply mct)))))))))
end Go.Proofs.Ytlbihmfpgpfboaa
