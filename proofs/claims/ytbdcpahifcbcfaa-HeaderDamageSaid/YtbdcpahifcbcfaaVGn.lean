/-
  'Decode', the code's.
-/
import Derived.Test.YtbdcpahifcbcfaaVGm
namespace Go.Proofs.Ytbdcpahifcbcfaa
open Go Go.RowKit Go.Hs
def flg (b : UInt8) (i : Nat) : Bool := decide (b.toNat / 2 ^ i % 2 = 1)
def flq (n : Nat) (i : Nat) : Bool := decide (n / 2 ^ i % 2 = 1)
def hdA (b0 b1 : UInt8) : Hd := ⟨UInt8.ofNat (b0.toNat / 4 % 4), UInt8.ofNat (b0.toNat / 16), flg b1 0, flg b1 1, flg b1 2, flg b1 3, flg b1 4, flg b1 5, flg b1 6, 0, zA6, zA6, zA6, zA6, 0, 0, 0, 0, false, false⟩
def setA (h : Hd) (i : Nat) (a : A6) : Hd := match i with
  | 0 => { h with a1 := a }
  | 1 => { h with a2 := a }
  | 2 => { h with a3 := a }
  | _ => { h with a4 := a }
def a6v (l : List UInt8) : A6 := ⟨l.getD 0 0, l.getD 1 0, l.getD 2 0, l.getD 3 0, l.getD 4 0, l.getD 5 0⟩
def adC (c : Cu) : Nat → Cu
  | 0 => c
  | i + 1 => tkC (adC c i) 6
def adH (c : Cu) (h : Hd) : Nat → Hd
  | 0 => h
  | i + 1 => setA (adH c h i) i (a6v (tkV (adC c i) 6))
def s1 (ys : List UInt8) : Cu := tkC (ys, false) 2
def dB (ys : List UInt8) (i : Nat) : UInt8 := (tkV (ys, false) 2).getD i 0
def hA (ys : List UInt8) : Hd := hdA (dB ys 0) (dB ys 1)
def s2 (ys : List UInt8) : Cu := tkC (s1 ys) 2
def setD (h : Hd) (n : Int) : Hd := { h with dur := n }
def hB (ys : List UInt8) : Hd := setD (hA ys) (c2N (tkV (s1 ys) 2))
def s3 (ys : List UInt8) : Cu := adC (s2 ys) (befN (hA ys))
def hC (ys : List UInt8) : Hd := adH (s2 ys) (hB ys) (befN (hA ys))
def setS (h : Hd) (v : Nat) : Hd := { h with seq := ((v / 16 : Nat) : Int), frag := ((v % 16 : Nat) : Int) }
def stS (p : Bool) (c : Cu) : Cu := bif p then tkC c 2 else c
def stH (p : Bool) (c : Cu) (h : Hd) : Hd := bif p then setS h (c2N (tkV c 2)) else h
def s4 (ys : List UInt8) : Cu := stS (prtB (hA ys).kind) (s3 ys)
def hD (ys : List UInt8) : Hd := stH (prtB (hA ys).kind) (s3 ys) (hC ys)
def ftS (p : Bool) (c : Cu) : Cu := bif p then tkC c 6 else c
def ftH (p : Bool) (c : Cu) (h : Hd) : Hd := bif p then setA h 3 (a6v (tkV c 6)) else h
def s5 (ys : List UInt8) : Cu := ftS (fourB (hA ys)) (s4 ys)
def hE (ys : List UInt8) : Hd := ftH (fourB (hA ys)) (s4 ys) (hD ys)
def setQ (h : Hd) (q : Nat) : Hd := { h with tid := ((q % 8 : Nat) : Int), eosp := flq q 4, ack := UInt8.ofNat (q / 32 % 4), amsdu := flq q 7 }
def qtH (p : Bool) (c : Cu) (h : Hd) : Hd := bif p then setQ h (c2N (tkV c 2)) else h
def oddV (q : Nat) : Bool := flq q 3 || decide (q / 256 ≠ 0)
def oddP (p : Bool) (c : Cu) : Bool := bif p then oddV (c2N (tkV c 2)) else false
def trB (ys : List UInt8) : Bool := trafB (hA ys).kind (hA ys).sub
def s6 (ys : List UInt8) : Cu := stS (trB ys) (s5 ys)
def hF (ys : List UInt8) : Hd := qtH (trB ys) (s5 ys) (hE ys)
def oddB (ys : List UInt8) : Bool := oddP (trB ys) (s5 ys)
def refB (ys : List UInt8) : Bool := oddB ys || (!hdB (hF ys) || (barB (hF ys) && decide (0 < (s6 ys).1.length)))
def decE (ys : List UInt8) : Int :=
  if ys.length < 2 then 10
  else if knB (hA ys).kind (hA ys).sub = false ∨ (dB ys 0).toNat % 4 ≠ 0 ∨ 128 ≤ (dB ys 1).toNat then 12
  else if (s6 ys).2 = true then 10
  else if refB ys = true then 12
  else if 2304 < (s6 ys).1.length then 11
  else 0
def decH (ys : List UInt8) : Hd := if decE ys = 0 then hF ys else h0_
def decB (ys : List UInt8) : List UInt8 := if decE ys = 0 then (s6 ys).1 else []

theorem u8_andP (a : UInt8) (i : Nat) (hi : i < 8) : bits .and .u8 (a.toNat : Int) ((2 ^ i : Nat) : Int) = ((a.toNat / 2 ^ i % 2 * 2 ^ i : Nat) : Int) := by
  have h : ∀ n : Fin 256, ∀ i : Fin 8, bits .and .u8 (n.val : Int) ((2 ^ i.val : Nat) : Int) = ((n.val / 2 ^ i.val % 2 * 2 ^ i.val : Nat) : Int) := by decide +kernel
  exact h ⟨a.toNat, a.toNat_lt⟩ ⟨i, hi⟩
theorem flq_ne (n i : Nat) : decide (((n / 2 ^ i % 2 * 2 ^ i : Nat) : Int) ≠ 0) = flq n i := by
  have hp : 0 < 2 ^ i := Nat.pow_pos (by decide)
  unfold flq
  generalize 2 ^ i = p at *
  have h2 : n / p % 2 < 2 := Nat.mod_lt _ (by decide)
  generalize n / p % 2 = m at *
  have hm : m = 0 ∨ m = 1 := by omega
  rcases hm with rfl | rfl
  · rw [Nat.zero_mul]; rfl
  · rw [Nat.one_mul, decide_eq_true (by omega), decide_eq_true rfl]
theorem flg_ne (a : UInt8) (i : Nat) : decide (((a.toNat / 2 ^ i % 2 * 2 ^ i : Nat) : Int) ≠ 0) = flg a i := flq_ne a.toNat i
theorem u8_shr2 (a : UInt8) : ((a.toNat : Int)).fdiv (2 ^ (min (2 : Int).toNat IntKind.u8.bits)) = ((a.toNat / 4 : Nat) : Int) := by
  rw [show ((2 : Int) ^ (min (2 : Int).toNat IntKind.u8.bits)) = 4 from rfl, Int.fdiv_eq_ediv_of_nonneg _ (by decide)]
  omega
theorem u8_shr4 (a : UInt8) : ((a.toNat : Int)).fdiv (2 ^ (min (4 : Int).toNat IntKind.u8.bits)) = (((UInt8.ofNat (a.toNat / 16)).toNat : Nat) : Int) := by
  have := a.toNat_lt
  rw [show ((2 : Int) ^ (min (4 : Int).toNat IntKind.u8.bits)) = 16 from rfl, Int.fdiv_eq_ediv_of_nonneg _ (by decide), UInt8.toNat_ofNat', Nat.mod_eq_of_lt (show a.toNat / 16 < 2 ^ 8 by omega)]
  omega
theorem u8_kind (a : UInt8) : bits .and .u8 ((a.toNat / 4 : Nat) : Int) 3 = (((UInt8.ofNat (a.toNat / 4 % 4)).toNat : Nat) : Int) := by
  have h : ∀ n : Fin 256, bits .and .u8 ((n.val / 4 : Nat) : Int) 3 = (((UInt8.ofNat (n.val / 4 % 4)).toNat : Nat) : Int) := by decide +kernel
  exact h ⟨a.toNat, a.toNat_lt⟩
theorem u8_and128 (a : UInt8) : bits .and .u8 (a.toNat : Int) 128 = ((a.toNat / 128 * 128 : Nat) : Int) := by
  have h : ∀ n : Fin 256, bits .and .u8 (n.val : Int) 128 = ((n.val / 128 * 128 : Nat) : Int) := by decide +kernel
  exact h ⟨a.toNat, a.toNat_lt⟩
theorem a6v_map {l : List UInt8} (h : l.length = 6) : l.map bcell = [bcell (a6v l).a0, bcell (a6v l).a1, bcell (a6v l).a2, bcell (a6v l).a3, bcell (a6v l).a4, bcell (a6v l).a5] := by
  match l, h with
  | [_, _, _, _, _, _], _ => rfl
theorem adH_put (c : Cu) (h : Hd) (k : Nat) (hk : k < 3) (hl : (tkV (adC c k) 6).length = 6) : (adH c h k).cells.take (10 + 6 * k) ++ (tkV (adC c k) 6).map bcell ++ (adH c h k).cells.drop (10 + 6 * k + 6) = (adH c h (k + 1)).cells := by
  rw [a6v_map hl]
  have h3 : k = 0 ∨ k = 1 ∨ k = 2 := by omega
  show _ = (setA (adH c h k) k (a6v (tkV (adC c k) 6))).cells
  generalize adH c h k = H
  generalize a6v (tkV (adC c k) 6) = a
  rcases h3 with rfl | rfl | rfl <;> rfl
theorem put3 (h : Hd) (l : List UInt8) (hl : l.length = 6) : h.cells.take 28 ++ l.map bcell ++ h.cells.drop (28 + 6) = (setA h 3 (a6v l)).cells := by
  rw [a6v_map hl]
  rfl
theorem i64_shrN (v k : Nat) (hk : k ≤ 64) : (v : Int).fdiv (2 ^ (min ((k : Int)).toNat IntKind.i64.bits)) = ((v / 2 ^ k : Nat) : Int) := by
  have e2 : min ((k : Int)).toNat IntKind.i64.bits = k := by
    rw [Int.toNat_natCast]
    exact Nat.min_eq_left hk
  rw [e2, Int.fdiv_eq_ediv_of_nonneg _ (by exact Int.le_of_lt (Int.pow_pos (by decide)))]
  rw [Int.natCast_ediv, Int.natCast_pow]
  rfl
theorem i64_and_nat (a b : Nat) (ha : a < 4611686018427387904) (hb : b < 4611686018427387904) : bits .and .i64 (a : Int) (b : Int) = ((a &&& b : Nat) : Int) := by
  have hx : a &&& b ≤ a := Nat.and_le_left
  show IntKind.i64.wrap ((BitVec.ofInt 64 (a : Int) &&& BitVec.ofInt 64 (b : Int)).toNat : Int) = _
  rw [BitVec.toNat_and, BitVec.ofInt_natCast, BitVec.ofInt_natCast, BitVec.toNat_ofNat, BitVec.toNat_ofNat, Nat.mod_eq_of_lt (by omega), Nat.mod_eq_of_lt (by omega)]
  exact wx_i64 (by omega)
theorem and_pow (a i : Nat) : a &&& 2 ^ i = a / 2 ^ i % 2 * 2 ^ i := by
  rw [← Nat.toNat_testBit]
  apply Nat.eq_of_testBit_eq
  intro j
  rw [Nat.testBit_and, Nat.testBit_two_pow]
  by_cases e : i = j
  · subst e
    cases h : a.testBit i
    · simp
    · simp [Nat.testBit_two_pow]
  · rw [decide_eq_false e, Bool.and_false]
    cases h : a.testBit i
    · simp
    · simp [Nat.testBit_two_pow, e]
theorem i64_andP (a i : Nat) (ha : a < 4611686018427387904) (hi : i < 16) : bits .and .i64 (a : Int) ((2 ^ i : Nat) : Int) = ((a / 2 ^ i % 2 * 2 ^ i : Nat) : Int) := by
  have hp : 2 ^ i ≤ 2 ^ 16 := Nat.pow_le_pow_right (by decide) (by omega)
  have h16 : (2 : Nat) ^ 16 = 65536 := by decide
  rw [i64_and_nat _ _ ha (by omega), and_pow]
theorem i64_15N (v : Nat) : bits .and .i64 (v : Int) 15 = ((v % 16 : Nat) : Int) := by rw [i64_and15]; omega
theorem i64_7N (v : Nat) : bits .and .i64 (v : Int) 7 = ((v % 8 : Nat) : Int) := by rw [i64_and7]; omega
theorem i64_3N (v : Nat) : bits .and .i64 (v : Int) 3 = ((v % 4 : Nat) : Int) := by rw [i64_and3]; omega
theorem quoN (q : Nat) (hq : q < 65536) : IntKind.i64.wrap ((q : Int).tdiv 32) = ((q / 32 : Nat) : Int) := by
  rw [show (q : Int).tdiv 32 = ((q / 32 : Nat) : Int) from rfl]
  exact wx_i64 (by omega)
theorem w64_nat (n : Nat) (h : n < 65536) : w64 (n : Int) := by
  have h : (Lit.int .i64 (n : Int)).wf = true := by
    simp [Lit.wf, IntKind.min, IntKind.max, IntKind.signed, IntKind.bits] <;> omega
  exact h
theorem setA_w {h : Hd} (hw : h.w) (i : Nat) (a : A6) : (setA h i a).w := by
  unfold setA
  split <;> exact hw
theorem adH_w {h : Hd} (hw : h.w) (c : Cu) : ∀ n, (adH c h n).w
  | 0 => hw
  | n + 1 => setA_w (adH_w hw c n) _ _
theorem hF_w (ys : List UInt8) : (hF ys).w := by
  have w0 : (hA ys).w := ⟨w64_zero, w64_zero, w64_zero, w64_zero⟩
  have w1 : (hB ys).w := ⟨w64_nat _ (c2N_lt _), w0.2⟩
  have w2 : (hC ys).w := adH_w w1 _ _
  have w3 : (hD ys).w := by
    show (stH (prtB (hA ys).kind) (s3 ys) (hC ys)).w
    cases prtB (hA ys).kind
    · exact w2
    · have := c2N_lt (tkV (s3 ys) 2)
      exact ⟨w2.1, w64_nat _ (by omega), w64_nat _ (by omega), w2.2.2.2⟩
  have w4 : (hE ys).w := by
    show (ftH (fourB (hA ys)) (s4 ys) (hD ys)).w
    cases fourB (hA ys)
    · exact w3
    · exact setA_w w3 3 (a6v (tkV (s4 ys) 6))
  show (qtH (trB ys) (s5 ys) (hE ys)).w
  cases trB ys
  · exact w4
  · have := c2N_lt (tkV (s5 ys) 2)
    exact ⟨w4.1, w4.2.1, w4.2.2.1, w64_nat _ (by omega)⟩
theorem adC_len (c : Cu) : ∀ n, (adC c n).1.length ≤ c.1.length
  | 0 => Nat.le_refl _
  | n + 1 => Nat.le_trans (tkC_len _ 6) (adC_len c n)
attribute [local irreducible] WL W WQ PL Runs Effs AllE Ent SubO FrIn Pick OneC Ones CellsE PartsE SeqE UZ By Sl Pt Ct

set_option maxRecDepth 100000 in
set_option maxHeartbeats 16000000 in
theorem decode_fn (dv : Value) (xs : List UInt8) (hx : xs.length ≤ 1000000) (ys : List UInt8) (hys : ys = C03.vB C03.P32 C03.cb32 4 xs) (E : Int) (hEq : E = if C03.vE C03.P32 C03.cb32 4 xs = 0 then decE ys else C03.vE C03.P32 C03.cb32 4 xs) :
    Ct Try.prog 10 [dv] [] [By dv xs]
    (X := Value) (fun _ => True) (fun x => .tuple #[(⟨if E = 0 then hF ys else h0_, x, if E = 0 then (s6 ys).1 else []⟩ : Fm).val, .int .i64 E]) (fun _ => []) (fun x => [By x (if E = 0 then (s6 ys).1 else [])]) := by
  have hv := C03.verify_fnB dv xs (by omega)
  rw [← hys] at hv
  have hyl : ys.length ≤ 1000000 := by
    rw [hys]
    unfold C03.vB
    split
    · rw [List.length_take]; omega
    · exact Nat.zero_le _
  clear hys
  by_cases c0 : C03.vE C03.P32 C03.cb32 4 xs = 0
  · rw [if_pos c0] at hEq
    rw [c0] at hv
    clear c0
    have ht := fun c bv => take_fn c bv (ys, false) 2 (.inl rfl) hyl
    dsimp only at ht
    rw [show ((2 : Nat) : Int) = 2 from rfl] at ht
    by_cases c1 : ys.length < 2
    · have e2 : tkC (ys, false) 2 = ([], true) := by unfold tkC; rw [if_neg (show ¬ 2 ≤ ys.length by omega)]
      rw [e2] at ht
      dsimp only at ht
      rw [show E = 10 by rw [hEq]; exact if_pos c1]
      refine Ct_intro Try.func10 rfl Try.ntmps10 (by simp) _ rfl (fun w0 O0 => ?_)
      repeat (first | refine n1 ?_ | refine n2 (fun b _ => ?_) | refine n3 (fun _ _ => ?_) | refine n4 ?_ | refine n5 ?_ | refine WL_nil ?_ | refine W_seq ?_ | refine W_region ?_ | refine n7 ?_ | refine n8 ?_ | refine W_block ?_ | refine W_skip ?_ | refine W_ret ?_ | refine W_exit ?_ | refine WQ_then ?_ | refine WQ_then_ret ?_ | refine WQ_then_exit ?_ | refine WQ_block_normal ?_ | refine WQ_block_ret ?_ | refine WQ_block_exit ?_ | refine n9 ?_)
      (apply WL_effs; exact rfl; exact rfl; exact rfl; apply E_call; exact rfl; (intro _ _; simp); exact hv; (repeat (first | exact AllE.nil _ | (apply AllE.cons; (focus (first | exact ent_nilBy | exact ent_nilSl | (apply Ent.mem; repeat' (first | exact mcs | apply mct))))))); (intro _; exact rfl); (intro _; exact rfl))
      intro z _
      repeat (first | refine n1 ?_ | refine n2 (fun b _ => ?_) | refine n3 (fun _ _ => ?_) | refine n4 ?_ | refine n5 ?_ | refine WL_nil ?_ | refine W_seq ?_ | refine W_region ?_ | refine n7 ?_ | refine n8 ?_ | refine W_block ?_ | refine W_skip ?_ | refine W_ret ?_ | refine W_exit ?_ | refine WQ_then ?_ | refine WQ_then_ret ?_ | refine WQ_then_exit ?_ | refine WQ_block_normal ?_ | refine WQ_block_ret ?_ | refine WQ_block_exit ?_ | refine n9 ?_)
      (apply WL_effs; exact rfl; exact rfl; exact rfl; apply E_callO; exact rfl; (intro _ _; simp); exact ht b z; (first | (apply perm1; (focus (repeat' (first | exact Pick.head _ _ | apply Pick.tail)))) | (apply perm2; (focus (repeat' (first | exact Pick.head _ _ | apply Pick.tail))); (focus (repeat' (first | exact Pick.head _ _ | apply Pick.tail)))) | (apply perm3; (focus (repeat' (first | exact Pick.head _ _ | apply Pick.tail))); (focus (repeat' (first | exact Pick.head _ _ | apply Pick.tail))); (focus (repeat' (first | exact Pick.head _ _ | apply Pick.tail))))); (repeat (first | exact AllE.nil _ | (apply AllE.cons; (focus (first | exact ent_nilBy | exact ent_nilSl | (apply Ent.mem; repeat' (first | exact mcs | apply mct))))))); (intro _; exact rfl); (intro _; exact rfl))
      intro x _
      repeat (first | refine n1 ?_ | refine n2 (fun b _ => ?_) | refine n3 (fun _ _ => ?_) | refine n4 ?_ | refine n5 ?_ | refine WL_nil ?_ | refine W_seq ?_ | refine W_region ?_ | refine n7 ?_ | refine n8 ?_ | refine W_block ?_ | refine W_skip ?_ | refine W_ret ?_ | refine W_exit ?_ | refine WQ_then ?_ | refine WQ_then_ret ?_ | refine WQ_then_exit ?_ | refine WQ_block_normal ?_ | refine WQ_block_ret ?_ | refine WQ_block_exit ?_ | refine n9 ?_)
      refine WQ_ent (ψ := By (.slice none 0 0) []) ent_nilBy ?_
      ((apply ret2 Try.results10 ( Value.slice none 0 0)); (focus (first | trivial | assumption | omega)); (focus (first | exact RV_tmp rfl | (apply RV_cellN; exact rfl; (repeat' (first | exact Pick.head _ _ | apply Pick.tail)); (intro _; exact rfl); (intro _; exact rfl); exact rfl) | (apply RV_cell1; exact rfl; (repeat' (first | exact Pick.head _ _ | apply Pick.tail)); (intro _; exact rfl); exact rfl))); (focus (first | exact RV_tmp rfl | (apply RV_cellN; exact rfl; (repeat' (first | exact Pick.head _ _ | apply Pick.tail)); (intro _; exact rfl); (intro _; exact rfl); exact rfl) | (apply RV_cell1; exact rfl; (repeat' (first | exact Pick.head _ _ | apply Pick.tail)); (intro _; exact rfl); exact rfl)));  (focus (first | exact rfl | (simp; done))); (focus (repeat (first | exact SubO.nil _ | (apply SubO.cons; (focus (repeat' (first | exact Pick.head _ _ | apply Pick.tail))))))); (focus (repeat (first | exact AllE.nil _ | (apply AllE.cons; (focus (first | exact ent_nilBy | exact ent_nilSl | (apply Ent.mem; repeat' (first | exact mcs | apply mct)))))))))
    · have e2 : (tkC (ys, false) 2).2 = false := by unfold tkC; rw [if_pos (show 2 ≤ ys.length by omega)]
      rw [e2] at ht
      change ∀ c bv, Ct Try.prog _ _ _ _ _ _ _ (fun x : Value × Value => [By x.1 (tkV (ys, false) 2), By x.2 (s1 ys).1]) at ht
      have hl := tkV_length (ys, false) 2
      have q1 := ((tkV (ys, false) 2).getD 1 0).toNat_lt
      have hk : CtD Try.prog 33 [bcell (UInt8.ofNat (((tkV (ys, false) 2).getD 0 0).toNat / 4 % 4)), bcell (UInt8.ofNat (((tkV (ys, false) 2).getD 0 0).toNat / 16))] [] (.tuple #[.agg #[.bool (prtB (hA ys).kind), .bool (prtB (hA ys).kind), .bool (trB ys)], .bool (knB (hA ys).kind (hA ys).sub)]) := known_fn _ _
      refine Ct_intro Try.func10 rfl Try.ntmps10 (by simp) _ rfl (fun w0 O0 => ?_)
      repeat (first | refine n1 ?_ | refine n2 (fun b _ => ?_) | refine n3 (fun _ _ => ?_) | refine n4 ?_ | refine n5 ?_ | refine WL_nil ?_ | refine W_seq ?_ | refine W_region ?_ | refine n7 ?_ | refine n8 ?_ | refine W_block ?_ | refine W_skip ?_ | refine W_ret ?_ | refine W_exit ?_ | refine WQ_then ?_ | refine WQ_then_ret ?_ | refine WQ_then_exit ?_ | refine WQ_block_normal ?_ | refine WQ_block_ret ?_ | refine WQ_block_exit ?_ | refine n9 ?_)
      obtain ⟨b0, rfl⟩ : ∃ b0, b0 = b := ⟨b, rfl⟩
      (apply WL_effs; exact rfl; exact rfl; exact rfl; apply E_call; exact rfl; (intro _ _; simp); exact hv; (repeat (first | exact AllE.nil _ | (apply AllE.cons; (focus (first | exact ent_nilBy | exact ent_nilSl | (apply Ent.mem; repeat' (first | exact mcs | apply mct))))))); (intro _; exact rfl); (intro _; exact rfl))
      intro z _
      repeat (first | refine n1 ?_ | refine n2 (fun b _ => ?_) | refine n3 (fun _ _ => ?_) | refine n4 ?_ | refine n5 ?_ | refine WL_nil ?_ | refine W_seq ?_ | refine W_region ?_ | refine n7 ?_ | refine n8 ?_ | refine W_block ?_ | refine W_skip ?_ | refine W_ret ?_ | refine W_exit ?_ | refine WQ_then ?_ | refine WQ_then_ret ?_ | refine WQ_then_exit ?_ | refine WQ_block_normal ?_ | refine WQ_block_ret ?_ | refine WQ_block_exit ?_ | refine n9 ?_)
      obtain ⟨b1, rfl⟩ : ∃ b1, b1 = b := ⟨b, rfl⟩
      (apply WL_effs; exact rfl; exact rfl; exact rfl; apply E_callO; exact rfl; (intro _ _; simp); exact ht b1 z; (first | (apply perm1; (focus (repeat' (first | exact Pick.head _ _ | apply Pick.tail)))) | (apply perm2; (focus (repeat' (first | exact Pick.head _ _ | apply Pick.tail))); (focus (repeat' (first | exact Pick.head _ _ | apply Pick.tail)))) | (apply perm3; (focus (repeat' (first | exact Pick.head _ _ | apply Pick.tail))); (focus (repeat' (first | exact Pick.head _ _ | apply Pick.tail))); (focus (repeat' (first | exact Pick.head _ _ | apply Pick.tail))))); (repeat (first | exact AllE.nil _ | (apply AllE.cons; (focus (first | exact ent_nilBy | exact ent_nilSl | (apply Ent.mem; repeat' (first | exact mcs | apply mct))))))); (intro _; exact rfl); (intro _; exact rfl))
      intro x _
      repeat (first | refine n1 ?_ | refine n2 (fun b _ => ?_) | refine n3 (fun _ _ => ?_) | refine n4 ?_ | refine n5 ?_ | refine WL_nil ?_ | refine W_seq ?_ | refine W_region ?_ | refine n7 ?_ | refine n8 ?_ | refine W_block ?_ | refine W_skip ?_ | refine W_ret ?_ | refine W_exit ?_ | refine WQ_then ?_ | refine WQ_then_ret ?_ | refine WQ_then_exit ?_ | refine WQ_block_normal ?_ | refine WQ_block_ret ?_ | refine WQ_block_exit ?_ | refine n9 ?_)
      (refine W_regionP' [11] [10] [0, 1, 2, 3, 4, 5, 6, 7, 8, 9, 10, 11] [] (by kernel_rfl) (by kernel_rfl) (by repeat (first | exact UZ.nil _ _ | (apply UZ.cons; exact rfl; (intro _; exact rfl)))) (by exact rfl) (by (repeat (first | exact SubO.nil _ | (apply SubO.cons; (focus (repeat' (first | exact Pick.head _ _ | apply Pick.tail))))))) ?_)
      repeat (first | refine p1 ?_ | refine p2 (fun b _ => ?_) | refine p3 (fun _ _ => ?_) | refine p4 ?_ | refine p5 ?_ | refine p7 (fun b => ?_) | refine PL_nil ?_)
      refine PL_runs rfl rfl rfl rfl rfl (R_shr rfl rfl (by decide) (u8_shr2 _)) ?_
      refine PL_runs rfl rfl rfl rfl rfl (R_and rfl rfl (u8_kind _)) ?_
      repeat (first | refine p1 ?_ | refine p2 (fun b _ => ?_) | refine p3 (fun _ _ => ?_) | refine p4 ?_ | refine p5 ?_ | refine p7 (fun b => ?_) | refine PL_nil ?_)
      refine PL_runs rfl rfl rfl rfl rfl (R_shr rfl rfl (by decide) (u8_shr4 _)) ?_
      repeat (first | refine p1 ?_ | refine p2 (fun b _ => ?_) | refine p3 (fun _ _ => ?_) | refine p4 ?_ | refine p5 ?_ | refine p7 (fun b => ?_) | refine PL_nil ?_)
      repeat (first | refine n1 ?_ | refine n2 (fun b _ => ?_) | refine n3 (fun _ _ => ?_) | refine n4 ?_ | refine n5 ?_ | refine WL_nil ?_ | refine W_seq ?_ | refine W_region ?_ | refine n7 ?_ | refine n8 ?_ | refine W_block ?_ | refine W_skip ?_ | refine W_ret ?_ | refine W_exit ?_ | refine WQ_then ?_ | refine WQ_then_ret ?_ | refine WQ_then_exit ?_ | refine WQ_block_normal ?_ | refine WQ_block_ret ?_ | refine WQ_block_exit ?_ | refine n9 ?_)
      obtain ⟨b2, rfl⟩ : ∃ b2, b2 = b := ⟨b, rfl⟩
      cases hkn : knB (hA ys).kind (hA ys).sub with
      | false =>
        rw [hkn] at hk
        obtain rfl : E = 12 := by rw [hEq]; unfold decE; rw [if_neg c1, if_pos (.inl hkn)]
        repeat (first | refine n1 ?_ | refine n2 (fun b _ => ?_) | refine n3 (fun _ _ => ?_) | refine n4 ?_ | refine n5 ?_ | refine n6 (hk) ?_ | refine n6v (hk) ?_ | refine WL_nil ?_ | refine W_seq ?_ | refine W_region ?_ | refine n7 ?_ | refine n8 ?_ | refine W_block ?_ | refine W_skip ?_ | refine W_ret ?_ | refine W_exit ?_ | refine WQ_then ?_ | refine WQ_then_ret ?_ | refine WQ_then_exit ?_ | refine WQ_block_normal ?_ | refine WQ_block_ret ?_ | refine WQ_block_exit ?_ | refine n9 ?_)
        refine WQ_ent (ψ := By (.slice none 0 0) []) ent_nilBy ?_
        ((apply ret2 Try.results10 ( Value.slice none 0 0)); (focus (first | trivial | assumption | omega)); (focus (first | exact RV_tmp rfl | (apply RV_cellN; exact rfl; (repeat' (first | exact Pick.head _ _ | apply Pick.tail)); (intro _; exact rfl); (intro _; exact rfl); exact rfl) | (apply RV_cell1; exact rfl; (repeat' (first | exact Pick.head _ _ | apply Pick.tail)); (intro _; exact rfl); exact rfl))); (focus (first | exact RV_tmp rfl | (apply RV_cellN; exact rfl; (repeat' (first | exact Pick.head _ _ | apply Pick.tail)); (intro _; exact rfl); (intro _; exact rfl); exact rfl) | (apply RV_cell1; exact rfl; (repeat' (first | exact Pick.head _ _ | apply Pick.tail)); (intro _; exact rfl); exact rfl)));  (focus (first | exact rfl | (simp; done))); (focus (repeat (first | exact SubO.nil _ | (apply SubO.cons; (focus (repeat' (first | exact Pick.head _ _ | apply Pick.tail))))))); (focus (repeat (first | exact AllE.nil _ | (apply AllE.cons; (focus (first | exact ent_nilBy | exact ent_nilSl | (apply Ent.mem; repeat' (first | exact mcs | apply mct)))))))))
      | true =>
        rw [hkn] at hk
        by_cases c2 : ((tkV (ys, false) 2).getD 0 0).toNat % 4 = 0
        · by_cases c3 : ((tkV (ys, false) 2).getD 1 0).toNat < 128
          · repeat (first | refine n1 ?_ | refine n2 (fun b _ => ?_) | refine n3 (fun _ _ => ?_) | refine n4 ?_ | refine n5 ?_ | refine n6 (hk) ?_ | refine n6v (hk) ?_ | refine WL_nil ?_ | refine W_seq ?_ | refine W_region ?_ | refine n7 ?_ | refine n8 ?_ | refine W_block ?_ | refine W_skip ?_ | refine W_ret ?_ | refine W_exit ?_ | refine WQ_then ?_ | refine WQ_then_ret ?_ | refine WQ_then_exit ?_ | refine WQ_block_normal ?_ | refine WQ_block_ret ?_ | refine WQ_block_exit ?_ | refine n9 ?_)
            refine WL_runs rfl rfl rfl (R_and rfl rfl (u8_and3 _)) ?_
            repeat (first | refine n1 ?_ | refine n2 (fun b _ => ?_) | refine n3 (fun _ _ => ?_) | refine n4 ?_ | refine n5 ?_ | refine WL_nil ?_ | refine W_seq ?_ | refine W_region ?_ | refine n7 ?_ | refine n8 ?_ | refine W_block ?_ | refine W_skip ?_ | refine W_ret ?_ | refine W_exit ?_ | refine WQ_then ?_ | refine WQ_then_ret ?_ | refine WQ_then_exit ?_ | refine WQ_block_normal ?_ | refine WQ_block_ret ?_ | refine WQ_block_exit ?_ | refine n9 ?_)
            refine WL_runs rfl rfl rfl (R_and rfl rfl (u8_and128 _)) ?_
            repeat (first | refine n1 ?_ | refine n2 (fun b _ => ?_) | refine n3 (fun _ _ => ?_) | refine n4 ?_ | refine n5 ?_ | refine WL_nil ?_ | refine W_seq ?_ | refine W_region ?_ | refine n7 ?_ | refine n8 ?_ | refine W_block ?_ | refine W_skip ?_ | refine W_ret ?_ | refine W_exit ?_ | refine WQ_then ?_ | refine WQ_then_ret ?_ | refine WQ_then_exit ?_ | refine WQ_block_normal ?_ | refine WQ_block_ret ?_ | refine WQ_block_exit ?_ | refine n9 ?_)
            refine WL_runs rfl rfl rfl (R_and rfl rfl (u8_andP _ 0 (by decide))) ?_
            refine WL_runs rfl rfl rfl (R_cmp rfl rfl rfl (flg_ne _ 0)) ?_
            repeat (first | refine n1 ?_ | refine n2 (fun b _ => ?_) | refine n3 (fun _ _ => ?_) | refine n4 ?_ | refine n5 ?_ | refine WL_nil ?_ | refine W_seq ?_ | refine W_region ?_ | refine n7 ?_ | refine n8 ?_ | refine W_block ?_ | refine W_skip ?_ | refine W_ret ?_ | refine W_exit ?_ | refine WQ_then ?_ | refine WQ_then_ret ?_ | refine WQ_then_exit ?_ | refine WQ_block_normal ?_ | refine WQ_block_ret ?_ | refine WQ_block_exit ?_ | refine n9 ?_)
            refine WL_runs rfl rfl rfl (R_and rfl rfl (u8_andP _ 1 (by decide))) ?_
            refine WL_runs rfl rfl rfl (R_cmp rfl rfl rfl (flg_ne _ 1)) ?_
            repeat (first | refine n1 ?_ | refine n2 (fun b _ => ?_) | refine n3 (fun _ _ => ?_) | refine n4 ?_ | refine n5 ?_ | refine WL_nil ?_ | refine W_seq ?_ | refine W_region ?_ | refine n7 ?_ | refine n8 ?_ | refine W_block ?_ | refine W_skip ?_ | refine W_ret ?_ | refine W_exit ?_ | refine WQ_then ?_ | refine WQ_then_ret ?_ | refine WQ_then_exit ?_ | refine WQ_block_normal ?_ | refine WQ_block_ret ?_ | refine WQ_block_exit ?_ | refine n9 ?_)
            refine WL_runs rfl rfl rfl (R_and rfl rfl (u8_andP _ 2 (by decide))) ?_
            refine WL_runs rfl rfl rfl (R_cmp rfl rfl rfl (flg_ne _ 2)) ?_
            repeat (first | refine n1 ?_ | refine n2 (fun b _ => ?_) | refine n3 (fun _ _ => ?_) | refine n4 ?_ | refine n5 ?_ | refine WL_nil ?_ | refine W_seq ?_ | refine W_region ?_ | refine n7 ?_ | refine n8 ?_ | refine W_block ?_ | refine W_skip ?_ | refine W_ret ?_ | refine W_exit ?_ | refine WQ_then ?_ | refine WQ_then_ret ?_ | refine WQ_then_exit ?_ | refine WQ_block_normal ?_ | refine WQ_block_ret ?_ | refine WQ_block_exit ?_ | refine n9 ?_)
            refine WL_runs rfl rfl rfl (R_and rfl rfl (u8_andP _ 3 (by decide))) ?_
            refine WL_runs rfl rfl rfl (R_cmp rfl rfl rfl (flg_ne _ 3)) ?_
            repeat (first | refine n1 ?_ | refine n2 (fun b _ => ?_) | refine n3 (fun _ _ => ?_) | refine n4 ?_ | refine n5 ?_ | refine WL_nil ?_ | refine W_seq ?_ | refine W_region ?_ | refine n7 ?_ | refine n8 ?_ | refine W_block ?_ | refine W_skip ?_ | refine W_ret ?_ | refine W_exit ?_ | refine WQ_then ?_ | refine WQ_then_ret ?_ | refine WQ_then_exit ?_ | refine WQ_block_normal ?_ | refine WQ_block_ret ?_ | refine WQ_block_exit ?_ | refine n9 ?_)
            refine WL_runs rfl rfl rfl (R_and rfl rfl (u8_andP _ 4 (by decide))) ?_
            refine WL_runs rfl rfl rfl (R_cmp rfl rfl rfl (flg_ne _ 4)) ?_
            repeat (first | refine n1 ?_ | refine n2 (fun b _ => ?_) | refine n3 (fun _ _ => ?_) | refine n4 ?_ | refine n5 ?_ | refine WL_nil ?_ | refine W_seq ?_ | refine W_region ?_ | refine n7 ?_ | refine n8 ?_ | refine W_block ?_ | refine W_skip ?_ | refine W_ret ?_ | refine W_exit ?_ | refine WQ_then ?_ | refine WQ_then_ret ?_ | refine WQ_then_exit ?_ | refine WQ_block_normal ?_ | refine WQ_block_ret ?_ | refine WQ_block_exit ?_ | refine n9 ?_)
            refine WL_runs rfl rfl rfl (R_and rfl rfl (u8_andP _ 5 (by decide))) ?_
            refine WL_runs rfl rfl rfl (R_cmp rfl rfl rfl (flg_ne _ 5)) ?_
            repeat (first | refine n1 ?_ | refine n2 (fun b _ => ?_) | refine n3 (fun _ _ => ?_) | refine n4 ?_ | refine n5 ?_ | refine WL_nil ?_ | refine W_seq ?_ | refine W_region ?_ | refine n7 ?_ | refine n8 ?_ | refine W_block ?_ | refine W_skip ?_ | refine W_ret ?_ | refine W_exit ?_ | refine WQ_then ?_ | refine WQ_then_ret ?_ | refine WQ_then_exit ?_ | refine WQ_block_normal ?_ | refine WQ_block_ret ?_ | refine WQ_block_exit ?_ | refine n9 ?_)
            refine WL_runs rfl rfl rfl (R_and rfl rfl (u8_andP _ 6 (by decide))) ?_
            refine WL_runs rfl rfl rfl (R_cmp rfl rfl rfl (flg_ne _ 6)) ?_
            repeat (first | refine n1 ?_ | refine n2 (fun b _ => ?_) | refine n3 (fun _ _ => ?_) | refine n4 ?_ | refine n5 ?_ | refine WL_nil ?_ | refine W_seq ?_ | refine W_region ?_ | refine n7 ?_ | refine n8 ?_ | refine W_block ?_ | refine W_skip ?_ | refine W_ret ?_ | refine W_exit ?_ | refine WQ_then ?_ | refine WQ_then_ret ?_ | refine WQ_then_exit ?_ | refine WQ_block_normal ?_ | refine WQ_block_ret ?_ | refine WQ_block_exit ?_ | refine n9 ?_)
            obtain ⟨b3, rfl⟩ : ∃ b3, b3 = b := ⟨b, rfl⟩
            change WL _ _ _ _ (OA.blk b2 26 (hA ys).cells :: _) _ _
            have l1 : (s1 ys).1.length ≤ 1000000 := Nat.le_trans (tkC_len _ 2) hyl
            have l2 : (s2 ys).1.length ≤ 1000000 := Nat.le_trans (tkC_len _ 2) l1
            have ht2 := fun bv => two_fn b1 bv (s1 ys) l1
            rw [show (s1 ys).2 = false from e2] at ht2
            change ∀ bv, Ct Try.prog _ _ _ _ _ _ (fun x : Value => [.blk b1 74 [x, .bool (s2 ys).2]]) (fun x : Value => [By x (s2 ys).1]) at ht2
            (apply WL_effs; exact rfl; exact rfl; exact rfl; apply E_callO; exact rfl; (intro _ _; simp); exact ht2 x.2; (first | (apply perm1; (focus (repeat' (first | exact Pick.head _ _ | apply Pick.tail)))) | (apply perm2; (focus (repeat' (first | exact Pick.head _ _ | apply Pick.tail))); (focus (repeat' (first | exact Pick.head _ _ | apply Pick.tail)))) | (apply perm3; (focus (repeat' (first | exact Pick.head _ _ | apply Pick.tail))); (focus (repeat' (first | exact Pick.head _ _ | apply Pick.tail))); (focus (repeat' (first | exact Pick.head _ _ | apply Pick.tail))))); (repeat (first | exact AllE.nil _ | (apply AllE.cons; (focus (first | exact ent_nilBy | exact ent_nilSl | (apply Ent.mem; repeat' (first | exact mcs | apply mct))))))); (intro _; exact rfl); (intro _; exact rfl))
            intro x2 _
            repeat (first | refine n1 ?_ | refine n2 (fun b _ => ?_) | refine n3 (fun _ _ => ?_) | refine n4 ?_ | refine n5 ?_ | refine WL_nil ?_ | refine W_seq ?_ | refine W_region ?_ | refine n7 ?_ | refine n8 ?_ | refine W_block ?_ | refine W_skip ?_ | refine W_ret ?_ | refine W_exit ?_ | refine WQ_then ?_ | refine WQ_then_ret ?_ | refine WQ_then_exit ?_ | refine WQ_block_normal ?_ | refine WQ_block_ret ?_ | refine WQ_block_exit ?_ | refine n9 ?_)
            change WL _ _ _ _ (OA.blk b2 26 (hB ys).cells :: _) _ _
            have hpl := places_fn b2 (hB ys)
            unfold befV at hpl
            change Ct Try.prog _ _ _ _ _ (fun x : Nat => .tuple #[.slice (some ⟨x, 0, none⟩) (befN (hA ys)) 4, aftV x (hA ys)]) _ _ at hpl
            refine WL_effs rfl rfl rfl (E_callOB (Γb := [.blk b2 26 (hB ys).cells]) rfl (by intro _ _; simp) hpl (perm1 (by repeat' (first | exact Pick.head _ _ | apply Pick.tail))) (Bor.ent (Bor.blks (bs := [(b2, 26, (hB ys).cells)])) (AllE.cons (Ent.mem (by repeat' (first | exact mcs | apply mct))) (AllE.nil _))) (fun _ => rfl)) ?_
            intro b4 _
            repeat (first | refine n1 ?_ | refine n2 (fun b _ => ?_) | refine n3 (fun _ _ => ?_) | refine n4 ?_ | refine n5 ?_ | refine WL_nil ?_ | refine W_seq ?_ | refine W_region ?_ | refine n7 ?_ | refine n8 ?_ | refine W_block ?_ | refine W_skip ?_ | refine W_ret ?_ | refine W_exit ?_ | refine WQ_then ?_ | refine WQ_then_ret ?_ | refine WQ_then_exit ?_ | refine WQ_block_normal ?_ | refine WQ_block_ret ?_ | refine WQ_block_exit ?_ | refine n9 ?_)
            have hb3 : befN (hA ys) ≤ 3 := by unfold befN; split; decide; split; decide; decide
            ((apply W_loopK (X := Nat × Value) [112] [1, 2] (fun x => x.1 ≤ befN (hA ys)) (fun x => [(112, .int .i64 (x.1 : Int))]) (fun x => [.blk b2 26 (adH (s2 ys) (hB ys) x.1).cells, .blk b1 74 [x.2, .bool (adC (s2 ys) x.1).2]]) (fun x => [By x.2 (adC (s2 ys) x.1).1]) (fun x => befN (hA ys) - x.1) ((0, x2))); (focus exact Nat.zero_le _); exact rfl; exact rfl; (intro _; exact rfl); (intro _; exact rfl); (intro _; exact rfl); (focus (repeat (first | exact FrIn.nil _ | (apply FrIn.cons; exact rfl; (first | exact rfl | (congr 1; first | omega | (dsimp only; omega)) | (simp; done)))))); (focus (repeat (first | exact SubO.nil _ | (apply SubO.cons; (focus (repeat' (first | exact Pick.head _ _ | apply Pick.tail))))))); (focus (repeat (first | exact AllE.nil _ | (apply AllE.cons; (focus (first | exact ent_nilBy | exact ent_nilSl | (apply Ent.mem; repeat' (first | exact mcs | apply mct)))))))); intro x hx)
            obtain ⟨j, o⟩ := x
            replace hx : j ≤ befN (hA ys) := hx
            dsimp only
            by_cases d1 : j < befN (hA ys)
            · have hx4 : j = 0 ∨ j = 1 ∨ j = 2 := by omega
              have lj : (adC (s2 ys) j).1.length ≤ 1000000 := Nat.le_trans (adC_len _ j) l2
              have htj := take_fn b1 o (adC (s2 ys) j) 6 (.inr rfl) lj
              have hlj := tkV_length (adC (s2 ys) j) 6
              rw [show ((6 : Nat) : Int) = 6 from rfl] at htj
              rcases hx4 with rfl | rfl | rfl
              · repeat (first | refine n1 ?_ | refine n2 (fun b _ => ?_) | refine n3 (fun _ _ => ?_) | refine n4 ?_ | refine n5 ?_ | refine WL_nil ?_ | refine W_seq ?_ | refine W_region ?_ | refine n7 ?_ | refine n8 ?_ | refine W_block ?_ | refine W_skip ?_ | refine W_ret ?_ | refine W_exit ?_ | refine WQ_then ?_ | refine WQ_then_ret ?_ | refine WQ_then_exit ?_ | refine WQ_block_normal ?_ | refine WQ_block_ret ?_ | refine WQ_block_exit ?_ | refine n9 ?_)
                refine WL_runs rfl rfl rfl (R_idxLit (i := 0) rfl rfl rfl (by intro _; exact rfl) rfl d1) ?_
                repeat (first | refine n1 ?_ | refine n2 (fun b _ => ?_) | refine n3 (fun _ _ => ?_) | refine n4 ?_ | refine n5 ?_ | refine WL_nil ?_ | refine W_seq ?_ | refine W_region ?_ | refine n7 ?_ | refine n8 ?_ | refine W_block ?_ | refine W_skip ?_ | refine W_ret ?_ | refine W_exit ?_ | refine WQ_then ?_ | refine WQ_then_ret ?_ | refine WQ_then_exit ?_ | refine WQ_block_normal ?_ | refine WQ_block_ret ?_ | refine WQ_block_exit ?_ | refine n9 ?_)
                (refine W_regionP' [4, 5] [] [0, 1, 2, 3, 4, 5] [0, 1] (by kernel_rfl) (by kernel_rfl) (by repeat (first | exact UZ.nil _ _ | (apply UZ.cons; exact rfl; (intro _; exact rfl)))) (by exact rfl) (by (repeat (first | exact SubO.nil _ | (apply SubO.cons; (focus (repeat' (first | exact Pick.head _ _ | apply Pick.tail))))))) ?_)
                repeat (first | refine p1 ?_ | refine p2 (fun b _ => ?_) | refine p3 (fun _ _ => ?_) | refine p4 ?_ | refine p5 ?_ | refine p7 (fun b => ?_) | refine PL_nil ?_)
                refine PL_effs rfl rfl rfl rfl rfl (E_callO (Γp := [.blk b1 74 [o, .bool (adC (s2 ys) 0).2]]) rfl (by intro _ _; simp) htj (perm1 (by repeat' (first | exact Pick.head _ _ | apply Pick.tail))) (AllE.cons (Ent.mem (by repeat' (first | exact mcs | apply mct))) (AllE.nil _)) (fun _ => rfl) (fun _ => rfl)) (fun _ => (by (repeat (first | exact SubO.nil _ | (apply SubO.cons; (focus (repeat' (first | exact Pick.head _ _ | apply Pick.tail)))))))) (fun y _ => ?_)
                refine PL_effs rfl rfl rfl rfl rfl (E_copyBlk (o := 10 + 6 * 0) (cs := (adH (s2 ys) (hB ys) 0).cells) (ds := (adH (s2 ys) (hB ys) (0 + 1)).cells) rfl rfl (by repeat' (first | exact Pick.head _ _ | apply Pick.tail)) (by repeat' (first | exact mcs | apply mct)) rfl rfl hlj (by decide) (Nat.le_of_ble_eq_true rfl) (adH_put _ _ 0 (by decide) hlj)) (fun _ => (by (repeat (first | exact SubO.nil _ | (apply SubO.cons; (focus (repeat' (first | exact Pick.head _ _ | apply Pick.tail)))))))) (fun _ _ => ?_)
                repeat (first | refine p1 ?_ | refine p2 (fun b _ => ?_) | refine p3 (fun _ _ => ?_) | refine p4 ?_ | refine p5 ?_ | refine p7 (fun b => ?_) | refine PL_nil ?_)
                repeat (first | refine n1 ?_ | refine n2 (fun b _ => ?_) | refine n3 (fun _ _ => ?_) | refine n4 ?_ | refine n5 ?_ | refine WL_nil ?_ | refine W_seq ?_ | refine W_region ?_ | refine n7 ?_ | refine n8 ?_ | refine W_block ?_ | refine W_skip ?_ | refine W_ret ?_ | refine W_exit ?_ | refine WQ_then ?_ | refine WQ_then_ret ?_ | refine WQ_then_exit ?_ | refine WQ_block_normal ?_ | refine WQ_block_ret ?_ | refine WQ_block_exit ?_ | refine n9 ?_)
                ((apply WQ_again ((0 + 1, y.2))); (focus exact d1); (focus (exact (show befN (hA ys) - (0 + 1) < befN (hA ys) - 0 by omega))); (focus (repeat (first | exact FrIn.nil _ | (apply FrIn.cons; exact rfl; (first | exact rfl | (congr 1; first | omega | (dsimp only; omega)) | (simp; done)))))); (focus (repeat (first | exact SubO.nil _ | (apply SubO.cons; (focus (repeat' (first | exact Pick.head _ _ | apply Pick.tail))))))); (focus (repeat (first | exact AllE.nil _ | (apply AllE.cons; (focus (first | exact ent_nilBy | exact ent_nilSl | (apply Ent.mem; repeat' (first | exact mcs | apply mct)))))))))
              · repeat (first | refine n1 ?_ | refine n2 (fun b _ => ?_) | refine n3 (fun _ _ => ?_) | refine n4 ?_ | refine n5 ?_ | refine WL_nil ?_ | refine W_seq ?_ | refine W_region ?_ | refine n7 ?_ | refine n8 ?_ | refine W_block ?_ | refine W_skip ?_ | refine W_ret ?_ | refine W_exit ?_ | refine WQ_then ?_ | refine WQ_then_ret ?_ | refine WQ_then_exit ?_ | refine WQ_block_normal ?_ | refine WQ_block_ret ?_ | refine WQ_block_exit ?_ | refine n9 ?_)
                refine WL_runs rfl rfl rfl (R_idxLit (i := 1) rfl rfl rfl (by intro _; exact rfl) rfl d1) ?_
                repeat (first | refine n1 ?_ | refine n2 (fun b _ => ?_) | refine n3 (fun _ _ => ?_) | refine n4 ?_ | refine n5 ?_ | refine WL_nil ?_ | refine W_seq ?_ | refine W_region ?_ | refine n7 ?_ | refine n8 ?_ | refine W_block ?_ | refine W_skip ?_ | refine W_ret ?_ | refine W_exit ?_ | refine WQ_then ?_ | refine WQ_then_ret ?_ | refine WQ_then_exit ?_ | refine WQ_block_normal ?_ | refine WQ_block_ret ?_ | refine WQ_block_exit ?_ | refine n9 ?_)
                (refine W_regionP' [4, 5] [] [0, 1, 2, 3, 4, 5] [0, 1] (by kernel_rfl) (by kernel_rfl) (by repeat (first | exact UZ.nil _ _ | (apply UZ.cons; exact rfl; (intro _; exact rfl)))) (by exact rfl) (by (repeat (first | exact SubO.nil _ | (apply SubO.cons; (focus (repeat' (first | exact Pick.head _ _ | apply Pick.tail))))))) ?_)
                repeat (first | refine p1 ?_ | refine p2 (fun b _ => ?_) | refine p3 (fun _ _ => ?_) | refine p4 ?_ | refine p5 ?_ | refine p7 (fun b => ?_) | refine PL_nil ?_)
                refine PL_effs rfl rfl rfl rfl rfl (E_callO (Γp := [.blk b1 74 [o, .bool (adC (s2 ys) 1).2]]) rfl (by intro _ _; simp) htj (perm1 (by repeat' (first | exact Pick.head _ _ | apply Pick.tail))) (AllE.cons (Ent.mem (by repeat' (first | exact mcs | apply mct))) (AllE.nil _)) (fun _ => rfl) (fun _ => rfl)) (fun _ => (by (repeat (first | exact SubO.nil _ | (apply SubO.cons; (focus (repeat' (first | exact Pick.head _ _ | apply Pick.tail)))))))) (fun y _ => ?_)
                refine PL_effs rfl rfl rfl rfl rfl (E_copyBlk (o := 10 + 6 * 1) (cs := (adH (s2 ys) (hB ys) 1).cells) (ds := (adH (s2 ys) (hB ys) (1 + 1)).cells) rfl rfl (by repeat' (first | exact Pick.head _ _ | apply Pick.tail)) (by repeat' (first | exact mcs | apply mct)) rfl rfl hlj (by decide) (Nat.le_of_ble_eq_true rfl) (adH_put _ _ 1 (by decide) hlj)) (fun _ => (by (repeat (first | exact SubO.nil _ | (apply SubO.cons; (focus (repeat' (first | exact Pick.head _ _ | apply Pick.tail)))))))) (fun _ _ => ?_)
                repeat (first | refine p1 ?_ | refine p2 (fun b _ => ?_) | refine p3 (fun _ _ => ?_) | refine p4 ?_ | refine p5 ?_ | refine p7 (fun b => ?_) | refine PL_nil ?_)
                repeat (first | refine n1 ?_ | refine n2 (fun b _ => ?_) | refine n3 (fun _ _ => ?_) | refine n4 ?_ | refine n5 ?_ | refine WL_nil ?_ | refine W_seq ?_ | refine W_region ?_ | refine n7 ?_ | refine n8 ?_ | refine W_block ?_ | refine W_skip ?_ | refine W_ret ?_ | refine W_exit ?_ | refine WQ_then ?_ | refine WQ_then_ret ?_ | refine WQ_then_exit ?_ | refine WQ_block_normal ?_ | refine WQ_block_ret ?_ | refine WQ_block_exit ?_ | refine n9 ?_)
                ((apply WQ_again ((1 + 1, y.2))); (focus exact d1); (focus (exact (show befN (hA ys) - (1 + 1) < befN (hA ys) - 1 by omega))); (focus (repeat (first | exact FrIn.nil _ | (apply FrIn.cons; exact rfl; (first | exact rfl | (congr 1; first | omega | (dsimp only; omega)) | (simp; done)))))); (focus (repeat (first | exact SubO.nil _ | (apply SubO.cons; (focus (repeat' (first | exact Pick.head _ _ | apply Pick.tail))))))); (focus (repeat (first | exact AllE.nil _ | (apply AllE.cons; (focus (first | exact ent_nilBy | exact ent_nilSl | (apply Ent.mem; repeat' (first | exact mcs | apply mct)))))))))
              · repeat (first | refine n1 ?_ | refine n2 (fun b _ => ?_) | refine n3 (fun _ _ => ?_) | refine n4 ?_ | refine n5 ?_ | refine WL_nil ?_ | refine W_seq ?_ | refine W_region ?_ | refine n7 ?_ | refine n8 ?_ | refine W_block ?_ | refine W_skip ?_ | refine W_ret ?_ | refine W_exit ?_ | refine WQ_then ?_ | refine WQ_then_ret ?_ | refine WQ_then_exit ?_ | refine WQ_block_normal ?_ | refine WQ_block_ret ?_ | refine WQ_block_exit ?_ | refine n9 ?_)
                refine WL_runs rfl rfl rfl (R_idxLit (i := 2) rfl rfl rfl (by intro _; exact rfl) rfl d1) ?_
                repeat (first | refine n1 ?_ | refine n2 (fun b _ => ?_) | refine n3 (fun _ _ => ?_) | refine n4 ?_ | refine n5 ?_ | refine WL_nil ?_ | refine W_seq ?_ | refine W_region ?_ | refine n7 ?_ | refine n8 ?_ | refine W_block ?_ | refine W_skip ?_ | refine W_ret ?_ | refine W_exit ?_ | refine WQ_then ?_ | refine WQ_then_ret ?_ | refine WQ_then_exit ?_ | refine WQ_block_normal ?_ | refine WQ_block_ret ?_ | refine WQ_block_exit ?_ | refine n9 ?_)
                (refine W_regionP' [4, 5] [] [0, 1, 2, 3, 4, 5] [0, 1] (by kernel_rfl) (by kernel_rfl) (by repeat (first | exact UZ.nil _ _ | (apply UZ.cons; exact rfl; (intro _; exact rfl)))) (by exact rfl) (by (repeat (first | exact SubO.nil _ | (apply SubO.cons; (focus (repeat' (first | exact Pick.head _ _ | apply Pick.tail))))))) ?_)
                repeat (first | refine p1 ?_ | refine p2 (fun b _ => ?_) | refine p3 (fun _ _ => ?_) | refine p4 ?_ | refine p5 ?_ | refine p7 (fun b => ?_) | refine PL_nil ?_)
                refine PL_effs rfl rfl rfl rfl rfl (E_callO (Γp := [.blk b1 74 [o, .bool (adC (s2 ys) 2).2]]) rfl (by intro _ _; simp) htj (perm1 (by repeat' (first | exact Pick.head _ _ | apply Pick.tail))) (AllE.cons (Ent.mem (by repeat' (first | exact mcs | apply mct))) (AllE.nil _)) (fun _ => rfl) (fun _ => rfl)) (fun _ => (by (repeat (first | exact SubO.nil _ | (apply SubO.cons; (focus (repeat' (first | exact Pick.head _ _ | apply Pick.tail)))))))) (fun y _ => ?_)
                refine PL_effs rfl rfl rfl rfl rfl (E_copyBlk (o := 10 + 6 * 2) (cs := (adH (s2 ys) (hB ys) 2).cells) (ds := (adH (s2 ys) (hB ys) (2 + 1)).cells) rfl rfl (by repeat' (first | exact Pick.head _ _ | apply Pick.tail)) (by repeat' (first | exact mcs | apply mct)) rfl rfl hlj (by decide) (Nat.le_of_ble_eq_true rfl) (adH_put _ _ 2 (by decide) hlj)) (fun _ => (by (repeat (first | exact SubO.nil _ | (apply SubO.cons; (focus (repeat' (first | exact Pick.head _ _ | apply Pick.tail)))))))) (fun _ _ => ?_)
                repeat (first | refine p1 ?_ | refine p2 (fun b _ => ?_) | refine p3 (fun _ _ => ?_) | refine p4 ?_ | refine p5 ?_ | refine p7 (fun b => ?_) | refine PL_nil ?_)
                repeat (first | refine n1 ?_ | refine n2 (fun b _ => ?_) | refine n3 (fun _ _ => ?_) | refine n4 ?_ | refine n5 ?_ | refine WL_nil ?_ | refine W_seq ?_ | refine W_region ?_ | refine n7 ?_ | refine n8 ?_ | refine W_block ?_ | refine W_skip ?_ | refine W_ret ?_ | refine W_exit ?_ | refine WQ_then ?_ | refine WQ_then_ret ?_ | refine WQ_then_exit ?_ | refine WQ_block_normal ?_ | refine WQ_block_ret ?_ | refine WQ_block_exit ?_ | refine n9 ?_)
                ((apply WQ_again ((2 + 1, y.2))); (focus exact d1); (focus (exact (show befN (hA ys) - (2 + 1) < befN (hA ys) - 2 by omega))); (focus (repeat (first | exact FrIn.nil _ | (apply FrIn.cons; exact rfl; (first | exact rfl | (congr 1; first | omega | (dsimp only; omega)) | (simp; done)))))); (focus (repeat (first | exact SubO.nil _ | (apply SubO.cons; (focus (repeat' (first | exact Pick.head _ _ | apply Pick.tail))))))); (focus (repeat (first | exact AllE.nil _ | (apply AllE.cons; (focus (first | exact ent_nilBy | exact ent_nilSl | (apply Ent.mem; repeat' (first | exact mcs | apply mct)))))))))
            · obtain rfl : j = befN (hA ys) := by omega
              change W _ _ _ (OA.blk b2 26 (hC ys).cells :: OA.blk b1 74 [o, .bool (s3 ys).2] :: _) (By o (s3 ys).1 :: _) _
              have l3 : (s3 ys).1.length ≤ 1000000 := Nat.le_trans (adC_len _ _) l2
              repeat ((fail_if_success apply W_isIf); (first | refine n1 ?_ | refine n2 (fun b _ => ?_) | refine n3 (fun _ _ => ?_) | refine n4 ?_ | refine n5 ?_ | refine WL_nil ?_ | refine W_seq ?_ | refine W_region ?_ | refine n7 ?_ | refine n8 ?_ | refine W_block ?_ | refine W_skip ?_ | refine W_ret ?_ | refine W_exit ?_ | refine WQ_then ?_ | refine WQ_then_ret ?_ | refine WQ_then_exit ?_ | refine WQ_block_normal ?_ | refine WQ_block_ret ?_ | refine WQ_block_exit ?_ | refine n9 ?_))
              clear hpl ht2 hk
              ((apply W_cutK (X := Value) [] [0, 1] (fun _ => True) (fun _ => []) (fun o => [.blk b2 26 (hD ys).cells, .blk b1 74 [o, .bool (s4 ys).2]]) (fun o => [By o (s4 ys).1])); exact rfl; exact rfl; (intro _; exact rfl); (intro _; exact rfl); (intro _; exact rfl))
              · have ht4 := two_fn b1 o (s3 ys) l3
                have e4 : s4 ys = stS (prtB (hA ys).kind) (s3 ys) := rfl
                have e5 : hD ys = stH (prtB (hA ys).kind) (s3 ys) (hC ys) := rfl
                rw [e4, e5]
                generalize prtB (hA ys).kind = p
                cases p with
                | false =>
                  repeat (first | refine n1 ?_ | refine n2 (fun b _ => ?_) | refine n3 (fun _ _ => ?_) | refine n4 ?_ | refine n5 ?_ | refine WL_nil ?_ | refine W_seq ?_ | refine W_region ?_ | refine n7 ?_ | refine n8 ?_ | refine W_block ?_ | refine W_skip ?_ | refine W_ret ?_ | refine W_exit ?_ | refine WQ_then ?_ | refine WQ_then_ret ?_ | refine WQ_then_exit ?_ | refine WQ_block_normal ?_ | refine WQ_block_ret ?_ | refine WQ_block_exit ?_ | refine n9 ?_)
                  ((apply WQ_meet (o)); (focus (first | trivial | omega | assumption | exact ⟨by omega, by omega⟩ | (simp; done))); (focus (repeat (first | exact FrIn.nil _ | (apply FrIn.cons; exact rfl; (first | exact rfl | (congr 1; first | omega | (dsimp only; omega)) | (simp; done)))))); (focus (repeat (first | exact SubO.nil _ | (apply SubO.cons; (focus (repeat' (first | exact Pick.head _ _ | apply Pick.tail))))))); (focus (repeat (first | exact AllE.nil _ | (apply AllE.cons; (focus (first | exact ent_nilBy | exact ent_nilSl | (apply Ent.mem; repeat' (first | exact mcs | apply mct)))))))))
                | true =>
                  repeat (first | refine n1 ?_ | refine n2 (fun b _ => ?_) | refine n3 (fun _ _ => ?_) | refine n4 ?_ | refine n5 ?_ | refine WL_nil ?_ | refine W_seq ?_ | refine W_region ?_ | refine n7 ?_ | refine n8 ?_ | refine W_block ?_ | refine W_skip ?_ | refine W_ret ?_ | refine W_exit ?_ | refine WQ_then ?_ | refine WQ_then_ret ?_ | refine WQ_then_exit ?_ | refine WQ_block_normal ?_ | refine WQ_block_ret ?_ | refine WQ_block_exit ?_ | refine n9 ?_)
                  (apply WL_effs; exact rfl; exact rfl; exact rfl; apply E_callO; exact rfl; (intro _ _; simp); exact ht4; (first | (apply perm1; (focus (repeat' (first | exact Pick.head _ _ | apply Pick.tail)))) | (apply perm2; (focus (repeat' (first | exact Pick.head _ _ | apply Pick.tail))); (focus (repeat' (first | exact Pick.head _ _ | apply Pick.tail)))) | (apply perm3; (focus (repeat' (first | exact Pick.head _ _ | apply Pick.tail))); (focus (repeat' (first | exact Pick.head _ _ | apply Pick.tail))); (focus (repeat' (first | exact Pick.head _ _ | apply Pick.tail))))); (repeat (first | exact AllE.nil _ | (apply AllE.cons; (focus (first | exact ent_nilBy | exact ent_nilSl | (apply Ent.mem; repeat' (first | exact mcs | apply mct))))))); (intro _; exact rfl); (intro _; exact rfl))
                  intro y _
                  repeat (first | refine n1 ?_ | refine n2 (fun b _ => ?_) | refine n3 (fun _ _ => ?_) | refine n4 ?_ | refine n5 ?_ | refine WL_nil ?_ | refine W_seq ?_ | refine W_region ?_ | refine n7 ?_ | refine n8 ?_ | refine W_block ?_ | refine W_skip ?_ | refine W_ret ?_ | refine W_exit ?_ | refine WQ_then ?_ | refine WQ_then_ret ?_ | refine WQ_then_exit ?_ | refine WQ_block_normal ?_ | refine WQ_block_ret ?_ | refine WQ_block_exit ?_ | refine n9 ?_)
                  refine WL_runs rfl rfl rfl (R_and rfl rfl (i64_15N _)) ?_
                  repeat (first | refine n1 ?_ | refine n2 (fun b _ => ?_) | refine n3 (fun _ _ => ?_) | refine n4 ?_ | refine n5 ?_ | refine WL_nil ?_ | refine W_seq ?_ | refine W_region ?_ | refine n7 ?_ | refine n8 ?_ | refine W_block ?_ | refine W_skip ?_ | refine W_ret ?_ | refine W_exit ?_ | refine WQ_then ?_ | refine WQ_then_ret ?_ | refine WQ_then_exit ?_ | refine WQ_block_normal ?_ | refine WQ_block_ret ?_ | refine WQ_block_exit ?_ | refine n9 ?_)
                  refine WL_runs rfl rfl rfl (R_shr rfl rfl (by decide) (i64_shrN _ 4 (by decide))) ?_
                  repeat (first | refine n1 ?_ | refine n2 (fun b _ => ?_) | refine n3 (fun _ _ => ?_) | refine n4 ?_ | refine n5 ?_ | refine WL_nil ?_ | refine W_seq ?_ | refine W_region ?_ | refine n7 ?_ | refine n8 ?_ | refine W_block ?_ | refine W_skip ?_ | refine W_ret ?_ | refine W_exit ?_ | refine WQ_then ?_ | refine WQ_then_ret ?_ | refine WQ_then_exit ?_ | refine WQ_block_normal ?_ | refine WQ_block_ret ?_ | refine WQ_block_exit ?_ | refine n9 ?_)
                  ((apply WQ_meet (y)); (focus (first | trivial | omega | assumption | exact ⟨by omega, by omega⟩ | (simp; done))); (focus (repeat (first | exact FrIn.nil _ | (apply FrIn.cons; exact rfl; (first | exact rfl | (congr 1; first | omega | (dsimp only; omega)) | (simp; done)))))); (focus (repeat (first | exact SubO.nil _ | (apply SubO.cons; (focus (repeat' (first | exact Pick.head _ _ | apply Pick.tail))))))); (focus (repeat (first | exact AllE.nil _ | (apply AllE.cons; (focus (first | exact ent_nilBy | exact ent_nilSl | (apply Ent.mem; repeat' (first | exact mcs | apply mct)))))))))
              · intro o4 _
                have l4 : (s4 ys).1.length ≤ 1000000 := by
                  show (stS (prtB (hA ys).kind) (s3 ys)).1.length ≤ 1000000
                  cases prtB (hA ys).kind
                  · exact l3
                  · exact Nat.le_trans (tkC_len _ 2) l3
                obtain ⟨A, ac, hlv⟩ : ∃ A c, aftV b4 (hA ys) = .slice A (bN (fourB (hA ys)) 1) c := by
                  unfold aftV
                  cases fourB (hA ys)
                  · exact ⟨none, 0, rfl⟩
                  · exact ⟨_, 1, rfl⟩
                repeat ((fail_if_success apply W_isSB 2); (first | refine n1 ?_ | refine n2 (fun b _ => ?_) | refine n3 (fun _ _ => ?_) | refine n4 ?_ | refine n5 ?_ | refine WL_nil ?_ | refine W_seq ?_ | refine W_region ?_ | refine n7 ?_ | refine n8 ?_ | refine W_block ?_ | refine W_skip ?_ | refine W_ret ?_ | refine W_exit ?_ | refine WQ_then ?_ | refine WQ_then_ret ?_ | refine WQ_then_exit ?_ | refine WQ_block_normal ?_ | refine WQ_block_ret ?_ | refine WQ_block_exit ?_ | refine n9 ?_))
                refine WL_runs rfl rfl rfl (R_lenNil (A := A) (n := bN (fourB (hA ys)) 1) (c := ac) (congrArg some hlv) rfl) ?_
                repeat ((fail_if_success apply W_isSB 2); (first | refine n1 ?_ | refine n2 (fun b _ => ?_) | refine n3 (fun _ _ => ?_) | refine n4 ?_ | refine n5 ?_ | refine WL_nil ?_ | refine W_seq ?_ | refine W_region ?_ | refine n7 ?_ | refine n8 ?_ | refine W_block ?_ | refine W_skip ?_ | refine W_ret ?_ | refine W_exit ?_ | refine WQ_then ?_ | refine WQ_then_ret ?_ | refine WQ_then_exit ?_ | refine WQ_block_normal ?_ | refine WQ_block_ret ?_ | refine WQ_block_exit ?_ | refine n9 ?_))
                ((apply W_cutKT (X := Value) [135] [0, 1] (fun _ => True) (fun _ => []) (fun o => [.blk b2 26 (hE ys).cells, .blk b1 74 [o, .bool (s5 ys).2]]) (fun o => [By o (s5 ys).1])); exact rfl; exact rfl; (intro _; exact rfl); (intro _; exact rfl); (intro _; exact rfl))
                · have e4 : s5 ys = ftS (fourB (hA ys)) (s4 ys) := rfl
                  have e5 : hE ys = ftH (fourB (hA ys)) (s4 ys) (hD ys) := rfl
                  rw [e4, e5]
                  cases hf : fourB (hA ys) with
                  | false =>
                    have e1 : aftV b4 (hA ys) = .slice none 0 0 := by unfold aftV; rw [hf]; rfl
                    rw [e1]
                    repeat (first | refine n1 ?_ | refine n2 (fun b _ => ?_) | refine n3 (fun _ _ => ?_) | refine n4 ?_ | refine n5 ?_ | refine WL_nil ?_ | refine W_seq ?_ | refine W_region ?_ | refine n7 ?_ | refine n8 ?_ | refine W_block ?_ | refine W_skip ?_ | refine W_ret ?_ | refine W_exit ?_ | refine WQ_then ?_ | refine WQ_then_ret ?_ | refine WQ_then_exit ?_ | refine WQ_block_normal ?_ | refine WQ_block_ret ?_ | refine WQ_block_exit ?_ | refine n9 ?_)
                    ((apply W_loopK (X := Nat) [135] [] (fun x => x = 0) (fun x => [(135, .int .i64 (x : Int))]) (fun _ => []) (fun _ => []) (fun x => 0 - x) (0)); (focus exact rfl); exact rfl; exact rfl; (intro _; exact rfl); (intro _; exact rfl); (intro _; exact rfl); (focus (repeat (first | exact FrIn.nil _ | (apply FrIn.cons; exact rfl; (first | exact rfl | (congr 1; first | omega | (dsimp only; omega)) | (simp; done)))))); (focus (repeat (first | exact SubO.nil _ | (apply SubO.cons; (focus (repeat' (first | exact Pick.head _ _ | apply Pick.tail))))))); (focus (repeat (first | exact AllE.nil _ | (apply AllE.cons; (focus (first | exact ent_nilBy | exact ent_nilSl | (apply Ent.mem; repeat' (first | exact mcs | apply mct)))))))); intro x hx)
                    subst hx
                    repeat (first | refine n1 ?_ | refine n2 (fun b _ => ?_) | refine n3 (fun _ _ => ?_) | refine n4 ?_ | refine n5 ?_ | refine WL_nil ?_ | refine W_seq ?_ | refine W_region ?_ | refine n7 ?_ | refine n8 ?_ | refine W_block ?_ | refine W_skip ?_ | refine W_ret ?_ | refine W_exit ?_ | refine WQ_then ?_ | refine WQ_then_ret ?_ | refine WQ_then_exit ?_ | refine WQ_block_normal ?_ | refine WQ_block_ret ?_ | refine WQ_block_exit ?_ | refine n9 ?_)
                    ((apply WQ_meet (o4)); (focus (first | trivial | omega | assumption | exact ⟨by omega, by omega⟩ | (simp; done))); (focus (repeat (first | exact FrIn.nil _ | (apply FrIn.cons; exact rfl; (first | exact rfl | (congr 1; first | omega | (dsimp only; omega)) | (simp; done)))))); (focus (repeat (first | exact SubO.nil _ | (apply SubO.cons; (focus (repeat' (first | exact Pick.head _ _ | apply Pick.tail))))))); (focus (repeat (first | exact AllE.nil _ | (apply AllE.cons; (focus (first | exact ent_nilBy | exact ent_nilSl | (apply Ent.mem; repeat' (first | exact mcs | apply mct)))))))))
                  | true =>
                    have e1 : aftV b4 (hA ys) = .slice (some ⟨b4, 3, none⟩) 1 1 := by unfold aftV; rw [hf]; rfl
                    rw [e1]
                    repeat (first | refine n1 ?_ | refine n2 (fun b _ => ?_) | refine n3 (fun _ _ => ?_) | refine n4 ?_ | refine n5 ?_ | refine WL_nil ?_ | refine W_seq ?_ | refine W_region ?_ | refine n7 ?_ | refine n8 ?_ | refine W_block ?_ | refine W_skip ?_ | refine W_ret ?_ | refine W_exit ?_ | refine WQ_then ?_ | refine WQ_then_ret ?_ | refine WQ_then_exit ?_ | refine WQ_block_normal ?_ | refine WQ_block_ret ?_ | refine WQ_block_exit ?_ | refine n9 ?_)
                    ((apply W_loopK (X := Nat × Value) [135] [0, 1] (fun x => x.1 ≤ 1) (fun x => [(135, .int .i64 (x.1 : Int))]) (fun x => [.blk b2 26 (ftH (Nat.beq x.1 1) (s4 ys) (hD ys)).cells, .blk b1 74 [x.2, .bool (ftS (Nat.beq x.1 1) (s4 ys)).2]]) (fun x => [By x.2 (ftS (Nat.beq x.1 1) (s4 ys)).1]) (fun x => 1 - x.1) ((0, o4))); (focus exact Nat.zero_le _); exact rfl; exact rfl; (intro _; exact rfl); (intro _; exact rfl); (intro _; exact rfl); (focus (repeat (first | exact FrIn.nil _ | (apply FrIn.cons; exact rfl; (first | exact rfl | (congr 1; first | omega | (dsimp only; omega)) | (simp; done)))))); (focus (repeat (first | exact SubO.nil _ | (apply SubO.cons; (focus (repeat' (first | exact Pick.head _ _ | apply Pick.tail))))))); (focus (repeat (first | exact AllE.nil _ | (apply AllE.cons; (focus (first | exact ent_nilBy | exact ent_nilSl | (apply Ent.mem; repeat' (first | exact mcs | apply mct)))))))); intro x hx)
                    obtain ⟨j, o⟩ := x
                    replace hx : j ≤ 1 := hx
                    dsimp only
                    have hj : j = 0 ∨ j = 1 := by omega
                    rcases hj with rfl | rfl
                    · have htj := take_fn b1 o (s4 ys) 6 (.inr rfl) l4
                      have hlj := tkV_length (s4 ys) 6
                      rw [show ((6 : Nat) : Int) = 6 from rfl] at htj
                      change W _ _ _ (OA.blk b2 26 (hD ys).cells :: OA.blk b1 74 [o, .bool (s4 ys).2] :: _) (By o (s4 ys).1 :: _) _
                      repeat (first | refine n1 ?_ | refine n2 (fun b _ => ?_) | refine n3 (fun _ _ => ?_) | refine n4 ?_ | refine n5 ?_ | refine WL_nil ?_ | refine W_seq ?_ | refine W_region ?_ | refine n7 ?_ | refine n8 ?_ | refine W_block ?_ | refine W_skip ?_ | refine W_ret ?_ | refine W_exit ?_ | refine WQ_then ?_ | refine WQ_then_ret ?_ | refine WQ_then_exit ?_ | refine WQ_block_normal ?_ | refine WQ_block_ret ?_ | refine WQ_block_exit ?_ | refine n9 ?_)
                      refine WL_runs rfl rfl rfl (R_idxLit (i := 0) rfl rfl rfl (by intro _; exact rfl) rfl (by decide)) ?_
                      repeat (first | refine n1 ?_ | refine n2 (fun b _ => ?_) | refine n3 (fun _ _ => ?_) | refine n4 ?_ | refine n5 ?_ | refine WL_nil ?_ | refine W_seq ?_ | refine W_region ?_ | refine n7 ?_ | refine n8 ?_ | refine W_block ?_ | refine W_skip ?_ | refine W_ret ?_ | refine W_exit ?_ | refine WQ_then ?_ | refine WQ_then_ret ?_ | refine WQ_then_exit ?_ | refine WQ_block_normal ?_ | refine WQ_block_ret ?_ | refine WQ_block_exit ?_ | refine n9 ?_)
                      (refine W_regionP' [4, 5] [] [0, 1, 2, 3, 4, 5] [0, 1] (by kernel_rfl) (by kernel_rfl) (by repeat (first | exact UZ.nil _ _ | (apply UZ.cons; exact rfl; (intro _; exact rfl)))) (by exact rfl) (by (repeat (first | exact SubO.nil _ | (apply SubO.cons; (focus (repeat' (first | exact Pick.head _ _ | apply Pick.tail))))))) ?_)
                      repeat (first | refine p1 ?_ | refine p2 (fun b _ => ?_) | refine p3 (fun _ _ => ?_) | refine p4 ?_ | refine p5 ?_ | refine p7 (fun b => ?_) | refine PL_nil ?_)
                      refine PL_effs rfl rfl rfl rfl rfl (E_callO (Γp := [.blk b1 74 [o, .bool (s4 ys).2]]) rfl (by intro _ _; simp) htj (perm1 (by repeat' (first | exact Pick.head _ _ | apply Pick.tail))) (AllE.cons (Ent.mem (by repeat' (first | exact mcs | apply mct))) (AllE.nil _)) (fun _ => rfl) (fun _ => rfl)) (fun _ => (by (repeat (first | exact SubO.nil _ | (apply SubO.cons; (focus (repeat' (first | exact Pick.head _ _ | apply Pick.tail)))))))) (fun y _ => ?_)
                      refine PL_effs rfl rfl rfl rfl rfl (E_copyBlk (o := 28) (cs := (hD ys).cells) (ds := (setA (hD ys) 3 (a6v (tkV (s4 ys) 6))).cells) rfl rfl (by repeat' (first | exact Pick.head _ _ | apply Pick.tail)) (by repeat' (first | exact mcs | apply mct)) rfl rfl hlj (by decide) (Nat.le_of_ble_eq_true rfl) (put3 _ _ hlj)) (fun _ => (by (repeat (first | exact SubO.nil _ | (apply SubO.cons; (focus (repeat' (first | exact Pick.head _ _ | apply Pick.tail)))))))) (fun _ _ => ?_)
                      repeat (first | refine p1 ?_ | refine p2 (fun b _ => ?_) | refine p3 (fun _ _ => ?_) | refine p4 ?_ | refine p5 ?_ | refine p7 (fun b => ?_) | refine PL_nil ?_)
                      repeat (first | refine n1 ?_ | refine n2 (fun b _ => ?_) | refine n3 (fun _ _ => ?_) | refine n4 ?_ | refine n5 ?_ | refine WL_nil ?_ | refine W_seq ?_ | refine W_region ?_ | refine n7 ?_ | refine n8 ?_ | refine W_block ?_ | refine W_skip ?_ | refine W_ret ?_ | refine W_exit ?_ | refine WQ_then ?_ | refine WQ_then_ret ?_ | refine WQ_then_exit ?_ | refine WQ_block_normal ?_ | refine WQ_block_ret ?_ | refine WQ_block_exit ?_ | refine n9 ?_)
                      ((apply WQ_again ((0 + 1, y.2))); (focus (exact (show 0 + 1 ≤ 1 by decide))); (focus (exact (show 1 - (0 + 1) < 1 - 0 by decide))); (focus (repeat (first | exact FrIn.nil _ | (apply FrIn.cons; exact rfl; (first | exact rfl | (congr 1; first | omega | (dsimp only; omega)) | (simp; done)))))); (focus (repeat (first | exact SubO.nil _ | (apply SubO.cons; (focus (repeat' (first | exact Pick.head _ _ | apply Pick.tail))))))); (focus (repeat (first | exact AllE.nil _ | (apply AllE.cons; (focus (first | exact ent_nilBy | exact ent_nilSl | (apply Ent.mem; repeat' (first | exact mcs | apply mct)))))))))
                    · repeat (first | refine n1 ?_ | refine n2 (fun b _ => ?_) | refine n3 (fun _ _ => ?_) | refine n4 ?_ | refine n5 ?_ | refine WL_nil ?_ | refine W_seq ?_ | refine W_region ?_ | refine n7 ?_ | refine n8 ?_ | refine W_block ?_ | refine W_skip ?_ | refine W_ret ?_ | refine W_exit ?_ | refine WQ_then ?_ | refine WQ_then_ret ?_ | refine WQ_then_exit ?_ | refine WQ_block_normal ?_ | refine WQ_block_ret ?_ | refine WQ_block_exit ?_ | refine n9 ?_)
                      ((apply WQ_meet (o)); (focus (first | trivial | omega | assumption | exact ⟨by omega, by omega⟩ | (simp; done))); (focus (repeat (first | exact FrIn.nil _ | (apply FrIn.cons; exact rfl; (first | exact rfl | (congr 1; first | omega | (dsimp only; omega)) | (simp; done)))))); (focus (repeat (first | exact SubO.nil _ | (apply SubO.cons; (focus (repeat' (first | exact Pick.head _ _ | apply Pick.tail))))))); (focus (repeat (first | exact AllE.nil _ | (apply AllE.cons; (focus (first | exact ent_nilBy | exact ent_nilSl | (apply Ent.mem; repeat' (first | exact mcs | apply mct)))))))))
                · intro o5 _
                  have l5 : (s5 ys).1.length ≤ 1000000 := by
                    show (ftS (fourB (hA ys)) (s4 ys)).1.length ≤ 1000000
                    cases fourB (hA ys)
                    · exact l4
                    · exact Nat.le_trans (tkC_len _ 6) l4
                  repeat ((fail_if_success apply W_isIf); (first | refine n1 ?_ | refine n2 (fun b _ => ?_) | refine n3 (fun _ _ => ?_) | refine n4 ?_ | refine n5 ?_ | refine WL_nil ?_ | refine W_seq ?_ | refine W_region ?_ | refine n7 ?_ | refine n8 ?_ | refine W_block ?_ | refine W_skip ?_ | refine W_ret ?_ | refine W_exit ?_ | refine WQ_then ?_ | refine WQ_then_ret ?_ | refine WQ_then_exit ?_ | refine WQ_block_normal ?_ | refine WQ_block_ret ?_ | refine WQ_block_exit ?_ | refine n9 ?_))
                  ((apply W_cutK (X := Value) [18] [0, 1] (fun _ => True) (fun _ => [(18, .bool (oddB ys))]) (fun o => [.blk b2 26 (hF ys).cells, .blk b1 74 [o, .bool (s6 ys).2]]) (fun o => [By o (s6 ys).1])); exact rfl; exact rfl; (intro _; exact rfl); (intro _; exact rfl); (intro _; exact rfl))
                  · have ht6 := two_fn b1 o5 (s5 ys) l5
                    have e4 : s6 ys = stS (trB ys) (s5 ys) := rfl
                    have e5 : hF ys = qtH (trB ys) (s5 ys) (hE ys) := rfl
                    have e6 : oddB ys = oddP (trB ys) (s5 ys) := rfl
                    rw [e4, e5, e6]
                    generalize trB ys = p
                    cases p with
                    | false =>
                      repeat (first | refine n1 ?_ | refine n2 (fun b _ => ?_) | refine n3 (fun _ _ => ?_) | refine n4 ?_ | refine n5 ?_ | refine WL_nil ?_ | refine W_seq ?_ | refine W_region ?_ | refine n7 ?_ | refine n8 ?_ | refine W_block ?_ | refine W_skip ?_ | refine W_ret ?_ | refine W_exit ?_ | refine WQ_then ?_ | refine WQ_then_ret ?_ | refine WQ_then_exit ?_ | refine WQ_block_normal ?_ | refine WQ_block_ret ?_ | refine WQ_block_exit ?_ | refine n9 ?_)
                      ((apply WQ_meet (o5)); (focus (first | trivial | omega | assumption | exact ⟨by omega, by omega⟩ | (simp; done))); (focus (repeat (first | exact FrIn.nil _ | (apply FrIn.cons; exact rfl; (first | exact rfl | (congr 1; first | omega | (dsimp only; omega)) | (simp; done)))))); (focus (repeat (first | exact SubO.nil _ | (apply SubO.cons; (focus (repeat' (first | exact Pick.head _ _ | apply Pick.tail))))))); (focus (repeat (first | exact AllE.nil _ | (apply AllE.cons; (focus (first | exact ent_nilBy | exact ent_nilSl | (apply Ent.mem; repeat' (first | exact mcs | apply mct)))))))))
                    | true =>
                      have hq := c2N_lt (tkV (s5 ys) 2)
                      unfold qtH oddP
                      rw [cond_true, cond_true]
                      generalize c2N (tkV (s5 ys) 2) = q at *
                      have w7 := i64_andP q 7 (by omega) (by decide)
                      have w4 := i64_andP q 4 (by omega) (by decide)
                      have w3 := i64_andP q 3 (by omega) (by decide)
                      cases hq3 : flq q 3 with
                      | true =>
                        have ho : oddV q = true := by unfold oddV; rw [hq3]; rfl
                        rw [ho]
                        repeat (first | refine n1 ?_ | refine n2 (fun b _ => ?_) | refine n3 (fun _ _ => ?_) | refine n4 ?_ | refine n5 ?_ | refine WL_nil ?_ | refine W_seq ?_ | refine W_region ?_ | refine n7 ?_ | refine n8 ?_ | refine W_block ?_ | refine W_skip ?_ | refine W_ret ?_ | refine W_exit ?_ | refine WQ_then ?_ | refine WQ_then_ret ?_ | refine WQ_then_exit ?_ | refine WQ_block_normal ?_ | refine WQ_block_ret ?_ | refine WQ_block_exit ?_ | refine n9 ?_)
                        (apply WL_effs; exact rfl; exact rfl; exact rfl; apply E_callO; exact rfl; (intro _ _; simp); exact ht6; (first | (apply perm1; (focus (repeat' (first | exact Pick.head _ _ | apply Pick.tail)))) | (apply perm2; (focus (repeat' (first | exact Pick.head _ _ | apply Pick.tail))); (focus (repeat' (first | exact Pick.head _ _ | apply Pick.tail)))) | (apply perm3; (focus (repeat' (first | exact Pick.head _ _ | apply Pick.tail))); (focus (repeat' (first | exact Pick.head _ _ | apply Pick.tail))); (focus (repeat' (first | exact Pick.head _ _ | apply Pick.tail))))); (repeat (first | exact AllE.nil _ | (apply AllE.cons; (focus (first | exact ent_nilBy | exact ent_nilSl | (apply Ent.mem; repeat' (first | exact mcs | apply mct))))))); (intro _; exact rfl); (intro _; exact rfl))
                        intro y _
                        repeat (first | refine n1 ?_ | refine n2 (fun b _ => ?_) | refine n3 (fun _ _ => ?_) | refine n4 ?_ | refine n5 ?_ | refine WL_nil ?_ | refine W_seq ?_ | refine W_region ?_ | refine n7 ?_ | refine n8 ?_ | refine W_block ?_ | refine W_skip ?_ | refine W_ret ?_ | refine W_exit ?_ | refine WQ_then ?_ | refine WQ_then_ret ?_ | refine WQ_then_exit ?_ | refine WQ_block_normal ?_ | refine WQ_block_ret ?_ | refine WQ_block_exit ?_ | refine n9 ?_)
                        refine WL_runs rfl rfl rfl (R_and rfl rfl (i64_7N _)) ?_
                        repeat (first | refine n1 ?_ | refine n2 (fun b _ => ?_) | refine n3 (fun _ _ => ?_) | refine n4 ?_ | refine n5 ?_ | refine WL_nil ?_ | refine W_seq ?_ | refine W_region ?_ | refine n7 ?_ | refine n8 ?_ | refine W_block ?_ | refine W_skip ?_ | refine W_ret ?_ | refine W_exit ?_ | refine WQ_then ?_ | refine WQ_then_ret ?_ | refine WQ_then_exit ?_ | refine WQ_block_normal ?_ | refine WQ_block_ret ?_ | refine WQ_block_exit ?_ | refine n9 ?_)
                        refine WL_runs rfl rfl rfl (R_and rfl rfl w4) ?_
                        refine WL_runs rfl rfl rfl (R_cmp rfl rfl rfl (flq_ne _ 4)) ?_
                        repeat (first | refine n1 ?_ | refine n2 (fun b _ => ?_) | refine n3 (fun _ _ => ?_) | refine n4 ?_ | refine n5 ?_ | refine WL_nil ?_ | refine W_seq ?_ | refine W_region ?_ | refine n7 ?_ | refine n8 ?_ | refine W_block ?_ | refine W_skip ?_ | refine W_ret ?_ | refine W_exit ?_ | refine WQ_then ?_ | refine WQ_then_ret ?_ | refine WQ_then_exit ?_ | refine WQ_block_normal ?_ | refine WQ_block_ret ?_ | refine WQ_block_exit ?_ | refine n9 ?_)
                        refine WL_runs rfl rfl rfl (R_quo rfl rfl (by decide) (quoN q hq)) ?_
                        refine WL_runs rfl rfl rfl (R_and rfl rfl (i64_3N _)) ?_
                        refine WL_runs rfl rfl rfl (R_convi rfl rfl rfl (wx_b8 _)) ?_
                        repeat (first | refine n1 ?_ | refine n2 (fun b _ => ?_) | refine n3 (fun _ _ => ?_) | refine n4 ?_ | refine n5 ?_ | refine WL_nil ?_ | refine W_seq ?_ | refine W_region ?_ | refine n7 ?_ | refine n8 ?_ | refine W_block ?_ | refine W_skip ?_ | refine W_ret ?_ | refine W_exit ?_ | refine WQ_then ?_ | refine WQ_then_ret ?_ | refine WQ_then_exit ?_ | refine WQ_block_normal ?_ | refine WQ_block_ret ?_ | refine WQ_block_exit ?_ | refine n9 ?_)
                        refine WL_runs rfl rfl rfl (R_and rfl rfl w7) ?_
                        refine WL_runs rfl rfl rfl (R_cmp rfl rfl rfl (flq_ne _ 7)) ?_
                        repeat (first | refine n1 ?_ | refine n2 (fun b _ => ?_) | refine n3 (fun _ _ => ?_) | refine n4 ?_ | refine n5 ?_ | refine WL_nil ?_ | refine W_seq ?_ | refine W_region ?_ | refine n7 ?_ | refine n8 ?_ | refine W_block ?_ | refine W_skip ?_ | refine W_ret ?_ | refine W_exit ?_ | refine WQ_then ?_ | refine WQ_then_ret ?_ | refine WQ_then_exit ?_ | refine WQ_block_normal ?_ | refine WQ_block_ret ?_ | refine WQ_block_exit ?_ | refine n9 ?_)
                        refine WL_runs rfl rfl rfl (R_and rfl rfl w3) ?_
                        refine WL_runs rfl rfl rfl (R_cmp rfl rfl rfl ((flq_ne _ 3).trans hq3)) ?_
                        repeat (first | refine n1 ?_ | refine n2 (fun b _ => ?_) | refine n3 (fun _ _ => ?_) | refine n4 ?_ | refine n5 ?_ | refine WL_nil ?_ | refine W_seq ?_ | refine W_region ?_ | refine n7 ?_ | refine n8 ?_ | refine W_block ?_ | refine W_skip ?_ | refine W_ret ?_ | refine W_exit ?_ | refine WQ_then ?_ | refine WQ_then_ret ?_ | refine WQ_then_exit ?_ | refine WQ_block_normal ?_ | refine WQ_block_ret ?_ | refine WQ_block_exit ?_ | refine n9 ?_)
                        ((apply WQ_meet (y)); (focus (first | trivial | omega | assumption | exact ⟨by omega, by omega⟩ | (simp; done))); (focus (repeat (first | exact FrIn.nil _ | (apply FrIn.cons; exact rfl; (first | exact rfl | (congr 1; first | omega | (dsimp only; omega)) | (simp; done)))))); (focus (repeat (first | exact SubO.nil _ | (apply SubO.cons; (focus (repeat' (first | exact Pick.head _ _ | apply Pick.tail))))))); (focus (repeat (first | exact AllE.nil _ | (apply AllE.cons; (focus (first | exact ent_nilBy | exact ent_nilSl | (apply Ent.mem; repeat' (first | exact mcs | apply mct)))))))))
                      | false =>
                        by_cases hq8 : q / 256 = 0
                        · have ho : oddV q = false := by unfold oddV; rw [hq3, decide_eq_false (fun h => h hq8)]; rfl
                          rw [ho]
                          repeat (first | refine n1 ?_ | refine n2 (fun b _ => ?_) | refine n3 (fun _ _ => ?_) | refine n4 ?_ | refine n5 ?_ | refine WL_nil ?_ | refine W_seq ?_ | refine W_region ?_ | refine n7 ?_ | refine n8 ?_ | refine W_block ?_ | refine W_skip ?_ | refine W_ret ?_ | refine W_exit ?_ | refine WQ_then ?_ | refine WQ_then_ret ?_ | refine WQ_then_exit ?_ | refine WQ_block_normal ?_ | refine WQ_block_ret ?_ | refine WQ_block_exit ?_ | refine n9 ?_)
                          (apply WL_effs; exact rfl; exact rfl; exact rfl; apply E_callO; exact rfl; (intro _ _; simp); exact ht6; (first | (apply perm1; (focus (repeat' (first | exact Pick.head _ _ | apply Pick.tail)))) | (apply perm2; (focus (repeat' (first | exact Pick.head _ _ | apply Pick.tail))); (focus (repeat' (first | exact Pick.head _ _ | apply Pick.tail)))) | (apply perm3; (focus (repeat' (first | exact Pick.head _ _ | apply Pick.tail))); (focus (repeat' (first | exact Pick.head _ _ | apply Pick.tail))); (focus (repeat' (first | exact Pick.head _ _ | apply Pick.tail))))); (repeat (first | exact AllE.nil _ | (apply AllE.cons; (focus (first | exact ent_nilBy | exact ent_nilSl | (apply Ent.mem; repeat' (first | exact mcs | apply mct))))))); (intro _; exact rfl); (intro _; exact rfl))
                          intro y _
                          repeat (first | refine n1 ?_ | refine n2 (fun b _ => ?_) | refine n3 (fun _ _ => ?_) | refine n4 ?_ | refine n5 ?_ | refine WL_nil ?_ | refine W_seq ?_ | refine W_region ?_ | refine n7 ?_ | refine n8 ?_ | refine W_block ?_ | refine W_skip ?_ | refine W_ret ?_ | refine W_exit ?_ | refine WQ_then ?_ | refine WQ_then_ret ?_ | refine WQ_then_exit ?_ | refine WQ_block_normal ?_ | refine WQ_block_ret ?_ | refine WQ_block_exit ?_ | refine n9 ?_)
                          refine WL_runs rfl rfl rfl (R_and rfl rfl (i64_7N _)) ?_
                          repeat (first | refine n1 ?_ | refine n2 (fun b _ => ?_) | refine n3 (fun _ _ => ?_) | refine n4 ?_ | refine n5 ?_ | refine WL_nil ?_ | refine W_seq ?_ | refine W_region ?_ | refine n7 ?_ | refine n8 ?_ | refine W_block ?_ | refine W_skip ?_ | refine W_ret ?_ | refine W_exit ?_ | refine WQ_then ?_ | refine WQ_then_ret ?_ | refine WQ_then_exit ?_ | refine WQ_block_normal ?_ | refine WQ_block_ret ?_ | refine WQ_block_exit ?_ | refine n9 ?_)
                          refine WL_runs rfl rfl rfl (R_and rfl rfl w4) ?_
                          refine WL_runs rfl rfl rfl (R_cmp rfl rfl rfl (flq_ne _ 4)) ?_
                          repeat (first | refine n1 ?_ | refine n2 (fun b _ => ?_) | refine n3 (fun _ _ => ?_) | refine n4 ?_ | refine n5 ?_ | refine WL_nil ?_ | refine W_seq ?_ | refine W_region ?_ | refine n7 ?_ | refine n8 ?_ | refine W_block ?_ | refine W_skip ?_ | refine W_ret ?_ | refine W_exit ?_ | refine WQ_then ?_ | refine WQ_then_ret ?_ | refine WQ_then_exit ?_ | refine WQ_block_normal ?_ | refine WQ_block_ret ?_ | refine WQ_block_exit ?_ | refine n9 ?_)
                          refine WL_runs rfl rfl rfl (R_quo rfl rfl (by decide) (quoN q hq)) ?_
                          refine WL_runs rfl rfl rfl (R_and rfl rfl (i64_3N _)) ?_
                          refine WL_runs rfl rfl rfl (R_convi rfl rfl rfl (wx_b8 _)) ?_
                          repeat (first | refine n1 ?_ | refine n2 (fun b _ => ?_) | refine n3 (fun _ _ => ?_) | refine n4 ?_ | refine n5 ?_ | refine WL_nil ?_ | refine W_seq ?_ | refine W_region ?_ | refine n7 ?_ | refine n8 ?_ | refine W_block ?_ | refine W_skip ?_ | refine W_ret ?_ | refine W_exit ?_ | refine WQ_then ?_ | refine WQ_then_ret ?_ | refine WQ_then_exit ?_ | refine WQ_block_normal ?_ | refine WQ_block_ret ?_ | refine WQ_block_exit ?_ | refine n9 ?_)
                          refine WL_runs rfl rfl rfl (R_and rfl rfl w7) ?_
                          refine WL_runs rfl rfl rfl (R_cmp rfl rfl rfl (flq_ne _ 7)) ?_
                          repeat (first | refine n1 ?_ | refine n2 (fun b _ => ?_) | refine n3 (fun _ _ => ?_) | refine n4 ?_ | refine n5 ?_ | refine WL_nil ?_ | refine W_seq ?_ | refine W_region ?_ | refine n7 ?_ | refine n8 ?_ | refine W_block ?_ | refine W_skip ?_ | refine W_ret ?_ | refine W_exit ?_ | refine WQ_then ?_ | refine WQ_then_ret ?_ | refine WQ_then_exit ?_ | refine WQ_block_normal ?_ | refine WQ_block_ret ?_ | refine WQ_block_exit ?_ | refine n9 ?_)
                          refine WL_runs rfl rfl rfl (R_and rfl rfl w3) ?_
                          refine WL_runs rfl rfl rfl (R_cmp rfl rfl rfl ((flq_ne _ 3).trans hq3)) ?_
                          repeat (first | refine n1 ?_ | refine n2 (fun b _ => ?_) | refine n3 (fun _ _ => ?_) | refine n4 ?_ | refine n5 ?_ | refine WL_nil ?_ | refine W_seq ?_ | refine W_region ?_ | refine n7 ?_ | refine n8 ?_ | refine W_block ?_ | refine W_skip ?_ | refine W_ret ?_ | refine W_exit ?_ | refine WQ_then ?_ | refine WQ_then_ret ?_ | refine WQ_then_exit ?_ | refine WQ_block_normal ?_ | refine WQ_block_ret ?_ | refine WQ_block_exit ?_ | refine n9 ?_)
                          refine WL_runs rfl rfl rfl (R_shr rfl rfl (by decide) (i64_shrN _ 8 (by decide))) ?_
                          repeat (first | refine n1 ?_ | refine n2 (fun b _ => ?_) | refine n3 (fun _ _ => ?_) | refine n4 ?_ | refine n5 ?_ | refine WL_nil ?_ | refine W_seq ?_ | refine W_region ?_ | refine n7 ?_ | refine n8 ?_ | refine W_block ?_ | refine W_skip ?_ | refine W_ret ?_ | refine W_exit ?_ | refine WQ_then ?_ | refine WQ_then_ret ?_ | refine WQ_then_exit ?_ | refine WQ_block_normal ?_ | refine WQ_block_ret ?_ | refine WQ_block_exit ?_ | refine n9 ?_)
                          ((apply WQ_meet (y)); (focus (first | trivial | omega | assumption | exact ⟨by omega, by omega⟩ | (simp; done))); (focus (repeat (first | exact FrIn.nil _ | (apply FrIn.cons; exact rfl; (first | exact rfl | (congr 1; first | omega | (dsimp only; omega)) | (simp; done)))))); (focus (repeat (first | exact SubO.nil _ | (apply SubO.cons; (focus (repeat' (first | exact Pick.head _ _ | apply Pick.tail))))))); (focus (repeat (first | exact AllE.nil _ | (apply AllE.cons; (focus (first | exact ent_nilBy | exact ent_nilSl | (apply Ent.mem; repeat' (first | exact mcs | apply mct)))))))))
                        · have ho : oddV q = true := by unfold oddV; rw [hq3, decide_eq_true hq8]; rfl
                          rw [ho]
                          repeat (first | refine n1 ?_ | refine n2 (fun b _ => ?_) | refine n3 (fun _ _ => ?_) | refine n4 ?_ | refine n5 ?_ | refine WL_nil ?_ | refine W_seq ?_ | refine W_region ?_ | refine n7 ?_ | refine n8 ?_ | refine W_block ?_ | refine W_skip ?_ | refine W_ret ?_ | refine W_exit ?_ | refine WQ_then ?_ | refine WQ_then_ret ?_ | refine WQ_then_exit ?_ | refine WQ_block_normal ?_ | refine WQ_block_ret ?_ | refine WQ_block_exit ?_ | refine n9 ?_)
                          (apply WL_effs; exact rfl; exact rfl; exact rfl; apply E_callO; exact rfl; (intro _ _; simp); exact ht6; (first | (apply perm1; (focus (repeat' (first | exact Pick.head _ _ | apply Pick.tail)))) | (apply perm2; (focus (repeat' (first | exact Pick.head _ _ | apply Pick.tail))); (focus (repeat' (first | exact Pick.head _ _ | apply Pick.tail)))) | (apply perm3; (focus (repeat' (first | exact Pick.head _ _ | apply Pick.tail))); (focus (repeat' (first | exact Pick.head _ _ | apply Pick.tail))); (focus (repeat' (first | exact Pick.head _ _ | apply Pick.tail))))); (repeat (first | exact AllE.nil _ | (apply AllE.cons; (focus (first | exact ent_nilBy | exact ent_nilSl | (apply Ent.mem; repeat' (first | exact mcs | apply mct))))))); (intro _; exact rfl); (intro _; exact rfl))
                          intro y _
                          repeat (first | refine n1 ?_ | refine n2 (fun b _ => ?_) | refine n3 (fun _ _ => ?_) | refine n4 ?_ | refine n5 ?_ | refine WL_nil ?_ | refine W_seq ?_ | refine W_region ?_ | refine n7 ?_ | refine n8 ?_ | refine W_block ?_ | refine W_skip ?_ | refine W_ret ?_ | refine W_exit ?_ | refine WQ_then ?_ | refine WQ_then_ret ?_ | refine WQ_then_exit ?_ | refine WQ_block_normal ?_ | refine WQ_block_ret ?_ | refine WQ_block_exit ?_ | refine n9 ?_)
                          refine WL_runs rfl rfl rfl (R_and rfl rfl (i64_7N _)) ?_
                          repeat (first | refine n1 ?_ | refine n2 (fun b _ => ?_) | refine n3 (fun _ _ => ?_) | refine n4 ?_ | refine n5 ?_ | refine WL_nil ?_ | refine W_seq ?_ | refine W_region ?_ | refine n7 ?_ | refine n8 ?_ | refine W_block ?_ | refine W_skip ?_ | refine W_ret ?_ | refine W_exit ?_ | refine WQ_then ?_ | refine WQ_then_ret ?_ | refine WQ_then_exit ?_ | refine WQ_block_normal ?_ | refine WQ_block_ret ?_ | refine WQ_block_exit ?_ | refine n9 ?_)
                          refine WL_runs rfl rfl rfl (R_and rfl rfl w4) ?_
                          refine WL_runs rfl rfl rfl (R_cmp rfl rfl rfl (flq_ne _ 4)) ?_
                          repeat (first | refine n1 ?_ | refine n2 (fun b _ => ?_) | refine n3 (fun _ _ => ?_) | refine n4 ?_ | refine n5 ?_ | refine WL_nil ?_ | refine W_seq ?_ | refine W_region ?_ | refine n7 ?_ | refine n8 ?_ | refine W_block ?_ | refine W_skip ?_ | refine W_ret ?_ | refine W_exit ?_ | refine WQ_then ?_ | refine WQ_then_ret ?_ | refine WQ_then_exit ?_ | refine WQ_block_normal ?_ | refine WQ_block_ret ?_ | refine WQ_block_exit ?_ | refine n9 ?_)
                          refine WL_runs rfl rfl rfl (R_quo rfl rfl (by decide) (quoN q hq)) ?_
                          refine WL_runs rfl rfl rfl (R_and rfl rfl (i64_3N _)) ?_
                          refine WL_runs rfl rfl rfl (R_convi rfl rfl rfl (wx_b8 _)) ?_
                          repeat (first | refine n1 ?_ | refine n2 (fun b _ => ?_) | refine n3 (fun _ _ => ?_) | refine n4 ?_ | refine n5 ?_ | refine WL_nil ?_ | refine W_seq ?_ | refine W_region ?_ | refine n7 ?_ | refine n8 ?_ | refine W_block ?_ | refine W_skip ?_ | refine W_ret ?_ | refine W_exit ?_ | refine WQ_then ?_ | refine WQ_then_ret ?_ | refine WQ_then_exit ?_ | refine WQ_block_normal ?_ | refine WQ_block_ret ?_ | refine WQ_block_exit ?_ | refine n9 ?_)
                          refine WL_runs rfl rfl rfl (R_and rfl rfl w7) ?_
                          refine WL_runs rfl rfl rfl (R_cmp rfl rfl rfl (flq_ne _ 7)) ?_
                          repeat (first | refine n1 ?_ | refine n2 (fun b _ => ?_) | refine n3 (fun _ _ => ?_) | refine n4 ?_ | refine n5 ?_ | refine WL_nil ?_ | refine W_seq ?_ | refine W_region ?_ | refine n7 ?_ | refine n8 ?_ | refine W_block ?_ | refine W_skip ?_ | refine W_ret ?_ | refine W_exit ?_ | refine WQ_then ?_ | refine WQ_then_ret ?_ | refine WQ_then_exit ?_ | refine WQ_block_normal ?_ | refine WQ_block_ret ?_ | refine WQ_block_exit ?_ | refine n9 ?_)
                          refine WL_runs rfl rfl rfl (R_and rfl rfl w3) ?_
                          refine WL_runs rfl rfl rfl (R_cmp rfl rfl rfl ((flq_ne _ 3).trans hq3)) ?_
                          repeat (first | refine n1 ?_ | refine n2 (fun b _ => ?_) | refine n3 (fun _ _ => ?_) | refine n4 ?_ | refine n5 ?_ | refine WL_nil ?_ | refine W_seq ?_ | refine W_region ?_ | refine n7 ?_ | refine n8 ?_ | refine W_block ?_ | refine W_skip ?_ | refine W_ret ?_ | refine W_exit ?_ | refine WQ_then ?_ | refine WQ_then_ret ?_ | refine WQ_then_exit ?_ | refine WQ_block_normal ?_ | refine WQ_block_ret ?_ | refine WQ_block_exit ?_ | refine n9 ?_)
                          refine WL_runs rfl rfl rfl (R_shr rfl rfl (by decide) (i64_shrN _ 8 (by decide))) ?_
                          repeat (first | refine n1 ?_ | refine n2 (fun b _ => ?_) | refine n3 (fun _ _ => ?_) | refine n4 ?_ | refine n5 ?_ | refine WL_nil ?_ | refine W_seq ?_ | refine W_region ?_ | refine n7 ?_ | refine n8 ?_ | refine W_block ?_ | refine W_skip ?_ | refine W_ret ?_ | refine W_exit ?_ | refine WQ_then ?_ | refine WQ_then_ret ?_ | refine WQ_then_exit ?_ | refine WQ_block_normal ?_ | refine WQ_block_ret ?_ | refine WQ_block_exit ?_ | refine n9 ?_)
                          ((apply WQ_meet (y)); (focus (first | trivial | omega | assumption | exact ⟨by omega, by omega⟩ | (simp; done))); (focus (repeat (first | exact FrIn.nil _ | (apply FrIn.cons; exact rfl; (first | exact rfl | (congr 1; first | omega | (dsimp only; omega)) | (simp; done)))))); (focus (repeat (first | exact SubO.nil _ | (apply SubO.cons; (focus (repeat' (first | exact Pick.head _ _ | apply Pick.tail))))))); (focus (repeat (first | exact AllE.nil _ | (apply AllE.cons; (focus (first | exact ent_nilBy | exact ent_nilSl | (apply Ent.mem; repeat' (first | exact mcs | apply mct)))))))))
                  · intro o6 _
                    have l6 : (s6 ys).1.length ≤ 1000000 := by
                      show (stS (trB ys) (s5 ys)).1.length ≤ 1000000
                      cases trB ys
                      · exact l5
                      · exact Nat.le_trans (tkC_len _ 2) l5
                    have hnk : ¬ (knB (hA ys).kind (hA ys).sub = false ∨ (dB ys 0).toNat % 4 ≠ 0 ∨ 128 ≤ (dB ys 1).toNat) := by
                      rintro (h | h | h)
                      · rw [hkn] at h; cases h
                      · exact h c2
                      · exact absurd (show 128 ≤ ((tkV (ys, false) 2).getD 1 0).toNat from h) (by omega)
                    unfold decE at hEq
                    rw [if_neg c1, if_neg hnk] at hEq
                    have hch := check_fn (hF ys) (hF_w ys)
                    have hba := bare_fn (hF ys)
                    cases hs : (s6 ys).2 with
                    | true =>
                      rw [hs] at hEq
                      obtain rfl : E = 10 := by rw [hEq]; exact if_pos rfl
                      repeat (first | refine n1 ?_ | refine n2 (fun b _ => ?_) | refine n3 (fun _ _ => ?_) | refine n4 ?_ | refine n5 ?_ | refine WL_nil ?_ | refine W_seq ?_ | refine W_region ?_ | refine n7 ?_ | refine n8 ?_ | refine W_block ?_ | refine W_skip ?_ | refine W_ret ?_ | refine W_exit ?_ | refine WQ_then ?_ | refine WQ_then_ret ?_ | refine WQ_then_exit ?_ | refine WQ_block_normal ?_ | refine WQ_block_ret ?_ | refine WQ_block_exit ?_ | refine n9 ?_)
                      refine WQ_ent (ψ := By (.slice none 0 0) []) ent_nilBy ?_
                      ((apply ret2 Try.results10 ( Value.slice none 0 0)); (focus (first | trivial | assumption | omega)); (focus (first | exact RV_tmp rfl | (apply RV_cellN; exact rfl; (repeat' (first | exact Pick.head _ _ | apply Pick.tail)); (intro _; exact rfl); (intro _; exact rfl); exact rfl) | (apply RV_cell1; exact rfl; (repeat' (first | exact Pick.head _ _ | apply Pick.tail)); (intro _; exact rfl); exact rfl))); (focus (first | exact RV_tmp rfl | (apply RV_cellN; exact rfl; (repeat' (first | exact Pick.head _ _ | apply Pick.tail)); (intro _; exact rfl); (intro _; exact rfl); exact rfl) | (apply RV_cell1; exact rfl; (repeat' (first | exact Pick.head _ _ | apply Pick.tail)); (intro _; exact rfl); exact rfl)));  (focus (first | exact rfl | (simp; done))); (focus (repeat (first | exact SubO.nil _ | (apply SubO.cons; (focus (repeat' (first | exact Pick.head _ _ | apply Pick.tail))))))); (focus (repeat (first | exact AllE.nil _ | (apply AllE.cons; (focus (first | exact ent_nilBy | exact ent_nilSl | (apply Ent.mem; repeat' (first | exact mcs | apply mct)))))))))
                    | false =>
                      rw [hs, if_neg (by decide)] at hEq
                      unfold refB at hEq
                      generalize hodd : oddB ys = od at *
                      cases od with
                      | true =>
                        obtain rfl : E = 12 := by rw [hEq]; exact if_pos rfl
                        repeat (first | refine n1 ?_ | refine n2 (fun b _ => ?_) | refine n3 (fun _ _ => ?_) | refine n4 ?_ | refine n5 ?_ | refine WL_nil ?_ | refine W_seq ?_ | refine W_region ?_ | refine n7 ?_ | refine n8 ?_ | refine W_block ?_ | refine W_skip ?_ | refine W_ret ?_ | refine W_exit ?_ | refine WQ_then ?_ | refine WQ_then_ret ?_ | refine WQ_then_exit ?_ | refine WQ_block_normal ?_ | refine WQ_block_ret ?_ | refine WQ_block_exit ?_ | refine n9 ?_)
                        refine WQ_ent (ψ := By (.slice none 0 0) []) ent_nilBy ?_
                        ((apply ret2 Try.results10 ( Value.slice none 0 0)); (focus (first | trivial | assumption | omega)); (focus (first | exact RV_tmp rfl | (apply RV_cellN; exact rfl; (repeat' (first | exact Pick.head _ _ | apply Pick.tail)); (intro _; exact rfl); (intro _; exact rfl); exact rfl) | (apply RV_cell1; exact rfl; (repeat' (first | exact Pick.head _ _ | apply Pick.tail)); (intro _; exact rfl); exact rfl))); (focus (first | exact RV_tmp rfl | (apply RV_cellN; exact rfl; (repeat' (first | exact Pick.head _ _ | apply Pick.tail)); (intro _; exact rfl); (intro _; exact rfl); exact rfl) | (apply RV_cell1; exact rfl; (repeat' (first | exact Pick.head _ _ | apply Pick.tail)); (intro _; exact rfl); exact rfl)));  (focus (first | exact rfl | (simp; done))); (focus (repeat (first | exact SubO.nil _ | (apply SubO.cons; (focus (repeat' (first | exact Pick.head _ _ | apply Pick.tail))))))); (focus (repeat (first | exact AllE.nil _ | (apply AllE.cons; (focus (first | exact ent_nilBy | exact ent_nilSl | (apply Ent.mem; repeat' (first | exact mcs | apply mct)))))))))
                      | false =>
                        rw [Bool.false_or] at hEq
                        cases hd : hdB (hF ys) with
                        | false =>
                          rw [hd] at hEq
                          rw [hd] at hch
                          obtain rfl : E = 12 := by rw [hEq]; exact if_pos rfl
                          repeat (first | refine n1 ?_ | refine n2 (fun b _ => ?_) | refine n3 (fun _ _ => ?_) | refine n4 ?_ | refine n5 ?_ | refine n6 (hch) ?_ | refine n6v (hch) ?_ | refine WL_nil ?_ | refine W_seq ?_ | refine W_region ?_ | refine n7 ?_ | refine n8 ?_ | refine W_block ?_ | refine W_skip ?_ | refine W_ret ?_ | refine W_exit ?_ | refine WQ_then ?_ | refine WQ_then_ret ?_ | refine WQ_then_exit ?_ | refine WQ_block_normal ?_ | refine WQ_block_ret ?_ | refine WQ_block_exit ?_ | refine n9 ?_)
                          refine WQ_ent (ψ := By (.slice none 0 0) []) ent_nilBy ?_
                          ((apply ret2 Try.results10 ( Value.slice none 0 0)); (focus (first | trivial | assumption | omega)); (focus (first | exact RV_tmp rfl | (apply RV_cellN; exact rfl; (repeat' (first | exact Pick.head _ _ | apply Pick.tail)); (intro _; exact rfl); (intro _; exact rfl); exact rfl) | (apply RV_cell1; exact rfl; (repeat' (first | exact Pick.head _ _ | apply Pick.tail)); (intro _; exact rfl); exact rfl))); (focus (first | exact RV_tmp rfl | (apply RV_cellN; exact rfl; (repeat' (first | exact Pick.head _ _ | apply Pick.tail)); (intro _; exact rfl); (intro _; exact rfl); exact rfl) | (apply RV_cell1; exact rfl; (repeat' (first | exact Pick.head _ _ | apply Pick.tail)); (intro _; exact rfl); exact rfl)));  (focus (first | exact rfl | (simp; done))); (focus (repeat (first | exact SubO.nil _ | (apply SubO.cons; (focus (repeat' (first | exact Pick.head _ _ | apply Pick.tail))))))); (focus (repeat (first | exact AllE.nil _ | (apply AllE.cons; (focus (first | exact ent_nilBy | exact ent_nilSl | (apply Ent.mem; repeat' (first | exact mcs | apply mct)))))))))
                        | true =>
                          rw [hd, Bool.not_true, Bool.false_or] at hEq
                          rw [hd] at hch
                          by_cases h0 : barB (hF ys) = true ∧ 0 < (s6 ys).1.length
                          · rw [h0.1, decide_eq_true h0.2] at hEq
                            obtain rfl : E = 12 := by rw [hEq]; exact if_pos rfl
                            have h02 := h0.2
                            rw [h0.1] at hba
                            repeat (first | refine n1 ?_ | refine n2 (fun b _ => ?_) | refine n3 (fun _ _ => ?_) | refine n4 ?_ | refine n5 ?_ | refine n6 (hch) ?_ | refine n6 (hba) ?_ | refine n6v (hch) ?_ | refine n6v (hba) ?_ | refine WL_nil ?_ | refine W_seq ?_ | refine W_region ?_ | refine n7 ?_ | refine n8 ?_ | refine W_block ?_ | refine W_skip ?_ | refine W_ret ?_ | refine W_exit ?_ | refine WQ_then ?_ | refine WQ_then_ret ?_ | refine WQ_then_exit ?_ | refine WQ_block_normal ?_ | refine WQ_block_ret ?_ | refine WQ_block_exit ?_ | refine n9 ?_)
                            refine WQ_ent (ψ := By (.slice none 0 0) []) ent_nilBy ?_
                            ((apply ret2 Try.results10 ( Value.slice none 0 0)); (focus (first | trivial | assumption | omega)); (focus (first | exact RV_tmp rfl | (apply RV_cellN; exact rfl; (repeat' (first | exact Pick.head _ _ | apply Pick.tail)); (intro _; exact rfl); (intro _; exact rfl); exact rfl) | (apply RV_cell1; exact rfl; (repeat' (first | exact Pick.head _ _ | apply Pick.tail)); (intro _; exact rfl); exact rfl))); (focus (first | exact RV_tmp rfl | (apply RV_cellN; exact rfl; (repeat' (first | exact Pick.head _ _ | apply Pick.tail)); (intro _; exact rfl); (intro _; exact rfl); exact rfl) | (apply RV_cell1; exact rfl; (repeat' (first | exact Pick.head _ _ | apply Pick.tail)); (intro _; exact rfl); exact rfl)));  (focus (first | exact rfl | (simp; done))); (focus (repeat (first | exact SubO.nil _ | (apply SubO.cons; (focus (repeat' (first | exact Pick.head _ _ | apply Pick.tail))))))); (focus (repeat (first | exact AllE.nil _ | (apply AllE.cons; (focus (first | exact ent_nilBy | exact ent_nilSl | (apply Ent.mem; repeat' (first | exact mcs | apply mct)))))))))
                          · have hn : (barB (hF ys) && decide (0 < (s6 ys).1.length)) = false := by
                              cases hb : barB (hF ys)
                              · rfl
                              · exact decide_eq_false (fun h => h0 ⟨hb, h⟩)
                            rw [hn, if_neg (by decide)] at hEq
                            by_cases h11 : 2304 < (s6 ys).1.length
                            · obtain rfl : E = 11 := by rw [hEq]; exact if_pos h11
                              have hbf : barB (hF ys) = false := by
                                cases hb : barB (hF ys)
                                · rfl
                                · exact absurd ⟨hb, by omega⟩ h0
                              rw [hbf] at hba
                              repeat (first | refine n1 ?_ | refine n2 (fun b _ => ?_) | refine n3 (fun _ _ => ?_) | refine n4 ?_ | refine n5 ?_ | refine n6 (hch) ?_ | refine n6 (hba) ?_ | refine n6v (hch) ?_ | refine n6v (hba) ?_ | refine WL_nil ?_ | refine W_seq ?_ | refine W_region ?_ | refine n7 ?_ | refine n8 ?_ | refine W_block ?_ | refine W_skip ?_ | refine W_ret ?_ | refine W_exit ?_ | refine WQ_then ?_ | refine WQ_then_ret ?_ | refine WQ_then_exit ?_ | refine WQ_block_normal ?_ | refine WQ_block_ret ?_ | refine WQ_block_exit ?_ | refine n9 ?_)
                              refine WQ_ent (ψ := By (.slice none 0 0) []) ent_nilBy ?_
                              ((apply ret2 Try.results10 ( Value.slice none 0 0)); (focus (first | trivial | assumption | omega)); (focus (first | exact RV_tmp rfl | (apply RV_cellN; exact rfl; (repeat' (first | exact Pick.head _ _ | apply Pick.tail)); (intro _; exact rfl); (intro _; exact rfl); exact rfl) | (apply RV_cell1; exact rfl; (repeat' (first | exact Pick.head _ _ | apply Pick.tail)); (intro _; exact rfl); exact rfl))); (focus (first | exact RV_tmp rfl | (apply RV_cellN; exact rfl; (repeat' (first | exact Pick.head _ _ | apply Pick.tail)); (intro _; exact rfl); (intro _; exact rfl); exact rfl) | (apply RV_cell1; exact rfl; (repeat' (first | exact Pick.head _ _ | apply Pick.tail)); (intro _; exact rfl); exact rfl)));  (focus (first | exact rfl | (simp; done))); (focus (repeat (first | exact SubO.nil _ | (apply SubO.cons; (focus (repeat' (first | exact Pick.head _ _ | apply Pick.tail))))))); (focus (repeat (first | exact AllE.nil _ | (apply AllE.cons; (focus (first | exact ent_nilBy | exact ent_nilSl | (apply Ent.mem; repeat' (first | exact mcs | apply mct)))))))))
                            · obtain rfl : E = 0 := by rw [hEq]; exact if_neg h11
                              cases hb : barB (hF ys) with
                              | false =>
                                rw [hb] at hba
                                repeat (first | refine n1 ?_ | refine n2 (fun b _ => ?_) | refine n3 (fun _ _ => ?_) | refine n4 ?_ | refine n5 ?_ | refine n6 (hch) ?_ | refine n6 (hba) ?_ | refine n6v (hch) ?_ | refine n6v (hba) ?_ | refine WL_nil ?_ | refine W_seq ?_ | refine W_region ?_ | refine n7 ?_ | refine n8 ?_ | refine W_block ?_ | refine W_skip ?_ | refine W_ret ?_ | refine W_exit ?_ | refine WQ_then ?_ | refine WQ_then_ret ?_ | refine WQ_then_exit ?_ | refine WQ_block_normal ?_ | refine WQ_block_ret ?_ | refine WQ_block_exit ?_ | refine n9 ?_)
                                (refine W_regionP' [1, 6, 8] [] [0, 2, 3, 4, 5, 1, 6, 7, 8, 9] [4] (by kernel_rfl) (by kernel_rfl) (by repeat (first | exact UZ.nil _ _ | (apply UZ.cons; exact rfl; (intro _; exact rfl)))) (by exact rfl) (by (repeat (first | exact SubO.nil _ | (apply SubO.cons; (focus (repeat' (first | exact Pick.head _ _ | apply Pick.tail))))))) ?_)
                                repeat (first | refine p1 ?_ | refine p2 (fun b _ => ?_) | refine p3 (fun _ _ => ?_) | refine p4 ?_ | refine p5 ?_ | refine p7 (fun b => ?_) | refine PL_nil ?_)
                                (apply PL_effs; exact rfl; exact rfl; exact rfl; exact rfl; exact rfl; (apply E_buildSlice; exact rfl; (focus (repeat (first | apply SeqE.nil | (apply SeqE.cons; exact rfl; (focus (first | (apply CellsE.lit; exact rfl) | (apply CellsE.one; (first | (apply OneC.lit; exact rfl) | (apply OneC.by_; (repeat' (first | exact mcs | apply mct)); done) | (apply OneC.sl; (repeat' (first | exact mcs | apply mct)); done) | (apply OneC.rw; (repeat' (first | exact mcs | apply mct)); done) | (apply OneC.row; (repeat' (first | exact Pick.head _ _ | apply Pick.tail))))))); exact rfl) | exact rfl))); exact rfl; (first | (intro _; exact (rfl : _ = Result.ok 1 _)) | (intro _; exact (rfl : _ = Result.ok 2 _)) | (intro _; exact (rfl : _ = Result.ok 3 _)) | (intro _; exact (rfl : _ = Result.ok 4 _)) | (intro _; exact (rfl : _ = Result.ok 5 _)) | (intro _; exact (rfl : _ = Result.ok 6 _)) | (intro _; exact (rfl : _ = Result.ok 7 _)) | (intro _; exact (rfl : _ = Result.ok 8 _)) | (intro _; exact (rfl : _ = Result.ok 9 _)) | (intro _; exact (rfl : _ = Result.ok 13 _)) | (intro _; exact (rfl : _ = Result.ok 14 _)) | (intro _; exact (rfl : _ = Result.ok 26 _)) | (intro _; exact (rfl : _ = Result.ok 40 _)) | (intro _; exact (rfl : _ = Result.ok 41 _)) | (intro _; exact (rfl : _ = Result.ok 42 _)) | (intro _; exact (rfl : _ = Result.ok 43 _)) | (intro _; exact (rfl : _ = Result.ok 44 _)) | (intro _; exact (rfl : _ = Result.ok 45 _)) | (intro _; exact (rfl : _ = Result.ok 46 _))); (intro _; exact rfl); exact rfl; exact Nat.le_of_ble_eq_true rfl; exact Nat.le_of_ble_eq_true rfl); (intro _; (repeat (first | exact SubO.nil _ | (apply SubO.cons; (focus (repeat' (first | exact Pick.head _ _ | apply Pick.tail))))))); skip)
                                intro q _
                                refine PL_effs rfl rfl rfl rfl rfl (Effs.letB (n := fun _ => (s6 ys).1.length) (bs := fun _ => (s6 ys).1) (E_appendBy (bs := []) (news := (s6 ys).1) (nm := (s6 ys).1.length) (all := (s6 ys).1) rfl rfl (by repeat' (first | exact Pick.head _ _ | apply Pick.tail)) (by repeat' (first | exact mcs | apply mct)) rfl rfl rfl rfl rfl rfl (Nat.le_of_ble_eq_true rfl) (by omega) (Nat.zero_add _) rfl)) (fun _ => (by (repeat (first | exact SubO.nil _ | (apply SubO.cons; (focus (repeat' (first | exact Pick.head _ _ | apply Pick.tail)))))))) (fun q2 _ => ?_)
                                repeat (first | refine p1 ?_ | refine p2 (fun b _ => ?_) | refine p3 (fun _ _ => ?_) | refine p4 ?_ | refine p5 ?_ | refine p7 (fun b => ?_) | refine PL_nil ?_)
                                repeat (first | refine n1 ?_ | refine n2 (fun b _ => ?_) | refine n3 (fun _ _ => ?_) | refine n4 ?_ | refine n5 ?_ | refine WL_nil ?_ | refine W_seq ?_ | refine W_region ?_ | refine n7 ?_ | refine n8 ?_ | refine W_block ?_ | refine W_skip ?_ | refine W_ret ?_ | refine W_exit ?_ | refine WQ_then ?_ | refine WQ_then_ret ?_ | refine WQ_then_exit ?_ | refine WQ_block_normal ?_ | refine WQ_block_ret ?_ | refine WQ_block_exit ?_ | refine n9 ?_)
                                ((apply ret2 Try.results10 ( q2)); (focus (first | trivial | assumption | omega)); (focus (first | exact RV_tmp rfl | (apply RV_cellN; exact rfl; (repeat' (first | exact Pick.head _ _ | apply Pick.tail)); (intro _; exact rfl); (intro _; exact rfl); exact rfl) | (apply RV_cell1; exact rfl; (repeat' (first | exact Pick.head _ _ | apply Pick.tail)); (intro _; exact rfl); exact rfl))); (focus (first | exact RV_tmp rfl | (apply RV_cellN; exact rfl; (repeat' (first | exact Pick.head _ _ | apply Pick.tail)); (intro _; exact rfl); (intro _; exact rfl); exact rfl) | (apply RV_cell1; exact rfl; (repeat' (first | exact Pick.head _ _ | apply Pick.tail)); (intro _; exact rfl); exact rfl)));  (focus (first | exact rfl | (simp; done))); (focus (repeat (first | exact SubO.nil _ | (apply SubO.cons; (focus (repeat' (first | exact Pick.head _ _ | apply Pick.tail))))))); (focus (repeat (first | exact AllE.nil _ | (apply AllE.cons; (focus (first | exact ent_nilBy | exact ent_nilSl | (apply Ent.mem; repeat' (first | exact mcs | apply mct)))))))))
                              | true =>
                                have h02 : (s6 ys).1.length = 0 := by
                                  rcases Nat.eq_zero_or_pos (s6 ys).1.length with h | h
                                  · exact h
                                  · exact absurd ⟨hb, h⟩ h0
                                rw [hb] at hba
                                repeat (first | refine n1 ?_ | refine n2 (fun b _ => ?_) | refine n3 (fun _ _ => ?_) | refine n4 ?_ | refine n5 ?_ | refine n6 (hch) ?_ | refine n6 (hba) ?_ | refine n6v (hch) ?_ | refine n6v (hba) ?_ | refine WL_nil ?_ | refine W_seq ?_ | refine W_region ?_ | refine n7 ?_ | refine n8 ?_ | refine W_block ?_ | refine W_skip ?_ | refine W_ret ?_ | refine W_exit ?_ | refine WQ_then ?_ | refine WQ_then_ret ?_ | refine WQ_then_exit ?_ | refine WQ_block_normal ?_ | refine WQ_block_ret ?_ | refine WQ_block_exit ?_ | refine n9 ?_)
                                (refine W_regionP' [1, 6, 8] [] [0, 2, 3, 4, 5, 1, 6, 7, 8, 9] [4] (by kernel_rfl) (by kernel_rfl) (by repeat (first | exact UZ.nil _ _ | (apply UZ.cons; exact rfl; (intro _; exact rfl)))) (by exact rfl) (by (repeat (first | exact SubO.nil _ | (apply SubO.cons; (focus (repeat' (first | exact Pick.head _ _ | apply Pick.tail))))))) ?_)
                                repeat (first | refine p1 ?_ | refine p2 (fun b _ => ?_) | refine p3 (fun _ _ => ?_) | refine p4 ?_ | refine p5 ?_ | refine p7 (fun b => ?_) | refine PL_nil ?_)
                                (apply PL_effs; exact rfl; exact rfl; exact rfl; exact rfl; exact rfl; (apply E_buildSlice; exact rfl; (focus (repeat (first | apply SeqE.nil | (apply SeqE.cons; exact rfl; (focus (first | (apply CellsE.lit; exact rfl) | (apply CellsE.one; (first | (apply OneC.lit; exact rfl) | (apply OneC.by_; (repeat' (first | exact mcs | apply mct)); done) | (apply OneC.sl; (repeat' (first | exact mcs | apply mct)); done) | (apply OneC.rw; (repeat' (first | exact mcs | apply mct)); done) | (apply OneC.row; (repeat' (first | exact Pick.head _ _ | apply Pick.tail))))))); exact rfl) | exact rfl))); exact rfl; (first | (intro _; exact (rfl : _ = Result.ok 1 _)) | (intro _; exact (rfl : _ = Result.ok 2 _)) | (intro _; exact (rfl : _ = Result.ok 3 _)) | (intro _; exact (rfl : _ = Result.ok 4 _)) | (intro _; exact (rfl : _ = Result.ok 5 _)) | (intro _; exact (rfl : _ = Result.ok 6 _)) | (intro _; exact (rfl : _ = Result.ok 7 _)) | (intro _; exact (rfl : _ = Result.ok 8 _)) | (intro _; exact (rfl : _ = Result.ok 9 _)) | (intro _; exact (rfl : _ = Result.ok 13 _)) | (intro _; exact (rfl : _ = Result.ok 14 _)) | (intro _; exact (rfl : _ = Result.ok 26 _)) | (intro _; exact (rfl : _ = Result.ok 40 _)) | (intro _; exact (rfl : _ = Result.ok 41 _)) | (intro _; exact (rfl : _ = Result.ok 42 _)) | (intro _; exact (rfl : _ = Result.ok 43 _)) | (intro _; exact (rfl : _ = Result.ok 44 _)) | (intro _; exact (rfl : _ = Result.ok 45 _)) | (intro _; exact (rfl : _ = Result.ok 46 _))); (intro _; exact rfl); exact rfl; exact Nat.le_of_ble_eq_true rfl; exact Nat.le_of_ble_eq_true rfl); (intro _; (repeat (first | exact SubO.nil _ | (apply SubO.cons; (focus (repeat' (first | exact Pick.head _ _ | apply Pick.tail))))))); skip)
                                intro q _
                                refine PL_effs rfl rfl rfl rfl rfl (Effs.letB (n := fun _ => (s6 ys).1.length) (bs := fun _ => (s6 ys).1) (E_appendBy (bs := []) (news := (s6 ys).1) (nm := (s6 ys).1.length) (all := (s6 ys).1) rfl rfl (by repeat' (first | exact Pick.head _ _ | apply Pick.tail)) (by repeat' (first | exact mcs | apply mct)) rfl rfl rfl rfl rfl rfl (Nat.le_of_ble_eq_true rfl) (by omega) (Nat.zero_add _) rfl)) (fun _ => (by (repeat (first | exact SubO.nil _ | (apply SubO.cons; (focus (repeat' (first | exact Pick.head _ _ | apply Pick.tail)))))))) (fun q2 _ => ?_)
                                repeat (first | refine p1 ?_ | refine p2 (fun b _ => ?_) | refine p3 (fun _ _ => ?_) | refine p4 ?_ | refine p5 ?_ | refine p7 (fun b => ?_) | refine PL_nil ?_)
                                repeat (first | refine n1 ?_ | refine n2 (fun b _ => ?_) | refine n3 (fun _ _ => ?_) | refine n4 ?_ | refine n5 ?_ | refine WL_nil ?_ | refine W_seq ?_ | refine W_region ?_ | refine n7 ?_ | refine n8 ?_ | refine W_block ?_ | refine W_skip ?_ | refine W_ret ?_ | refine W_exit ?_ | refine WQ_then ?_ | refine WQ_then_ret ?_ | refine WQ_then_exit ?_ | refine WQ_block_normal ?_ | refine WQ_block_ret ?_ | refine WQ_block_exit ?_ | refine n9 ?_)
                                ((apply ret2 Try.results10 ( q2)); (focus (first | trivial | assumption | omega)); (focus (first | exact RV_tmp rfl | (apply RV_cellN; exact rfl; (repeat' (first | exact Pick.head _ _ | apply Pick.tail)); (intro _; exact rfl); (intro _; exact rfl); exact rfl) | (apply RV_cell1; exact rfl; (repeat' (first | exact Pick.head _ _ | apply Pick.tail)); (intro _; exact rfl); exact rfl))); (focus (first | exact RV_tmp rfl | (apply RV_cellN; exact rfl; (repeat' (first | exact Pick.head _ _ | apply Pick.tail)); (intro _; exact rfl); (intro _; exact rfl); exact rfl) | (apply RV_cell1; exact rfl; (repeat' (first | exact Pick.head _ _ | apply Pick.tail)); (intro _; exact rfl); exact rfl)));  (focus (first | exact rfl | (simp; done))); (focus (repeat (first | exact SubO.nil _ | (apply SubO.cons; (focus (repeat' (first | exact Pick.head _ _ | apply Pick.tail))))))); (focus (repeat (first | exact AllE.nil _ | (apply AllE.cons; (focus (first | exact ent_nilBy | exact ent_nilSl | (apply Ent.mem; repeat' (first | exact mcs | apply mct)))))))))
          · obtain rfl : E = 12 := by rw [hEq]; unfold decE; rw [if_neg c1, if_pos (.inr (.inr (show 128 ≤ ((tkV (ys, false) 2).getD 1 0).toNat by omega)))]
            repeat (first | refine n1 ?_ | refine n2 (fun b _ => ?_) | refine n3 (fun _ _ => ?_) | refine n4 ?_ | refine n5 ?_ | refine n6 (hk) ?_ | refine n6v (hk) ?_ | refine WL_nil ?_ | refine W_seq ?_ | refine W_region ?_ | refine n7 ?_ | refine n8 ?_ | refine W_block ?_ | refine W_skip ?_ | refine W_ret ?_ | refine W_exit ?_ | refine WQ_then ?_ | refine WQ_then_ret ?_ | refine WQ_then_exit ?_ | refine WQ_block_normal ?_ | refine WQ_block_ret ?_ | refine WQ_block_exit ?_ | refine n9 ?_)
            refine WL_runs rfl rfl rfl (R_and rfl rfl (u8_and3 _)) ?_
            repeat (first | refine n1 ?_ | refine n2 (fun b _ => ?_) | refine n3 (fun _ _ => ?_) | refine n4 ?_ | refine n5 ?_ | refine WL_nil ?_ | refine W_seq ?_ | refine W_region ?_ | refine n7 ?_ | refine n8 ?_ | refine W_block ?_ | refine W_skip ?_ | refine W_ret ?_ | refine W_exit ?_ | refine WQ_then ?_ | refine WQ_then_ret ?_ | refine WQ_then_exit ?_ | refine WQ_block_normal ?_ | refine WQ_block_ret ?_ | refine WQ_block_exit ?_ | refine n9 ?_)
            refine WL_runs rfl rfl rfl (R_and rfl rfl (u8_and128 _)) ?_
            repeat (first | refine n1 ?_ | refine n2 (fun b _ => ?_) | refine n3 (fun _ _ => ?_) | refine n4 ?_ | refine n5 ?_ | refine WL_nil ?_ | refine W_seq ?_ | refine W_region ?_ | refine n7 ?_ | refine n8 ?_ | refine W_block ?_ | refine W_skip ?_ | refine W_ret ?_ | refine W_exit ?_ | refine WQ_then ?_ | refine WQ_then_ret ?_ | refine WQ_then_exit ?_ | refine WQ_block_normal ?_ | refine WQ_block_ret ?_ | refine WQ_block_exit ?_ | refine n9 ?_)
            refine WQ_ent (ψ := By (.slice none 0 0) []) ent_nilBy ?_
            ((apply ret2 Try.results10 ( Value.slice none 0 0)); (focus (first | trivial | assumption | omega)); (focus (first | exact RV_tmp rfl | (apply RV_cellN; exact rfl; (repeat' (first | exact Pick.head _ _ | apply Pick.tail)); (intro _; exact rfl); (intro _; exact rfl); exact rfl) | (apply RV_cell1; exact rfl; (repeat' (first | exact Pick.head _ _ | apply Pick.tail)); (intro _; exact rfl); exact rfl))); (focus (first | exact RV_tmp rfl | (apply RV_cellN; exact rfl; (repeat' (first | exact Pick.head _ _ | apply Pick.tail)); (intro _; exact rfl); (intro _; exact rfl); exact rfl) | (apply RV_cell1; exact rfl; (repeat' (first | exact Pick.head _ _ | apply Pick.tail)); (intro _; exact rfl); exact rfl)));  (focus (first | exact rfl | (simp; done))); (focus (repeat (first | exact SubO.nil _ | (apply SubO.cons; (focus (repeat' (first | exact Pick.head _ _ | apply Pick.tail))))))); (focus (repeat (first | exact AllE.nil _ | (apply AllE.cons; (focus (first | exact ent_nilBy | exact ent_nilSl | (apply Ent.mem; repeat' (first | exact mcs | apply mct)))))))))
        · obtain rfl : E = 12 := by rw [hEq]; unfold decE; rw [if_neg c1, if_pos (.inr (.inl c2))]
          repeat (first | refine n1 ?_ | refine n2 (fun b _ => ?_) | refine n3 (fun _ _ => ?_) | refine n4 ?_ | refine n5 ?_ | refine n6 (hk) ?_ | refine n6v (hk) ?_ | refine WL_nil ?_ | refine W_seq ?_ | refine W_region ?_ | refine n7 ?_ | refine n8 ?_ | refine W_block ?_ | refine W_skip ?_ | refine W_ret ?_ | refine W_exit ?_ | refine WQ_then ?_ | refine WQ_then_ret ?_ | refine WQ_then_exit ?_ | refine WQ_block_normal ?_ | refine WQ_block_ret ?_ | refine WQ_block_exit ?_ | refine n9 ?_)
          refine WL_runs rfl rfl rfl (R_and rfl rfl (u8_and3 _)) ?_
          repeat (first | refine n1 ?_ | refine n2 (fun b _ => ?_) | refine n3 (fun _ _ => ?_) | refine n4 ?_ | refine n5 ?_ | refine WL_nil ?_ | refine W_seq ?_ | refine W_region ?_ | refine n7 ?_ | refine n8 ?_ | refine W_block ?_ | refine W_skip ?_ | refine W_ret ?_ | refine W_exit ?_ | refine WQ_then ?_ | refine WQ_then_ret ?_ | refine WQ_then_exit ?_ | refine WQ_block_normal ?_ | refine WQ_block_ret ?_ | refine WQ_block_exit ?_ | refine n9 ?_)
          refine WQ_ent (ψ := By (.slice none 0 0) []) ent_nilBy ?_
          ((apply ret2 Try.results10 ( Value.slice none 0 0)); (focus (first | trivial | assumption | omega)); (focus (first | exact RV_tmp rfl | (apply RV_cellN; exact rfl; (repeat' (first | exact Pick.head _ _ | apply Pick.tail)); (intro _; exact rfl); (intro _; exact rfl); exact rfl) | (apply RV_cell1; exact rfl; (repeat' (first | exact Pick.head _ _ | apply Pick.tail)); (intro _; exact rfl); exact rfl))); (focus (first | exact RV_tmp rfl | (apply RV_cellN; exact rfl; (repeat' (first | exact Pick.head _ _ | apply Pick.tail)); (intro _; exact rfl); (intro _; exact rfl); exact rfl) | (apply RV_cell1; exact rfl; (repeat' (first | exact Pick.head _ _ | apply Pick.tail)); (intro _; exact rfl); exact rfl)));  (focus (first | exact rfl | (simp; done))); (focus (repeat (first | exact SubO.nil _ | (apply SubO.cons; (focus (repeat' (first | exact Pick.head _ _ | apply Pick.tail))))))); (focus (repeat (first | exact AllE.nil _ | (apply AllE.cons; (focus (first | exact ent_nilBy | exact ent_nilSl | (apply Ent.mem; repeat' (first | exact mcs | apply mct)))))))))
  · rw [if_neg c0] at hEq
    rw [hEq, if_neg c0, if_neg c0]
    generalize C03.vE C03.P32 C03.cb32 4 xs = e at *
    refine Ct_intro Try.func10 rfl Try.ntmps10 (by simp) _ rfl (fun w0 O0 => ?_)
    repeat (first | refine n1 ?_ | refine n2 (fun b _ => ?_) | refine n3 (fun _ _ => ?_) | refine n4 ?_ | refine n5 ?_ | refine WL_nil ?_ | refine W_seq ?_ | refine W_region ?_ | refine n7 ?_ | refine n8 ?_ | refine W_block ?_ | refine W_skip ?_ | refine W_ret ?_ | refine W_exit ?_ | refine WQ_then ?_ | refine WQ_then_ret ?_ | refine WQ_then_exit ?_ | refine WQ_block_normal ?_ | refine WQ_block_ret ?_ | refine WQ_block_exit ?_ | refine n9 ?_)
    (apply WL_effs; exact rfl; exact rfl; exact rfl; apply E_call; exact rfl; (intro _ _; simp); exact hv; (repeat (first | exact AllE.nil _ | (apply AllE.cons; (focus (first | exact ent_nilBy | exact ent_nilSl | (apply Ent.mem; repeat' (first | exact mcs | apply mct))))))); (intro _; exact rfl); (intro _; exact rfl))
    intro z _
    repeat (first | refine n1 ?_ | refine n2 (fun b _ => ?_) | refine n3 (fun _ _ => ?_) | refine n4 ?_ | refine n5 ?_ | refine WL_nil ?_ | refine W_seq ?_ | refine W_region ?_ | refine n7 ?_ | refine n8 ?_ | refine W_block ?_ | refine W_skip ?_ | refine W_ret ?_ | refine W_exit ?_ | refine WQ_then ?_ | refine WQ_then_ret ?_ | refine WQ_then_exit ?_ | refine WQ_block_normal ?_ | refine WQ_block_ret ?_ | refine WQ_block_exit ?_ | refine n9 ?_)
    refine WQ_ent (ψ := By (.slice none 0 0) []) ent_nilBy ?_
    ((apply ret2 Try.results10 ( Value.slice none 0 0)); (focus (first | trivial | assumption | omega)); (focus (first | exact RV_tmp rfl | (apply RV_cellN; exact rfl; (repeat' (first | exact Pick.head _ _ | apply Pick.tail)); (intro _; exact rfl); (intro _; exact rfl); exact rfl) | (apply RV_cell1; exact rfl; (repeat' (first | exact Pick.head _ _ | apply Pick.tail)); (intro _; exact rfl); exact rfl))); (focus (first | exact RV_tmp rfl | (apply RV_cellN; exact rfl; (repeat' (first | exact Pick.head _ _ | apply Pick.tail)); (intro _; exact rfl); (intro _; exact rfl); exact rfl) | (apply RV_cell1; exact rfl; (repeat' (first | exact Pick.head _ _ | apply Pick.tail)); (intro _; exact rfl); exact rfl)));  (focus (first | exact rfl | (simp; done))); (focus (repeat (first | exact SubO.nil _ | (apply SubO.cons; (focus (repeat' (first | exact Pick.head _ _ | apply Pick.tail))))))); (focus (repeat (first | exact AllE.nil _ | (apply AllE.cons; (focus (first | exact ent_nilBy | exact ent_nilSl | (apply Ent.mem; repeat' (first | exact mcs | apply mct)))))))))
end Go.Proofs.Ytbdcpahifcbcfaa
