/-
  Rules for walks, merged.
-/
import Derived.Test.YteojehocflbgdaaDoorXd
import Derived.Test.YteojehocflbgdaaDoorXc
import Derived.Test.YteojehocflbgdaaDoorXb
/-
  'Decode', the code's.
-/
namespace Go.Proofs.YteojehocflbgdaaDoor.C05
open Go Go.RowKit Go.Hs
def flg (b : UInt8) (i : Nat) : Bool := decide (b.toNat / 2 ^ i % 2 = 1)
def flq (n : Nat) (i : Nat) : Bool := decide (n / 2 ^ i % 2 = 1)
def hdA (b0 b1 : UInt8) : Hd := ⟨UInt8.ofNat (b0.toNat / 4 % 4), UInt8.ofNat (b0.toNat / 16), flg b1 0, flg b1 1, flg b1 2, flg b1 3, flg b1 4, flg b1 5, flg b1 6, 0, zA6, zA6, zA6, zA6, 0, 0, 0, 0, false, false⟩
def setA (h : Hd) (i : Nat) (a : A6) : Hd := match i with
  | 0 => { h with a1 := a }
  | 1 => { h with a2 := a }
  | 2 => { h with a3 := a }
  | _ => { h with a4 := a }
def a6v (l : List UInt8) : A6 := ⟨l.getD 0 0, l.getD 1 0, l.getD 2 0, l.getD 3 0, l.getD 4 0, l.getD 5 0⟩
def adC (c : Cu) : Nat → Cu
  | 0 => c
  | i + 1 => tkC (adC c i) 6
def adH (c : Cu) (h : Hd) : Nat → Hd
  | 0 => h
  | i + 1 => setA (adH c h i) i (a6v (tkV (adC c i) 6))
def s1 (ys : List UInt8) : Cu := tkC (ys, false) 2
def dB (ys : List UInt8) (i : Nat) : UInt8 := (tkV (ys, false) 2).getD i 0
def hA (ys : List UInt8) : Hd := hdA (dB ys 0) (dB ys 1)
def s2 (ys : List UInt8) : Cu := tkC (s1 ys) 2
def setD (h : Hd) (n : Int) : Hd := { h with dur := n }
def hB (ys : List UInt8) : Hd := setD (hA ys) (c2N (tkV (s1 ys) 2))
def s3 (ys : List UInt8) : Cu := adC (s2 ys) (befN (hA ys))
def hC (ys : List UInt8) : Hd := adH (s2 ys) (hB ys) (befN (hA ys))
def setS (h : Hd) (v : Nat) : Hd := { h with seq := ((v / 16 : Nat) : Int), frag := ((v % 16 : Nat) : Int) }
def stS (p : Bool) (c : Cu) : Cu := bif p then tkC c 2 else c
def stH (p : Bool) (c : Cu) (h : Hd) : Hd := bif p then setS h (c2N (tkV c 2)) else h
def s4 (ys : List UInt8) : Cu := stS (prtB (hA ys).kind) (s3 ys)
def hD (ys : List UInt8) : Hd := stH (prtB (hA ys).kind) (s3 ys) (hC ys)
def ftS (p : Bool) (c : Cu) : Cu := bif p then tkC c 6 else c
def ftH (p : Bool) (c : Cu) (h : Hd) : Hd := bif p then setA h 3 (a6v (tkV c 6)) else h
def s5 (ys : List UInt8) : Cu := ftS (fourB (hA ys)) (s4 ys)
def hE (ys : List UInt8) : Hd := ftH (fourB (hA ys)) (s4 ys) (hD ys)
def setQ (h : Hd) (q : Nat) : Hd := { h with tid := ((q % 8 : Nat) : Int), eosp := flq q 4, ack := UInt8.ofNat (q / 32 % 4), amsdu := flq q 7 }
def qtH (p : Bool) (c : Cu) (h : Hd) : Hd := bif p then setQ h (c2N (tkV c 2)) else h
def oddV (q : Nat) : Bool := flq q 3 || decide (q / 256 ≠ 0)
def oddP (p : Bool) (c : Cu) : Bool := bif p then oddV (c2N (tkV c 2)) else false
def trB (ys : List UInt8) : Bool := trafB (hA ys).kind (hA ys).sub
def s6 (ys : List UInt8) : Cu := stS (trB ys) (s5 ys)
def hF (ys : List UInt8) : Hd := qtH (trB ys) (s5 ys) (hE ys)
def oddB (ys : List UInt8) : Bool := oddP (trB ys) (s5 ys)
def refB (ys : List UInt8) : Bool := oddB ys || (!hdB (hF ys) || (barB (hF ys) && decide (0 < (s6 ys).1.length)))
def decE (ys : List UInt8) : Int :=
  if ys.length < 2 then 10
  else if knB (hA ys).kind (hA ys).sub = false ∨ (dB ys 0).toNat % 4 ≠ 0 ∨ 128 ≤ (dB ys 1).toNat then 12
  else if (s6 ys).2 = true then 10
  else if refB ys = true then 12
  else if 2304 < (s6 ys).1.length then 11
  else 0
def decH (ys : List UInt8) : Hd := if decE ys = 0 then hF ys else h0_
def decB (ys : List UInt8) : List UInt8 := if decE ys = 0 then (s6 ys).1 else []

theorem u8_andP (a : UInt8) (i : Nat) (hi : i < 8) : bits .and .u8 (a.toNat : Int) ((2 ^ i : Nat) : Int) = ((a.toNat / 2 ^ i % 2 * 2 ^ i : Nat) : Int) := by
  have h : ∀ n : Fin 256, ∀ i : Fin 8, bits .and .u8 (n.val : Int) ((2 ^ i.val : Nat) : Int) = ((n.val / 2 ^ i.val % 2 * 2 ^ i.val : Nat) : Int) := by decide +kernel
  exact h ⟨a.toNat, a.toNat_lt⟩ ⟨i, hi⟩
theorem flq_ne (n i : Nat) : decide (((n / 2 ^ i % 2 * 2 ^ i : Nat) : Int) ≠ 0) = flq n i := by
  have hp : 0 < 2 ^ i := Nat.pow_pos (by decide)
  unfold flq
  generalize 2 ^ i = p at *
  have h2 : n / p % 2 < 2 := Nat.mod_lt _ (by decide)
  generalize n / p % 2 = m at *
  have hm : m = 0 ∨ m = 1 := by omega
  rcases hm with rfl | rfl
  · rw [Nat.zero_mul]; rfl
  · rw [Nat.one_mul, decide_eq_true (by omega), decide_eq_true rfl]
theorem flg_ne (a : UInt8) (i : Nat) : decide (((a.toNat / 2 ^ i % 2 * 2 ^ i : Nat) : Int) ≠ 0) = flg a i := flq_ne a.toNat i
theorem u8_shr2 (a : UInt8) : ((a.toNat : Int)).fdiv (2 ^ (min (2 : Int).toNat IntKind.u8.bits)) = ((a.toNat / 4 : Nat) : Int) := by
  rw [show ((2 : Int) ^ (min (2 : Int).toNat IntKind.u8.bits)) = 4 from rfl, Int.fdiv_eq_ediv_of_nonneg _ (by decide)]
  omega
theorem u8_shr4 (a : UInt8) : ((a.toNat : Int)).fdiv (2 ^ (min (4 : Int).toNat IntKind.u8.bits)) = (((UInt8.ofNat (a.toNat / 16)).toNat : Nat) : Int) := by
  have := a.toNat_lt
  rw [show ((2 : Int) ^ (min (4 : Int).toNat IntKind.u8.bits)) = 16 from rfl, Int.fdiv_eq_ediv_of_nonneg _ (by decide), UInt8.toNat_ofNat', Nat.mod_eq_of_lt (show a.toNat / 16 < 2 ^ 8 by omega)]
  omega
theorem u8_kind (a : UInt8) : bits .and .u8 ((a.toNat / 4 : Nat) : Int) 3 = (((UInt8.ofNat (a.toNat / 4 % 4)).toNat : Nat) : Int) := by
  have h : ∀ n : Fin 256, bits .and .u8 ((n.val / 4 : Nat) : Int) 3 = (((UInt8.ofNat (n.val / 4 % 4)).toNat : Nat) : Int) := by decide +kernel
  exact h ⟨a.toNat, a.toNat_lt⟩
theorem u8_and128 (a : UInt8) : bits .and .u8 (a.toNat : Int) 128 = ((a.toNat / 128 * 128 : Nat) : Int) := by
  have h : ∀ n : Fin 256, bits .and .u8 (n.val : Int) 128 = ((n.val / 128 * 128 : Nat) : Int) := by decide +kernel
  exact h ⟨a.toNat, a.toNat_lt⟩
theorem a6v_map {l : List UInt8} (h : l.length = 6) : l.map bcell = [bcell (a6v l).a0, bcell (a6v l).a1, bcell (a6v l).a2, bcell (a6v l).a3, bcell (a6v l).a4, bcell (a6v l).a5] := by
  match l, h with
  | [_, _, _, _, _, _], _ => rfl
theorem adH_put (c : Cu) (h : Hd) (k : Nat) (hk : k < 3) (hl : (tkV (adC c k) 6).length = 6) : (adH c h k).cells.take (10 + 6 * k) ++ (tkV (adC c k) 6).map bcell ++ (adH c h k).cells.drop (10 + 6 * k + 6) = (adH c h (k + 1)).cells := by
  rw [a6v_map hl]
  have h3 : k = 0 ∨ k = 1 ∨ k = 2 := by omega
  show _ = (setA (adH c h k) k (a6v (tkV (adC c k) 6))).cells
  generalize adH c h k = H
  generalize a6v (tkV (adC c k) 6) = a
  rcases h3 with rfl | rfl | rfl <;> rfl
theorem put3 (h : Hd) (l : List UInt8) (hl : l.length = 6) : h.cells.take 28 ++ l.map bcell ++ h.cells.drop (28 + 6) = (setA h 3 (a6v l)).cells := by
  rw [a6v_map hl]
  rfl
theorem i64_shrN (v k : Nat) (hk : k ≤ 64) : (v : Int).fdiv (2 ^ (min ((k : Int)).toNat IntKind.i64.bits)) = ((v / 2 ^ k : Nat) : Int) := by
  have e2 : min ((k : Int)).toNat IntKind.i64.bits = k := by
    rw [Int.toNat_natCast]
    exact Nat.min_eq_left hk
  rw [e2, Int.fdiv_eq_ediv_of_nonneg _ (by exact Int.le_of_lt (Int.pow_pos (by decide)))]
  rw [Int.natCast_ediv, Int.natCast_pow]
  rfl
theorem i64_and_nat (a b : Nat) (ha : a < 4611686018427387904) (hb : b < 4611686018427387904) : bits .and .i64 (a : Int) (b : Int) = ((a &&& b : Nat) : Int) := by
  have hx : a &&& b ≤ a := Nat.and_le_left
  show IntKind.i64.wrap ((BitVec.ofInt 64 (a : Int) &&& BitVec.ofInt 64 (b : Int)).toNat : Int) = _
  rw [BitVec.toNat_and, BitVec.ofInt_natCast, BitVec.ofInt_natCast, BitVec.toNat_ofNat, BitVec.toNat_ofNat, Nat.mod_eq_of_lt (by omega), Nat.mod_eq_of_lt (by omega)]
  exact wx_i64 (by omega)
theorem and_pow (a i : Nat) : a &&& 2 ^ i = a / 2 ^ i % 2 * 2 ^ i := by
  rw [← Nat.toNat_testBit]
  apply Nat.eq_of_testBit_eq
  intro j
  rw [Nat.testBit_and, Nat.testBit_two_pow]
  by_cases e : i = j
  · subst e
    cases h : a.testBit i
    · simp
    · simp [Nat.testBit_two_pow]
  · rw [decide_eq_false e, Bool.and_false]
    cases h : a.testBit i
    · simp
    · simp [Nat.testBit_two_pow, e]
theorem i64_andP (a i : Nat) (ha : a < 4611686018427387904) (hi : i < 16) : bits .and .i64 (a : Int) ((2 ^ i : Nat) : Int) = ((a / 2 ^ i % 2 * 2 ^ i : Nat) : Int) := by
  have hp : 2 ^ i ≤ 2 ^ 16 := Nat.pow_le_pow_right (by decide) (by omega)
  have h16 : (2 : Nat) ^ 16 = 65536 := by decide
  rw [i64_and_nat _ _ ha (by omega), and_pow]
theorem i64_15N (v : Nat) : bits .and .i64 (v : Int) 15 = ((v % 16 : Nat) : Int) := by rw [i64_and15]; omega
theorem i64_7N (v : Nat) : bits .and .i64 (v : Int) 7 = ((v % 8 : Nat) : Int) := by rw [i64_and7]; omega
theorem i64_3N (v : Nat) : bits .and .i64 (v : Int) 3 = ((v % 4 : Nat) : Int) := by rw [i64_and3]; omega
theorem quoN (q : Nat) (hq : q < 65536) : IntKind.i64.wrap ((q : Int).tdiv 32) = ((q / 32 : Nat) : Int) := by
  rw [show (q : Int).tdiv 32 = ((q / 32 : Nat) : Int) from rfl]
  exact wx_i64 (by omega)
theorem w64_nat (n : Nat) (h : n < 65536) : w64 (n : Int) := by
  have h : (Lit.int .i64 (n : Int)).wf = true := by
    simp [Lit.wf, IntKind.min, IntKind.max, IntKind.signed, IntKind.bits] <;> omega
  exact h
theorem setA_w {h : Hd} (hw : h.w) (i : Nat) (a : A6) : (setA h i a).w := by
  unfold setA
  split <;> exact hw
theorem adH_w {h : Hd} (hw : h.w) (c : Cu) : ∀ n, (adH c h n).w
  | 0 => hw
  | n + 1 => setA_w (adH_w hw c n) _ _
theorem hF_w (ys : List UInt8) : (hF ys).w := by
  have w0 : (hA ys).w := ⟨w64_zero, w64_zero, w64_zero, w64_zero⟩
  have w1 : (hB ys).w := ⟨w64_nat _ (c2N_lt _), w0.2⟩
  have w2 : (hC ys).w := adH_w w1 _ _
  have w3 : (hD ys).w := by
    show (stH (prtB (hA ys).kind) (s3 ys) (hC ys)).w
    cases prtB (hA ys).kind
    · exact w2
    · have := c2N_lt (tkV (s3 ys) 2)
      exact ⟨w2.1, w64_nat _ (by omega), w64_nat _ (by omega), w2.2.2.2⟩
  have w4 : (hE ys).w := by
    show (ftH (fourB (hA ys)) (s4 ys) (hD ys)).w
    cases fourB (hA ys)
    · exact w3
    · exact setA_w w3 3 (a6v (tkV (s4 ys) 6))
  show (qtH (trB ys) (s5 ys) (hE ys)).w
  cases trB ys
  · exact w4
  · have := c2N_lt (tkV (s5 ys) 2)
    exact ⟨w4.1, w4.2.1, w4.2.2.1, w64_nat _ (by omega)⟩
theorem adC_len (c : Cu) : ∀ n, (adC c n).1.length ≤ c.1.length
  | 0 => Nat.le_refl _
  | n + 1 => Nat.le_trans (tkC_len _ 6) (adC_len c n)
attribute [local irreducible] WL W WQ PL Runs Effs AllE Ent SubO FrIn Pick OneC Ones CellsE PartsE SeqE UZ By Sl Pt Ct

set_option maxRecDepth 100000 in
set_option maxHeartbeats 16000000 in
theorem decode_fnR (dv : Value) (xs : List UInt8) (hx : xs.length ≤ 1000000) (ys : List UInt8) (hys : ys = C03.vB C03.P32 C03.cb32 4 xs) (E : Int) (hEq : E = if C03.vE C03.P32 C03.cb32 4 xs = 0 then decE ys else C03.vE C03.P32 C03.cb32 4 xs) :
    Ct Tryd.prog 11 [dv] [] [By dv xs]
    (X := Value) (fun _ => True) (fun x => .tuple #[(⟨if E = 0 then hF ys else h0_, x, if E = 0 then (s6 ys).1 else []⟩ : Fm).val, .int .i64 E]) (fun x => [.row x 5 1 (if E = 0 then (s6 ys).1 else []).length ((if E = 0 then (s6 ys).1 else []).map bcell)]) (fun _ => []) := by
  have hv := C03.verify_fnB dv xs (by omega)
  rw [← hys] at hv
  have hyl : ys.length ≤ 1000000 := by
    rw [hys]
    unfold C03.vB
    split
    · rw [List.length_take]; omega
    · exact Nat.zero_le _
  clear hys
  by_cases c0 : C03.vE C03.P32 C03.cb32 4 xs = 0
  · rw [if_pos c0] at hEq
    rw [c0] at hv
    clear c0
    have ht := fun c bv => take_fn c bv (ys, false) 2 (.inl rfl) hyl
    dsimp only at ht
    rw [show ((2 : Nat) : Int) = 2 from rfl] at ht
    by_cases c1 : ys.length < 2
    · have e2 : tkC (ys, false) 2 = ([], true) := by unfold tkC; rw [if_neg (show ¬ 2 ≤ ys.length by omega)]
      rw [e2] at ht
      dsimp only at ht
      rw [show E = 10 by rw [hEq]; exact if_pos c1]
      refine Ct_intro Tryd.func11 rfl Tryd.ntmps11 (by simp) _ rfl (fun w0 O0 => ?_)
      repeat (first | refine n1 ?_ | refine n2 (fun b _ => ?_) | refine n3 (fun _ _ => ?_) | refine n4 ?_ | refine n5 ?_ | refine WL_nil ?_ | refine W_seq ?_ | refine W_region ?_ | refine n7 ?_ | refine n8 ?_ | refine W_block ?_ | refine W_skip ?_ | refine W_ret ?_ | refine W_exit ?_ | refine WQ_then ?_ | refine WQ_then_ret ?_ | refine WQ_then_exit ?_ | refine WQ_block_normal ?_ | refine WQ_block_ret ?_ | refine WQ_block_exit ?_ | refine n9 ?_)
      (apply WL_effs; exact rfl; exact rfl; exact rfl; apply E_call; exact rfl; (intro _ _; simp); exact hv; (repeat (first | exact AllE.nil _ | (apply AllE.cons; (focus (first | exact ent_nilBy | exact ent_nilSl | (apply Ent.mem; repeat' (first | exact mcs | apply mct))))))); (intro _; exact rfl); (intro _; exact rfl))
      intro z _
      repeat (first | refine n1 ?_ | refine n2 (fun b _ => ?_) | refine n3 (fun _ _ => ?_) | refine n4 ?_ | refine n5 ?_ | refine WL_nil ?_ | refine W_seq ?_ | refine W_region ?_ | refine n7 ?_ | refine n8 ?_ | refine W_block ?_ | refine W_skip ?_ | refine W_ret ?_ | refine W_exit ?_ | refine WQ_then ?_ | refine WQ_then_ret ?_ | refine WQ_then_exit ?_ | refine WQ_block_normal ?_ | refine WQ_block_ret ?_ | refine WQ_block_exit ?_ | refine n9 ?_)
      (apply WL_effs; exact rfl; exact rfl; exact rfl; apply E_callO; exact rfl; (intro _ _; simp); exact ht b z; (first | (apply perm1; (focus (repeat' (first | exact Pick.head _ _ | apply Pick.tail)))) | (apply perm2; (focus (repeat' (first | exact Pick.head _ _ | apply Pick.tail))); (focus (repeat' (first | exact Pick.head _ _ | apply Pick.tail)))) | (apply perm3; (focus (repeat' (first | exact Pick.head _ _ | apply Pick.tail))); (focus (repeat' (first | exact Pick.head _ _ | apply Pick.tail))); (focus (repeat' (first | exact Pick.head _ _ | apply Pick.tail))))); (repeat (first | exact AllE.nil _ | (apply AllE.cons; (focus (first | exact ent_nilBy | exact ent_nilSl | (apply Ent.mem; repeat' (first | exact mcs | apply mct))))))); (intro _; exact rfl); (intro _; exact rfl))
      intro x _
      repeat (first | refine n1 ?_ | refine n2 (fun b _ => ?_) | refine n3 (fun _ _ => ?_) | refine n4 ?_ | refine n5 ?_ | refine WL_nil ?_ | refine W_seq ?_ | refine W_region ?_ | refine n7 ?_ | refine n8 ?_ | refine W_block ?_ | refine W_skip ?_ | refine W_ret ?_ | refine W_exit ?_ | refine WQ_then ?_ | refine WQ_then_ret ?_ | refine WQ_then_exit ?_ | refine WQ_block_normal ?_ | refine WQ_block_ret ?_ | refine WQ_block_exit ?_ | refine n9 ?_)
      refine WQ_nilRow 5 1 ?_
      ((apply ret2 Tryd.results11 ( Value.slice none 0 0)); (focus (first | trivial | assumption | omega)); (focus (first | exact RV_tmp rfl | (apply RV_cellN; exact rfl; (repeat' (first | exact Pick.head _ _ | apply Pick.tail)); (intro _; exact rfl); (intro _; exact rfl); exact rfl) | (apply RV_cell1; exact rfl; (repeat' (first | exact Pick.head _ _ | apply Pick.tail)); (intro _; exact rfl); exact rfl))); (focus (first | exact RV_tmp rfl | (apply RV_cellN; exact rfl; (repeat' (first | exact Pick.head _ _ | apply Pick.tail)); (intro _; exact rfl); (intro _; exact rfl); exact rfl) | (apply RV_cell1; exact rfl; (repeat' (first | exact Pick.head _ _ | apply Pick.tail)); (intro _; exact rfl); exact rfl)));  (focus (first | exact rfl | (simp; done))); (focus (repeat (first | exact SubO.nil _ | (apply SubO.cons; (focus (repeat' (first | exact Pick.head _ _ | apply Pick.tail))))))); (focus (repeat (first | exact AllE.nil _ | (apply AllE.cons; (focus (first | exact ent_nilBy | exact ent_nilSl | (apply Ent.mem; repeat' (first | exact mcs | apply mct)))))))))
    · have e2 : (tkC (ys, false) 2).2 = false := by unfold tkC; rw [if_pos (show 2 ≤ ys.length by omega)]
      rw [e2] at ht
      change ∀ c bv, Ct Tryd.prog _ _ _ _ _ _ _ (fun x : Value × Value => [By x.1 (tkV (ys, false) 2), By x.2 (s1 ys).1]) at ht
      have hl := tkV_length (ys, false) 2
      have q1 := ((tkV (ys, false) 2).getD 1 0).toNat_lt
      have hk : CtD Tryd.prog 30 [bcell (UInt8.ofNat (((tkV (ys, false) 2).getD 0 0).toNat / 4 % 4)), bcell (UInt8.ofNat (((tkV (ys, false) 2).getD 0 0).toNat / 16))] [] (.tuple #[.agg #[.bool (prtB (hA ys).kind), .bool (prtB (hA ys).kind), .bool (trB ys)], .bool (knB (hA ys).kind (hA ys).sub)]) := known_fn _ _
      refine Ct_intro Tryd.func11 rfl Tryd.ntmps11 (by simp) _ rfl (fun w0 O0 => ?_)
      repeat (first | refine n1 ?_ | refine n2 (fun b _ => ?_) | refine n3 (fun _ _ => ?_) | refine n4 ?_ | refine n5 ?_ | refine WL_nil ?_ | refine W_seq ?_ | refine W_region ?_ | refine n7 ?_ | refine n8 ?_ | refine W_block ?_ | refine W_skip ?_ | refine W_ret ?_ | refine W_exit ?_ | refine WQ_then ?_ | refine WQ_then_ret ?_ | refine WQ_then_exit ?_ | refine WQ_block_normal ?_ | refine WQ_block_ret ?_ | refine WQ_block_exit ?_ | refine n9 ?_)
      obtain ⟨b0, rfl⟩ : ∃ b0, b0 = b := ⟨b, rfl⟩
      (apply WL_effs; exact rfl; exact rfl; exact rfl; apply E_call; exact rfl; (intro _ _; simp); exact hv; (repeat (first | exact AllE.nil _ | (apply AllE.cons; (focus (first | exact ent_nilBy | exact ent_nilSl | (apply Ent.mem; repeat' (first | exact mcs | apply mct))))))); (intro _; exact rfl); (intro _; exact rfl))
      intro z _
      repeat (first | refine n1 ?_ | refine n2 (fun b _ => ?_) | refine n3 (fun _ _ => ?_) | refine n4 ?_ | refine n5 ?_ | refine WL_nil ?_ | refine W_seq ?_ | refine W_region ?_ | refine n7 ?_ | refine n8 ?_ | refine W_block ?_ | refine W_skip ?_ | refine W_ret ?_ | refine W_exit ?_ | refine WQ_then ?_ | refine WQ_then_ret ?_ | refine WQ_then_exit ?_ | refine WQ_block_normal ?_ | refine WQ_block_ret ?_ | refine WQ_block_exit ?_ | refine n9 ?_)
      obtain ⟨b1, rfl⟩ : ∃ b1, b1 = b := ⟨b, rfl⟩
      (apply WL_effs; exact rfl; exact rfl; exact rfl; apply E_callO; exact rfl; (intro _ _; simp); exact ht b1 z; (first | (apply perm1; (focus (repeat' (first | exact Pick.head _ _ | apply Pick.tail)))) | (apply perm2; (focus (repeat' (first | exact Pick.head _ _ | apply Pick.tail))); (focus (repeat' (first | exact Pick.head _ _ | apply Pick.tail)))) | (apply perm3; (focus (repeat' (first | exact Pick.head _ _ | apply Pick.tail))); (focus (repeat' (first | exact Pick.head _ _ | apply Pick.tail))); (focus (repeat' (first | exact Pick.head _ _ | apply Pick.tail))))); (repeat (first | exact AllE.nil _ | (apply AllE.cons; (focus (first | exact ent_nilBy | exact ent_nilSl | (apply Ent.mem; repeat' (first | exact mcs | apply mct))))))); (intro _; exact rfl); (intro _; exact rfl))
      intro x _
      repeat (first | refine n1 ?_ | refine n2 (fun b _ => ?_) | refine n3 (fun _ _ => ?_) | refine n4 ?_ | refine n5 ?_ | refine WL_nil ?_ | refine W_seq ?_ | refine W_region ?_ | refine n7 ?_ | refine n8 ?_ | refine W_block ?_ | refine W_skip ?_ | refine W_ret ?_ | refine W_exit ?_ | refine WQ_then ?_ | refine WQ_then_ret ?_ | refine WQ_then_exit ?_ | refine WQ_block_normal ?_ | refine WQ_block_ret ?_ | refine WQ_block_exit ?_ | refine n9 ?_)
      (refine W_regionP' [11] [10] [0, 1, 2, 3, 4, 5, 6, 7, 8, 9, 10, 11] [] (by kernel_rfl) (by kernel_rfl) (by repeat (first | exact UZ.nil _ _ | (apply UZ.cons; exact rfl; (intro _; exact rfl)))) (by exact rfl) (by (repeat (first | exact SubO.nil _ | (apply SubO.cons; (focus (repeat' (first | exact Pick.head _ _ | apply Pick.tail))))))) ?_)
      repeat (first | refine p1 ?_ | refine p2 (fun b _ => ?_) | refine p3 (fun _ _ => ?_) | refine p4 ?_ | refine p5 ?_ | refine p7 (fun b => ?_) | refine PL_nil ?_)
      refine PL_runs rfl rfl rfl rfl rfl (R_shr rfl rfl (by decide) (u8_shr2 _)) ?_
      refine PL_runs rfl rfl rfl rfl rfl (R_and rfl rfl (u8_kind _)) ?_
      repeat (first | refine p1 ?_ | refine p2 (fun b _ => ?_) | refine p3 (fun _ _ => ?_) | refine p4 ?_ | refine p5 ?_ | refine p7 (fun b => ?_) | refine PL_nil ?_)
      refine PL_runs rfl rfl rfl rfl rfl (R_shr rfl rfl (by decide) (u8_shr4 _)) ?_
      repeat (first | refine p1 ?_ | refine p2 (fun b _ => ?_) | refine p3 (fun _ _ => ?_) | refine p4 ?_ | refine p5 ?_ | refine p7 (fun b => ?_) | refine PL_nil ?_)
      repeat (first | refine n1 ?_ | refine n2 (fun b _ => ?_) | refine n3 (fun _ _ => ?_) | refine n4 ?_ | refine n5 ?_ | refine WL_nil ?_ | refine W_seq ?_ | refine W_region ?_ | refine n7 ?_ | refine n8 ?_ | refine W_block ?_ | refine W_skip ?_ | refine W_ret ?_ | refine W_exit ?_ | refine WQ_then ?_ | refine WQ_then_ret ?_ | refine WQ_then_exit ?_ | refine WQ_block_normal ?_ | refine WQ_block_ret ?_ | refine WQ_block_exit ?_ | refine n9 ?_)
      obtain ⟨b2, rfl⟩ : ∃ b2, b2 = b := ⟨b, rfl⟩
      cases hkn : knB (hA ys).kind (hA ys).sub with
      | false =>
        rw [hkn] at hk
        obtain rfl : E = 12 := by rw [hEq]; unfold decE; rw [if_neg c1, if_pos (.inl hkn)]
        repeat (first | refine n1 ?_ | refine n2 (fun b _ => ?_) | refine n3 (fun _ _ => ?_) | refine n4 ?_ | refine n5 ?_ | refine n6 (hk) ?_ | refine n6v (hk) ?_ | refine WL_nil ?_ | refine W_seq ?_ | refine W_region ?_ | refine n7 ?_ | refine n8 ?_ | refine W_block ?_ | refine W_skip ?_ | refine W_ret ?_ | refine W_exit ?_ | refine WQ_then ?_ | refine WQ_then_ret ?_ | refine WQ_then_exit ?_ | refine WQ_block_normal ?_ | refine WQ_block_ret ?_ | refine WQ_block_exit ?_ | refine n9 ?_)
        refine WQ_nilRow 5 1 ?_
        ((apply ret2 Tryd.results11 ( Value.slice none 0 0)); (focus (first | trivial | assumption | omega)); (focus (first | exact RV_tmp rfl | (apply RV_cellN; exact rfl; (repeat' (first | exact Pick.head _ _ | apply Pick.tail)); (intro _; exact rfl); (intro _; exact rfl); exact rfl) | (apply RV_cell1; exact rfl; (repeat' (first | exact Pick.head _ _ | apply Pick.tail)); (intro _; exact rfl); exact rfl))); (focus (first | exact RV_tmp rfl | (apply RV_cellN; exact rfl; (repeat' (first | exact Pick.head _ _ | apply Pick.tail)); (intro _; exact rfl); (intro _; exact rfl); exact rfl) | (apply RV_cell1; exact rfl; (repeat' (first | exact Pick.head _ _ | apply Pick.tail)); (intro _; exact rfl); exact rfl)));  (focus (first | exact rfl | (simp; done))); (focus (repeat (first | exact SubO.nil _ | (apply SubO.cons; (focus (repeat' (first | exact Pick.head _ _ | apply Pick.tail))))))); (focus (repeat (first | exact AllE.nil _ | (apply AllE.cons; (focus (first | exact ent_nilBy | exact ent_nilSl | (apply Ent.mem; repeat' (first | exact mcs | apply mct)))))))))
      | true =>
        rw [hkn] at hk
        by_cases c2 : ((tkV (ys, false) 2).getD 0 0).toNat % 4 = 0
        · by_cases c3 : ((tkV (ys, false) 2).getD 1 0).toNat < 128
          · repeat (first | refine n1 ?_ | refine n2 (fun b _ => ?_) | refine n3 (fun _ _ => ?_) | refine n4 ?_ | refine n5 ?_ | refine n6 (hk) ?_ | refine n6v (hk) ?_ | refine WL_nil ?_ | refine W_seq ?_ | refine W_region ?_ | refine n7 ?_ | refine n8 ?_ | refine W_block ?_ | refine W_skip ?_ | refine W_ret ?_ | refine W_exit ?_ | refine WQ_then ?_ | refine WQ_then_ret ?_ | refine WQ_then_exit ?_ | refine WQ_block_normal ?_ | refine WQ_block_ret ?_ | refine WQ_block_exit ?_ | refine n9 ?_)
            refine WL_runs rfl rfl rfl (R_and rfl rfl (u8_and3 _)) ?_
            repeat (first | refine n1 ?_ | refine n2 (fun b _ => ?_) | refine n3 (fun _ _ => ?_) | refine n4 ?_ | refine n5 ?_ | refine WL_nil ?_ | refine W_seq ?_ | refine W_region ?_ | refine n7 ?_ | refine n8 ?_ | refine W_block ?_ | refine W_skip ?_ | refine W_ret ?_ | refine W_exit ?_ | refine WQ_then ?_ | refine WQ_then_ret ?_ | refine WQ_then_exit ?_ | refine WQ_block_normal ?_ | refine WQ_block_ret ?_ | refine WQ_block_exit ?_ | refine n9 ?_)
            refine WL_runs rfl rfl rfl (R_and rfl rfl (u8_and128 _)) ?_
            repeat (first | refine n1 ?_ | refine n2 (fun b _ => ?_) | refine n3 (fun _ _ => ?_) | refine n4 ?_ | refine n5 ?_ | refine WL_nil ?_ | refine W_seq ?_ | refine W_region ?_ | refine n7 ?_ | refine n8 ?_ | refine W_block ?_ | refine W_skip ?_ | refine W_ret ?_ | refine W_exit ?_ | refine WQ_then ?_ | refine WQ_then_ret ?_ | refine WQ_then_exit ?_ | refine WQ_block_normal ?_ | refine WQ_block_ret ?_ | refine WQ_block_exit ?_ | refine n9 ?_)
            refine WL_runs rfl rfl rfl (R_and rfl rfl (u8_andP _ 0 (by decide))) ?_
            refine WL_runs rfl rfl rfl (R_cmp rfl rfl rfl (flg_ne _ 0)) ?_
            repeat (first | refine n1 ?_ | refine n2 (fun b _ => ?_) | refine n3 (fun _ _ => ?_) | refine n4 ?_ | refine n5 ?_ | refine WL_nil ?_ | refine W_seq ?_ | refine W_region ?_ | refine n7 ?_ | refine n8 ?_ | refine W_block ?_ | refine W_skip ?_ | refine W_ret ?_ | refine W_exit ?_ | refine WQ_then ?_ | refine WQ_then_ret ?_ | refine WQ_then_exit ?_ | refine WQ_block_normal ?_ | refine WQ_block_ret ?_ | refine WQ_block_exit ?_ | refine n9 ?_)
            refine WL_runs rfl rfl rfl (R_and rfl rfl (u8_andP _ 1 (by decide))) ?_
            refine WL_runs rfl rfl rfl (R_cmp rfl rfl rfl (flg_ne _ 1)) ?_
            repeat (first | refine n1 ?_ | refine n2 (fun b _ => ?_) | refine n3 (fun _ _ => ?_) | refine n4 ?_ | refine n5 ?_ | refine WL_nil ?_ | refine W_seq ?_ | refine W_region ?_ | refine n7 ?_ | refine n8 ?_ | refine W_block ?_ | refine W_skip ?_ | refine W_ret ?_ | refine W_exit ?_ | refine WQ_then ?_ | refine WQ_then_ret ?_ | refine WQ_then_exit ?_ | refine WQ_block_normal ?_ | refine WQ_block_ret ?_ | refine WQ_block_exit ?_ | refine n9 ?_)
            refine WL_runs rfl rfl rfl (R_and rfl rfl (u8_andP _ 2 (by decide))) ?_
            refine WL_runs rfl rfl rfl (R_cmp rfl rfl rfl (flg_ne _ 2)) ?_
            repeat (first | refine n1 ?_ | refine n2 (fun b _ => ?_) | refine n3 (fun _ _ => ?_) | refine n4 ?_ | refine n5 ?_ | refine WL_nil ?_ | refine W_seq ?_ | refine W_region ?_ | refine n7 ?_ | refine n8 ?_ | refine W_block ?_ | refine W_skip ?_ | refine W_ret ?_ | refine W_exit ?_ | refine WQ_then ?_ | refine WQ_then_ret ?_ | refine WQ_then_exit ?_ | refine WQ_block_normal ?_ | refine WQ_block_ret ?_ | refine WQ_block_exit ?_ | refine n9 ?_)
            refine WL_runs rfl rfl rfl (R_and rfl rfl (u8_andP _ 3 (by decide))) ?_
            refine WL_runs rfl rfl rfl (R_cmp rfl rfl rfl (flg_ne _ 3)) ?_
            repeat (first | refine n1 ?_ | refine n2 (fun b _ => ?_) | refine n3 (fun _ _ => ?_) | refine n4 ?_ | refine n5 ?_ | refine WL_nil ?_ | refine W_seq ?_ | refine W_region ?_ | refine n7 ?_ | refine n8 ?_ | refine W_block ?_ | refine W_skip ?_ | refine W_ret ?_ | refine W_exit ?_ | refine WQ_then ?_ | refine WQ_then_ret ?_ | refine WQ_then_exit ?_ | refine WQ_block_normal ?_ | refine WQ_block_ret ?_ | refine WQ_block_exit ?_ | refine n9 ?_)
            refine WL_runs rfl rfl rfl (R_and rfl rfl (u8_andP _ 4 (by decide))) ?_
            refine WL_runs rfl rfl rfl (R_cmp rfl rfl rfl (flg_ne _ 4)) ?_
            repeat (first | refine n1 ?_ | refine n2 (fun b _ => ?_) | refine n3 (fun _ _ => ?_) | refine n4 ?_ | refine n5 ?_ | refine WL_nil ?_ | refine W_seq ?_ | refine W_region ?_ | refine n7 ?_ | refine n8 ?_ | refine W_block ?_ | refine W_skip ?_ | refine W_ret ?_ | refine W_exit ?_ | refine WQ_then ?_ | refine WQ_then_ret ?_ | refine WQ_then_exit ?_ | refine WQ_block_normal ?_ | refine WQ_block_ret ?_ | refine WQ_block_exit ?_ | refine n9 ?_)
            refine WL_runs rfl rfl rfl (R_and rfl rfl (u8_andP _ 5 (by decide))) ?_
            refine WL_runs rfl rfl rfl (R_cmp rfl rfl rfl (flg_ne _ 5)) ?_
            repeat (first | refine n1 ?_ | refine n2 (fun b _ => ?_) | refine n3 (fun _ _ => ?_) | refine n4 ?_ | refine n5 ?_ | refine WL_nil ?_ | refine W_seq ?_ | refine W_region ?_ | refine n7 ?_ | refine n8 ?_ | refine W_block ?_ | refine W_skip ?_ | refine W_ret ?_ | refine W_exit ?_ | refine WQ_then ?_ | refine WQ_then_ret ?_ | refine WQ_then_exit ?_ | refine WQ_block_normal ?_ | refine WQ_block_ret ?_ | refine WQ_block_exit ?_ | refine n9 ?_)
            refine WL_runs rfl rfl rfl (R_and rfl rfl (u8_andP _ 6 (by decide))) ?_
            refine WL_runs rfl rfl rfl (R_cmp rfl rfl rfl (flg_ne _ 6)) ?_
            repeat (first | refine n1 ?_ | refine n2 (fun b _ => ?_) | refine n3 (fun _ _ => ?_) | refine n4 ?_ | refine n5 ?_ | refine WL_nil ?_ | refine W_seq ?_ | refine W_region ?_ | refine n7 ?_ | refine n8 ?_ | refine W_block ?_ | refine W_skip ?_ | refine W_ret ?_ | refine W_exit ?_ | refine WQ_then ?_ | refine WQ_then_ret ?_ | refine WQ_then_exit ?_ | refine WQ_block_normal ?_ | refine WQ_block_ret ?_ | refine WQ_block_exit ?_ | refine n9 ?_)
            obtain ⟨b3, rfl⟩ : ∃ b3, b3 = b := ⟨b, rfl⟩
            change WL _ _ _ _ (OA.blk b2 32 (hA ys).cells :: _) _ _
            have l1 : (s1 ys).1.length ≤ 1000000 := Nat.le_trans (tkC_len _ 2) hyl
            have l2 : (s2 ys).1.length ≤ 1000000 := Nat.le_trans (tkC_len _ 2) l1
            have ht2 := fun bv => two_fn b1 bv (s1 ys) l1
            rw [show (s1 ys).2 = false from e2] at ht2
            change ∀ bv, Ct Tryd.prog _ _ _ _ _ _ (fun x : Value => [.blk b1 77 [x, .bool (s2 ys).2]]) (fun x : Value => [By x (s2 ys).1]) at ht2
            (apply WL_effs; exact rfl; exact rfl; exact rfl; apply E_callO; exact rfl; (intro _ _; simp); exact ht2 x.2; (first | (apply perm1; (focus (repeat' (first | exact Pick.head _ _ | apply Pick.tail)))) | (apply perm2; (focus (repeat' (first | exact Pick.head _ _ | apply Pick.tail))); (focus (repeat' (first | exact Pick.head _ _ | apply Pick.tail)))) | (apply perm3; (focus (repeat' (first | exact Pick.head _ _ | apply Pick.tail))); (focus (repeat' (first | exact Pick.head _ _ | apply Pick.tail))); (focus (repeat' (first | exact Pick.head _ _ | apply Pick.tail))))); (repeat (first | exact AllE.nil _ | (apply AllE.cons; (focus (first | exact ent_nilBy | exact ent_nilSl | (apply Ent.mem; repeat' (first | exact mcs | apply mct))))))); (intro _; exact rfl); (intro _; exact rfl))
            intro x2 _
            repeat (first | refine n1 ?_ | refine n2 (fun b _ => ?_) | refine n3 (fun _ _ => ?_) | refine n4 ?_ | refine n5 ?_ | refine WL_nil ?_ | refine W_seq ?_ | refine W_region ?_ | refine n7 ?_ | refine n8 ?_ | refine W_block ?_ | refine W_skip ?_ | refine W_ret ?_ | refine W_exit ?_ | refine WQ_then ?_ | refine WQ_then_ret ?_ | refine WQ_then_exit ?_ | refine WQ_block_normal ?_ | refine WQ_block_ret ?_ | refine WQ_block_exit ?_ | refine n9 ?_)
            change WL _ _ _ _ (OA.blk b2 32 (hB ys).cells :: _) _ _
            have hpl := places_fn b2 (hB ys)
            unfold befV at hpl
            change Ct Tryd.prog _ _ _ _ _ (fun x : Nat => .tuple #[.slice (some ⟨x, 0, none⟩) (befN (hA ys)) 4, aftV x (hA ys)]) _ _ at hpl
            refine WL_effs rfl rfl rfl (E_callOB (Γb := [.blk b2 32 (hB ys).cells]) rfl (by intro _ _; simp) hpl (perm1 (by repeat' (first | exact Pick.head _ _ | apply Pick.tail))) (Bor.ent (Bor.blks (bs := [(b2, 32, (hB ys).cells)])) (AllE.cons (Ent.mem (by repeat' (first | exact mcs | apply mct))) (AllE.nil _))) (fun _ => rfl)) ?_
            intro b4 _
            repeat (first | refine n1 ?_ | refine n2 (fun b _ => ?_) | refine n3 (fun _ _ => ?_) | refine n4 ?_ | refine n5 ?_ | refine WL_nil ?_ | refine W_seq ?_ | refine W_region ?_ | refine n7 ?_ | refine n8 ?_ | refine W_block ?_ | refine W_skip ?_ | refine W_ret ?_ | refine W_exit ?_ | refine WQ_then ?_ | refine WQ_then_ret ?_ | refine WQ_then_exit ?_ | refine WQ_block_normal ?_ | refine WQ_block_ret ?_ | refine WQ_block_exit ?_ | refine n9 ?_)
            have hb3 : befN (hA ys) ≤ 3 := by unfold befN; split; decide; split; decide; decide
            ((apply W_loopK (X := Nat × Value) [112] [1, 2] (fun x => x.1 ≤ befN (hA ys)) (fun x => [(112, .int .i64 (x.1 : Int))]) (fun x => [.blk b2 32 (adH (s2 ys) (hB ys) x.1).cells, .blk b1 77 [x.2, .bool (adC (s2 ys) x.1).2]]) (fun x => [By x.2 (adC (s2 ys) x.1).1]) (fun x => befN (hA ys) - x.1) ((0, x2))); (focus exact Nat.zero_le _); exact rfl; exact rfl; (intro _; exact rfl); (intro _; exact rfl); (intro _; exact rfl); (focus (repeat (first | exact FrIn.nil _ | (apply FrIn.cons; exact rfl; (first | exact rfl | (congr 1; first | omega | (dsimp only; omega)) | (simp; done)))))); (focus (repeat (first | exact SubO.nil _ | (apply SubO.cons; (focus (repeat' (first | exact Pick.head _ _ | apply Pick.tail))))))); (focus (repeat (first | exact AllE.nil _ | (apply AllE.cons; (focus (first | exact ent_nilBy | exact ent_nilSl | (apply Ent.mem; repeat' (first | exact mcs | apply mct)))))))); intro x hx)
            obtain ⟨j, o⟩ := x
            replace hx : j ≤ befN (hA ys) := hx
            dsimp only
            by_cases d1 : j < befN (hA ys)
            · have hx4 : j = 0 ∨ j = 1 ∨ j = 2 := by omega
              have lj : (adC (s2 ys) j).1.length ≤ 1000000 := Nat.le_trans (adC_len _ j) l2
              have htj := take_fn b1 o (adC (s2 ys) j) 6 (.inr rfl) lj
              have hlj := tkV_length (adC (s2 ys) j) 6
              rw [show ((6 : Nat) : Int) = 6 from rfl] at htj
              rcases hx4 with rfl | rfl | rfl
              · repeat (first | refine n1 ?_ | refine n2 (fun b _ => ?_) | refine n3 (fun _ _ => ?_) | refine n4 ?_ | refine n5 ?_ | refine WL_nil ?_ | refine W_seq ?_ | refine W_region ?_ | refine n7 ?_ | refine n8 ?_ | refine W_block ?_ | refine W_skip ?_ | refine W_ret ?_ | refine W_exit ?_ | refine WQ_then ?_ | refine WQ_then_ret ?_ | refine WQ_then_exit ?_ | refine WQ_block_normal ?_ | refine WQ_block_ret ?_ | refine WQ_block_exit ?_ | refine n9 ?_)
                refine WL_runs rfl rfl rfl (R_idxLit (i := 0) rfl rfl rfl (by intro _; exact rfl) rfl d1) ?_
                repeat (first | refine n1 ?_ | refine n2 (fun b _ => ?_) | refine n3 (fun _ _ => ?_) | refine n4 ?_ | refine n5 ?_ | refine WL_nil ?_ | refine W_seq ?_ | refine W_region ?_ | refine n7 ?_ | refine n8 ?_ | refine W_block ?_ | refine W_skip ?_ | refine W_ret ?_ | refine W_exit ?_ | refine WQ_then ?_ | refine WQ_then_ret ?_ | refine WQ_then_exit ?_ | refine WQ_block_normal ?_ | refine WQ_block_ret ?_ | refine WQ_block_exit ?_ | refine n9 ?_)
                (refine W_regionP' [4, 5] [] [0, 1, 2, 3, 4, 5] [0, 1] (by kernel_rfl) (by kernel_rfl) (by repeat (first | exact UZ.nil _ _ | (apply UZ.cons; exact rfl; (intro _; exact rfl)))) (by exact rfl) (by (repeat (first | exact SubO.nil _ | (apply SubO.cons; (focus (repeat' (first | exact Pick.head _ _ | apply Pick.tail))))))) ?_)
                repeat (first | refine p1 ?_ | refine p2 (fun b _ => ?_) | refine p3 (fun _ _ => ?_) | refine p4 ?_ | refine p5 ?_ | refine p7 (fun b => ?_) | refine PL_nil ?_)
                refine PL_effs rfl rfl rfl rfl rfl (E_callO (Γp := [.blk b1 77 [o, .bool (adC (s2 ys) 0).2]]) rfl (by intro _ _; simp) htj (perm1 (by repeat' (first | exact Pick.head _ _ | apply Pick.tail))) (AllE.cons (Ent.mem (by repeat' (first | exact mcs | apply mct))) (AllE.nil _)) (fun _ => rfl) (fun _ => rfl)) (fun _ => (by (repeat (first | exact SubO.nil _ | (apply SubO.cons; (focus (repeat' (first | exact Pick.head _ _ | apply Pick.tail)))))))) (fun y _ => ?_)
                refine PL_effs rfl rfl rfl rfl rfl (E_copyBlk (o := 10 + 6 * 0) (cs := (adH (s2 ys) (hB ys) 0).cells) (ds := (adH (s2 ys) (hB ys) (0 + 1)).cells) rfl rfl (by repeat' (first | exact Pick.head _ _ | apply Pick.tail)) (by repeat' (first | exact mcs | apply mct)) rfl rfl hlj (by decide) (Nat.le_of_ble_eq_true rfl) (adH_put _ _ 0 (by decide) hlj)) (fun _ => (by (repeat (first | exact SubO.nil _ | (apply SubO.cons; (focus (repeat' (first | exact Pick.head _ _ | apply Pick.tail)))))))) (fun _ _ => ?_)
                repeat (first | refine p1 ?_ | refine p2 (fun b _ => ?_) | refine p3 (fun _ _ => ?_) | refine p4 ?_ | refine p5 ?_ | refine p7 (fun b => ?_) | refine PL_nil ?_)
                repeat (first | refine n1 ?_ | refine n2 (fun b _ => ?_) | refine n3 (fun _ _ => ?_) | refine n4 ?_ | refine n5 ?_ | refine WL_nil ?_ | refine W_seq ?_ | refine W_region ?_ | refine n7 ?_ | refine n8 ?_ | refine W_block ?_ | refine W_skip ?_ | refine W_ret ?_ | refine W_exit ?_ | refine WQ_then ?_ | refine WQ_then_ret ?_ | refine WQ_then_exit ?_ | refine WQ_block_normal ?_ | refine WQ_block_ret ?_ | refine WQ_block_exit ?_ | refine n9 ?_)
                ((apply WQ_again ((0 + 1, y.2))); (focus exact d1); (focus (exact (show befN (hA ys) - (0 + 1) < befN (hA ys) - 0 by omega))); (focus (repeat (first | exact FrIn.nil _ | (apply FrIn.cons; exact rfl; (first | exact rfl | (congr 1; first | omega | (dsimp only; omega)) | (simp; done)))))); (focus (repeat (first | exact SubO.nil _ | (apply SubO.cons; (focus (repeat' (first | exact Pick.head _ _ | apply Pick.tail))))))); (focus (repeat (first | exact AllE.nil _ | (apply AllE.cons; (focus (first | exact ent_nilBy | exact ent_nilSl | (apply Ent.mem; repeat' (first | exact mcs | apply mct)))))))))
              · repeat (first | refine n1 ?_ | refine n2 (fun b _ => ?_) | refine n3 (fun _ _ => ?_) | refine n4 ?_ | refine n5 ?_ | refine WL_nil ?_ | refine W_seq ?_ | refine W_region ?_ | refine n7 ?_ | refine n8 ?_ | refine W_block ?_ | refine W_skip ?_ | refine W_ret ?_ | refine W_exit ?_ | refine WQ_then ?_ | refine WQ_then_ret ?_ | refine WQ_then_exit ?_ | refine WQ_block_normal ?_ | refine WQ_block_ret ?_ | refine WQ_block_exit ?_ | refine n9 ?_)
                refine WL_runs rfl rfl rfl (R_idxLit (i := 1) rfl rfl rfl (by intro _; exact rfl) rfl d1) ?_
                repeat (first | refine n1 ?_ | refine n2 (fun b _ => ?_) | refine n3 (fun _ _ => ?_) | refine n4 ?_ | refine n5 ?_ | refine WL_nil ?_ | refine W_seq ?_ | refine W_region ?_ | refine n7 ?_ | refine n8 ?_ | refine W_block ?_ | refine W_skip ?_ | refine W_ret ?_ | refine W_exit ?_ | refine WQ_then ?_ | refine WQ_then_ret ?_ | refine WQ_then_exit ?_ | refine WQ_block_normal ?_ | refine WQ_block_ret ?_ | refine WQ_block_exit ?_ | refine n9 ?_)
                (refine W_regionP' [4, 5] [] [0, 1, 2, 3, 4, 5] [0, 1] (by kernel_rfl) (by kernel_rfl) (by repeat (first | exact UZ.nil _ _ | (apply UZ.cons; exact rfl; (intro _; exact rfl)))) (by exact rfl) (by (repeat (first | exact SubO.nil _ | (apply SubO.cons; (focus (repeat' (first | exact Pick.head _ _ | apply Pick.tail))))))) ?_)
                repeat (first | refine p1 ?_ | refine p2 (fun b _ => ?_) | refine p3 (fun _ _ => ?_) | refine p4 ?_ | refine p5 ?_ | refine p7 (fun b => ?_) | refine PL_nil ?_)
                refine PL_effs rfl rfl rfl rfl rfl (E_callO (Γp := [.blk b1 77 [o, .bool (adC (s2 ys) 1).2]]) rfl (by intro _ _; simp) htj (perm1 (by repeat' (first | exact Pick.head _ _ | apply Pick.tail))) (AllE.cons (Ent.mem (by repeat' (first | exact mcs | apply mct))) (AllE.nil _)) (fun _ => rfl) (fun _ => rfl)) (fun _ => (by (repeat (first | exact SubO.nil _ | (apply SubO.cons; (focus (repeat' (first | exact Pick.head _ _ | apply Pick.tail)))))))) (fun y _ => ?_)
                refine PL_effs rfl rfl rfl rfl rfl (E_copyBlk (o := 10 + 6 * 1) (cs := (adH (s2 ys) (hB ys) 1).cells) (ds := (adH (s2 ys) (hB ys) (1 + 1)).cells) rfl rfl (by repeat' (first | exact Pick.head _ _ | apply Pick.tail)) (by repeat' (first | exact mcs | apply mct)) rfl rfl hlj (by decide) (Nat.le_of_ble_eq_true rfl) (adH_put _ _ 1 (by decide) hlj)) (fun _ => (by (repeat (first | exact SubO.nil _ | (apply SubO.cons; (focus (repeat' (first | exact Pick.head _ _ | apply Pick.tail)))))))) (fun _ _ => ?_)
                repeat (first | refine p1 ?_ | refine p2 (fun b _ => ?_) | refine p3 (fun _ _ => ?_) | refine p4 ?_ | refine p5 ?_ | refine p7 (fun b => ?_) | refine PL_nil ?_)
                repeat (first | refine n1 ?_ | refine n2 (fun b _ => ?_) | refine n3 (fun _ _ => ?_) | refine n4 ?_ | refine n5 ?_ | refine WL_nil ?_ | refine W_seq ?_ | refine W_region ?_ | refine n7 ?_ | refine n8 ?_ | refine W_block ?_ | refine W_skip ?_ | refine W_ret ?_ | refine W_exit ?_ | refine WQ_then ?_ | refine WQ_then_ret ?_ | refine WQ_then_exit ?_ | refine WQ_block_normal ?_ | refine WQ_block_ret ?_ | refine WQ_block_exit ?_ | refine n9 ?_)
                ((apply WQ_again ((1 + 1, y.2))); (focus exact d1); (focus (exact (show befN (hA ys) - (1 + 1) < befN (hA ys) - 1 by omega))); (focus (repeat (first | exact FrIn.nil _ | (apply FrIn.cons; exact rfl; (first | exact rfl | (congr 1; first | omega | (dsimp only; omega)) | (simp; done)))))); (focus (repeat (first | exact SubO.nil _ | (apply SubO.cons; (focus (repeat' (first | exact Pick.head _ _ | apply Pick.tail))))))); (focus (repeat (first | exact AllE.nil _ | (apply AllE.cons; (focus (first | exact ent_nilBy | exact ent_nilSl | (apply Ent.mem; repeat' (first | exact mcs | apply mct)))))))))
              · repeat (first | refine n1 ?_ | refine n2 (fun b _ => ?_) | refine n3 (fun _ _ => ?_) | refine n4 ?_ | refine n5 ?_ | refine WL_nil ?_ | refine W_seq ?_ | refine W_region ?_ | refine n7 ?_ | refine n8 ?_ | refine W_block ?_ | refine W_skip ?_ | refine W_ret ?_ | refine W_exit ?_ | refine WQ_then ?_ | refine WQ_then_ret ?_ | refine WQ_then_exit ?_ | refine WQ_block_normal ?_ | refine WQ_block_ret ?_ | refine WQ_block_exit ?_ | refine n9 ?_)
                refine WL_runs rfl rfl rfl (R_idxLit (i := 2) rfl rfl rfl (by intro _; exact rfl) rfl d1) ?_
                repeat (first | refine n1 ?_ | refine n2 (fun b _ => ?_) | refine n3 (fun _ _ => ?_) | refine n4 ?_ | refine n5 ?_ | refine WL_nil ?_ | refine W_seq ?_ | refine W_region ?_ | refine n7 ?_ | refine n8 ?_ | refine W_block ?_ | refine W_skip ?_ | refine W_ret ?_ | refine W_exit ?_ | refine WQ_then ?_ | refine WQ_then_ret ?_ | refine WQ_then_exit ?_ | refine WQ_block_normal ?_ | refine WQ_block_ret ?_ | refine WQ_block_exit ?_ | refine n9 ?_)
                (refine W_regionP' [4, 5] [] [0, 1, 2, 3, 4, 5] [0, 1] (by kernel_rfl) (by kernel_rfl) (by repeat (first | exact UZ.nil _ _ | (apply UZ.cons; exact rfl; (intro _; exact rfl)))) (by exact rfl) (by (repeat (first | exact SubO.nil _ | (apply SubO.cons; (focus (repeat' (first | exact Pick.head _ _ | apply Pick.tail))))))) ?_)
                repeat (first | refine p1 ?_ | refine p2 (fun b _ => ?_) | refine p3 (fun _ _ => ?_) | refine p4 ?_ | refine p5 ?_ | refine p7 (fun b => ?_) | refine PL_nil ?_)
                refine PL_effs rfl rfl rfl rfl rfl (E_callO (Γp := [.blk b1 77 [o, .bool (adC (s2 ys) 2).2]]) rfl (by intro _ _; simp) htj (perm1 (by repeat' (first | exact Pick.head _ _ | apply Pick.tail))) (AllE.cons (Ent.mem (by repeat' (first | exact mcs | apply mct))) (AllE.nil _)) (fun _ => rfl) (fun _ => rfl)) (fun _ => (by (repeat (first | exact SubO.nil _ | (apply SubO.cons; (focus (repeat' (first | exact Pick.head _ _ | apply Pick.tail)))))))) (fun y _ => ?_)
                refine PL_effs rfl rfl rfl rfl rfl (E_copyBlk (o := 10 + 6 * 2) (cs := (adH (s2 ys) (hB ys) 2).cells) (ds := (adH (s2 ys) (hB ys) (2 + 1)).cells) rfl rfl (by repeat' (first | exact Pick.head _ _ | apply Pick.tail)) (by repeat' (first | exact mcs | apply mct)) rfl rfl hlj (by decide) (Nat.le_of_ble_eq_true rfl) (adH_put _ _ 2 (by decide) hlj)) (fun _ => (by (repeat (first | exact SubO.nil _ | (apply SubO.cons; (focus (repeat' (first | exact Pick.head _ _ | apply Pick.tail)))))))) (fun _ _ => ?_)
                repeat (first | refine p1 ?_ | refine p2 (fun b _ => ?_) | refine p3 (fun _ _ => ?_) | refine p4 ?_ | refine p5 ?_ | refine p7 (fun b => ?_) | refine PL_nil ?_)
                repeat (first | refine n1 ?_ | refine n2 (fun b _ => ?_) | refine n3 (fun _ _ => ?_) | refine n4 ?_ | refine n5 ?_ | refine WL_nil ?_ | refine W_seq ?_ | refine W_region ?_ | refine n7 ?_ | refine n8 ?_ | refine W_block ?_ | refine W_skip ?_ | refine W_ret ?_ | refine W_exit ?_ | refine WQ_then ?_ | refine WQ_then_ret ?_ | refine WQ_then_exit ?_ | refine WQ_block_normal ?_ | refine WQ_block_ret ?_ | refine WQ_block_exit ?_ | refine n9 ?_)
                ((apply WQ_again ((2 + 1, y.2))); (focus exact d1); (focus (exact (show befN (hA ys) - (2 + 1) < befN (hA ys) - 2 by omega))); (focus (repeat (first | exact FrIn.nil _ | (apply FrIn.cons; exact rfl; (first | exact rfl | (congr 1; first | omega | (dsimp only; omega)) | (simp; done)))))); (focus (repeat (first | exact SubO.nil _ | (apply SubO.cons; (focus (repeat' (first | exact Pick.head _ _ | apply Pick.tail))))))); (focus (repeat (first | exact AllE.nil _ | (apply AllE.cons; (focus (first | exact ent_nilBy | exact ent_nilSl | (apply Ent.mem; repeat' (first | exact mcs | apply mct)))))))))
            · obtain rfl : j = befN (hA ys) := by omega
              change W _ _ _ (OA.blk b2 32 (hC ys).cells :: OA.blk b1 77 [o, .bool (s3 ys).2] :: _) (By o (s3 ys).1 :: _) _
              have l3 : (s3 ys).1.length ≤ 1000000 := Nat.le_trans (adC_len _ _) l2
              repeat ((fail_if_success apply W_isIf); (first | refine n1 ?_ | refine n2 (fun b _ => ?_) | refine n3 (fun _ _ => ?_) | refine n4 ?_ | refine n5 ?_ | refine WL_nil ?_ | refine W_seq ?_ | refine W_region ?_ | refine n7 ?_ | refine n8 ?_ | refine W_block ?_ | refine W_skip ?_ | refine W_ret ?_ | refine W_exit ?_ | refine WQ_then ?_ | refine WQ_then_ret ?_ | refine WQ_then_exit ?_ | refine WQ_block_normal ?_ | refine WQ_block_ret ?_ | refine WQ_block_exit ?_ | refine n9 ?_))
              clear hpl ht2 hk
              ((apply W_cutK (X := Value) [] [0, 1] (fun _ => True) (fun _ => []) (fun o => [.blk b2 32 (hD ys).cells, .blk b1 77 [o, .bool (s4 ys).2]]) (fun o => [By o (s4 ys).1])); exact rfl; exact rfl; (intro _; exact rfl); (intro _; exact rfl); (intro _; exact rfl))
              · have ht4 := two_fn b1 o (s3 ys) l3
                have e4 : s4 ys = stS (prtB (hA ys).kind) (s3 ys) := rfl
                have e5 : hD ys = stH (prtB (hA ys).kind) (s3 ys) (hC ys) := rfl
                rw [e4, e5]
                generalize prtB (hA ys).kind = p
                cases p with
                | false =>
                  repeat (first | refine n1 ?_ | refine n2 (fun b _ => ?_) | refine n3 (fun _ _ => ?_) | refine n4 ?_ | refine n5 ?_ | refine WL_nil ?_ | refine W_seq ?_ | refine W_region ?_ | refine n7 ?_ | refine n8 ?_ | refine W_block ?_ | refine W_skip ?_ | refine W_ret ?_ | refine W_exit ?_ | refine WQ_then ?_ | refine WQ_then_ret ?_ | refine WQ_then_exit ?_ | refine WQ_block_normal ?_ | refine WQ_block_ret ?_ | refine WQ_block_exit ?_ | refine n9 ?_)
                  ((apply WQ_meet (o)); (focus (first | trivial | omega | assumption | exact ⟨by omega, by omega⟩ | (simp; done))); (focus (repeat (first | exact FrIn.nil _ | (apply FrIn.cons; exact rfl; (first | exact rfl | (congr 1; first | omega | (dsimp only; omega)) | (simp; done)))))); (focus (repeat (first | exact SubO.nil _ | (apply SubO.cons; (focus (repeat' (first | exact Pick.head _ _ | apply Pick.tail))))))); (focus (repeat (first | exact AllE.nil _ | (apply AllE.cons; (focus (first | exact ent_nilBy | exact ent_nilSl | (apply Ent.mem; repeat' (first | exact mcs | apply mct)))))))))
                | true =>
                  repeat (first | refine n1 ?_ | refine n2 (fun b _ => ?_) | refine n3 (fun _ _ => ?_) | refine n4 ?_ | refine n5 ?_ | refine WL_nil ?_ | refine W_seq ?_ | refine W_region ?_ | refine n7 ?_ | refine n8 ?_ | refine W_block ?_ | refine W_skip ?_ | refine W_ret ?_ | refine W_exit ?_ | refine WQ_then ?_ | refine WQ_then_ret ?_ | refine WQ_then_exit ?_ | refine WQ_block_normal ?_ | refine WQ_block_ret ?_ | refine WQ_block_exit ?_ | refine n9 ?_)
                  (apply WL_effs; exact rfl; exact rfl; exact rfl; apply E_callO; exact rfl; (intro _ _; simp); exact ht4; (first | (apply perm1; (focus (repeat' (first | exact Pick.head _ _ | apply Pick.tail)))) | (apply perm2; (focus (repeat' (first | exact Pick.head _ _ | apply Pick.tail))); (focus (repeat' (first | exact Pick.head _ _ | apply Pick.tail)))) | (apply perm3; (focus (repeat' (first | exact Pick.head _ _ | apply Pick.tail))); (focus (repeat' (first | exact Pick.head _ _ | apply Pick.tail))); (focus (repeat' (first | exact Pick.head _ _ | apply Pick.tail))))); (repeat (first | exact AllE.nil _ | (apply AllE.cons; (focus (first | exact ent_nilBy | exact ent_nilSl | (apply Ent.mem; repeat' (first | exact mcs | apply mct))))))); (intro _; exact rfl); (intro _; exact rfl))
                  intro y _
                  repeat (first | refine n1 ?_ | refine n2 (fun b _ => ?_) | refine n3 (fun _ _ => ?_) | refine n4 ?_ | refine n5 ?_ | refine WL_nil ?_ | refine W_seq ?_ | refine W_region ?_ | refine n7 ?_ | refine n8 ?_ | refine W_block ?_ | refine W_skip ?_ | refine W_ret ?_ | refine W_exit ?_ | refine WQ_then ?_ | refine WQ_then_ret ?_ | refine WQ_then_exit ?_ | refine WQ_block_normal ?_ | refine WQ_block_ret ?_ | refine WQ_block_exit ?_ | refine n9 ?_)
                  refine WL_runs rfl rfl rfl (R_and rfl rfl (i64_15N _)) ?_
                  repeat (first | refine n1 ?_ | refine n2 (fun b _ => ?_) | refine n3 (fun _ _ => ?_) | refine n4 ?_ | refine n5 ?_ | refine WL_nil ?_ | refine W_seq ?_ | refine W_region ?_ | refine n7 ?_ | refine n8 ?_ | refine W_block ?_ | refine W_skip ?_ | refine W_ret ?_ | refine W_exit ?_ | refine WQ_then ?_ | refine WQ_then_ret ?_ | refine WQ_then_exit ?_ | refine WQ_block_normal ?_ | refine WQ_block_ret ?_ | refine WQ_block_exit ?_ | refine n9 ?_)
                  refine WL_runs rfl rfl rfl (R_shr rfl rfl (by decide) (i64_shrN _ 4 (by decide))) ?_
                  repeat (first | refine n1 ?_ | refine n2 (fun b _ => ?_) | refine n3 (fun _ _ => ?_) | refine n4 ?_ | refine n5 ?_ | refine WL_nil ?_ | refine W_seq ?_ | refine W_region ?_ | refine n7 ?_ | refine n8 ?_ | refine W_block ?_ | refine W_skip ?_ | refine W_ret ?_ | refine W_exit ?_ | refine WQ_then ?_ | refine WQ_then_ret ?_ | refine WQ_then_exit ?_ | refine WQ_block_normal ?_ | refine WQ_block_ret ?_ | refine WQ_block_exit ?_ | refine n9 ?_)
                  ((apply WQ_meet (y)); (focus (first | trivial | omega | assumption | exact ⟨by omega, by omega⟩ | (simp; done))); (focus (repeat (first | exact FrIn.nil _ | (apply FrIn.cons; exact rfl; (first | exact rfl | (congr 1; first | omega | (dsimp only; omega)) | (simp; done)))))); (focus (repeat (first | exact SubO.nil _ | (apply SubO.cons; (focus (repeat' (first | exact Pick.head _ _ | apply Pick.tail))))))); (focus (repeat (first | exact AllE.nil _ | (apply AllE.cons; (focus (first | exact ent_nilBy | exact ent_nilSl | (apply Ent.mem; repeat' (first | exact mcs | apply mct)))))))))
              · intro o4 _
                have l4 : (s4 ys).1.length ≤ 1000000 := by
                  show (stS (prtB (hA ys).kind) (s3 ys)).1.length ≤ 1000000
                  cases prtB (hA ys).kind
                  · exact l3
                  · exact Nat.le_trans (tkC_len _ 2) l3
                obtain ⟨A, ac, hlv⟩ : ∃ A c, aftV b4 (hA ys) = .slice A (bN (fourB (hA ys)) 1) c := by
                  unfold aftV
                  cases fourB (hA ys)
                  · exact ⟨none, 0, rfl⟩
                  · exact ⟨_, 1, rfl⟩
                repeat ((fail_if_success apply W_isSB 2); (first | refine n1 ?_ | refine n2 (fun b _ => ?_) | refine n3 (fun _ _ => ?_) | refine n4 ?_ | refine n5 ?_ | refine WL_nil ?_ | refine W_seq ?_ | refine W_region ?_ | refine n7 ?_ | refine n8 ?_ | refine W_block ?_ | refine W_skip ?_ | refine W_ret ?_ | refine W_exit ?_ | refine WQ_then ?_ | refine WQ_then_ret ?_ | refine WQ_then_exit ?_ | refine WQ_block_normal ?_ | refine WQ_block_ret ?_ | refine WQ_block_exit ?_ | refine n9 ?_))
                refine WL_runs rfl rfl rfl (R_lenNil (A := A) (n := bN (fourB (hA ys)) 1) (c := ac) (congrArg some hlv) rfl) ?_
                repeat ((fail_if_success apply W_isSB 2); (first | refine n1 ?_ | refine n2 (fun b _ => ?_) | refine n3 (fun _ _ => ?_) | refine n4 ?_ | refine n5 ?_ | refine WL_nil ?_ | refine W_seq ?_ | refine W_region ?_ | refine n7 ?_ | refine n8 ?_ | refine W_block ?_ | refine W_skip ?_ | refine W_ret ?_ | refine W_exit ?_ | refine WQ_then ?_ | refine WQ_then_ret ?_ | refine WQ_then_exit ?_ | refine WQ_block_normal ?_ | refine WQ_block_ret ?_ | refine WQ_block_exit ?_ | refine n9 ?_))
                ((apply W_cutKT (X := Value) [135] [0, 1] (fun _ => True) (fun _ => []) (fun o => [.blk b2 32 (hE ys).cells, .blk b1 77 [o, .bool (s5 ys).2]]) (fun o => [By o (s5 ys).1])); exact rfl; exact rfl; (intro _; exact rfl); (intro _; exact rfl); (intro _; exact rfl))
                · have e4 : s5 ys = ftS (fourB (hA ys)) (s4 ys) := rfl
                  have e5 : hE ys = ftH (fourB (hA ys)) (s4 ys) (hD ys) := rfl
                  rw [e4, e5]
                  cases hf : fourB (hA ys) with
                  | false =>
                    have e1 : aftV b4 (hA ys) = .slice none 0 0 := by unfold aftV; rw [hf]; rfl
                    rw [e1]
                    repeat (first | refine n1 ?_ | refine n2 (fun b _ => ?_) | refine n3 (fun _ _ => ?_) | refine n4 ?_ | refine n5 ?_ | refine WL_nil ?_ | refine W_seq ?_ | refine W_region ?_ | refine n7 ?_ | refine n8 ?_ | refine W_block ?_ | refine W_skip ?_ | refine W_ret ?_ | refine W_exit ?_ | refine WQ_then ?_ | refine WQ_then_ret ?_ | refine WQ_then_exit ?_ | refine WQ_block_normal ?_ | refine WQ_block_ret ?_ | refine WQ_block_exit ?_ | refine n9 ?_)
                    ((apply W_loopK (X := Nat) [135] [] (fun x => x = 0) (fun x => [(135, .int .i64 (x : Int))]) (fun _ => []) (fun _ => []) (fun x => 0 - x) (0)); (focus exact rfl); exact rfl; exact rfl; (intro _; exact rfl); (intro _; exact rfl); (intro _; exact rfl); (focus (repeat (first | exact FrIn.nil _ | (apply FrIn.cons; exact rfl; (first | exact rfl | (congr 1; first | omega | (dsimp only; omega)) | (simp; done)))))); (focus (repeat (first | exact SubO.nil _ | (apply SubO.cons; (focus (repeat' (first | exact Pick.head _ _ | apply Pick.tail))))))); (focus (repeat (first | exact AllE.nil _ | (apply AllE.cons; (focus (first | exact ent_nilBy | exact ent_nilSl | (apply Ent.mem; repeat' (first | exact mcs | apply mct)))))))); intro x hx)
                    subst hx
                    repeat (first | refine n1 ?_ | refine n2 (fun b _ => ?_) | refine n3 (fun _ _ => ?_) | refine n4 ?_ | refine n5 ?_ | refine WL_nil ?_ | refine W_seq ?_ | refine W_region ?_ | refine n7 ?_ | refine n8 ?_ | refine W_block ?_ | refine W_skip ?_ | refine W_ret ?_ | refine W_exit ?_ | refine WQ_then ?_ | refine WQ_then_ret ?_ | refine WQ_then_exit ?_ | refine WQ_block_normal ?_ | refine WQ_block_ret ?_ | refine WQ_block_exit ?_ | refine n9 ?_)
                    ((apply WQ_meet (o4)); (focus (first | trivial | omega | assumption | exact ⟨by omega, by omega⟩ | (simp; done))); (focus (repeat (first | exact FrIn.nil _ | (apply FrIn.cons; exact rfl; (first | exact rfl | (congr 1; first | omega | (dsimp only; omega)) | (simp; done)))))); (focus (repeat (first | exact SubO.nil _ | (apply SubO.cons; (focus (repeat' (first | exact Pick.head _ _ | apply Pick.tail))))))); (focus (repeat (first | exact AllE.nil _ | (apply AllE.cons; (focus (first | exact ent_nilBy | exact ent_nilSl | (apply Ent.mem; repeat' (first | exact mcs | apply mct)))))))))
                  | true =>
                    have e1 : aftV b4 (hA ys) = .slice (some ⟨b4, 3, none⟩) 1 1 := by unfold aftV; rw [hf]; rfl
                    rw [e1]
                    repeat (first | refine n1 ?_ | refine n2 (fun b _ => ?_) | refine n3 (fun _ _ => ?_) | refine n4 ?_ | refine n5 ?_ | refine WL_nil ?_ | refine W_seq ?_ | refine W_region ?_ | refine n7 ?_ | refine n8 ?_ | refine W_block ?_ | refine W_skip ?_ | refine W_ret ?_ | refine W_exit ?_ | refine WQ_then ?_ | refine WQ_then_ret ?_ | refine WQ_then_exit ?_ | refine WQ_block_normal ?_ | refine WQ_block_ret ?_ | refine WQ_block_exit ?_ | refine n9 ?_)
                    ((apply W_loopK (X := Nat × Value) [135] [0, 1] (fun x => x.1 ≤ 1) (fun x => [(135, .int .i64 (x.1 : Int))]) (fun x => [.blk b2 32 (ftH (Nat.beq x.1 1) (s4 ys) (hD ys)).cells, .blk b1 77 [x.2, .bool (ftS (Nat.beq x.1 1) (s4 ys)).2]]) (fun x => [By x.2 (ftS (Nat.beq x.1 1) (s4 ys)).1]) (fun x => 1 - x.1) ((0, o4))); (focus exact Nat.zero_le _); exact rfl; exact rfl; (intro _; exact rfl); (intro _; exact rfl); (intro _; exact rfl); (focus (repeat (first | exact FrIn.nil _ | (apply FrIn.cons; exact rfl; (first | exact rfl | (congr 1; first | omega | (dsimp only; omega)) | (simp; done)))))); (focus (repeat (first | exact SubO.nil _ | (apply SubO.cons; (focus (repeat' (first | exact Pick.head _ _ | apply Pick.tail))))))); (focus (repeat (first | exact AllE.nil _ | (apply AllE.cons; (focus (first | exact ent_nilBy | exact ent_nilSl | (apply Ent.mem; repeat' (first | exact mcs | apply mct)))))))); intro x hx)
                    obtain ⟨j, o⟩ := x
                    replace hx : j ≤ 1 := hx
                    dsimp only
                    have hj : j = 0 ∨ j = 1 := by omega
                    rcases hj with rfl | rfl
                    · have htj := take_fn b1 o (s4 ys) 6 (.inr rfl) l4
                      have hlj := tkV_length (s4 ys) 6
                      rw [show ((6 : Nat) : Int) = 6 from rfl] at htj
                      change W _ _ _ (OA.blk b2 32 (hD ys).cells :: OA.blk b1 77 [o, .bool (s4 ys).2] :: _) (By o (s4 ys).1 :: _) _
                      repeat (first | refine n1 ?_ | refine n2 (fun b _ => ?_) | refine n3 (fun _ _ => ?_) | refine n4 ?_ | refine n5 ?_ | refine WL_nil ?_ | refine W_seq ?_ | refine W_region ?_ | refine n7 ?_ | refine n8 ?_ | refine W_block ?_ | refine W_skip ?_ | refine W_ret ?_ | refine W_exit ?_ | refine WQ_then ?_ | refine WQ_then_ret ?_ | refine WQ_then_exit ?_ | refine WQ_block_normal ?_ | refine WQ_block_ret ?_ | refine WQ_block_exit ?_ | refine n9 ?_)
                      refine WL_runs rfl rfl rfl (R_idxLit (i := 0) rfl rfl rfl (by intro _; exact rfl) rfl (by decide)) ?_
                      repeat (first | refine n1 ?_ | refine n2 (fun b _ => ?_) | refine n3 (fun _ _ => ?_) | refine n4 ?_ | refine n5 ?_ | refine WL_nil ?_ | refine W_seq ?_ | refine W_region ?_ | refine n7 ?_ | refine n8 ?_ | refine W_block ?_ | refine W_skip ?_ | refine W_ret ?_ | refine W_exit ?_ | refine WQ_then ?_ | refine WQ_then_ret ?_ | refine WQ_then_exit ?_ | refine WQ_block_normal ?_ | refine WQ_block_ret ?_ | refine WQ_block_exit ?_ | refine n9 ?_)
                      (refine W_regionP' [4, 5] [] [0, 1, 2, 3, 4, 5] [0, 1] (by kernel_rfl) (by kernel_rfl) (by repeat (first | exact UZ.nil _ _ | (apply UZ.cons; exact rfl; (intro _; exact rfl)))) (by exact rfl) (by (repeat (first | exact SubO.nil _ | (apply SubO.cons; (focus (repeat' (first | exact Pick.head _ _ | apply Pick.tail))))))) ?_)
                      repeat (first | refine p1 ?_ | refine p2 (fun b _ => ?_) | refine p3 (fun _ _ => ?_) | refine p4 ?_ | refine p5 ?_ | refine p7 (fun b => ?_) | refine PL_nil ?_)
                      refine PL_effs rfl rfl rfl rfl rfl (E_callO (Γp := [.blk b1 77 [o, .bool (s4 ys).2]]) rfl (by intro _ _; simp) htj (perm1 (by repeat' (first | exact Pick.head _ _ | apply Pick.tail))) (AllE.cons (Ent.mem (by repeat' (first | exact mcs | apply mct))) (AllE.nil _)) (fun _ => rfl) (fun _ => rfl)) (fun _ => (by (repeat (first | exact SubO.nil _ | (apply SubO.cons; (focus (repeat' (first | exact Pick.head _ _ | apply Pick.tail)))))))) (fun y _ => ?_)
                      refine PL_effs rfl rfl rfl rfl rfl (E_copyBlk (o := 28) (cs := (hD ys).cells) (ds := (setA (hD ys) 3 (a6v (tkV (s4 ys) 6))).cells) rfl rfl (by repeat' (first | exact Pick.head _ _ | apply Pick.tail)) (by repeat' (first | exact mcs | apply mct)) rfl rfl hlj (by decide) (Nat.le_of_ble_eq_true rfl) (put3 _ _ hlj)) (fun _ => (by (repeat (first | exact SubO.nil _ | (apply SubO.cons; (focus (repeat' (first | exact Pick.head _ _ | apply Pick.tail)))))))) (fun _ _ => ?_)
                      repeat (first | refine p1 ?_ | refine p2 (fun b _ => ?_) | refine p3 (fun _ _ => ?_) | refine p4 ?_ | refine p5 ?_ | refine p7 (fun b => ?_) | refine PL_nil ?_)
                      repeat (first | refine n1 ?_ | refine n2 (fun b _ => ?_) | refine n3 (fun _ _ => ?_) | refine n4 ?_ | refine n5 ?_ | refine WL_nil ?_ | refine W_seq ?_ | refine W_region ?_ | refine n7 ?_ | refine n8 ?_ | refine W_block ?_ | refine W_skip ?_ | refine W_ret ?_ | refine W_exit ?_ | refine WQ_then ?_ | refine WQ_then_ret ?_ | refine WQ_then_exit ?_ | refine WQ_block_normal ?_ | refine WQ_block_ret ?_ | refine WQ_block_exit ?_ | refine n9 ?_)
                      ((apply WQ_again ((0 + 1, y.2))); (focus (exact (show 0 + 1 ≤ 1 by decide))); (focus (exact (show 1 - (0 + 1) < 1 - 0 by decide))); (focus (repeat (first | exact FrIn.nil _ | (apply FrIn.cons; exact rfl; (first | exact rfl | (congr 1; first | omega | (dsimp only; omega)) | (simp; done)))))); (focus (repeat (first | exact SubO.nil _ | (apply SubO.cons; (focus (repeat' (first | exact Pick.head _ _ | apply Pick.tail))))))); (focus (repeat (first | exact AllE.nil _ | (apply AllE.cons; (focus (first | exact ent_nilBy | exact ent_nilSl | (apply Ent.mem; repeat' (first | exact mcs | apply mct)))))))))
                    · repeat (first | refine n1 ?_ | refine n2 (fun b _ => ?_) | refine n3 (fun _ _ => ?_) | refine n4 ?_ | refine n5 ?_ | refine WL_nil ?_ | refine W_seq ?_ | refine W_region ?_ | refine n7 ?_ | refine n8 ?_ | refine W_block ?_ | refine W_skip ?_ | refine W_ret ?_ | refine W_exit ?_ | refine WQ_then ?_ | refine WQ_then_ret ?_ | refine WQ_then_exit ?_ | refine WQ_block_normal ?_ | refine WQ_block_ret ?_ | refine WQ_block_exit ?_ | refine n9 ?_)
                      ((apply WQ_meet (o)); (focus (first | trivial | omega | assumption | exact ⟨by omega, by omega⟩ | (simp; done))); (focus (repeat (first | exact FrIn.nil _ | (apply FrIn.cons; exact rfl; (first | exact rfl | (congr 1; first | omega | (dsimp only; omega)) | (simp; done)))))); (focus (repeat (first | exact SubO.nil _ | (apply SubO.cons; (focus (repeat' (first | exact Pick.head _ _ | apply Pick.tail))))))); (focus (repeat (first | exact AllE.nil _ | (apply AllE.cons; (focus (first | exact ent_nilBy | exact ent_nilSl | (apply Ent.mem; repeat' (first | exact mcs | apply mct)))))))))
                · intro o5 _
                  have l5 : (s5 ys).1.length ≤ 1000000 := by
                    show (ftS (fourB (hA ys)) (s4 ys)).1.length ≤ 1000000
                    cases fourB (hA ys)
                    · exact l4
                    · exact Nat.le_trans (tkC_len _ 6) l4
                  repeat ((fail_if_success apply W_isIf); (first | refine n1 ?_ | refine n2 (fun b _ => ?_) | refine n3 (fun _ _ => ?_) | refine n4 ?_ | refine n5 ?_ | refine WL_nil ?_ | refine W_seq ?_ | refine W_region ?_ | refine n7 ?_ | refine n8 ?_ | refine W_block ?_ | refine W_skip ?_ | refine W_ret ?_ | refine W_exit ?_ | refine WQ_then ?_ | refine WQ_then_ret ?_ | refine WQ_then_exit ?_ | refine WQ_block_normal ?_ | refine WQ_block_ret ?_ | refine WQ_block_exit ?_ | refine n9 ?_))
                  ((apply W_cutK (X := Value) [18] [0, 1] (fun _ => True) (fun _ => [(18, .bool (oddB ys))]) (fun o => [.blk b2 32 (hF ys).cells, .blk b1 77 [o, .bool (s6 ys).2]]) (fun o => [By o (s6 ys).1])); exact rfl; exact rfl; (intro _; exact rfl); (intro _; exact rfl); (intro _; exact rfl))
                  · have ht6 := two_fn b1 o5 (s5 ys) l5
                    have e4 : s6 ys = stS (trB ys) (s5 ys) := rfl
                    have e5 : hF ys = qtH (trB ys) (s5 ys) (hE ys) := rfl
                    have e6 : oddB ys = oddP (trB ys) (s5 ys) := rfl
                    rw [e4, e5, e6]
                    generalize trB ys = p
                    cases p with
                    | false =>
                      repeat (first | refine n1 ?_ | refine n2 (fun b _ => ?_) | refine n3 (fun _ _ => ?_) | refine n4 ?_ | refine n5 ?_ | refine WL_nil ?_ | refine W_seq ?_ | refine W_region ?_ | refine n7 ?_ | refine n8 ?_ | refine W_block ?_ | refine W_skip ?_ | refine W_ret ?_ | refine W_exit ?_ | refine WQ_then ?_ | refine WQ_then_ret ?_ | refine WQ_then_exit ?_ | refine WQ_block_normal ?_ | refine WQ_block_ret ?_ | refine WQ_block_exit ?_ | refine n9 ?_)
                      ((apply WQ_meet (o5)); (focus (first | trivial | omega | assumption | exact ⟨by omega, by omega⟩ | (simp; done))); (focus (repeat (first | exact FrIn.nil _ | (apply FrIn.cons; exact rfl; (first | exact rfl | (congr 1; first | omega | (dsimp only; omega)) | (simp; done)))))); (focus (repeat (first | exact SubO.nil _ | (apply SubO.cons; (focus (repeat' (first | exact Pick.head _ _ | apply Pick.tail))))))); (focus (repeat (first | exact AllE.nil _ | (apply AllE.cons; (focus (first | exact ent_nilBy | exact ent_nilSl | (apply Ent.mem; repeat' (first | exact mcs | apply mct)))))))))
                    | true =>
                      have hq := c2N_lt (tkV (s5 ys) 2)
                      unfold qtH oddP
                      rw [cond_true, cond_true]
                      generalize c2N (tkV (s5 ys) 2) = q at *
                      have w7 := i64_andP q 7 (by omega) (by decide)
                      have w4 := i64_andP q 4 (by omega) (by decide)
                      have w3 := i64_andP q 3 (by omega) (by decide)
                      cases hq3 : flq q 3 with
                      | true =>
                        have ho : oddV q = true := by unfold oddV; rw [hq3]; rfl
                        rw [ho]
                        repeat (first | refine n1 ?_ | refine n2 (fun b _ => ?_) | refine n3 (fun _ _ => ?_) | refine n4 ?_ | refine n5 ?_ | refine WL_nil ?_ | refine W_seq ?_ | refine W_region ?_ | refine n7 ?_ | refine n8 ?_ | refine W_block ?_ | refine W_skip ?_ | refine W_ret ?_ | refine W_exit ?_ | refine WQ_then ?_ | refine WQ_then_ret ?_ | refine WQ_then_exit ?_ | refine WQ_block_normal ?_ | refine WQ_block_ret ?_ | refine WQ_block_exit ?_ | refine n9 ?_)
                        (apply WL_effs; exact rfl; exact rfl; exact rfl; apply E_callO; exact rfl; (intro _ _; simp); exact ht6; (first | (apply perm1; (focus (repeat' (first | exact Pick.head _ _ | apply Pick.tail)))) | (apply perm2; (focus (repeat' (first | exact Pick.head _ _ | apply Pick.tail))); (focus (repeat' (first | exact Pick.head _ _ | apply Pick.tail)))) | (apply perm3; (focus (repeat' (first | exact Pick.head _ _ | apply Pick.tail))); (focus (repeat' (first | exact Pick.head _ _ | apply Pick.tail))); (focus (repeat' (first | exact Pick.head _ _ | apply Pick.tail))))); (repeat (first | exact AllE.nil _ | (apply AllE.cons; (focus (first | exact ent_nilBy | exact ent_nilSl | (apply Ent.mem; repeat' (first | exact mcs | apply mct))))))); (intro _; exact rfl); (intro _; exact rfl))
                        intro y _
                        repeat (first | refine n1 ?_ | refine n2 (fun b _ => ?_) | refine n3 (fun _ _ => ?_) | refine n4 ?_ | refine n5 ?_ | refine WL_nil ?_ | refine W_seq ?_ | refine W_region ?_ | refine n7 ?_ | refine n8 ?_ | refine W_block ?_ | refine W_skip ?_ | refine W_ret ?_ | refine W_exit ?_ | refine WQ_then ?_ | refine WQ_then_ret ?_ | refine WQ_then_exit ?_ | refine WQ_block_normal ?_ | refine WQ_block_ret ?_ | refine WQ_block_exit ?_ | refine n9 ?_)
                        refine WL_runs rfl rfl rfl (R_and rfl rfl (i64_7N _)) ?_
                        repeat (first | refine n1 ?_ | refine n2 (fun b _ => ?_) | refine n3 (fun _ _ => ?_) | refine n4 ?_ | refine n5 ?_ | refine WL_nil ?_ | refine W_seq ?_ | refine W_region ?_ | refine n7 ?_ | refine n8 ?_ | refine W_block ?_ | refine W_skip ?_ | refine W_ret ?_ | refine W_exit ?_ | refine WQ_then ?_ | refine WQ_then_ret ?_ | refine WQ_then_exit ?_ | refine WQ_block_normal ?_ | refine WQ_block_ret ?_ | refine WQ_block_exit ?_ | refine n9 ?_)
                        refine WL_runs rfl rfl rfl (R_and rfl rfl w4) ?_
                        refine WL_runs rfl rfl rfl (R_cmp rfl rfl rfl (flq_ne _ 4)) ?_
                        repeat (first | refine n1 ?_ | refine n2 (fun b _ => ?_) | refine n3 (fun _ _ => ?_) | refine n4 ?_ | refine n5 ?_ | refine WL_nil ?_ | refine W_seq ?_ | refine W_region ?_ | refine n7 ?_ | refine n8 ?_ | refine W_block ?_ | refine W_skip ?_ | refine W_ret ?_ | refine W_exit ?_ | refine WQ_then ?_ | refine WQ_then_ret ?_ | refine WQ_then_exit ?_ | refine WQ_block_normal ?_ | refine WQ_block_ret ?_ | refine WQ_block_exit ?_ | refine n9 ?_)
                        refine WL_runs rfl rfl rfl (R_quo rfl rfl (by decide) (quoN q hq)) ?_
                        refine WL_runs rfl rfl rfl (R_and rfl rfl (i64_3N _)) ?_
                        refine WL_runs rfl rfl rfl (R_convi rfl rfl rfl (wx_b8 _)) ?_
                        repeat (first | refine n1 ?_ | refine n2 (fun b _ => ?_) | refine n3 (fun _ _ => ?_) | refine n4 ?_ | refine n5 ?_ | refine WL_nil ?_ | refine W_seq ?_ | refine W_region ?_ | refine n7 ?_ | refine n8 ?_ | refine W_block ?_ | refine W_skip ?_ | refine W_ret ?_ | refine W_exit ?_ | refine WQ_then ?_ | refine WQ_then_ret ?_ | refine WQ_then_exit ?_ | refine WQ_block_normal ?_ | refine WQ_block_ret ?_ | refine WQ_block_exit ?_ | refine n9 ?_)
                        refine WL_runs rfl rfl rfl (R_and rfl rfl w7) ?_
                        refine WL_runs rfl rfl rfl (R_cmp rfl rfl rfl (flq_ne _ 7)) ?_
                        repeat (first | refine n1 ?_ | refine n2 (fun b _ => ?_) | refine n3 (fun _ _ => ?_) | refine n4 ?_ | refine n5 ?_ | refine WL_nil ?_ | refine W_seq ?_ | refine W_region ?_ | refine n7 ?_ | refine n8 ?_ | refine W_block ?_ | refine W_skip ?_ | refine W_ret ?_ | refine W_exit ?_ | refine WQ_then ?_ | refine WQ_then_ret ?_ | refine WQ_then_exit ?_ | refine WQ_block_normal ?_ | refine WQ_block_ret ?_ | refine WQ_block_exit ?_ | refine n9 ?_)
                        refine WL_runs rfl rfl rfl (R_and rfl rfl w3) ?_
                        refine WL_runs rfl rfl rfl (R_cmp rfl rfl rfl ((flq_ne _ 3).trans hq3)) ?_
                        repeat (first | refine n1 ?_ | refine n2 (fun b _ => ?_) | refine n3 (fun _ _ => ?_) | refine n4 ?_ | refine n5 ?_ | refine WL_nil ?_ | refine W_seq ?_ | refine W_region ?_ | refine n7 ?_ | refine n8 ?_ | refine W_block ?_ | refine W_skip ?_ | refine W_ret ?_ | refine W_exit ?_ | refine WQ_then ?_ | refine WQ_then_ret ?_ | refine WQ_then_exit ?_ | refine WQ_block_normal ?_ | refine WQ_block_ret ?_ | refine WQ_block_exit ?_ | refine n9 ?_)
                        ((apply WQ_meet (y)); (focus (first | trivial | omega | assumption | exact ⟨by omega, by omega⟩ | (simp; done))); (focus (repeat (first | exact FrIn.nil _ | (apply FrIn.cons; exact rfl; (first | exact rfl | (congr 1; first | omega | (dsimp only; omega)) | (simp; done)))))); (focus (repeat (first | exact SubO.nil _ | (apply SubO.cons; (focus (repeat' (first | exact Pick.head _ _ | apply Pick.tail))))))); (focus (repeat (first | exact AllE.nil _ | (apply AllE.cons; (focus (first | exact ent_nilBy | exact ent_nilSl | (apply Ent.mem; repeat' (first | exact mcs | apply mct)))))))))
                      | false =>
                        by_cases hq8 : q / 256 = 0
                        · have ho : oddV q = false := by unfold oddV; rw [hq3, decide_eq_false (fun h => h hq8)]; rfl
                          rw [ho]
                          repeat (first | refine n1 ?_ | refine n2 (fun b _ => ?_) | refine n3 (fun _ _ => ?_) | refine n4 ?_ | refine n5 ?_ | refine WL_nil ?_ | refine W_seq ?_ | refine W_region ?_ | refine n7 ?_ | refine n8 ?_ | refine W_block ?_ | refine W_skip ?_ | refine W_ret ?_ | refine W_exit ?_ | refine WQ_then ?_ | refine WQ_then_ret ?_ | refine WQ_then_exit ?_ | refine WQ_block_normal ?_ | refine WQ_block_ret ?_ | refine WQ_block_exit ?_ | refine n9 ?_)
                          (apply WL_effs; exact rfl; exact rfl; exact rfl; apply E_callO; exact rfl; (intro _ _; simp); exact ht6; (first | (apply perm1; (focus (repeat' (first | exact Pick.head _ _ | apply Pick.tail)))) | (apply perm2; (focus (repeat' (first | exact Pick.head _ _ | apply Pick.tail))); (focus (repeat' (first | exact Pick.head _ _ | apply Pick.tail)))) | (apply perm3; (focus (repeat' (first | exact Pick.head _ _ | apply Pick.tail))); (focus (repeat' (first | exact Pick.head _ _ | apply Pick.tail))); (focus (repeat' (first | exact Pick.head _ _ | apply Pick.tail))))); (repeat (first | exact AllE.nil _ | (apply AllE.cons; (focus (first | exact ent_nilBy | exact ent_nilSl | (apply Ent.mem; repeat' (first | exact mcs | apply mct))))))); (intro _; exact rfl); (intro _; exact rfl))
                          intro y _
                          repeat (first | refine n1 ?_ | refine n2 (fun b _ => ?_) | refine n3 (fun _ _ => ?_) | refine n4 ?_ | refine n5 ?_ | refine WL_nil ?_ | refine W_seq ?_ | refine W_region ?_ | refine n7 ?_ | refine n8 ?_ | refine W_block ?_ | refine W_skip ?_ | refine W_ret ?_ | refine W_exit ?_ | refine WQ_then ?_ | refine WQ_then_ret ?_ | refine WQ_then_exit ?_ | refine WQ_block_normal ?_ | refine WQ_block_ret ?_ | refine WQ_block_exit ?_ | refine n9 ?_)
                          refine WL_runs rfl rfl rfl (R_and rfl rfl (i64_7N _)) ?_
                          repeat (first | refine n1 ?_ | refine n2 (fun b _ => ?_) | refine n3 (fun _ _ => ?_) | refine n4 ?_ | refine n5 ?_ | refine WL_nil ?_ | refine W_seq ?_ | refine W_region ?_ | refine n7 ?_ | refine n8 ?_ | refine W_block ?_ | refine W_skip ?_ | refine W_ret ?_ | refine W_exit ?_ | refine WQ_then ?_ | refine WQ_then_ret ?_ | refine WQ_then_exit ?_ | refine WQ_block_normal ?_ | refine WQ_block_ret ?_ | refine WQ_block_exit ?_ | refine n9 ?_)
                          refine WL_runs rfl rfl rfl (R_and rfl rfl w4) ?_
                          refine WL_runs rfl rfl rfl (R_cmp rfl rfl rfl (flq_ne _ 4)) ?_
                          repeat (first | refine n1 ?_ | refine n2 (fun b _ => ?_) | refine n3 (fun _ _ => ?_) | refine n4 ?_ | refine n5 ?_ | refine WL_nil ?_ | refine W_seq ?_ | refine W_region ?_ | refine n7 ?_ | refine n8 ?_ | refine W_block ?_ | refine W_skip ?_ | refine W_ret ?_ | refine W_exit ?_ | refine WQ_then ?_ | refine WQ_then_ret ?_ | refine WQ_then_exit ?_ | refine WQ_block_normal ?_ | refine WQ_block_ret ?_ | refine WQ_block_exit ?_ | refine n9 ?_)
                          refine WL_runs rfl rfl rfl (R_quo rfl rfl (by decide) (quoN q hq)) ?_
                          refine WL_runs rfl rfl rfl (R_and rfl rfl (i64_3N _)) ?_
                          refine WL_runs rfl rfl rfl (R_convi rfl rfl rfl (wx_b8 _)) ?_
                          repeat (first | refine n1 ?_ | refine n2 (fun b _ => ?_) | refine n3 (fun _ _ => ?_) | refine n4 ?_ | refine n5 ?_ | refine WL_nil ?_ | refine W_seq ?_ | refine W_region ?_ | refine n7 ?_ | refine n8 ?_ | refine W_block ?_ | refine W_skip ?_ | refine W_ret ?_ | refine W_exit ?_ | refine WQ_then ?_ | refine WQ_then_ret ?_ | refine WQ_then_exit ?_ | refine WQ_block_normal ?_ | refine WQ_block_ret ?_ | refine WQ_block_exit ?_ | refine n9 ?_)
                          refine WL_runs rfl rfl rfl (R_and rfl rfl w7) ?_
                          refine WL_runs rfl rfl rfl (R_cmp rfl rfl rfl (flq_ne _ 7)) ?_
                          repeat (first | refine n1 ?_ | refine n2 (fun b _ => ?_) | refine n3 (fun _ _ => ?_) | refine n4 ?_ | refine n5 ?_ | refine WL_nil ?_ | refine W_seq ?_ | refine W_region ?_ | refine n7 ?_ | refine n8 ?_ | refine W_block ?_ | refine W_skip ?_ | refine W_ret ?_ | refine W_exit ?_ | refine WQ_then ?_ | refine WQ_then_ret ?_ | refine WQ_then_exit ?_ | refine WQ_block_normal ?_ | refine WQ_block_ret ?_ | refine WQ_block_exit ?_ | refine n9 ?_)
                          refine WL_runs rfl rfl rfl (R_and rfl rfl w3) ?_
                          refine WL_runs rfl rfl rfl (R_cmp rfl rfl rfl ((flq_ne _ 3).trans hq3)) ?_
                          repeat (first | refine n1 ?_ | refine n2 (fun b _ => ?_) | refine n3 (fun _ _ => ?_) | refine n4 ?_ | refine n5 ?_ | refine WL_nil ?_ | refine W_seq ?_ | refine W_region ?_ | refine n7 ?_ | refine n8 ?_ | refine W_block ?_ | refine W_skip ?_ | refine W_ret ?_ | refine W_exit ?_ | refine WQ_then ?_ | refine WQ_then_ret ?_ | refine WQ_then_exit ?_ | refine WQ_block_normal ?_ | refine WQ_block_ret ?_ | refine WQ_block_exit ?_ | refine n9 ?_)
                          refine WL_runs rfl rfl rfl (R_shr rfl rfl (by decide) (i64_shrN _ 8 (by decide))) ?_
                          repeat (first | refine n1 ?_ | refine n2 (fun b _ => ?_) | refine n3 (fun _ _ => ?_) | refine n4 ?_ | refine n5 ?_ | refine WL_nil ?_ | refine W_seq ?_ | refine W_region ?_ | refine n7 ?_ | refine n8 ?_ | refine W_block ?_ | refine W_skip ?_ | refine W_ret ?_ | refine W_exit ?_ | refine WQ_then ?_ | refine WQ_then_ret ?_ | refine WQ_then_exit ?_ | refine WQ_block_normal ?_ | refine WQ_block_ret ?_ | refine WQ_block_exit ?_ | refine n9 ?_)
                          ((apply WQ_meet (y)); (focus (first | trivial | omega | assumption | exact ⟨by omega, by omega⟩ | (simp; done))); (focus (repeat (first | exact FrIn.nil _ | (apply FrIn.cons; exact rfl; (first | exact rfl | (congr 1; first | omega | (dsimp only; omega)) | (simp; done)))))); (focus (repeat (first | exact SubO.nil _ | (apply SubO.cons; (focus (repeat' (first | exact Pick.head _ _ | apply Pick.tail))))))); (focus (repeat (first | exact AllE.nil _ | (apply AllE.cons; (focus (first | exact ent_nilBy | exact ent_nilSl | (apply Ent.mem; repeat' (first | exact mcs | apply mct)))))))))
                        · have ho : oddV q = true := by unfold oddV; rw [hq3, decide_eq_true hq8]; rfl
                          rw [ho]
                          repeat (first | refine n1 ?_ | refine n2 (fun b _ => ?_) | refine n3 (fun _ _ => ?_) | refine n4 ?_ | refine n5 ?_ | refine WL_nil ?_ | refine W_seq ?_ | refine W_region ?_ | refine n7 ?_ | refine n8 ?_ | refine W_block ?_ | refine W_skip ?_ | refine W_ret ?_ | refine W_exit ?_ | refine WQ_then ?_ | refine WQ_then_ret ?_ | refine WQ_then_exit ?_ | refine WQ_block_normal ?_ | refine WQ_block_ret ?_ | refine WQ_block_exit ?_ | refine n9 ?_)
                          (apply WL_effs; exact rfl; exact rfl; exact rfl; apply E_callO; exact rfl; (intro _ _; simp); exact ht6; (first | (apply perm1; (focus (repeat' (first | exact Pick.head _ _ | apply Pick.tail)))) | (apply perm2; (focus (repeat' (first | exact Pick.head _ _ | apply Pick.tail))); (focus (repeat' (first | exact Pick.head _ _ | apply Pick.tail)))) | (apply perm3; (focus (repeat' (first | exact Pick.head _ _ | apply Pick.tail))); (focus (repeat' (first | exact Pick.head _ _ | apply Pick.tail))); (focus (repeat' (first | exact Pick.head _ _ | apply Pick.tail))))); (repeat (first | exact AllE.nil _ | (apply AllE.cons; (focus (first | exact ent_nilBy | exact ent_nilSl | (apply Ent.mem; repeat' (first | exact mcs | apply mct))))))); (intro _; exact rfl); (intro _; exact rfl))
                          intro y _
                          repeat (first | refine n1 ?_ | refine n2 (fun b _ => ?_) | refine n3 (fun _ _ => ?_) | refine n4 ?_ | refine n5 ?_ | refine WL_nil ?_ | refine W_seq ?_ | refine W_region ?_ | refine n7 ?_ | refine n8 ?_ | refine W_block ?_ | refine W_skip ?_ | refine W_ret ?_ | refine W_exit ?_ | refine WQ_then ?_ | refine WQ_then_ret ?_ | refine WQ_then_exit ?_ | refine WQ_block_normal ?_ | refine WQ_block_ret ?_ | refine WQ_block_exit ?_ | refine n9 ?_)
                          refine WL_runs rfl rfl rfl (R_and rfl rfl (i64_7N _)) ?_
                          repeat (first | refine n1 ?_ | refine n2 (fun b _ => ?_) | refine n3 (fun _ _ => ?_) | refine n4 ?_ | refine n5 ?_ | refine WL_nil ?_ | refine W_seq ?_ | refine W_region ?_ | refine n7 ?_ | refine n8 ?_ | refine W_block ?_ | refine W_skip ?_ | refine W_ret ?_ | refine W_exit ?_ | refine WQ_then ?_ | refine WQ_then_ret ?_ | refine WQ_then_exit ?_ | refine WQ_block_normal ?_ | refine WQ_block_ret ?_ | refine WQ_block_exit ?_ | refine n9 ?_)
                          refine WL_runs rfl rfl rfl (R_and rfl rfl w4) ?_
                          refine WL_runs rfl rfl rfl (R_cmp rfl rfl rfl (flq_ne _ 4)) ?_
                          repeat (first | refine n1 ?_ | refine n2 (fun b _ => ?_) | refine n3 (fun _ _ => ?_) | refine n4 ?_ | refine n5 ?_ | refine WL_nil ?_ | refine W_seq ?_ | refine W_region ?_ | refine n7 ?_ | refine n8 ?_ | refine W_block ?_ | refine W_skip ?_ | refine W_ret ?_ | refine W_exit ?_ | refine WQ_then ?_ | refine WQ_then_ret ?_ | refine WQ_then_exit ?_ | refine WQ_block_normal ?_ | refine WQ_block_ret ?_ | refine WQ_block_exit ?_ | refine n9 ?_)
                          refine WL_runs rfl rfl rfl (R_quo rfl rfl (by decide) (quoN q hq)) ?_
                          refine WL_runs rfl rfl rfl (R_and rfl rfl (i64_3N _)) ?_
                          refine WL_runs rfl rfl rfl (R_convi rfl rfl rfl (wx_b8 _)) ?_
                          repeat (first | refine n1 ?_ | refine n2 (fun b _ => ?_) | refine n3 (fun _ _ => ?_) | refine n4 ?_ | refine n5 ?_ | refine WL_nil ?_ | refine W_seq ?_ | refine W_region ?_ | refine n7 ?_ | refine n8 ?_ | refine W_block ?_ | refine W_skip ?_ | refine W_ret ?_ | refine W_exit ?_ | refine WQ_then ?_ | refine WQ_then_ret ?_ | refine WQ_then_exit ?_ | refine WQ_block_normal ?_ | refine WQ_block_ret ?_ | refine WQ_block_exit ?_ | refine n9 ?_)
                          refine WL_runs rfl rfl rfl (R_and rfl rfl w7) ?_
                          refine WL_runs rfl rfl rfl (R_cmp rfl rfl rfl (flq_ne _ 7)) ?_
                          repeat (first | refine n1 ?_ | refine n2 (fun b _ => ?_) | refine n3 (fun _ _ => ?_) | refine n4 ?_ | refine n5 ?_ | refine WL_nil ?_ | refine W_seq ?_ | refine W_region ?_ | refine n7 ?_ | refine n8 ?_ | refine W_block ?_ | refine W_skip ?_ | refine W_ret ?_ | refine W_exit ?_ | refine WQ_then ?_ | refine WQ_then_ret ?_ | refine WQ_then_exit ?_ | refine WQ_block_normal ?_ | refine WQ_block_ret ?_ | refine WQ_block_exit ?_ | refine n9 ?_)
                          refine WL_runs rfl rfl rfl (R_and rfl rfl w3) ?_
                          refine WL_runs rfl rfl rfl (R_cmp rfl rfl rfl ((flq_ne _ 3).trans hq3)) ?_
                          repeat (first | refine n1 ?_ | refine n2 (fun b _ => ?_) | refine n3 (fun _ _ => ?_) | refine n4 ?_ | refine n5 ?_ | refine WL_nil ?_ | refine W_seq ?_ | refine W_region ?_ | refine n7 ?_ | refine n8 ?_ | refine W_block ?_ | refine W_skip ?_ | refine W_ret ?_ | refine W_exit ?_ | refine WQ_then ?_ | refine WQ_then_ret ?_ | refine WQ_then_exit ?_ | refine WQ_block_normal ?_ | refine WQ_block_ret ?_ | refine WQ_block_exit ?_ | refine n9 ?_)
                          refine WL_runs rfl rfl rfl (R_shr rfl rfl (by decide) (i64_shrN _ 8 (by decide))) ?_
                          repeat (first | refine n1 ?_ | refine n2 (fun b _ => ?_) | refine n3 (fun _ _ => ?_) | refine n4 ?_ | refine n5 ?_ | refine WL_nil ?_ | refine W_seq ?_ | refine W_region ?_ | refine n7 ?_ | refine n8 ?_ | refine W_block ?_ | refine W_skip ?_ | refine W_ret ?_ | refine W_exit ?_ | refine WQ_then ?_ | refine WQ_then_ret ?_ | refine WQ_then_exit ?_ | refine WQ_block_normal ?_ | refine WQ_block_ret ?_ | refine WQ_block_exit ?_ | refine n9 ?_)
                          ((apply WQ_meet (y)); (focus (first | trivial | omega | assumption | exact ⟨by omega, by omega⟩ | (simp; done))); (focus (repeat (first | exact FrIn.nil _ | (apply FrIn.cons; exact rfl; (first | exact rfl | (congr 1; first | omega | (dsimp only; omega)) | (simp; done)))))); (focus (repeat (first | exact SubO.nil _ | (apply SubO.cons; (focus (repeat' (first | exact Pick.head _ _ | apply Pick.tail))))))); (focus (repeat (first | exact AllE.nil _ | (apply AllE.cons; (focus (first | exact ent_nilBy | exact ent_nilSl | (apply Ent.mem; repeat' (first | exact mcs | apply mct)))))))))
                  · intro o6 _
                    have l6 : (s6 ys).1.length ≤ 1000000 := by
                      show (stS (trB ys) (s5 ys)).1.length ≤ 1000000
                      cases trB ys
                      · exact l5
                      · exact Nat.le_trans (tkC_len _ 2) l5
                    have hnk : ¬ (knB (hA ys).kind (hA ys).sub = false ∨ (dB ys 0).toNat % 4 ≠ 0 ∨ 128 ≤ (dB ys 1).toNat) := by
                      rintro (h | h | h)
                      · rw [hkn] at h; cases h
                      · exact h c2
                      · exact absurd (show 128 ≤ ((tkV (ys, false) 2).getD 1 0).toNat from h) (by omega)
                    unfold decE at hEq
                    rw [if_neg c1, if_neg hnk] at hEq
                    have hch := check_fn (hF ys) (hF_w ys)
                    have hba := bare_fn (hF ys)
                    cases hs : (s6 ys).2 with
                    | true =>
                      rw [hs] at hEq
                      obtain rfl : E = 10 := by rw [hEq]; exact if_pos rfl
                      repeat (first | refine n1 ?_ | refine n2 (fun b _ => ?_) | refine n3 (fun _ _ => ?_) | refine n4 ?_ | refine n5 ?_ | refine WL_nil ?_ | refine W_seq ?_ | refine W_region ?_ | refine n7 ?_ | refine n8 ?_ | refine W_block ?_ | refine W_skip ?_ | refine W_ret ?_ | refine W_exit ?_ | refine WQ_then ?_ | refine WQ_then_ret ?_ | refine WQ_then_exit ?_ | refine WQ_block_normal ?_ | refine WQ_block_ret ?_ | refine WQ_block_exit ?_ | refine n9 ?_)
                      refine WQ_nilRow 5 1 ?_
                      ((apply ret2 Tryd.results11 ( Value.slice none 0 0)); (focus (first | trivial | assumption | omega)); (focus (first | exact RV_tmp rfl | (apply RV_cellN; exact rfl; (repeat' (first | exact Pick.head _ _ | apply Pick.tail)); (intro _; exact rfl); (intro _; exact rfl); exact rfl) | (apply RV_cell1; exact rfl; (repeat' (first | exact Pick.head _ _ | apply Pick.tail)); (intro _; exact rfl); exact rfl))); (focus (first | exact RV_tmp rfl | (apply RV_cellN; exact rfl; (repeat' (first | exact Pick.head _ _ | apply Pick.tail)); (intro _; exact rfl); (intro _; exact rfl); exact rfl) | (apply RV_cell1; exact rfl; (repeat' (first | exact Pick.head _ _ | apply Pick.tail)); (intro _; exact rfl); exact rfl)));  (focus (first | exact rfl | (simp; done))); (focus (repeat (first | exact SubO.nil _ | (apply SubO.cons; (focus (repeat' (first | exact Pick.head _ _ | apply Pick.tail))))))); (focus (repeat (first | exact AllE.nil _ | (apply AllE.cons; (focus (first | exact ent_nilBy | exact ent_nilSl | (apply Ent.mem; repeat' (first | exact mcs | apply mct)))))))))
                    | false =>
                      rw [hs, if_neg (by decide)] at hEq
                      unfold refB at hEq
                      generalize hodd : oddB ys = od at *
                      cases od with
                      | true =>
                        obtain rfl : E = 12 := by rw [hEq]; exact if_pos rfl
                        repeat (first | refine n1 ?_ | refine n2 (fun b _ => ?_) | refine n3 (fun _ _ => ?_) | refine n4 ?_ | refine n5 ?_ | refine WL_nil ?_ | refine W_seq ?_ | refine W_region ?_ | refine n7 ?_ | refine n8 ?_ | refine W_block ?_ | refine W_skip ?_ | refine W_ret ?_ | refine W_exit ?_ | refine WQ_then ?_ | refine WQ_then_ret ?_ | refine WQ_then_exit ?_ | refine WQ_block_normal ?_ | refine WQ_block_ret ?_ | refine WQ_block_exit ?_ | refine n9 ?_)
                        refine WQ_nilRow 5 1 ?_
                        ((apply ret2 Tryd.results11 ( Value.slice none 0 0)); (focus (first | trivial | assumption | omega)); (focus (first | exact RV_tmp rfl | (apply RV_cellN; exact rfl; (repeat' (first | exact Pick.head _ _ | apply Pick.tail)); (intro _; exact rfl); (intro _; exact rfl); exact rfl) | (apply RV_cell1; exact rfl; (repeat' (first | exact Pick.head _ _ | apply Pick.tail)); (intro _; exact rfl); exact rfl))); (focus (first | exact RV_tmp rfl | (apply RV_cellN; exact rfl; (repeat' (first | exact Pick.head _ _ | apply Pick.tail)); (intro _; exact rfl); (intro _; exact rfl); exact rfl) | (apply RV_cell1; exact rfl; (repeat' (first | exact Pick.head _ _ | apply Pick.tail)); (intro _; exact rfl); exact rfl)));  (focus (first | exact rfl | (simp; done))); (focus (repeat (first | exact SubO.nil _ | (apply SubO.cons; (focus (repeat' (first | exact Pick.head _ _ | apply Pick.tail))))))); (focus (repeat (first | exact AllE.nil _ | (apply AllE.cons; (focus (first | exact ent_nilBy | exact ent_nilSl | (apply Ent.mem; repeat' (first | exact mcs | apply mct)))))))))
                      | false =>
                        rw [Bool.false_or] at hEq
                        cases hd : hdB (hF ys) with
                        | false =>
                          rw [hd] at hEq
                          rw [hd] at hch
                          obtain rfl : E = 12 := by rw [hEq]; exact if_pos rfl
                          repeat (first | refine n1 ?_ | refine n2 (fun b _ => ?_) | refine n3 (fun _ _ => ?_) | refine n4 ?_ | refine n5 ?_ | refine n6 (hch) ?_ | refine n6v (hch) ?_ | refine WL_nil ?_ | refine W_seq ?_ | refine W_region ?_ | refine n7 ?_ | refine n8 ?_ | refine W_block ?_ | refine W_skip ?_ | refine W_ret ?_ | refine W_exit ?_ | refine WQ_then ?_ | refine WQ_then_ret ?_ | refine WQ_then_exit ?_ | refine WQ_block_normal ?_ | refine WQ_block_ret ?_ | refine WQ_block_exit ?_ | refine n9 ?_)
                          refine WQ_nilRow 5 1 ?_
                          ((apply ret2 Tryd.results11 ( Value.slice none 0 0)); (focus (first | trivial | assumption | omega)); (focus (first | exact RV_tmp rfl | (apply RV_cellN; exact rfl; (repeat' (first | exact Pick.head _ _ | apply Pick.tail)); (intro _; exact rfl); (intro _; exact rfl); exact rfl) | (apply RV_cell1; exact rfl; (repeat' (first | exact Pick.head _ _ | apply Pick.tail)); (intro _; exact rfl); exact rfl))); (focus (first | exact RV_tmp rfl | (apply RV_cellN; exact rfl; (repeat' (first | exact Pick.head _ _ | apply Pick.tail)); (intro _; exact rfl); (intro _; exact rfl); exact rfl) | (apply RV_cell1; exact rfl; (repeat' (first | exact Pick.head _ _ | apply Pick.tail)); (intro _; exact rfl); exact rfl)));  (focus (first | exact rfl | (simp; done))); (focus (repeat (first | exact SubO.nil _ | (apply SubO.cons; (focus (repeat' (first | exact Pick.head _ _ | apply Pick.tail))))))); (focus (repeat (first | exact AllE.nil _ | (apply AllE.cons; (focus (first | exact ent_nilBy | exact ent_nilSl | (apply Ent.mem; repeat' (first | exact mcs | apply mct)))))))))
                        | true =>
                          rw [hd, Bool.not_true, Bool.false_or] at hEq
                          rw [hd] at hch
                          by_cases h0 : barB (hF ys) = true ∧ 0 < (s6 ys).1.length
                          · rw [h0.1, decide_eq_true h0.2] at hEq
                            obtain rfl : E = 12 := by rw [hEq]; exact if_pos rfl
                            have h02 := h0.2
                            rw [h0.1] at hba
                            repeat (first | refine n1 ?_ | refine n2 (fun b _ => ?_) | refine n3 (fun _ _ => ?_) | refine n4 ?_ | refine n5 ?_ | refine n6 (hch) ?_ | refine n6 (hba) ?_ | refine n6v (hch) ?_ | refine n6v (hba) ?_ | refine WL_nil ?_ | refine W_seq ?_ | refine W_region ?_ | refine n7 ?_ | refine n8 ?_ | refine W_block ?_ | refine W_skip ?_ | refine W_ret ?_ | refine W_exit ?_ | refine WQ_then ?_ | refine WQ_then_ret ?_ | refine WQ_then_exit ?_ | refine WQ_block_normal ?_ | refine WQ_block_ret ?_ | refine WQ_block_exit ?_ | refine n9 ?_)
                            refine WQ_nilRow 5 1 ?_
                            ((apply ret2 Tryd.results11 ( Value.slice none 0 0)); (focus (first | trivial | assumption | omega)); (focus (first | exact RV_tmp rfl | (apply RV_cellN; exact rfl; (repeat' (first | exact Pick.head _ _ | apply Pick.tail)); (intro _; exact rfl); (intro _; exact rfl); exact rfl) | (apply RV_cell1; exact rfl; (repeat' (first | exact Pick.head _ _ | apply Pick.tail)); (intro _; exact rfl); exact rfl))); (focus (first | exact RV_tmp rfl | (apply RV_cellN; exact rfl; (repeat' (first | exact Pick.head _ _ | apply Pick.tail)); (intro _; exact rfl); (intro _; exact rfl); exact rfl) | (apply RV_cell1; exact rfl; (repeat' (first | exact Pick.head _ _ | apply Pick.tail)); (intro _; exact rfl); exact rfl)));  (focus (first | exact rfl | (simp; done))); (focus (repeat (first | exact SubO.nil _ | (apply SubO.cons; (focus (repeat' (first | exact Pick.head _ _ | apply Pick.tail))))))); (focus (repeat (first | exact AllE.nil _ | (apply AllE.cons; (focus (first | exact ent_nilBy | exact ent_nilSl | (apply Ent.mem; repeat' (first | exact mcs | apply mct)))))))))
                          · have hn : (barB (hF ys) && decide (0 < (s6 ys).1.length)) = false := by
                              cases hb : barB (hF ys)
                              · rfl
                              · exact decide_eq_false (fun h => h0 ⟨hb, h⟩)
                            rw [hn, if_neg (by decide)] at hEq
                            by_cases h11 : 2304 < (s6 ys).1.length
                            · obtain rfl : E = 11 := by rw [hEq]; exact if_pos h11
                              have hbf : barB (hF ys) = false := by
                                cases hb : barB (hF ys)
                                · rfl
                                · exact absurd ⟨hb, by omega⟩ h0
                              rw [hbf] at hba
                              repeat (first | refine n1 ?_ | refine n2 (fun b _ => ?_) | refine n3 (fun _ _ => ?_) | refine n4 ?_ | refine n5 ?_ | refine n6 (hch) ?_ | refine n6 (hba) ?_ | refine n6v (hch) ?_ | refine n6v (hba) ?_ | refine WL_nil ?_ | refine W_seq ?_ | refine W_region ?_ | refine n7 ?_ | refine n8 ?_ | refine W_block ?_ | refine W_skip ?_ | refine W_ret ?_ | refine W_exit ?_ | refine WQ_then ?_ | refine WQ_then_ret ?_ | refine WQ_then_exit ?_ | refine WQ_block_normal ?_ | refine WQ_block_ret ?_ | refine WQ_block_exit ?_ | refine n9 ?_)
                              refine WQ_nilRow 5 1 ?_
                              ((apply ret2 Tryd.results11 ( Value.slice none 0 0)); (focus (first | trivial | assumption | omega)); (focus (first | exact RV_tmp rfl | (apply RV_cellN; exact rfl; (repeat' (first | exact Pick.head _ _ | apply Pick.tail)); (intro _; exact rfl); (intro _; exact rfl); exact rfl) | (apply RV_cell1; exact rfl; (repeat' (first | exact Pick.head _ _ | apply Pick.tail)); (intro _; exact rfl); exact rfl))); (focus (first | exact RV_tmp rfl | (apply RV_cellN; exact rfl; (repeat' (first | exact Pick.head _ _ | apply Pick.tail)); (intro _; exact rfl); (intro _; exact rfl); exact rfl) | (apply RV_cell1; exact rfl; (repeat' (first | exact Pick.head _ _ | apply Pick.tail)); (intro _; exact rfl); exact rfl)));  (focus (first | exact rfl | (simp; done))); (focus (repeat (first | exact SubO.nil _ | (apply SubO.cons; (focus (repeat' (first | exact Pick.head _ _ | apply Pick.tail))))))); (focus (repeat (first | exact AllE.nil _ | (apply AllE.cons; (focus (first | exact ent_nilBy | exact ent_nilSl | (apply Ent.mem; repeat' (first | exact mcs | apply mct)))))))))
                            · obtain rfl : E = 0 := by rw [hEq]; exact if_neg h11
                              cases hb : barB (hF ys) with
                              | false =>
                                rw [hb] at hba
                                repeat (first | refine n1 ?_ | refine n2 (fun b _ => ?_) | refine n3 (fun _ _ => ?_) | refine n4 ?_ | refine n5 ?_ | refine n6 (hch) ?_ | refine n6 (hba) ?_ | refine n6v (hch) ?_ | refine n6v (hba) ?_ | refine WL_nil ?_ | refine W_seq ?_ | refine W_region ?_ | refine n7 ?_ | refine n8 ?_ | refine W_block ?_ | refine W_skip ?_ | refine W_ret ?_ | refine W_exit ?_ | refine WQ_then ?_ | refine WQ_then_ret ?_ | refine WQ_then_exit ?_ | refine WQ_block_normal ?_ | refine WQ_block_ret ?_ | refine WQ_block_exit ?_ | refine n9 ?_)
                                (refine W_regionP' [1, 6, 7, 8] [] [0, 2, 3, 4, 5, 1, 6, 7, 8, 9] [4] (by kernel_rfl) (by kernel_rfl) (by repeat (first | exact UZ.nil _ _ | (apply UZ.cons; exact rfl; (intro _; exact rfl)))) (by exact rfl) (by (repeat (first | exact SubO.nil _ | (apply SubO.cons; (focus (repeat' (first | exact Pick.head _ _ | apply Pick.tail))))))) ?_)
                                repeat (first | refine p1 ?_ | refine p2 (fun b _ => ?_) | refine p3 (fun _ _ => ?_) | refine p4 ?_ | refine p5 ?_ | refine p7 (fun b => ?_) | refine PL_nil ?_)
                                (apply PL_effs; exact rfl; exact rfl; exact rfl; exact rfl; exact rfl; (apply E_buildSlice; exact rfl; (focus (repeat (first | apply SeqE.nil | (apply SeqE.cons; exact rfl; (focus (first | (apply CellsE.lit; exact rfl) | (apply CellsE.one; (first | (apply OneC.lit; exact rfl) | (apply OneC.by_; (repeat' (first | exact mcs | apply mct)); done) | (apply OneC.sl; (repeat' (first | exact mcs | apply mct)); done) | (apply OneC.rw; (repeat' (first | exact mcs | apply mct)); done) | (apply OneC.row; (repeat' (first | exact Pick.head _ _ | apply Pick.tail))))))); exact rfl) | exact rfl))); exact rfl; (first | (intro _; exact (rfl : _ = Result.ok 1 _)) | (intro _; exact (rfl : _ = Result.ok 2 _)) | (intro _; exact (rfl : _ = Result.ok 3 _)) | (intro _; exact (rfl : _ = Result.ok 4 _)) | (intro _; exact (rfl : _ = Result.ok 5 _)) | (intro _; exact (rfl : _ = Result.ok 6 _)) | (intro _; exact (rfl : _ = Result.ok 7 _)) | (intro _; exact (rfl : _ = Result.ok 8 _)) | (intro _; exact (rfl : _ = Result.ok 9 _)) | (intro _; exact (rfl : _ = Result.ok 13 _)) | (intro _; exact (rfl : _ = Result.ok 14 _)) | (intro _; exact (rfl : _ = Result.ok 26 _)) | (intro _; exact (rfl : _ = Result.ok 40 _)) | (intro _; exact (rfl : _ = Result.ok 41 _)) | (intro _; exact (rfl : _ = Result.ok 42 _)) | (intro _; exact (rfl : _ = Result.ok 43 _)) | (intro _; exact (rfl : _ = Result.ok 44 _)) | (intro _; exact (rfl : _ = Result.ok 45 _)) | (intro _; exact (rfl : _ = Result.ok 46 _))); (intro _; exact rfl); exact rfl; exact Nat.le_of_ble_eq_true rfl; exact Nat.le_of_ble_eq_true rfl); (intro _; (repeat (first | exact SubO.nil _ | (apply SubO.cons; (focus (repeat' (first | exact Pick.head _ _ | apply Pick.tail))))))); skip)
                                intro q _
                                refine PL_effs rfl rfl rfl rfl rfl (E_appendBy (bs := []) (news := (s6 ys).1) (nm := (s6 ys).1.length) (all := (s6 ys).1) rfl rfl (by repeat' (first | exact Pick.head _ _ | apply Pick.tail)) (by repeat' (first | exact mcs | apply mct)) rfl rfl rfl rfl rfl rfl (Nat.le_of_ble_eq_true rfl) (by omega) (Nat.zero_add _) rfl) (fun _ => (by (repeat (first | exact SubO.nil _ | (apply SubO.cons; (focus (repeat' (first | exact Pick.head _ _ | apply Pick.tail)))))))) (fun q2 _ => ?_)
                                refine PL_effs rfl rfl rfl rfl rfl (Effs.runs (by (first | (apply R_move; exact rfl) | (apply R_assign; exact rfl) | (apply R_extract; exact rfl; exact rfl) | (apply R_pick_t; exact rfl; exact rfl) | (apply R_pick_f; exact rfl; exact rfl) | (apply G_bin; (first | (apply R_cmp; exact rfl; exact rfl; exact rfl; (first | exact decide_eq_true (by omega) | exact decide_eq_false (by omega) | exact rfl)) | (apply R_ari; exact rfl; exact rfl; exact rfl; (first | exact wx_i64 (by omega) | exact wx_u8 (by omega) | exact wx_u64 (by omega) | exact wx_u32 (by omega) | exact wx_u16 (by omega) | exact wx_b8 _ | exact rfl)) | (apply R_eqB; exact rfl; exact rfl; exact rfl; exact rfl) | (apply R_neB; exact rfl; exact rfl; exact rfl; exact rfl) | (apply R_eqS; exact rfl; exact rfl; (first | exact decide_eq_true rfl | exact decide_eq_true (by assumption) | exact decide_eq_false (by assumption) | exact rfl)) | (apply R_neS; exact rfl; exact rfl; (first | exact neS_f rfl | exact neS_f (by assumption) | exact neS_t (by assumption) | exact rfl)) | (apply R_addS; exact rfl; exact rfl; (first | omega | (simp only [List.length_take, List.length_drop, List.length_append, List.length_cons, List.length_nil, List.length_map, List.length_replicate]; omega))) | (apply R_eqA; exact rfl; exact rfl; exact rfl; exact rfl; (first | exact rfl | kernel_rfl); (first | exact rfl | kernel_rfl); (first | exact rfl | kernel_rfl); (first | exact Bc.self _ | exact Bc.zero | exact Bc.lit _ rfl); (first | exact Bc.self _ | exact Bc.zero | exact Bc.lit _ rfl); (first | exact Bc.self _ | exact Bc.zero | exact Bc.lit _ rfl); (first | exact Bc.self _ | exact Bc.zero | exact Bc.lit _ rfl); (first | exact Bc.self _ | exact Bc.zero | exact Bc.lit _ rfl); (first | exact Bc.self _ | exact Bc.zero | exact Bc.lit _ rfl); (first | exact Bc.self _ | exact Bc.zero | exact Bc.lit _ rfl); (first | exact Bc.self _ | exact Bc.zero | exact Bc.lit _ rfl); (first | exact Bc.self _ | exact Bc.zero | exact Bc.lit _ rfl); (first | exact Bc.self _ | exact Bc.zero | exact Bc.lit _ rfl); (first | exact Bc.self _ | exact Bc.zero | exact Bc.lit _ rfl); (first | exact Bc.self _ | exact Bc.zero | exact Bc.lit _ rfl); (first | exact decide_eq_true (by assumption) | exact decide_eq_false (by assumption) | exact decide_eq_true rfl | exact decide_eq_false (by decide) | exact rfl)) | (apply R_neA; exact rfl; exact rfl; exact rfl; exact rfl; (first | exact rfl | kernel_rfl); (first | exact rfl | kernel_rfl); (first | exact rfl | kernel_rfl); (first | exact Bc.self _ | exact Bc.zero | exact Bc.lit _ rfl); (first | exact Bc.self _ | exact Bc.zero | exact Bc.lit _ rfl); (first | exact Bc.self _ | exact Bc.zero | exact Bc.lit _ rfl); (first | exact Bc.self _ | exact Bc.zero | exact Bc.lit _ rfl); (first | exact Bc.self _ | exact Bc.zero | exact Bc.lit _ rfl); (first | exact Bc.self _ | exact Bc.zero | exact Bc.lit _ rfl); (first | exact Bc.self _ | exact Bc.zero | exact Bc.lit _ rfl); (first | exact Bc.self _ | exact Bc.zero | exact Bc.lit _ rfl); (first | exact Bc.self _ | exact Bc.zero | exact Bc.lit _ rfl); (first | exact Bc.self _ | exact Bc.zero | exact Bc.lit _ rfl); (first | exact Bc.self _ | exact Bc.zero | exact Bc.lit _ rfl); (first | exact Bc.self _ | exact Bc.zero | exact Bc.lit _ rfl); (first | exact neS_f' (by assumption) | exact neS_t' (by assumption) | exact neS_f' rfl | exact neS_t' (by decide) | exact rfl)))) | (apply G_load; (first | (apply R_load1; exact rfl; (repeat' (first | exact Pick.head _ _ | apply Pick.tail)); (intro _; exact rfl); exact rfl) | (apply R_loadN; exact rfl; (repeat' (first | exact Pick.head _ _ | apply Pick.tail)); (intro _; exact rfl); (intro _; exact rfl); exact rfl) | (apply R_loadP; exact rfl; (repeat' (first | exact mcs | apply mct)); (intro _; exact rfl); exact rfl) | (apply R_loadPN; exact rfl; (repeat' (first | exact mcs | apply mct)); (intro _; exact rfl); (intro _; exact rfl)) | (apply R_loadPT; exact rfl; (repeat' (first | exact mcs | apply mct)); (intro _; exact rfl); (intro _; exact rfl); exact rfl) | (apply R_loadPO; exact rfl; (repeat' (first | exact mcs | apply mct)); (intro _; exact rfl); exact rfl) | (apply R_loadPON; exact rfl; (repeat' (first | exact mcs | apply mct)); (intro _; exact rfl); (intro _; exact rfl); exact rfl) | (apply R_loadRow; exact rfl; (repeat' (first | exact Pick.head _ _ | apply Pick.tail)); (intro _; exact rfl); (first | omega | (simp only [List.length_take, List.length_drop, List.length_append, List.length_cons, List.length_nil, List.length_map, List.length_replicate]; omega)); (assumption)) | (apply R_loadRowF; exact rfl; (repeat' (first | exact Pick.head _ _ | apply Pick.tail)); (intro _; exact rfl); (assumption)))) | (apply R_fieldO0; exact rfl; exact rfl; exact rfl; (intro _; exact rfl); exact rfl) | (apply R_fieldO; exact rfl; exact rfl; exact rfl; (intro _; exact rfl); exact rfl) | (apply R_not; exact rfl; exact rfl) | (apply G_call; (first | (apply R_lenBy; exact rfl; (repeat' (first | exact mcs | apply mct)); exact rfl) | (apply R_lenRow; exact rfl; (repeat' (first | exact Pick.head _ _ | apply Pick.tail)); exact rfl) | (apply R_lenSl; exact rfl; (repeat' (first | exact mcs | apply mct)); exact rfl) | (apply R_lenRw; exact rfl; (repeat' (first | exact mcs | apply mct)); exact rfl) | (apply R_lenNil; exact rfl; exact rfl) | (apply R_max2; exact rfl; exact rfl; (first | exact if_pos (by omega) | exact if_neg (by omega))) | (apply R_min2; exact rfl; exact rfl; (first | exact if_pos (by omega) | exact if_neg (by omega))))) | (apply R_convi; exact rfl; exact rfl; exact rfl; (first | exact wx_i64 (by omega) | exact wx_u8 (by omega) | exact wx_u64 (by omega) | exact wx_u32 (by omega) | exact wx_u16 (by omega) | exact wx_b8 _ | exact rfl)) | (apply R_toStr; exact rfl; (repeat' (first | exact mcs | apply mct)); exact rfl; exact rfl; exact rfl) | (apply R_toStrRow; exact rfl; (repeat' (first | exact Pick.head _ _ | apply Pick.tail)); (first | exact nil_map | exact one_map _ | exact two_map _ _ | exact rfl); exact rfl; exact rfl; exact rfl) | (apply R_build; exact rfl; (focus (repeat (first | apply PartsE.nil | (apply PartsE.cons; (focus (first | (apply CellsE.lit; exact rfl) | (apply CellsE.one; (first | (apply OneC.lit; exact rfl) | (apply OneC.by_; (repeat' (first | exact mcs | apply mct)); done) | (apply OneC.sl; (repeat' (first | exact mcs | apply mct)); done) | (apply OneC.rw; (repeat' (first | exact mcs | apply mct)); done) | (apply OneC.row; (repeat' (first | exact Pick.head _ _ | apply Pick.tail))))))))))); (intro _; exact rfl); exact rfl; exact rfl; (intro _; go_simp; exact rfl); exact rfl) | (apply R_buildArr; exact rfl; (focus (repeat (first | apply SeqE.nil | (apply SeqE.cons; exact rfl; (focus (first | (apply CellsE.lit; exact rfl) | (apply CellsE.one; (first | (apply OneC.lit; exact rfl) | (apply OneC.by_; (repeat' (first | exact mcs | apply mct)); done) | (apply OneC.sl; (repeat' (first | exact mcs | apply mct)); done) | (apply OneC.rw; (repeat' (first | exact mcs | apply mct)); done) | (apply OneC.row; (repeat' (first | exact Pick.head _ _ | apply Pick.tail))))))); exact rfl) | exact rfl))); (intro _; exact rfl); exact rfl; exact rfl; (intro _; exact rfl); exact rfl; exact rfl) | (apply R_field1; exact rfl; exact rfl; exact rfl; (intro _; exact rfl); exact rfl) | (apply R_fieldN; exact rfl; exact rfl; exact rfl; (intro _; exact rfl); (intro _; exact rfl); exact rfl) | (apply R_nilCheck; exact rfl) | (apply R_makeFunc; exact rfl) | (apply R_makeFunc1; exact rfl) | (apply R_idxRow; exact rfl; exact rfl; (repeat' (first | exact Pick.head _ _ | apply Pick.tail)); exact rfl; (intro _; exact rfl); (focus (first | exact lit0 | exact lit1 | exact lit2 | exact lit3 | exact lit4 | exact lit5 | exact lit6 | exact lit7 | exact lit8 | exact rfl | (simp; done) | omega)); (first | omega | (simp only [List.length_take, List.length_drop, List.length_append, List.length_cons, List.length_nil, List.length_map, List.length_replicate]; omega))) | (apply R_fieldRow; exact rfl; (repeat' (first | exact Pick.head _ _ | apply Pick.tail)); (first | omega | (simp only [List.length_take, List.length_drop, List.length_append, List.length_cons, List.length_nil, List.length_map, List.length_replicate]; omega)); exact rfl; exact rfl; (intro _; exact rfl); exact rfl) | (apply R_idxArr; exact rfl; exact rfl; exact rfl; (intro _; exact rfl); (focus (first | exact lit0 | exact lit1 | exact lit2 | exact lit3 | exact lit4 | exact lit5 | exact lit6 | exact lit7 | exact lit8 | exact rfl | (simp; done) | omega)); (first | omega | (simp only [List.length_take, List.length_drop, List.length_append, List.length_cons, List.length_nil, List.length_map, List.length_replicate]; omega))) | (apply R_sliceArr; exact rfl; exact rfl; (intro _; exact rfl); exact rfl)))) (fun _ => (by (repeat (first | exact SubO.nil _ | (apply SubO.cons; (focus (repeat' (first | exact Pick.head _ _ | apply Pick.tail)))))))) (fun _ _ => ?_)
                                repeat (first | refine p1 ?_ | refine p2 (fun b _ => ?_) | refine p3 (fun _ _ => ?_) | refine p4 ?_ | refine p5 ?_ | refine p7 (fun b => ?_) | refine PL_nil ?_)
                                repeat (first | refine n1 ?_ | refine n2 (fun b _ => ?_) | refine n3 (fun _ _ => ?_) | refine n4 ?_ | refine n5 ?_ | refine WL_nil ?_ | refine W_seq ?_ | refine W_region ?_ | refine n7 ?_ | refine n8 ?_ | refine W_block ?_ | refine W_skip ?_ | refine W_ret ?_ | refine W_exit ?_ | refine WQ_then ?_ | refine WQ_then_ret ?_ | refine WQ_then_exit ?_ | refine WQ_block_normal ?_ | refine WQ_block_ret ?_ | refine WQ_block_exit ?_ | refine n9 ?_)
                                ((apply ret2 Tryd.results11 ( q2)); (focus (first | trivial | assumption | omega)); (focus (first | exact RV_tmp rfl | (apply RV_cellN; exact rfl; (repeat' (first | exact Pick.head _ _ | apply Pick.tail)); (intro _; exact rfl); (intro _; exact rfl); exact rfl) | (apply RV_cell1; exact rfl; (repeat' (first | exact Pick.head _ _ | apply Pick.tail)); (intro _; exact rfl); exact rfl))); (focus (first | exact RV_tmp rfl | (apply RV_cellN; exact rfl; (repeat' (first | exact Pick.head _ _ | apply Pick.tail)); (intro _; exact rfl); (intro _; exact rfl); exact rfl) | (apply RV_cell1; exact rfl; (repeat' (first | exact Pick.head _ _ | apply Pick.tail)); (intro _; exact rfl); exact rfl)));  (focus (first | exact rfl | (simp; done))); (focus (repeat (first | exact SubO.nil _ | (apply SubO.cons; (focus (repeat' (first | exact Pick.head _ _ | apply Pick.tail))))))); (focus (repeat (first | exact AllE.nil _ | (apply AllE.cons; (focus (first | exact ent_nilBy | exact ent_nilSl | (apply Ent.mem; repeat' (first | exact mcs | apply mct)))))))))
                              | true =>
                                have h02 : (s6 ys).1.length = 0 := by
                                  rcases Nat.eq_zero_or_pos (s6 ys).1.length with h | h
                                  · exact h
                                  · exact absurd ⟨hb, h⟩ h0
                                rw [hb] at hba
                                repeat (first | refine n1 ?_ | refine n2 (fun b _ => ?_) | refine n3 (fun _ _ => ?_) | refine n4 ?_ | refine n5 ?_ | refine n6 (hch) ?_ | refine n6 (hba) ?_ | refine n6v (hch) ?_ | refine n6v (hba) ?_ | refine WL_nil ?_ | refine W_seq ?_ | refine W_region ?_ | refine n7 ?_ | refine n8 ?_ | refine W_block ?_ | refine W_skip ?_ | refine W_ret ?_ | refine W_exit ?_ | refine WQ_then ?_ | refine WQ_then_ret ?_ | refine WQ_then_exit ?_ | refine WQ_block_normal ?_ | refine WQ_block_ret ?_ | refine WQ_block_exit ?_ | refine n9 ?_)
                                (refine W_regionP' [1, 6, 7, 8] [] [0, 2, 3, 4, 5, 1, 6, 7, 8, 9] [4] (by kernel_rfl) (by kernel_rfl) (by repeat (first | exact UZ.nil _ _ | (apply UZ.cons; exact rfl; (intro _; exact rfl)))) (by exact rfl) (by (repeat (first | exact SubO.nil _ | (apply SubO.cons; (focus (repeat' (first | exact Pick.head _ _ | apply Pick.tail))))))) ?_)
                                repeat (first | refine p1 ?_ | refine p2 (fun b _ => ?_) | refine p3 (fun _ _ => ?_) | refine p4 ?_ | refine p5 ?_ | refine p7 (fun b => ?_) | refine PL_nil ?_)
                                (apply PL_effs; exact rfl; exact rfl; exact rfl; exact rfl; exact rfl; (apply E_buildSlice; exact rfl; (focus (repeat (first | apply SeqE.nil | (apply SeqE.cons; exact rfl; (focus (first | (apply CellsE.lit; exact rfl) | (apply CellsE.one; (first | (apply OneC.lit; exact rfl) | (apply OneC.by_; (repeat' (first | exact mcs | apply mct)); done) | (apply OneC.sl; (repeat' (first | exact mcs | apply mct)); done) | (apply OneC.rw; (repeat' (first | exact mcs | apply mct)); done) | (apply OneC.row; (repeat' (first | exact Pick.head _ _ | apply Pick.tail))))))); exact rfl) | exact rfl))); exact rfl; (first | (intro _; exact (rfl : _ = Result.ok 1 _)) | (intro _; exact (rfl : _ = Result.ok 2 _)) | (intro _; exact (rfl : _ = Result.ok 3 _)) | (intro _; exact (rfl : _ = Result.ok 4 _)) | (intro _; exact (rfl : _ = Result.ok 5 _)) | (intro _; exact (rfl : _ = Result.ok 6 _)) | (intro _; exact (rfl : _ = Result.ok 7 _)) | (intro _; exact (rfl : _ = Result.ok 8 _)) | (intro _; exact (rfl : _ = Result.ok 9 _)) | (intro _; exact (rfl : _ = Result.ok 13 _)) | (intro _; exact (rfl : _ = Result.ok 14 _)) | (intro _; exact (rfl : _ = Result.ok 26 _)) | (intro _; exact (rfl : _ = Result.ok 40 _)) | (intro _; exact (rfl : _ = Result.ok 41 _)) | (intro _; exact (rfl : _ = Result.ok 42 _)) | (intro _; exact (rfl : _ = Result.ok 43 _)) | (intro _; exact (rfl : _ = Result.ok 44 _)) | (intro _; exact (rfl : _ = Result.ok 45 _)) | (intro _; exact (rfl : _ = Result.ok 46 _))); (intro _; exact rfl); exact rfl; exact Nat.le_of_ble_eq_true rfl; exact Nat.le_of_ble_eq_true rfl); (intro _; (repeat (first | exact SubO.nil _ | (apply SubO.cons; (focus (repeat' (first | exact Pick.head _ _ | apply Pick.tail))))))); skip)
                                intro q _
                                refine PL_effs rfl rfl rfl rfl rfl (E_appendBy (bs := []) (news := (s6 ys).1) (nm := (s6 ys).1.length) (all := (s6 ys).1) rfl rfl (by repeat' (first | exact Pick.head _ _ | apply Pick.tail)) (by repeat' (first | exact mcs | apply mct)) rfl rfl rfl rfl rfl rfl (Nat.le_of_ble_eq_true rfl) (by omega) (Nat.zero_add _) rfl) (fun _ => (by (repeat (first | exact SubO.nil _ | (apply SubO.cons; (focus (repeat' (first | exact Pick.head _ _ | apply Pick.tail)))))))) (fun q2 _ => ?_)
                                refine PL_effs rfl rfl rfl rfl rfl (Effs.runs (by (first | (apply R_move; exact rfl) | (apply R_assign; exact rfl) | (apply R_extract; exact rfl; exact rfl) | (apply R_pick_t; exact rfl; exact rfl) | (apply R_pick_f; exact rfl; exact rfl) | (apply G_bin; (first | (apply R_cmp; exact rfl; exact rfl; exact rfl; (first | exact decide_eq_true (by omega) | exact decide_eq_false (by omega) | exact rfl)) | (apply R_ari; exact rfl; exact rfl; exact rfl; (first | exact wx_i64 (by omega) | exact wx_u8 (by omega) | exact wx_u64 (by omega) | exact wx_u32 (by omega) | exact wx_u16 (by omega) | exact wx_b8 _ | exact rfl)) | (apply R_eqB; exact rfl; exact rfl; exact rfl; exact rfl) | (apply R_neB; exact rfl; exact rfl; exact rfl; exact rfl) | (apply R_eqS; exact rfl; exact rfl; (first | exact decide_eq_true rfl | exact decide_eq_true (by assumption) | exact decide_eq_false (by assumption) | exact rfl)) | (apply R_neS; exact rfl; exact rfl; (first | exact neS_f rfl | exact neS_f (by assumption) | exact neS_t (by assumption) | exact rfl)) | (apply R_addS; exact rfl; exact rfl; (first | omega | (simp only [List.length_take, List.length_drop, List.length_append, List.length_cons, List.length_nil, List.length_map, List.length_replicate]; omega))) | (apply R_eqA; exact rfl; exact rfl; exact rfl; exact rfl; (first | exact rfl | kernel_rfl); (first | exact rfl | kernel_rfl); (first | exact rfl | kernel_rfl); (first | exact Bc.self _ | exact Bc.zero | exact Bc.lit _ rfl); (first | exact Bc.self _ | exact Bc.zero | exact Bc.lit _ rfl); (first | exact Bc.self _ | exact Bc.zero | exact Bc.lit _ rfl); (first | exact Bc.self _ | exact Bc.zero | exact Bc.lit _ rfl); (first | exact Bc.self _ | exact Bc.zero | exact Bc.lit _ rfl); (first | exact Bc.self _ | exact Bc.zero | exact Bc.lit _ rfl); (first | exact Bc.self _ | exact Bc.zero | exact Bc.lit _ rfl); (first | exact Bc.self _ | exact Bc.zero | exact Bc.lit _ rfl); (first | exact Bc.self _ | exact Bc.zero | exact Bc.lit _ rfl); (first | exact Bc.self _ | exact Bc.zero | exact Bc.lit _ rfl); (first | exact Bc.self _ | exact Bc.zero | exact Bc.lit _ rfl); (first | exact Bc.self _ | exact Bc.zero | exact Bc.lit _ rfl); (first | exact decide_eq_true (by assumption) | exact decide_eq_false (by assumption) | exact decide_eq_true rfl | exact decide_eq_false (by decide) | exact rfl)) | (apply R_neA; exact rfl; exact rfl; exact rfl; exact rfl; (first | exact rfl | kernel_rfl); (first | exact rfl | kernel_rfl); (first | exact rfl | kernel_rfl); (first | exact Bc.self _ | exact Bc.zero | exact Bc.lit _ rfl); (first | exact Bc.self _ | exact Bc.zero | exact Bc.lit _ rfl); (first | exact Bc.self _ | exact Bc.zero | exact Bc.lit _ rfl); (first | exact Bc.self _ | exact Bc.zero | exact Bc.lit _ rfl); (first | exact Bc.self _ | exact Bc.zero | exact Bc.lit _ rfl); (first | exact Bc.self _ | exact Bc.zero | exact Bc.lit _ rfl); (first | exact Bc.self _ | exact Bc.zero | exact Bc.lit _ rfl); (first | exact Bc.self _ | exact Bc.zero | exact Bc.lit _ rfl); (first | exact Bc.self _ | exact Bc.zero | exact Bc.lit _ rfl); (first | exact Bc.self _ | exact Bc.zero | exact Bc.lit _ rfl); (first | exact Bc.self _ | exact Bc.zero | exact Bc.lit _ rfl); (first | exact Bc.self _ | exact Bc.zero | exact Bc.lit _ rfl); (first | exact neS_f' (by assumption) | exact neS_t' (by assumption) | exact neS_f' rfl | exact neS_t' (by decide) | exact rfl)))) | (apply G_load; (first | (apply R_load1; exact rfl; (repeat' (first | exact Pick.head _ _ | apply Pick.tail)); (intro _; exact rfl); exact rfl) | (apply R_loadN; exact rfl; (repeat' (first | exact Pick.head _ _ | apply Pick.tail)); (intro _; exact rfl); (intro _; exact rfl); exact rfl) | (apply R_loadP; exact rfl; (repeat' (first | exact mcs | apply mct)); (intro _; exact rfl); exact rfl) | (apply R_loadPN; exact rfl; (repeat' (first | exact mcs | apply mct)); (intro _; exact rfl); (intro _; exact rfl)) | (apply R_loadPT; exact rfl; (repeat' (first | exact mcs | apply mct)); (intro _; exact rfl); (intro _; exact rfl); exact rfl) | (apply R_loadPO; exact rfl; (repeat' (first | exact mcs | apply mct)); (intro _; exact rfl); exact rfl) | (apply R_loadPON; exact rfl; (repeat' (first | exact mcs | apply mct)); (intro _; exact rfl); (intro _; exact rfl); exact rfl) | (apply R_loadRow; exact rfl; (repeat' (first | exact Pick.head _ _ | apply Pick.tail)); (intro _; exact rfl); (first | omega | (simp only [List.length_take, List.length_drop, List.length_append, List.length_cons, List.length_nil, List.length_map, List.length_replicate]; omega)); (assumption)) | (apply R_loadRowF; exact rfl; (repeat' (first | exact Pick.head _ _ | apply Pick.tail)); (intro _; exact rfl); (assumption)))) | (apply R_fieldO0; exact rfl; exact rfl; exact rfl; (intro _; exact rfl); exact rfl) | (apply R_fieldO; exact rfl; exact rfl; exact rfl; (intro _; exact rfl); exact rfl) | (apply R_not; exact rfl; exact rfl) | (apply G_call; (first | (apply R_lenBy; exact rfl; (repeat' (first | exact mcs | apply mct)); exact rfl) | (apply R_lenRow; exact rfl; (repeat' (first | exact Pick.head _ _ | apply Pick.tail)); exact rfl) | (apply R_lenSl; exact rfl; (repeat' (first | exact mcs | apply mct)); exact rfl) | (apply R_lenRw; exact rfl; (repeat' (first | exact mcs | apply mct)); exact rfl) | (apply R_lenNil; exact rfl; exact rfl) | (apply R_max2; exact rfl; exact rfl; (first | exact if_pos (by omega) | exact if_neg (by omega))) | (apply R_min2; exact rfl; exact rfl; (first | exact if_pos (by omega) | exact if_neg (by omega))))) | (apply R_convi; exact rfl; exact rfl; exact rfl; (first | exact wx_i64 (by omega) | exact wx_u8 (by omega) | exact wx_u64 (by omega) | exact wx_u32 (by omega) | exact wx_u16 (by omega) | exact wx_b8 _ | exact rfl)) | (apply R_toStr; exact rfl; (repeat' (first | exact mcs | apply mct)); exact rfl; exact rfl; exact rfl) | (apply R_toStrRow; exact rfl; (repeat' (first | exact Pick.head _ _ | apply Pick.tail)); (first | exact nil_map | exact one_map _ | exact two_map _ _ | exact rfl); exact rfl; exact rfl; exact rfl) | (apply R_build; exact rfl; (focus (repeat (first | apply PartsE.nil | (apply PartsE.cons; (focus (first | (apply CellsE.lit; exact rfl) | (apply CellsE.one; (first | (apply OneC.lit; exact rfl) | (apply OneC.by_; (repeat' (first | exact mcs | apply mct)); done) | (apply OneC.sl; (repeat' (first | exact mcs | apply mct)); done) | (apply OneC.rw; (repeat' (first | exact mcs | apply mct)); done) | (apply OneC.row; (repeat' (first | exact Pick.head _ _ | apply Pick.tail))))))))))); (intro _; exact rfl); exact rfl; exact rfl; (intro _; go_simp; exact rfl); exact rfl) | (apply R_buildArr; exact rfl; (focus (repeat (first | apply SeqE.nil | (apply SeqE.cons; exact rfl; (focus (first | (apply CellsE.lit; exact rfl) | (apply CellsE.one; (first | (apply OneC.lit; exact rfl) | (apply OneC.by_; (repeat' (first | exact mcs | apply mct)); done) | (apply OneC.sl; (repeat' (first | exact mcs | apply mct)); done) | (apply OneC.rw; (repeat' (first | exact mcs | apply mct)); done) | (apply OneC.row; (repeat' (first | exact Pick.head _ _ | apply Pick.tail))))))); exact rfl) | exact rfl))); (intro _; exact rfl); exact rfl; exact rfl; (intro _; exact rfl); exact rfl; exact rfl) | (apply R_field1; exact rfl; exact rfl; exact rfl; (intro _; exact rfl); exact rfl) | (apply R_fieldN; exact rfl; exact rfl; exact rfl; (intro _; exact rfl); (intro _; exact rfl); exact rfl) | (apply R_nilCheck; exact rfl) | (apply R_makeFunc; exact rfl) | (apply R_makeFunc1; exact rfl) | (apply R_idxRow; exact rfl; exact rfl; (repeat' (first | exact Pick.head _ _ | apply Pick.tail)); exact rfl; (intro _; exact rfl); (focus (first | exact lit0 | exact lit1 | exact lit2 | exact lit3 | exact lit4 | exact lit5 | exact lit6 | exact lit7 | exact lit8 | exact rfl | (simp; done) | omega)); (first | omega | (simp only [List.length_take, List.length_drop, List.length_append, List.length_cons, List.length_nil, List.length_map, List.length_replicate]; omega))) | (apply R_fieldRow; exact rfl; (repeat' (first | exact Pick.head _ _ | apply Pick.tail)); (first | omega | (simp only [List.length_take, List.length_drop, List.length_append, List.length_cons, List.length_nil, List.length_map, List.length_replicate]; omega)); exact rfl; exact rfl; (intro _; exact rfl); exact rfl) | (apply R_idxArr; exact rfl; exact rfl; exact rfl; (intro _; exact rfl); (focus (first | exact lit0 | exact lit1 | exact lit2 | exact lit3 | exact lit4 | exact lit5 | exact lit6 | exact lit7 | exact lit8 | exact rfl | (simp; done) | omega)); (first | omega | (simp only [List.length_take, List.length_drop, List.length_append, List.length_cons, List.length_nil, List.length_map, List.length_replicate]; omega))) | (apply R_sliceArr; exact rfl; exact rfl; (intro _; exact rfl); exact rfl)))) (fun _ => (by (repeat (first | exact SubO.nil _ | (apply SubO.cons; (focus (repeat' (first | exact Pick.head _ _ | apply Pick.tail)))))))) (fun _ _ => ?_)
                                repeat (first | refine p1 ?_ | refine p2 (fun b _ => ?_) | refine p3 (fun _ _ => ?_) | refine p4 ?_ | refine p5 ?_ | refine p7 (fun b => ?_) | refine PL_nil ?_)
                                repeat (first | refine n1 ?_ | refine n2 (fun b _ => ?_) | refine n3 (fun _ _ => ?_) | refine n4 ?_ | refine n5 ?_ | refine WL_nil ?_ | refine W_seq ?_ | refine W_region ?_ | refine n7 ?_ | refine n8 ?_ | refine W_block ?_ | refine W_skip ?_ | refine W_ret ?_ | refine W_exit ?_ | refine WQ_then ?_ | refine WQ_then_ret ?_ | refine WQ_then_exit ?_ | refine WQ_block_normal ?_ | refine WQ_block_ret ?_ | refine WQ_block_exit ?_ | refine n9 ?_)
                                ((apply ret2 Tryd.results11 ( q2)); (focus (first | trivial | assumption | omega)); (focus (first | exact RV_tmp rfl | (apply RV_cellN; exact rfl; (repeat' (first | exact Pick.head _ _ | apply Pick.tail)); (intro _; exact rfl); (intro _; exact rfl); exact rfl) | (apply RV_cell1; exact rfl; (repeat' (first | exact Pick.head _ _ | apply Pick.tail)); (intro _; exact rfl); exact rfl))); (focus (first | exact RV_tmp rfl | (apply RV_cellN; exact rfl; (repeat' (first | exact Pick.head _ _ | apply Pick.tail)); (intro _; exact rfl); (intro _; exact rfl); exact rfl) | (apply RV_cell1; exact rfl; (repeat' (first | exact Pick.head _ _ | apply Pick.tail)); (intro _; exact rfl); exact rfl)));  (focus (first | exact rfl | (simp; done))); (focus (repeat (first | exact SubO.nil _ | (apply SubO.cons; (focus (repeat' (first | exact Pick.head _ _ | apply Pick.tail))))))); (focus (repeat (first | exact AllE.nil _ | (apply AllE.cons; (focus (first | exact ent_nilBy | exact ent_nilSl | (apply Ent.mem; repeat' (first | exact mcs | apply mct)))))))))
          · obtain rfl : E = 12 := by rw [hEq]; unfold decE; rw [if_neg c1, if_pos (.inr (.inr (show 128 ≤ ((tkV (ys, false) 2).getD 1 0).toNat by omega)))]
            repeat (first | refine n1 ?_ | refine n2 (fun b _ => ?_) | refine n3 (fun _ _ => ?_) | refine n4 ?_ | refine n5 ?_ | refine n6 (hk) ?_ | refine n6v (hk) ?_ | refine WL_nil ?_ | refine W_seq ?_ | refine W_region ?_ | refine n7 ?_ | refine n8 ?_ | refine W_block ?_ | refine W_skip ?_ | refine W_ret ?_ | refine W_exit ?_ | refine WQ_then ?_ | refine WQ_then_ret ?_ | refine WQ_then_exit ?_ | refine WQ_block_normal ?_ | refine WQ_block_ret ?_ | refine WQ_block_exit ?_ | refine n9 ?_)
            refine WL_runs rfl rfl rfl (R_and rfl rfl (u8_and3 _)) ?_
            repeat (first | refine n1 ?_ | refine n2 (fun b _ => ?_) | refine n3 (fun _ _ => ?_) | refine n4 ?_ | refine n5 ?_ | refine WL_nil ?_ | refine W_seq ?_ | refine W_region ?_ | refine n7 ?_ | refine n8 ?_ | refine W_block ?_ | refine W_skip ?_ | refine W_ret ?_ | refine W_exit ?_ | refine WQ_then ?_ | refine WQ_then_ret ?_ | refine WQ_then_exit ?_ | refine WQ_block_normal ?_ | refine WQ_block_ret ?_ | refine WQ_block_exit ?_ | refine n9 ?_)
            refine WL_runs rfl rfl rfl (R_and rfl rfl (u8_and128 _)) ?_
            repeat (first | refine n1 ?_ | refine n2 (fun b _ => ?_) | refine n3 (fun _ _ => ?_) | refine n4 ?_ | refine n5 ?_ | refine WL_nil ?_ | refine W_seq ?_ | refine W_region ?_ | refine n7 ?_ | refine n8 ?_ | refine W_block ?_ | refine W_skip ?_ | refine W_ret ?_ | refine W_exit ?_ | refine WQ_then ?_ | refine WQ_then_ret ?_ | refine WQ_then_exit ?_ | refine WQ_block_normal ?_ | refine WQ_block_ret ?_ | refine WQ_block_exit ?_ | refine n9 ?_)
            refine WQ_nilRow 5 1 ?_
            ((apply ret2 Tryd.results11 ( Value.slice none 0 0)); (focus (first | trivial | assumption | omega)); (focus (first | exact RV_tmp rfl | (apply RV_cellN; exact rfl; (repeat' (first | exact Pick.head _ _ | apply Pick.tail)); (intro _; exact rfl); (intro _; exact rfl); exact rfl) | (apply RV_cell1; exact rfl; (repeat' (first | exact Pick.head _ _ | apply Pick.tail)); (intro _; exact rfl); exact rfl))); (focus (first | exact RV_tmp rfl | (apply RV_cellN; exact rfl; (repeat' (first | exact Pick.head _ _ | apply Pick.tail)); (intro _; exact rfl); (intro _; exact rfl); exact rfl) | (apply RV_cell1; exact rfl; (repeat' (first | exact Pick.head _ _ | apply Pick.tail)); (intro _; exact rfl); exact rfl)));  (focus (first | exact rfl | (simp; done))); (focus (repeat (first | exact SubO.nil _ | (apply SubO.cons; (focus (repeat' (first | exact Pick.head _ _ | apply Pick.tail))))))); (focus (repeat (first | exact AllE.nil _ | (apply AllE.cons; (focus (first | exact ent_nilBy | exact ent_nilSl | (apply Ent.mem; repeat' (first | exact mcs | apply mct)))))))))
        · obtain rfl : E = 12 := by rw [hEq]; unfold decE; rw [if_neg c1, if_pos (.inr (.inl c2))]
          repeat (first | refine n1 ?_ | refine n2 (fun b _ => ?_) | refine n3 (fun _ _ => ?_) | refine n4 ?_ | refine n5 ?_ | refine n6 (hk) ?_ | refine n6v (hk) ?_ | refine WL_nil ?_ | refine W_seq ?_ | refine W_region ?_ | refine n7 ?_ | refine n8 ?_ | refine W_block ?_ | refine W_skip ?_ | refine W_ret ?_ | refine W_exit ?_ | refine WQ_then ?_ | refine WQ_then_ret ?_ | refine WQ_then_exit ?_ | refine WQ_block_normal ?_ | refine WQ_block_ret ?_ | refine WQ_block_exit ?_ | refine n9 ?_)
          refine WL_runs rfl rfl rfl (R_and rfl rfl (u8_and3 _)) ?_
          repeat (first | refine n1 ?_ | refine n2 (fun b _ => ?_) | refine n3 (fun _ _ => ?_) | refine n4 ?_ | refine n5 ?_ | refine WL_nil ?_ | refine W_seq ?_ | refine W_region ?_ | refine n7 ?_ | refine n8 ?_ | refine W_block ?_ | refine W_skip ?_ | refine W_ret ?_ | refine W_exit ?_ | refine WQ_then ?_ | refine WQ_then_ret ?_ | refine WQ_then_exit ?_ | refine WQ_block_normal ?_ | refine WQ_block_ret ?_ | refine WQ_block_exit ?_ | refine n9 ?_)
          refine WQ_nilRow 5 1 ?_
          ((apply ret2 Tryd.results11 ( Value.slice none 0 0)); (focus (first | trivial | assumption | omega)); (focus (first | exact RV_tmp rfl | (apply RV_cellN; exact rfl; (repeat' (first | exact Pick.head _ _ | apply Pick.tail)); (intro _; exact rfl); (intro _; exact rfl); exact rfl) | (apply RV_cell1; exact rfl; (repeat' (first | exact Pick.head _ _ | apply Pick.tail)); (intro _; exact rfl); exact rfl))); (focus (first | exact RV_tmp rfl | (apply RV_cellN; exact rfl; (repeat' (first | exact Pick.head _ _ | apply Pick.tail)); (intro _; exact rfl); (intro _; exact rfl); exact rfl) | (apply RV_cell1; exact rfl; (repeat' (first | exact Pick.head _ _ | apply Pick.tail)); (intro _; exact rfl); exact rfl)));  (focus (first | exact rfl | (simp; done))); (focus (repeat (first | exact SubO.nil _ | (apply SubO.cons; (focus (repeat' (first | exact Pick.head _ _ | apply Pick.tail))))))); (focus (repeat (first | exact AllE.nil _ | (apply AllE.cons; (focus (first | exact ent_nilBy | exact ent_nilSl | (apply Ent.mem; repeat' (first | exact mcs | apply mct)))))))))
  · rw [if_neg c0] at hEq
    rw [hEq, if_neg c0, if_neg c0]
    generalize C03.vE C03.P32 C03.cb32 4 xs = e at *
    refine Ct_intro Tryd.func11 rfl Tryd.ntmps11 (by simp) _ rfl (fun w0 O0 => ?_)
    repeat (first | refine n1 ?_ | refine n2 (fun b _ => ?_) | refine n3 (fun _ _ => ?_) | refine n4 ?_ | refine n5 ?_ | refine WL_nil ?_ | refine W_seq ?_ | refine W_region ?_ | refine n7 ?_ | refine n8 ?_ | refine W_block ?_ | refine W_skip ?_ | refine W_ret ?_ | refine W_exit ?_ | refine WQ_then ?_ | refine WQ_then_ret ?_ | refine WQ_then_exit ?_ | refine WQ_block_normal ?_ | refine WQ_block_ret ?_ | refine WQ_block_exit ?_ | refine n9 ?_)
    (apply WL_effs; exact rfl; exact rfl; exact rfl; apply E_call; exact rfl; (intro _ _; simp); exact hv; (repeat (first | exact AllE.nil _ | (apply AllE.cons; (focus (first | exact ent_nilBy | exact ent_nilSl | (apply Ent.mem; repeat' (first | exact mcs | apply mct))))))); (intro _; exact rfl); (intro _; exact rfl))
    intro z _
    repeat (first | refine n1 ?_ | refine n2 (fun b _ => ?_) | refine n3 (fun _ _ => ?_) | refine n4 ?_ | refine n5 ?_ | refine WL_nil ?_ | refine W_seq ?_ | refine W_region ?_ | refine n7 ?_ | refine n8 ?_ | refine W_block ?_ | refine W_skip ?_ | refine W_ret ?_ | refine W_exit ?_ | refine WQ_then ?_ | refine WQ_then_ret ?_ | refine WQ_then_exit ?_ | refine WQ_block_normal ?_ | refine WQ_block_ret ?_ | refine WQ_block_exit ?_ | refine n9 ?_)
    refine WQ_nilRow 5 1 ?_
    ((apply ret2 Tryd.results11 ( Value.slice none 0 0)); (focus (first | trivial | assumption | omega)); (focus (first | exact RV_tmp rfl | (apply RV_cellN; exact rfl; (repeat' (first | exact Pick.head _ _ | apply Pick.tail)); (intro _; exact rfl); (intro _; exact rfl); exact rfl) | (apply RV_cell1; exact rfl; (repeat' (first | exact Pick.head _ _ | apply Pick.tail)); (intro _; exact rfl); exact rfl))); (focus (first | exact RV_tmp rfl | (apply RV_cellN; exact rfl; (repeat' (first | exact Pick.head _ _ | apply Pick.tail)); (intro _; exact rfl); (intro _; exact rfl); exact rfl) | (apply RV_cell1; exact rfl; (repeat' (first | exact Pick.head _ _ | apply Pick.tail)); (intro _; exact rfl); exact rfl)));  (focus (first | exact rfl | (simp; done))); (focus (repeat (first | exact SubO.nil _ | (apply SubO.cons; (focus (repeat' (first | exact Pick.head _ _ | apply Pick.tail))))))); (focus (repeat (first | exact AllE.nil _ | (apply AllE.cons; (focus (first | exact ent_nilBy | exact ent_nilSl | (apply Ent.mem; repeat' (first | exact mcs | apply mct)))))))))
theorem decode_fn (dv : Value) (xs : List UInt8) (hx : xs.length ≤ 1000000) (ys : List UInt8) (hys : ys = C03.vB C03.P32 C03.cb32 4 xs) (E : Int) (hEq : E = if C03.vE C03.P32 C03.cb32 4 xs = 0 then decE ys else C03.vE C03.P32 C03.cb32 4 xs) :
    Ct Tryd.prog 11 [dv] [] [By dv xs]
    (X := Value) (fun _ => True) (fun x => .tuple #[(⟨if E = 0 then hF ys else h0_, x, if E = 0 then (s6 ys).1 else []⟩ : Fm).val, .int .i64 E]) (fun _ => []) (fun x => [By x (if E = 0 then (s6 ys).1 else [])]) :=
  Ct.letB (decode_fnR dv xs hx ys hys E hEq) (fun _ => rfl)
end Go.Proofs.YteojehocflbgdaaDoor.C05

/-
  The cursor's parts as offsets: plain law. (not built yet)
-/
namespace Go.Proofs.YteojehocflbgdaaDoor.C05
open Go Go.RowKit Go.Hs
theorem tkC_ok {c : Cu} {n : Nat} (h : n ≤ c.1.length) : tkC c n = (c.1.drop n, c.2) := by unfold tkC; rw [if_pos h]
theorem tkC_bad {c : Cu} {n : Nat} (h : ¬ n ≤ c.1.length) : tkC c n = ([], true) := by unfold tkC; rw [if_neg h]
theorem tkV_ok {c : Cu} {n : Nat} (h : n ≤ c.1.length) : tkV c n = c.1.take n := by unfold tkV; rw [if_pos h]
/-- the cursor at a place: what is left, or short. -/
def at_ (ys : List UInt8) (k : Nat) : Cu := if k ≤ ys.length then (ys.drop k, false) else ([], true)
theorem at_step (ys : List UInt8) (k n : Nat) (hn : 0 < n) : tkC (at_ ys k) n = at_ ys (k + n) := by
  unfold at_
  by_cases h : k ≤ ys.length
  · rw [if_pos h]
    by_cases h2 : k + n ≤ ys.length
    · rw [if_pos h2, tkC_ok (by show n ≤ (ys.drop k).length; rw [List.length_drop]; omega), List.drop_drop]
    · rw [if_neg h2, tkC_bad (by show ¬ n ≤ (ys.drop k).length; rw [List.length_drop]; omega)]
  · rw [if_neg h, if_neg (by omega), tkC_bad (by show ¬ n ≤ 0; omega)]
theorem at_adC (ys : List UInt8) (k : Nat) : ∀ n, adC (at_ ys k) n = at_ ys (k + 6 * n)
  | 0 => rfl
  | n + 1 => by
    show tkC (adC (at_ ys k) n) 6 = _
    rw [at_adC ys k n, at_step ys _ 6 (by decide)]
    congr 1
theorem s1_at (ys : List UInt8) : s1 ys = at_ ys 2 := by
  have h0 : (ys, false) = at_ ys 0 := by unfold at_; rw [if_pos (Nat.zero_le _)]; rfl
  show tkC (ys, false) 2 = _
  rw [h0, at_step _ _ _ (by decide)]
theorem s2_at (ys : List UInt8) : s2 ys = at_ ys 4 := by show tkC (s1 ys) 2 = _; rw [s1_at, at_step _ _ _ (by decide)]
theorem s3_at (ys : List UInt8) : s3 ys = at_ ys (4 + 6 * befN (hA ys)) := by show adC (s2 ys) _ = _; rw [s2_at, at_adC]
theorem stS_at (p : Bool) (ys : List UInt8) (k : Nat) : stS p (at_ ys k) = at_ ys (k + bN p 2) := by
  cases p
  · rfl
  · exact at_step ys k 2 (by decide)
theorem ftS_at (p : Bool) (ys : List UInt8) (k : Nat) : ftS p (at_ ys k) = at_ ys (k + bN p 6) := by
  cases p
  · rfl
  · exact at_step ys k 6 (by decide)
theorem s4_at (ys : List UInt8) : s4 ys = at_ ys (4 + 6 * befN (hA ys) + bN (prtB (hA ys).kind) 2) := by show stS _ (s3 ys) = _; rw [s3_at, stS_at]
theorem s5_at (ys : List UInt8) : s5 ys = at_ ys (4 + 6 * befN (hA ys) + bN (prtB (hA ys).kind) 2 + bN (fourB (hA ys)) 6) := by show ftS _ (s4 ys) = _; rw [s4_at, ftS_at]
/-- the cursor behind the header stands at the header's size. -/
theorem s6_at (ys : List UInt8) : s6 ys = at_ ys (hdS (hA ys)) := by show stS (trB ys) (s5 ys) = _; rw [s5_at, stS_at]; rfl
theorem at_val (ys : List UInt8) (k n : Nat) (h : k + n ≤ ys.length) : tkV (at_ ys k) n = (ys.drop k).take n := by
  unfold at_
  rw [if_pos (by omega), tkV_ok (by show n ≤ (ys.drop k).length; rw [List.length_drop]; omega)]
end Go.Proofs.YteojehocflbgdaaDoor.C05

/-
  What the cursor's parts are, by places: plain law.
-/
namespace Go.Proofs.YteojehocflbgdaaDoor.C05
open Go Go.RowKit Go.Hs
def tw (ys : List UInt8) (k : Nat) : Nat := (ys.getD k 0).toNat + 256 * (ys.getD (k + 1) 0).toNat
def aAt (ys : List UInt8) (k : Nat) : A6 := ⟨ys.getD k 0, ys.getD (k + 1) 0, ys.getD (k + 2) 0, ys.getD (k + 3) 0, ys.getD (k + 4) 0, ys.getD (k + 5) 0⟩
theorem getD_dt (ys : List UInt8) (k n i : Nat) (h : i < n) : ((ys.drop k).take n).getD i 0 = ys.getD (k + i) 0 := by
  rw [List.getD_eq_getElem?_getD, List.getD_eq_getElem?_getD, List.getElem?_take_of_lt h, List.getElem?_drop]
theorem c2N_at (ys : List UInt8) (k : Nat) (h : k + 2 ≤ ys.length) : c2N (tkV (at_ ys k) 2) = tw ys k := by
  rw [at_val _ _ _ h]
  unfold c2N tw
  rw [getD_dt _ _ _ _ (by decide), getD_dt _ _ _ _ (by decide)]
  rfl
theorem a6v_at (ys : List UInt8) (k : Nat) (h : k + 6 ≤ ys.length) : a6v (tkV (at_ ys k) 6) = aAt ys k := by
  rw [at_val _ _ _ h]
  unfold a6v aAt
  rw [getD_dt _ _ _ _ (by decide), getD_dt _ _ _ _ (by decide), getD_dt _ _ _ _ (by decide), getD_dt _ _ _ _ (by decide), getD_dt _ _ _ _ (by decide), getD_dt _ _ _ _ (by decide)]
  rfl
theorem dB_at (ys : List UInt8) (i : Nat) (hi : i < 2) (h : 2 ≤ ys.length) : dB ys i = ys.getD i 0 := by
  unfold dB
  rw [show (ys, false) = at_ ys 0 by unfold at_; rw [if_pos (Nat.zero_le _)]; rfl, at_val _ _ _ (by omega), getD_dt _ _ _ _ hi, Nat.zero_add]
/-- the header that stands at the front of a list. -/
def hG (ys : List UInt8) (a : Hd) : Hd :=
  { a with
    dur := (tw ys 2 : Int)
    a1 := aAt ys 4
    a2 := bif !ctsB a then aAt ys 10 else a.a2
    a3 := bif !ctlB a then aAt ys 16 else a.a3
    a4 := bif fourB a then aAt ys 24 else a.a4
    seq := bif prtB a.kind then ((tw ys 22 / 16 : Nat) : Int) else a.seq
    frag := bif prtB a.kind then ((tw ys 22 % 16 : Nat) : Int) else a.frag
    tid := bif trafB a.kind a.sub then ((tw ys (hdS a - 2) % 8 : Nat) : Int) else a.tid
    eosp := bif trafB a.kind a.sub then flq (tw ys (hdS a - 2)) 4 else a.eosp
    ack := bif trafB a.kind a.sub then UInt8.ofNat (tw ys (hdS a - 2) / 32 % 4) else a.ack
    amsdu := bif trafB a.kind a.sub then flq (tw ys (hdS a - 2)) 7 else a.amsdu }
theorem kn_kind {k s : UInt8} (h : knB k s = true) : k.toNat = 0 ∨ k.toNat = 1 ∨ k.toNat = 2 := by
  unfold knB at h
  by_cases h0 : k.toNat = 0
  · exact .inl h0
  · rw [if_neg h0] at h
    by_cases h1 : k.toNat = 1
    · exact .inr (.inl h1)
    · rw [if_neg h1] at h
      by_cases h2 : k.toNat = 2
      · exact .inr (.inr h2)
      · rw [if_neg h2] at h; cases h
theorem hF_at (ys : List UInt8) (hk : knB (hA ys).kind (hA ys).sub = true) (hn : hdS (hA ys) ≤ ys.length) : hF ys = hG ys (hA ys) ∧ oddB ys = (trB ys && oddV (tw ys (hdS (hA ys) - 2))) := by
  have e1 : tkV (s1 ys) 2 = tkV (at_ ys 2) 2 := by rw [s1_at]
  have hB_ : hB ys = setD (hA ys) (c2N (tkV (at_ ys 2) 2)) := by unfold hB; rw [s1_at]
  have hC_ : hC ys = adH (at_ ys 4) (hB ys) (befN (hA ys)) := by unfold hC; rw [s2_at]
  have hD_ : hD ys = stH (prtB (hA ys).kind) (at_ ys (4 + 6 * befN (hA ys))) (hC ys) := by unfold hD; rw [s3_at]
  have hE_ : hE ys = ftH (fourB (hA ys)) (at_ ys (4 + 6 * befN (hA ys) + bN (prtB (hA ys).kind) 2)) (hD ys) := by unfold hE; rw [s4_at]
  have hF_ : hF ys = qtH (trB ys) (at_ ys (hdS (hA ys) - 2)) (hE ys) ∧ oddB ys = oddP (trB ys) (at_ ys (hdS (hA ys) - 2)) := by
    unfold hF oddB
    rw [s5_at]
    have : trB ys = trafB (hA ys).kind (hA ys).sub := rfl
    cases ht : trB ys
    · exact ⟨rfl, rfl⟩
    · rw [show 4 + 6 * befN (hA ys) + bN (prtB (hA ys).kind) 2 + bN (fourB (hA ys)) 6 = hdS (hA ys) - 2 by unfold hdS; rw [← this, ht]; rfl]
      exact ⟨rfl, rfl⟩
  have hS : hdS (hA ys) = 4 + 6 * befN (hA ys) + bN (prtB (hA ys).kind) 2 + bN (fourB (hA ys)) 6 + bN (trB ys) 2 := rfl
  rw [hF_.1, hF_.2, hE_, hD_, hC_, hB_]
  have hkk := kn_kind hk
  have h3 : (ctsB (hA ys) = true ∧ ctlB (hA ys) = true ∧ befN (hA ys) = 1 ∧ prtB (hA ys).kind = false ∧ fourB (hA ys) = false ∧ trB ys = false) ∨
    (ctsB (hA ys) = false ∧ ctlB (hA ys) = true ∧ befN (hA ys) = 2 ∧ prtB (hA ys).kind = false ∧ fourB (hA ys) = false ∧ trB ys = false) ∨
    (ctsB (hA ys) = false ∧ ctlB (hA ys) = false ∧ befN (hA ys) = 3 ∧ prtB (hA ys).kind = true) := by
    unfold befN ctsB ctlB prtB fourB trB trafB
    rcases hkk with k | k | k
    · refine .inr (.inr ?_); rw [k]; exact ⟨rfl, rfl, rfl, rfl⟩
    · rw [k]
      by_cases d : (hA ys).sub.toNat = 12 ∨ (hA ys).sub.toNat = 13
      · refine .inl ?_
        rw [decide_eq_true (show 1 = 1 ∧ ((hA ys).sub.toNat = 12 ∨ (hA ys).sub.toNat = 13) from ⟨rfl, d⟩)]
        exact ⟨rfl, rfl, rfl, rfl, rfl, rfl⟩
      · refine .inr (.inl ?_)
        rw [decide_eq_false (show ¬ (1 = 1 ∧ ((hA ys).sub.toNat = 12 ∨ (hA ys).sub.toNat = 13)) from fun h => d h.2)]
        exact ⟨rfl, rfl, rfl, rfl, rfl, rfl⟩
    · refine .inr (.inr ?_); rw [k]; exact ⟨rfl, rfl, rfl, rfl⟩
  have ht : trafB (hA ys).kind (hA ys).sub = trB ys := rfl
  rcases h3 with ⟨x1, x2, x3, x4, x5, x6⟩ | ⟨x1, x2, x3, x4, x5, x6⟩ | ⟨x1, x2, x3, x4⟩
  · rw [x3, x4, x5, x6] at hS
    unfold hG
    rw [ht, x1, x2, x3, x4, x5, x6]
    have l : 10 ≤ ys.length := Nat.le_trans (Nat.le_of_eq hS.symm) hn
    refine ⟨?_, rfl⟩
    show setA (setD (hA ys) (c2N (tkV (at_ ys 2) 2))) 0 (a6v (tkV (at_ ys 4) 6)) = _
    rw [c2N_at _ _ (by omega), a6v_at _ _ (by omega)]
    rfl
  · rw [x3, x4, x5, x6] at hS
    unfold hG
    rw [ht, x1, x2, x3, x4, x5, x6]
    have l : 16 ≤ ys.length := Nat.le_trans (Nat.le_of_eq hS.symm) hn
    refine ⟨?_, rfl⟩
    show setA (setA (setD (hA ys) (c2N (tkV (at_ ys 2) 2))) 0 (a6v (tkV (at_ ys 4) 6))) 1 (a6v (tkV (tkC (at_ ys 4) 6) 6)) = _
    rw [at_step _ _ _ (by decide), c2N_at _ _ (by omega), a6v_at _ _ (by omega), a6v_at _ _ (by omega)]
    rfl
  · rw [x3, x4] at hS
    unfold hG
    rw [ht, x1, x2, x3, x4]
    have l : 24 ≤ ys.length := by
      refine Nat.le_trans ?_ hn
      rw [hS]
      show 24 ≤ 4 + 6 * 3 + 2 + _ + _
      omega
    have key : adH (at_ ys 4) (setD (hA ys) (c2N (tkV (at_ ys 2) 2))) 3 = setA (setA (setA (setD (hA ys) (tw ys 2)) 0 (aAt ys 4)) 1 (aAt ys 10)) 2 (aAt ys 16) := by
      show setA (setA (setA (setD (hA ys) (c2N (tkV (at_ ys 2) 2))) 0 (a6v (tkV (at_ ys 4) 6))) 1 (a6v (tkV (tkC (at_ ys 4) 6) 6))) 2 (a6v (tkV (tkC (tkC (at_ ys 4) 6) 6) 6)) = _
      rw [at_step _ _ _ (by decide), at_step _ _ _ (by decide), c2N_at _ _ (by omega), a6v_at _ _ (by omega), a6v_at _ _ (by omega), a6v_at _ _ (by omega)]
    rw [key]
    have hq : stH true (at_ ys (4 + 6 * 3)) (setA (setA (setA (setD (hA ys) (tw ys 2)) 0 (aAt ys 4)) 1 (aAt ys 10)) 2 (aAt ys 16)) = setS (setA (setA (setA (setD (hA ys) (tw ys 2)) 0 (aAt ys 4)) 1 (aAt ys 10)) 2 (aAt ys 16)) (tw ys 22) := by
      show setS _ (c2N (tkV (at_ ys 22) 2)) = _
      rw [c2N_at _ _ (by omega)]
    rw [hq]
    have hv : trB ys = true → c2N (tkV (at_ ys (hdS (hA ys) - 2)) 2) = tw ys (hdS (hA ys) - 2) := fun _ => c2N_at _ _ (by omega)
    have hu : fourB (hA ys) = true → a6v (tkV (at_ ys (4 + 6 * 3 + bN true 2)) 6) = aAt ys 24 := fun h => by
      show a6v (tkV (at_ ys 24) 6) = _
      refine a6v_at _ _ ?_
      refine Nat.le_trans ?_ hn
      rw [hS, h]
      show 30 ≤ 4 + 6 * 3 + 2 + 6 + _
      omega
    generalize hdS (hA ys) = n at *
    cases xf : fourB (hA ys) <;> cases xt : trB ys
    · exact ⟨rfl, rfl⟩
    · refine ⟨?_, ?_⟩
      · show setQ _ (c2N (tkV (at_ ys (n - 2)) 2)) = _
        rw [hv xt]; rfl
      · show oddV (c2N (tkV (at_ ys (n - 2)) 2)) = _
        rw [hv xt]; rfl
    · refine ⟨?_, rfl⟩
      show setA _ 3 (a6v (tkV (at_ ys (4 + 6 * 3 + bN true 2)) 6)) = _
      rw [hu xf]; rfl
    · refine ⟨?_, ?_⟩
      · show setQ (setA _ 3 (a6v (tkV (at_ ys (4 + 6 * 3 + bN true 2)) 6))) (c2N (tkV (at_ ys (n - 2)) 2)) = _
        rw [hv xt, hu xf]; rfl
      · show oddV (c2N (tkV (at_ ys (n - 2)) 2)) = _
        rw [hv xt]; rfl
end Go.Proofs.YteojehocflbgdaaDoor.C05

/-
  Headers and their bytes: plain law, both ways.
-/
namespace Go.Proofs.YteojehocflbgdaaDoor.C05
open Go Go.RowKit Go.Hs
def flS (a b c d e f g : Bool) : Nat := 0 + bN a 1 + bN b 2 + bN c 4 + bN d 8 + bN e 16 + bN f 32 + bN g 64
/-- which of the six forms a header has. -/
theorem forms {h : Hd} (hk : knB h.kind h.sub = true) :
    (ctsB h = true ∧ ctlB h = true ∧ befN h = 1 ∧ prtB h.kind = false ∧ fourB h = false ∧ trafB h.kind h.sub = false) ∨
    (ctsB h = false ∧ ctlB h = true ∧ befN h = 2 ∧ prtB h.kind = false ∧ fourB h = false ∧ trafB h.kind h.sub = false) ∨
    (ctsB h = false ∧ ctlB h = false ∧ befN h = 3 ∧ prtB h.kind = true) := by
  have hkk := kn_kind hk
  unfold befN ctsB ctlB prtB fourB trafB
  rcases hkk with k | k | k
  · refine .inr (.inr ?_); rw [k]; exact ⟨rfl, rfl, rfl, rfl⟩
  · rw [k]
    by_cases d : h.sub.toNat = 12 ∨ h.sub.toNat = 13
    · refine .inl ?_
      rw [decide_eq_true (show 1 = 1 ∧ (h.sub.toNat = 12 ∨ h.sub.toNat = 13) from ⟨rfl, d⟩)]
      exact ⟨rfl, rfl, rfl, rfl, rfl, rfl⟩
    · refine .inr (.inl ?_)
      rw [decide_eq_false (show ¬ (1 = 1 ∧ (h.sub.toNat = 12 ∨ h.sub.toNat = 13)) from fun h => d h.2)]
      exact ⟨rfl, rfl, rfl, rfl, rfl, rfl⟩
  · refine .inr (.inr ?_); rw [k]; exact ⟨rfl, rfl, rfl, rfl⟩
theorem adr1 (h : Hd) : adrB h 1 = h.a1.bytes := by rw [adrB_next]; rfl
theorem adr2 (h : Hd) : adrB h 2 = h.a1.bytes ++ h.a2.bytes := by rw [adrB_next, adr1]; rfl
theorem adr3_ (h : Hd) : adrB h 3 = h.a1.bytes ++ h.a2.bytes ++ h.a3.bytes := by rw [adrB_next, adr2]; rfl
end Go.Proofs.YteojehocflbgdaaDoor.C05

/-
  A valid header's bytes are read back: plain law.
-/
namespace Go.Proofs.YteojehocflbgdaaDoor.C05
open Go Go.RowKit Go.Hs
def baseH (h : Hd) : Hd := { h with dur := 0, a1 := zA6, a2 := zA6, a3 := zA6, a4 := zA6, seq := 0, frag := 0, tid := 0, ack := 0, amsdu := false, eosp := false }
theorem tw_le {n : Nat} (h : n < 65536) : (UInt8.ofNat n).toNat + 256 * (UInt8.ofNat (n / 256)).toNat = n := by
  rw [UInt8.toNat_ofNat', UInt8.toNat_ofNat']
  omega
theorem hd_prts {h : Hd} (hv : hdB h = true) : knB h.kind h.sub = true ∧ restH h = h0_ ∧ rngB h = true ∧ gpsB h = true ∧ badB h = false := by
  unfold hdB at hv
  rw [Bool.and_eq_true, Bool.and_eq_true, Bool.and_eq_true, Bool.and_eq_true, decide_eq_true_iff, Bool.not_eq_true'] at hv
  exact ⟨hv.1, hv.2.1, hv.2.2.1, hv.2.2.2.1, hv.2.2.2.2⟩
theorem hd_unused {h : Hd} (hv : hdB h = true) : (ctsB h = true → h.a2 = zA6) ∧ (ctlB h = true → h.a3 = zA6) ∧ (fourB h = false → h.a4 = zA6) ∧ (prtB h.kind = false → h.seq = 0 ∧ h.frag = 0) ∧ (trafB h.kind h.sub = false → h.tid = 0 ∧ h.ack = 0 ∧ h.amsdu = false ∧ h.eosp = false) := by
  obtain ⟨hk, hr, -, -, -⟩ := hd_prts hv
  have hu : h = usedH h := (used_iff hk).2 hr
  have ht := traf_eq hk
  have hc : ctlN h = prtB h.kind := by unfold ctlN; rw [ctl_prt hk, Bool.not_not]
  unfold usedH usedC at hu
  rw [ht, hc] at hu
  refine ⟨fun c => ?_, fun c => ?_, fun c => ?_, fun c => ?_, fun c => ?_⟩
  · have e := congrArg Hd.a2 hu
    dsimp only at e
    have hf : fourB h = false := by
      unfold fourB; unfold ctsB at c; rw [decide_eq_true_iff] at c; rw [c.1]; rfl
    have : adN h = 1 := by unfold adN befN; rw [hf, c]; rfl
    rw [this] at e
    exact e
  · have e := congrArg Hd.a3 hu
    dsimp only at e
    have hf : fourB h = false := by
      unfold fourB; unfold ctlB at c; rw [decide_eq_true_iff] at c; rw [c]; rfl
    have : adN h ≤ 2 := by
      unfold adN befN; rw [hf, c]
      show (if ctsB h = true then 1 else 2) ≤ 2
      split <;> omega
    rw [decide_eq_false (by omega : ¬ 2 < adN h)] at e
    exact e
  · have e := congrArg Hd.a4 hu
    dsimp only at e
    have : adN h ≤ 3 := by
      unfold adN befN; rw [c]
      show (if ctsB h = true then 1 else if ctlB h = true then 2 else 3) ≤ 3
      split
      · omega
      · split <;> omega
    rw [decide_eq_false (by omega : ¬ 3 < adN h)] at e
    exact e
  · have e := congrArg Hd.seq hu
    have e2 := congrArg Hd.frag hu
    dsimp only at e e2
    rw [c] at e e2
    exact ⟨e, e2⟩
  · have e := congrArg Hd.tid hu
    have e2 := congrArg Hd.ack hu
    have e3 := congrArg Hd.amsdu hu
    have e4 := congrArg Hd.eosp hu
    dsimp only at e e2 e3 e4
    rw [c] at e e2 e3 e4
    exact ⟨e, e2, e3, e4⟩
theorem kn_le {k s : UInt8} (h : knB k s = true) : k.toNat ≤ 2 ∧ s.toNat ≤ 15 := by
  refine ⟨by have := kn_kind h; omega, ?_⟩
  unfold knB at h
  split at h
  · rw [decide_eq_true_iff] at h; omega
  · split at h
    · rw [decide_eq_true_iff] at h; omega
    · split at h
      · rw [decide_eq_true_iff] at h; omega
      · cases h
theorem first_fwd (k s : UInt8) (hk : k.toNat ≤ 2) (hs : s.toNat ≤ 15) : UInt8.ofNat ((UInt8.ofNat (4 * k.toNat + 16 * s.toNat)).toNat / 4 % 4) = k ∧ UInt8.ofNat ((UInt8.ofNat (4 * k.toNat + 16 * s.toNat)).toNat / 16) = s ∧ (UInt8.ofNat (4 * k.toNat + 16 * s.toNat)).toNat % 4 = 0 := by
  have hh : ∀ k : Fin 3, ∀ s : Fin 16, UInt8.ofNat ((UInt8.ofNat (4 * k.val + 16 * s.val)).toNat / 4 % 4) = UInt8.ofNat k.val ∧ UInt8.ofNat ((UInt8.ofNat (4 * k.val + 16 * s.val)).toNat / 16) = UInt8.ofNat s.val ∧ (UInt8.ofNat (4 * k.val + 16 * s.val)).toNat % 4 = 0 := by decide +kernel
  have := hh ⟨k.toNat, by omega⟩ ⟨s.toNat, by omega⟩
  simp only [UInt8.ofNat_toNat] at this
  exact this
theorem flags_fwd : ∀ a b c d e f g : Bool, flg (UInt8.ofNat (flS a b c d e f g)) 0 = a ∧ flg (UInt8.ofNat (flS a b c d e f g)) 1 = b ∧ flg (UInt8.ofNat (flS a b c d e f g)) 2 = c ∧ flg (UInt8.ofNat (flS a b c d e f g)) 3 = d ∧ flg (UInt8.ofNat (flS a b c d e f g)) 4 = e ∧ flg (UInt8.ofNat (flS a b c d e f g)) 5 = f ∧ flg (UInt8.ofNat (flS a b c d e f g)) 6 = g ∧ (UInt8.ofNat (flS a b c d e f g)).toNat < 128 := by decide +kernel
theorem qos_fwd : ∀ t : Fin 8, ∀ e : Bool, ∀ k : Fin 3, ∀ m : Bool, (t.val + bN e 16 + 32 * k.val + bN m 128) % 8 = t.val ∧ flq (t.val + bN e 16 + 32 * k.val + bN m 128) 4 = e ∧ (t.val + bN e 16 + 32 * k.val + bN m 128) / 32 % 4 = k.val ∧ flq (t.val + bN e 16 + 32 * k.val + bN m 128) 7 = m ∧ oddV (t.val + bN e 16 + 32 * k.val + bN m 128) = false ∧ t.val + bN e 16 + 32 * k.val + bN m 128 < 65536 := by decide +kernel
theorem qN_fwd (h : Hd) (h0 : 0 ≤ h.tid) (h1 : h.tid ≤ 7) (h2 : h.ack.toNat ≤ 2) : ((qN h % 8 : Nat) : Int) = h.tid ∧ flq (qN h) 4 = h.eosp ∧ UInt8.ofNat (qN h / 32 % 4) = h.ack ∧ flq (qN h) 7 = h.amsdu ∧ oddV (qN h) = false ∧ qN h < 65536 := by
  obtain ⟨a, b, c, d, e, f⟩ := qos_fwd ⟨h.tid.toNat, by omega⟩ h.eosp ⟨h.ack.toNat, by omega⟩ h.amsdu
  dsimp only at a b c d e f
  unfold qN
  rw [a, b, c, d, e]
  exact ⟨by omega, rfl, UInt8.ofNat_toNat, rfl, rfl, f⟩
theorem hd_ext {a b : Hd} (e1 : a.kind = b.kind) (e2 : a.sub = b.sub) (e3 : a.toDs = b.toDs) (e4 : a.fromDs = b.fromDs) (e5 : a.more = b.more) (e6 : a.retry = b.retry) (e7 : a.sleep = b.sleep) (e8 : a.md = b.md) (e9 : a.prot = b.prot) (e10 : a.dur = b.dur) (e11 : a.a1 = b.a1) (e12 : a.a2 = b.a2) (e13 : a.a3 = b.a3) (e14 : a.a4 = b.a4) (e15 : a.seq = b.seq) (e16 : a.frag = b.frag) (e17 : a.tid = b.tid) (e18 : a.ack = b.ack) (e19 : a.amsdu = b.amsdu) (e20 : a.eosp = b.eosp) : a = b := by
  cases a; cases b
  dsimp only at *
  subst e1 e2 e3 e4 e5 e6 e7 e8 e9 e10 e11 e12 e13 e14 e15 e16 e17 e18 e19 e20
  rfl
theorem hA_back {h : Hd} (hv : hdB h = true) (body : List UInt8) : hA (hdY h ++ body) = baseH h ∧ (dB (hdY h ++ body) 0).toNat % 4 = 0 ∧ (dB (hdY h ++ body) 1).toNat < 128 := by
  obtain ⟨hk, -, -, -, -⟩ := hd_prts hv
  obtain ⟨k1, k2⟩ := kn_le hk
  obtain ⟨f1, f2, f3⟩ := first_fwd h.kind h.sub k1 k2
  have hl : 2 ≤ (hdY h ++ body).length := by rw [List.length_append, hdY_length]; unfold hdS; omega
  have d0 : dB (hdY h ++ body) 0 = UInt8.ofNat (4 * h.kind.toNat + 16 * h.sub.toNat) := by rw [dB_at _ _ (by decide) hl]; rfl
  have d1 : dB (hdY h ++ body) 1 = UInt8.ofNat (flS h.toDs h.fromDs h.more h.retry h.sleep h.md h.prot) := by rw [dB_at _ _ (by decide) hl]; rfl
  obtain ⟨g0, g1, g2, g3, g4, g5, g6, g7⟩ := flags_fwd h.toDs h.fromDs h.more h.retry h.sleep h.md h.prot
  refine ⟨?_, by rw [d0]; exact f3, by rw [d1]; exact g7⟩
  unfold hA
  rw [d0, d1]
  unfold hdA
  rw [f1, f2, g0, g1, g2, g3, g4, g5, g6]
  rfl
theorem base_S (h : Hd) : hdS (baseH h) = hdS h := rfl
set_option maxRecDepth 10000 in
theorem hF_back {h : Hd} (hv : hdB h = true) (body : List UInt8) : hF (hdY h ++ body) = h ∧ oddB (hdY h ++ body) = false ∧ s6 (hdY h ++ body) = (body, false) := by
  obtain ⟨hk, -, hg, -, -⟩ := hd_prts hv
  obtain ⟨u1, u2, u3, u4, u5⟩ := hd_unused hv
  obtain ⟨ha, -, -⟩ := hA_back hv body
  have hl : (hdY h ++ body).length = hdS h + body.length := by rw [List.length_append, hdY_length]
  have hs : s6 (hdY h ++ body) = (body, false) := by
    rw [s6_at, ha, base_S]
    unfold at_
    rw [if_pos (by omega), ← hdY_length, List.drop_left]
  obtain ⟨e1, e2⟩ := hF_at (hdY h ++ body) (by rw [ha]; exact hk) (by rw [ha, base_S]; omega)
  rw [e1, e2]
  have ht : trB (hdY h ++ body) = trafB h.kind h.sub := by unfold trB; rw [ha]; rfl
  rw [ht, ha, base_S]
  rw [rng_iff] at hg
  obtain ⟨r1, r2, r3, r4, r5, r6, r7, r8, r9⟩ := hg
  have x1 : ctsB (baseH h) = ctsB h := rfl
  have x2 : ctlB (baseH h) = ctlB h := rfl
  have x3 : (baseH h).kind = h.kind := rfl
  have x4 : fourB (baseH h) = fourB h := rfl
  have x5 : (baseH h).sub = h.sub := rfl
  have hdr : tw (hdY h ++ body) 2 = h.dur.toNat := by
    have e : frB h = [UInt8.ofNat (4 * h.kind.toNat + 16 * h.sub.toNat), UInt8.ofNat (flN h 7), UInt8.ofNat h.dur.toNat, UInt8.ofNat (h.dur.toNat / 256)] := by unfold frB; rw [leb2]; rfl
    unfold hdY
    rw [e]
    exact tw_le (n := h.dur.toNat) (by omega)
  have hdr' : ((tw (hdY h ++ body) 2 : Nat) : Int) = h.dur := by rw [hdr]; omega
  unfold hG
  rw [x1, x2, x3, x4, x5, hdr', base_S]
  have hS : hdS h = 4 + 6 * befN h + bN (prtB h.kind) 2 + bN (fourB h) 6 + bN (trafB h.kind h.sub) 2 := rfl
  have sqv : h.frag.toNat + 16 * h.seq.toNat < 65536 := by omega
  rcases forms hk with ⟨z1, z2, z3, z4, z5, z6⟩ | ⟨z1, z2, z3, z4, z5, z6⟩ | ⟨z1, z2, z3, z4⟩
  · have eY : hdY h = frB h ++ h.a1.bytes ++ [] ++ [] ++ [] := by unfold hdY sqB a4B qsB; rw [z3, z4, z5, z6, adr1]; rfl
    rw [z1, z2, z4, z5, z6]
    obtain ⟨v1, v2⟩ := u4 z4
    obtain ⟨w1, w2, w3, w4⟩ := u5 z6
    refine ⟨hd_ext rfl rfl rfl rfl rfl rfl rfl rfl rfl rfl ?_ (u1 z1).symm (u2 z2).symm (u3 z5).symm v1.symm v2.symm w1.symm w2.symm w3.symm w4.symm, rfl, hs⟩
    rw [eY]; rfl
  · have eY : hdY h = frB h ++ (h.a1.bytes ++ h.a2.bytes) ++ [] ++ [] ++ [] := by unfold hdY sqB a4B qsB; rw [z3, z4, z5, z6, adr2]; rfl
    rw [z1, z2, z4, z5, z6]
    obtain ⟨v1, v2⟩ := u4 z4
    obtain ⟨w1, w2, w3, w4⟩ := u5 z6
    refine ⟨hd_ext rfl rfl rfl rfl rfl rfl rfl rfl rfl rfl ?_ ?_ (u2 z2).symm (u3 z5).symm v1.symm v2.symm w1.symm w2.symm w3.symm w4.symm, rfl, hs⟩
    · rw [eY]; rfl
    · rw [eY]; rfl
  · obtain ⟨q1, q2, q3, q4, q5, q6⟩ := qN_fwd h r7 r8 r9
    rw [z3, z4] at hS
    rw [z1, z2, z4]
    have eYp : ∀ A B, h.a1 = aAt (frB h ++ (h.a1.bytes ++ h.a2.bytes ++ h.a3.bytes) ++ C01.leB 2 (h.frag.toNat + 16 * h.seq.toNat) ++ A ++ B ++ body) 4 ∧ h.a2 = aAt (frB h ++ (h.a1.bytes ++ h.a2.bytes ++ h.a3.bytes) ++ C01.leB 2 (h.frag.toNat + 16 * h.seq.toNat) ++ A ++ B ++ body) 10 ∧ h.a3 = aAt (frB h ++ (h.a1.bytes ++ h.a2.bytes ++ h.a3.bytes) ++ C01.leB 2 (h.frag.toNat + 16 * h.seq.toNat) ++ A ++ B ++ body) 16 ∧ tw (frB h ++ (h.a1.bytes ++ h.a2.bytes ++ h.a3.bytes) ++ C01.leB 2 (h.frag.toNat + 16 * h.seq.toNat) ++ A ++ B ++ body) 22 = h.frag.toNat + 16 * h.seq.toNat := by
      intro A B
      refine ⟨rfl, rfl, rfl, ?_⟩
      rw [leb2]
      exact tw_le sqv
    have eY : hdY h = frB h ++ (h.a1.bytes ++ h.a2.bytes ++ h.a3.bytes) ++ C01.leB 2 (h.frag.toNat + 16 * h.seq.toNat) ++ a4B h ++ qsB h := by unfold hdY sqB; rw [z3, z4, adr3_]; rfl
    obtain ⟨y1, y2, y3, y4⟩ := eYp (a4B h) (qsB h)
    rw [← eY] at y1 y2 y3 y4
    have sg1 : (((h.frag.toNat + 16 * h.seq.toNat) / 16 : Nat) : Int) = h.seq := by omega
    have sg2 : (((h.frag.toNat + 16 * h.seq.toNat) % 16 : Nat) : Int) = h.frag := by omega
    have y5 : fourB h = true → h.a4 = aAt (hdY h ++ body) 24 := fun c => by
      rw [eY, show a4B h = h.a4.bytes by unfold a4B; rw [c]; rfl]; rfl
    have y6 : trafB h.kind h.sub = true → tw (hdY h ++ body) (hdS h - 2) = qN h := fun c => by
      have : qsB h = C01.leB 2 (qN h) := by unfold qsB; rw [c]; rfl
      cases f5 : fourB h
      · rw [show hdS h = 26 by rw [hS, f5, c]; rfl, eY, this, show a4B h = [] by unfold a4B; rw [f5]; rfl]
        rw [leb2, leb2]
        exact tw_le q6
      · rw [show hdS h = 32 by rw [hS, f5, c]; rfl, eY, this, show a4B h = h.a4.bytes by unfold a4B; rw [f5]; rfl]
        rw [leb2, leb2]
        exact tw_le q6
    rw [y4, sg1, sg2]
    have z4' : (bif fourB h then aAt (hdY h ++ body) 24 else zA6) = h.a4 := by
      cases f5 : fourB h
      · exact (u3 f5).symm
      · exact (y5 f5).symm
    cases f6 : trafB h.kind h.sub
    · obtain ⟨w1, w2, w3, w4⟩ := u5 f6
      exact ⟨hd_ext rfl rfl rfl rfl rfl rfl rfl rfl rfl rfl y1.symm y2.symm y3.symm z4' rfl rfl w1.symm w2.symm w3.symm w4.symm, rfl, hs⟩
    · rw [y6 f6, q1, q2, q3, q4, q5]
      exact ⟨hd_ext rfl rfl rfl rfl rfl rfl rfl rfl rfl rfl y1.symm y2.symm y3.symm z4' rfl rfl rfl rfl rfl rfl, rfl, hs⟩
end Go.Proofs.YteojehocflbgdaaDoor.C05

/-
  The chapter's examples: 'ack', 'alive'.
-/
namespace Go.Proofs.YteojehocflbgdaaDoor.C05
open Go Go.RowKit Go.Hs
def ackH : Hd := ⟨1, 13, false, false, false, false, false, false, false, 44, ⟨2, 0, 0, 0, 0, 9⟩, zA6, zA6, zA6, 0, 0, 0, 0, false, false⟩
def ack10 : List UInt8 := [212, 0, 44, 0, 2, 0, 0, 0, 0, 9]
def ackY : List UInt8 := ack10 ++ C03.cb32 (C03.crc C03.P32 ack10)
attribute [local irreducible] WL W WQ PL Runs Effs AllE Ent SubO FrIn Pick OneC Ones CellsE PartsE SeqE UZ By Sl Pt Ct

end Go.Proofs.YteojehocflbgdaaDoor.C05

/-
  The laws 'CheckParts', 'CheckBack' and 'CheckNames' walked.
-/
namespace Go.Proofs.YteojehocflbgdaaDoor.C03
open Go Go.RowKit Go.Hs
attribute [local irreducible] WL W WQ PL Runs Effs AllE Ent SubO FrIn Pick OneC Ones CellsE PartsE SeqE UZ By Sl Pt Ct

end Go.Proofs.YteojehocflbgdaaDoor.C03

/-
  'Decode' of any bytes, and of encodings: plain law.
-/
namespace Go.Proofs.YteojehocflbgdaaDoor.C05
open Go Go.RowKit Go.Hs
def vrE (xs : List UInt8) : Int := C03.vE C03.P32 C03.cb32 4 xs
def vrB (xs : List UInt8) : List UInt8 := C03.vB C03.P32 C03.cb32 4 xs
def dcE (xs : List UInt8) : Int := if vrE xs = 0 then decE (vrB xs) else vrE xs
def dcH (xs : List UInt8) : Hd := if dcE xs = 0 then hF (vrB xs) else h0_
def dcY (xs : List UInt8) : List UInt8 := if dcE xs = 0 then (s6 (vrB xs)).1 else []
theorem dc_fn (dv : Value) (xs : List UInt8) (hx : xs.length ≤ 1000000) :
    Ct Tryd.prog 11 [dv] [] [By dv xs]
    (X := Value) (fun _ => True) (fun x => .tuple #[(⟨dcH xs, x, dcY xs⟩ : Fm).val, .int .i64 (dcE xs)]) (fun _ => []) (fun x => [By x (dcY xs)]) :=
  decode_fn dv xs hx (vrB xs) rfl (dcE xs) rfl
theorem vr_made (xs : List UInt8) : vrE (crcB xs) = 0 ∧ vrB (crcB xs) = xs := ⟨C03.made_e C03.good32 xs, C03.made_b C03.good32 xs⟩
/-- what is encoded is decoded. -/
theorem dc_enc {h : Hd} {body : List UInt8} (e : encE h body = 0) : dcE (encY h body) = 0 ∧ dcH (encY h body) = h ∧ dcY (encY h body) = body := by
  obtain ⟨k1, k2, k3⟩ := encE0 e
  obtain ⟨p1, p2, p3⟩ := hF_back k1 body
  obtain ⟨q1, q2, q3⟩ := hA_back k1 body
  have hY : encY h body = crcB (hdY h ++ body) := if_pos e
  obtain ⟨m1, m2⟩ := vr_made (hdY h ++ body)
  have hd : decE (hdY h ++ body) = 0 := by
    unfold decE
    have hl : 4 ≤ (hdY h ++ body).length := by rw [List.length_append, hdY_length]; unfold hdS; omega
    rw [if_neg (by omega), if_neg, p3, if_neg (show ¬ false = true from Bool.false_ne_true), if_neg, if_neg (by show ¬ 2304 < body.length; omega)]
    · unfold refB
      rw [p1, p2, p3, k1, k2]
      decide
    · rw [q1]
      rintro (c | c | c)
      · have : knB h.kind h.sub = true := (hd_prts k1).1
        rw [show knB (baseH h).kind (baseH h).sub = knB h.kind h.sub from rfl, this] at c
        cases c
      · exact c q2
      · omega
  have e0 : dcE (encY h body) = 0 := by unfold dcE; rw [hY, m1, if_pos rfl, m2, hd]
  refine ⟨e0, ?_, ?_⟩
  · unfold dcH; rw [if_pos e0, hY, m2, p1]
  · unfold dcY; rw [if_pos e0, hY, m2, p3]
end Go.Proofs.YteojehocflbgdaaDoor.C05

/-
  Joined forms and their scan: the mathematics.
-/
namespace Go.Proofs.YteojehocflbgdaaDoor.C01
end Go.Proofs.YteojehocflbgdaaDoor.C01
namespace Go.Proofs.YteojehocflbgdaaDoor.C03
end Go.Proofs.YteojehocflbgdaaDoor.C03
namespace Go.Proofs.YteojehocflbgdaaDoor.C08
open C01 C03
open Go Go.RowKit Go.Hs

def pad4 (n : Nat) : Nat := (4 - n % 4) % 4
theorem pad4_mod (n : Nat) : (n + pad4 n) % 4 = 0 := by unfold pad4; omega
theorem pad4_lt (n : Nat) : pad4 n < 4 := by unfold pad4; omega
theorem pad4_add {a n : Nat} (h : a % 4 = 0) : pad4 (a + n) = pad4 n := by unfold pad4; omega
def zer (n : Nat) : List UInt8 := List.replicate n 0
theorem zer_length (n : Nat) : (zer n).length = n := List.length_replicate ..

/-- entries, one behind the other, with zeros between them. -/
def jg : List (List UInt8) → List UInt8
  | [] => []
  | e :: r => e ++ (if r.isEmpty then [] else zer (pad4 e.length) ++ jg r)
theorem jg_one (e : List UInt8) : jg [e] = e := by simp [jg]
theorem jg_cons {e : List UInt8} {r : List (List UInt8)} (h : r ≠ []) : jg (e :: r) = e ++ (zer (pad4 e.length) ++ jg r) := by
  cases r with
  | nil => exact absurd rfl h
  | cons _ _ => rfl
theorem jg_snoc (e : List UInt8) : ∀ (es : List (List UInt8)), jg (es ++ [e]) = jg es ++ zer (pad4 (jg es).length) ++ e
  | [] => by simp [jg, zer, pad4]
  | x :: es => by
    rw [List.cons_append, jg_cons (by simp), jg_snoc e es]
    cases es with
    | nil => simp [jg, zer, pad4]
    | cons y ys =>
      rw [jg_cons (e := x) (r := y :: ys) (by simp)]
      have e1 : pad4 (x ++ (zer (pad4 x.length) ++ jg (y :: ys))).length = pad4 (jg (y :: ys)).length := by
        rw [List.length_append, List.length_append, zer_length, ← Nat.add_assoc]
        exact pad4_add (pad4_mod _)
      rw [e1]
      simp only [List.append_assoc]

/-- entries, each with its zeros behind it. -/
def pj : List (List UInt8) → List UInt8
  | [] => []
  | e :: r => e ++ (zer (pad4 e.length) ++ pj r)
theorem jg_split (e : List UInt8) (r : List (List UInt8)) : ∀ (a : List (List UInt8)), jg (a ++ e :: r) = pj a ++ jg (e :: r)
  | [] => rfl
  | x :: a => by
    rw [List.cons_append, jg_cons (by simp), jg_split e r a, pj]
    simp only [List.append_assoc]

/-- the check value of a byte string, as a byte. -/
def c8 (xs : List UInt8) : UInt8 := UInt8.ofNat (crc P8 xs).toNat
theorem c8_cell (xs : List UInt8) : Value.int .u8 ((crc P8 xs).toNat : Int) = bcell (c8 xs) := by
  have := (crc P8 xs).isLt
  unfold bcell c8
  rw [UInt8.toNat_ofNat', Nat.mod_eq_of_lt (by omega)]
def dl2 (n : Nat) : List UInt8 := [UInt8.ofNat n, UInt8.ofNat (n / 256)]
def dlm (n : Nat) : List UInt8 := [UInt8.ofNat n, UInt8.ofNat (n / 256), c8 (dl2 n), 78]
theorem dlm_length (n : Nat) : (dlm n).length = 4 := rfl
def entp (p : List UInt8) : List UInt8 := dlm p.length ++ p
theorem entp_length (p : List UInt8) : (entp p).length = 4 + p.length := by simp [entp, dlm_length]
theorem pad_entp (p : List UInt8) : pad4 (entp p).length = pad4 p.length := by rw [entp_length]; exact pad4_add (by decide)
def jn (l : List (List UInt8)) : List UInt8 := jg (l.map entp)

/-- the number that the first two bytes tell. -/
def num2 (b : List UInt8) : Nat := (b.getD 0 0).toNat + 256 * (b.getD 1 0).toNat
theorem num2_lt (b : List UInt8) : num2 b < 65536 := by
  have h1 := (b.getD 0 0).toNat_lt
  have h2 := (b.getD 1 0).toNat_lt
  unfold num2
  omega
theorem num2_dlm {n : Nat} (h : n < 65536) (r : List UInt8) : num2 (dlm n ++ r) = n := by
  simp only [num2, dlm, List.cons_append, List.getD_cons_zero, List.getD_cons_succ, UInt8.toNat_ofNat']
  omega
/-- a delimiter stands at the front, and its piece is there. -/
def hit (b : List UInt8) : Bool := decide (4 ≤ b.length) && decide (1 ≤ num2 b) && decide (num2 b ≤ 2400) && decide (b.take 4 = dlm (num2 b)) && decide (4 + num2 b ≤ b.length)
theorem hit_iff {b : List UInt8} : hit b = true ↔ 4 ≤ b.length ∧ 1 ≤ num2 b ∧ num2 b ≤ 2400 ∧ b.take 4 = dlm (num2 b) ∧ 4 + num2 b ≤ b.length := by
  simp only [hit, Bool.and_eq_true, decide_eq_true_eq]
  constructor
  · rintro ⟨⟨⟨⟨h1, h2⟩, h3⟩, h4⟩, h5⟩; exact ⟨h1, h2, h3, h4, h5⟩
  · rintro ⟨h1, h2, h3, h4, h5⟩; exact ⟨⟨⟨⟨h1, h2⟩, h3⟩, h4⟩, h5⟩
def scn : Nat → List UInt8 → List (List UInt8) × Nat
  | 0, _ => ([], 0)
  | f + 1, b =>
    if b.length < 4 then ([], 0)
    else if hit b then ((b.drop 4).take (num2 b) :: (scn f (b.drop (4 + num2 b + pad4 (num2 b)))).1, (scn f (b.drop (4 + num2 b + pad4 (num2 b)))).2)
    else ((scn f (b.drop 4)).1, (scn f (b.drop 4)).2 + 1)
theorem scn_fuel : ∀ (f g : Nat) (b : List UInt8), b.length ≤ f → b.length ≤ g → scn f b = scn g b
  | 0, 0, _, _, _ => rfl
  | 0, g + 1, b, h, _ => by
    rw [scn, scn, if_pos (by omega)]
  | f + 1, 0, b, _, h => by
    rw [scn, scn, if_pos (by omega)]
  | f + 1, g + 1, b, hf, hg => by
    rw [scn, scn]
    by_cases h1 : b.length < 4
    · rw [if_pos h1, if_pos h1]
    · rw [if_neg h1, if_neg h1, scn_fuel f g (b.drop (4 + num2 b + pad4 (num2 b))) (by rw [List.length_drop]; omega) (by rw [List.length_drop]; omega),
        scn_fuel f g (b.drop 4) (by rw [List.length_drop]; omega) (by rw [List.length_drop]; omega)]
def sc (b : List UInt8) : List (List UInt8) × Nat := scn b.length b
theorem sc_short {b : List UInt8} (h : b.length < 4) : sc b = ([], 0) := by
  unfold sc
  cases hl : b.length with
  | zero => rfl
  | succ k => rw [scn, if_pos h]
theorem sc_hit {b : List UInt8} (h : hit b = true) : sc b = ((b.drop 4).take (num2 b) :: (sc (b.drop (4 + num2 b + pad4 (num2 b)))).1, (sc (b.drop (4 + num2 b + pad4 (num2 b)))).2) := by
  have h4 := (hit_iff.1 h).1
  have e : sc b = scn ((b.length - 1) + 1) b := scn_fuel _ _ _ (Nat.le_refl _) (by omega)
  rw [e, scn, if_neg (by omega), if_pos h]
  have e2 : scn (b.length - 1) (b.drop (4 + num2 b + pad4 (num2 b))) = sc (b.drop (4 + num2 b + pad4 (num2 b))) := scn_fuel _ _ _ (by rw [List.length_drop]; omega) (Nat.le_refl _)
  rw [e2]
theorem sc_miss {b : List UInt8} (h4 : 4 ≤ b.length) (h : hit b = false) : sc b = ((sc (b.drop 4)).1, (sc (b.drop 4)).2 + 1) := by
  have e : sc b = scn ((b.length - 1) + 1) b := scn_fuel _ _ _ (Nat.le_refl _) (by omega)
  rw [e, scn, if_neg (by omega), if_neg (by simp [h])]
  have e2 : scn (b.length - 1) (b.drop 4) = sc (b.drop 4) := scn_fuel _ _ _ (by rw [List.length_drop]; omega) (Nat.le_refl _)
  rw [e2]

def okP (p : List UInt8) : Prop := 1 ≤ p.length ∧ p.length ≤ 2400
theorem hit_entp {p : List UInt8} (h : okP p) (r : List UInt8) : hit (entp p ++ r) = true ∧ num2 (entp p ++ r) = p.length := by
  obtain ⟨h1, h2⟩ := h
  have hn : num2 (entp p ++ r) = p.length := by
    rw [entp, List.append_assoc]
    exact num2_dlm (by omega) _
  refine ⟨hit_iff.2 ?_, hn⟩
  rw [hn, List.length_append, entp_length]
  refine ⟨by omega, h1, h2, ?_, by omega⟩
  rw [entp, List.append_assoc, List.take_left' (dlm_length _)]
theorem sc_entp {p : List UInt8} (h : okP p) (r : List UInt8) : sc (entp p ++ r) = (p :: (sc (r.drop (pad4 p.length))).1, (sc (r.drop (pad4 p.length))).2) := by
  obtain ⟨h1, h2⟩ := hit_entp h r
  rw [sc_hit h1, h2]
  have e1 : (entp p ++ r).drop (4 + p.length + pad4 p.length) = r.drop (pad4 p.length) := by
    rw [← List.drop_drop, List.drop_left' (entp_length p)]
  have e2 : ((entp p ++ r).drop 4).take p.length = p := by
    rw [entp, List.append_assoc, List.drop_left' (dlm_length _), List.take_left' rfl]
  rw [e1, e2]
def okL (l : List (List UInt8)) : Prop := ∀ p ∈ l, okP p
theorem sc_jn : ∀ (l : List (List UInt8)), okL l → sc (jn l) = (l, 0)
  | [], _ => sc_short (by decide)
  | p :: r, h => by
    have h0 := h p List.mem_cons_self
    by_cases hr : r = []
    · subst hr
      have e : jn [p] = entp p ++ [] := by rw [List.append_nil]; exact jg_one _
      rw [e, sc_entp h0, List.drop_nil, sc_short (by simp)]
    · have e : jn (p :: r) = entp p ++ (zer (pad4 p.length) ++ jn r) := by
        unfold jn
        rw [List.map_cons, jg_cons (by simpa using hr), pad_entp]
      rw [e, sc_entp h0, List.drop_left' (zer_length _), sc_jn r fun q hq => h q (List.mem_cons_of_mem _ hq)]
/-- where the k-th entry begins. -/
def st : List (List UInt8) → Nat → Nat
  | p :: r, k + 1 => 4 + p.length + pad4 p.length + st r k
  | _, _ => 0
theorem st_pj : ∀ (l : List (List UInt8)) (k : Nat), k ≤ l.length → (pj ((l.take k).map entp)).length = st l k
  | [], 0, _ => rfl
  | [], _ + 1, h => absurd h (by simp)
  | _ :: _, 0, _ => rfl
  | p :: r, k + 1, h => by
    rw [List.take_succ_cons, List.map_cons, pj, st, List.length_append, List.length_append, zer_length, entp_length, ← pad_entp p, entp_length, st_pj r k (by simpa using h)]
    omega
theorem st_succ : ∀ (l : List (List UInt8)) (k : Nat), k < l.length → st l (k + 1) = st l k + (4 + (l.getD k []).length + pad4 (l.getD k []).length)
  | [], _, h => absurd h (by simp)
  | p :: r, 0, _ => by cases r <;> simp [st]
  | p :: r, k + 1, h => by
    rw [st, st_succ r k (by simpa using h), st]
    simp only [List.getD_cons_succ]
    omega
theorem list_at {α : Type} {l : List α} {k : Nat} (h : k < l.length) (d : α) : l = l.take k ++ l.getD k d :: l.drop (k + 1) := by
  have e : l.getD k d = l[k] := by rw [List.getD_eq_getElem?_getD, List.getElem?_eq_getElem h]; rfl
  rw [e, List.getElem_cons_drop, List.take_append_drop]
/-- a joined form, laid open at one piece. -/
def tl_ (l : List (List UInt8)) (k : Nat) : List UInt8 := if l.drop (k + 1) = [] then [] else zer (pad4 (l.getD k []).length) ++ jn (l.drop (k + 1))
theorem jn_at {l : List (List UInt8)} {k : Nat} (h : k < l.length) : jn l = pj ((l.take k).map entp) ++ (entp (l.getD k []) ++ tl_ l k) := by
  have e := congrArg jn (list_at h [])
  refine e.trans ?_
  unfold jn
  rw [List.map_append, List.map_cons, jg_split, jg, tl_, pad_entp]
  by_cases hr : l.drop (k + 1) = []
  · rw [hr]; rfl
  · rw [if_neg hr, if_neg (by simpa using hr)]; rfl
theorem tl_set (l : List (List UInt8)) (k : Nat) (q : List UInt8) (hk : k < l.length) (h : q.length = (l.getD k []).length) : tl_ (l.set k q) k = tl_ l k := by
  unfold tl_
  rw [List.drop_set_of_lt (by omega)]
  have e : ((l.set k q).getD k []).length = (l.getD k []).length := by
    rw [List.getD_eq_getElem?_getD, List.getElem?_set_self hk]; exact h
  rw [e]
theorem jn_set {l : List (List UInt8)} {k : Nat} (hk : k < l.length) (q : List UInt8) (h : q.length = (l.getD k []).length) :
    jn (l.set k q) = pj ((l.take k).map entp) ++ (dlm (l.getD k []).length ++ q ++ tl_ l k) := by
  rw [jn_at (l := l.set k q) (k := k) (by rw [List.length_set]; exact hk), tl_set l k q hk h, List.take_set_of_le (by omega)]
  have e : (l.set k q).getD k [] = q := by rw [List.getD_eq_getElem?_getD, List.getElem?_set_self hk]; rfl
  rw [e, entp, h]

/-- what stops a list of pieces from being joined. -/
def pieE : List (List UInt8) → Int
  | [] => 0
  | p :: r => if p.length = 0 then 8 else if 2400 < p.length then 11 else pieE r
theorem pieE_ok : ∀ {l : List (List UInt8)}, pieE l = 0 ↔ okL l
  | [] => ⟨fun _ _ h => (by cases h), fun _ => rfl⟩
  | p :: r => by
    unfold pieE
    constructor
    · intro h
      split at h
      · cases h
      · split at h
        · cases h
        · intro q hq
          rcases List.mem_cons.1 hq with rfl | hq
          · exact ⟨by omega, by omega⟩
          · exact pieE_ok.1 h q hq
    · intro h
      have h0 := h p List.mem_cons_self
      rw [if_neg (by have := h0.1; omega), if_neg (by have := h0.2; omega)]
      exact pieE_ok.2 fun q hq => h q (List.mem_cons_of_mem _ hq)
def jnE (l : List (List UInt8)) : List UInt8 × Int :=
  if l.length = 0 then ([], 6) else if 64 < l.length then ([], 4) else if pieE l = 0 then (if 65535 < (jn l).length then ([], 11) else (jn l, 0)) else ([], pieE l)
theorem jnE_ok {l : List (List UInt8)} (h : (jnE l).2 = 0) : l ≠ [] ∧ l.length ≤ 64 ∧ okL l ∧ (jn l).length ≤ 65535 ∧ (jnE l).1 = jn l := by
  unfold jnE at h ⊢
  split at h
  · cases h
  · next h1 =>
    split at h
    · cases h
    · next h2 =>
      split at h
      · next h3 =>
        split at h
        · cases h
        · next h4 =>
          rw [if_neg h1, if_neg h2, if_pos h3, if_neg h4]
          exact ⟨fun e => h1 (by rw [e]; rfl), by omega, pieE_ok.1 h3, by omega, rfl⟩
      · next h3 => exact absurd h h3
end Go.Proofs.YteojehocflbgdaaDoor.C08

/-
  Small contracts: paddings, delimiters, prefixes, copies, joins of byte strings.
-/
namespace Go.Proofs.YteojehocflbgdaaDoor.C01
end Go.Proofs.YteojehocflbgdaaDoor.C01
namespace Go.Proofs.YteojehocflbgdaaDoor.C03
end Go.Proofs.YteojehocflbgdaaDoor.C03
namespace Go.Proofs.YteojehocflbgdaaDoor.C08
open C01 C03
open Go Go.RowKit Go.Hs
attribute [local irreducible] WL W WQ PL Runs Effs AllE Ent SubO FrIn Pick OneC Ones CellsE PartsE SeqE UZ By Sl Pt Ct

theorem pad4_neg (n : Nat) : bits .and .i64 (-(n : Int)) 3 = (pad4 n : Int) := by
  rw [i64_and3]
  unfold pad4
  omega
theorem neg_i (n : Nat) (h : n ≤ 1000000000000) : IntKind.i64.wrap (0 - (n : Int)) = -(n : Int) := by
  rw [wx_i64 (by omega)]; omega

set_option maxRecDepth 100000 in
theorem padding_fn (n : Nat) (h : n ≤ 1000000000000) : CtD Tryd.prog 27 [.int .i64 (n : Int)] [] (.int .i64 (pad4 n : Int)) := by
  refine Ct_intro Tryd.func27 rfl Tryd.ntmps27 (by simp) _ rfl (fun w0 O0 => ?_)
  repeat (first | refine n1 ?_ | refine n2 (fun b _ => ?_) | refine n3 (fun _ _ => ?_) | refine n4 ?_ | refine n5 ?_ | refine WL_nil ?_ | refine W_seq ?_ | refine W_region ?_ | refine n7 ?_ | refine n8 ?_ | refine W_block ?_ | refine W_skip ?_ | refine W_ret ?_ | refine W_exit ?_ | refine WQ_then ?_ | refine WQ_then_ret ?_ | refine WQ_then_exit ?_ | refine WQ_block_normal ?_ | refine WQ_block_ret ?_ | refine WQ_block_exit ?_ | refine n9 ?_)
  refine WL_runs rfl rfl rfl (R_neg rfl (neg_i n h)) ?_
  refine WL_runs rfl rfl rfl (R_and rfl rfl (pad4_neg n)) ?_
  repeat (first | refine n1 ?_ | refine n2 (fun b _ => ?_) | refine n3 (fun _ _ => ?_) | refine n4 ?_ | refine n5 ?_ | refine WL_nil ?_ | refine W_seq ?_ | refine W_region ?_ | refine n7 ?_ | refine n8 ?_ | refine W_block ?_ | refine W_skip ?_ | refine W_ret ?_ | refine W_exit ?_ | refine WQ_then ?_ | refine WQ_then_ret ?_ | refine WQ_then_exit ?_ | refine WQ_block_normal ?_ | refine WQ_block_ret ?_ | refine WQ_block_exit ?_ | refine n9 ?_)
  ((apply ret1 Tryd.results27 ( ())); (focus (first | trivial | assumption | omega)); (focus (first | exact RV_tmp rfl | (apply RV_cellN; exact rfl; (repeat' (first | exact Pick.head _ _ | apply Pick.tail)); (intro _; exact rfl); (intro _; exact rfl); exact rfl) | (apply RV_cell1; exact rfl; (repeat' (first | exact Pick.head _ _ | apply Pick.tail)); (intro _; exact rfl); exact rfl)));  (focus (first | exact rfl | (simp; done))); (focus (repeat (first | exact SubO.nil _ | (apply SubO.cons; (focus (repeat' (first | exact Pick.head _ _ | apply Pick.tail))))))); (focus (repeat (first | exact AllE.nil _ | (apply AllE.cons; (focus (first | exact ent_nilBy | exact ent_nilSl | (apply Ent.mem; repeat' (first | exact mcs | apply mct)))))))))

theorem mod4 (n : Nat) : ((n : Int)).tmod 4 = ((n % 4 : Nat) : Int) := rfl
theorem mod4' (n : Nat) : (4 - ((n % 4 : Nat) : Int)).tmod 4 = (pad4 n : Int) := by
  rw [Int.tmod_eq_emod_of_nonneg (by omega)]
  unfold pad4
  omega
set_option maxRecDepth 100000 in
theorem rpadding_fn (n : Nat) (h : n ≤ 1000000000000) : CtD Tryd.prog 24 [.int .i64 (n : Int)] [] (.int .i64 (pad4 n : Int)) := by
  refine Ct_intro Tryd.func24 rfl Tryd.ntmps24 (by simp) _ rfl (fun w0 O0 => ?_)
  repeat (first | refine n1 ?_ | refine n2 (fun b _ => ?_) | refine n3 (fun _ _ => ?_) | refine n4 ?_ | refine n5 ?_ | refine WL_nil ?_ | refine W_seq ?_ | refine W_region ?_ | refine n7 ?_ | refine n8 ?_ | refine W_block ?_ | refine W_skip ?_ | refine W_ret ?_ | refine W_exit ?_ | refine WQ_then ?_ | refine WQ_then_ret ?_ | refine WQ_then_exit ?_ | refine WQ_block_normal ?_ | refine WQ_block_ret ?_ | refine WQ_block_exit ?_ | refine n9 ?_)
  refine WL_runs rfl rfl rfl (R_rem rfl rfl (by decide) (mod4 n)) ?_
  repeat (first | refine n1 ?_ | refine n2 (fun b _ => ?_) | refine n3 (fun _ _ => ?_) | refine n4 ?_ | refine n5 ?_ | refine WL_nil ?_ | refine W_seq ?_ | refine W_region ?_ | refine n7 ?_ | refine n8 ?_ | refine W_block ?_ | refine W_skip ?_ | refine W_ret ?_ | refine W_exit ?_ | refine WQ_then ?_ | refine WQ_then_ret ?_ | refine WQ_then_exit ?_ | refine WQ_block_normal ?_ | refine WQ_block_ret ?_ | refine WQ_block_exit ?_ | refine n9 ?_)
  refine WL_runs rfl rfl rfl (R_rem rfl rfl (by decide) (mod4' n)) ?_
  repeat (first | refine n1 ?_ | refine n2 (fun b _ => ?_) | refine n3 (fun _ _ => ?_) | refine n4 ?_ | refine n5 ?_ | refine WL_nil ?_ | refine W_seq ?_ | refine W_region ?_ | refine n7 ?_ | refine n8 ?_ | refine W_block ?_ | refine W_skip ?_ | refine W_ret ?_ | refine W_exit ?_ | refine WQ_then ?_ | refine WQ_then_ret ?_ | refine WQ_then_exit ?_ | refine WQ_block_normal ?_ | refine WQ_block_ret ?_ | refine WQ_block_exit ?_ | refine n9 ?_)
  ((apply ret1 Tryd.results24 ( ())); (focus (first | trivial | assumption | omega)); (focus (first | exact RV_tmp rfl | (apply RV_cellN; exact rfl; (repeat' (first | exact Pick.head _ _ | apply Pick.tail)); (intro _; exact rfl); (intro _; exact rfl); exact rfl) | (apply RV_cell1; exact rfl; (repeat' (first | exact Pick.head _ _ | apply Pick.tail)); (intro _; exact rfl); exact rfl)));  (focus (first | exact rfl | (simp; done))); (focus (repeat (first | exact SubO.nil _ | (apply SubO.cons; (focus (repeat' (first | exact Pick.head _ _ | apply Pick.tail))))))); (focus (repeat (first | exact AllE.nil _ | (apply AllE.cons; (focus (first | exact ent_nilBy | exact ent_nilSl | (apply Ent.mem; repeat' (first | exact mcs | apply mct)))))))))

set_option maxRecDepth 100000 in
theorem delimiter_fn (n : Nat) (h : n ≤ 1000000000000) : Ct Tryd.prog 23 [.int .i64 (n : Int)] [] [] (X := Value) (fun _ => True) (fun x => x) (fun _ => []) (fun x => [By x (dlm n)]) := by
  refine Ct_intro Tryd.func23 rfl Tryd.ntmps23 (by simp) _ rfl (fun w0 O0 => ?_)
  repeat (first | refine n1 ?_ | refine n2 (fun b _ => ?_) | refine n3 (fun _ _ => ?_) | refine n4 ?_ | refine n5 ?_ | refine WL_nil ?_ | refine W_seq ?_ | refine W_region ?_ | refine n7 ?_ | refine n8 ?_ | refine W_block ?_ | refine W_skip ?_ | refine W_ret ?_ | refine W_exit ?_ | refine WQ_then ?_ | refine WQ_then_ret ?_ | refine WQ_then_exit ?_ | refine WQ_block_normal ?_ | refine WQ_block_ret ?_ | refine WQ_block_exit ?_ | refine n9 ?_)
  refine WL_runs rfl rfl rfl (R_shr rfl rfl (by decide) (i64_shr8 _)) ?_
  repeat (first | refine n1 ?_ | refine n2 (fun b _ => ?_) | refine n3 (fun _ _ => ?_) | refine n4 ?_ | refine n5 ?_ | refine WL_nil ?_ | refine W_seq ?_ | refine W_region ?_ | refine n7 ?_ | refine n8 ?_ | refine W_block ?_ | refine W_skip ?_ | refine W_ret ?_ | refine W_exit ?_ | refine WQ_then ?_ | refine WQ_then_ret ?_ | refine WQ_then_exit ?_ | refine WQ_block_normal ?_ | refine WQ_block_ret ?_ | refine WQ_block_exit ?_ | refine n9 ?_)
  (apply WL_effs; exact rfl; exact rfl; exact rfl; (apply E_buildSlice; exact rfl; (focus (repeat (first | apply SeqE.nil | (apply SeqE.cons; exact rfl; (focus (first | (apply CellsE.lit; exact rfl) | (apply CellsE.one; (first | (apply OneC.lit; exact rfl) | (apply OneC.by_; (repeat' (first | exact mcs | apply mct)); done) | (apply OneC.sl; (repeat' (first | exact mcs | apply mct)); done) | (apply OneC.rw; (repeat' (first | exact mcs | apply mct)); done) | (apply OneC.row; (repeat' (first | exact Pick.head _ _ | apply Pick.tail))))))); exact rfl) | exact rfl))); exact rfl; (first | (intro _; exact (rfl : _ = Result.ok 1 _)) | (intro _; exact (rfl : _ = Result.ok 2 _)) | (intro _; exact (rfl : _ = Result.ok 3 _)) | (intro _; exact (rfl : _ = Result.ok 4 _)) | (intro _; exact (rfl : _ = Result.ok 5 _)) | (intro _; exact (rfl : _ = Result.ok 6 _)) | (intro _; exact (rfl : _ = Result.ok 7 _)) | (intro _; exact (rfl : _ = Result.ok 8 _)) | (intro _; exact (rfl : _ = Result.ok 9 _)) | (intro _; exact (rfl : _ = Result.ok 13 _)) | (intro _; exact (rfl : _ = Result.ok 14 _)) | (intro _; exact (rfl : _ = Result.ok 26 _)) | (intro _; exact (rfl : _ = Result.ok 40 _)) | (intro _; exact (rfl : _ = Result.ok 41 _)) | (intro _; exact (rfl : _ = Result.ok 42 _)) | (intro _; exact (rfl : _ = Result.ok 43 _)) | (intro _; exact (rfl : _ = Result.ok 44 _)) | (intro _; exact (rfl : _ = Result.ok 45 _)) | (intro _; exact (rfl : _ = Result.ok 46 _))); (intro _; exact rfl); exact rfl; exact Nat.le_of_ble_eq_true rfl; exact Nat.le_of_ble_eq_true rfl); skip)
  intro q _
  repeat (first | refine n1 ?_ | refine n2 (fun b _ => ?_) | refine n3 (fun _ _ => ?_) | refine n4 ?_ | refine n5 ?_ | refine WL_nil ?_ | refine W_seq ?_ | refine W_region ?_ | refine n7 ?_ | refine n8 ?_ | refine W_block ?_ | refine W_skip ?_ | refine W_ret ?_ | refine W_exit ?_ | refine WQ_then ?_ | refine WQ_then_ret ?_ | refine WQ_then_exit ?_ | refine WQ_block_normal ?_ | refine WQ_block_ret ?_ | refine WQ_block_exit ?_ | refine n9 ?_)
  refine WL_runs rfl rfl rfl (R_callB (Γb := [.row q 5 1 2 ((dl2 n).map bcell)]) rfl (by intro _ _; simp) (crc8_fn q (dl2 n) (by show 2 ≤ _; omega)) (perm1 (by repeat' (first | exact Pick.head _ _ | apply Pick.tail))) (Bor.sub (Bor.row (Γr := []) rfl) (AllIn.cons (by repeat' (first | exact mcs | apply mct)) (AllIn.nil _)))) ?_
  rw [c8_cell]
  (apply WL_effs; exact rfl; exact rfl; exact rfl; (apply E_buildSlice; exact rfl; (focus (repeat (first | apply SeqE.nil | (apply SeqE.cons; exact rfl; (focus (first | (apply CellsE.lit; exact rfl) | (apply CellsE.one; (first | (apply OneC.lit; exact rfl) | (apply OneC.by_; (repeat' (first | exact mcs | apply mct)); done) | (apply OneC.sl; (repeat' (first | exact mcs | apply mct)); done) | (apply OneC.rw; (repeat' (first | exact mcs | apply mct)); done) | (apply OneC.row; (repeat' (first | exact Pick.head _ _ | apply Pick.tail))))))); exact rfl) | exact rfl))); exact rfl; (first | (intro _; exact (rfl : _ = Result.ok 1 _)) | (intro _; exact (rfl : _ = Result.ok 2 _)) | (intro _; exact (rfl : _ = Result.ok 3 _)) | (intro _; exact (rfl : _ = Result.ok 4 _)) | (intro _; exact (rfl : _ = Result.ok 5 _)) | (intro _; exact (rfl : _ = Result.ok 6 _)) | (intro _; exact (rfl : _ = Result.ok 7 _)) | (intro _; exact (rfl : _ = Result.ok 8 _)) | (intro _; exact (rfl : _ = Result.ok 9 _)) | (intro _; exact (rfl : _ = Result.ok 13 _)) | (intro _; exact (rfl : _ = Result.ok 14 _)) | (intro _; exact (rfl : _ = Result.ok 26 _)) | (intro _; exact (rfl : _ = Result.ok 40 _)) | (intro _; exact (rfl : _ = Result.ok 41 _)) | (intro _; exact (rfl : _ = Result.ok 42 _)) | (intro _; exact (rfl : _ = Result.ok 43 _)) | (intro _; exact (rfl : _ = Result.ok 44 _)) | (intro _; exact (rfl : _ = Result.ok 45 _)) | (intro _; exact (rfl : _ = Result.ok 46 _))); (intro _; exact rfl); exact rfl; exact Nat.le_of_ble_eq_true rfl; exact Nat.le_of_ble_eq_true rfl); skip)
  intro q2 _
  refine WL_effs rfl rfl rfl (E_appendRowB (bs := dl2 n) (news := [c8 (dl2 n), 78]) (nm := 4) (all := dlm n) rfl rfl (by repeat' (first | exact Pick.head _ _ | apply Pick.tail)) (by repeat' (first | exact Pick.head _ _ | apply Pick.tail)) rfl rfl rfl rfl rfl rfl rfl (Nat.le_of_ble_eq_true rfl) (by omega) rfl rfl) ?_
  intro q3 _
  repeat (first | refine n1 ?_ | refine n2 (fun b _ => ?_) | refine n3 (fun _ _ => ?_) | refine n4 ?_ | refine n5 ?_ | refine WL_nil ?_ | refine W_seq ?_ | refine W_region ?_ | refine n7 ?_ | refine n8 ?_ | refine W_block ?_ | refine W_skip ?_ | refine W_ret ?_ | refine W_exit ?_ | refine WQ_then ?_ | refine WQ_then_ret ?_ | refine WQ_then_exit ?_ | refine WQ_block_normal ?_ | refine WQ_block_ret ?_ | refine WQ_block_exit ?_ | refine n9 ?_)
  refine WQ_letgoB (v := q3) (bs := dlm n) (by repeat' (first | exact Pick.head _ _ | apply Pick.tail)) rfl ?_
  ((apply ret1 Tryd.results23 ( q3)); (focus (first | trivial | assumption | omega)); (focus (first | exact RV_tmp rfl | (apply RV_cellN; exact rfl; (repeat' (first | exact Pick.head _ _ | apply Pick.tail)); (intro _; exact rfl); (intro _; exact rfl); exact rfl) | (apply RV_cell1; exact rfl; (repeat' (first | exact Pick.head _ _ | apply Pick.tail)); (intro _; exact rfl); exact rfl)));  (focus (first | exact rfl | (simp; done))); (focus (repeat (first | exact SubO.nil _ | (apply SubO.cons; (focus (repeat' (first | exact Pick.head _ _ | apply Pick.tail))))))); (focus (repeat (first | exact AllE.nil _ | (apply AllE.cons; (focus (first | exact ent_nilBy | exact ent_nilSl | (apply Ent.mem; repeat' (first | exact mcs | apply mct)))))))))

theorem leB2 (n : Nat) : [] ++ leB 2 n = dl2 n := by
  simp [leB, dl2, List.range_succ]
set_option maxRecDepth 100000 in
theorem equal_fn (v u : Value) (xs ys : List UInt8) : CtD Tryd.prog 46 [v, u] [By v xs, By u ys] (.bool (decide (xs = ys))) := by
  by_cases h : xs = ys
  · rw [decide_eq_true h]
    refine Ct_intro Tryd.func46 rfl Tryd.ntmps46 (by simp) _ rfl (fun w0 O0 => ?_)
    repeat (first | refine n1 ?_ | refine n2 (fun b _ => ?_) | refine n3 (fun _ _ => ?_) | refine n4 ?_ | refine n5 ?_ | refine WL_nil ?_ | refine W_seq ?_ | refine W_region ?_ | refine n7 ?_ | refine n8 ?_ | refine W_block ?_ | refine W_skip ?_ | refine W_ret ?_ | refine W_exit ?_ | refine WQ_then ?_ | refine WQ_then_ret ?_ | refine WQ_then_exit ?_ | refine WQ_block_normal ?_ | refine WQ_block_ret ?_ | refine WQ_block_exit ?_ | refine n9 ?_)
    ((apply ret1 Tryd.results46 ( ())); (focus (first | trivial | assumption | omega)); (focus (first | exact RV_tmp rfl | (apply RV_cellN; exact rfl; (repeat' (first | exact Pick.head _ _ | apply Pick.tail)); (intro _; exact rfl); (intro _; exact rfl); exact rfl) | (apply RV_cell1; exact rfl; (repeat' (first | exact Pick.head _ _ | apply Pick.tail)); (intro _; exact rfl); exact rfl)));  (focus (first | exact rfl | (simp; done))); (focus (repeat (first | exact SubO.nil _ | (apply SubO.cons; (focus (repeat' (first | exact Pick.head _ _ | apply Pick.tail))))))); (focus (repeat (first | exact AllE.nil _ | (apply AllE.cons; (focus (first | exact ent_nilBy | exact ent_nilSl | (apply Ent.mem; repeat' (first | exact mcs | apply mct)))))))))
  · rw [decide_eq_false h]
    refine Ct_intro Tryd.func46 rfl Tryd.ntmps46 (by simp) _ rfl (fun w0 O0 => ?_)
    repeat (first | refine n1 ?_ | refine n2 (fun b _ => ?_) | refine n3 (fun _ _ => ?_) | refine n4 ?_ | refine n5 ?_ | refine WL_nil ?_ | refine W_seq ?_ | refine W_region ?_ | refine n7 ?_ | refine n8 ?_ | refine W_block ?_ | refine W_skip ?_ | refine W_ret ?_ | refine W_exit ?_ | refine WQ_then ?_ | refine WQ_then_ret ?_ | refine WQ_then_exit ?_ | refine WQ_block_normal ?_ | refine WQ_block_ret ?_ | refine WQ_block_exit ?_ | refine n9 ?_)
    ((apply ret1 Tryd.results46 ( ())); (focus (first | trivial | assumption | omega)); (focus (first | exact RV_tmp rfl | (apply RV_cellN; exact rfl; (repeat' (first | exact Pick.head _ _ | apply Pick.tail)); (intro _; exact rfl); (intro _; exact rfl); exact rfl) | (apply RV_cell1; exact rfl; (repeat' (first | exact Pick.head _ _ | apply Pick.tail)); (intro _; exact rfl); exact rfl)));  (focus (first | exact rfl | (simp; done))); (focus (repeat (first | exact SubO.nil _ | (apply SubO.cons; (focus (repeat' (first | exact Pick.head _ _ | apply Pick.tail))))))); (focus (repeat (first | exact AllE.nil _ | (apply AllE.cons; (focus (first | exact ent_nilBy | exact ent_nilSl | (apply Ent.mem; repeat' (first | exact mcs | apply mct)))))))))
set_option maxRecDepth 100000 in
theorem prefix_fn (v u : Value) (xs ys : List UInt8) : CtD Tryd.prog 25 [v, u] [By v xs, By u ys] (.bool (decide (ys.length ≤ xs.length ∧ xs.take ys.length = ys))) := by
  by_cases h : ys.length ≤ xs.length
  · rw [show decide (ys.length ≤ xs.length ∧ xs.take ys.length = ys) = decide (xs.take ys.length = ys) by simp [h]]
    refine Ct_intro Tryd.func25 rfl Tryd.ntmps25 (by simp) _ rfl (fun w0 O0 => ?_)
    have he := fun v' => equal_fn v' u (xs.take ys.length) ys
    repeat (first | refine n1 ?_ | refine n2 (fun b _ => ?_) | refine n3 (fun _ _ => ?_) | refine n4 ?_ | refine n5 ?_ | refine n6 (he _) ?_ | refine n6v (he _) ?_ | refine WL_nil ?_ | refine W_seq ?_ | refine W_region ?_ | refine n7 ?_ | refine n8 ?_ | refine W_block ?_ | refine W_skip ?_ | refine W_ret ?_ | refine W_exit ?_ | refine WQ_then ?_ | refine WQ_then_ret ?_ | refine WQ_then_exit ?_ | refine WQ_block_normal ?_ | refine WQ_block_ret ?_ | refine WQ_block_exit ?_ | refine n9 ?_)
    ((apply ret1 Tryd.results25 ( ())); (focus (first | trivial | assumption | omega)); (focus (first | exact RV_tmp rfl | (apply RV_cellN; exact rfl; (repeat' (first | exact Pick.head _ _ | apply Pick.tail)); (intro _; exact rfl); (intro _; exact rfl); exact rfl) | (apply RV_cell1; exact rfl; (repeat' (first | exact Pick.head _ _ | apply Pick.tail)); (intro _; exact rfl); exact rfl)));  (focus (first | exact rfl | (simp; done))); (focus (repeat (first | exact SubO.nil _ | (apply SubO.cons; (focus (repeat' (first | exact Pick.head _ _ | apply Pick.tail))))))); (focus (repeat (first | exact AllE.nil _ | (apply AllE.cons; (focus (first | exact ent_nilBy | exact ent_nilSl | (apply Ent.mem; repeat' (first | exact mcs | apply mct)))))))))
  · rw [show decide (ys.length ≤ xs.length ∧ xs.take ys.length = ys) = false by simp [h]]
    refine Ct_intro Tryd.func25 rfl Tryd.ntmps25 (by simp) _ rfl (fun w0 O0 => ?_)
    repeat (first | refine n1 ?_ | refine n2 (fun b _ => ?_) | refine n3 (fun _ _ => ?_) | refine n4 ?_ | refine n5 ?_ | refine WL_nil ?_ | refine W_seq ?_ | refine W_region ?_ | refine n7 ?_ | refine n8 ?_ | refine W_block ?_ | refine W_skip ?_ | refine W_ret ?_ | refine W_exit ?_ | refine WQ_then ?_ | refine WQ_then_ret ?_ | refine WQ_then_exit ?_ | refine WQ_block_normal ?_ | refine WQ_block_ret ?_ | refine WQ_block_exit ?_ | refine n9 ?_)
    ((apply ret1 Tryd.results25 ( ())); (focus (first | trivial | assumption | omega)); (focus (first | exact RV_tmp rfl | (apply RV_cellN; exact rfl; (repeat' (first | exact Pick.head _ _ | apply Pick.tail)); (intro _; exact rfl); (intro _; exact rfl); exact rfl) | (apply RV_cell1; exact rfl; (repeat' (first | exact Pick.head _ _ | apply Pick.tail)); (intro _; exact rfl); exact rfl)));  (focus (first | exact rfl | (simp; done))); (focus (repeat (first | exact SubO.nil _ | (apply SubO.cons; (focus (repeat' (first | exact Pick.head _ _ | apply Pick.tail))))))); (focus (repeat (first | exact AllE.nil _ | (apply AllE.cons; (focus (first | exact ent_nilBy | exact ent_nilSl | (apply Ent.mem; repeat' (first | exact mcs | apply mct)))))))))

set_option maxRecDepth 100000 in
theorem cloneB_fn (v : Value) (xs : List UInt8) (hx : xs.length ≤ 1000000000) : Ct Tryd.prog 26 [v] [] [By v xs] (X := Value) (fun _ => True) (fun x => x) (fun x => [.row x 5 1 xs.length (xs.map bcell)]) (fun _ => []) := by
  cases h : isNilV v with
  | true =>
    refine Ct_intro Tryd.func26 rfl Tryd.ntmps26 (by simp) _ rfl (fun w0 O0 => ?_)
    refine W_pure (by_nil h (by repeat' (first | exact mcs | apply mct))) fun e => ?_
    subst e
    repeat (first | refine n1 ?_ | refine n2 (fun b _ => ?_) | refine n3 (fun _ _ => ?_) | refine n4 ?_ | refine n5 ?_ | refine WL_nil ?_ | refine W_seq ?_ | refine W_region ?_ | refine n7 ?_ | refine n8 ?_ | refine W_block ?_ | refine W_skip ?_ | refine W_ret ?_ | refine W_exit ?_ | refine WQ_then ?_ | refine WQ_then_ret ?_ | refine WQ_then_exit ?_ | refine WQ_block_normal ?_ | refine WQ_block_ret ?_ | refine WQ_block_exit ?_ | refine n9 ?_)
    refine WL_runs rfl rfl rfl (R_eqNilB rfl rfl (by repeat' (first | exact mcs | apply mct)) rfl) ?_
    rw [h]
    repeat (first | refine n1 ?_ | refine n2 (fun b _ => ?_) | refine n3 (fun _ _ => ?_) | refine n4 ?_ | refine n5 ?_ | refine WL_nil ?_ | refine W_seq ?_ | refine W_region ?_ | refine n7 ?_ | refine n8 ?_ | refine W_block ?_ | refine W_skip ?_ | refine W_ret ?_ | refine W_exit ?_ | refine WQ_then ?_ | refine WQ_then_ret ?_ | refine WQ_then_exit ?_ | refine WQ_block_normal ?_ | refine WQ_block_ret ?_ | refine WQ_block_exit ?_ | refine n9 ?_)
    apply WQ_nilRow 5 1
    ((apply ret1 Tryd.results26 ( Value.slice none 0 0)); (focus (first | trivial | assumption | omega)); (focus (first | exact RV_tmp rfl | (apply RV_cellN; exact rfl; (repeat' (first | exact Pick.head _ _ | apply Pick.tail)); (intro _; exact rfl); (intro _; exact rfl); exact rfl) | (apply RV_cell1; exact rfl; (repeat' (first | exact Pick.head _ _ | apply Pick.tail)); (intro _; exact rfl); exact rfl)));  (focus (first | exact rfl | (simp; done))); (focus (repeat (first | exact SubO.nil _ | (apply SubO.cons; (focus (repeat' (first | exact Pick.head _ _ | apply Pick.tail))))))); (focus (repeat (first | exact AllE.nil _ | (apply AllE.cons; (focus (first | exact ent_nilBy | exact ent_nilSl | (apply Ent.mem; repeat' (first | exact mcs | apply mct)))))))))
  | false =>
    refine Ct_intro Tryd.func26 rfl Tryd.ntmps26 (by simp) _ rfl (fun w0 O0 => ?_)
    repeat (first | refine n1 ?_ | refine n2 (fun b _ => ?_) | refine n3 (fun _ _ => ?_) | refine n4 ?_ | refine n5 ?_ | refine WL_nil ?_ | refine W_seq ?_ | refine W_region ?_ | refine n7 ?_ | refine n8 ?_ | refine W_block ?_ | refine W_skip ?_ | refine W_ret ?_ | refine W_exit ?_ | refine WQ_then ?_ | refine WQ_then_ret ?_ | refine WQ_then_exit ?_ | refine WQ_block_normal ?_ | refine WQ_block_ret ?_ | refine WQ_block_exit ?_ | refine n9 ?_)
    refine WL_runs rfl rfl rfl (R_eqNilB rfl rfl (by repeat' (first | exact mcs | apply mct)) rfl) ?_
    rw [h]
    repeat (first | refine n1 ?_ | refine n2 (fun b _ => ?_) | refine n3 (fun _ _ => ?_) | refine n4 ?_ | refine n5 ?_ | refine WL_nil ?_ | refine W_seq ?_ | refine W_region ?_ | refine n7 ?_ | refine n8 ?_ | refine W_block ?_ | refine W_skip ?_ | refine W_ret ?_ | refine W_exit ?_ | refine WQ_then ?_ | refine WQ_then_ret ?_ | refine WQ_then_exit ?_ | refine WQ_block_normal ?_ | refine WQ_block_ret ?_ | refine WQ_block_exit ?_ | refine n9 ?_)
    (apply WL_effs; exact rfl; exact rfl; exact rfl; (apply E_buildSlice; exact rfl; (focus (repeat (first | apply SeqE.nil | (apply SeqE.cons; exact rfl; (focus (first | (apply CellsE.lit; exact rfl) | (apply CellsE.one; (first | (apply OneC.lit; exact rfl) | (apply OneC.by_; (repeat' (first | exact mcs | apply mct)); done) | (apply OneC.sl; (repeat' (first | exact mcs | apply mct)); done) | (apply OneC.rw; (repeat' (first | exact mcs | apply mct)); done) | (apply OneC.row; (repeat' (first | exact Pick.head _ _ | apply Pick.tail))))))); exact rfl) | exact rfl))); exact rfl; (first | (intro _; exact (rfl : _ = Result.ok 1 _)) | (intro _; exact (rfl : _ = Result.ok 2 _)) | (intro _; exact (rfl : _ = Result.ok 3 _)) | (intro _; exact (rfl : _ = Result.ok 4 _)) | (intro _; exact (rfl : _ = Result.ok 5 _)) | (intro _; exact (rfl : _ = Result.ok 6 _)) | (intro _; exact (rfl : _ = Result.ok 7 _)) | (intro _; exact (rfl : _ = Result.ok 8 _)) | (intro _; exact (rfl : _ = Result.ok 9 _)) | (intro _; exact (rfl : _ = Result.ok 13 _)) | (intro _; exact (rfl : _ = Result.ok 14 _)) | (intro _; exact (rfl : _ = Result.ok 26 _)) | (intro _; exact (rfl : _ = Result.ok 40 _)) | (intro _; exact (rfl : _ = Result.ok 41 _)) | (intro _; exact (rfl : _ = Result.ok 42 _)) | (intro _; exact (rfl : _ = Result.ok 43 _)) | (intro _; exact (rfl : _ = Result.ok 44 _)) | (intro _; exact (rfl : _ = Result.ok 45 _)) | (intro _; exact (rfl : _ = Result.ok 46 _))); (intro _; exact rfl); exact rfl; exact Nat.le_of_ble_eq_true rfl; exact Nat.le_of_ble_eq_true rfl); skip)
    intro q _
    repeat (first | refine n1 ?_ | refine n2 (fun b _ => ?_) | refine n3 (fun _ _ => ?_) | refine n4 ?_ | refine n5 ?_ | refine WL_nil ?_ | refine W_seq ?_ | refine W_region ?_ | refine n7 ?_ | refine n8 ?_ | refine W_block ?_ | refine W_skip ?_ | refine W_ret ?_ | refine W_exit ?_ | refine WQ_then ?_ | refine WQ_then_ret ?_ | refine WQ_then_exit ?_ | refine WQ_block_normal ?_ | refine WQ_block_ret ?_ | refine WQ_block_exit ?_ | refine n9 ?_)
    refine WL_effs rfl rfl rfl (E_appendBy (bs := []) rfl rfl (by repeat' (first | exact Pick.head _ _ | apply Pick.tail)) (by repeat' (first | exact mcs | apply mct)) rfl rfl rfl rfl rfl rfl (Nat.le_of_ble_eq_true rfl) (by omega) (Nat.zero_add _) rfl) ?_
    intro o _
    rw [List.nil_append]
    repeat (first | refine n1 ?_ | refine n2 (fun b _ => ?_) | refine n3 (fun _ _ => ?_) | refine n4 ?_ | refine n5 ?_ | refine WL_nil ?_ | refine W_seq ?_ | refine W_region ?_ | refine n7 ?_ | refine n8 ?_ | refine W_block ?_ | refine W_skip ?_ | refine W_ret ?_ | refine W_exit ?_ | refine WQ_then ?_ | refine WQ_then_ret ?_ | refine WQ_then_exit ?_ | refine WQ_block_normal ?_ | refine WQ_block_ret ?_ | refine WQ_block_exit ?_ | refine n9 ?_)
    ((apply ret1 Tryd.results26 ( o)); (focus (first | trivial | assumption | omega)); (focus (first | exact RV_tmp rfl | (apply RV_cellN; exact rfl; (repeat' (first | exact Pick.head _ _ | apply Pick.tail)); (intro _; exact rfl); (intro _; exact rfl); exact rfl) | (apply RV_cell1; exact rfl; (repeat' (first | exact Pick.head _ _ | apply Pick.tail)); (intro _; exact rfl); exact rfl)));  (focus (first | exact rfl | (simp; done))); (focus (repeat (first | exact SubO.nil _ | (apply SubO.cons; (focus (repeat' (first | exact Pick.head _ _ | apply Pick.tail))))))); (focus (repeat (first | exact AllE.nil _ | (apply AllE.cons; (focus (first | exact ent_nilBy | exact ent_nilSl | (apply Ent.mem; repeat' (first | exact mcs | apply mct)))))))))
theorem cloneB_fnB (v : Value) (xs : List UInt8) (hx : xs.length ≤ 1000000000) : Ct Tryd.prog 26 [v] [] [By v xs] (X := Value) (fun _ => True) (fun x => x) (fun _ => []) (fun x => [By x xs]) := Ct.letB (bs := fun _ => xs) (cloneB_fn v xs hx) (fun _ => rfl)

end Go.Proofs.YteojehocflbgdaaDoor.C08

/-
  Joins of several byte strings ('slices.Concat').
-/
namespace Go.Proofs.YteojehocflbgdaaDoor.C01
end Go.Proofs.YteojehocflbgdaaDoor.C01
namespace Go.Proofs.YteojehocflbgdaaDoor.C03
end Go.Proofs.YteojehocflbgdaaDoor.C03
namespace Go.Proofs.YteojehocflbgdaaDoor.C08
open C01 C03
open Go Go.RowKit Go.Hs

theorem flat_next (fs : List (List UInt8)) (k : Nat) (h : k < fs.length) : (fs.take (k + 1)).flatten = (fs.take k).flatten ++ fs.getD k [] := by
  rw [List.take_succ_eq_append_getElem h, List.flatten_append, List.getD_eq_getElem?_getD, List.getElem?_eq_getElem h]
  simp
theorem flat_le (fs : List (List UInt8)) (k : Nat) : (fs.take k).flatten.length ≤ fs.flatten.length := by
  have h := congrArg (fun l => (List.flatten l).length) (List.take_append_drop k fs)
  simp only [List.flatten_append, List.length_append] at h
  omega
theorem flat_one (fs : List (List UInt8)) (k : Nat) (h : k < fs.length) : (fs.take k).flatten.length + (fs.getD k []).length ≤ fs.flatten.length := by
  have h1 := flat_le fs (k + 1)
  rw [flat_next fs k h, List.length_append] at h1
  exact h1
attribute [local irreducible] WL W WQ PL Runs Effs AllE Ent SubO FrIn Pick OneC Ones CellsE PartsE SeqE UZ By Sl Pt Ct

set_option maxRecDepth 100000 in
theorem growN_fn (n : Nat) (h : n ≤ 100000000) : Ct Tryd.prog 44 [.slice none 0 0, .int .i64 (n : Int)] [] [] (X := Value) (fun _ => True) (fun x => x) (fun x => [.row x 5 1 0 []]) (fun _ => []) := by
  refine Ct_intro Tryd.func44 rfl Tryd.ntmps44 (by simp) _ rfl (fun w0 O0 => ?_)
  refine W_nilRow 5 1 ?_
  repeat (first | refine n1 ?_ | refine n2 (fun b _ => ?_) | refine n3 (fun _ _ => ?_) | refine n4 ?_ | refine n5 ?_ | refine WL_nil ?_ | refine W_seq ?_ | refine W_region ?_ | refine n7 ?_ | refine n8 ?_ | refine W_block ?_ | refine W_skip ?_ | refine W_ret ?_ | refine W_exit ?_ | refine WQ_then ?_ | refine WQ_then_ret ?_ | refine WQ_then_exit ?_ | refine WQ_block_normal ?_ | refine WQ_block_ret ?_ | refine WQ_block_exit ?_ | refine n9 ?_)
  refine WL_runs rfl rfl rfl (R_capNil rfl rfl) ?_
  by_cases h0 : 0 < n
  · repeat (first | refine n1 ?_ | refine n2 (fun b _ => ?_) | refine n3 (fun _ _ => ?_) | refine n4 ?_ | refine n5 ?_ | refine WL_nil ?_ | refine W_seq ?_ | refine W_region ?_ | refine n7 ?_ | refine n8 ?_ | refine W_block ?_ | refine W_skip ?_ | refine W_ret ?_ | refine W_exit ?_ | refine WQ_then ?_ | refine WQ_then_ret ?_ | refine WQ_then_exit ?_ | refine WQ_block_normal ?_ | refine WQ_block_ret ?_ | refine WQ_block_exit ?_ | refine n9 ?_)
    refine WL_runs rfl rfl rfl (R_capNil rfl rfl) ?_
    refine WL_ent (ψ := By (.slice none 0 0) []) ent_nilBy ?_
    refine WL_runsF rfl rfl rfl (R_cutBy (lo := 0) (hi := 0) (bs' := []) rfl (by repeat' (first | exact mcs | apply mct)) rfl (by intro _; exact rfl) rfl rfl rfl rfl (Nat.le_refl _) (Nat.le_refl _) rfl) ?_
    repeat (first | refine n1 ?_ | refine n2 (fun b _ => ?_) | refine n3 (fun _ _ => ?_) | refine n4 ?_ | refine n5 ?_ | refine WL_nil ?_ | refine W_seq ?_ | refine W_region ?_ | refine n7 ?_ | refine n8 ?_ | refine W_block ?_ | refine W_skip ?_ | refine W_ret ?_ | refine W_exit ?_ | refine WQ_then ?_ | refine WQ_then_ret ?_ | refine WQ_then_exit ?_ | refine WQ_block_normal ?_ | refine WQ_block_ret ?_ | refine WQ_block_exit ?_ | refine n9 ?_)
    refine WL_effs rfl rfl rfl (E_appendZ (bs := []) (k := n) (nm := n) (all := List.replicate n 0) rfl rfl (by omega) (by repeat' (first | exact Pick.head _ _ | apply Pick.tail)) rfl rfl rfl rfl rfl rfl (Nat.le_of_ble_eq_true rfl) (by omega) (by omega) rfl) ?_
    intro q _
    repeat (first | refine n1 ?_ | refine n2 (fun b _ => ?_) | refine n3 (fun _ _ => ?_) | refine n4 ?_ | refine n5 ?_ | refine WL_nil ?_ | refine W_seq ?_ | refine W_region ?_ | refine n7 ?_ | refine n8 ?_ | refine W_block ?_ | refine W_skip ?_ | refine W_ret ?_ | refine W_exit ?_ | refine WQ_then ?_ | refine WQ_then_ret ?_ | refine WQ_then_exit ?_ | refine WQ_block_normal ?_ | refine WQ_block_ret ?_ | refine WQ_block_exit ?_ | refine n9 ?_)
    refine WL_effs rfl rfl rfl (E_cutRow (j := 0) (us := []) rfl rfl (by repeat' (first | exact Pick.head _ _ | apply Pick.tail)) rfl (by intro _; rfl) rfl (Nat.zero_le _) (by simp)) ?_
    intro _ _
    repeat (first | refine n1 ?_ | refine n2 (fun b _ => ?_) | refine n3 (fun _ _ => ?_) | refine n4 ?_ | refine n5 ?_ | refine WL_nil ?_ | refine W_seq ?_ | refine W_region ?_ | refine n7 ?_ | refine n8 ?_ | refine W_block ?_ | refine W_skip ?_ | refine W_ret ?_ | refine W_exit ?_ | refine WQ_then ?_ | refine WQ_then_ret ?_ | refine WQ_then_exit ?_ | refine WQ_block_normal ?_ | refine WQ_block_ret ?_ | refine WQ_block_exit ?_ | refine n9 ?_)
    ((apply ret1 Tryd.results44 ( cutV 1 0 0 q)); (focus (first | trivial | assumption | omega)); (focus (first | exact RV_tmp rfl | (apply RV_cellN; exact rfl; (repeat' (first | exact Pick.head _ _ | apply Pick.tail)); (intro _; exact rfl); (intro _; exact rfl); exact rfl) | (apply RV_cell1; exact rfl; (repeat' (first | exact Pick.head _ _ | apply Pick.tail)); (intro _; exact rfl); exact rfl)));  (focus (first | exact rfl | (simp; done))); (focus (repeat (first | exact SubO.nil _ | (apply SubO.cons; (focus (repeat' (first | exact Pick.head _ _ | apply Pick.tail))))))); (focus (repeat (first | exact AllE.nil _ | (apply AllE.cons; (focus (first | exact ent_nilBy | exact ent_nilSl | (apply Ent.mem; repeat' (first | exact mcs | apply mct)))))))))
  · repeat (first | refine n1 ?_ | refine n2 (fun b _ => ?_) | refine n3 (fun _ _ => ?_) | refine n4 ?_ | refine n5 ?_ | refine WL_nil ?_ | refine W_seq ?_ | refine W_region ?_ | refine n7 ?_ | refine n8 ?_ | refine W_block ?_ | refine W_skip ?_ | refine W_ret ?_ | refine W_exit ?_ | refine WQ_then ?_ | refine WQ_then_ret ?_ | refine WQ_then_exit ?_ | refine WQ_block_normal ?_ | refine WQ_block_ret ?_ | refine WQ_block_exit ?_ | refine n9 ?_)
    ((apply ret1 Tryd.results44 ( Value.slice none 0 0)); (focus (first | trivial | assumption | omega)); (focus (first | exact RV_tmp rfl | (apply RV_cellN; exact rfl; (repeat' (first | exact Pick.head _ _ | apply Pick.tail)); (intro _; exact rfl); (intro _; exact rfl); exact rfl) | (apply RV_cell1; exact rfl; (repeat' (first | exact Pick.head _ _ | apply Pick.tail)); (intro _; exact rfl); exact rfl)));  (focus (first | exact rfl | (simp; done))); (focus (repeat (first | exact SubO.nil _ | (apply SubO.cons; (focus (repeat' (first | exact Pick.head _ _ | apply Pick.tail))))))); (focus (repeat (first | exact AllE.nil _ | (apply AllE.cons; (focus (first | exact ent_nilBy | exact ent_nilSl | (apply Ent.mem; repeat' (first | exact mcs | apply mct)))))))))

set_option maxRecDepth 100000 in
set_option maxHeartbeats 1000000 in
theorem concat_fn (v : Value) (fs : List (List UInt8)) (vs : Nat → Value) (hs : fs.flatten.length ≤ 100000000) (hl : fs.length ≤ 1000000) : Ct Tryd.prog 22 [v] [] [Rw 1 v fs.length (fun i => [vs i]), Al fs.length (fun i => By (vs i) (fs.getD i []))]
    (X := Value) (fun _ => True) (fun x => x) (fun x => [.row x 5 1 fs.flatten.length (fs.flatten.map bcell)]) (fun _ => []) := by
  refine Ct_intro Tryd.func22 rfl Tryd.ntmps22 (by simp) _ rfl (fun w0 O0 => ?_)
  repeat (first | refine n1 ?_ | refine n2 (fun b _ => ?_) | refine n3 (fun _ _ => ?_) | refine n4 ?_ | refine n5 ?_ | refine WL_nil ?_ | refine W_seq ?_ | refine W_region ?_ | refine n7 ?_ | refine n8 ?_ | refine W_block ?_ | refine W_skip ?_ | refine W_ret ?_ | refine W_exit ?_ | refine WQ_then ?_ | refine WQ_then_ret ?_ | refine WQ_then_exit ?_ | refine WQ_block_normal ?_ | refine WQ_block_ret ?_ | refine WQ_block_exit ?_ | refine n9 ?_)
  ((apply W_loopK (X := Nat) [3, 5, 11] [] (fun x => x ≤ fs.length) (fun x => [(3, .int .i64 ((fs.take x).flatten.length : Int)), (11, .int .i64 (x : Int))]) (fun _ => []) (fun _ => []) (fun x => fs.length - x) (0)); (focus exact Nat.zero_le _); exact rfl; exact rfl; (intro _; exact rfl); (intro _; exact rfl); (intro _; exact rfl); (focus (repeat (first | exact FrIn.nil _ | (apply FrIn.cons; exact rfl; (first | exact rfl | (congr 1; first | omega | (dsimp only; omega)) | (simp; done)))))); (focus (repeat (first | exact SubO.nil _ | (apply SubO.cons; (focus (repeat' (first | exact Pick.head _ _ | apply Pick.tail))))))); (focus (repeat (first | exact AllE.nil _ | (apply AllE.cons; (focus (first | exact ent_nilBy | exact ent_nilSl | (apply Ent.mem; repeat' (first | exact mcs | apply mct)))))))); intro x hx)
  by_cases c1 : x < fs.length
  · refine W_ent (ent_al (i := x) (ψ := fun i => By (vs i) (fs.getD i [])) (by (focus (repeat' (first | exact mcs | apply mct)))) c1) ?_
    have hx1 := flat_one fs x c1
    have hx2 := flat_next fs x c1
    have hx3 : (fs.take (x + 1)).flatten.length = (fs.take x).flatten.length + (fs.getD x []).length := by rw [hx2, List.length_append]
    repeat (first | refine n1 ?_ | refine n2 (fun b _ => ?_) | refine n3 (fun _ _ => ?_) | refine n4 ?_ | refine n5 ?_ | refine WL_nil ?_ | refine W_seq ?_ | refine W_region ?_ | refine n7 ?_ | refine n8 ?_ | refine W_block ?_ | refine W_skip ?_ | refine W_ret ?_ | refine W_exit ?_ | refine WQ_then ?_ | refine WQ_then_ret ?_ | refine WQ_then_exit ?_ | refine WQ_block_normal ?_ | refine WQ_block_ret ?_ | refine WQ_block_exit ?_ | refine n9 ?_)
    ((apply WQ_again (x + 1)); (focus exact c1); (focus (omega)); (focus (repeat (first | exact FrIn.nil _ | (apply FrIn.cons; exact rfl; (first | exact rfl | (congr 1; first | omega | (dsimp only; omega)) | (simp; done)))))); (focus (repeat (first | exact SubO.nil _ | (apply SubO.cons; (focus (repeat' (first | exact Pick.head _ _ | apply Pick.tail))))))); (focus (repeat (first | exact AllE.nil _ | (apply AllE.cons; (focus (first | exact ent_nilBy | exact ent_nilSl | (apply Ent.mem; repeat' (first | exact mcs | apply mct)))))))))
  · obtain rfl : x = fs.length := by omega
    rw [List.take_length]
    repeat (first | refine n1 ?_ | refine n2 (fun b _ => ?_) | refine n3 (fun _ _ => ?_) | refine n4 ?_ | refine n5 ?_ | refine WL_nil ?_ | refine W_seq ?_ | refine W_region ?_ | refine n7 ?_ | refine n8 ?_ | refine W_block ?_ | refine W_skip ?_ | refine W_ret ?_ | refine W_exit ?_ | refine WQ_then ?_ | refine WQ_then_ret ?_ | refine WQ_then_exit ?_ | refine WQ_block_normal ?_ | refine WQ_block_ret ?_ | refine WQ_block_exit ?_ | refine n9 ?_)
    (apply WL_effs; exact rfl; exact rfl; exact rfl; apply E_call; exact rfl; (intro _ _; simp); exact growN_fn fs.flatten.length hs; (repeat (first | exact AllE.nil _ | (apply AllE.cons; (focus (first | exact ent_nilBy | exact ent_nilSl | (apply Ent.mem; repeat' (first | exact mcs | apply mct))))))); (intro _; exact rfl); (intro _; exact rfl))
    intro q _
    repeat (first | refine n1 ?_ | refine n2 (fun b _ => ?_) | refine n3 (fun _ _ => ?_) | refine n4 ?_ | refine n5 ?_ | refine WL_nil ?_ | refine W_seq ?_ | refine W_region ?_ | refine n7 ?_ | refine n8 ?_ | refine W_block ?_ | refine W_skip ?_ | refine W_ret ?_ | refine W_exit ?_ | refine WQ_then ?_ | refine WQ_then_ret ?_ | refine WQ_then_exit ?_ | refine WQ_block_normal ?_ | refine WQ_block_ret ?_ | refine WQ_block_exit ?_ | refine n9 ?_)
    ((apply W_loopK (X := Nat × Value) [6, 8, 27] [0] (fun x => x.1 ≤ fs.length) (fun x => [(6, x.2), (27, .int .i64 (x.1 : Int))]) (fun x => [.row x.2 5 1 (fs.take x.1).flatten.length ((fs.take x.1).flatten.map bcell)]) (fun _ => []) (fun x => fs.length - x.1) ((0, q))); (focus exact Nat.zero_le _); exact rfl; exact rfl; (intro _; exact rfl); (intro _; exact rfl); (intro _; exact rfl); (focus (repeat (first | exact FrIn.nil _ | (apply FrIn.cons; exact rfl; (first | exact rfl | (congr 1; first | omega | (dsimp only; omega)) | (simp; done)))))); (focus (repeat (first | exact SubO.nil _ | (apply SubO.cons; (focus (repeat' (first | exact Pick.head _ _ | apply Pick.tail))))))); (focus (repeat (first | exact AllE.nil _ | (apply AllE.cons; (focus (first | exact ent_nilBy | exact ent_nilSl | (apply Ent.mem; repeat' (first | exact mcs | apply mct)))))))); intro x hx)
    obtain ⟨x, o⟩ := x
    replace hx : x ≤ fs.length := hx
    dsimp only
    by_cases c1 : x < fs.length
    · refine W_ent (ent_al (i := x) (ψ := fun i => By (vs i) (fs.getD i [])) (by (focus (repeat' (first | exact mcs | apply mct)))) c1) ?_
      have hx1 := flat_one fs x c1
      have hx2 := flat_next fs x c1
      have hx3 : (fs.take (x + 1)).flatten.length = (fs.take x).flatten.length + (fs.getD x []).length := by rw [hx2, List.length_append]
      repeat (first | refine n1 ?_ | refine n2 (fun b _ => ?_) | refine n3 (fun _ _ => ?_) | refine n4 ?_ | refine n5 ?_ | refine WL_nil ?_ | refine W_seq ?_ | refine W_region ?_ | refine n7 ?_ | refine n8 ?_ | refine W_block ?_ | refine W_skip ?_ | refine W_ret ?_ | refine W_exit ?_ | refine WQ_then ?_ | refine WQ_then_ret ?_ | refine WQ_then_exit ?_ | refine WQ_block_normal ?_ | refine WQ_block_ret ?_ | refine WQ_block_exit ?_ | refine n9 ?_)
      refine WL_effs rfl rfl rfl (E_appendBy (bs := (fs.take x).flatten) (news := fs.getD x []) (nm := (fs.take (x + 1)).flatten.length) (all := (fs.take (x + 1)).flatten) rfl rfl (by repeat' (first | exact Pick.head _ _ | apply Pick.tail)) (by repeat' (first | exact mcs | apply mct)) rfl rfl rfl rfl rfl rfl (Nat.le_of_ble_eq_true rfl) (by omega) (by rw [hx2, List.length_append]) hx2.symm) ?_
      intro o2 _
      repeat (first | refine n1 ?_ | refine n2 (fun b _ => ?_) | refine n3 (fun _ _ => ?_) | refine n4 ?_ | refine n5 ?_ | refine WL_nil ?_ | refine W_seq ?_ | refine W_region ?_ | refine n7 ?_ | refine n8 ?_ | refine W_block ?_ | refine W_skip ?_ | refine W_ret ?_ | refine W_exit ?_ | refine WQ_then ?_ | refine WQ_then_ret ?_ | refine WQ_then_exit ?_ | refine WQ_block_normal ?_ | refine WQ_block_ret ?_ | refine WQ_block_exit ?_ | refine n9 ?_)
      ((apply WQ_again ((x + 1, o2))); (focus exact c1); (focus (exact (show fs.length - (x + 1) < fs.length - x by omega))); (focus (repeat (first | exact FrIn.nil _ | (apply FrIn.cons; exact rfl; (first | exact rfl | (congr 1; first | omega | (dsimp only; omega)) | (simp; done)))))); (focus (repeat (first | exact SubO.nil _ | (apply SubO.cons; (focus (repeat' (first | exact Pick.head _ _ | apply Pick.tail))))))); (focus (repeat (first | exact AllE.nil _ | (apply AllE.cons; (focus (first | exact ent_nilBy | exact ent_nilSl | (apply Ent.mem; repeat' (first | exact mcs | apply mct)))))))))
    · obtain rfl : x = fs.length := by omega
      rw [List.take_length]
      repeat (first | refine n1 ?_ | refine n2 (fun b _ => ?_) | refine n3 (fun _ _ => ?_) | refine n4 ?_ | refine n5 ?_ | refine WL_nil ?_ | refine W_seq ?_ | refine W_region ?_ | refine n7 ?_ | refine n8 ?_ | refine W_block ?_ | refine W_skip ?_ | refine W_ret ?_ | refine W_exit ?_ | refine WQ_then ?_ | refine WQ_then_ret ?_ | refine WQ_then_exit ?_ | refine WQ_block_normal ?_ | refine WQ_block_ret ?_ | refine WQ_block_exit ?_ | refine n9 ?_)
      ((apply ret1 Tryd.results22 ( o)); (focus (first | trivial | assumption | omega)); (focus (first | exact RV_tmp rfl | (apply RV_cellN; exact rfl; (repeat' (first | exact Pick.head _ _ | apply Pick.tail)); (intro _; exact rfl); (intro _; exact rfl); exact rfl) | (apply RV_cell1; exact rfl; (repeat' (first | exact Pick.head _ _ | apply Pick.tail)); (intro _; exact rfl); exact rfl)));  (focus (first | exact rfl | (simp; done))); (focus (repeat (first | exact SubO.nil _ | (apply SubO.cons; (focus (repeat' (first | exact Pick.head _ _ | apply Pick.tail))))))); (focus (repeat (first | exact AllE.nil _ | (apply AllE.cons; (focus (first | exact ent_nilBy | exact ent_nilSl | (apply Ent.mem; repeat' (first | exact mcs | apply mct)))))))))
end Go.Proofs.YteojehocflbgdaaDoor.C08
