/-
  The mathematics of check values: a register that is fed with bits. No program is named here.
-/
import Derived.Test.YtdhbgolbfkejcaaLx
namespace Go.Proofs.Ytdhbgolbfkejcaa
open Go

section
variable {w : Nat}

def tpb (w : Nat) (b : Bool) : BitVec w := if b then BitVec.twoPow w (w - 1) else 0#w
def zs (P r : BitVec w) : BitVec w := (r <<< 1) ^^^ (if r.msb then P else 0#w)
def stp (P r : BitVec w) (b : Bool) : BitVec w := zs P (r ^^^ tpb w b)
def feed (P r : BitVec w) (l : List Bool) : BitVec w := l.foldl (stp P) r

theorem feed_nil (P r : BitVec w) : feed P r [] = r := rfl
theorem feed_cons (P r : BitVec w) (b : Bool) (l : List Bool) : feed P r (b :: l) = feed P (stp P r b) l := rfl
theorem feed_append (P r : BitVec w) (l m : List Bool) : feed P r (l ++ m) = feed P (feed P r l) m := by simp [feed]

theorem zs_xor (P r s : BitVec w) : zs P (r ^^^ s) = zs P r ^^^ zs P s := by
  unfold zs
  rw [BitVec.shiftLeft_xor_distrib, BitVec.msb_xor]
  cases r.msb <;> cases s.msb
  · simp
  · simp; ac_rfl
  · simp; ac_rfl
  · simp only [Bool.xor_self, Bool.false_eq_true, if_false, if_true, BitVec.xor_zero]
    rw [show r <<< 1 ^^^ P ^^^ (s <<< 1 ^^^ P) = r <<< 1 ^^^ s <<< 1 ^^^ (P ^^^ P) by ac_rfl, BitVec.xor_self, BitVec.xor_zero]
theorem zs_zero (P : BitVec w) : zs P 0#w = 0#w := by simp [zs]
theorem tpb_xor (a b : Bool) : tpb w (a ^^ b) = tpb w a ^^^ tpb w b := by cases a <;> cases b <;> simp [tpb]
theorem stp_xor (P r s : BitVec w) (a b : Bool) : stp P (r ^^^ s) (a ^^ b) = stp P r a ^^^ stp P s b := by
  unfold stp
  rw [tpb_xor, ← zs_xor]
  congr 1
  ac_rfl
theorem stp_zero (P : BitVec w) : stp P 0#w false = 0#w := by simp [stp, tpb, zs_zero]

theorem feed_xor (P : BitVec w) : ∀ (l m : List Bool) (r s : BitVec w), l.length = m.length → feed P (r ^^^ s) (List.zipWith xor l m) = feed P r l ^^^ feed P s m
  | [], [], r, s, _ => rfl
  | [], _ :: _, _, _, h => by simp at h
  | _ :: _, [], _, _, h => by simp at h
  | a :: l, b :: m, r, s, h => by
    rw [List.zipWith_cons_cons, feed_cons, feed_cons, feed_cons, stp_xor]
    exact feed_xor P l m _ _ (by simpa using h)
theorem feed_zeros (P : BitVec w) : ∀ n, feed P 0#w (List.replicate n false) = 0#w
  | 0 => rfl
  | n + 1 => by rw [List.replicate_succ, feed_cons, stp_zero, feed_zeros P n]

theorem zs_inj0 {P : BitVec w} (hw : 0 < w) (hP : P.getLsbD 0 = true) {x : BitVec w} (h : zs P x = 0#w) : x = 0#w := by
  have h0 : (zs P x).getLsbD 0 = false := by rw [h]; simp
  have hm : x.msb = false := by
    unfold zs at h0
    cases hx : x.msb with
    | false => rfl
    | true =>
      rw [hx] at h0
      simp [hw] at h0
      rw [BitVec.getLsbD_eq_getElem hw, h0] at hP
      cases hP
  have h1 : x <<< 1 = 0#w := by simpa [zs, hm] using h
  apply BitVec.eq_of_getLsbD_eq
  intro i hi
  by_cases e : i = w - 1
  · subst e
    rw [BitVec.msb_eq_getLsbD_last] at hm
    simpa using hm
  · have h2 : (x <<< 1).getLsbD (i + 1) = false := by rw [h1]; simp
    rw [BitVec.getLsbD_shiftLeft] at h2
    simp [show i + 1 < w by omega] at h2
    simpa using h2
theorem zs_inj {P : BitVec w} (hw : 0 < w) (hP : P.getLsbD 0 = true) {x y : BitVec w} (h : zs P x = zs P y) : x = y := by
  have h1 : zs P (x ^^^ y) = 0#w := by rw [zs_xor, h, BitVec.xor_self]
  have h2 := zs_inj0 hw hP h1
  exact BitVec.xor_eq_zero_iff.1 h2
theorem feed_zeros_inj {P : BitVec w} (hw : 0 < w) (hP : P.getLsbD 0 = true) : ∀ (n : Nat) {x y : BitVec w}, feed P x (List.replicate n false) = feed P y (List.replicate n false) → x = y
  | 0, _, _, h => h
  | n + 1, x, y, h => by
    rw [List.replicate_succ, feed_cons, feed_cons] at h
    have h1 := zs_inj hw hP (feed_zeros_inj hw hP n h)
    simpa [tpb] using h1

/-- the bits of a list as the highest bits of a register. -/
def toTop (w : Nat) : List Bool → BitVec w
  | [] => 0#w
  | b :: q => tpb w b ^^^ (toTop w q >>> 1)

theorem tpb_msbD (hw : 0 < w) (b : Bool) (i : Nat) : (tpb w b).getMsbD i = (b && decide (i = 0)) := by
  cases b with
  | false => simp [tpb]
  | true =>
    unfold tpb
    rw [if_pos rfl, BitVec.getMsbD_twoPow]
    rw [Bool.eq_iff_iff]
    simp
    omega
theorem toTop_msbD (hw : 0 < w) : ∀ (l : List Bool) (i : Nat), i < w → (toTop w l).getMsbD i = l.getD i false
  | [], i, _ => by simp [toTop]
  | b :: q, i, hi => by
    rw [toTop, BitVec.getMsbD_xor, tpb_msbD hw]
    cases i with
    | zero => simp [BitVec.getMsbD_ushiftRight]
    | succ i =>
      rw [BitVec.getMsbD_ushiftRight]
      simp [hi]
      rw [toTop_msbD hw q i (by omega)]
      simp [List.getD]

theorem toTop_half (hw : 0 < w) {q : List Bool} (h : q.length < w) (P : BitVec w) : zs P (toTop w q >>> 1) = toTop w q := by
  have hm : (toTop w q >>> 1).msb = false := by
    rw [BitVec.msb_eq_getMsbD_zero, BitVec.getMsbD_ushiftRight]
    simp
  unfold zs
  rw [hm]
  simp
  apply BitVec.eq_of_getMsbD_eq
  intro i hi
  rw [BitVec.getMsbD_shiftLeft, BitVec.getMsbD_ushiftRight]
  by_cases e : i + 1 < w
  · simp [e]
  · simp [e]
    rw [toTop_msbD hw q i hi, List.getD_eq_getElem?_getD, List.getElem?_eq_none (by omega)]
    rfl

theorem feed_top (hw : 0 < w) (P : BitVec w) : ∀ (l : List Bool) (r : BitVec w), l.length ≤ w → feed P r l = feed P (r ^^^ toTop w l) (List.replicate l.length false)
  | [], r, _ => by simp [toTop, feed]
  | b :: q, r, h => by
    rw [List.length_cons] at h
    rw [feed_cons, feed_top hw P q _ (by omega), List.length_cons, List.replicate_succ, feed_cons]
    congr 1
    unfold stp
    rw [show tpb w false = 0#w by simp [tpb], BitVec.xor_zero]
    conv => lhs; rw [← toTop_half hw (show q.length < w by omega) P]
    rw [← zs_xor, toTop, BitVec.xor_assoc]

theorem toTop_zero (hw : 0 < w) {l : List Bool} (hl : l.length ≤ w) (h : toTop w l = 0#w) : l = List.replicate l.length false := by
  apply List.ext_getElem
  · simp
  · intro i h1 h2
    have := toTop_msbD hw l i (by omega)
    rw [h] at this
    simp [List.getD, h1] at this
    simp [← this]

theorem toTop_inj (hw : 0 < w) {l m : List Bool} (hl : l.length ≤ w) (hm : m.length = l.length) (h : toTop w l = toTop w m) : l = m := by
  apply List.ext_getElem
  · exact hm.symm
  · intro i h1 h2
    have e1 := toTop_msbD hw l i (by omega)
    have e2 := toTop_msbD hw m i (by omega)
    rw [h, e2] at e1
    simp [List.getD, h1, h2] at e1
    exact e1.symm

/-- a short string of bits that leads from nothing to nothing is nothing. -/
theorem feed_short (hw : 0 < w) {P : BitVec w} (hP : P.getLsbD 0 = true) {l : List Bool} (hl : l.length ≤ w) (h : feed P 0#w l = 0#w) : l = List.replicate l.length false := by
  rw [feed_top hw P l 0#w hl, BitVec.zero_xor] at h
  have := feed_zeros_inj hw hP _ (h.trans (feed_zeros P l.length).symm)
  exact toTop_zero hw hl this

def msbs (c : BitVec w) : List Bool := (List.range w).map c.getMsbD
theorem toTop_msbs (hw : 0 < w) (c : BitVec w) : toTop w (msbs c) = c := by
  apply BitVec.eq_of_getMsbD_eq
  intro i hi
  rw [toTop_msbD hw _ i hi]
  simp [msbs, List.getD, hi]
theorem msbs_length (c : BitVec w) : (msbs c).length = w := by simp [msbs]

-- parity
def parN (f : Nat → Bool) : Nat → Bool
  | 0 => false
  | n + 1 => parN f n ^^ f n
theorem parN_xor (f g : Nat → Bool) : ∀ n, parN (fun i => f i ^^ g i) n = (parN f n ^^ parN g n)
  | 0 => rfl
  | n + 1 => by
    simp only [parN]
    rw [parN_xor f g n]
    cases parN f n <;> cases parN g n <;> cases f n <;> cases g n <;> rfl
theorem parN_congr {f g : Nat → Bool} : ∀ {n}, (∀ i, i < n → f i = g i) → parN f n = parN g n
  | 0, _ => rfl
  | n + 1, h => by
    simp only [parN]
    rw [parN_congr fun i hi => h i (by omega), h n (by omega)]
theorem parN_one (k : Nat) : ∀ n, parN (fun i => decide (i = k)) n = decide (k < n)
  | 0 => by simp [parN]
  | n + 1 => by
    simp only [parN]
    rw [parN_one k n]
    rcases Nat.lt_trichotomy k n with h | h | h
    · simp [h, show ¬ n = k by omega, show k < n + 1 by omega]
    · subst h; simp
    · simp [show ¬ n = k by omega, show ¬ k < n by omega, show ¬ k < n + 1 by omega]
theorem parN_shift (f : Nat → Bool) : ∀ n, parN (fun i => decide (0 < i) && f (i - 1)) (n + 1) = parN f n
  | 0 => by simp [parN]
  | n + 1 => by
    rw [parN, parN_shift f n]
    simp [parN]

def par (r : BitVec w) : Bool := parN r.getLsbD w
theorem par_xor (r s : BitVec w) : par (r ^^^ s) = (par r ^^ par s) := by
  unfold par
  rw [← parN_xor]
  exact parN_congr fun i _ => by rw [BitVec.getLsbD_xor]
theorem par_zero : par 0#w = false := by
  have := par_xor 0#w 0#w
  rw [BitVec.xor_self] at this
  cases h : par 0#w with
  | false => rfl
  | true => rw [h] at this; cases this
theorem par_shl (hw : 0 < w) (r : BitVec w) : par (r <<< 1) = (par r ^^ r.msb) := by
  obtain ⟨n, rfl⟩ : ∃ n, w = n + 1 := ⟨w - 1, by omega⟩
  unfold par
  rw [show r.msb = r.getLsbD n by rw [BitVec.msb_eq_getLsbD_last]; simp]
  have e : parN (r <<< 1).getLsbD (n + 1) = parN (fun i => decide (0 < i) && r.getLsbD (i - 1)) (n + 1) := parN_congr fun i hi => by
    rw [BitVec.getLsbD_shiftLeft]
    rw [Bool.eq_iff_iff]
    simp [hi]
    omega
  rw [e, parN_shift, parN]
  cases parN r.getLsbD n <;> cases r.getLsbD n <;> rfl
theorem par_tpb (hw : 0 < w) (b : Bool) : par (tpb w b) = b := by
  cases b with
  | false => simpa [tpb] using par_zero
  | true =>
    unfold par
    rw [parN_congr (g := fun i => decide (i = w - 1)) fun i hi => ?_, parN_one]
    · simp; omega
    · unfold tpb
      rw [if_pos rfl, BitVec.getLsbD_twoPow]
      rw [Bool.eq_iff_iff]
      simp
      omega
theorem par_stp (hw : 0 < w) {P : BitVec w} (hP : par P = true) (r : BitVec w) (b : Bool) : par (stp P r b) = (par r ^^ b) := by
  unfold stp zs
  rw [par_xor, par_shl hw, par_xor, par_tpb hw]
  cases (r ^^^ tpb w b).msb with
  | false => simp [show par (0#w) = false from par_zero]
  | true => simp [hP]
theorem par_feed (hw : 0 < w) {P : BitVec w} (hP : par P = true) : ∀ (l : List Bool) (r : BitVec w), par (feed P r l) = l.foldl xor (par r)
  | [], r => rfl
  | b :: l, r => by rw [feed_cons, par_feed hw hP l, par_stp hw hP]; rfl
theorem fold_par (f : Nat → Bool) (a : Bool) : ∀ n, ((List.range n).map f).foldl xor a = (a ^^ parN f n)
  | 0 => by simp [parN]
  | n + 1 => by
    rw [List.range_succ, List.map_append, List.foldl_append, fold_par f a n]
    simp [parN]
end

-- the bits of bytes
def bitsOf (c : UInt8) : List Bool := (List.range 8).map fun k => c.toNat.testBit (7 - k)
def bitsL (xs : List UInt8) : List Bool := xs.flatMap bitsOf
def bitAt (xs : List UInt8) (j : Nat) : Bool := (xs.getD (j / 8) 0).toNat.testBit (7 - j % 8)

theorem bitsOf_length (c : UInt8) : (bitsOf c).length = 8 := by simp [bitsOf]
theorem bitsL_cons (c : UInt8) (xs : List UInt8) : bitsL (c :: xs) = bitsOf c ++ bitsL xs := by simp [bitsL]
theorem bitsL_append (xs ys : List UInt8) : bitsL (xs ++ ys) = bitsL xs ++ bitsL ys := by simp [bitsL]
theorem bitsL_length (xs : List UInt8) : (bitsL xs).length = 8 * xs.length := by
  induction xs with
  | nil => rfl
  | cons c xs ih => rw [bitsL_cons, List.length_append, ih, bitsOf_length, List.length_cons]; omega
theorem bitsL_at : ∀ (xs : List UInt8), bitsL xs = (List.range (8 * xs.length)).map (bitAt xs)
  | [] => rfl
  | c :: xs => by
    rw [bitsL_cons, bitsL_at xs, List.length_cons, Nat.mul_add, Nat.mul_one, Nat.add_comm, List.range_add, List.map_append]
    congr 1
    rw [List.map_map]
    apply List.map_congr_left
    intro k hk
    show bitAt xs k = bitAt (c :: xs) (8 + k)
    unfold bitAt
    rw [show (8 + k) / 8 = k / 8 + 1 by omega, show (8 + k) % 8 = k % 8 by omega]
    rfl

theorem zip_self {α β : Type} (f : α → α → β) : ∀ l : List α, List.zipWith f l l = l.map fun a => f a a
  | [] => rfl
  | a :: l => by rw [List.zipWith_cons_cons, zip_self f l, List.map_cons]

theorem bitsOf_xor (a b : UInt8) : bitsOf (a ^^^ b) = List.zipWith xor (bitsOf a) (bitsOf b) := by
  unfold bitsOf
  rw [List.zipWith_map, zip_self]
  apply List.map_congr_left
  intro k _
  rw [UInt8.toNat_xor, Nat.testBit_xor]
theorem bitsL_xor : ∀ (xs ys : List UInt8), xs.length = ys.length → bitsL (List.zipWith (fun a b => a ^^^ b) xs ys) = List.zipWith xor (bitsL xs) (bitsL ys)
  | [], [], _ => rfl
  | [], _ :: _, h => by simp at h
  | _ :: _, [], h => by simp at h
  | a :: xs, b :: ys, h => by
    rw [List.zipWith_cons_cons, bitsL_cons, bitsL_cons, bitsL_cons, bitsL_xor xs ys (by simpa using h), bitsOf_xor, List.zipWith_append (by simp [bitsOf_length])]

theorem bitsOf_inj : ∀ a b : UInt8, bitsOf a = bitsOf b → a = b := by
  have h : ∀ n : Fin 256, ((List.range 8).map fun k => n.val.testBit (7 - k)).foldl (fun n b => 2 * n + b.toNat) 0 = n.val := by decide +kernel
  have h2 : ∀ a : UInt8, (bitsOf a).foldl (fun n b => 2 * n + b.toNat) 0 = a.toNat := fun a => h ⟨a.toNat, a.toNat_lt⟩
  intro a b e
  apply UInt8.toNat_inj.1
  rw [← h2 a, e, h2 b]
theorem bitsL_inj : ∀ {xs ys : List UInt8}, xs.length = ys.length → bitsL xs = bitsL ys → xs = ys
  | [], [], _, _ => rfl
  | [], _ :: _, h, _ => by simp at h
  | _ :: _, [], h, _ => by simp at h
  | a :: xs, b :: ys, h, e => by
    rw [bitsL_cons, bitsL_cons] at e
    obtain ⟨h1, h2⟩ := List.append_inj e (by simp [bitsOf_length])
    rw [bitsOf_inj a b h1, bitsL_inj (by simpa using h) h2]

-- a bit is changed
def fl (xs : List UInt8) (k : Nat) : List UInt8 := xs.set (k / 8) (xs.getD (k / 8) 0 ^^^ (128 >>> UInt8.ofNat (k % 8)))
theorem fl_length (xs : List UInt8) (k : Nat) : (fl xs k).length = xs.length := by simp [fl]
theorem one_bit : ∀ i : Fin 8, ∀ j : Fin 8, (128 >>> UInt8.ofNat i.val : UInt8).toNat.testBit (7 - j.val) = decide (j = i) := by decide +kernel
theorem fl_at (xs : List UInt8) (k j : Nat) (hk : k < 8 * xs.length) : bitAt (fl xs k) j = (bitAt xs j ^^ decide (j = k)) := by
  unfold bitAt fl
  by_cases e : j / 8 = k / 8
  · rw [e, List.getD_eq_getElem?_getD, List.getElem?_set_self (by omega)]
    simp only [Option.getD_some]
    rw [UInt8.toNat_xor, Nat.testBit_xor]
    have := one_bit ⟨k % 8, by omega⟩ ⟨j % 8, by omega⟩
    simp only at this
    rw [this]
    congr 1
    rw [decide_eq_decide, Fin.mk.injEq]
    omega
  · rw [List.getD_eq_getElem?_getD, List.getElem?_set_ne (by omega), ← List.getD_eq_getElem?_getD]
    simp [show ¬ j = k by intro h; subst h; exact e rfl]

-- strings with a check value
section
variable {w : Nat}
def crc (P : BitVec w) (xs : List UInt8) : BitVec w := ~~~ feed P (BitVec.allOnes w) (bitsL xs)

/-- the last m bytes are the check value of those in front of them. -/
def vok (P : BitVec w) (cb : BitVec w → List UInt8) (m : Nat) (xs : List UInt8) : Prop := xs.drop (xs.length - m) = cb (crc P (xs.take (xs.length - m)))

structure Good (P : BitVec w) (cb : BitVec w → List UInt8) (m : Nat) : Prop where
  w0 : 0 < w
  wm : w = 8 * m
  low : P.getLsbD 0 = true
  odd : par P = true
  bits : ∀ c, bitsL (cb c) = msbs c

variable {P : BitVec w} {cb : BitVec w → List UInt8} {m : Nat}
theorem Good.length (g : Good P cb m) (c : BitVec w) : (cb c).length = m := by
  have := congrArg List.length (g.bits c)
  rw [bitsL_length, msbs_length] at this
  have := g.wm
  omega

theorem Good.ok_iff (g : Good P cb m) {xs : List UInt8} (h : m ≤ xs.length) : vok P cb m xs ↔ feed P (BitVec.allOnes w) (bitsL xs) = feed P (BitVec.allOnes w) (List.replicate w false) := by
  have hw := g.wm
  have e : bitsL xs = bitsL (xs.take (xs.length - m)) ++ bitsL (xs.drop (xs.length - m)) := by rw [← bitsL_append, List.take_append_drop]
  have hl : (xs.drop (xs.length - m)).length = m := by rw [List.length_drop]; omega
  have hl2 : (bitsL (xs.drop (xs.length - m))).length = w := by rw [bitsL_length, hl]; omega
  rw [e, feed_append, feed_top g.w0 P _ _ (by omega), hl2]
  unfold vok crc
  constructor
  · intro h
    rw [h, g.bits, toTop_msbs g.w0]
    congr 1
    rw [BitVec.not_def, ← BitVec.xor_assoc, BitVec.xor_comm _ (BitVec.allOnes w), BitVec.xor_assoc, BitVec.xor_self, BitVec.xor_zero]
  · intro h
    have h2 := feed_zeros_inj g.w0 g.low _ h
    apply bitsL_inj (by rw [hl, g.length])
    rw [g.bits]
    apply toTop_inj g.w0 (by omega) (by rw [msbs_length, hl2])
    rw [toTop_msbs g.w0]
    generalize feed P (BitVec.allOnes w) (bitsL (xs.take (xs.length - m))) = r at h2 ⊢
    generalize toTop w _ = t at h2 ⊢
    rw [BitVec.not_def, ← h2]
    rw [show r ^^^ t ^^^ r = t ^^^ (r ^^^ r) by ac_rfl, BitVec.xor_self, BitVec.xor_zero]

theorem Good.made (g : Good P cb m) (xs : List UInt8) : vok P cb m (xs ++ cb (crc P xs)) := by
  unfold vok
  rw [List.length_append, g.length, Nat.add_sub_cancel, List.drop_left' rfl, List.take_left' rfl]

/-- an odd number of changed bits is found. -/
theorem Good.parity (g : Good P cb m) {xs ys : List UInt8} (hx : m ≤ xs.length) (hl : ys.length = xs.length) (h1 : vok P cb m xs) (h2 : vok P cb m ys) :
    parN (bitAt xs) (8 * xs.length) = parN (bitAt ys) (8 * xs.length) := by
  rw [g.ok_iff hx] at h1
  rw [g.ok_iff (by omega)] at h2
  have e := congrArg par (h1.trans h2.symm)
  rw [par_feed g.w0 g.odd, par_feed g.w0 g.odd, bitsL_at, bitsL_at, fold_par, fold_par, hl] at e
  cases par (BitVec.allOnes w) <;> simpa using e

theorem range_split (a b n : Nat) (h : a + b ≤ n) : List.range n = List.range a ++ (List.range b).map (a + ·) ++ (List.range (n - (a + b))).map (a + b + ·) := by
  rw [← List.range_add, ← List.range_add]
  congr 1
  omega

theorem map_false {f : Nat → Bool} : ∀ {l : List Nat}, (∀ i ∈ l, f i = false) → l.map f = List.replicate l.length false
  | [], _ => rfl
  | a :: l, h => by
    rw [List.map_cons, h a (by simp), map_false fun i hi => h i (by simp [hi])]
    rfl

/-- a burst is found. -/
theorem Good.burst (g : Good P cb m) {xs ys : List UInt8} (hx : m ≤ xs.length) (hl : ys.length = xs.length) (h1 : vok P cb m xs) (e : Nat → Bool) (at_ : Nat)
    (he : ∀ j, j < 8 * xs.length → bitAt ys j = (bitAt xs j ^^ e j)) (ha : at_ ≤ 8 * xs.length) (hb : ∀ j, j < 8 * xs.length → e j = true → at_ ≤ j ∧ j < at_ + w) :
    vok P cb m ys ↔ ∀ j, j < 8 * xs.length → e j = false := by
  rw [g.ok_iff (by omega : m ≤ ys.length), ← (g.ok_iff hx).1 h1]
  have hz : bitsL ys = List.zipWith xor (bitsL xs) ((List.range (8 * xs.length)).map e) := by
    rw [bitsL_at, bitsL_at xs, hl, List.zipWith_map, zip_self]
    apply List.map_congr_left
    intro j hj
    exact he j (by simpa using hj)
  rw [hz]
  have hf := feed_xor P (bitsL xs) ((List.range (8 * xs.length)).map e) (BitVec.allOnes w) 0#w (by simp [bitsL_length])
  rw [BitVec.xor_zero] at hf
  rw [hf]
  have hn : feed P 0#w ((List.range (8 * xs.length)).map e) = 0#w ↔ ∀ j, j < 8 * xs.length → e j = false := by
    constructor
    · intro h
      have hk : at_ + min w (8 * xs.length - at_) ≤ 8 * xs.length := by omega
      rw [range_split at_ (min w (8 * xs.length - at_)) _ hk, List.map_append, List.map_append, feed_append, feed_append] at h
      have f1 : (List.range at_).map e = List.replicate at_ false := by
        have := map_false (f := e) (l := List.range at_) fun i hi => by
          have hi : i < at_ := by simpa using hi
          cases hc : e i with
          | false => rfl
          | true => have := hb i (by omega) hc; omega
        simpa using this
      have f3 : ((List.range (8 * xs.length - (at_ + min w (8 * xs.length - at_)))).map (at_ + min w (8 * xs.length - at_) + ·)).map e = List.replicate (8 * xs.length - (at_ + min w (8 * xs.length - at_))) false := by
        have := map_false (f := e) (l := (List.range (8 * xs.length - (at_ + min w (8 * xs.length - at_)))).map (at_ + min w (8 * xs.length - at_) + ·)) fun i hi => by
          rw [List.mem_map] at hi
          obtain ⟨j, hj, rfl⟩ := hi
          have hj : j < 8 * xs.length - (at_ + min w (8 * xs.length - at_)) := by simpa using hj
          cases hc : e (at_ + min w (8 * xs.length - at_) + j) with
          | false => rfl
          | true => have := hb _ (by omega) hc; omega
        simpa using this
      rw [f1, f3, feed_zeros] at h
      have h2 := feed_zeros_inj g.w0 g.low _ (h.trans (feed_zeros P _).symm)
      have h3 := feed_short g.w0 g.low (by simp; omega) h2
      intro j hj
      cases hc : e j with
      | false => rfl
      | true =>
        have hh := hb j hj hc
        have h4 := congrArg (fun l => l[j - at_]?) h3
        simp only [List.length_map, List.length_range, List.getElem?_map] at h4
        rw [List.getElem?_range (by omega), List.getElem?_replicate, if_pos (by omega)] at h4
        simp [show at_ + (j - at_) = j by omega, hc] at h4
    · intro h
      have := map_false (f := e) (l := List.range (8 * xs.length)) fun i hi => h i (by simpa using hi)
      rw [this]
      exact feed_zeros P _
  rw [← hn]
  constructor
  · intro h
    have h2 := congrArg (feed P (BitVec.allOnes w) (bitsL xs) ^^^ ·) h
    rw [← BitVec.xor_assoc, BitVec.xor_self, BitVec.zero_xor] at h2
    exact h2
  · intro h
    rw [h, BitVec.xor_zero]
end

-- the two check values
def P32 : BitVec 32 := 0x08204213#32
def P8 : BitVec 8 := 0x61#8
def cb32 (c : BitVec 32) : List UInt8 := [UInt8.ofNat (c.toNat / 16777216), UInt8.ofNat (c.toNat / 65536), UInt8.ofNat (c.toNat / 256), UInt8.ofNat c.toNat]
def cb8 (c : BitVec 8) : List UInt8 := [UInt8.ofNat c.toNat]

theorem bitsOf_ofNat (n : Nat) : bitsOf (UInt8.ofNat n) = (List.range 8).map fun k => n.testBit (7 - k) := by
  unfold bitsOf
  apply List.map_congr_left
  intro k hk
  have hk : k < 8 := by simpa using hk
  rw [UInt8.toNat_ofNat', Nat.testBit_mod_two_pow]
  simp [show 7 - k < 8 by omega]
theorem bits_cb8 (c : BitVec 8) : bitsL (cb8 c) = msbs c := by
  rw [cb8, bitsL_cons, show bitsL [] = [] from rfl, List.append_nil, bitsOf_ofNat]
  unfold msbs
  apply List.map_congr_left
  intro k hk
  have hk : k < 8 := by simpa using hk
  rw [BitVec.getMsbD, BitVec.testBit_toNat]
  simp [hk]
theorem bits_cb32 (c : BitVec 32) : bitsL (cb32 c) = msbs c := by
  have h : ∀ k, c.toNat.testBit k = c.getLsbD k := fun k => BitVec.testBit_toNat c
  simp only [cb32, bitsL_cons, show bitsL [] = [] from rfl, List.append_nil, bitsOf_ofNat, msbs, show (16777216 : Nat) = 2 ^ 24 from rfl, show (65536 : Nat) = 2 ^ 16 from rfl, show (256 : Nat) = 2 ^ 8 from rfl, Nat.testBit_div_two_pow, h]
  rfl

theorem good32 : Good P32 cb32 4 := ⟨by decide, rfl, by decide, by decide, bits_cb32⟩
theorem good8 : Good P8 cb8 1 := ⟨by decide, rfl, by decide, by decide, bits_cb8⟩
end Go.Proofs.Ytdhbgolbfkejcaa
