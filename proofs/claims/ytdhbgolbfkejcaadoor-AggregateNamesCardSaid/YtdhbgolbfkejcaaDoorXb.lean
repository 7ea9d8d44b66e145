/-
  Rules for walks, merged.
-/
import Derived.Test.YtdhbgolbfkejcaaDoorXa
import Derived.Test.YtdhbgolbfkejcaaDoorRows
import Derived.RangeFuncLeaves
import Derived.DeepKeys
import Derived.Lib.AppendZerosOnto
import Derived.Laws.BitsAllLaws
import Derived.Laws.Bits128
/-
  Arrays in own blocks, elements of own rows, calls of function values. No program is named here.
-/
namespace Go.Hs
open Go Go.RowKit

theorem takeN_all : ∀ (cs : List Value), takeN 0 cs.length cs = some cs
  | [] => rfl
  | c :: cs => by simp only [List.length_cons, takeN, takeN_all cs]
theorem takeN_full {n : Nat} {cs : List Value} (h : cs.length = n) : takeN 0 n cs = some cs := h ▸ takeN_all cs
theorem putN_nil (cs : List Value) : putN 0 [] cs = some cs := by cases cs <;> rfl
theorem putN_all : ∀ (us cs : List Value), us.length = cs.length → putN 0 us cs = some us
  | [], [], _ => rfl
  | [], _ :: _, h => by simp at h
  | _ :: _, [], h => by simp at h
  | u :: us, c :: cs, h => by simp only [putN, putN_all us cs (by simpa using h)]
theorem putN_one : ∀ (i : Nat) (v : Value) (cs : List Value), i < cs.length → putN i [v] cs = some (cs.set i v)
  | _, _, [], h => by simp at h
  | 0, v, c :: cs, _ => by simp [putN, putN_nil]
  | i + 1, v, c :: cs, h => by simp only [putN, putN_one i v cs (by simpa using h), List.set_cons_succ]

section
variable {C : Ctx} {fr : Fr} {Γ Γ' Γ1 : List OA} {Φ : List SP}
  {d : Nat} {ty : TypeId} {pos : String} {aft : Array Edge} {g : Option (Nat × Bool)}

theorem R_idxArr {t e : TypeId} {x y : Operand} {b len i : Nat} {kd : IntKind} {ii : Int} (hx : evO fr x = some (.pointer (some ⟨b, 0, none⟩))) (hy : evO fr y = some (.int kd ii))
    (ht : C.P.underlying t = some (.array len e)) (hs : ∀ w, (sizeOf e).run C.P w = .ok 1 w) (hii : ii = (i : Int)) (hi : i < len) :
    Runs C fr Γ Φ ⟨some d, .indexAddr t x y, ty, pos, aft, g⟩ (.pointer (some ⟨b, i, none⟩)) := by
  subst hii
  refine Runs.pure fun a w ha hw => ?_
  have h2 : (i : Int) < (len : Int) := by omega
  simp [execOp, evO_sound ha hx, evO_sound ha hy, Instr.indexAt, asIntOf, run_underlying ht, Instr.sureAddr, hs, hi, Addr.add_lit]

/-- a store of one cell at some place of an own block. -/
theorem E_storeAt {t bt : TypeId} {x y : Operand} {b off : Nat} {cs : List Value} {v : Value} (hx : evO fr x = some (.pointer (some ⟨b, off, none⟩))) (hy : evO fr y = some v)
    (hp : Pick (.blk b bt cs) Γ Γ') (h1 : v.oneCell' = true) (hs : ∀ w, (sizeOf t).run C.P w = .ok 1 w) (hn : off < cs.length) :
    Effs C fr Γ Φ ⟨none, .store t x y, ty, pos, aft, g⟩ (X := Unit) (fun _ => True) (fun _ => undef) (fun _ => .blk b bt (cs.set off v) :: Γ') (fun _ => Φ) :=
  E_store (us := [v]) hx hy hp (CellsE.one (OneC.lit h1)) hs (Ones.cons (OneC.lit h1) Ones.nil) (putN_one off v cs hn)

/-- a whole block written over. -/
theorem E_storeAll {t bt : TypeId} {x y : Operand} {b : Nat} {cs us : List Value} (hx : evO fr x = some (.pointer (some ⟨b, 0, none⟩))) (hy : evO fr y = some (.agg us.toArray))
    (hp : Pick (.blk b bt cs) Γ Γ') (h1 : ∀ u ∈ us, u.oneCell' = true) (hs : ∀ w, (sizeOf t).run C.P w = .ok us.length w) (hn : us.length = cs.length) :
    Effs C fr Γ Φ ⟨none, .store t x y, ty, pos, aft, g⟩ (X := Unit) (fun _ => True) (fun _ => undef) (fun _ => .blk b bt us :: Γ') (fun _ => Φ) :=
  E_store (us := us) hx hy hp (fun _ _ _ => rfl) hs (fun u hu => OneC.lit (h1 u hu)) (putN_all us cs hn)

/-- an element's address in an own row. -/
theorem R_idxRow {t e rt : TypeId} {x y : Operand} {v : Value} {size n : Nat} {xs : List Value} {kd : IntKind} {ii : Int} {i : Nat} (hx : evO fr x = some v) (hy : evO fr y = some (.int kd ii)) (hp : Pick (.row v rt size n xs) Γ Γ')
    (ht : C.P.underlying t = some (.slice e)) (hs : ∀ w, (sizeOf e).run C.P w = .ok size w) (hii : ii = (i : Int)) (hi : i < n) :
    Runs C fr Γ Φ ⟨some d, .indexAddr t x y, ty, pos, aft, g⟩ (idxV size i v) := by
  subst hii
  refine Runs.pure fun a w ha hw => ?_
  have hown := (pick_holds hp hw).own.1
  rcases hown with ⟨hl, h2⟩
  rcases h2 with ⟨h2, _⟩ | ⟨b, cap, cur, hv, _, hb, hc, hm, hsz, htk⟩
  · omega
  · simp [execOp, evO_sound ha hx, evO_sound ha hy, hv, run_indexAt_some ht hs hi, idxV]

/-- a one-cell element of an own row is loaded. -/
theorem R_loadRow {t rt : TypeId} {x : Operand} {v u : Value} {n i : Nat} {xs : List Value} (hx : evO fr x = some (idxV 1 i v)) (hp : Pick (.row v rt 1 n xs) Γ Γ') (hagg : ∀ w, (isAgg t).run C.P w = .ok false w)
    (hi : i < n) (hc : xs[i]? = some u) : Runs C fr Γ Φ ⟨some d, .load t x, ty, pos, aft, g⟩ u := by
  refine Runs.pure fun a w ha hw => ?_
  have hown := (pick_holds hp hw).own.1
  rcases hown with ⟨hl, h2⟩
  rcases h2 with ⟨h2, _⟩ | ⟨b, cap, cur, hv, _, hb, hcc, hm, hsz, htk⟩
  · omega
  · subst hv
    have h0 : w.cell? ((⟨b, 0, none⟩ : Addr).add i) = some u := by
      rw [Addr.add_lit, Nat.zero_add]
      rw [← htk, List.getElem?_take_of_lt (by omega)] at hc
      simp only [World.cell?, hb]
      simpa using hc
    simp [execOp, evO_sound ha hx, idxV, Instr.loadAt, Instr.sureAddr, run_loadVar_one hagg h0]

/-- a one-cell element of an own row is written. -/
theorem E_storeRow {t rt : TypeId} {x y : Operand} {v u : Value} {n i : Nat} {xs : List Value} (hx : evO fr x = some (idxV 1 i v)) (hy : evO fr y = some u) (hp : Pick (.row v rt 1 n xs) Γ Γ') (h1 : u.oneCell' = true)
    (hs : ∀ w, (sizeOf t).run C.P w = .ok 1 w) (hi : i < n) :
    Effs C fr Γ Φ ⟨none, .store t x y, ty, pos, aft, g⟩ (X := Unit) (fun _ => True) (fun _ => undef) (fun _ => .row v rt 1 n (xs.set i u) :: Γ') (fun _ => Φ) := by
  refine ⟨fun _ => AllIn.refl _, fun R a w ha hw => ?_⟩
  have hw' := pick_holds (pick_app hp R) hw
  have hown := hw'.own.1
  rcases hown with ⟨hl, h2⟩
  rcases h2 with ⟨h2, _⟩ | ⟨b, cap, cur, hv, _, hb, hcc, hm, hsz, htk⟩
  · omega
  · subst hv
    have hu : u.cells = [u].toArray := by cases u <;> first | rfl | cases h1
    have hb' : w.heap[b]? = some (.cells cur.toList.toArray rt (0, 0)) := by simpa using hb
    have hst := run_storeVar_own (P := C.P) (w := w) (t := t) (us := [u]) (ds := cur.toList.set i u) (off := i) hb' hs hu (by simpa using h1) (putN_one i u cur.toList (by simp; omega))
    refine .skip (w' := w.setRow b (cur.toList.set i u).toArray) ?_ ⟨(), trivial, rfl, setRow_row hw' hb (by simp) ?_⟩
    · simp [execOp, evO_sound ha hx, evO_sound ha hy, Instr.storeAt, Instr.sureAddr, idxV, Addr.add_lit, hst]
    · rw [← htk]
      simp only [Nat.mul_one, List.take_set]

end

section
variable {C : Ctx} {ops : Array Oper} {l : List Oper} {fr : Fr} {Γ Γ1 : List OA} {Φ : List SP} {Q : Exit → Act → World → Prop}
/-- nothing, told as an own row. -/
theorem Holds.nilRow {w : World} (t : TypeId) (size : Nat) (h : Holds C Γ Φ w) : Holds C (.row (.slice none 0 0) t size 0 [] :: Γ) Φ w := by
  have hf : ∀ k, ¬ (OA.row (.slice none 0 0) t size 0 []).fp k := fun k (e : (none : Option Nat) = some k) => by cases e
  refine h.move (Mod.refl _ _) ⟨⟨by simp, .inl ⟨rfl, rfl⟩⟩, fun k hk => (hf k hk).elim, h.own⟩ fun k _ hk => ?_
  rcases fpL_cons.1 hk with e | e
  · exact (hf k e).elim
  · exact e
theorem W_nilRow {c : Code} (t : TypeId) (size : Nat) (h : W C c fr (.row (.slice none 0 0) t size 0 [] :: Γ) Φ Q) : W C c fr Γ Φ Q := fun a w ha hw => h a w ha (hw.nilRow t size)
theorem WQ_nilRow {e : Exit} (t : TypeId) (size : Nat) (h : WQ C e fr (.row (.slice none 0 0) t size 0 [] :: Γ) Φ Q) : WQ C e fr Γ Φ Q := fun a w ha hw => h a w ha (hw.nilRow t size)

theorem WL_letgo {v : Value} {t : TypeId} {size n : Nat} {xs : List Value} (hp : Pick (.row v t size n xs) Γ Γ1) (h : WL C ops l fr Γ1 (Sl size v n xs :: Φ) Q) : WL C ops l fr Γ Φ Q := fun a w ha hw => h a w ha (pick_holds hp hw).letgo
theorem WQ_letgo {e : Exit} {v : Value} {t : TypeId} {size n : Nat} {xs : List Value} (hp : Pick (.row v t size n xs) Γ Γ1) (h : WQ C e fr Γ1 (Sl size v n xs :: Φ) Q) : WQ C e fr Γ Φ Q := fun a w ha hw => h a w ha (pick_holds hp hw).letgo
end

theorem ent_alI {Φ : List SP} {n : Nat} {ψ : Nat → SP} (h : ∀ i, i < n → Ent Φ (ψ i)) : Ent Φ (Al n ψ) := fun w O hw i hi => h i hi w O hw

section
variable {C : Ctx} {fr : Fr} {Γ Γ' : List OA} {Φ : List SP} {d : Nat} {ty : TypeId} {pos : String} {aft : Array Edge} {g : Option (Nat × Bool)}

end
end Go.Hs

/-
  The mathematics of check values: a register that is fed with bits. No program is named here.
-/
namespace Go.Proofs.YtdhbgolbfkejcaaDoor.C03
open Go

section
variable {w : Nat}

def tpb (w : Nat) (b : Bool) : BitVec w := if b then BitVec.twoPow w (w - 1) else 0#w
def zs (P r : BitVec w) : BitVec w := (r <<< 1) ^^^ (if r.msb then P else 0#w)
def stp (P r : BitVec w) (b : Bool) : BitVec w := zs P (r ^^^ tpb w b)
def feed (P r : BitVec w) (l : List Bool) : BitVec w := l.foldl (stp P) r

theorem feed_nil (P r : BitVec w) : feed P r [] = r := rfl
theorem feed_cons (P r : BitVec w) (b : Bool) (l : List Bool) : feed P r (b :: l) = feed P (stp P r b) l := rfl
theorem feed_append (P r : BitVec w) (l m : List Bool) : feed P r (l ++ m) = feed P (feed P r l) m := by simp [feed]

theorem zs_xor (P r s : BitVec w) : zs P (r ^^^ s) = zs P r ^^^ zs P s := by
  unfold zs
  rw [BitVec.shiftLeft_xor_distrib, BitVec.msb_xor]
  cases r.msb <;> cases s.msb
  · simp
  · simp; ac_rfl
  · simp; ac_rfl
  · simp only [Bool.xor_self, Bool.false_eq_true, if_false, if_true, BitVec.xor_zero]
    rw [show r <<< 1 ^^^ P ^^^ (s <<< 1 ^^^ P) = r <<< 1 ^^^ s <<< 1 ^^^ (P ^^^ P) by ac_rfl, BitVec.xor_self, BitVec.xor_zero]
theorem zs_inj0 {P : BitVec w} (hw : 0 < w) (hP : P.getLsbD 0 = true) {x : BitVec w} (h : zs P x = 0#w) : x = 0#w := by
  have h0 : (zs P x).getLsbD 0 = false := by rw [h]; simp
  have hm : x.msb = false := by
    unfold zs at h0
    cases hx : x.msb with
    | false => rfl
    | true =>
      rw [hx] at h0
      simp [hw] at h0
      rw [BitVec.getLsbD_eq_getElem hw, h0] at hP
      cases hP
  have h1 : x <<< 1 = 0#w := by simpa [zs, hm] using h
  apply BitVec.eq_of_getLsbD_eq
  intro i hi
  by_cases e : i = w - 1
  · subst e
    rw [BitVec.msb_eq_getLsbD_last] at hm
    simpa using hm
  · have h2 : (x <<< 1).getLsbD (i + 1) = false := by rw [h1]; simp
    rw [BitVec.getLsbD_shiftLeft] at h2
    simp [show i + 1 < w by omega] at h2
    simpa using h2
theorem zs_inj {P : BitVec w} (hw : 0 < w) (hP : P.getLsbD 0 = true) {x y : BitVec w} (h : zs P x = zs P y) : x = y := by
  have h1 : zs P (x ^^^ y) = 0#w := by rw [zs_xor, h, BitVec.xor_self]
  have h2 := zs_inj0 hw hP h1
  exact BitVec.xor_eq_zero_iff.1 h2
theorem feed_zeros_inj {P : BitVec w} (hw : 0 < w) (hP : P.getLsbD 0 = true) : ∀ (n : Nat) {x y : BitVec w}, feed P x (List.replicate n false) = feed P y (List.replicate n false) → x = y
  | 0, _, _, h => h
  | n + 1, x, y, h => by
    rw [List.replicate_succ, feed_cons, feed_cons] at h
    have h1 := zs_inj hw hP (feed_zeros_inj hw hP n h)
    simpa [tpb] using h1

/-- the bits of a list as the highest bits of a register. -/
def toTop (w : Nat) : List Bool → BitVec w
  | [] => 0#w
  | b :: q => tpb w b ^^^ (toTop w q >>> 1)

theorem tpb_msbD (hw : 0 < w) (b : Bool) (i : Nat) : (tpb w b).getMsbD i = (b && decide (i = 0)) := by
  cases b with
  | false => simp [tpb]
  | true =>
    unfold tpb
    rw [if_pos rfl, BitVec.getMsbD_twoPow]
    rw [Bool.eq_iff_iff]
    simp
    omega
theorem toTop_msbD (hw : 0 < w) : ∀ (l : List Bool) (i : Nat), i < w → (toTop w l).getMsbD i = l.getD i false
  | [], i, _ => by simp [toTop]
  | b :: q, i, hi => by
    rw [toTop, BitVec.getMsbD_xor, tpb_msbD hw]
    cases i with
    | zero => simp [BitVec.getMsbD_ushiftRight]
    | succ i =>
      rw [BitVec.getMsbD_ushiftRight]
      simp [hi]
      rw [toTop_msbD hw q i (by omega)]
      simp [List.getD]

theorem toTop_half (hw : 0 < w) {q : List Bool} (h : q.length < w) (P : BitVec w) : zs P (toTop w q >>> 1) = toTop w q := by
  have hm : (toTop w q >>> 1).msb = false := by
    rw [BitVec.msb_eq_getMsbD_zero, BitVec.getMsbD_ushiftRight]
    simp
  unfold zs
  rw [hm]
  simp
  apply BitVec.eq_of_getMsbD_eq
  intro i hi
  rw [BitVec.getMsbD_shiftLeft, BitVec.getMsbD_ushiftRight]
  by_cases e : i + 1 < w
  · simp [e]
  · simp [e]
    rw [toTop_msbD hw q i hi, List.getD_eq_getElem?_getD, List.getElem?_eq_none (by omega)]
    rfl

theorem feed_top (hw : 0 < w) (P : BitVec w) : ∀ (l : List Bool) (r : BitVec w), l.length ≤ w → feed P r l = feed P (r ^^^ toTop w l) (List.replicate l.length false)
  | [], r, _ => by simp [toTop, feed]
  | b :: q, r, h => by
    rw [List.length_cons] at h
    rw [feed_cons, feed_top hw P q _ (by omega), List.length_cons, List.replicate_succ, feed_cons]
    congr 1
    unfold stp
    rw [show tpb w false = 0#w by simp [tpb], BitVec.xor_zero]
    conv => lhs; rw [← toTop_half hw (show q.length < w by omega) P]
    rw [← zs_xor, toTop, BitVec.xor_assoc]

theorem toTop_inj (hw : 0 < w) {l m : List Bool} (hl : l.length ≤ w) (hm : m.length = l.length) (h : toTop w l = toTop w m) : l = m := by
  apply List.ext_getElem
  · exact hm.symm
  · intro i h1 h2
    have e1 := toTop_msbD hw l i (by omega)
    have e2 := toTop_msbD hw m i (by omega)
    rw [h, e2] at e1
    simp [List.getD, h1, h2] at e1
    exact e1.symm

def msbs (c : BitVec w) : List Bool := (List.range w).map c.getMsbD
theorem toTop_msbs (hw : 0 < w) (c : BitVec w) : toTop w (msbs c) = c := by
  apply BitVec.eq_of_getMsbD_eq
  intro i hi
  rw [toTop_msbD hw _ i hi]
  simp [msbs, List.getD, hi]
theorem msbs_length (c : BitVec w) : (msbs c).length = w := by simp [msbs]

-- parity
def parN (f : Nat → Bool) : Nat → Bool
  | 0 => false
  | n + 1 => parN f n ^^ f n
theorem parN_xor (f g : Nat → Bool) : ∀ n, parN (fun i => f i ^^ g i) n = (parN f n ^^ parN g n)
  | 0 => rfl
  | n + 1 => by
    simp only [parN]
    rw [parN_xor f g n]
    cases parN f n <;> cases parN g n <;> cases f n <;> cases g n <;> rfl
theorem parN_congr {f g : Nat → Bool} : ∀ {n}, (∀ i, i < n → f i = g i) → parN f n = parN g n
  | 0, _ => rfl
  | n + 1, h => by
    simp only [parN]
    rw [parN_congr fun i hi => h i (by omega), h n (by omega)]
theorem parN_one (k : Nat) : ∀ n, parN (fun i => decide (i = k)) n = decide (k < n)
  | 0 => by simp [parN]
  | n + 1 => by
    simp only [parN]
    rw [parN_one k n]
    rcases Nat.lt_trichotomy k n with h | h | h
    · simp [h, show ¬ n = k by omega, show k < n + 1 by omega]
    · subst h; simp
    · simp [show ¬ n = k by omega, show ¬ k < n by omega, show ¬ k < n + 1 by omega]
theorem parN_shift (f : Nat → Bool) : ∀ n, parN (fun i => decide (0 < i) && f (i - 1)) (n + 1) = parN f n
  | 0 => by simp [parN]
  | n + 1 => by
    rw [parN, parN_shift f n]
    simp [parN]

def par (r : BitVec w) : Bool := parN r.getLsbD w
theorem par_xor (r s : BitVec w) : par (r ^^^ s) = (par r ^^ par s) := by
  unfold par
  rw [← parN_xor]
  exact parN_congr fun i _ => by rw [BitVec.getLsbD_xor]
theorem par_zero : par 0#w = false := by
  have := par_xor 0#w 0#w
  rw [BitVec.xor_self] at this
  cases h : par 0#w with
  | false => rfl
  | true => rw [h] at this; cases this
theorem par_shl (hw : 0 < w) (r : BitVec w) : par (r <<< 1) = (par r ^^ r.msb) := by
  obtain ⟨n, rfl⟩ : ∃ n, w = n + 1 := ⟨w - 1, by omega⟩
  unfold par
  rw [show r.msb = r.getLsbD n by rw [BitVec.msb_eq_getLsbD_last]; simp]
  have e : parN (r <<< 1).getLsbD (n + 1) = parN (fun i => decide (0 < i) && r.getLsbD (i - 1)) (n + 1) := parN_congr fun i hi => by
    rw [BitVec.getLsbD_shiftLeft]
    rw [Bool.eq_iff_iff]
    simp [hi]
    omega
  rw [e, parN_shift, parN]
  cases parN r.getLsbD n <;> cases r.getLsbD n <;> rfl
theorem par_tpb (hw : 0 < w) (b : Bool) : par (tpb w b) = b := by
  cases b with
  | false => simpa [tpb] using par_zero
  | true =>
    unfold par
    rw [parN_congr (g := fun i => decide (i = w - 1)) fun i hi => ?_, parN_one]
    · simp; omega
    · unfold tpb
      rw [if_pos rfl, BitVec.getLsbD_twoPow]
      rw [Bool.eq_iff_iff]
      simp
      omega
theorem par_stp (hw : 0 < w) {P : BitVec w} (hP : par P = true) (r : BitVec w) (b : Bool) : par (stp P r b) = (par r ^^ b) := by
  unfold stp zs
  rw [par_xor, par_shl hw, par_xor, par_tpb hw]
  cases (r ^^^ tpb w b).msb with
  | false => simp [show par (0#w) = false from par_zero]
  | true => simp [hP]
theorem par_feed (hw : 0 < w) {P : BitVec w} (hP : par P = true) : ∀ (l : List Bool) (r : BitVec w), par (feed P r l) = l.foldl xor (par r)
  | [], r => rfl
  | b :: l, r => by rw [feed_cons, par_feed hw hP l, par_stp hw hP]; rfl
theorem fold_par (f : Nat → Bool) (a : Bool) : ∀ n, ((List.range n).map f).foldl xor a = (a ^^ parN f n)
  | 0 => by simp [parN]
  | n + 1 => by
    rw [List.range_succ, List.map_append, List.foldl_append, fold_par f a n]
    simp [parN]
end

-- the bits of bytes
def bitsOf (c : UInt8) : List Bool := (List.range 8).map fun k => c.toNat.testBit (7 - k)
def bitsL (xs : List UInt8) : List Bool := xs.flatMap bitsOf
def bitAt (xs : List UInt8) (j : Nat) : Bool := (xs.getD (j / 8) 0).toNat.testBit (7 - j % 8)

theorem bitsOf_length (c : UInt8) : (bitsOf c).length = 8 := by simp [bitsOf]
theorem bitsL_cons (c : UInt8) (xs : List UInt8) : bitsL (c :: xs) = bitsOf c ++ bitsL xs := by simp [bitsL]
theorem bitsL_append (xs ys : List UInt8) : bitsL (xs ++ ys) = bitsL xs ++ bitsL ys := by simp [bitsL]
theorem bitsL_length (xs : List UInt8) : (bitsL xs).length = 8 * xs.length := by
  induction xs with
  | nil => rfl
  | cons c xs ih => rw [bitsL_cons, List.length_append, ih, bitsOf_length, List.length_cons]; omega
theorem bitsL_at : ∀ (xs : List UInt8), bitsL xs = (List.range (8 * xs.length)).map (bitAt xs)
  | [] => rfl
  | c :: xs => by
    rw [bitsL_cons, bitsL_at xs, List.length_cons, Nat.mul_add, Nat.mul_one, Nat.add_comm, List.range_add, List.map_append]
    congr 1
    rw [List.map_map]
    apply List.map_congr_left
    intro k hk
    show bitAt xs k = bitAt (c :: xs) (8 + k)
    unfold bitAt
    rw [show (8 + k) / 8 = k / 8 + 1 by omega, show (8 + k) % 8 = k % 8 by omega]
    rfl

theorem bitsOf_inj : ∀ a b : UInt8, bitsOf a = bitsOf b → a = b := by
  have h : ∀ n : Fin 256, ((List.range 8).map fun k => n.val.testBit (7 - k)).foldl (fun n b => 2 * n + b.toNat) 0 = n.val := by decide +kernel
  have h2 : ∀ a : UInt8, (bitsOf a).foldl (fun n b => 2 * n + b.toNat) 0 = a.toNat := fun a => h ⟨a.toNat, a.toNat_lt⟩
  intro a b e
  apply UInt8.toNat_inj.1
  rw [← h2 a, e, h2 b]
theorem bitsL_inj : ∀ {xs ys : List UInt8}, xs.length = ys.length → bitsL xs = bitsL ys → xs = ys
  | [], [], _, _ => rfl
  | [], _ :: _, h, _ => by simp at h
  | _ :: _, [], h, _ => by simp at h
  | a :: xs, b :: ys, h, e => by
    rw [bitsL_cons, bitsL_cons] at e
    obtain ⟨h1, h2⟩ := List.append_inj e (by simp [bitsOf_length])
    rw [bitsOf_inj a b h1, bitsL_inj (by simpa using h) h2]

-- a bit is changed
def fl (xs : List UInt8) (k : Nat) : List UInt8 := xs.set (k / 8) (xs.getD (k / 8) 0 ^^^ (128 >>> UInt8.ofNat (k % 8)))
-- strings with a check value
section
variable {w : Nat}
def crc (P : BitVec w) (xs : List UInt8) : BitVec w := ~~~ feed P (BitVec.allOnes w) (bitsL xs)

/-- the last m bytes are the check value of those in front of them. -/
def vok (P : BitVec w) (cb : BitVec w → List UInt8) (m : Nat) (xs : List UInt8) : Prop := xs.drop (xs.length - m) = cb (crc P (xs.take (xs.length - m)))

structure Good (P : BitVec w) (cb : BitVec w → List UInt8) (m : Nat) : Prop where
  w0 : 0 < w
  wm : w = 8 * m
  low : P.getLsbD 0 = true
  odd : par P = true
  bits : ∀ c, bitsL (cb c) = msbs c

variable {P : BitVec w} {cb : BitVec w → List UInt8} {m : Nat}
theorem Good.length (g : Good P cb m) (c : BitVec w) : (cb c).length = m := by
  have := congrArg List.length (g.bits c)
  rw [bitsL_length, msbs_length] at this
  have := g.wm
  omega

theorem Good.ok_iff (g : Good P cb m) {xs : List UInt8} (h : m ≤ xs.length) : vok P cb m xs ↔ feed P (BitVec.allOnes w) (bitsL xs) = feed P (BitVec.allOnes w) (List.replicate w false) := by
  have hw := g.wm
  have e : bitsL xs = bitsL (xs.take (xs.length - m)) ++ bitsL (xs.drop (xs.length - m)) := by rw [← bitsL_append, List.take_append_drop]
  have hl : (xs.drop (xs.length - m)).length = m := by rw [List.length_drop]; omega
  have hl2 : (bitsL (xs.drop (xs.length - m))).length = w := by rw [bitsL_length, hl]; omega
  rw [e, feed_append, feed_top g.w0 P _ _ (by omega), hl2]
  unfold vok crc
  constructor
  · intro h
    rw [h, g.bits, toTop_msbs g.w0]
    congr 1
    rw [BitVec.not_def, ← BitVec.xor_assoc, BitVec.xor_comm _ (BitVec.allOnes w), BitVec.xor_assoc, BitVec.xor_self, BitVec.xor_zero]
  · intro h
    have h2 := feed_zeros_inj g.w0 g.low _ h
    apply bitsL_inj (by rw [hl, g.length])
    rw [g.bits]
    apply toTop_inj g.w0 (by omega) (by rw [msbs_length, hl2])
    rw [toTop_msbs g.w0]
    generalize feed P (BitVec.allOnes w) (bitsL (xs.take (xs.length - m))) = r at h2 ⊢
    generalize toTop w _ = t at h2 ⊢
    rw [BitVec.not_def, ← h2]
    rw [show r ^^^ t ^^^ r = t ^^^ (r ^^^ r) by ac_rfl, BitVec.xor_self, BitVec.xor_zero]

theorem Good.made (g : Good P cb m) (xs : List UInt8) : vok P cb m (xs ++ cb (crc P xs)) := by
  unfold vok
  rw [List.length_append, g.length, Nat.add_sub_cancel, List.drop_left' rfl, List.take_left' rfl]

/-- an odd number of changed bits is found. -/
theorem Good.parity (g : Good P cb m) {xs ys : List UInt8} (hx : m ≤ xs.length) (hl : ys.length = xs.length) (h1 : vok P cb m xs) (h2 : vok P cb m ys) :
    parN (bitAt xs) (8 * xs.length) = parN (bitAt ys) (8 * xs.length) := by
  rw [g.ok_iff hx] at h1
  rw [g.ok_iff (by omega)] at h2
  have e := congrArg par (h1.trans h2.symm)
  rw [par_feed g.w0 g.odd, par_feed g.w0 g.odd, bitsL_at, bitsL_at, fold_par, fold_par, hl] at e
  cases par (BitVec.allOnes w) <;> simpa using e

end

-- the two check values
def P32 : BitVec 32 := 0x08204213#32
def P8 : BitVec 8 := 0x61#8
def cb32 (c : BitVec 32) : List UInt8 := [UInt8.ofNat (c.toNat / 16777216), UInt8.ofNat (c.toNat / 65536), UInt8.ofNat (c.toNat / 256), UInt8.ofNat c.toNat]
def cb8 (c : BitVec 8) : List UInt8 := [UInt8.ofNat c.toNat]

end Go.Proofs.YtdhbgolbfkejcaaDoor.C03

/-
  Contracts of the tables of the check values.
-/
namespace Go.Proofs.YtdhbgolbfkejcaaDoor.C03
open Go Go.RowKit Go.Hs
attribute [local irreducible] WL W WQ PL Runs Effs AllE Ent SubO FrIn Pick OneC Ones CellsE PartsE SeqE UZ By Sl Pt Ct

/-- the table's entry i. -/
def tb32 (i : Nat) : BitVec 32 := feed P32 (BitVec.ofNat 32 i <<< (32 - 8)) (List.replicate 8 false)
def tc32 (n : Nat) : List Value := (List.range 256).map fun j => .int .u32 (if j < n then ((tb32 j).toNat : Int) else 0)
attribute [local irreducible] tc32
theorem lt8 (r : BitVec 8) : r.toNat < 256 := r.isLt
theorem shl8 (r : BitVec 8) : IntKind.u8.wrap ((r.toNat : Int) * 2 ^ (min (1 : Int).toNat IntKind.u8.bits)) = ((r <<< 1).toNat : Int) := by
  have h := lt8 r
  rw [BitVec.toNat_shiftLeft, IntKind.wrap_u8]
  rw [show ((2 : Int) ^ (min (1 : Int).toNat IntKind.u8.bits)) = 2 from rfl, Nat.shiftLeft_eq]
  omega
theorem xor8 (r s : BitVec 8) : bits .xor .u8 (r.toNat : Int) (s.toNat : Int) = ((r ^^^ s).toNat : Int) := by
  rw [u8_xor_nat _ _ (lt8 r) (lt8 s), BitVec.toNat_xor]
theorem not8 (r : BitVec 8) : bits .xor .u8 (if IntKind.u8.signed then -1 else IntKind.u8.max) (r.toNat : Int) = ((~~~ r).toNat : Int) := by
  rw [BitVec.not_def]
  exact xor8 (BitVec.allOnes 8) r
theorem top8 (r : BitVec 8) : bits .and .u8 (r.toNat : Int) 128 = if r.msb then 128 else 0 := by
  have h := lt8 r
  rw [show (128 : Int) = ((128 : Nat) : Int) from rfl, u8_and_nat _ _ h (by decide)]
  have e : r.toNat &&& 128 = if r.msb then 128 else 0 := by
    apply Nat.eq_of_testBit_eq
    intro i
    rw [Nat.testBit_and, show (128 : Nat) = 2 ^ (8 - 1) from rfl, Nat.testBit_two_pow]
    by_cases h1 : 8 - 1 = i
    · subst h1
      rw [BitVec.msb_eq_getLsbD_last, BitVec.testBit_toNat]
      cases r.getLsbD (8 - 1)
      · simp
      · decide
    · simp only [h1, decide_false, Bool.and_false]
      cases r.msb
      · simp
      · have h2 : Nat.testBit (2 ^ (8 - 1)) i = decide (8 - 1 = i) := Nat.testBit_two_pow
        rw [decide_eq_false h1] at h2
        exact h2.symm
  rw [e]
  split <;> rfl

/-- the table's entry i. -/
def tb8 (i : Nat) : BitVec 8 := feed P8 (BitVec.ofNat 8 i <<< (8 - 8)) (List.replicate 8 false)
def tc8 (n : Nat) : List Value := (List.range 256).map fun j => .int .u8 (if j < n then ((tb8 j).toNat : Int) else 0)
theorem tc8_length (n : Nat) : (tc8 n).length = 256 := by simp [tc8]
theorem tc8_zero : tc8 0 = List.replicate 256 (.int .u8 0) := by
  apply List.ext_getElem
  · rw [tc8_length, List.length_replicate]
  · intro i h1 h2
    rw [List.getElem_replicate]
    simp only [tc8, List.getElem_map]
    rfl
theorem tc8_set (i : Nat) (h : i < 256) : (tc8 i).set i (.int .u8 ((tb8 i).toNat : Int)) = tc8 (i + 1) := by
  apply List.ext_getElem
  · simp [tc8]
  · intro j h1 h2
    rw [List.getElem_set]
    by_cases e : i = j
    · subst e
      simp [tc8]
    · rw [if_neg e]
      simp only [tc8, List.getElem_map, List.getElem_range]
      congr 1
      by_cases h3 : j < i
      · rw [if_pos h3, if_pos (by omega)]
      · rw [if_neg h3, if_neg (by omega)]
theorem tc8_one (n : Nat) : ∀ u ∈ tc8 n, u.oneCell' = true := by
  intro u hu
  obtain ⟨j, _, rfl⟩ := List.mem_map.1 hu
  rfl
theorem tc8_get (i : Nat) (h : i < 256) : (tc8 256)[i]? = some (.int .u8 ((tb8 i).toNat : Int)) := by
  simp [tc8, h]

set_option maxRecDepth 100000 in
theorem shift8 : CtD Tryd.prog 45 [.int .u8 128] [] (.int .i64 0) := by
  refine Ct_intro Tryd.func45 rfl Tryd.ntmps45 (by simp) _ rfl (fun w0 O0 => ?_)
  repeat (first | refine n1 ?_ | refine n2 (fun b _ => ?_) | refine n3 (fun _ _ => ?_) | refine n4 ?_ | refine n5 ?_ | refine WL_nil ?_ | refine W_seq ?_ | refine W_region ?_ | refine n7 ?_ | refine n8 ?_ | refine W_block ?_ | refine W_skip ?_ | refine W_ret ?_ | refine W_exit ?_ | refine WQ_then ?_ | refine WQ_then_ret ?_ | refine WQ_then_exit ?_ | refine WQ_block_normal ?_ | refine WQ_block_ret ?_ | refine WQ_block_exit ?_ | refine n9 ?_)
  ((apply W_loopK (X := Nat) [3, 4] [] (fun x => x ≤ 0) (fun x => [(3, .int .i64 (x : Int)), (4, .int .u8 ((128 / 2 ^ x : Nat) : Int))]) (fun _ => []) (fun _ => []) (fun x => 0 - x) (0)); (focus exact Nat.zero_le _); exact rfl; exact rfl; (intro _; exact rfl); (intro _; exact rfl); (intro _; exact rfl); (focus (repeat (first | exact FrIn.nil _ | (apply FrIn.cons; exact rfl; (first | exact rfl | (congr 1; first | omega | (dsimp only; omega)) | (simp; done)))))); (focus (repeat (first | exact SubO.nil _ | (apply SubO.cons; (focus (repeat' (first | exact Pick.head _ _ | apply Pick.tail))))))); (focus (repeat (first | exact AllE.nil _ | (apply AllE.cons; (focus (first | exact ent_nilBy | exact ent_nilSl | (apply Ent.mem; repeat' (first | exact mcs | apply mct)))))))); intro x hx)
  by_cases h : x < 0
  · have h1 : ∀ k : Fin 0, 128 < 128 / 2 ^ k.val := by decide
    have h2 : 128 < 128 / 2 ^ x := h1 ⟨x, h⟩
    repeat (first | refine n1 ?_ | refine n2 (fun b _ => ?_) | refine n3 (fun _ _ => ?_) | refine n4 ?_ | refine n5 ?_ | refine WL_nil ?_ | refine W_seq ?_ | refine W_region ?_ | refine n7 ?_ | refine n8 ?_ | refine W_block ?_ | refine W_skip ?_ | refine W_ret ?_ | refine W_exit ?_ | refine WQ_then ?_ | refine WQ_then_ret ?_ | refine WQ_then_exit ?_ | refine WQ_block_normal ?_ | refine WQ_block_ret ?_ | refine WQ_block_exit ?_ | refine n9 ?_)
    refine WL_runs rfl rfl rfl (R_shr (c := ((128 / 2 ^ (x + 1) : Nat) : Int)) rfl rfl (by omega) ?_) ?_
    · rw [Nat.pow_succ, ← Nat.div_div_eq_div_mul, show ((2 : Int) ^ (min (1 : Int).toNat IntKind.u8.bits)) = 2 from rfl, Int.fdiv_eq_ediv_of_nonneg _ (by decide)]
      omega
    repeat (first | refine n1 ?_ | refine n2 (fun b _ => ?_) | refine n3 (fun _ _ => ?_) | refine n4 ?_ | refine n5 ?_ | refine WL_nil ?_ | refine W_seq ?_ | refine W_region ?_ | refine n7 ?_ | refine n8 ?_ | refine W_block ?_ | refine W_skip ?_ | refine W_ret ?_ | refine W_exit ?_ | refine WQ_then ?_ | refine WQ_then_ret ?_ | refine WQ_then_exit ?_ | refine WQ_block_normal ?_ | refine WQ_block_ret ?_ | refine WQ_block_exit ?_ | refine n9 ?_)
    ((apply WQ_again (x + 1)); (focus exact h); (focus (omega)); (focus (repeat (first | exact FrIn.nil _ | (apply FrIn.cons; exact rfl; (first | exact rfl | (congr 1; first | omega | (dsimp only; omega)) | (simp; done)))))); (focus (repeat (first | exact SubO.nil _ | (apply SubO.cons; (focus (repeat' (first | exact Pick.head _ _ | apply Pick.tail))))))); (focus (repeat (first | exact AllE.nil _ | (apply AllE.cons; (focus (first | exact ent_nilBy | exact ent_nilSl | (apply Ent.mem; repeat' (first | exact mcs | apply mct)))))))))
  · obtain rfl : x = 0 := by omega
    have h2 : 128 / 2 ^ 0 = 128 := by decide
    repeat (first | refine n1 ?_ | refine n2 (fun b _ => ?_) | refine n3 (fun _ _ => ?_) | refine n4 ?_ | refine n5 ?_ | refine WL_nil ?_ | refine W_seq ?_ | refine W_region ?_ | refine n7 ?_ | refine n8 ?_ | refine W_block ?_ | refine W_skip ?_ | refine W_ret ?_ | refine W_exit ?_ | refine WQ_then ?_ | refine WQ_then_ret ?_ | refine WQ_then_exit ?_ | refine WQ_block_normal ?_ | refine WQ_block_ret ?_ | refine WQ_block_exit ?_ | refine n9 ?_)
    ((apply ret1 Tryd.results45 ( ())); (focus (first | trivial | assumption | omega)); (focus (first | exact RV_tmp rfl | (apply RV_cellN; exact rfl; (repeat' (first | exact Pick.head _ _ | apply Pick.tail)); (intro _; exact rfl); (intro _; exact rfl); exact rfl) | (apply RV_cell1; exact rfl; (repeat' (first | exact Pick.head _ _ | apply Pick.tail)); (intro _; exact rfl); exact rfl)));  (focus (first | exact rfl | (simp; done))); (focus (repeat (first | exact SubO.nil _ | (apply SubO.cons; (focus (repeat' (first | exact Pick.head _ _ | apply Pick.tail))))))); (focus (repeat (first | exact AllE.nil _ | (apply AllE.cons; (focus (first | exact ent_nilBy | exact ent_nilSl | (apply Ent.mem; repeat' (first | exact mcs | apply mct)))))))))

attribute [local irreducible] tc8
set_option maxRecDepth 100000 in
set_option maxHeartbeats 1000000 in
theorem table8 : CtD Tryd.prog 42 [.int .u8 97, .int .u8 128] [] (.agg (tc8 256).toArray) := by
  have hsf := shift8
  refine Ct_intro Tryd.func42 rfl Tryd.ntmps42 (by simp) _ rfl (fun w0 O0 => ?_)
  refine W_seq (W_region ?_)
  refine WL_effs rfl rfl rfl (E_alloc (cs := List.replicate 256 (.int .u8 0)) (by intro _; exact rfl) (by kernel_rfl)) ?_
  intro b _
  rw [← tc8_zero]
  repeat (first | refine n1 ?_ | refine n2 (fun b _ => ?_) | refine n3 (fun _ _ => ?_) | refine n4 ?_ | refine n5 ?_ | refine WL_nil ?_ | refine W_seq ?_ | refine W_region ?_ | refine n7 ?_ | refine n8 ?_ | refine W_block ?_ | refine W_skip ?_ | refine W_ret ?_ | refine W_exit ?_ | refine WQ_then ?_ | refine WQ_then_ret ?_ | refine WQ_then_exit ?_ | refine WQ_block_normal ?_ | refine WQ_block_ret ?_ | refine WQ_block_exit ?_ | refine n9 ?_)
  ((apply W_loopK (X := Nat) [8] [0] (fun x => x ≤ 256) (fun x => [(8, .int .i64 (x : Int))]) (fun x => [.blk b 73 (tc8 x)]) (fun _ => []) (fun x => 256 - x) (0)); (focus exact Nat.zero_le _); exact rfl; exact rfl; (intro _; exact rfl); (intro _; exact rfl); (intro _; exact rfl); (focus (repeat (first | exact FrIn.nil _ | (apply FrIn.cons; exact rfl; (first | exact rfl | (congr 1; first | omega | (dsimp only; omega)) | (simp; done)))))); (focus (repeat (first | exact SubO.nil _ | (apply SubO.cons; (focus (repeat' (first | exact Pick.head _ _ | apply Pick.tail))))))); (focus (repeat (first | exact AllE.nil _ | (apply AllE.cons; (focus (first | exact ent_nilBy | exact ent_nilSl | (apply Ent.mem; repeat' (first | exact mcs | apply mct)))))))); intro x hx)
  by_cases h : x < 256
  · obtain ⟨i, rfl⟩ : ∃ i, i = x := ⟨x, rfl⟩
    have e1 : ((i : Int) * 2 ^ (min (0 : Int).toNat IntKind.u8.bits)) = ((i * 2 ^ 0 : Nat) : Int) := by
      rw [show ((2 : Int) ^ (min (0 : Int).toNat IntKind.u8.bits)) = ((2 ^ 0 : Nat) : Int) from rfl, ← Int.natCast_mul]
    have e2 : IntKind.u8.wrap ((i : Int) * 2 ^ (min (0 : Int).toNat IntKind.u8.bits)) = ((BitVec.ofNat 8 i <<< (8 - 8)).toNat : Int) := by
      rw [e1, BitVec.toNat_shiftLeft, BitVec.toNat_ofNat, Nat.shiftLeft_eq, IntKind.wrap_u8, Nat.mod_eq_of_lt (by omega : i < 2 ^ 8)]
      show ((i * 2 ^ 0 : Nat) : Int) % 256 = ((i * 2 ^ 0 % 256 : Nat) : Int)
      omega
    repeat (first | refine n1 ?_ | refine n2 (fun b _ => ?_) | refine n3 (fun _ _ => ?_) | refine n4 ?_ | refine n5 ?_ | refine n6 (hsf) ?_ | refine n6v (hsf) ?_ | refine WL_nil ?_ | refine W_seq ?_ | refine W_region ?_ | refine n7 ?_ | refine n8 ?_ | refine W_block ?_ | refine W_skip ?_ | refine W_ret ?_ | refine W_exit ?_ | refine WQ_then ?_ | refine WQ_then_ret ?_ | refine WQ_then_exit ?_ | refine WQ_block_normal ?_ | refine WQ_block_ret ?_ | refine WQ_block_exit ?_ | refine n9 ?_)
    refine WL_runs rfl rfl rfl (R_shl rfl rfl (by decide) e2) ?_
    repeat (first | refine n1 ?_ | refine n2 (fun b _ => ?_) | refine n3 (fun _ _ => ?_) | refine n4 ?_ | refine n5 ?_ | refine WL_nil ?_ | refine W_seq ?_ | refine W_region ?_ | refine n7 ?_ | refine n8 ?_ | refine W_block ?_ | refine W_skip ?_ | refine W_ret ?_ | refine W_exit ?_ | refine WQ_then ?_ | refine WQ_then_ret ?_ | refine WQ_then_exit ?_ | refine WQ_block_normal ?_ | refine WQ_block_ret ?_ | refine WQ_block_exit ?_ | refine n9 ?_)
    ((apply W_loopK (X := Nat × BitVec 8) [16, 6] [] (fun y => y.1 ≤ 8 ∧ y.2 = feed P8 (BitVec.ofNat 8 i <<< (8 - 8)) (List.replicate y.1 false)) (fun y => [(16, .int .i64 (y.1 : Int)), (6, .int .u8 (y.2.toNat : Int))]) (fun _ => []) (fun _ => []) (fun y => 8 - y.1) ((0, BitVec.ofNat 8 i <<< (8 - 8)))); (focus exact ⟨by omega, rfl⟩); exact rfl; exact rfl; (intro _; exact rfl); (intro _; exact rfl); (intro _; exact rfl); (focus (repeat (first | exact FrIn.nil _ | (apply FrIn.cons; exact rfl; (first | exact rfl | (congr 1; first | omega | (dsimp only; omega)) | (simp; done)))))); (focus (repeat (first | exact SubO.nil _ | (apply SubO.cons; (focus (repeat' (first | exact Pick.head _ _ | apply Pick.tail))))))); (focus (repeat (first | exact AllE.nil _ | (apply AllE.cons; (focus (first | exact ent_nilBy | exact ent_nilSl | (apply Ent.mem; repeat' (first | exact mcs | apply mct)))))))); intro x hx)
    obtain ⟨n, r⟩ := x
    rename_i hi0
    obtain ⟨hn, hr⟩ := hx
    replace hn : n ≤ 8 := hn
    replace hr : r = feed P8 (BitVec.ofNat 8 i <<< (8 - 8)) (List.replicate n false) := hr
    by_cases h8 : n < 8
    · have hz : feed P8 (BitVec.ofNat 8 i <<< (8 - 8)) (List.replicate (n + 1) false) = zs P8 r := by
        rw [List.replicate_succ', feed_append, ← hr, feed_cons, feed_nil, stp, show tpb 8 false = 0#8 from rfl, BitVec.xor_zero]
      have ht := top8 r
      by_cases hm : r.msb = true
      · rw [if_pos hm] at ht
        have hz2 : zs P8 r = (r <<< 1) ^^^ P8 := by rw [zs, if_pos hm]
        repeat (first | refine n1 ?_ | refine n2 (fun b _ => ?_) | refine n3 (fun _ _ => ?_) | refine n4 ?_ | refine n5 ?_ | refine WL_nil ?_ | refine W_seq ?_ | refine W_region ?_ | refine n7 ?_ | refine n8 ?_ | refine W_block ?_ | refine W_skip ?_ | refine W_ret ?_ | refine W_exit ?_ | refine WQ_then ?_ | refine WQ_then_ret ?_ | refine WQ_then_exit ?_ | refine WQ_block_normal ?_ | refine WQ_block_ret ?_ | refine WQ_block_exit ?_ | refine n9 ?_)
        refine WL_runs rfl rfl rfl (R_and rfl rfl ht) ?_
        repeat (first | refine n1 ?_ | refine n2 (fun b _ => ?_) | refine n3 (fun _ _ => ?_) | refine n4 ?_ | refine n5 ?_ | refine WL_nil ?_ | refine W_seq ?_ | refine W_region ?_ | refine n7 ?_ | refine n8 ?_ | refine W_block ?_ | refine W_skip ?_ | refine W_ret ?_ | refine W_exit ?_ | refine WQ_then ?_ | refine WQ_then_ret ?_ | refine WQ_then_exit ?_ | refine WQ_block_normal ?_ | refine WQ_block_ret ?_ | refine WQ_block_exit ?_ | refine n9 ?_)
        refine WL_runs rfl rfl rfl (R_shl rfl rfl (by decide) (shl8 r)) ?_
        repeat (first | refine n1 ?_ | refine n2 (fun b _ => ?_) | refine n3 (fun _ _ => ?_) | refine n4 ?_ | refine n5 ?_ | refine WL_nil ?_ | refine W_seq ?_ | refine W_region ?_ | refine n7 ?_ | refine n8 ?_ | refine W_block ?_ | refine W_skip ?_ | refine W_ret ?_ | refine W_exit ?_ | refine WQ_then ?_ | refine WQ_then_ret ?_ | refine WQ_then_exit ?_ | refine WQ_block_normal ?_ | refine WQ_block_ret ?_ | refine WQ_block_exit ?_ | refine n9 ?_)
        refine WL_runs rfl rfl rfl (R_xor (b := ((P8).toNat : Int)) rfl rfl (xor8 (r <<< 1) P8)) ?_
        repeat (first | refine n1 ?_ | refine n2 (fun b _ => ?_) | refine n3 (fun _ _ => ?_) | refine n4 ?_ | refine n5 ?_ | refine WL_nil ?_ | refine W_seq ?_ | refine W_region ?_ | refine n7 ?_ | refine n8 ?_ | refine W_block ?_ | refine W_skip ?_ | refine W_ret ?_ | refine W_exit ?_ | refine WQ_then ?_ | refine WQ_then_ret ?_ | refine WQ_then_exit ?_ | refine WQ_block_normal ?_ | refine WQ_block_ret ?_ | refine WQ_block_exit ?_ | refine n9 ?_)
        ((apply WQ_again ((n + 1, r <<< 1 ^^^ P8))); (focus exact ⟨h8, by rw [hz, hz2]⟩); (focus (omega)); (focus (repeat (first | exact FrIn.nil _ | (apply FrIn.cons; exact rfl; (first | exact rfl | (congr 1; first | omega | (dsimp only; omega)) | (simp; done)))))); (focus (repeat (first | exact SubO.nil _ | (apply SubO.cons; (focus (repeat' (first | exact Pick.head _ _ | apply Pick.tail))))))); (focus (repeat (first | exact AllE.nil _ | (apply AllE.cons; (focus (first | exact ent_nilBy | exact ent_nilSl | (apply Ent.mem; repeat' (first | exact mcs | apply mct)))))))))
      · rw [if_neg hm] at ht
        have hz2 : zs P8 r = (r <<< 1) := by rw [zs, if_neg hm, BitVec.xor_zero]
        repeat (first | refine n1 ?_ | refine n2 (fun b _ => ?_) | refine n3 (fun _ _ => ?_) | refine n4 ?_ | refine n5 ?_ | refine WL_nil ?_ | refine W_seq ?_ | refine W_region ?_ | refine n7 ?_ | refine n8 ?_ | refine W_block ?_ | refine W_skip ?_ | refine W_ret ?_ | refine W_exit ?_ | refine WQ_then ?_ | refine WQ_then_ret ?_ | refine WQ_then_exit ?_ | refine WQ_block_normal ?_ | refine WQ_block_ret ?_ | refine WQ_block_exit ?_ | refine n9 ?_)
        refine WL_runs rfl rfl rfl (R_and rfl rfl ht) ?_
        repeat (first | refine n1 ?_ | refine n2 (fun b _ => ?_) | refine n3 (fun _ _ => ?_) | refine n4 ?_ | refine n5 ?_ | refine WL_nil ?_ | refine W_seq ?_ | refine W_region ?_ | refine n7 ?_ | refine n8 ?_ | refine W_block ?_ | refine W_skip ?_ | refine W_ret ?_ | refine W_exit ?_ | refine WQ_then ?_ | refine WQ_then_ret ?_ | refine WQ_then_exit ?_ | refine WQ_block_normal ?_ | refine WQ_block_ret ?_ | refine WQ_block_exit ?_ | refine n9 ?_)
        refine WL_runs rfl rfl rfl (R_shl rfl rfl (by decide) (shl8 r)) ?_
        repeat (first | refine n1 ?_ | refine n2 (fun b _ => ?_) | refine n3 (fun _ _ => ?_) | refine n4 ?_ | refine n5 ?_ | refine WL_nil ?_ | refine W_seq ?_ | refine W_region ?_ | refine n7 ?_ | refine n8 ?_ | refine W_block ?_ | refine W_skip ?_ | refine W_ret ?_ | refine W_exit ?_ | refine WQ_then ?_ | refine WQ_then_ret ?_ | refine WQ_then_exit ?_ | refine WQ_block_normal ?_ | refine WQ_block_ret ?_ | refine WQ_block_exit ?_ | refine n9 ?_)
        ((apply WQ_again ((n + 1, r <<< 1))); (focus exact ⟨h8, by rw [hz, hz2]⟩); (focus (omega)); (focus (repeat (first | exact FrIn.nil _ | (apply FrIn.cons; exact rfl; (first | exact rfl | (congr 1; first | omega | (dsimp only; omega)) | (simp; done)))))); (focus (repeat (first | exact SubO.nil _ | (apply SubO.cons; (focus (repeat' (first | exact Pick.head _ _ | apply Pick.tail))))))); (focus (repeat (first | exact AllE.nil _ | (apply AllE.cons; (focus (first | exact ent_nilBy | exact ent_nilSl | (apply Ent.mem; repeat' (first | exact mcs | apply mct)))))))))
    · obtain rfl : n = 8 := by omega
      replace hr : r = tb8 i := by rw [hr, tb8]
      subst hr
      repeat (first | refine n1 ?_ | refine n2 (fun b _ => ?_) | refine n3 (fun _ _ => ?_) | refine n4 ?_ | refine n5 ?_ | refine WL_nil ?_ | refine W_seq ?_ | refine W_region ?_ | refine n7 ?_ | refine n8 ?_ | refine W_block ?_ | refine W_skip ?_ | refine W_ret ?_ | refine W_exit ?_ | refine WQ_then ?_ | refine WQ_then_ret ?_ | refine WQ_then_exit ?_ | refine WQ_block_normal ?_ | refine WQ_block_ret ?_ | refine WQ_block_exit ?_ | refine n9 ?_)
      refine WL_do rfl rfl (E_storeAt rfl rfl (by repeat' (first | exact Pick.head _ _ | apply Pick.tail)) rfl (by intro _; exact rfl) (by rw [tc8_length]; exact h)) ?_
      intro _ _
      rw [tc8_set i h]
      repeat (first | refine n1 ?_ | refine n2 (fun b _ => ?_) | refine n3 (fun _ _ => ?_) | refine n4 ?_ | refine n5 ?_ | refine WL_nil ?_ | refine W_seq ?_ | refine W_region ?_ | refine n7 ?_ | refine n8 ?_ | refine W_block ?_ | refine W_skip ?_ | refine W_ret ?_ | refine W_exit ?_ | refine WQ_then ?_ | refine WQ_then_ret ?_ | refine WQ_then_exit ?_ | refine WQ_block_normal ?_ | refine WQ_block_ret ?_ | refine WQ_block_exit ?_ | refine n9 ?_)
      ((apply WQ_again (i + 1)); (focus exact h); (focus (omega)); (focus (repeat (first | exact FrIn.nil _ | (apply FrIn.cons; exact rfl; (first | exact rfl | (congr 1; first | omega | (dsimp only; omega)) | (simp; done)))))); (focus (repeat (first | exact SubO.nil _ | (apply SubO.cons; (focus (repeat' (first | exact Pick.head _ _ | apply Pick.tail))))))); (focus (repeat (first | exact AllE.nil _ | (apply AllE.cons; (focus (first | exact ent_nilBy | exact ent_nilSl | (apply Ent.mem; repeat' (first | exact mcs | apply mct)))))))))
  · obtain rfl : x = 256 := by omega
    repeat (first | refine n1 ?_ | refine n2 (fun b _ => ?_) | refine n3 (fun _ _ => ?_) | refine n4 ?_ | refine n5 ?_ | refine WL_nil ?_ | refine W_seq ?_ | refine W_region ?_ | refine n7 ?_ | refine n8 ?_ | refine W_block ?_ | refine W_skip ?_ | refine W_ret ?_ | refine W_exit ?_ | refine WQ_then ?_ | refine WQ_then_ret ?_ | refine WQ_then_exit ?_ | refine WQ_block_normal ?_ | refine WQ_block_ret ?_ | refine WQ_block_exit ?_ | refine n9 ?_)
    refine WL_runs rfl rfl rfl (R_loadN rfl (by repeat' (first | exact Pick.head _ _ | apply Pick.tail)) (by intro _; exact rfl) (by intro _; exact rfl) (takeN_full (tc8_length 256))) ?_
    refine WL_do rfl rfl (E_storeAll (us := tc8 256) rfl rfl (by repeat' (first | exact Pick.head _ _ | apply Pick.tail)) (tc8_one 256) (by intro _; rw [tc8_length]; exact rfl) rfl) ?_
    intro _ _
    repeat (first | refine n1 ?_ | refine n2 (fun b _ => ?_) | refine n3 (fun _ _ => ?_) | refine n4 ?_ | refine n5 ?_ | refine WL_nil ?_ | refine W_seq ?_ | refine W_region ?_ | refine n7 ?_ | refine n8 ?_ | refine W_block ?_ | refine W_skip ?_ | refine W_ret ?_ | refine W_exit ?_ | refine WQ_then ?_ | refine WQ_then_ret ?_ | refine WQ_then_exit ?_ | refine WQ_block_normal ?_ | refine WQ_block_ret ?_ | refine WQ_block_exit ?_ | refine n9 ?_)
    refine ret1 Tryd.results42 () trivial (RV_cellN rfl (by repeat' (first | exact Pick.head _ _ | apply Pick.tail)) (by intro _; exact rfl) (by intro _; exact rfl) (takeN_full (tc8_length 256))) rfl (by (repeat (first | exact SubO.nil _ | (apply SubO.cons; (focus (repeat' (first | exact Pick.head _ _ | apply Pick.tail))))))) (by (repeat (first | exact AllE.nil _ | (apply AllE.cons; (focus (first | exact ent_nilBy | exact ent_nilSl | (apply Ent.mem; repeat' (first | exact mcs | apply mct))))))))
end Go.Proofs.YtdhbgolbfkejcaaDoor.C03

/-
  Contracts of the check values: the program's.
-/
namespace Go.Proofs.YtdhbgolbfkejcaaDoor.C03
open Go Go.RowKit Go.Hs
attribute [local irreducible] WL W WQ PL Runs Effs AllE Ent SubO FrIn Pick OneC Ones CellsE PartsE SeqE UZ By Sl Pt Ct

theorem take_next (xs : List UInt8) (k : Nat) (h : k < xs.length) : xs.take (k + 1) = xs.take k ++ [xs.getD k 0] := by
  rw [List.take_succ_eq_append_getElem h, List.getD_eq_getElem?_getD, List.getElem?_eq_getElem h]
  rfl
theorem feed_next {w : Nat} (P s : BitVec w) (xs : List UInt8) (k : Nat) (h : k < xs.length) : feed P s (bitsL (xs.take (k + 1))) = feed P (feed P s (bitsL (xs.take k))) (bitsOf (xs.getD k 0)) := by
  rw [take_next xs k h, bitsL_append, feed_append, bitsL_cons, show bitsL [] = [] from rfl, List.append_nil]

theorem top_byte8 (c : UInt8) : toTop 8 (bitsOf c) = BitVec.ofNat 8 c.toNat <<< 0 := by
  have h : ∀ c : Fin 256, toTop 8 ((List.range 8).map fun k => c.val.testBit (7 - k)) = BitVec.ofNat 8 c.val <<< 0 := by decide +kernel
  exact h ⟨c.toNat, c.toNat_lt⟩

theorem step8 (s : BitVec 8) (c : UInt8) : feed P8 s (bitsOf c) = tb8 (s.toNat ^^^ c.toNat) := by
  rw [feed_top (by decide) P8 (bitsOf c) s (by rw [bitsOf_length]; decide), bitsOf_length, top_byte8, tb8]
  congr 1
  apply BitVec.eq_of_toNat_eq
  have h := Nat.xor_lt_two_pow (x := s.toNat) (y := c.toNat) (n := 8) s.isLt c.toNat_lt
  simp

theorem u8_nat (c : UInt8) : c.toNat ≤ 255 := by have := c.toNat_lt; omega

set_option maxRecDepth 100000 in
set_option maxHeartbeats 1000000 in
theorem crc8_fn (dv : Value) (xs : List UInt8) (hx : xs.length ≤ 1000000000) : CtD Tryd.prog 33 [dv] [By dv xs] (.int .u8 ((crc P8 xs).toNat : Int)) := by
  refine Ct_intro Tryd.func33 rfl Tryd.ntmps33 (by simp) _ rfl (fun w0 O0 => ?_)
  repeat (first | refine n1 ?_ | refine n2 (fun b _ => ?_) | refine n3 (fun _ _ => ?_) | refine n4 ?_ | refine n5 ?_ | refine WL_nil ?_ | refine W_seq ?_ | refine W_region ?_ | refine n7 ?_ | refine n8 ?_ | refine W_block ?_ | refine W_skip ?_ | refine W_ret ?_ | refine W_exit ?_ | refine WQ_then ?_ | refine WQ_then_ret ?_ | refine WQ_then_exit ?_ | refine WQ_block_normal ?_ | refine WQ_block_ret ?_ | refine WQ_block_exit ?_ | refine n9 ?_)
  refine n6 table8 ?_
  refine WL_effs rfl rfl rfl (E_alloc (cs := List.replicate 256 (.int .u8 0)) (by intro _; exact rfl) (by kernel_rfl)) ?_
  intro b _
  refine WL_do rfl rfl (E_storeAll (us := tc8 256) rfl rfl (by repeat' (first | exact Pick.head _ _ | apply Pick.tail)) (tc8_one 256) (by intro _; rw [tc8_length]; exact rfl) (by rw [tc8_length]; exact (List.length_replicate ..).symm)) ?_
  intro _ _
  repeat (first | refine n1 ?_ | refine n2 (fun b _ => ?_) | refine n3 (fun _ _ => ?_) | refine n4 ?_ | refine n5 ?_ | refine WL_nil ?_ | refine W_seq ?_ | refine W_region ?_ | refine n7 ?_ | refine n8 ?_ | refine W_block ?_ | refine W_skip ?_ | refine W_ret ?_ | refine W_exit ?_ | refine WQ_then ?_ | refine WQ_then_ret ?_ | refine WQ_then_exit ?_ | refine WQ_block_normal ?_ | refine WQ_block_ret ?_ | refine WQ_block_exit ?_ | refine n9 ?_)
  ((apply W_loopK (X := Nat × BitVec 8) [10, 4] [] (fun y => y.1 ≤ xs.length ∧ y.2 = feed P8 (BitVec.allOnes 8) (bitsL (xs.take y.1))) (fun y => [(10, .int .i64 (y.1 : Int)), (4, .int .u8 (y.2.toNat : Int))]) (fun _ => []) (fun _ => []) (fun y => xs.length - y.1) ((0, BitVec.allOnes 8))); (focus exact ⟨by omega, rfl⟩); exact rfl; exact rfl; (intro _; exact rfl); (intro _; exact rfl); (intro _; exact rfl); (focus (repeat (first | exact FrIn.nil _ | (apply FrIn.cons; exact rfl; (first | exact rfl | (congr 1; first | omega | (dsimp only; omega)) | (simp; done)))))); (focus (repeat (first | exact SubO.nil _ | (apply SubO.cons; (focus (repeat' (first | exact Pick.head _ _ | apply Pick.tail))))))); (focus (repeat (first | exact AllE.nil _ | (apply AllE.cons; (focus (first | exact ent_nilBy | exact ent_nilSl | (apply Ent.mem; repeat' (first | exact mcs | apply mct)))))))); intro x hx)
  obtain ⟨k, s⟩ := x
  obtain ⟨hk, hs⟩ := hx
  replace hk : k ≤ xs.length := hk
  replace hs : s = feed P8 (BitVec.allOnes 8) (bitsL (xs.take k)) := hs
  by_cases h : k < xs.length
  · have hc := u8_nat (xs.getD k 0)
    have hlt : s.toNat < 256 := s.isLt
    have hi := Nat.xor_lt_two_pow (x := s.toNat) (y := (xs.getD k 0).toNat) (n := 8) s.isLt (xs.getD k 0).toNat_lt
    repeat (first | refine n1 ?_ | refine n2 (fun b _ => ?_) | refine n3 (fun _ _ => ?_) | refine n4 ?_ | refine n5 ?_ | refine WL_nil ?_ | refine W_seq ?_ | refine W_region ?_ | refine n7 ?_ | refine n8 ?_ | refine W_block ?_ | refine W_skip ?_ | refine W_ret ?_ | refine W_exit ?_ | refine WQ_then ?_ | refine WQ_then_ret ?_ | refine WQ_then_exit ?_ | refine WQ_block_normal ?_ | refine WQ_block_ret ?_ | refine WQ_block_exit ?_ | refine n9 ?_)
    refine WL_runs rfl rfl rfl (R_xor rfl rfl (u8_xor_nat s.toNat (xs.getD k 0).toNat s.isLt (by omega))) ?_
    refine WL_runs rfl rfl rfl (R_idxArr rfl rfl rfl (by intro _; exact rfl) rfl hi) ?_
    refine WL_runs rfl rfl rfl (R_load1 rfl (by repeat' (first | exact Pick.head _ _ | apply Pick.tail)) (by intro _; exact rfl) (tc8_get _ hi)) ?_
    repeat (first | refine n1 ?_ | refine n2 (fun b _ => ?_) | refine n3 (fun _ _ => ?_) | refine n4 ?_ | refine n5 ?_ | refine WL_nil ?_ | refine W_seq ?_ | refine W_region ?_ | refine n7 ?_ | refine n8 ?_ | refine W_block ?_ | refine W_skip ?_ | refine W_ret ?_ | refine W_exit ?_ | refine WQ_then ?_ | refine WQ_then_ret ?_ | refine WQ_then_exit ?_ | refine WQ_block_normal ?_ | refine WQ_block_ret ?_ | refine WQ_block_exit ?_ | refine n9 ?_)
    ((apply WQ_again ((k + 1, tb8 (s.toNat ^^^ (xs.getD k 0).toNat)))); (focus exact ⟨h, by rw [feed_next _ _ _ _ h, ← hs, step8]⟩); (focus (omega)); (focus (repeat (first | exact FrIn.nil _ | (apply FrIn.cons; exact rfl; (first | exact rfl | (congr 1; first | omega | (dsimp only; omega)) | (simp; done)))))); (focus (repeat (first | exact SubO.nil _ | (apply SubO.cons; (focus (repeat' (first | exact Pick.head _ _ | apply Pick.tail))))))); (focus (repeat (first | exact AllE.nil _ | (apply AllE.cons; (focus (first | exact ent_nilBy | exact ent_nilSl | (apply Ent.mem; repeat' (first | exact mcs | apply mct)))))))))
  · obtain rfl : k = xs.length := by omega
    rw [List.take_length] at hs
    subst hs
    repeat (first | refine n1 ?_ | refine n2 (fun b _ => ?_) | refine n3 (fun _ _ => ?_) | refine n4 ?_ | refine n5 ?_ | refine WL_nil ?_ | refine W_seq ?_ | refine W_region ?_ | refine n7 ?_ | refine n8 ?_ | refine W_block ?_ | refine W_skip ?_ | refine W_ret ?_ | refine W_exit ?_ | refine WQ_then ?_ | refine WQ_then_ret ?_ | refine WQ_then_exit ?_ | refine WQ_block_normal ?_ | refine WQ_block_ret ?_ | refine WQ_block_exit ?_ | refine n9 ?_)
    refine WL_runs rfl rfl rfl (R_com rfl (not8 _)) ?_
    repeat (first | refine n1 ?_ | refine n2 (fun b _ => ?_) | refine n3 (fun _ _ => ?_) | refine n4 ?_ | refine n5 ?_ | refine WL_nil ?_ | refine W_seq ?_ | refine W_region ?_ | refine n7 ?_ | refine n8 ?_ | refine W_block ?_ | refine W_skip ?_ | refine W_ret ?_ | refine W_exit ?_ | refine WQ_then ?_ | refine WQ_then_ret ?_ | refine WQ_then_exit ?_ | refine WQ_block_normal ?_ | refine WQ_block_ret ?_ | refine WQ_block_exit ?_ | refine n9 ?_)
    ((apply ret1 Tryd.results33 ( ())); (focus (first | trivial | assumption | omega)); (focus (first | exact RV_tmp rfl | (apply RV_cellN; exact rfl; (repeat' (first | exact Pick.head _ _ | apply Pick.tail)); (intro _; exact rfl); (intro _; exact rfl); exact rfl) | (apply RV_cell1; exact rfl; (repeat' (first | exact Pick.head _ _ | apply Pick.tail)); (intro _; exact rfl); exact rfl)));  (focus (first | exact rfl | (simp; done))); (focus (repeat (first | exact SubO.nil _ | (apply SubO.cons; (focus (repeat' (first | exact Pick.head _ _ | apply Pick.tail))))))); (focus (repeat (first | exact AllE.nil _ | (apply AllE.cons; (focus (first | exact ent_nilBy | exact ent_nilSl | (apply Ent.mem; repeat' (first | exact mcs | apply mct)))))))))

end Go.Proofs.YtdhbgolbfkejcaaDoor.C03

/-
  Joined forms and their scan: the mathematics.
-/
namespace Go.Proofs.YtdhbgolbfkejcaaDoor.C01
end Go.Proofs.YtdhbgolbfkejcaaDoor.C01
namespace Go.Proofs.YtdhbgolbfkejcaaDoor.C03
end Go.Proofs.YtdhbgolbfkejcaaDoor.C03
namespace Go.Proofs.YtdhbgolbfkejcaaDoor.C08
open C01 C03
open Go Go.RowKit Go.Hs

def pad4 (n : Nat) : Nat := (4 - n % 4) % 4
theorem pad4_mod (n : Nat) : (n + pad4 n) % 4 = 0 := by unfold pad4; omega
theorem pad4_lt (n : Nat) : pad4 n < 4 := by unfold pad4; omega
theorem pad4_add {a n : Nat} (h : a % 4 = 0) : pad4 (a + n) = pad4 n := by unfold pad4; omega
def zer (n : Nat) : List UInt8 := List.replicate n 0
theorem zer_length (n : Nat) : (zer n).length = n := List.length_replicate ..

/-- entries, one behind the other, with zeros between them. -/
def jg : List (List UInt8) → List UInt8
  | [] => []
  | e :: r => e ++ (if r.isEmpty then [] else zer (pad4 e.length) ++ jg r)
theorem jg_one (e : List UInt8) : jg [e] = e := by simp [jg]
theorem jg_cons {e : List UInt8} {r : List (List UInt8)} (h : r ≠ []) : jg (e :: r) = e ++ (zer (pad4 e.length) ++ jg r) := by
  cases r with
  | nil => exact absurd rfl h
  | cons _ _ => rfl
theorem jg_snoc (e : List UInt8) : ∀ (es : List (List UInt8)), jg (es ++ [e]) = jg es ++ zer (pad4 (jg es).length) ++ e
  | [] => by simp [jg, zer, pad4]
  | x :: es => by
    rw [List.cons_append, jg_cons (by simp), jg_snoc e es]
    cases es with
    | nil => simp [jg, zer, pad4]
    | cons y ys =>
      rw [jg_cons (e := x) (r := y :: ys) (by simp)]
      have e1 : pad4 (x ++ (zer (pad4 x.length) ++ jg (y :: ys))).length = pad4 (jg (y :: ys)).length := by
        rw [List.length_append, List.length_append, zer_length, ← Nat.add_assoc]
        exact pad4_add (pad4_mod _)
      rw [e1]
      simp only [List.append_assoc]

/-- entries, each with its zeros behind it. -/
def pj : List (List UInt8) → List UInt8
  | [] => []
  | e :: r => e ++ (zer (pad4 e.length) ++ pj r)
/-- the check value of a byte string, as a byte. -/
def c8 (xs : List UInt8) : UInt8 := UInt8.ofNat (crc P8 xs).toNat
theorem c8_cell (xs : List UInt8) : Value.int .u8 ((crc P8 xs).toNat : Int) = bcell (c8 xs) := by
  have := (crc P8 xs).isLt
  unfold bcell c8
  rw [UInt8.toNat_ofNat', Nat.mod_eq_of_lt (by omega)]
def dl2 (n : Nat) : List UInt8 := [UInt8.ofNat n, UInt8.ofNat (n / 256)]
def dlm (n : Nat) : List UInt8 := [UInt8.ofNat n, UInt8.ofNat (n / 256), c8 (dl2 n), 78]
theorem dlm_length (n : Nat) : (dlm n).length = 4 := rfl
def entp (p : List UInt8) : List UInt8 := dlm p.length ++ p
theorem entp_length (p : List UInt8) : (entp p).length = 4 + p.length := by simp [entp, dlm_length]
def jn (l : List (List UInt8)) : List UInt8 := jg (l.map entp)

/-- the number that the first two bytes tell. -/
def num2 (b : List UInt8) : Nat := (b.getD 0 0).toNat + 256 * (b.getD 1 0).toNat
theorem num2_lt (b : List UInt8) : num2 b < 65536 := by
  have h1 := (b.getD 0 0).toNat_lt
  have h2 := (b.getD 1 0).toNat_lt
  unfold num2
  omega
/-- a delimiter stands at the front, and its piece is there. -/
def hit (b : List UInt8) : Bool := decide (4 ≤ b.length) && decide (1 ≤ num2 b) && decide (num2 b ≤ 2400) && decide (b.take 4 = dlm (num2 b)) && decide (4 + num2 b ≤ b.length)
theorem hit_iff {b : List UInt8} : hit b = true ↔ 4 ≤ b.length ∧ 1 ≤ num2 b ∧ num2 b ≤ 2400 ∧ b.take 4 = dlm (num2 b) ∧ 4 + num2 b ≤ b.length := by
  simp only [hit, Bool.and_eq_true, decide_eq_true_eq]
  constructor
  · rintro ⟨⟨⟨⟨h1, h2⟩, h3⟩, h4⟩, h5⟩; exact ⟨h1, h2, h3, h4, h5⟩
  · rintro ⟨h1, h2, h3, h4, h5⟩; exact ⟨⟨⟨⟨h1, h2⟩, h3⟩, h4⟩, h5⟩
def scn : Nat → List UInt8 → List (List UInt8) × Nat
  | 0, _ => ([], 0)
  | f + 1, b =>
    if b.length < 4 then ([], 0)
    else if hit b then ((b.drop 4).take (num2 b) :: (scn f (b.drop (4 + num2 b + pad4 (num2 b)))).1, (scn f (b.drop (4 + num2 b + pad4 (num2 b)))).2)
    else ((scn f (b.drop 4)).1, (scn f (b.drop 4)).2 + 1)
theorem scn_fuel : ∀ (f g : Nat) (b : List UInt8), b.length ≤ f → b.length ≤ g → scn f b = scn g b
  | 0, 0, _, _, _ => rfl
  | 0, g + 1, b, h, _ => by
    rw [scn, scn, if_pos (by omega)]
  | f + 1, 0, b, _, h => by
    rw [scn, scn, if_pos (by omega)]
  | f + 1, g + 1, b, hf, hg => by
    rw [scn, scn]
    by_cases h1 : b.length < 4
    · rw [if_pos h1, if_pos h1]
    · rw [if_neg h1, if_neg h1, scn_fuel f g (b.drop (4 + num2 b + pad4 (num2 b))) (by rw [List.length_drop]; omega) (by rw [List.length_drop]; omega),
        scn_fuel f g (b.drop 4) (by rw [List.length_drop]; omega) (by rw [List.length_drop]; omega)]
def sc (b : List UInt8) : List (List UInt8) × Nat := scn b.length b
theorem sc_short {b : List UInt8} (h : b.length < 4) : sc b = ([], 0) := by
  unfold sc
  cases hl : b.length with
  | zero => rfl
  | succ k => rw [scn, if_pos h]
theorem sc_hit {b : List UInt8} (h : hit b = true) : sc b = ((b.drop 4).take (num2 b) :: (sc (b.drop (4 + num2 b + pad4 (num2 b)))).1, (sc (b.drop (4 + num2 b + pad4 (num2 b)))).2) := by
  have h4 := (hit_iff.1 h).1
  have e : sc b = scn ((b.length - 1) + 1) b := scn_fuel _ _ _ (Nat.le_refl _) (by omega)
  rw [e, scn, if_neg (by omega), if_pos h]
  have e2 : scn (b.length - 1) (b.drop (4 + num2 b + pad4 (num2 b))) = sc (b.drop (4 + num2 b + pad4 (num2 b))) := scn_fuel _ _ _ (by rw [List.length_drop]; omega) (Nat.le_refl _)
  rw [e2]
theorem sc_miss {b : List UInt8} (h4 : 4 ≤ b.length) (h : hit b = false) : sc b = ((sc (b.drop 4)).1, (sc (b.drop 4)).2 + 1) := by
  have e : sc b = scn ((b.length - 1) + 1) b := scn_fuel _ _ _ (Nat.le_refl _) (by omega)
  rw [e, scn, if_neg (by omega), if_neg (by simp [h])]
  have e2 : scn (b.length - 1) (b.drop 4) = sc (b.drop 4) := scn_fuel _ _ _ (by rw [List.length_drop]; omega) (Nat.le_refl _)
  rw [e2]

def okP (p : List UInt8) : Prop := 1 ≤ p.length ∧ p.length ≤ 2400
def okL (l : List (List UInt8)) : Prop := ∀ p ∈ l, okP p
/-- where the k-th entry begins. -/
def st : List (List UInt8) → Nat → Nat
  | p :: r, k + 1 => 4 + p.length + pad4 p.length + st r k
  | _, _ => 0
/-- a joined form, laid open at one piece. -/
def tl_ (l : List (List UInt8)) (k : Nat) : List UInt8 := if l.drop (k + 1) = [] then [] else zer (pad4 (l.getD k []).length) ++ jn (l.drop (k + 1))
/-- what stops a list of pieces from being joined. -/
def pieE : List (List UInt8) → Int
  | [] => 0
  | p :: r => if p.length = 0 then 8 else if 2400 < p.length then 11 else pieE r
theorem pieE_ok : ∀ {l : List (List UInt8)}, pieE l = 0 ↔ okL l
  | [] => ⟨fun _ _ h => (by cases h), fun _ => rfl⟩
  | p :: r => by
    unfold pieE
    constructor
    · intro h
      split at h
      · cases h
      · split at h
        · cases h
        · intro q hq
          rcases List.mem_cons.1 hq with rfl | hq
          · exact ⟨by omega, by omega⟩
          · exact pieE_ok.1 h q hq
    · intro h
      have h0 := h p List.mem_cons_self
      rw [if_neg (by have := h0.1; omega), if_neg (by have := h0.2; omega)]
      exact pieE_ok.2 fun q hq => h q (List.mem_cons_of_mem _ hq)
def jnE (l : List (List UInt8)) : List UInt8 × Int :=
  if l.length = 0 then ([], 6) else if 64 < l.length then ([], 4) else if pieE l = 0 then (if 65535 < (jn l).length then ([], 11) else (jn l, 0)) else ([], pieE l)
end Go.Proofs.YtdhbgolbfkejcaaDoor.C08

/-
  Contracts of the functions of layer 1: reading.
-/
namespace Go.Proofs.YtdhbgolbfkejcaaDoor.C01
open Go Go.RowKit Go.Hs
attribute [local irreducible] WL W WQ PL Runs Effs AllE Ent SubO FrIn Pick OneC Ones CellsE PartsE SeqE UZ By Sl Pt Ct

def okE (len : Nat) (at_ : Int) : Int := if 0 ≤ at_ ∧ at_ ≤ len then 0 else 8

def tkE (len : Nat) (at_ n : Int) : Int := if ¬ (0 ≤ at_ ∧ at_ ≤ len) then 8 else if n < 0 then 2 else if len - at_ < n then 10 else 0
def tkB (xs : List UInt8) (at_ n : Int) : List UInt8 := if tkE xs.length at_ n = 0 then (xs.drop at_.toNat).take n.toNat else []
def tkD (xs : List UInt8) (at_ n : Int) : List UInt8 := if tkE xs.length at_ n = 0 then xs else []
def tkA (len : Nat) (at_ n : Int) : Int := if tkE len at_ n = 0 then at_ + n else 0

end Go.Proofs.YtdhbgolbfkejcaaDoor.C01

/-
  Contracts of the functions of layer 1 that read numbers and texts, of the reference's, and of the comparisons.
-/
namespace Go.Proofs.YtdhbgolbfkejcaaDoor.C01
open Go Go.RowKit Go.Hs
attribute [local irreducible] WL W WQ PL Runs Effs AllE Ent SubO FrIn Pick OneC Ones CellsE PartsE SeqE UZ By Sl Pt Ct

def leN : List UInt8 → Nat
  | [] => 0
  | b :: r => b.toNat + 256 * leN r

def doE (len : Nat) (at_ : Int) : Int := if ¬ (0 ≤ at_ ∧ at_ ≤ len) then 8 else if at_ < len then 11 else 0

end Go.Proofs.YtdhbgolbfkejcaaDoor.C01

/-
  Contracts of the functions of layer 1 that read and set bits.
-/
namespace Go.Proofs.YtdhbgolbfkejcaaDoor.C01
open Go Go.RowKit Go.Hs
attribute [local irreducible] WL W WQ PL Runs Effs AllE Ent SubO FrIn Pick OneC Ones CellsE PartsE SeqE UZ By Sl Pt Ct

def inB (a n : Int) : Prop := 0 ≤ a ∧ a ≤ 64 ∧ 1 ≤ n ∧ n ≤ 64 - a
instance (a n : Int) : Decidable (inB a n) := by unfold inB; infer_instance

end Go.Proofs.YtdhbgolbfkejcaaDoor.C01

/-
  Contracts of the functions of layer 1 that write numbers and texts.
-/
namespace Go.Proofs.YtdhbgolbfkejcaaDoor.C01
open Go Go.RowKit Go.Hs
attribute [local irreducible] WL W WQ PL Runs Effs AllE Ent SubO FrIn Pick OneC Ones CellsE PartsE SeqE UZ By Sl Pt Ct

/-- the n lowest bytes of a number, the lowest first. -/
def leB (n v : Nat) : List UInt8 := (List.range n).map fun i => UInt8.ofNat (v / 256 ^ i)
end Go.Proofs.YtdhbgolbfkejcaaDoor.C01

/-
  Contracts of the functions of layer 1 that write numbers and texts: the reference's, and texts.
-/
namespace Go.Proofs.YtdhbgolbfkejcaaDoor.C01
open Go Go.RowKit Go.Hs
attribute [local irreducible] WL W WQ PL Runs Effs AllE Ent SubO FrIn Pick OneC Ones CellsE PartsE SeqE UZ By Sl Pt Ct

end Go.Proofs.YtdhbgolbfkejcaaDoor.C01

/-
  Contracts of the check values: the reference's.
-/
namespace Go.Proofs.YtdhbgolbfkejcaaDoor.C03
open Go Go.RowKit Go.Hs
attribute [local irreducible] WL W WQ PL Runs Effs AllE Ent SubO FrIn Pick OneC Ones CellsE PartsE SeqE UZ By Sl Pt Ct

def bitI (b : Bool) : Value := .int .i64 (if b then 1 else 0)
end Go.Proofs.YtdhbgolbfkejcaaDoor.C03

/-
  A range over a function: the loop's own walk, the function's, and where it ends. No program is named here.
-/
namespace Go.Hs
open Go Go.RowKit

/-- several own things as one. -/
def pk (Γ : List OA) : OA := .abs ⟨fpL Γ, Own Γ, fun h => Own.lt h, fun h k => h.keep k⟩
/-- a block that is no cells. -/
def ob (b : Nat) (o : Obj) : OA := .abs ⟨fun k => k = b, fun w => w.heap[b]? = some o, fun h _ e => by subst e; exact (Array.getElem?_eq_some_iff.1 h).1, fun h hk => (hk b (Array.getElem?_eq_some_iff.1 h).1 rfl).trans h⟩
/-- several lasting facts as one. -/
def cj (Φ : List SP) : SP := ⟨fun w O => ∀ ψ ∈ Φ, ψ.p w O, fun h hm ho ψ hψ => ψ.st (h ψ hψ) hm ho⟩

theorem Own.pk {Γ Δ : List OA} {w : World} : Own (pk Γ :: Δ) w ↔ Own (Γ ++ Δ) w := by
  rw [Own.append]
  constructor
  · rintro ⟨h1, h2, h3⟩
    exact ⟨h1, h3, h2⟩
  · rintro ⟨h1, h2, h3⟩
    exact ⟨h1, h3, h2⟩
theorem fpL_pk {Γ Δ : List OA} {k : Nat} : fpL (pk Γ :: Δ) k ↔ fpL (Γ ++ Δ) k := by
  rw [fpL_cons, fpL_append]
  exact Iff.rfl

/-- what a call of yield comes to: with these arguments, where it is handed Γ and Φ holds. -/
def Yc (P : Program) (l : Nat) (args : List Value) (Γ : List OA) (Φ : List SP) {X : Type} (pf : X → Prop) (ret : X → Value) (Γ' : X → List OA) (Φ' : X → List SP) : Prop :=
  ∀ w O0, (∀ k, O0 k → k < w.heap.size ∧ ¬ fpL Γ k) → Own Γ w → (∀ ψ ∈ Φ, ψ.p w (avo O0 Γ)) →
    ∃ fn tmps assign body, (Instr.yield l args.toArray).run P w = .ok (.round l fn tmps assign body) w ∧ RoundIn Fence.wide 0 P l fn tmps assign body w (FnPost w O0 (fpL Γ) pf ret Γ' Φ')

section
variable {C : Ctx} {fr : Fr} {Γ : List OA} {Φ : List SP} {ty : TypeId} {pos : String} {aft : Array Edge} {g : Option (Nat × Bool)}

end

-- ===== moves of memory at a block that is no cells =====

section
variable {C : Ctx} {Γ Δ : List OA} {Φ : List SP}
theorem Holds.pack {w : World} (h : Holds C (Γ ++ Δ) Φ w) : Holds C (pk Γ :: Δ) Φ w :=
  h.move (Mod.refl _ _) (Own.pk.2 h.own) fun _ _ hk => fpL_pk.1 hk
theorem Holds.unpack {w : World} (h : Holds C (pk Γ :: Δ) Φ w) : Holds C (Γ ++ Δ) Φ w :=
  h.move (Mod.refl _ _) (Own.pk.1 h.own) fun _ _ hk => fpL_pk.2 hk
end

-- ===== the rounds =====

/-- the jump that a round leaves behind. -/
def jumpOf : Exit → Option (Option Code)
  | .normal => some none
  | .ret => some (some .ret)
  | .exit i => some (some (.exit i))
  | .goto t => some (some (.goto t))
  | _ => none

def recOf (fn : FuncId) (t0 : Array Value) (ps : Array Tmp) (assign body : Code) (D : Nat) (j : Option Code) : Loop :=
  { state := if j.isNone then .ready else .done, pending := j, fn := fn, tmps := t0, params := ps, assign := assign, body := body, defers := D }

/-- how a round's body is left: the jump is told by the new state. -/
def RQ (C : Ctx) (l : Nat) (o : Obj) {α : Type} (step : α → Prop) (Y : α → List OA) (Ψ : α → List SP) (e : α → Option Code) : Exit → Act → World → Prop :=
  fun ex _ w => ∃ y, step y ∧ jumpOf ex = some (e y) ∧ Holds C (ob l o :: Y y) (Ψ y) w
def AQ (C : Ctx) (fr : Fr) (Γ : List OA) (Φ : List SP) : Exit → Act → World → Prop := fun ex a w => ex = .normal ∧ fok C fr a ∧ Holds C Γ Φ w

-- ===== a function that holds such a loop =====

abbrev CtxM (P : Program) (n : Nat) (w0 : World) (O0 M : Nat → Prop) (D : Nat) : Ctx := ⟨P, n, w0, O0, M, none, [⟨.collected D, #[]⟩]⟩

section
variable {P : Program} {n D : Nat} {w0 : World} {O0 M : Nat → Prop} {fn : Func} {fr : Fr} {Γ Γ1 : List OA} {Φ : List SP} {X : Type} {pf : X → Prop} {ret : X → Value} {Γ' : X → List OA} {Φ' : X → List SP}
end

section
variable {C : Ctx} {fr : Fr} {Γ Γ' Γ1 : List OA} {Φ : List SP} {d : Nat} {ty : TypeId} {pos : String} {aft : Array Edge} {g : Option (Nat × Bool)}
theorem R_makeFunc {fn : Fn} {caps : Array Operand} {vs : List Value} (hc : evOs fr caps.toList = some vs) : Runs C fr Γ Φ ⟨some d, .makeFunc fn #[] caps, ty, pos, aft, g⟩ (.func fn #[] vs.toArray) :=
  Runs.pure fun a w ha _ => by
    have e := evOs_sound ha hc
    have e2 : caps.map a.eval = vs.toArray := by
      apply Array.ext'
      simpa using e
    simp [execOp, Instr.makeFunc, e2]
theorem R_nilCheck {x : Operand} {A : Addr} (hx : evO fr x = some (.pointer (some A))) : Runs C fr Γ Φ ⟨some d, .nilCheck x, ty, pos, aft, g⟩ (.pointer (some A)) :=
  Runs.pure fun a w ha _ => by simp [execOp, evO_sound ha hx]

/-- a byte row that is made, told as lasting at once. -/
theorem Effs.letB {o : Oper} {X : Type} {pf : X → Prop} {vx : X → Value} {G : X → List OA} {H : X → List SP} {v : X → Value} {t : TypeId} {n : X → Nat} {bs : X → List UInt8}
    (h : Effs C fr Γ Φ o pf vx (fun x => .row (v x) t 1 (n x) ((bs x).map bcell) :: G x) H) : Effs C fr Γ Φ o pf vx G (fun x => By (v x) (bs x) :: H x) := by
  refine ⟨fun x ψ hψ => List.mem_cons_of_mem _ (h.1 x ψ hψ), fun R a w ha hw => (h.2 R a w ha hw).mono fun v' w' ⟨x, hp, hv, hw'⟩ => ⟨x, hp, hv, ?_⟩⟩
  exact Holds.letgoB hw' rfl

/-- things appended that are themselves slices. -/
theorem E_appendRowO {t e : TypeId} {x y : Operand} {v u : Value} {size n m nm : Nat} {xs news all : List Value} {i : TypeInfo} {z : Value}
    (hx : evO fr x = some v) (hy : evO fr y = some u) (hp : Pick (.row v e size n xs) Γ Γ') (hp' : Pick (.row u e size m news) Γ' Γ1)
    (ht : C.P.underlying t = some (.slice e)) (hi : C.P.info? e = some i) (hz : i.zero = some z) (hsize : i.size = size) (hzs : z.cells.size = size) (hsz : 0 < size) (h1 : Ones C Γ Φ news)
    (hby : i.bytes ≤ 128) (hb : n + m ≤ 1099511627776) (hnm : n + m = nm) (hall : xs ++ news = all) :
    Effs C fr Γ Φ ⟨some d, .call { callee := .builtin .append, args := #[x, y], argTypes := #[t, t] }, ty, pos, aft, g⟩ (X := Value) (fun _ => True) (fun q => q) (fun v' => .row v' e size nm all :: Γ1) (fun _ => Φ) := by
  refine ⟨fun _ => AllIn.refl _, fun R a w ha hw => ?_⟩
  exact (E_appendRow hx hy hp hp' ht hi hz hsize hzs hsz (fun u hu => h1 u hu R w hw) hby hb hnm hall).2 R a w ha hw
end

theorem ent_alS {Φ : List SP} {n : Nat} {ψ ψ' : Nat → SP} {χ : SP} (hm : Al n ψ ∈ Φ) (hc : χ ∈ Φ) (h1 : ∀ i, i < n → ψ i = ψ' i) (h2 : χ = ψ' n) : Ent Φ (Al (n + 1) ψ') := fun w O h i hi => by
  by_cases e : i < n
  · rw [← h1 i e]
    exact h _ hm i e
  · obtain rfl : i = n := by omega
    rw [← h2]
    exact h _ hc
theorem ent_nilRw {Φ : List SP} {size : Nat} {f : Nat → List Value} : Ent Φ (Rw size (.slice none 0 0) 0 f) := fun _ _ _ => ⟨none, 0, rfl, Nat.le_refl _, by simp [maxLen], fun h => absurd h (by omega)⟩
theorem ent_al0 {Φ : List SP} {ψ : Nat → SP} : Ent Φ (Al 0 ψ) := ent_alI fun i hi => absurd hi (by omega)
end Go.Hs

/-
  Trees of elements in memory; own things lent to a call; rows of bytes of which only the lengths matter. No program is named here.
-/
namespace Go.Hs
open Go Go.RowKit

-- ===== a call that looks at what is owned =====

/-- while Γb is owned and Φ holds, the facts Φb hold too (where Γb itself is not forbidden). -/
def Bor (Γb : List OA) (Φ Φb : List SP) : Prop := ∀ w O, Own Γb w → (∀ k, fpL Γb k → ¬ O k) → (∀ ψ ∈ Φ, ψ.p w O) → ∀ ψ ∈ Φb, ψ.p w O

section
variable {C : Ctx} {ops : Array Oper} {l : List Oper} {fr : Fr} {Γ Γ' Γ1 : List OA} {Φ : List SP} {Q : Exit → Act → World → Prop}
  {d : Nat} {ty : TypeId} {pos : String} {aft : Array Edge} {g : Option (Nat × Bool)}

theorem Bor.row {v : Value} {t : TypeId} {n : Nat} {bs : List UInt8} {Γr : List OA} (hn : n = bs.length) : Bor [.row v t 1 n (bs.map bcell)] Φ (By v bs :: Φ) := fun w O ho hd hΦ ψ hψ => by
  rcases List.mem_cons.1 hψ with rfl | hψ
  · subst hn
    exact slP_of_row ho.1 fun k hk => hd k (fpL_cons.2 (.inl hk))
  · exact hΦ ψ hψ

theorem R_callB {dst : Option Tmp} {f : FuncId} {args : List Operand} {argTypes : Array TypeId} {vs : List Value} {Φp : List SP} {v : Value} {Γb Γr : List OA}
    (ha : evOs fr args = some vs)
    (hrun : ∀ (aas : Array Value) (w : World), (callFunc f aas).run C.P w = .ok (.enter f aas) w)
    (hfn : CtD C.P f vs Φp v) (hp : Γ.Perm (Γb ++ Γr)) (hb : Bor Γb Φ Φp) :
    Runs C fr Γ Φ ⟨dst, .call { callee := .value (.func f), args := args.toArray, argTypes := argTypes }, ty, pos, aft, g⟩ v := by
  intro a w hfa hw0
  have hw := hw0.perm hp
  obtain ⟨ho1, ho2, ho3⟩ := Own.append.1 hw.own
  have hO : ∀ k, avo C.O0 Γr k → k < w.heap.size ∧ ¬ fpL [] k := fun k hk => by
    refine ⟨?_, fun ⟨_, hx, _⟩ => by cases hx⟩
    rcases hk with hk | hk
    · exact Nat.lt_of_lt_of_le (hw.o0 k hk).1 hw.mod.size
    · exact Own.lt ho2 hk
  have hd : ∀ k, fpL Γb k → ¬ avo C.O0 Γr k := fun k hk hn => by
    rcases hn with hn | hn
    · have h1 := hw.o0 k hn
      rcases hw.ofp k (fpL_append.2 (.inl hk)) with h2 | h2
      · exact h1.2 h2
      · omega
    · exact ho3 k hk hn
  have hΦ : ∀ ψ ∈ Φ, ψ.p w (avo C.O0 Γr) := fun ψ hψ => ψ.st (hw.sp ψ hψ) (Mod.refl _ _) fun k _ hk => hk.elim .inl fun h => .inr (fpL_append.2 (.inr h))
  have hcall := hfn w (avo C.O0 Γr) hO trivial (fun ψ hψ => ψ.st (hb w _ ho1 hd hΦ ψ hψ) (Mod.refl _ _) fun k _ hk => hk.elim id fun ⟨_, hx, _⟩ => by cases hx)
  have hrun' : (execOp a.eval ⟨dst, .call { callee := .value (.func f), args := args.toArray, argTypes := argTypes }, ty, pos, aft, g⟩).run C.P w = .ok (.enter f vs.toArray) w := by
    have e2 := evOs_sound hfa ha
    simp only [execOp, resolve, Act.eval, Deferred.ofValue, List.map_toArray, e2, Sem.run_bind, Sem.run_pure, Result.andThen_ok, invoke]
    rw [hrun]
    congr 2
    apply Array.ext'
    simp
  rw [hrun']
  show Calls _ _ _ _ _
  exact hcall.mono fun e w1 ⟨_, _, he, hm, _⟩ => ⟨_, he, rfl, hm.mono fun k _ ⟨_, hx, _⟩ => by cases hx⟩

/-- a plain truth drawn from what holds. -/
theorem W_pure {c : Code} {p : Prop} (hp : ∀ w, Holds C Γ Φ w → p) (h : p → W C c fr Γ Φ Q) : W C c fr Γ Φ Q := fun a w ha hw => h (hp w hw) a w ha hw
def isNilV : Value → Bool
  | .slice none _ _ => true
  | _ => false

theorem R_eqNil {x y : Operand} {t e t' : TypeId} {v : Value} {size n : Nat} {xs : List Value} (hx : evO fr x = some v) (hy : evO fr y = some (.slice none 0 0)) (hm : Sl size v n xs ∈ Φ) (ht : C.P.underlying t = some (.slice e)) :
    Runs C fr Γ Φ ⟨some d, .binOp .eql t x y t', ty, pos, aft, g⟩ (.bool (isNilV v)) :=
  Runs.pure fun a w ha hw => by
    obtain ⟨_, A, c, hv, _⟩ := hw.sp _ hm
    subst hv
    have h := Lib.run_eql_slice_nil (P := C.P) w t e A n c 0 0 ht
    have hg : (eqGuard .eql t x y (.slice A n c) (.slice none 0 0)).run C.P w = .ok () w := by simp [eqGuard]
    simp only [execOp, evO_sound ha hx, evO_sound ha hy, Sem.run_bind, hg, Result.andThen_ok, h, Sem.run_pure]
    cases A <;> rfl
theorem R_eqNilB {x y : Operand} {t e t' : TypeId} {v : Value} {bs : List UInt8} (hx : evO fr x = some v) (hy : evO fr y = some (.slice none 0 0)) (hm : By v bs ∈ Φ) (ht : C.P.underlying t = some (.slice e)) :
    Runs C fr Γ Φ ⟨some d, .binOp .eql t x y t', ty, pos, aft, g⟩ (.bool (isNilV v)) := R_eqNil (xs := bs.map bcell) (size := 1) hx hy hm ht
theorem by_nil {v : Value} {bs : List UInt8} (h : isNilV v = true) (hm : By v bs ∈ Φ) : ∀ w, Holds C Γ Φ w → bs = [] := fun w hw => by
  obtain ⟨_, A, c, rfl, _, _, hr⟩ := hw.sp _ hm
  cases A with
  | some A => cases h
  | none =>
    cases bs with
    | nil => rfl
    | cons b r =>
      obtain ⟨ad, h, _⟩ := hr (by simp)
      cases h
/-- a method's value: the receiver is kept. -/
theorem R_makeFunc1 {fn : FuncId} {x : Operand} {v : Value} (hx : evO fr x = some v) : Runs C fr Γ Φ ⟨some d, .makeFunc (.func fn) #[x] #[], ty, pos, aft, g⟩ (.func (.func fn) #[v] #[]) :=
  Runs.pure fun a w ha _ => by simp [execOp, Instr.makeFunc, evO_sound ha hx]
end

theorem perm1 {x : OA} {Γ Γr : List OA} (h : Pick x Γ Γr) : Γ.Perm ([x] ++ Γr) := h
-- ===== many rows of bytes aas one thing =====

def rowsL (bt : TypeId) (L : List (Value × List UInt8)) : List OA := L.map fun p => .row p.1 bt 1 p.2.length (p.2.map bcell)
theorem rowsL_append (bt : TypeId) (L K : List (Value × List UInt8)) : rowsL bt (L ++ K) = rowsL bt L ++ rowsL bt K := List.map_append ..

section
variable {C : Ctx} {ops : Array Oper} {l : List Oper} {fr : Fr} {Γ Γ1 Γ2 : List OA} {Φ : List SP} {Q : Exit → Act → World → Prop}
theorem Holds.addL {bt : TypeId} {L : List (Value × List UInt8)} {v : Value} {n : Nat} {xs : List Value} {bs : List UInt8} {w : World} (h : Holds C (.row v bt 1 n xs :: pk (rowsL bt L) :: Γ) Φ w) (hx : xs = bs.map bcell) :
    Holds C (pk (rowsL bt (L ++ [(v, bs)])) :: Γ) Φ w := by
  have hn : n = bs.length := by
    have := h.own.1.1
    subst hx
    simpa using this.symm
  subst hx
  subst hn
  have h1 := (h.perm (.swap _ _ _)).unpack
  have h2 : Holds C (rowsL bt (L ++ [(v, bs)]) ++ Γ) Φ w := by
    rw [rowsL_append, List.append_assoc]
    exact h1
  exact h2.pack
theorem Holds.nilL {w : World} (bt : TypeId) (h : Holds C Γ Φ w) : Holds C (pk (rowsL bt []) :: Γ) Φ w := Holds.pack h

theorem WQ_addL {e : Exit} {bt : TypeId} {L : List (Value × List UInt8)} {n : Nat} {v : Value} {xs : List Value} (bs : List UInt8) (hx : xs = bs.map bcell) (hp : Pick (.row v bt 1 n xs) Γ Γ1) (hp' : Pick (pk (rowsL bt L)) Γ1 Γ2)
    (h : WQ C e fr (pk (rowsL bt (L ++ [(v, bs)])) :: Γ2) Φ Q) : WQ C e fr Γ Φ Q := fun a w ha hw => h a w ha (((pick_holds hp hw).perm (List.Perm.cons _ hp')).addL hx)
theorem W_nilL {c : Code} (bt : TypeId) (h : W C c fr (pk (rowsL bt []) :: Γ) Φ Q) : W C c fr Γ Φ Q := fun a w ha hw => h a w ha (hw.nilL bt)
theorem WQ_nilL {e : Exit} (bt : TypeId) (h : WQ C e fr (pk (rowsL bt []) :: Γ) Φ Q) : WQ C e fr Γ Φ Q := fun a w ha hw => h a w ha (hw.nilL bt)
end

-- ===== trees =====

/-- a list of elements as it stands in memory, each with its own list; the values that lead to the data and to the list are told too. -/
inductive T where
  | nil
  | cons (id ext : UInt8) (dv : Value) (data : List UInt8) (sv : Value) (subs next : T)

/-- the same without the values. -/
inductive Fo where
  | nil
  | cons (id ext : UInt8) (data : List UInt8) (subs next : Fo)
deriving DecidableEq

namespace T
def er : T → Fo
  | .nil => .nil
  | .cons id ext _ data _ subs next => .cons id ext data subs.er next.er
def len : T → Nat
  | .nil => 0
  | .cons _ _ _ _ _ _ next => next.len + 1
def drop : Nat → T → T
  | 0, t => t
  | _ + 1, .nil => .nil
  | k + 1, .cons _ _ _ _ _ _ next => drop k next
def app : T → T → T
  | .nil, u => u
  | .cons id ext dv data sv subs next, u => .cons id ext dv data sv subs (next.app u)
def head : T → List Value
  | .nil => []
  | .cons id ext dv _ sv _ _ => [bcell id, bcell ext, dv, sv]
def at_ (t : T) (i : Nat) : List Value := (t.drop i).head
def cells : T → List Value
  | .nil => []
  | .cons id ext dv _ sv _ next => bcell id :: bcell ext :: dv :: sv :: next.cells
def dls : T → List (Value × List UInt8)
  | .nil => []
  | .cons _ _ dv data _ _ next => (dv, data) :: next.dls

def tfP : T → World → (Nat → Prop) → Prop
  | .nil, _, _ => True
  | .cons _ _ dv data sv subs next, w, O => (By dv data).p w O ∧ (Rw 4 sv subs.len subs.at_).p w O ∧ subs.tfP w O ∧ next.tfP w O
theorem tfP.st : ∀ {t : T} {w w' : World} {O O' : Nat → Prop}, t.tfP w O → Mod O w w' → (∀ k, k < w.heap.size → O' k → O k) → t.tfP w' O'
  | .nil, _, _, _, _, _, _, _ => trivial
  | .cons _ _ _ _ _ _ _, _, _, _, _, h, hm, ho => ⟨SP.st _ h.1 hm ho, SP.st _ h.2.1 hm ho, tfP.st h.2.2.1 hm ho, tfP.st h.2.2.2 hm ho⟩
/-- what hangs on the elements lasts. -/
def tf (t : T) : SP := ⟨t.tfP, tfP.st⟩

def tsP : T → World → (Nat → Prop) → Prop
  | .nil, _, _ => True
  | .cons _ _ _ _ sv subs next, w, O => (Rw 4 sv subs.len subs.at_).p w O ∧ subs.tfP w O ∧ next.tsP w O
theorem tsP.st : ∀ {t : T} {w w' : World} {O O' : Nat → Prop}, t.tsP w O → Mod O w w' → (∀ k, k < w.heap.size → O' k → O k) → t.tsP w' O'
  | .nil, _, _, _, _, _, _, _ => trivial
  | .cons _ _ _ _ _ _ _, _, _, _, _, h, hm, ho => ⟨SP.st _ h.1 hm ho, tfP.st h.2.1 hm ho, tsP.st h.2.2 hm ho⟩
/-- the same of the elements' lists alone: the data are owned. -/
def ts (t : T) : SP := ⟨t.tsP, tsP.st⟩

def size : T → Nat
  | .nil => 0
  | .cons _ _ _ _ _ subs next => subs.size + next.size + 1
end T

section
variable {C : Ctx} {fr : Fr} {Γ Γ1 : List OA} {Φ : List SP}
end
theorem by_le {C : Ctx} {Γ : List OA} {Φ : List SP} {v : Value} {bs : List UInt8} (hm : By v bs ∈ Φ) : ∀ w, Holds C Γ Φ w → bs.length ≤ 9223372036854775807 := fun w h => by
  obtain ⟨_, A, c, _, h1, h2, _⟩ := (show slP 1 v bs.length (bs.map bcell) w _ from h.sp _ hm)
  have : maxLen = 9223372036854775807 := rfl
  omega
end Go.Hs

/-
  Elements of own rows of structs, boxes let go, own rows cut and cleared, max. No program is named here.
-/
namespace Go.Hs
open Go Go.RowKit

/-- a truth kept out of the way of reckoning tactics. -/
structure Kp (p : Prop) : Prop where
  out : p

theorem row_cell {w : World} {v : Value} {t : TypeId} {size n : Nat} {xs : List Value} (h : w.ownsRow 0 t size v n xs) {k : Nat} {u : Value} (hk : xs[k]? = some u) :
    ∃ b c cur, v = .slice (some ⟨b, 0, none⟩) n c ∧ w.heap[b]? = some (.cells cur t (0, 0)) ∧ n ≤ c ∧ cur.size = c * size ∧ cur.toList.take (n * size) = xs ∧ w.cell? ⟨b, k, none⟩ = some u := by
  obtain ⟨h1, h2⟩ := h
  have hlt := (List.getElem?_eq_some_iff.1 hk).1
  rcases h2 with ⟨rfl, rfl⟩ | ⟨g, cap, cur, rfl, _, hh, hc, hm, hs, ht⟩
  · omega
  · refine ⟨g, cap, cur, rfl, hh, hc, hs, ht, ?_⟩
    simp only [World.cell?, hh]
    rw [← ht, List.getElem?_take_of_lt (by omega)] at hk
    simpa using hk

section
variable {C : Ctx} {ops : Array Oper} {l : List Oper} {fr : Fr} {Γ Γ' Γ1 : List OA} {Φ : List SP} {Q : Exit → Act → World → Prop}
  {d : Nat} {ty : TypeId} {pos : String} {aft : Array Edge} {g : Option (Nat × Bool)}

theorem R_max2 {x y : Operand} {kd : IntKind} {a b m : Int} {ts : Array TypeId} (hx : evO fr x = some (.int kd a)) (hy : evO fr y = some (.int kd b))
    (hr : (if b > a then b else a) = m) : Runs C fr Γ Φ ⟨some d, .call { callee := .builtin .max, args := #[x, y], argTypes := ts }, ty, pos, aft, g⟩ (.int kd m) :=
  Runs.pure fun a' w ha _ => by
    subst hr
    simp [execOp, resolve, invoke, builtin, evO_sound ha hx, evO_sound ha hy, Builtin.max_, Builtin.max2]
theorem R_min2 {x y : Operand} {kd : IntKind} {a b m : Int} {ts : Array TypeId} (hx : evO fr x = some (.int kd a)) (hy : evO fr y = some (.int kd b))
    (hr : (if b < a then b else a) = m) : Runs C fr Γ Φ ⟨some d, .call { callee := .builtin .min, args := #[x, y], argTypes := ts }, ty, pos, aft, g⟩ (.int kd m) :=
  Runs.pure fun a' w ha _ => by
    subst hr
    simp [execOp, resolve, invoke, builtin, evO_sound ha hx, evO_sound ha hy, Builtin.min_, Builtin.min2]

theorem R_addS {x y : Operand} {t t' : TypeId} {a b : List UInt8} (hx : evO fr x = some (strV a)) (hy : evO fr y = some (strV b)) (hl : a.length + b.length ≤ 9223372036854775807) :
    Runs C fr Γ Φ ⟨some d, .binOp .add t x y t', ty, pos, aft, g⟩ (strV (a ++ b)) :=
  Runs.pure fun a' w ha _ => by
    have e1 := evO_sound ha hx
    have e2 := evO_sound ha hy
    simp only [strV] at e1 e2
    have hb : (⟨a.toArray⟩ : ByteArray) ++ ⟨b.toArray⟩ = ⟨(a ++ b).toArray⟩ := by
      apply ByteArray.ext
      rw [ByteArray.data_append]
      simp
    have hn : ¬ ((((⟨a.toArray⟩ : ByteArray).size + (⟨b.toArray⟩ : ByteArray).size : Nat) : Int) > IntKind.i64.max) := by
      have e3 : (⟨a.toArray⟩ : ByteArray).size = a.length := by simp [ByteArray.size]
      have e4 : (⟨b.toArray⟩ : ByteArray).size = b.length := by simp [ByteArray.size]
      rw [e3, e4]
      have : IntKind.i64.max = 9223372036854775807 := rfl
      omega
    have hg : (eqGuard .add t x y (.string ⟨a.toArray⟩) (.string ⟨b.toArray⟩)).run C.P w = .ok () w := by simp [eqGuard]
    simp only [execOp, e1, e2, hg, binOp, Op.stringOp, Sem.run_bind, if_neg hn, Sem.run_pure, Result.andThen_ok, hb, strV]

theorem Ones.append {us vs : List Value} (h : Ones C Γ Φ us) (k : Ones C Γ Φ vs) : Ones C Γ Φ (us ++ vs) := fun u hu => (List.mem_append.1 hu).elim (h u) (k u)
/-- append to an own row, of lasting data whose cells are each one. -/
theorem E_appendO {t e : TypeId} {x y : Operand} {v u : Value} {size n m nm : Nat} {xs news all : List Value} {i : TypeInfo} {z : Value}
    (hx : evO fr x = some v) (hy : evO fr y = some u) (hp : Pick (.row v e size n xs) Γ Γ') (hm : Sl size u m news ∈ Φ)
    (ht : C.P.underlying t = some (.slice e)) (hi : C.P.info? e = some i) (hz : i.zero = some z) (hsize : i.size = size) (hzs : z.cells.size = size) (hsz : 0 < size) (h1 : Ones C Γ Φ news)
    (hby : i.bytes ≤ 128) (hb : n + m ≤ 1099511627776) (hnm : n + m = nm) (hall : xs ++ news = all) :
    Effs C fr Γ Φ ⟨some d, .call { callee := .builtin .append, args := #[x, y], argTypes := #[t, t] }, ty, pos, aft, g⟩ (X := Value) (fun _ => True) (fun q => q) (fun v' => .row v' e size nm all :: Γ') (fun _ => Φ) := by
  refine ⟨fun _ => AllIn.refl _, fun R a w ha hw => ?_⟩
  exact (E_append hx hy hp hm ht hi hz hsize hzs hsz (fun u hu => h1 u hu R w hw) hby hb hnm hall).2 R a w ha hw

/-- a field's address in an element of an own row. -/
theorem R_fieldRow {t ft rt : TypeId} {fs : Array Field} {x : Operand} {v : Value} {i j n fo bo size sz : Nat} {xs : List Value} {nm tag pk : String} {emb : Bool} (hx : evO fr x = some (idxV size i v))
    (hp : Pick (.row v rt size n xs) Γ Γ') (hi : i < n)
    (ht : C.P.underlying t = some (.struct fs)) (hf : fs[j]? = some ⟨nm, ft, fo, emb, tag, pk, bo⟩) (hs : ∀ w, (sizeOf ft).run C.P w = .ok sz w) (hn : Nat.beq sz 0 = false) :
    Runs C fr Γ Φ ⟨some d, .fieldAddr t x j, ty, pos, aft, g⟩ (fldV fo (idxV size i v)) :=
  Runs.pure fun a w ha hw => by
    obtain ⟨hl, h2⟩ := (pick_holds hp hw).own.1
    rcases h2 with ⟨h2, _⟩ | ⟨b, cap, cur, rfl, _, hb, hc, hm, hsz, htk⟩
    · omega
    · have h := run_fieldAt (P := C.P) (a := (⟨b, 0, none⟩ : Addr).add (i * size)) ht hf hs hn w
      simp only [execOp, evO_sound ha hx, idxV, Sem.run_bind, h, Result.andThen_ok, Sem.run_pure, fldV]

theorem R_loadRowF {t rt : TypeId} {x : Operand} {v u : Value} {n i off size : Nat} {xs : List Value} (hx : evO fr x = some (fldV off (idxV size i v))) (hp : Pick (.row v rt size n xs) Γ Γ') (hagg : ∀ w, (isAgg t).run C.P w = .ok false w)
    (hc : xs[i * size + off]? = some u) : Runs C fr Γ Φ ⟨some d, .load t x, ty, pos, aft, g⟩ u :=
  Runs.pure fun a w ha hw => by
    obtain ⟨b, c, cur, rfl, hb, _, _, _, h0⟩ := row_cell (pick_holds hp hw).own.1 hc
    have h0 : w.cell? (((⟨b, 0, none⟩ : Addr).add (i * size)).add off) = some u := by
      rw [Addr.add_lit, Addr.add_lit, Nat.zero_add]
      exact h0
    simp [execOp, evO_sound ha hx, idxV, fldV, Instr.loadAt, Instr.sureAddr, run_loadVar_one hagg h0]

/-- an own block, let go. -/
theorem Holds.letgoK {b : Nat} {t : TypeId} {cs : List Value} {w : World} (h : Holds C (.blk b t cs :: Γ) Φ w) : Holds C Γ (Pt (.pointer (some ⟨b, 0, none⟩)) cs :: Φ) w := by
  have ho := h.own
  refine h.drop.cons ⟨⟨b, 0, none⟩, rfl, OA.lt ho.1 rfl, fun hO => ?_, fun j u hu => ?_⟩
  · rcases hO with hO | hO
    · have h1 := h.o0 b hO
      rcases h.ofp b (fpL_cons.2 (.inl rfl)) with h2 | h2
      · exact h1.2 h2
      · have := h1.1
        omega
    · exact ho.2.1 b rfl hO
  · rw [Addr.add_lit, Nat.zero_add, blk_cell ho.1]
    exact hu
theorem W_letgoK {c : Code} {b : Nat} {t : TypeId} {cs : List Value} (hp : Pick (.blk b t cs) Γ Γ1) (h : W C c fr Γ1 (Pt (.pointer (some ⟨b, 0, none⟩)) cs :: Φ) Q) : W C c fr Γ Φ Q := fun a w ha hw => h a w ha (pick_holds hp hw).letgoK
theorem WL_letgoK {b : Nat} {t : TypeId} {cs : List Value} (hp : Pick (.blk b t cs) Γ Γ1) (h : WL C ops l fr Γ1 (Pt (.pointer (some ⟨b, 0, none⟩)) cs :: Φ) Q) : WL C ops l fr Γ Φ Q := fun a w ha hw => h a w ha (pick_holds hp hw).letgoK
/-- the front of an own row. -/
theorem E_cutRow {t e rt : TypeId} {x y : Operand} {v : Value} {size n j : Nat} {kd : IntKind} {ii : Int} {xs us : List Value} (hx : evO fr x = some v) (hy : evO fr y = some (.int kd ii)) (hp : Pick (.row v rt size n xs) Γ Γ')
    (ht : C.P.underlying t = some (.slice e)) (hs : ∀ w, (sizeOf e).run C.P w = .ok size w) (hii : ii = (j : Int)) (hj : j ≤ n) (hu : xs.take (j * size) = us) :
    Effs C fr Γ Φ ⟨some d, .slice t x none (some y) none, ty, pos, aft, g⟩ (X := Unit) (fun _ => True) (fun _ => cutV size 0 j v) (fun _ => .row (cutV size 0 j v) rt size j us :: Γ') (fun _ => Φ) := by
  subst hii
  subst hu
  refine ⟨fun _ => AllIn.refl _, fun R a w ha hw => ?_⟩
  have hw' := pick_holds (pick_app hp R) hw
  obtain ⟨hl, h2⟩ := hw'.own.1
  have hrun : ∀ A c, v = .slice A n c → n ≤ c → (execOp a.eval ⟨some d, .slice t x none (some y) none, ty, pos, aft, g⟩).run C.P w = .ok (.value (cutV size 0 j v)) w := fun A c hv hc => by
    subst hv
    have h := run_slice_data_h (P := C.P) (w := w) (n := n) (A := A) (c := c) (kh := kd) ht hs (show j ≤ c by omega)
    simp [execOp, evO_sound ha hx, evO_sound ha hy, h, cutV]
  rcases h2 with ⟨rfl, rfl⟩ | ⟨b, cap, cur, rfl, _, hb, hcc, hm, hsz, htk⟩
  · obtain rfl : j = 0 := by omega
    refine .val (hrun none 0 rfl (Nat.le_refl _)) ⟨(), trivial, rfl, ?_⟩
    have e : cutV size 0 0 (.slice none 0 0) = .slice none 0 0 := rfl
    rw [e]
    refine hw'.move (Mod.refl _ _) ⟨⟨by simp, .inl ⟨rfl, rfl⟩⟩, hw'.own.2.1, hw'.own.2.2⟩ fun k _ hk => ?_
    rcases fpL_cons.1 hk with hk | hk
    · exact fpL_cons.2 (.inl hk)
    · exact fpL_cons.2 (.inr hk)
  · refine .val (hrun _ cap rfl hcc) ⟨(), trivial, rfl, ?_⟩
    have e : cutV size 0 j (.slice (some ⟨b, 0, none⟩) n cap) = .slice (some ⟨b, 0, none⟩) j cap := by
      simp only [cutV, Nat.zero_mul, Nat.sub_zero, Option.map_some, Addr.add_lit, Nat.zero_add]
      split <;> rfl
    rw [e]
    have hj2 : j * size ≤ n * size := Nat.mul_le_mul_right _ hj
    refine hw'.move (Mod.refl _ _) ⟨⟨by simp; omega, .inr ⟨b, cap, cur, rfl, Nat.zero_le _, hb, by omega, hm, hsz, ?_⟩⟩, hw'.own.2.1, hw'.own.2.2⟩ fun k _ hk => ?_
    · rw [← htk, List.take_take, Nat.min_eq_left hj2]
    · rcases fpL_cons.1 hk with hk | hk
      · exact fpL_cons.2 (.inl hk)
      · exact fpL_cons.2 (.inr hk)

end
end Go.Hs

/-
  Loops whose rounds hold a range over a function: the marks that such a statement leaves. No program is named here.
-/
namespace Go.Hs
open Go Go.RowKit

/-- the marks of ranges over functions, and their blocks. -/
def Mk (Ds : List Nat) : List Deferred := Ds.map fun D => ⟨.collected D, #[]⟩
def mkO (Ds : List Nat) : List OA := Ds.map fun D => ob D (.deferred (some []))

section
variable {P : Program} {n : Nat} {w0 : World} {O0 M : Nat → Prop} {fr : Fr} {Γ Γ1 : List OA} {Φ : List SP} {Q : Exit → Act → World → Prop}

end

section
variable {P : Program} {n : Nat} {w0 : World} {O0 M : Nat → Prop} {fn : Func} {fr : Fr} {Γ Γ1 : List OA} {Φ : List SP} {X : Type} {pf : X → Prop} {ret : X → Value} {Γ' : X → List OA} {Φ' : X → List SP}
end
end Go.Hs

/-
  The rules of the small logic for arrays of six bytes, for slices of arrays, and for comparing things of several cells. No program is named here.
-/
namespace Go.Hs
open Go Go.RowKit

/-- six bytes. -/
structure A6 where
  a0 : UInt8
  a1 : UInt8
  a2 : UInt8
  a3 : UInt8
  a4 : UInt8
  a5 : UInt8
deriving DecidableEq
def A6.bytes (a : A6) : List UInt8 := [a.a0, a.a1, a.a2, a.a3, a.a4, a.a5]
def A6.cells (a : A6) : List Value := [bcell a.a0, bcell a.a1, bcell a.a2, bcell a.a3, bcell a.a4, bcell a.a5]
theorem A6.bytes_inj {a b : A6} (h : a.bytes = b.bytes) : a = b := by
  obtain ⟨a0, a1, a2, a3, a4, a5⟩ := a
  obtain ⟨b0, b1, b2, b3, b4, b5⟩ := b
  simp only [A6.bytes, List.cons.injEq, and_true] at h
  obtain ⟨rfl, rfl, rfl, rfl, rfl, rfl⟩ := h
  rfl
def A6.of (l : List UInt8) : A6 := ⟨l.getD 0 0, l.getD 1 0, l.getD 2 0, l.getD 3 0, l.getD 4 0, l.getD 5 0⟩
def zA6 : A6 := ⟨0, 0, 0, 0, 0, 0⟩
/-- a cell that holds a byte. -/
def Bc (v : Value) (b : UInt8) : Prop := v = bcell b
theorem Bc.self (b : UInt8) : Bc (bcell b) b := rfl
theorem Bc.zero : Bc (.int .u8 0) 0 := rfl
theorem Bc.lit (n : Nat) (h : Nat.blt n 256 = true) : Bc (.int .u8 (Int.ofNat n)) (UInt8.ofNat n) := by
  have h : n < 256 := Nat.le_of_ble_eq_true h
  show Value.int .u8 (Int.ofNat n) = .int .u8 ((UInt8.ofNat n).toNat : Int)
  rw [UInt8.toNat_ofNat', Nat.mod_eq_of_lt h]
  rfl

/-- a cell and what it tells when compared. -/
def Kc (P : Program) (t : TypeId) (cs : List Value) (ls : List Lit) : Prop := ∃ D, P.keyLits D t cs = some ls

section
variable {P : Program}
theorem keyLits_mono_u8 {e : TypeId} (he : P.underlying e = some (.int .u8)) (b : UInt8) : P.keyLits 1 e [bcell b] = some [.int .u8 (b.toNat : Int)] := by
  have h : (Lit.int .u8 (b.toNat : Int)).wf = true := by
    have := b.toNat_lt
    simp [Lit.wf, IntKind.min, IntKind.max, IntKind.signed, IntKind.bits] <;> omega
  simp [Program.keyLits, he, bcell, h]
theorem keyLits_a6 {t e : TypeId} (ht : P.underlying t = some (.array 6 e)) (he : P.underlying e = some (.int .u8)) (hce : P.cellsOf e = 1) (hct : P.cellsOf t = 6) (a : A6) :
    P.keyLits 2 t a.cells = some (a.bytes.map fun b => .int .u8 (b.toNat : Int)) := by
  have h := fun b => keyLits_mono_u8 he b
  have hr : List.range 6 = [0, 1, 2, 3, 4, 5] := rfl
  rw [show (2 : Nat) = 1 + 1 from rfl]
  unfold Program.keyLits
  simp only [ht, hct, hce, A6.cells, List.length_cons, List.length_nil, if_true, hr, List.mapM_cons, List.mapM_nil, Nat.zero_mul, Nat.one_mul, Nat.mul_one, List.drop_zero, List.drop_succ_cons, List.take_succ_cons, List.take_zero, h,
    Option.pure_def, Option.bind_eq_bind, Option.bind_some, Option.map_some]
  rfl
theorem a6_lits_inj {a b : A6} : (a.bytes.map fun b => Lit.int .u8 (b.toNat : Int)) = (b.bytes.map fun b => Lit.int .u8 (b.toNat : Int)) ↔ a = b := by
  constructor
  · intro h
    apply A6.bytes_inj
    refine List.map_inj_right (fun x y hxy => ?_) |>.1 h
    injection hxy with _ hxy
    exact UInt8.toNat_inj.1 (by omega)
  · rintro rfl; rfl
end

section
variable {C : Ctx} {ops : Array Oper} {l : List Oper} {fr : Fr} {Γ Γ' Γ1 : List OA} {Φ : List SP} {Q : Exit → Act → World → Prop}
  {d : Nat} {ty : TypeId} {pos : String} {aft : Array Edge} {g : Option (Nat × Bool)}

theorem neS_t' {α : Type} {a b : α} [Decidable (a = b)] (h : ¬ a = b) : (!decide (a = b)) = true := by rw [decide_eq_false h]; rfl
theorem neS_f' {α : Type} {a b : α} [Decidable (a = b)] (h : a = b) : (!decide (a = b)) = false := by rw [decide_eq_true h]; rfl
/-- two things of several cells compared. -/
theorem R_eqG {x y : Operand} {t t' : TypeId} {cs ds : List Value} {D D' : Nat} {la lb : List Lit} {c : Bool} {m : Nat} (hx : evO fr x = some (.agg cs.toArray)) (hy : evO fr y = some (.agg ds.toArray))
    (hk : C.P.keyTypeAt m t = true) (hm : Nat.ble m 10000 = true) (hg : C.P.eqGuardType C.P.depth t = false)
    (fx : (Value.agg cs.toArray).formed C.P t = true) (fy : (Value.agg ds.toArray).formed C.P t = true) {p : Prop} [Decidable p] (ka : C.P.keyLits D t cs = some la) (kb : C.P.keyLits D' t ds = some lb) (hp : la = lb ↔ p) (hr : decide p = c) :
    Runs C fr Γ Φ ⟨some d, .binOp .eql t x y t', ty, pos, aft, g⟩ (.bool c) :=
  Runs.pure fun a w ha hw => by
    subst hr
    obtain ⟨r, hr, hi⟩ := run_equalIn_deep (P := C.P) (10000 - m) m t hk w D D' (.agg cs.toArray) (.agg ds.toArray) la lb fx fy (by simpa [Value.cells] using ka) (by simpa [Value.cells] using kb)
    rw [show 10000 - m + m = 10000 from Nat.sub_add_cancel (Nat.le_of_ble_eq_true hm)] at hr
    have hd : r = decide p := by
      cases r
      · exact (decide_eq_false fun e => by simpa using hi.2 (hp.2 e)).symm
      · exact (decide_eq_true (hp.1 (hi.1 rfl))).symm
    subst hd
    simp only [execOp, evO_sound ha hx, evO_sound ha hy, Sem.run_bind, run_eqGuard_agg w .eql t x y _ _ hg, Result.andThen_ok, run_eql_struct, hr, Sem.run_pure]
theorem R_neG {x y : Operand} {t t' : TypeId} {cs ds : List Value} {D D' : Nat} {la lb : List Lit} {c : Bool} {m : Nat} (hx : evO fr x = some (.agg cs.toArray)) (hy : evO fr y = some (.agg ds.toArray))
    (hk : C.P.keyTypeAt m t = true) (hm : Nat.ble m 10000 = true) (hg : C.P.eqGuardType C.P.depth t = false)
    (fx : (Value.agg cs.toArray).formed C.P t = true) (fy : (Value.agg ds.toArray).formed C.P t = true) {p : Prop} [Decidable p] (ka : C.P.keyLits D t cs = some la) (kb : C.P.keyLits D' t ds = some lb) (hp : la = lb ↔ p) (hr : (!decide p) = c) :
    Runs C fr Γ Φ ⟨some d, .binOp .neq t x y t', ty, pos, aft, g⟩ (.bool c) :=
  Runs.pure fun a w ha hw => by
    subst hr
    obtain ⟨r, hr, hi⟩ := run_equalIn_deep (P := C.P) (10000 - m) m t hk w D D' (.agg cs.toArray) (.agg ds.toArray) la lb fx fy (by simpa [Value.cells] using ka) (by simpa [Value.cells] using kb)
    rw [show 10000 - m + m = 10000 from Nat.sub_add_cancel (Nat.le_of_ble_eq_true hm)] at hr
    have hd : r = decide p := by
      cases r
      · exact (decide_eq_false fun e => by simpa using hi.2 (hp.2 e)).symm
      · exact (decide_eq_true (hp.1 (hi.1 rfl))).symm
    subst hd
    simp only [execOp, evO_sound ha hx, evO_sound ha hy, Sem.run_bind, run_eqGuard_agg w .neq t x y _ _ hg, Result.andThen_ok, run_neq_struct, hr, Sem.run_pure]
/-- two addresses compared. -/
theorem R_eqA {x y : Operand} {t t' e : TypeId} {v0 v1 v2 v3 v4 v5 u0 u1 u2 u3 u4 u5 : Value} {a0 a1 a2 a3 a4 a5 b0 b1 b2 b3 b4 b5 : UInt8} {c : Bool} (hx : evO fr x = some (.agg #[v0, v1, v2, v3, v4, v5])) (hy : evO fr y = some (.agg #[u0, u1, u2, u3, u4, u5]))
    (ht : C.P.underlying t = some (.array 6 e)) (he : C.P.underlying e = some (.int .u8)) (hce : C.P.cellsOf e = 1) (hct : C.P.cellsOf t = 6) (hg : C.P.eqGuardType C.P.depth t = false)
    (p0 : Bc v0 a0) (p1 : Bc v1 a1) (p2 : Bc v2 a2) (p3 : Bc v3 a3) (p4 : Bc v4 a4) (p5 : Bc v5 a5) (q0 : Bc u0 b0) (q1 : Bc u1 b1) (q2 : Bc u2 b2) (q3 : Bc u3 b3) (q4 : Bc u4 b4) (q5 : Bc u5 b5)
    (hr : decide ((⟨a0, a1, a2, a3, a4, a5⟩ : A6) = ⟨b0, b1, b2, b3, b4, b5⟩) = c) : Runs C fr Γ Φ ⟨some d, .binOp .eql t x y t', ty, pos, aft, g⟩ (.bool c) := by
  subst p0; subst p1; subst p2; subst p3; subst p4; subst p5; subst q0; subst q1; subst q2; subst q3; subst q4; subst q5
  have hk : C.P.keyTypeAt 2 t = true := by simp [Program.keyTypeAt, ht, he]
  refine R_eqG (cs := A6.cells ⟨a0, a1, a2, a3, a4, a5⟩) (ds := A6.cells ⟨b0, b1, b2, b3, b4, b5⟩) hx hy hk rfl hg (by simp [Value.formed, ht, hct, A6.cells]) (by simp [Value.formed, ht, hct, A6.cells]) (keyLits_a6 ht he hce hct _) (keyLits_a6 ht he hce hct _) a6_lits_inj hr
theorem R_neA {x y : Operand} {t t' e : TypeId} {v0 v1 v2 v3 v4 v5 u0 u1 u2 u3 u4 u5 : Value} {a0 a1 a2 a3 a4 a5 b0 b1 b2 b3 b4 b5 : UInt8} {c : Bool} (hx : evO fr x = some (.agg #[v0, v1, v2, v3, v4, v5])) (hy : evO fr y = some (.agg #[u0, u1, u2, u3, u4, u5]))
    (ht : C.P.underlying t = some (.array 6 e)) (he : C.P.underlying e = some (.int .u8)) (hce : C.P.cellsOf e = 1) (hct : C.P.cellsOf t = 6) (hg : C.P.eqGuardType C.P.depth t = false)
    (p0 : Bc v0 a0) (p1 : Bc v1 a1) (p2 : Bc v2 a2) (p3 : Bc v3 a3) (p4 : Bc v4 a4) (p5 : Bc v5 a5) (q0 : Bc u0 b0) (q1 : Bc u1 b1) (q2 : Bc u2 b2) (q3 : Bc u3 b3) (q4 : Bc u4 b4) (q5 : Bc u5 b5)
    (hr : (!decide ((⟨a0, a1, a2, a3, a4, a5⟩ : A6) = ⟨b0, b1, b2, b3, b4, b5⟩)) = c) : Runs C fr Γ Φ ⟨some d, .binOp .neq t x y t', ty, pos, aft, g⟩ (.bool c) := by
  subst p0; subst p1; subst p2; subst p3; subst p4; subst p5; subst q0; subst q1; subst q2; subst q3; subst q4; subst q5
  have hk : C.P.keyTypeAt 2 t = true := by simp [Program.keyTypeAt, ht, he]
  refine R_neG (cs := A6.cells ⟨a0, a1, a2, a3, a4, a5⟩) (ds := A6.cells ⟨b0, b1, b2, b3, b4, b5⟩) hx hy hk rfl hg (by simp [Value.formed, ht, hct, A6.cells]) (by simp [Value.formed, ht, hct, A6.cells]) (keyLits_a6 ht he hce hct _) (keyLits_a6 ht he hce hct _) a6_lits_inj hr

/-- the front of what a pointer leads to is loaded. -/
theorem R_loadPT {t : TypeId} {x : Operand} {p : Value} {us us' : List Value} {n : Nat} (hx : evO fr x = some p)
    (hm : Pt p us ∈ Φ) (hagg : ∀ w, (isAgg t).run C.P w = .ok true w) (hs : ∀ w, (sizeOf t).run C.P w = .ok n w) (ht : takeN 0 n us = some us') : Runs C fr Γ Φ ⟨some d, .load t x, ty, pos, aft, g⟩ (.agg us'.toArray) :=
  Runs.pure fun a w ha hw => by
    obtain ⟨ad, hv, _, _, hcell⟩ := hw.sp _ hm
    obtain ⟨h1, h2⟩ := takeN_at ht
    simp [execOp, evO_sound ha hx, hv, Instr.loadAt, Instr.sureAddr, run_loadVar_agg (w := w) (a := ad) (us := us') hagg (fun w => by rw [h1]; exact hs w) (fun j u hu => hcell j u (by have := h2 j u hu; rwa [Nat.zero_add] at this))]
/-- a part of a lasting block is loaded. -/
theorem R_loadPO {t : TypeId} {x : Operand} {b off : Nat} {us : List Value} {v : Value} (hx : evO fr x = some (.pointer (some ⟨b, off, none⟩)))
    (hm : Pt (.pointer (some ⟨b, 0, none⟩)) us ∈ Φ) (hagg : ∀ w, (isAgg t).run C.P w = .ok false w) (hc : us[off]? = some v) : Runs C fr Γ Φ ⟨some d, .load t x, ty, pos, aft, g⟩ v :=
  Runs.pure fun a w ha hw => by
    obtain ⟨ad, hv, _, _, hcell⟩ := hw.sp _ hm
    injection hv with hv
    injection hv with hv
    subst hv
    have h0 := hcell off v hc
    rw [Addr.add_lit, Nat.zero_add] at h0
    simp [execOp, evO_sound ha hx, Instr.loadAt, Instr.sureAddr, run_loadVar_one hagg h0]
theorem R_loadPON {t : TypeId} {x : Operand} {b off n : Nat} {us us' : List Value} (hx : evO fr x = some (.pointer (some ⟨b, off, none⟩)))
    (hm : Pt (.pointer (some ⟨b, 0, none⟩)) us ∈ Φ) (hagg : ∀ w, (isAgg t).run C.P w = .ok true w) (hs : ∀ w, (sizeOf t).run C.P w = .ok n w) (ht : takeN off n us = some us') : Runs C fr Γ Φ ⟨some d, .load t x, ty, pos, aft, g⟩ (.agg us'.toArray) :=
  Runs.pure fun a w ha hw => by
    obtain ⟨ad, hv, _, _, hcell⟩ := hw.sp _ hm
    injection hv with hv
    injection hv with hv
    subst hv
    obtain ⟨h1, h2⟩ := takeN_at ht
    simp [execOp, evO_sound ha hx, Instr.loadAt, Instr.sureAddr, run_loadVar_agg (w := w) (a := ⟨b, off, none⟩) (us := us') hagg (fun w => by rw [h1]; exact hs w) (fun j u hu => by
      have h3 := hcell _ u (h2 j u hu)
      rw [Addr.add_lit, Nat.zero_add] at h3
      rw [Addr.add_lit]
      exact h3)]
/-- a slice of an array, whole: the slice's value. -/
theorem R_sliceArr {t e : TypeId} {x : Operand} {b off n : Nat} (hx : evO fr x = some (.pointer (some ⟨b, off, none⟩))) (ht : C.P.underlying t = some (.array n e))
    (hs : ∀ w, (sizeOf e).run C.P w = .ok 1 w) (hn : Nat.beq n 0 = false) : Runs C fr Γ Φ ⟨some d, .slice t x none none none, ty, pos, aft, g⟩ (.slice (some ⟨b, off, none⟩) n n) :=
  Runs.pure fun a w ha hw => by
    have h0 : ¬ n = 0 := fun e => by rw [e] at hn; cases hn
    simp [execOp, evO_sound ha hx, Instr.sliceAt, Instr.sliceBounds, run_underlying ht, hs, h0, Instr.sureAddr, Addr.add]

/-- a part of what a pointer leads to, read as bytes. -/
theorem ent_ptBy {b off n : Nat} {xs : List Value} {bs : List UInt8} (hm : Pt (.pointer (some ⟨b, off, none⟩)) xs ∈ Φ) (hx : xs.take n = bs.map bcell) (hl : bs.length = n) (h0 : 0 < n) (hn : n ≤ 1000) : Ent Φ (By (.slice (some ⟨b, off, none⟩) n n) bs) := fun w O h => by
  obtain ⟨ad, hv, hlt, hO, hcell⟩ := h _ hm
  injection hv with hv
  injection hv with hv
  subst hv
  have hlen : n ≤ xs.length := by
    have := congrArg List.length hx
    rw [List.length_take, List.length_map, hl] at this
    omega
  refine ⟨by rw [List.length_map, Nat.mul_one], some ⟨b, off, none⟩, n, by rw [hl], by omega, by simp [maxLen]; omega, fun _ => ⟨_, rfl, hlt, hO, fun j u hu => ?_⟩⟩
  · rw [← hx, List.getElem?_take] at hu
    split at hu
    · exact hcell j u hu
    · cases hu
end
end Go.Hs

/-
  The rules of the small logic for appending zeros ('append(s, make([]T, k)...)'), and for the capacity of nothing. No program is named here.
-/
namespace Go.Hs
open Go Go.RowKit Go.Lib

theorem zeroCells_one (z : Value) (k : Nat) : Builtin.zeroCells #[z] k = (List.replicate k z).toArray := by
  apply Array.ext
  · simp [Builtin.zeroCells]
  · intro i h1 h2
    simp [Builtin.zeroCells, Nat.mod_one]

section
variable {P : Program} (w : World)
theorem run_append_room_zeros (t tn ty e : TypeId) (i : TypeInfo) (z : Value) (kq kn : IntKind) (ht : P.underlying t = some (.slice e)) (htn : P.underlying tn = some (.int kn)) (hi : P.info? e = some i) (hz : i.zero = some z) (hzc : z.cells = #[z]) (hone : z.oneCell' = true)
    (hs : i.size = 1) (hby : i.bytes ≤ 128) (g n cap k : Nat) (cur : Array Value) (hg : w.heap[g]? = some (.cells cur e (0, 0))) (h0 : 0 < k) (hk : k ≤ 1099511627776) (hroom : n + k ≤ cap) (hfit : n + k ≤ cur.size) :
    (Builtin.append_ #[t, tn] ty #[.slice (some ⟨g, 0, none⟩) n cap, .int kq k]).run P w =
      .ok (.slice (some ⟨g, 0, none⟩) (n + k) cap) (w.setRow g (cur.toList.take n ++ List.replicate k z ++ cur.toList.drop (n + k)).toArray) := by
  have hw : IntKind.i64.wrap (k : Int) = k := by rw [IntKind.wrap_i64]; omega
  have h48i : ¬ (281474976710656 < (k : Int) * (i.bytes : Int)) := by
    rw [← Int.natCast_mul]
    have := Nat.mul_le_mul hk hby
    omega
  have hneg : ¬ ((k : Int) < 0) := by omega
  have hns : ¬ (k * i.size = 0) := Nat.mul_ne_zero (by omega) (by omega)
  have hns1 : ¬ (k = 0) := by omega
  have hst := run_storeCells_at P g n e (List.replicate k z) 0 cur w hg (by simpa using hfit) (fun u hu => by rw [List.eq_of_mem_replicate hu]; exact hone)
  simp only [Nat.add_zero, List.length_replicate] at hst
  simp [Builtin.append_, run_underlying ht, run_underlying htn, sizeOf, typeInfo, zeroValue, hi, hz, asInt, asIntOf, hw, hneg, hns1, hs, h48i, hroom, hzc, zeroCells_one, Addr.add_lit, hst]

/-- zeros appended to an own row of cells. -/
theorem run_append_zeros (t tn ty e : TypeId) (i : TypeInfo) (z : Value) (kq kn : IntKind) (ht : P.underlying t = some (.slice e)) (htn : P.underlying tn = some (.int kn)) (hi : P.info? e = some i) (hz : i.zero = some z) (hzc : z.cells = #[z]) (hone : z.oneCell' = true)
    (hs : i.size = 1) (hby : i.bytes ≤ 128) (v : Value) (n : Nat) (xs : List Value) (hown : w.ownsRow 0 e 1 v n xs) (k : Nat) (hk : n + k ≤ 549755813888) :
    ∃ v' w', (Builtin.append_ #[t, tn] ty #[v, .int kq k]).run P w = .ok v' w' ∧ w'.ownsRow 0 e 1 v' (n + k) (xs ++ List.replicate k z) ∧ w.grownBy w' v.ownBlock ∧ (v'.ownBlock = v.ownBlock ∨ v'.ownBlock = some w.heap.size) := by
  have hw : IntKind.i64.wrap (k : Int) = k := by rw [IntKind.wrap_i64]; omega
  have hw0 : IntKind.i64.wrap 0 = 0 := by decide
  have hxl : xs.length = n := by have := hown.1; omega
  have h48 : k * i.bytes ≤ 281474976710656 := by
    have := Nat.mul_le_mul (show k ≤ 549755813888 by omega) hby
    omega
  have grown : ∀ (old : Nat), old < n + k → ∀ (row : Option Nat),
      (w.drew.alloc (.cells (xs.toArray ++ Builtin.zeroCells z.cells k ++ Builtin.zeroCells z.cells (grownCap w (n + k) old e - (n + k))) e)).ownsRow 0 e 1
        (.slice (some ⟨w.heap.size, 0, none⟩) (n + k) (grownCap w (n + k) old e)) (n + k) (xs ++ List.replicate k z) ∧
      w.grownBy (w.drew.alloc (.cells (xs.toArray ++ Builtin.zeroCells z.cells k ++ Builtin.zeroCells z.cells (grownCap w (n + k) old e - (n + k))) e)) row := by
    intro old ho row
    have hge := grownCap_ge w (n + k) old e
    have hcm : grownCap w (n + k) old e ≤ maxLen := grownCap_le_maxLen w (n + k) old e (by simp only [maxLen]; omega)
    refine ⟨⟨by simp [hxl], .inr ⟨w.heap.size, _, _, rfl, Nat.zero_le _, heap_alloc_new w.drew _, hge, hcm, ?_, ?_⟩⟩, ⟨rfl, rfl, rfl, by simp, fun j hj _ => heap_alloc_old w.drew _ hj⟩⟩
    · simp only [Array.size_append, List.size_toArray, size_zeroCells, hzc, hxl, List.length_cons, List.length_nil, Nat.mul_one]
      omega
    · rw [hzc, zeroCells_one, zeroCells_one]
      simp only [Array.toList_append, List.append_assoc]
      rw [← List.append_assoc, List.take_left' (by simp [hxl])]
  by_cases hk0 : k = 0
  · subst hk0
    refine ⟨v, w, ?_, by simpa using hown, World.grownBy.refl w _, .inl rfl⟩
    obtain ⟨A, c', rfl, hc, _⟩ := row_nil_or hown
    rcases A with _ | ad
    · simp [Builtin.append_, run_underlying ht, run_underlying htn, sizeOf, typeInfo, hi, asInt, asIntOf, hw0, hc]
    · simp [Builtin.append_, run_underlying ht, run_underlying htn, sizeOf, typeInfo, hi, asInt, asIntOf, hw0, hc, storeCells]
  · have h0 : 0 < k := by omega
    rcases hown.2 with ⟨rfl, rfl⟩ | ⟨g, cap, cur, rfl, hbg, hg, hnc, hcm, hcs, htake⟩
    · have hx : xs = [] := List.eq_nil_of_length_eq_zero hxl
      subst hx
      have hb2 : (0 + k) * i.bytes ≤ 140737488355328 := by
        have := Nat.mul_le_mul (show 0 + k ≤ 549755813888 by omega) hby
        omega
      have hr := run_append_grow_zeros (P := P) w t tn ty e i z kq kn ht htn hi hz none 0 0 [] (by simp [Builtin.firstCells]) k h0 (by omega) (by omega) (by omega) h48 (growslice_fits (by omega) hb2)
      have hgr := grown 0 (by omega) (Value.ownBlock (.slice none 0 0))
      exact ⟨_, _, hr, hgr.1, hgr.2, .inr rfl⟩
    · by_cases hroom : n + k ≤ cap
      · have hr := run_append_room_zeros (P := P) w t tn ty e i z kq kn ht htn hi hz hzc hone hs hby g n cap k cur hg h0 (by omega) hroom (by omega)
        refine ⟨_, _, hr, ⟨by simp [hxl], .inr ⟨g, cap, _, rfl, hbg, setRow_heap w g cur _ e _ hg, hroom, hcm, ?_, ?_⟩⟩, ⟨rfl, rfl, rfl, by simp, fun j _ hj => setRow_other w g j _ (fun e => hj (by simp [Value.ownBlock, e]))⟩, .inl rfl⟩
        · simp only [List.size_toArray, List.length_append, List.length_take, List.length_drop, Array.length_toList, List.length_replicate]
          omega
        · rw [Nat.mul_one] at htake
          rw [htake]
          simp only [List.append_assoc]
          rw [← List.append_assoc, List.take_left' (by simp [hxl])]
      · have holds : ∀ j u, xs[j]? = some u → w.cell? ((⟨g, 0, none⟩ : Addr).add j) = some u := hown.cells (g := g) rfl
        have hb2 : (n + k) * i.bytes ≤ 140737488355328 := by
          have := Nat.mul_le_mul (show n + k ≤ 549755813888 by omega) hby
          omega
        have hold : (Builtin.firstCells i.size n (.slice (some ⟨g, 0, none⟩) n cap)).run P w.drew = .ok xs.toArray w.drew :=
          run_firstCells_some (P := P) w.drew i.size n ⟨g, 0, none⟩ n cap xs (by rw [hs, Nat.mul_one]; exact hxl) (fun j u hu => holds j u hu)
        have hr := run_append_grow_zeros (P := P) w t tn ty e i z kq kn ht htn hi hz (some ⟨g, 0, none⟩) n cap xs hold k h0 (by omega) (by omega) (by omega) h48 (growslice_fits (by omega) hb2)
        have hgr := grown cap (by omega) (Value.ownBlock (.slice (some ⟨g, 0, none⟩) n cap))
        exact ⟨_, _, hr, hgr.1, hgr.2, .inr rfl⟩
end

section
variable {C : Ctx} {fr : Fr} {Γ Γ' Γ1 : List OA} {Φ : List SP}
  {d : Nat} {ty : TypeId} {pos : String} {aft : Array Edge} {g : Option (Nat × Bool)}
theorem E_appendZ {t tn e : TypeId} {x y : Operand} {v : Value} {n k nm : Nat} {bs all : List UInt8} {xs : List Value} {i : TypeInfo} {kq kn : IntKind} {ii : Int}
    (hx : evO fr x = some v) (hy : evO fr y = some (.int kq ii)) (hii : ii = (k : Int)) (hp : Pick (.row v e 1 n xs) Γ Γ') (hxs : xs = bs.map bcell)
    (ht : C.P.underlying t = some (.slice e)) (htn : C.P.underlying tn = some (.int kn)) (hi : C.P.info? e = some i) (hz : i.zero = some (.int .u8 0)) (hsize : i.size = 1)
    (hby : i.bytes ≤ 128) (hb : n + k ≤ 549755813888) (hnm : n + k = nm) (hall : bs ++ List.replicate k 0 = all) :
    Effs C fr Γ Φ ⟨some d, .call { callee := .builtin .append, args := #[x, y], argTypes := #[t, tn] }, ty, pos, aft, g⟩ (X := Value) (fun _ => True) (fun q => q) (fun v' => .row v' e 1 nm (all.map bcell) :: Γ') (fun _ => Φ) := by
  subst hnm; subst hall; subst hxs; subst hii
  refine ⟨fun _ => AllIn.refl _, fun R a w ha hw => ?_⟩
  have hw' := pick_holds (pick_app hp R) hw
  obtain ⟨v', w', hr, h2, h3, h5⟩ := run_append_zeros (P := C.P) w t tn ty e i (.int .u8 0) kq kn ht htn hi hz rfl rfl hsize hby v n _ hw'.own.1 k hb
  refine .val (v := v') (w' := w') ?_ ⟨v', trivial, rfl, ?_⟩
  · simp only [execOp, resolve, invoke, builtin, Sem.run_bind, Sem.run_pure, Result.andThen_ok, List.map_toArray, List.map_cons, List.map_nil, evO_sound ha hx, evO_sound ha hy, hr]
  · have e1 : ((bs ++ List.replicate k (0 : UInt8)).map bcell) = bs.map bcell ++ List.replicate k (.int .u8 0) := by rw [List.map_append, List.map_replicate]; rfl
    rw [e1]
    exact hw'.grown h2 h3 h5
theorem R_capNil {t : TypeId} {x : Operand} {A : Option Addr} {n c : Nat} {e : TypeId} (hx : evO fr x = some (.slice A n c)) (ht : C.P.underlying t = some (.slice e)) :
    Runs C fr Γ Φ ⟨some d, .call { callee := .builtin .cap, args := #[x], argTypes := #[t] }, ty, pos, aft, g⟩ (.int .i64 (c : Int)) := Runs.pure fun a w ha hw => by
  simp [execOp, resolve, invoke, builtin, evO_sound ha hx, Builtin.cap_, run_underlying ht, goInt]
end

section
variable {C : Ctx} {fr : Fr} {Γ Γ' Γ1 : List OA} {Φ : List SP}
  {d : Nat} {ty : TypeId} {pos : String} {aft : Array Edge} {g : Option (Nat × Bool)}
theorem fill_pre {size : Nat} {R : List OA} {w : World} (hw : Holds C (Γ ++ R) Φ w) : ∀ {ps : List (Nat × Value)} {k : Nat} {us done rest : List Value}, SeqE C Γ Φ size k ps us → done.length = k * size → us.length ≤ rest.length →
    Instr.fill (fun i => some (i * size, size)) (done ++ rest).toArray ps = some (done ++ (us ++ rest.drop us.length)).toArray
  | [], k, us, done, rest, h, _, hr => by
    have h : us = [] := h
    subst h
    rfl
  | (i, v) :: r, k, us, done, rest, h, hd, hr => by
    obtain ⟨rfl, u1, u2, rfl, hl, hc, hs⟩ := h
    have hc := hc R w hw
    rw [List.length_append] at hr
    have hlen : i * size + size ≤ (done ++ rest).length := by simp [hd]; omega
    have hf := fold_set u1 0 (i * size) (done ++ rest) (by simpa [hl] using hlen)
    have e1 : (done ++ rest).take (i * size) = done := by rw [← hd]; simp
    have e2 : (done ++ rest).drop (i * size + u1.length) = rest.drop u1.length := by rw [← hd, ← List.drop_drop]; simp
    simp only [Nat.add_zero, e1, e2] at hf
    simp only [Instr.fill, hc]
    rw [if_neg (by simp [hl] at hlen ⊢; omega)]
    have ih := fill_pre hw hs (done := done ++ u1) (rest := rest.drop u1.length) (by simp [hd, hl, Nat.add_mul]) (by rw [List.length_drop]; omega)
    rw [List.length_append, ← List.drop_drop, List.append_assoc u1 u2, ← List.append_assoc done u1, ← ih]
    congr 1
    rw [← Array.foldl_toList]
    simpa using hf
theorem R_buildArr {t e : TypeId} {parts : Array (Nat × Operand)} {pv : List (Nat × Value)} {size n : Nat} {us zs ds : List Value} {z : Value}
    (hpv : evPs fr parts.toList = some pv) (hq : SeqE C Γ Φ size 0 pv us) (hz : ∀ w, (zeroValue t).run C.P w = .ok z w) (hzs : listO z.cells.toList = some zs) (ht : C.P.underlying t = some (.array n e))
    (hs : ∀ w, (sizeOf e).run C.P w = .ok size w) (hl : Nat.ble us.length zs.length = true) (hds : us ++ zs.drop us.length = ds) :
    Runs C fr Γ Φ ⟨some d, .build t parts, ty, pos, aft, g⟩ (.agg ds.toArray) :=
  Runs.pure fun a w ha hw => by
    subst hds
    have h1 := fill_pre (R := []) (by simpa using hw) hq (done := []) (rest := zs) (by simp) (Nat.le_of_ble_eq_true hl)
    simp only [List.nil_append] at h1
    have e1 : z.cells = zs.toArray := by rw [← listO_eq hzs]
    simp only [execOp, evPs_sound ha hpv, Instr.build, Sem.run_bind, hz, Result.andThen_ok, run_underlying ht, hs, e1, h1, Sem.run_pure]
end
end Go.Hs

/-
  Own rows sliced, own trees lent, rows let go by parts. No program is named here.
-/
namespace Go.Hs
open Go Go.RowKit

section
variable {C : Ctx} {ops : Array Oper} {l : List Oper} {fr : Fr} {Γ Γ' Γ1 : List OA} {Φ : List SP} {Q : Exit → Act → World → Prop}
  {d : Nat} {ty : TypeId} {pos : String} {aft : Array Edge} {g : Option (Nat × Bool)}

theorem Bor.sub {Γb : List OA} {Φb Φc : List SP} (h : Bor Γb Φ Φb) (hs : AllIn Φc Φb) : Bor Γb Φ Φc := fun w O ho hd hΦ ψ hψ => h w O ho hd hΦ ψ (hs ψ hψ)

end
end Go.Hs

/-
  Bits of numbers of 64 signed bits. No program is named here.
-/
namespace Go.Hs
open Go Go.RowKit

theorem i64_low (n : Int) (k : Nat) (hk : k ≤ 62) : bits .and .i64 n ((2 ^ k - 1 : Nat) : Int) = n % ((2 ^ k : Nat) : Int) := by
  have hp : 2 ^ k ≤ 2 ^ 62 := Nat.pow_le_pow_right (by decide) hk
  have h0 : 0 < 2 ^ k := Nat.two_pow_pos k
  have h2 : (2 : Nat) ^ 62 = 4611686018427387904 := by decide
  have hm : (BitVec.ofInt 64 ((2 ^ k - 1 : Nat) : Int)).toNat = 2 ^ k - 1 := by
    rw [BitVec.ofInt_natCast, BitVec.toNat_ofNat]; exact Nat.mod_eq_of_lt (by omega)
  have key : (BitVec.ofInt 64 n &&& BitVec.ofInt 64 ((2 ^ k - 1 : Nat) : Int)).toNat = (n % ((2 ^ 64 : Nat) : Int)).toNat % 2 ^ k := by
    rw [BitVec.toNat_and, BitVec.toNat_ofInt, hm, Nat.and_two_pow_sub_one_eq_mod]
  show IntKind.i64.wrap ((BitVec.ofInt 64 n &&& BitVec.ofInt 64 ((2 ^ k - 1 : Nat) : Int)).toNat : Nat) = _
  have hd : ((2 ^ k : Nat) : Int) ∣ ((2 ^ 64 : Nat) : Int) := Int.natCast_dvd_natCast.2 (Nat.pow_dvd_pow 2 (by omega))
  have e : (((n % ((2 ^ 64 : Nat) : Int)).toNat % 2 ^ k : Nat) : Int) = n % ((2 ^ k : Nat) : Int) := by
    rw [Int.natCast_emod, Int.toNat_of_nonneg (Int.emod_nonneg _ (by decide)), Int.emod_emod_of_dvd n hd]
  have hlt := Int.emod_lt_of_pos n (show (0 : Int) < ((2 ^ k : Nat) : Int) by omega)
  have hge := Int.emod_nonneg n (show ((2 ^ k : Nat) : Int) ≠ 0 by omega)
  rw [key, e, wx_i64 (by omega)]
theorem i64_and3 (n : Int) : bits .and .i64 n 3 = n % 4 := i64_low n 2 (by decide)
theorem i64_or_nat (a b : Nat) (ha : a < 4611686018427387904) (hb : b < 4611686018427387904) : bits .or .i64 (a : Int) (b : Int) = ((a ||| b : Nat) : Int) := by
  have hx : a ||| b < 2 ^ 62 := Nat.or_lt_two_pow (by omega) (by omega)
  have h2 : (2 : Nat) ^ 62 = 4611686018427387904 := by decide
  show IntKind.i64.wrap ((BitVec.ofInt 64 (a : Int) ||| BitVec.ofInt 64 (b : Int)).toNat : Int) = _
  rw [BitVec.toNat_or, BitVec.ofInt_natCast, BitVec.ofInt_natCast, BitVec.toNat_ofNat, BitVec.toNat_ofNat, Nat.mod_eq_of_lt (by omega), Nat.mod_eq_of_lt (by omega)]
  exact wx_i64 (by omega)
/-- a low part and a high one. -/
theorem i64_or_lo (k a b : Nat) (ha : a < 2 ^ k) (hs : a + b * 2 ^ k < 4611686018427387904) : bits .or .i64 (a : Int) ((b * 2 ^ k : Nat) : Int) = ((a + b * 2 ^ k : Nat) : Int) := by
  rw [i64_or_nat _ _ (by omega) (by omega)]
  congr 1
  rw [Nat.or_comm, Nat.mul_comm, ← Nat.two_pow_add_eq_or_of_lt ha, Nat.add_comm]
theorem i64_or8 (a b : UInt8) : bits .or .i64 (a.toNat : Int) ((b.toNat * 256 : Nat) : Int) = ((a.toNat + 256 * b.toNat : Nat) : Int) := by
  have ha := a.toNat_lt
  have hb := b.toNat_lt
  have h := i64_or_lo 8 a.toNat b.toNat ha (by omega)
  rw [show (2 : Nat) ^ 8 = 256 from rfl] at h
  rw [h, Nat.mul_comm]
theorem i64_shl8 (a : UInt8) : IntKind.i64.wrap ((a.toNat : Int) * 2 ^ (min (8 : Int).toNat IntKind.i64.bits)) = ((a.toNat * 256 : Nat) : Int) := by
  have ha := a.toNat_lt
  rw [show ((2 : Int) ^ (min (8 : Int).toNat IntKind.i64.bits)) = 256 from rfl]
  rw [wx_i64 (by omega)]
  omega
theorem i64_shr8 (n : Nat) : ((n : Int)).fdiv (2 ^ (min (8 : Int).toNat IntKind.i64.bits)) = ((n / 256 : Nat) : Int) := by
  rw [show ((2 : Int) ^ (min (8 : Int).toNat IntKind.i64.bits)) = 256 from rfl, Int.fdiv_eq_ediv_of_nonneg _ (by decide)]
  omega
end Go.Hs

/-
  Small contracts: paddings, delimiters, prefixes, copies, joins of byte strings.
-/
namespace Go.Proofs.YtdhbgolbfkejcaaDoor.C01
end Go.Proofs.YtdhbgolbfkejcaaDoor.C01
namespace Go.Proofs.YtdhbgolbfkejcaaDoor.C03
end Go.Proofs.YtdhbgolbfkejcaaDoor.C03
namespace Go.Proofs.YtdhbgolbfkejcaaDoor.C08
open C01 C03
open Go Go.RowKit Go.Hs
attribute [local irreducible] WL W WQ PL Runs Effs AllE Ent SubO FrIn Pick OneC Ones CellsE PartsE SeqE UZ By Sl Pt Ct

theorem pad4_neg (n : Nat) : bits .and .i64 (-(n : Int)) 3 = (pad4 n : Int) := by
  rw [i64_and3]
  unfold pad4
  omega
theorem neg_i (n : Nat) (h : n ≤ 1000000000000) : IntKind.i64.wrap (0 - (n : Int)) = -(n : Int) := by
  rw [wx_i64 (by omega)]; omega

set_option maxRecDepth 100000 in
theorem padding_fn (n : Nat) (h : n ≤ 1000000000000) : CtD Tryd.prog 26 [.int .i64 (n : Int)] [] (.int .i64 (pad4 n : Int)) := by
  refine Ct_intro Tryd.func26 rfl Tryd.ntmps26 (by simp) _ rfl (fun w0 O0 => ?_)
  repeat (first | refine n1 ?_ | refine n2 (fun b _ => ?_) | refine n3 (fun _ _ => ?_) | refine n4 ?_ | refine n5 ?_ | refine WL_nil ?_ | refine W_seq ?_ | refine W_region ?_ | refine n7 ?_ | refine n8 ?_ | refine W_block ?_ | refine W_skip ?_ | refine W_ret ?_ | refine W_exit ?_ | refine WQ_then ?_ | refine WQ_then_ret ?_ | refine WQ_then_exit ?_ | refine WQ_block_normal ?_ | refine WQ_block_ret ?_ | refine WQ_block_exit ?_ | refine n9 ?_)
  refine WL_runs rfl rfl rfl (R_neg rfl (neg_i n h)) ?_
  refine WL_runs rfl rfl rfl (R_and rfl rfl (pad4_neg n)) ?_
  repeat (first | refine n1 ?_ | refine n2 (fun b _ => ?_) | refine n3 (fun _ _ => ?_) | refine n4 ?_ | refine n5 ?_ | refine WL_nil ?_ | refine W_seq ?_ | refine W_region ?_ | refine n7 ?_ | refine n8 ?_ | refine W_block ?_ | refine W_skip ?_ | refine W_ret ?_ | refine W_exit ?_ | refine WQ_then ?_ | refine WQ_then_ret ?_ | refine WQ_then_exit ?_ | refine WQ_block_normal ?_ | refine WQ_block_ret ?_ | refine WQ_block_exit ?_ | refine n9 ?_)
  ((apply ret1 Tryd.results26 ( ())); (focus (first | trivial | assumption | omega)); (focus (first | exact RV_tmp rfl | (apply RV_cellN; exact rfl; (repeat' (first | exact Pick.head _ _ | apply Pick.tail)); (intro _; exact rfl); (intro _; exact rfl); exact rfl) | (apply RV_cell1; exact rfl; (repeat' (first | exact Pick.head _ _ | apply Pick.tail)); (intro _; exact rfl); exact rfl)));  (focus (first | exact rfl | (simp; done))); (focus (repeat (first | exact SubO.nil _ | (apply SubO.cons; (focus (repeat' (first | exact Pick.head _ _ | apply Pick.tail))))))); (focus (repeat (first | exact AllE.nil _ | (apply AllE.cons; (focus (first | exact ent_nilBy | exact ent_nilSl | (apply Ent.mem; repeat' (first | exact mcs | apply mct)))))))))

set_option maxRecDepth 100000 in
theorem delimiter_fn (n : Nat) (h : n ≤ 1000000000000) : Ct Tryd.prog 36 [.int .i64 (n : Int)] [] [] (X := Value) (fun _ => True) (fun x => x) (fun _ => []) (fun x => [By x (dlm n)]) := by
  refine Ct_intro Tryd.func36 rfl Tryd.ntmps36 (by simp) _ rfl (fun w0 O0 => ?_)
  repeat (first | refine n1 ?_ | refine n2 (fun b _ => ?_) | refine n3 (fun _ _ => ?_) | refine n4 ?_ | refine n5 ?_ | refine WL_nil ?_ | refine W_seq ?_ | refine W_region ?_ | refine n7 ?_ | refine n8 ?_ | refine W_block ?_ | refine W_skip ?_ | refine W_ret ?_ | refine W_exit ?_ | refine WQ_then ?_ | refine WQ_then_ret ?_ | refine WQ_then_exit ?_ | refine WQ_block_normal ?_ | refine WQ_block_ret ?_ | refine WQ_block_exit ?_ | refine n9 ?_)
  refine WL_runs rfl rfl rfl (R_shr rfl rfl (by decide) (i64_shr8 _)) ?_
  repeat (first | refine n1 ?_ | refine n2 (fun b _ => ?_) | refine n3 (fun _ _ => ?_) | refine n4 ?_ | refine n5 ?_ | refine WL_nil ?_ | refine W_seq ?_ | refine W_region ?_ | refine n7 ?_ | refine n8 ?_ | refine W_block ?_ | refine W_skip ?_ | refine W_ret ?_ | refine W_exit ?_ | refine WQ_then ?_ | refine WQ_then_ret ?_ | refine WQ_then_exit ?_ | refine WQ_block_normal ?_ | refine WQ_block_ret ?_ | refine WQ_block_exit ?_ | refine n9 ?_)
  (apply WL_effs; exact rfl; exact rfl; exact rfl; (apply E_buildSlice; exact rfl; (focus (repeat (first | apply SeqE.nil | (apply SeqE.cons; exact rfl; (focus (first | (apply CellsE.lit; exact rfl) | (apply CellsE.one; (first | (apply OneC.lit; exact rfl) | (apply OneC.by_; (repeat' (first | exact mcs | apply mct)); done) | (apply OneC.sl; (repeat' (first | exact mcs | apply mct)); done) | (apply OneC.rw; (repeat' (first | exact mcs | apply mct)); done) | (apply OneC.row; (repeat' (first | exact Pick.head _ _ | apply Pick.tail))))))); exact rfl) | exact rfl))); exact rfl; (first | (intro _; exact (rfl : _ = Result.ok 1 _)) | (intro _; exact (rfl : _ = Result.ok 2 _)) | (intro _; exact (rfl : _ = Result.ok 3 _)) | (intro _; exact (rfl : _ = Result.ok 4 _)) | (intro _; exact (rfl : _ = Result.ok 5 _)) | (intro _; exact (rfl : _ = Result.ok 6 _)) | (intro _; exact (rfl : _ = Result.ok 7 _)) | (intro _; exact (rfl : _ = Result.ok 8 _)) | (intro _; exact (rfl : _ = Result.ok 9 _)) | (intro _; exact (rfl : _ = Result.ok 13 _)) | (intro _; exact (rfl : _ = Result.ok 14 _)) | (intro _; exact (rfl : _ = Result.ok 26 _)) | (intro _; exact (rfl : _ = Result.ok 40 _)) | (intro _; exact (rfl : _ = Result.ok 41 _)) | (intro _; exact (rfl : _ = Result.ok 42 _)) | (intro _; exact (rfl : _ = Result.ok 43 _)) | (intro _; exact (rfl : _ = Result.ok 44 _)) | (intro _; exact (rfl : _ = Result.ok 45 _)) | (intro _; exact (rfl : _ = Result.ok 46 _))); (intro _; exact rfl); exact rfl; exact Nat.le_of_ble_eq_true rfl; exact Nat.le_of_ble_eq_true rfl); skip)
  intro q _
  repeat (first | refine n1 ?_ | refine n2 (fun b _ => ?_) | refine n3 (fun _ _ => ?_) | refine n4 ?_ | refine n5 ?_ | refine WL_nil ?_ | refine W_seq ?_ | refine W_region ?_ | refine n7 ?_ | refine n8 ?_ | refine W_block ?_ | refine W_skip ?_ | refine W_ret ?_ | refine W_exit ?_ | refine WQ_then ?_ | refine WQ_then_ret ?_ | refine WQ_then_exit ?_ | refine WQ_block_normal ?_ | refine WQ_block_ret ?_ | refine WQ_block_exit ?_ | refine n9 ?_)
  refine WL_runs rfl rfl rfl (R_callB (Γb := [.row q 5 1 2 ((dl2 n).map bcell)]) rfl (by intro _ _; simp) (crc8_fn q (dl2 n) (by show 2 ≤ _; omega)) (perm1 (by repeat' (first | exact Pick.head _ _ | apply Pick.tail))) (Bor.sub (Bor.row (Γr := []) rfl) (AllIn.cons (by repeat' (first | exact mcs | apply mct)) (AllIn.nil _)))) ?_
  rw [c8_cell]
  (apply WL_effs; exact rfl; exact rfl; exact rfl; (apply E_buildSlice; exact rfl; (focus (repeat (first | apply SeqE.nil | (apply SeqE.cons; exact rfl; (focus (first | (apply CellsE.lit; exact rfl) | (apply CellsE.one; (first | (apply OneC.lit; exact rfl) | (apply OneC.by_; (repeat' (first | exact mcs | apply mct)); done) | (apply OneC.sl; (repeat' (first | exact mcs | apply mct)); done) | (apply OneC.rw; (repeat' (first | exact mcs | apply mct)); done) | (apply OneC.row; (repeat' (first | exact Pick.head _ _ | apply Pick.tail))))))); exact rfl) | exact rfl))); exact rfl; (first | (intro _; exact (rfl : _ = Result.ok 1 _)) | (intro _; exact (rfl : _ = Result.ok 2 _)) | (intro _; exact (rfl : _ = Result.ok 3 _)) | (intro _; exact (rfl : _ = Result.ok 4 _)) | (intro _; exact (rfl : _ = Result.ok 5 _)) | (intro _; exact (rfl : _ = Result.ok 6 _)) | (intro _; exact (rfl : _ = Result.ok 7 _)) | (intro _; exact (rfl : _ = Result.ok 8 _)) | (intro _; exact (rfl : _ = Result.ok 9 _)) | (intro _; exact (rfl : _ = Result.ok 13 _)) | (intro _; exact (rfl : _ = Result.ok 14 _)) | (intro _; exact (rfl : _ = Result.ok 26 _)) | (intro _; exact (rfl : _ = Result.ok 40 _)) | (intro _; exact (rfl : _ = Result.ok 41 _)) | (intro _; exact (rfl : _ = Result.ok 42 _)) | (intro _; exact (rfl : _ = Result.ok 43 _)) | (intro _; exact (rfl : _ = Result.ok 44 _)) | (intro _; exact (rfl : _ = Result.ok 45 _)) | (intro _; exact (rfl : _ = Result.ok 46 _))); (intro _; exact rfl); exact rfl; exact Nat.le_of_ble_eq_true rfl; exact Nat.le_of_ble_eq_true rfl); skip)
  intro q2 _
  refine WL_effs rfl rfl rfl (E_appendRowB (bs := dl2 n) (news := [c8 (dl2 n), 78]) (nm := 4) (all := dlm n) rfl rfl (by repeat' (first | exact Pick.head _ _ | apply Pick.tail)) (by repeat' (first | exact Pick.head _ _ | apply Pick.tail)) rfl rfl rfl rfl rfl rfl rfl (Nat.le_of_ble_eq_true rfl) (by omega) rfl rfl) ?_
  intro q3 _
  repeat (first | refine n1 ?_ | refine n2 (fun b _ => ?_) | refine n3 (fun _ _ => ?_) | refine n4 ?_ | refine n5 ?_ | refine WL_nil ?_ | refine W_seq ?_ | refine W_region ?_ | refine n7 ?_ | refine n8 ?_ | refine W_block ?_ | refine W_skip ?_ | refine W_ret ?_ | refine W_exit ?_ | refine WQ_then ?_ | refine WQ_then_ret ?_ | refine WQ_then_exit ?_ | refine WQ_block_normal ?_ | refine WQ_block_ret ?_ | refine WQ_block_exit ?_ | refine n9 ?_)
  refine WQ_letgoB (v := q3) (bs := dlm n) (by repeat' (first | exact Pick.head _ _ | apply Pick.tail)) rfl ?_
  ((apply ret1 Tryd.results36 ( q3)); (focus (first | trivial | assumption | omega)); (focus (first | exact RV_tmp rfl | (apply RV_cellN; exact rfl; (repeat' (first | exact Pick.head _ _ | apply Pick.tail)); (intro _; exact rfl); (intro _; exact rfl); exact rfl) | (apply RV_cell1; exact rfl; (repeat' (first | exact Pick.head _ _ | apply Pick.tail)); (intro _; exact rfl); exact rfl)));  (focus (first | exact rfl | (simp; done))); (focus (repeat (first | exact SubO.nil _ | (apply SubO.cons; (focus (repeat' (first | exact Pick.head _ _ | apply Pick.tail))))))); (focus (repeat (first | exact AllE.nil _ | (apply AllE.cons; (focus (first | exact ent_nilBy | exact ent_nilSl | (apply Ent.mem; repeat' (first | exact mcs | apply mct)))))))))

set_option maxRecDepth 100000 in
theorem equal_fn (v u : Value) (xs ys : List UInt8) : CtD Tryd.prog 32 [v, u] [By v xs, By u ys] (.bool (decide (xs = ys))) := by
  by_cases h : xs = ys
  · rw [decide_eq_true h]
    refine Ct_intro Tryd.func32 rfl Tryd.ntmps32 (by simp) _ rfl (fun w0 O0 => ?_)
    repeat (first | refine n1 ?_ | refine n2 (fun b _ => ?_) | refine n3 (fun _ _ => ?_) | refine n4 ?_ | refine n5 ?_ | refine WL_nil ?_ | refine W_seq ?_ | refine W_region ?_ | refine n7 ?_ | refine n8 ?_ | refine W_block ?_ | refine W_skip ?_ | refine W_ret ?_ | refine W_exit ?_ | refine WQ_then ?_ | refine WQ_then_ret ?_ | refine WQ_then_exit ?_ | refine WQ_block_normal ?_ | refine WQ_block_ret ?_ | refine WQ_block_exit ?_ | refine n9 ?_)
    ((apply ret1 Tryd.results32 ( ())); (focus (first | trivial | assumption | omega)); (focus (first | exact RV_tmp rfl | (apply RV_cellN; exact rfl; (repeat' (first | exact Pick.head _ _ | apply Pick.tail)); (intro _; exact rfl); (intro _; exact rfl); exact rfl) | (apply RV_cell1; exact rfl; (repeat' (first | exact Pick.head _ _ | apply Pick.tail)); (intro _; exact rfl); exact rfl)));  (focus (first | exact rfl | (simp; done))); (focus (repeat (first | exact SubO.nil _ | (apply SubO.cons; (focus (repeat' (first | exact Pick.head _ _ | apply Pick.tail))))))); (focus (repeat (first | exact AllE.nil _ | (apply AllE.cons; (focus (first | exact ent_nilBy | exact ent_nilSl | (apply Ent.mem; repeat' (first | exact mcs | apply mct)))))))))
  · rw [decide_eq_false h]
    refine Ct_intro Tryd.func32 rfl Tryd.ntmps32 (by simp) _ rfl (fun w0 O0 => ?_)
    repeat (first | refine n1 ?_ | refine n2 (fun b _ => ?_) | refine n3 (fun _ _ => ?_) | refine n4 ?_ | refine n5 ?_ | refine WL_nil ?_ | refine W_seq ?_ | refine W_region ?_ | refine n7 ?_ | refine n8 ?_ | refine W_block ?_ | refine W_skip ?_ | refine W_ret ?_ | refine W_exit ?_ | refine WQ_then ?_ | refine WQ_then_ret ?_ | refine WQ_then_exit ?_ | refine WQ_block_normal ?_ | refine WQ_block_ret ?_ | refine WQ_block_exit ?_ | refine n9 ?_)
    ((apply ret1 Tryd.results32 ( ())); (focus (first | trivial | assumption | omega)); (focus (first | exact RV_tmp rfl | (apply RV_cellN; exact rfl; (repeat' (first | exact Pick.head _ _ | apply Pick.tail)); (intro _; exact rfl); (intro _; exact rfl); exact rfl) | (apply RV_cell1; exact rfl; (repeat' (first | exact Pick.head _ _ | apply Pick.tail)); (intro _; exact rfl); exact rfl)));  (focus (first | exact rfl | (simp; done))); (focus (repeat (first | exact SubO.nil _ | (apply SubO.cons; (focus (repeat' (first | exact Pick.head _ _ | apply Pick.tail))))))); (focus (repeat (first | exact AllE.nil _ | (apply AllE.cons; (focus (first | exact ent_nilBy | exact ent_nilSl | (apply Ent.mem; repeat' (first | exact mcs | apply mct)))))))))
set_option maxRecDepth 100000 in
theorem prefix_fn (v u : Value) (xs ys : List UInt8) : CtD Tryd.prog 37 [v, u] [By v xs, By u ys] (.bool (decide (ys.length ≤ xs.length ∧ xs.take ys.length = ys))) := by
  by_cases h : ys.length ≤ xs.length
  · rw [show decide (ys.length ≤ xs.length ∧ xs.take ys.length = ys) = decide (xs.take ys.length = ys) by simp [h]]
    refine Ct_intro Tryd.func37 rfl Tryd.ntmps37 (by simp) _ rfl (fun w0 O0 => ?_)
    have he := fun v' => equal_fn v' u (xs.take ys.length) ys
    repeat (first | refine n1 ?_ | refine n2 (fun b _ => ?_) | refine n3 (fun _ _ => ?_) | refine n4 ?_ | refine n5 ?_ | refine n6 (he _) ?_ | refine n6v (he _) ?_ | refine WL_nil ?_ | refine W_seq ?_ | refine W_region ?_ | refine n7 ?_ | refine n8 ?_ | refine W_block ?_ | refine W_skip ?_ | refine W_ret ?_ | refine W_exit ?_ | refine WQ_then ?_ | refine WQ_then_ret ?_ | refine WQ_then_exit ?_ | refine WQ_block_normal ?_ | refine WQ_block_ret ?_ | refine WQ_block_exit ?_ | refine n9 ?_)
    ((apply ret1 Tryd.results37 ( ())); (focus (first | trivial | assumption | omega)); (focus (first | exact RV_tmp rfl | (apply RV_cellN; exact rfl; (repeat' (first | exact Pick.head _ _ | apply Pick.tail)); (intro _; exact rfl); (intro _; exact rfl); exact rfl) | (apply RV_cell1; exact rfl; (repeat' (first | exact Pick.head _ _ | apply Pick.tail)); (intro _; exact rfl); exact rfl)));  (focus (first | exact rfl | (simp; done))); (focus (repeat (first | exact SubO.nil _ | (apply SubO.cons; (focus (repeat' (first | exact Pick.head _ _ | apply Pick.tail))))))); (focus (repeat (first | exact AllE.nil _ | (apply AllE.cons; (focus (first | exact ent_nilBy | exact ent_nilSl | (apply Ent.mem; repeat' (first | exact mcs | apply mct)))))))))
  · rw [show decide (ys.length ≤ xs.length ∧ xs.take ys.length = ys) = false by simp [h]]
    refine Ct_intro Tryd.func37 rfl Tryd.ntmps37 (by simp) _ rfl (fun w0 O0 => ?_)
    repeat (first | refine n1 ?_ | refine n2 (fun b _ => ?_) | refine n3 (fun _ _ => ?_) | refine n4 ?_ | refine n5 ?_ | refine WL_nil ?_ | refine W_seq ?_ | refine W_region ?_ | refine n7 ?_ | refine n8 ?_ | refine W_block ?_ | refine W_skip ?_ | refine W_ret ?_ | refine W_exit ?_ | refine WQ_then ?_ | refine WQ_then_ret ?_ | refine WQ_then_exit ?_ | refine WQ_block_normal ?_ | refine WQ_block_ret ?_ | refine WQ_block_exit ?_ | refine n9 ?_)
    ((apply ret1 Tryd.results37 ( ())); (focus (first | trivial | assumption | omega)); (focus (first | exact RV_tmp rfl | (apply RV_cellN; exact rfl; (repeat' (first | exact Pick.head _ _ | apply Pick.tail)); (intro _; exact rfl); (intro _; exact rfl); exact rfl) | (apply RV_cell1; exact rfl; (repeat' (first | exact Pick.head _ _ | apply Pick.tail)); (intro _; exact rfl); exact rfl)));  (focus (first | exact rfl | (simp; done))); (focus (repeat (first | exact SubO.nil _ | (apply SubO.cons; (focus (repeat' (first | exact Pick.head _ _ | apply Pick.tail))))))); (focus (repeat (first | exact AllE.nil _ | (apply AllE.cons; (focus (first | exact ent_nilBy | exact ent_nilSl | (apply Ent.mem; repeat' (first | exact mcs | apply mct)))))))))

set_option maxRecDepth 100000 in
theorem cloneB_fn (v : Value) (xs : List UInt8) (hx : xs.length ≤ 1000000000) : Ct Tryd.prog 38 [v] [] [By v xs] (X := Value) (fun _ => True) (fun x => x) (fun x => [.row x 5 1 xs.length (xs.map bcell)]) (fun _ => []) := by
  cases h : isNilV v with
  | true =>
    refine Ct_intro Tryd.func38 rfl Tryd.ntmps38 (by simp) _ rfl (fun w0 O0 => ?_)
    refine W_pure (by_nil h (by repeat' (first | exact mcs | apply mct))) fun e => ?_
    subst e
    repeat (first | refine n1 ?_ | refine n2 (fun b _ => ?_) | refine n3 (fun _ _ => ?_) | refine n4 ?_ | refine n5 ?_ | refine WL_nil ?_ | refine W_seq ?_ | refine W_region ?_ | refine n7 ?_ | refine n8 ?_ | refine W_block ?_ | refine W_skip ?_ | refine W_ret ?_ | refine W_exit ?_ | refine WQ_then ?_ | refine WQ_then_ret ?_ | refine WQ_then_exit ?_ | refine WQ_block_normal ?_ | refine WQ_block_ret ?_ | refine WQ_block_exit ?_ | refine n9 ?_)
    refine WL_runs rfl rfl rfl (R_eqNilB rfl rfl (by repeat' (first | exact mcs | apply mct)) rfl) ?_
    rw [h]
    repeat (first | refine n1 ?_ | refine n2 (fun b _ => ?_) | refine n3 (fun _ _ => ?_) | refine n4 ?_ | refine n5 ?_ | refine WL_nil ?_ | refine W_seq ?_ | refine W_region ?_ | refine n7 ?_ | refine n8 ?_ | refine W_block ?_ | refine W_skip ?_ | refine W_ret ?_ | refine W_exit ?_ | refine WQ_then ?_ | refine WQ_then_ret ?_ | refine WQ_then_exit ?_ | refine WQ_block_normal ?_ | refine WQ_block_ret ?_ | refine WQ_block_exit ?_ | refine n9 ?_)
    apply WQ_nilRow 5 1
    ((apply ret1 Tryd.results38 ( Value.slice none 0 0)); (focus (first | trivial | assumption | omega)); (focus (first | exact RV_tmp rfl | (apply RV_cellN; exact rfl; (repeat' (first | exact Pick.head _ _ | apply Pick.tail)); (intro _; exact rfl); (intro _; exact rfl); exact rfl) | (apply RV_cell1; exact rfl; (repeat' (first | exact Pick.head _ _ | apply Pick.tail)); (intro _; exact rfl); exact rfl)));  (focus (first | exact rfl | (simp; done))); (focus (repeat (first | exact SubO.nil _ | (apply SubO.cons; (focus (repeat' (first | exact Pick.head _ _ | apply Pick.tail))))))); (focus (repeat (first | exact AllE.nil _ | (apply AllE.cons; (focus (first | exact ent_nilBy | exact ent_nilSl | (apply Ent.mem; repeat' (first | exact mcs | apply mct)))))))))
  | false =>
    refine Ct_intro Tryd.func38 rfl Tryd.ntmps38 (by simp) _ rfl (fun w0 O0 => ?_)
    repeat (first | refine n1 ?_ | refine n2 (fun b _ => ?_) | refine n3 (fun _ _ => ?_) | refine n4 ?_ | refine n5 ?_ | refine WL_nil ?_ | refine W_seq ?_ | refine W_region ?_ | refine n7 ?_ | refine n8 ?_ | refine W_block ?_ | refine W_skip ?_ | refine W_ret ?_ | refine W_exit ?_ | refine WQ_then ?_ | refine WQ_then_ret ?_ | refine WQ_then_exit ?_ | refine WQ_block_normal ?_ | refine WQ_block_ret ?_ | refine WQ_block_exit ?_ | refine n9 ?_)
    refine WL_runs rfl rfl rfl (R_eqNilB rfl rfl (by repeat' (first | exact mcs | apply mct)) rfl) ?_
    rw [h]
    repeat (first | refine n1 ?_ | refine n2 (fun b _ => ?_) | refine n3 (fun _ _ => ?_) | refine n4 ?_ | refine n5 ?_ | refine WL_nil ?_ | refine W_seq ?_ | refine W_region ?_ | refine n7 ?_ | refine n8 ?_ | refine W_block ?_ | refine W_skip ?_ | refine W_ret ?_ | refine W_exit ?_ | refine WQ_then ?_ | refine WQ_then_ret ?_ | refine WQ_then_exit ?_ | refine WQ_block_normal ?_ | refine WQ_block_ret ?_ | refine WQ_block_exit ?_ | refine n9 ?_)
    (apply WL_effs; exact rfl; exact rfl; exact rfl; (apply E_buildSlice; exact rfl; (focus (repeat (first | apply SeqE.nil | (apply SeqE.cons; exact rfl; (focus (first | (apply CellsE.lit; exact rfl) | (apply CellsE.one; (first | (apply OneC.lit; exact rfl) | (apply OneC.by_; (repeat' (first | exact mcs | apply mct)); done) | (apply OneC.sl; (repeat' (first | exact mcs | apply mct)); done) | (apply OneC.rw; (repeat' (first | exact mcs | apply mct)); done) | (apply OneC.row; (repeat' (first | exact Pick.head _ _ | apply Pick.tail))))))); exact rfl) | exact rfl))); exact rfl; (first | (intro _; exact (rfl : _ = Result.ok 1 _)) | (intro _; exact (rfl : _ = Result.ok 2 _)) | (intro _; exact (rfl : _ = Result.ok 3 _)) | (intro _; exact (rfl : _ = Result.ok 4 _)) | (intro _; exact (rfl : _ = Result.ok 5 _)) | (intro _; exact (rfl : _ = Result.ok 6 _)) | (intro _; exact (rfl : _ = Result.ok 7 _)) | (intro _; exact (rfl : _ = Result.ok 8 _)) | (intro _; exact (rfl : _ = Result.ok 9 _)) | (intro _; exact (rfl : _ = Result.ok 13 _)) | (intro _; exact (rfl : _ = Result.ok 14 _)) | (intro _; exact (rfl : _ = Result.ok 26 _)) | (intro _; exact (rfl : _ = Result.ok 40 _)) | (intro _; exact (rfl : _ = Result.ok 41 _)) | (intro _; exact (rfl : _ = Result.ok 42 _)) | (intro _; exact (rfl : _ = Result.ok 43 _)) | (intro _; exact (rfl : _ = Result.ok 44 _)) | (intro _; exact (rfl : _ = Result.ok 45 _)) | (intro _; exact (rfl : _ = Result.ok 46 _))); (intro _; exact rfl); exact rfl; exact Nat.le_of_ble_eq_true rfl; exact Nat.le_of_ble_eq_true rfl); skip)
    intro q _
    repeat (first | refine n1 ?_ | refine n2 (fun b _ => ?_) | refine n3 (fun _ _ => ?_) | refine n4 ?_ | refine n5 ?_ | refine WL_nil ?_ | refine W_seq ?_ | refine W_region ?_ | refine n7 ?_ | refine n8 ?_ | refine W_block ?_ | refine W_skip ?_ | refine W_ret ?_ | refine W_exit ?_ | refine WQ_then ?_ | refine WQ_then_ret ?_ | refine WQ_then_exit ?_ | refine WQ_block_normal ?_ | refine WQ_block_ret ?_ | refine WQ_block_exit ?_ | refine n9 ?_)
    refine WL_effs rfl rfl rfl (E_appendBy (bs := []) rfl rfl (by repeat' (first | exact Pick.head _ _ | apply Pick.tail)) (by repeat' (first | exact mcs | apply mct)) rfl rfl rfl rfl rfl rfl (Nat.le_of_ble_eq_true rfl) (by omega) (Nat.zero_add _) rfl) ?_
    intro o _
    rw [List.nil_append]
    repeat (first | refine n1 ?_ | refine n2 (fun b _ => ?_) | refine n3 (fun _ _ => ?_) | refine n4 ?_ | refine n5 ?_ | refine WL_nil ?_ | refine W_seq ?_ | refine W_region ?_ | refine n7 ?_ | refine n8 ?_ | refine W_block ?_ | refine W_skip ?_ | refine W_ret ?_ | refine W_exit ?_ | refine WQ_then ?_ | refine WQ_then_ret ?_ | refine WQ_then_exit ?_ | refine WQ_block_normal ?_ | refine WQ_block_ret ?_ | refine WQ_block_exit ?_ | refine n9 ?_)
    ((apply ret1 Tryd.results38 ( o)); (focus (first | trivial | assumption | omega)); (focus (first | exact RV_tmp rfl | (apply RV_cellN; exact rfl; (repeat' (first | exact Pick.head _ _ | apply Pick.tail)); (intro _; exact rfl); (intro _; exact rfl); exact rfl) | (apply RV_cell1; exact rfl; (repeat' (first | exact Pick.head _ _ | apply Pick.tail)); (intro _; exact rfl); exact rfl)));  (focus (first | exact rfl | (simp; done))); (focus (repeat (first | exact SubO.nil _ | (apply SubO.cons; (focus (repeat' (first | exact Pick.head _ _ | apply Pick.tail))))))); (focus (repeat (first | exact AllE.nil _ | (apply AllE.cons; (focus (first | exact ent_nilBy | exact ent_nilSl | (apply Ent.mem; repeat' (first | exact mcs | apply mct)))))))))
theorem cloneB_fnB (v : Value) (xs : List UInt8) (hx : xs.length ≤ 1000000000) : Ct Tryd.prog 38 [v] [] [By v xs] (X := Value) (fun _ => True) (fun x => x) (fun _ => []) (fun x => [By x xs]) := Ct.letB (bs := fun _ => xs) (cloneB_fn v xs hx) (fun _ => rfl)

end Go.Proofs.YtdhbgolbfkejcaaDoor.C08

/-
  Joins of several byte strings ('slices.Concat').
-/
namespace Go.Proofs.YtdhbgolbfkejcaaDoor.C01
end Go.Proofs.YtdhbgolbfkejcaaDoor.C01
namespace Go.Proofs.YtdhbgolbfkejcaaDoor.C03
end Go.Proofs.YtdhbgolbfkejcaaDoor.C03
namespace Go.Proofs.YtdhbgolbfkejcaaDoor.C08
open C01 C03
open Go Go.RowKit Go.Hs

theorem flat_next (fs : List (List UInt8)) (k : Nat) (h : k < fs.length) : (fs.take (k + 1)).flatten = (fs.take k).flatten ++ fs.getD k [] := by
  rw [List.take_succ_eq_append_getElem h, List.flatten_append, List.getD_eq_getElem?_getD, List.getElem?_eq_getElem h]
  simp
theorem flat_le (fs : List (List UInt8)) (k : Nat) : (fs.take k).flatten.length ≤ fs.flatten.length := by
  have h := congrArg (fun l => (List.flatten l).length) (List.take_append_drop k fs)
  simp only [List.flatten_append, List.length_append] at h
  omega
theorem flat_one (fs : List (List UInt8)) (k : Nat) (h : k < fs.length) : (fs.take k).flatten.length + (fs.getD k []).length ≤ fs.flatten.length := by
  have h1 := flat_le fs (k + 1)
  rw [flat_next fs k h, List.length_append] at h1
  exact h1
attribute [local irreducible] WL W WQ PL Runs Effs AllE Ent SubO FrIn Pick OneC Ones CellsE PartsE SeqE UZ By Sl Pt Ct

set_option maxRecDepth 100000 in
theorem growN_fn (n : Nat) (h : n ≤ 100000000) : Ct Tryd.prog 39 [.slice none 0 0, .int .i64 (n : Int)] [] [] (X := Value) (fun _ => True) (fun x => x) (fun x => [.row x 5 1 0 []]) (fun _ => []) := by
  refine Ct_intro Tryd.func39 rfl Tryd.ntmps39 (by simp) _ rfl (fun w0 O0 => ?_)
  refine W_nilRow 5 1 ?_
  repeat (first | refine n1 ?_ | refine n2 (fun b _ => ?_) | refine n3 (fun _ _ => ?_) | refine n4 ?_ | refine n5 ?_ | refine WL_nil ?_ | refine W_seq ?_ | refine W_region ?_ | refine n7 ?_ | refine n8 ?_ | refine W_block ?_ | refine W_skip ?_ | refine W_ret ?_ | refine W_exit ?_ | refine WQ_then ?_ | refine WQ_then_ret ?_ | refine WQ_then_exit ?_ | refine WQ_block_normal ?_ | refine WQ_block_ret ?_ | refine WQ_block_exit ?_ | refine n9 ?_)
  refine WL_runs rfl rfl rfl (R_capNil rfl rfl) ?_
  by_cases h0 : 0 < n
  · repeat (first | refine n1 ?_ | refine n2 (fun b _ => ?_) | refine n3 (fun _ _ => ?_) | refine n4 ?_ | refine n5 ?_ | refine WL_nil ?_ | refine W_seq ?_ | refine W_region ?_ | refine n7 ?_ | refine n8 ?_ | refine W_block ?_ | refine W_skip ?_ | refine W_ret ?_ | refine W_exit ?_ | refine WQ_then ?_ | refine WQ_then_ret ?_ | refine WQ_then_exit ?_ | refine WQ_block_normal ?_ | refine WQ_block_ret ?_ | refine WQ_block_exit ?_ | refine n9 ?_)
    refine WL_runs rfl rfl rfl (R_capNil rfl rfl) ?_
    refine WL_ent (ψ := By (.slice none 0 0) []) ent_nilBy ?_
    refine WL_runsF rfl rfl rfl (R_cutBy (lo := 0) (hi := 0) (bs' := []) rfl (by repeat' (first | exact mcs | apply mct)) rfl (by intro _; exact rfl) rfl rfl rfl rfl (Nat.le_refl _) (Nat.le_refl _) rfl) ?_
    repeat (first | refine n1 ?_ | refine n2 (fun b _ => ?_) | refine n3 (fun _ _ => ?_) | refine n4 ?_ | refine n5 ?_ | refine WL_nil ?_ | refine W_seq ?_ | refine W_region ?_ | refine n7 ?_ | refine n8 ?_ | refine W_block ?_ | refine W_skip ?_ | refine W_ret ?_ | refine W_exit ?_ | refine WQ_then ?_ | refine WQ_then_ret ?_ | refine WQ_then_exit ?_ | refine WQ_block_normal ?_ | refine WQ_block_ret ?_ | refine WQ_block_exit ?_ | refine n9 ?_)
    refine WL_effs rfl rfl rfl (E_appendZ (bs := []) (k := n) (nm := n) (all := List.replicate n 0) rfl rfl (by omega) (by repeat' (first | exact Pick.head _ _ | apply Pick.tail)) rfl rfl rfl rfl rfl rfl (Nat.le_of_ble_eq_true rfl) (by omega) (by omega) rfl) ?_
    intro q _
    repeat (first | refine n1 ?_ | refine n2 (fun b _ => ?_) | refine n3 (fun _ _ => ?_) | refine n4 ?_ | refine n5 ?_ | refine WL_nil ?_ | refine W_seq ?_ | refine W_region ?_ | refine n7 ?_ | refine n8 ?_ | refine W_block ?_ | refine W_skip ?_ | refine W_ret ?_ | refine W_exit ?_ | refine WQ_then ?_ | refine WQ_then_ret ?_ | refine WQ_then_exit ?_ | refine WQ_block_normal ?_ | refine WQ_block_ret ?_ | refine WQ_block_exit ?_ | refine n9 ?_)
    refine WL_effs rfl rfl rfl (E_cutRow (j := 0) (us := []) rfl rfl (by repeat' (first | exact Pick.head _ _ | apply Pick.tail)) rfl (by intro _; rfl) rfl (Nat.zero_le _) (by simp)) ?_
    intro _ _
    repeat (first | refine n1 ?_ | refine n2 (fun b _ => ?_) | refine n3 (fun _ _ => ?_) | refine n4 ?_ | refine n5 ?_ | refine WL_nil ?_ | refine W_seq ?_ | refine W_region ?_ | refine n7 ?_ | refine n8 ?_ | refine W_block ?_ | refine W_skip ?_ | refine W_ret ?_ | refine W_exit ?_ | refine WQ_then ?_ | refine WQ_then_ret ?_ | refine WQ_then_exit ?_ | refine WQ_block_normal ?_ | refine WQ_block_ret ?_ | refine WQ_block_exit ?_ | refine n9 ?_)
    ((apply ret1 Tryd.results39 ( cutV 1 0 0 q)); (focus (first | trivial | assumption | omega)); (focus (first | exact RV_tmp rfl | (apply RV_cellN; exact rfl; (repeat' (first | exact Pick.head _ _ | apply Pick.tail)); (intro _; exact rfl); (intro _; exact rfl); exact rfl) | (apply RV_cell1; exact rfl; (repeat' (first | exact Pick.head _ _ | apply Pick.tail)); (intro _; exact rfl); exact rfl)));  (focus (first | exact rfl | (simp; done))); (focus (repeat (first | exact SubO.nil _ | (apply SubO.cons; (focus (repeat' (first | exact Pick.head _ _ | apply Pick.tail))))))); (focus (repeat (first | exact AllE.nil _ | (apply AllE.cons; (focus (first | exact ent_nilBy | exact ent_nilSl | (apply Ent.mem; repeat' (first | exact mcs | apply mct)))))))))
  · repeat (first | refine n1 ?_ | refine n2 (fun b _ => ?_) | refine n3 (fun _ _ => ?_) | refine n4 ?_ | refine n5 ?_ | refine WL_nil ?_ | refine W_seq ?_ | refine W_region ?_ | refine n7 ?_ | refine n8 ?_ | refine W_block ?_ | refine W_skip ?_ | refine W_ret ?_ | refine W_exit ?_ | refine WQ_then ?_ | refine WQ_then_ret ?_ | refine WQ_then_exit ?_ | refine WQ_block_normal ?_ | refine WQ_block_ret ?_ | refine WQ_block_exit ?_ | refine n9 ?_)
    ((apply ret1 Tryd.results39 ( Value.slice none 0 0)); (focus (first | trivial | assumption | omega)); (focus (first | exact RV_tmp rfl | (apply RV_cellN; exact rfl; (repeat' (first | exact Pick.head _ _ | apply Pick.tail)); (intro _; exact rfl); (intro _; exact rfl); exact rfl) | (apply RV_cell1; exact rfl; (repeat' (first | exact Pick.head _ _ | apply Pick.tail)); (intro _; exact rfl); exact rfl)));  (focus (first | exact rfl | (simp; done))); (focus (repeat (first | exact SubO.nil _ | (apply SubO.cons; (focus (repeat' (first | exact Pick.head _ _ | apply Pick.tail))))))); (focus (repeat (first | exact AllE.nil _ | (apply AllE.cons; (focus (first | exact ent_nilBy | exact ent_nilSl | (apply Ent.mem; repeat' (first | exact mcs | apply mct)))))))))

set_option maxRecDepth 100000 in
set_option maxHeartbeats 1000000 in
theorem concat_fn (v : Value) (fs : List (List UInt8)) (vs : Nat → Value) (hs : fs.flatten.length ≤ 100000000) (hl : fs.length ≤ 1000000) : Ct Tryd.prog 21 [v] [] [Rw 1 v fs.length (fun i => [vs i]), Al fs.length (fun i => By (vs i) (fs.getD i []))]
    (X := Value) (fun _ => True) (fun x => x) (fun x => [.row x 5 1 fs.flatten.length (fs.flatten.map bcell)]) (fun _ => []) := by
  refine Ct_intro Tryd.func21 rfl Tryd.ntmps21 (by simp) _ rfl (fun w0 O0 => ?_)
  repeat (first | refine n1 ?_ | refine n2 (fun b _ => ?_) | refine n3 (fun _ _ => ?_) | refine n4 ?_ | refine n5 ?_ | refine WL_nil ?_ | refine W_seq ?_ | refine W_region ?_ | refine n7 ?_ | refine n8 ?_ | refine W_block ?_ | refine W_skip ?_ | refine W_ret ?_ | refine W_exit ?_ | refine WQ_then ?_ | refine WQ_then_ret ?_ | refine WQ_then_exit ?_ | refine WQ_block_normal ?_ | refine WQ_block_ret ?_ | refine WQ_block_exit ?_ | refine n9 ?_)
  ((apply W_loopK (X := Nat) [3, 5, 11] [] (fun x => x ≤ fs.length) (fun x => [(3, .int .i64 ((fs.take x).flatten.length : Int)), (11, .int .i64 (x : Int))]) (fun _ => []) (fun _ => []) (fun x => fs.length - x) (0)); (focus exact Nat.zero_le _); exact rfl; exact rfl; (intro _; exact rfl); (intro _; exact rfl); (intro _; exact rfl); (focus (repeat (first | exact FrIn.nil _ | (apply FrIn.cons; exact rfl; (first | exact rfl | (congr 1; first | omega | (dsimp only; omega)) | (simp; done)))))); (focus (repeat (first | exact SubO.nil _ | (apply SubO.cons; (focus (repeat' (first | exact Pick.head _ _ | apply Pick.tail))))))); (focus (repeat (first | exact AllE.nil _ | (apply AllE.cons; (focus (first | exact ent_nilBy | exact ent_nilSl | (apply Ent.mem; repeat' (first | exact mcs | apply mct)))))))); intro x hx)
  by_cases c1 : x < fs.length
  · refine W_ent (ent_al (i := x) (ψ := fun i => By (vs i) (fs.getD i [])) (by (focus (repeat' (first | exact mcs | apply mct)))) c1) ?_
    have hx1 := flat_one fs x c1
    have hx2 := flat_next fs x c1
    have hx3 : (fs.take (x + 1)).flatten.length = (fs.take x).flatten.length + (fs.getD x []).length := by rw [hx2, List.length_append]
    repeat (first | refine n1 ?_ | refine n2 (fun b _ => ?_) | refine n3 (fun _ _ => ?_) | refine n4 ?_ | refine n5 ?_ | refine WL_nil ?_ | refine W_seq ?_ | refine W_region ?_ | refine n7 ?_ | refine n8 ?_ | refine W_block ?_ | refine W_skip ?_ | refine W_ret ?_ | refine W_exit ?_ | refine WQ_then ?_ | refine WQ_then_ret ?_ | refine WQ_then_exit ?_ | refine WQ_block_normal ?_ | refine WQ_block_ret ?_ | refine WQ_block_exit ?_ | refine n9 ?_)
    ((apply WQ_again (x + 1)); (focus exact c1); (focus (omega)); (focus (repeat (first | exact FrIn.nil _ | (apply FrIn.cons; exact rfl; (first | exact rfl | (congr 1; first | omega | (dsimp only; omega)) | (simp; done)))))); (focus (repeat (first | exact SubO.nil _ | (apply SubO.cons; (focus (repeat' (first | exact Pick.head _ _ | apply Pick.tail))))))); (focus (repeat (first | exact AllE.nil _ | (apply AllE.cons; (focus (first | exact ent_nilBy | exact ent_nilSl | (apply Ent.mem; repeat' (first | exact mcs | apply mct)))))))))
  · obtain rfl : x = fs.length := by omega
    rw [List.take_length]
    repeat (first | refine n1 ?_ | refine n2 (fun b _ => ?_) | refine n3 (fun _ _ => ?_) | refine n4 ?_ | refine n5 ?_ | refine WL_nil ?_ | refine W_seq ?_ | refine W_region ?_ | refine n7 ?_ | refine n8 ?_ | refine W_block ?_ | refine W_skip ?_ | refine W_ret ?_ | refine W_exit ?_ | refine WQ_then ?_ | refine WQ_then_ret ?_ | refine WQ_then_exit ?_ | refine WQ_block_normal ?_ | refine WQ_block_ret ?_ | refine WQ_block_exit ?_ | refine n9 ?_)
    (apply WL_effs; exact rfl; exact rfl; exact rfl; apply E_call; exact rfl; (intro _ _; simp); exact growN_fn fs.flatten.length hs; (repeat (first | exact AllE.nil _ | (apply AllE.cons; (focus (first | exact ent_nilBy | exact ent_nilSl | (apply Ent.mem; repeat' (first | exact mcs | apply mct))))))); (intro _; exact rfl); (intro _; exact rfl))
    intro q _
    repeat (first | refine n1 ?_ | refine n2 (fun b _ => ?_) | refine n3 (fun _ _ => ?_) | refine n4 ?_ | refine n5 ?_ | refine WL_nil ?_ | refine W_seq ?_ | refine W_region ?_ | refine n7 ?_ | refine n8 ?_ | refine W_block ?_ | refine W_skip ?_ | refine W_ret ?_ | refine W_exit ?_ | refine WQ_then ?_ | refine WQ_then_ret ?_ | refine WQ_then_exit ?_ | refine WQ_block_normal ?_ | refine WQ_block_ret ?_ | refine WQ_block_exit ?_ | refine n9 ?_)
    ((apply W_loopK (X := Nat × Value) [6, 8, 27] [0] (fun x => x.1 ≤ fs.length) (fun x => [(6, x.2), (27, .int .i64 (x.1 : Int))]) (fun x => [.row x.2 5 1 (fs.take x.1).flatten.length ((fs.take x.1).flatten.map bcell)]) (fun _ => []) (fun x => fs.length - x.1) ((0, q))); (focus exact Nat.zero_le _); exact rfl; exact rfl; (intro _; exact rfl); (intro _; exact rfl); (intro _; exact rfl); (focus (repeat (first | exact FrIn.nil _ | (apply FrIn.cons; exact rfl; (first | exact rfl | (congr 1; first | omega | (dsimp only; omega)) | (simp; done)))))); (focus (repeat (first | exact SubO.nil _ | (apply SubO.cons; (focus (repeat' (first | exact Pick.head _ _ | apply Pick.tail))))))); (focus (repeat (first | exact AllE.nil _ | (apply AllE.cons; (focus (first | exact ent_nilBy | exact ent_nilSl | (apply Ent.mem; repeat' (first | exact mcs | apply mct)))))))); intro x hx)
    obtain ⟨x, o⟩ := x
    replace hx : x ≤ fs.length := hx
    dsimp only
    by_cases c1 : x < fs.length
    · refine W_ent (ent_al (i := x) (ψ := fun i => By (vs i) (fs.getD i [])) (by (focus (repeat' (first | exact mcs | apply mct)))) c1) ?_
      have hx1 := flat_one fs x c1
      have hx2 := flat_next fs x c1
      have hx3 : (fs.take (x + 1)).flatten.length = (fs.take x).flatten.length + (fs.getD x []).length := by rw [hx2, List.length_append]
      repeat (first | refine n1 ?_ | refine n2 (fun b _ => ?_) | refine n3 (fun _ _ => ?_) | refine n4 ?_ | refine n5 ?_ | refine WL_nil ?_ | refine W_seq ?_ | refine W_region ?_ | refine n7 ?_ | refine n8 ?_ | refine W_block ?_ | refine W_skip ?_ | refine W_ret ?_ | refine W_exit ?_ | refine WQ_then ?_ | refine WQ_then_ret ?_ | refine WQ_then_exit ?_ | refine WQ_block_normal ?_ | refine WQ_block_ret ?_ | refine WQ_block_exit ?_ | refine n9 ?_)
      refine WL_effs rfl rfl rfl (E_appendBy (bs := (fs.take x).flatten) (news := fs.getD x []) (nm := (fs.take (x + 1)).flatten.length) (all := (fs.take (x + 1)).flatten) rfl rfl (by repeat' (first | exact Pick.head _ _ | apply Pick.tail)) (by repeat' (first | exact mcs | apply mct)) rfl rfl rfl rfl rfl rfl (Nat.le_of_ble_eq_true rfl) (by omega) (by rw [hx2, List.length_append]) hx2.symm) ?_
      intro o2 _
      repeat (first | refine n1 ?_ | refine n2 (fun b _ => ?_) | refine n3 (fun _ _ => ?_) | refine n4 ?_ | refine n5 ?_ | refine WL_nil ?_ | refine W_seq ?_ | refine W_region ?_ | refine n7 ?_ | refine n8 ?_ | refine W_block ?_ | refine W_skip ?_ | refine W_ret ?_ | refine W_exit ?_ | refine WQ_then ?_ | refine WQ_then_ret ?_ | refine WQ_then_exit ?_ | refine WQ_block_normal ?_ | refine WQ_block_ret ?_ | refine WQ_block_exit ?_ | refine n9 ?_)
      ((apply WQ_again ((x + 1, o2))); (focus exact c1); (focus (exact (show fs.length - (x + 1) < fs.length - x by omega))); (focus (repeat (first | exact FrIn.nil _ | (apply FrIn.cons; exact rfl; (first | exact rfl | (congr 1; first | omega | (dsimp only; omega)) | (simp; done)))))); (focus (repeat (first | exact SubO.nil _ | (apply SubO.cons; (focus (repeat' (first | exact Pick.head _ _ | apply Pick.tail))))))); (focus (repeat (first | exact AllE.nil _ | (apply AllE.cons; (focus (first | exact ent_nilBy | exact ent_nilSl | (apply Ent.mem; repeat' (first | exact mcs | apply mct)))))))))
    · obtain rfl : x = fs.length := by omega
      rw [List.take_length]
      repeat (first | refine n1 ?_ | refine n2 (fun b _ => ?_) | refine n3 (fun _ _ => ?_) | refine n4 ?_ | refine n5 ?_ | refine WL_nil ?_ | refine W_seq ?_ | refine W_region ?_ | refine n7 ?_ | refine n8 ?_ | refine W_block ?_ | refine W_skip ?_ | refine W_ret ?_ | refine W_exit ?_ | refine WQ_then ?_ | refine WQ_then_ret ?_ | refine WQ_then_exit ?_ | refine WQ_block_normal ?_ | refine WQ_block_ret ?_ | refine WQ_block_exit ?_ | refine n9 ?_)
      ((apply ret1 Tryd.results21 ( o)); (focus (first | trivial | assumption | omega)); (focus (first | exact RV_tmp rfl | (apply RV_cellN; exact rfl; (repeat' (first | exact Pick.head _ _ | apply Pick.tail)); (intro _; exact rfl); (intro _; exact rfl); exact rfl) | (apply RV_cell1; exact rfl; (repeat' (first | exact Pick.head _ _ | apply Pick.tail)); (intro _; exact rfl); exact rfl)));  (focus (first | exact rfl | (simp; done))); (focus (repeat (first | exact SubO.nil _ | (apply SubO.cons; (focus (repeat' (first | exact Pick.head _ _ | apply Pick.tail))))))); (focus (repeat (first | exact AllE.nil _ | (apply AllE.cons; (focus (first | exact ent_nilBy | exact ent_nilSl | (apply Ent.mem; repeat' (first | exact mcs | apply mct)))))))))
end Go.Proofs.YtdhbgolbfkejcaaDoor.C08

/-
  Pieces joined: 'write' at byte strings, 'Join'.
-/
namespace Go.Proofs.YtdhbgolbfkejcaaDoor.C01
end Go.Proofs.YtdhbgolbfkejcaaDoor.C01
namespace Go.Proofs.YtdhbgolbfkejcaaDoor.C03
end Go.Proofs.YtdhbgolbfkejcaaDoor.C03
namespace Go.Proofs.YtdhbgolbfkejcaaDoor.C08
open C01 C03
open Go Go.RowKit Go.Hs

def ByL (Φ : List SP) : List Value → List (List UInt8) → Prop
  | [], [] => True
  | v :: vs, f :: fs => By v f ∈ Φ ∧ ByL Φ vs fs
  | _, _ => False
theorem byL_get {Φ : List SP} : ∀ {vs : List Value} {fs : List (List UInt8)}, ByL Φ vs fs → ∀ i, i < fs.length → By (vs.getD i undef) (fs.getD i []) ∈ Φ
  | [], [], _, i, h => absurd h (by simp)
  | _ :: _, _ :: _, h, 0, _ => h.1
  | _ :: vs, _ :: fs, h, i + 1, hi => by
    have := byL_get (vs := vs) (fs := fs) h.2 i (by simpa using hi)
    simpa using this
  | [], _ :: _, h, _, _ => h.elim
  | _ :: _, [], h, _, _ => h.elim
theorem ent_alL {Φ : List SP} {vs : List Value} {fs : List (List UInt8)} (n : Nat) (hn : n = fs.length) (h : ByL Φ vs fs) : Ent Φ (Al n (fun i => By (vs.getD i undef) (fs.getD i []))) :=
  ent_alI fun i hi => Ent.mem (byL_get h i (by omega))

/-- one piece written behind what stands. -/
def J1 (out p : List UInt8) : List UInt8 × Int := if p.length = 0 then ([], 8) else if 2400 < p.length then ([], 11) else (out ++ entp p, 0)
theorem jn_snoc {fs : List (List UInt8)} {x : Nat} (h : x < fs.length) : jn (fs.take (x + 1)) = jn (fs.take x) ++ zer (pad4 (jn (fs.take x)).length) ++ entp (fs.getD x []) := by
  unfold jn
  rw [List.take_succ_eq_append_getElem h, List.map_append, List.map_cons, List.map_nil, jg_snoc, List.getD_eq_getElem?_getD, List.getElem?_eq_getElem h]
  rfl
theorem jn_le : ∀ {l : List (List UInt8)}, okL l → (jn l).length ≤ 2407 * l.length
  | [], _ => Nat.zero_le _
  | p :: r, h => by
    have h0 := (h p List.mem_cons_self).2
    have h1 := jn_le (l := r) fun q hq => h q (List.mem_cons_of_mem _ hq)
    have h2 := pad4_lt (4 + p.length)
    unfold jn at h1 ⊢
    rw [List.map_cons, jg, List.length_append, entp_length]
    split
    · simp only [List.length_nil, List.length_cons]; omega
    · simp only [List.length_append, zer_length, List.length_cons]; omega
theorem pieE_at : ∀ {fs : List (List UInt8)} {x : Nat}, okL (fs.take x) → x < fs.length → (J1 [] (fs.getD x [])).2 ≠ 0 → pieE fs = (J1 [] (fs.getD x [])).2
  | [], _, _, h, _ => absurd h (by simp)
  | p :: r, 0, _, _, h => by
    simp only [J1, List.getD_cons_zero] at h ⊢
    unfold pieE
    split
    · rfl
    · next h1 =>
      rw [if_neg h1] at h
      split
      · rfl
      · next h2 => rw [if_neg h2] at h; exact absurd rfl h
  | p :: r, x + 1, hok, hx, h => by
    have h0 := hok p (by simp)
    have ih := pieE_at (fs := r) (x := x) (fun q hq => hok q (by simp [hq])) (by simpa using hx) (by simpa using h)
    unfold pieE
    rw [if_neg (by have := h0.1; omega), if_neg (by have := h0.2; omega), ih]
    rfl
theorem J1_err (out p : List UInt8) : (J1 out p).2 = (J1 [] p).2 := by unfold J1; split; rfl; split <;> rfl
theorem J1_ok {out p : List UInt8} (h : (J1 out p).2 = 0) : okP p ∧ (J1 out p).1 = out ++ entp p := by
  unfold J1 at h ⊢
  split at h
  · cases h
  · next h1 =>
    split at h
    · cases h
    · next h2 => rw [if_neg h1, if_neg h2]; exact ⟨⟨by omega, by omega⟩, rfl⟩
theorem okL_snoc {fs : List (List UInt8)} {x : Nat} (h : x < fs.length) (hk : okL (fs.take x)) (hp : okP (fs.getD x [])) : okL (fs.take (x + 1)) := by
  intro p hp'
  rw [List.take_succ_eq_append_getElem h, List.mem_append] at hp'
  rcases hp' with hp' | hp'
  · exact hk p hp'
  · rw [List.mem_singleton] at hp'
    subst hp'
    rw [List.getD_eq_getElem?_getD, List.getElem?_eq_getElem h] at hp
    exact hp
attribute [local irreducible] WL W WQ PL Runs Effs AllE Ent SubO FrIn Pick OneC Ones CellsE PartsE SeqE UZ By Sl Pt Ct

set_option maxRecDepth 100000 in
set_option maxHeartbeats 1000000 in
theorem join1_fn (ov pv : Value) (out p : List UInt8) (ho : out.length ≤ 10000000) : Ct Tryd.prog 35 [ov, pv] [] [By ov out, By pv p]
    (X := Value) (fun _ => True) (fun x => .tuple #[x, .int .i64 (J1 out p).2]) (fun x => [.row x 5 1 (J1 out p).1.length ((J1 out p).1.map bcell)]) (fun _ => []) := by
  by_cases h0 : p.length = 0
  · rw [show J1 out p = ([], 8) from if_pos h0]
    refine Ct_intro Tryd.func35 rfl Tryd.ntmps35 (by simp) _ rfl (fun w0 O0 => ?_)
    repeat (first | refine n1 ?_ | refine n2 (fun b _ => ?_) | refine n3 (fun _ _ => ?_) | refine n4 ?_ | refine n5 ?_ | refine WL_nil ?_ | refine W_seq ?_ | refine W_region ?_ | refine n7 ?_ | refine n8 ?_ | refine W_block ?_ | refine W_skip ?_ | refine W_ret ?_ | refine W_exit ?_ | refine WQ_then ?_ | refine WQ_then_ret ?_ | refine WQ_then_exit ?_ | refine WQ_block_normal ?_ | refine WQ_block_ret ?_ | refine WQ_block_exit ?_ | refine n9 ?_)
    apply WQ_nilRow 5 1
    ((apply ret2 Tryd.results35 ( Value.slice none 0 0)); (focus (first | trivial | assumption | omega)); (focus (first | exact RV_tmp rfl | (apply RV_cellN; exact rfl; (repeat' (first | exact Pick.head _ _ | apply Pick.tail)); (intro _; exact rfl); (intro _; exact rfl); exact rfl) | (apply RV_cell1; exact rfl; (repeat' (first | exact Pick.head _ _ | apply Pick.tail)); (intro _; exact rfl); exact rfl))); (focus (first | exact RV_tmp rfl | (apply RV_cellN; exact rfl; (repeat' (first | exact Pick.head _ _ | apply Pick.tail)); (intro _; exact rfl); (intro _; exact rfl); exact rfl) | (apply RV_cell1; exact rfl; (repeat' (first | exact Pick.head _ _ | apply Pick.tail)); (intro _; exact rfl); exact rfl)));  (focus (first | exact rfl | (simp; done))); (focus (repeat (first | exact SubO.nil _ | (apply SubO.cons; (focus (repeat' (first | exact Pick.head _ _ | apply Pick.tail))))))); (focus (repeat (first | exact AllE.nil _ | (apply AllE.cons; (focus (first | exact ent_nilBy | exact ent_nilSl | (apply Ent.mem; repeat' (first | exact mcs | apply mct)))))))))
  · by_cases h1 : 2400 < p.length
    · rw [show J1 out p = ([], 11) by unfold J1; rw [if_neg h0, if_pos h1]]
      refine Ct_intro Tryd.func35 rfl Tryd.ntmps35 (by simp) _ rfl (fun w0 O0 => ?_)
      repeat (first | refine n1 ?_ | refine n2 (fun b _ => ?_) | refine n3 (fun _ _ => ?_) | refine n4 ?_ | refine n5 ?_ | refine WL_nil ?_ | refine W_seq ?_ | refine W_region ?_ | refine n7 ?_ | refine n8 ?_ | refine W_block ?_ | refine W_skip ?_ | refine W_ret ?_ | refine W_exit ?_ | refine WQ_then ?_ | refine WQ_then_ret ?_ | refine WQ_then_exit ?_ | refine WQ_block_normal ?_ | refine WQ_block_ret ?_ | refine WQ_block_exit ?_ | refine n9 ?_)
      apply WQ_nilRow 5 1
      ((apply ret2 Tryd.results35 ( Value.slice none 0 0)); (focus (first | trivial | assumption | omega)); (focus (first | exact RV_tmp rfl | (apply RV_cellN; exact rfl; (repeat' (first | exact Pick.head _ _ | apply Pick.tail)); (intro _; exact rfl); (intro _; exact rfl); exact rfl) | (apply RV_cell1; exact rfl; (repeat' (first | exact Pick.head _ _ | apply Pick.tail)); (intro _; exact rfl); exact rfl))); (focus (first | exact RV_tmp rfl | (apply RV_cellN; exact rfl; (repeat' (first | exact Pick.head _ _ | apply Pick.tail)); (intro _; exact rfl); (intro _; exact rfl); exact rfl) | (apply RV_cell1; exact rfl; (repeat' (first | exact Pick.head _ _ | apply Pick.tail)); (intro _; exact rfl); exact rfl)));  (focus (first | exact rfl | (simp; done))); (focus (repeat (first | exact SubO.nil _ | (apply SubO.cons; (focus (repeat' (first | exact Pick.head _ _ | apply Pick.tail))))))); (focus (repeat (first | exact AllE.nil _ | (apply AllE.cons; (focus (first | exact ent_nilBy | exact ent_nilSl | (apply Ent.mem; repeat' (first | exact mcs | apply mct)))))))))
    · rw [show J1 out p = (out ++ entp p, 0) by unfold J1; rw [if_neg h0, if_neg h1]]
      refine Ct_intro Tryd.func35 rfl Tryd.ntmps35 (by simp) _ rfl (fun w0 O0 => ?_)
      repeat (first | refine n1 ?_ | refine n2 (fun b _ => ?_) | refine n3 (fun _ _ => ?_) | refine n4 ?_ | refine n5 ?_ | refine WL_nil ?_ | refine W_seq ?_ | refine W_region ?_ | refine n7 ?_ | refine n8 ?_ | refine W_block ?_ | refine W_skip ?_ | refine W_ret ?_ | refine W_exit ?_ | refine WQ_then ?_ | refine WQ_then_ret ?_ | refine WQ_then_exit ?_ | refine WQ_block_normal ?_ | refine WQ_block_ret ?_ | refine WQ_block_exit ?_ | refine n9 ?_)
      (apply WL_effs; exact rfl; exact rfl; exact rfl; apply E_call; exact rfl; (intro _ _; simp); (exact delimiter_fn p.length (by omega)); (repeat (first | exact AllE.nil _ | (apply AllE.cons; (focus (first | exact ent_nilBy | exact ent_nilSl | (apply Ent.mem; repeat' (first | exact mcs | apply mct))))))); (intro _; exact rfl); (intro _; exact rfl))
      intro dv _
      repeat (first | refine n1 ?_ | refine n2 (fun b _ => ?_) | refine n3 (fun _ _ => ?_) | refine n4 ?_ | refine n5 ?_ | refine WL_nil ?_ | refine W_seq ?_ | refine W_region ?_ | refine n7 ?_ | refine n8 ?_ | refine W_block ?_ | refine W_skip ?_ | refine W_ret ?_ | refine W_exit ?_ | refine WQ_then ?_ | refine WQ_then_ret ?_ | refine WQ_then_exit ?_ | refine WQ_block_normal ?_ | refine WQ_block_ret ?_ | refine WQ_block_exit ?_ | refine n9 ?_)
      (apply WL_effs; exact rfl; exact rfl; exact rfl; (apply E_buildSlice; exact rfl; (focus (repeat (first | apply SeqE.nil | (apply SeqE.cons; exact rfl; (focus (first | (apply CellsE.lit; exact rfl) | (apply CellsE.one; (first | (apply OneC.lit; exact rfl) | (apply OneC.by_; (repeat' (first | exact mcs | apply mct)); done) | (apply OneC.sl; (repeat' (first | exact mcs | apply mct)); done) | (apply OneC.rw; (repeat' (first | exact mcs | apply mct)); done) | (apply OneC.row; (repeat' (first | exact Pick.head _ _ | apply Pick.tail))))))); exact rfl) | exact rfl))); exact rfl; (first | (intro _; exact (rfl : _ = Result.ok 1 _)) | (intro _; exact (rfl : _ = Result.ok 2 _)) | (intro _; exact (rfl : _ = Result.ok 3 _)) | (intro _; exact (rfl : _ = Result.ok 4 _)) | (intro _; exact (rfl : _ = Result.ok 5 _)) | (intro _; exact (rfl : _ = Result.ok 6 _)) | (intro _; exact (rfl : _ = Result.ok 7 _)) | (intro _; exact (rfl : _ = Result.ok 8 _)) | (intro _; exact (rfl : _ = Result.ok 9 _)) | (intro _; exact (rfl : _ = Result.ok 13 _)) | (intro _; exact (rfl : _ = Result.ok 14 _)) | (intro _; exact (rfl : _ = Result.ok 26 _)) | (intro _; exact (rfl : _ = Result.ok 40 _)) | (intro _; exact (rfl : _ = Result.ok 41 _)) | (intro _; exact (rfl : _ = Result.ok 42 _)) | (intro _; exact (rfl : _ = Result.ok 43 _)) | (intro _; exact (rfl : _ = Result.ok 44 _)) | (intro _; exact (rfl : _ = Result.ok 45 _)) | (intro _; exact (rfl : _ = Result.ok 46 _))); (intro _; exact rfl); exact rfl; exact Nat.le_of_ble_eq_true rfl; exact Nat.le_of_ble_eq_true rfl); skip)
      intro q _
      refine WL_letgo (v := q) (by repeat' (first | exact Pick.head _ _ | apply Pick.tail)) ?_
      refine WL_ent (ent_slRw1 (v := q) (by repeat' (first | exact mcs | apply mct))) ?_
      refine WL_ent (ent_alL (vs := [ov, dv, pv]) (fs := [out, dlm p.length, p]) 3 rfl ⟨(by repeat' (first | exact mcs | apply mct)), (by repeat' (first | exact mcs | apply mct)), (by repeat' (first | exact mcs | apply mct)), trivial⟩) ?_
      have hfl : [out, dlm p.length, p].flatten = out ++ entp p := by simp [entp]
      have hfn : (out ++ entp p).length = out.length + (4 + p.length) := by rw [List.length_append, entp_length]
      have hc := concat_fn q [out, dlm p.length, p] (fun i => [ov, dv, pv].getD i undef) (by rw [hfl, hfn]; omega) (by show 3 ≤ 1000000; omega)
      rw [hfl] at hc
      (apply WL_effs; exact rfl; exact rfl; exact rfl; apply E_call; exact rfl; (intro _ _; simp); exact hc; (repeat (first | exact AllE.nil _ | (apply AllE.cons; (focus (first | exact ent_nilBy | exact ent_nilSl | (apply Ent.mem; repeat' (first | exact mcs | apply mct))))))); (intro _; exact rfl); (intro _; exact rfl))
      intro o _
      repeat (first | refine n1 ?_ | refine n2 (fun b _ => ?_) | refine n3 (fun _ _ => ?_) | refine n4 ?_ | refine n5 ?_ | refine WL_nil ?_ | refine W_seq ?_ | refine W_region ?_ | refine n7 ?_ | refine n8 ?_ | refine W_block ?_ | refine W_skip ?_ | refine W_ret ?_ | refine W_exit ?_ | refine WQ_then ?_ | refine WQ_then_ret ?_ | refine WQ_then_exit ?_ | refine WQ_block_normal ?_ | refine WQ_block_ret ?_ | refine WQ_block_exit ?_ | refine n9 ?_)
      ((apply ret2 Tryd.results35 ( o)); (focus (first | trivial | assumption | omega)); (focus (first | exact RV_tmp rfl | (apply RV_cellN; exact rfl; (repeat' (first | exact Pick.head _ _ | apply Pick.tail)); (intro _; exact rfl); (intro _; exact rfl); exact rfl) | (apply RV_cell1; exact rfl; (repeat' (first | exact Pick.head _ _ | apply Pick.tail)); (intro _; exact rfl); exact rfl))); (focus (first | exact RV_tmp rfl | (apply RV_cellN; exact rfl; (repeat' (first | exact Pick.head _ _ | apply Pick.tail)); (intro _; exact rfl); (intro _; exact rfl); exact rfl) | (apply RV_cell1; exact rfl; (repeat' (first | exact Pick.head _ _ | apply Pick.tail)); (intro _; exact rfl); exact rfl)));  (focus (first | exact rfl | (simp; done))); (focus (repeat (first | exact SubO.nil _ | (apply SubO.cons; (focus (repeat' (first | exact Pick.head _ _ | apply Pick.tail))))))); (focus (repeat (first | exact AllE.nil _ | (apply AllE.cons; (focus (first | exact ent_nilBy | exact ent_nilSl | (apply Ent.mem; repeat' (first | exact mcs | apply mct)))))))))

set_option maxRecDepth 100000 in
set_option maxHeartbeats 2000000 in
theorem writeB_fn (v : Value) (fs : List (List UInt8)) (vs : Nat → Value) : Ct Tryd.prog 34 [v, .int .i64 64, .int .i64 65535, .func (.func 35) #[] #[]] [] [Rw 1 v fs.length (fun i => [vs i]), Al fs.length (fun i => By (vs i) (fs.getD i []))]
    (X := Value) (fun _ => True) (fun x => .tuple #[x, .int .i64 (jnE fs).2]) (fun x => [.row x 5 1 (jnE fs).1.length ((jnE fs).1.map bcell)]) (fun _ => []) := by
  by_cases h0 : fs.length = 0
  · rw [show jnE fs = ([], 6) from if_pos h0]
    refine Ct_intro Tryd.func34 rfl Tryd.ntmps34 (by simp) _ rfl (fun w0 O0 => ?_)
    repeat (first | refine n1 ?_ | refine n2 (fun b _ => ?_) | refine n3 (fun _ _ => ?_) | refine n4 ?_ | refine n5 ?_ | refine WL_nil ?_ | refine W_seq ?_ | refine W_region ?_ | refine n7 ?_ | refine n8 ?_ | refine W_block ?_ | refine W_skip ?_ | refine W_ret ?_ | refine W_exit ?_ | refine WQ_then ?_ | refine WQ_then_ret ?_ | refine WQ_then_exit ?_ | refine WQ_block_normal ?_ | refine WQ_block_ret ?_ | refine WQ_block_exit ?_ | refine n9 ?_)
    apply WQ_nilRow 5 1
    ((apply ret2 Tryd.results34 ( Value.slice none 0 0)); (focus (first | trivial | assumption | omega)); (focus (first | exact RV_tmp rfl | (apply RV_cellN; exact rfl; (repeat' (first | exact Pick.head _ _ | apply Pick.tail)); (intro _; exact rfl); (intro _; exact rfl); exact rfl) | (apply RV_cell1; exact rfl; (repeat' (first | exact Pick.head _ _ | apply Pick.tail)); (intro _; exact rfl); exact rfl))); (focus (first | exact RV_tmp rfl | (apply RV_cellN; exact rfl; (repeat' (first | exact Pick.head _ _ | apply Pick.tail)); (intro _; exact rfl); (intro _; exact rfl); exact rfl) | (apply RV_cell1; exact rfl; (repeat' (first | exact Pick.head _ _ | apply Pick.tail)); (intro _; exact rfl); exact rfl)));  (focus (first | exact rfl | (simp; done))); (focus (repeat (first | exact SubO.nil _ | (apply SubO.cons; (focus (repeat' (first | exact Pick.head _ _ | apply Pick.tail))))))); (focus (repeat (first | exact AllE.nil _ | (apply AllE.cons; (focus (first | exact ent_nilBy | exact ent_nilSl | (apply Ent.mem; repeat' (first | exact mcs | apply mct)))))))))
  · by_cases h1 : 64 < fs.length
    · rw [show jnE fs = ([], 4) by unfold jnE; rw [if_neg h0, if_pos h1]]
      refine Ct_intro Tryd.func34 rfl Tryd.ntmps34 (by simp) _ rfl (fun w0 O0 => ?_)
      repeat (first | refine n1 ?_ | refine n2 (fun b _ => ?_) | refine n3 (fun _ _ => ?_) | refine n4 ?_ | refine n5 ?_ | refine WL_nil ?_ | refine W_seq ?_ | refine W_region ?_ | refine n7 ?_ | refine n8 ?_ | refine W_block ?_ | refine W_skip ?_ | refine W_ret ?_ | refine W_exit ?_ | refine WQ_then ?_ | refine WQ_then_ret ?_ | refine WQ_then_exit ?_ | refine WQ_block_normal ?_ | refine WQ_block_ret ?_ | refine WQ_block_exit ?_ | refine n9 ?_)
      apply WQ_nilRow 5 1
      ((apply ret2 Tryd.results34 ( Value.slice none 0 0)); (focus (first | trivial | assumption | omega)); (focus (first | exact RV_tmp rfl | (apply RV_cellN; exact rfl; (repeat' (first | exact Pick.head _ _ | apply Pick.tail)); (intro _; exact rfl); (intro _; exact rfl); exact rfl) | (apply RV_cell1; exact rfl; (repeat' (first | exact Pick.head _ _ | apply Pick.tail)); (intro _; exact rfl); exact rfl))); (focus (first | exact RV_tmp rfl | (apply RV_cellN; exact rfl; (repeat' (first | exact Pick.head _ _ | apply Pick.tail)); (intro _; exact rfl); (intro _; exact rfl); exact rfl) | (apply RV_cell1; exact rfl; (repeat' (first | exact Pick.head _ _ | apply Pick.tail)); (intro _; exact rfl); exact rfl)));  (focus (first | exact rfl | (simp; done))); (focus (repeat (first | exact SubO.nil _ | (apply SubO.cons; (focus (repeat' (first | exact Pick.head _ _ | apply Pick.tail))))))); (focus (repeat (first | exact AllE.nil _ | (apply AllE.cons; (focus (first | exact ent_nilBy | exact ent_nilSl | (apply Ent.mem; repeat' (first | exact mcs | apply mct)))))))))
    · refine Ct_intro Tryd.func34 rfl Tryd.ntmps34 (by simp) _ rfl (fun w0 O0 => ?_)
      repeat (first | refine n1 ?_ | refine n2 (fun b _ => ?_) | refine n3 (fun _ _ => ?_) | refine n4 ?_ | refine n5 ?_ | refine WL_nil ?_ | refine W_seq ?_ | refine W_region ?_ | refine n7 ?_ | refine n8 ?_ | refine W_block ?_ | refine W_skip ?_ | refine W_ret ?_ | refine W_exit ?_ | refine WQ_then ?_ | refine WQ_then_ret ?_ | refine WQ_then_exit ?_ | refine WQ_block_normal ?_ | refine WQ_block_ret ?_ | refine WQ_block_exit ?_ | refine n9 ?_)
      apply W_nilRow 5 1
      ((apply W_loopK (X := Nat × Value) [10, 12, 13, 14, 24] [0] (fun x => x.1 ≤ fs.length ∧ okL (fs.take x.1)) (fun x => [(10, x.2), (24, .int .i64 (x.1 : Int))]) (fun x => [.row x.2 5 1 (jn (fs.take x.1)).length ((jn (fs.take x.1)).map bcell)]) (fun _ => []) (fun x => fs.length - x.1) ((0, .slice none 0 0))); (focus (exact ⟨Nat.zero_le _, fun _ h => (by cases h)⟩)); exact rfl; exact rfl; (intro _; exact rfl); (intro _; exact rfl); (intro _; exact rfl); (focus (repeat (first | exact FrIn.nil _ | (apply FrIn.cons; exact rfl; (first | exact rfl | (congr 1; first | omega | (dsimp only; omega)) | (simp; done)))))); (focus (repeat (first | exact SubO.nil _ | (apply SubO.cons; (focus (repeat' (first | exact Pick.head _ _ | apply Pick.tail))))))); (focus (repeat (first | exact AllE.nil _ | (apply AllE.cons; (focus (first | exact ent_nilBy | exact ent_nilSl | (apply Ent.mem; repeat' (first | exact mcs | apply mct)))))))); intro x hx)
      obtain ⟨x, o⟩ := x
      obtain ⟨hx, hok⟩ := hx
      replace hx : x ≤ fs.length := hx
      replace hok : okL (fs.take x) := hok
      dsimp only
      have hjl := jn_le hok
      rw [List.length_take, Nat.min_eq_left hx] at hjl
      have hpl := pad4_lt (jn (fs.take x)).length
      by_cases c1 : x < fs.length
      · refine W_ent (ent_al (i := x) (ψ := fun i => By (vs i) (fs.getD i [])) (by (focus (repeat' (first | exact mcs | apply mct)))) c1) ?_
        repeat (first | refine n1 ?_ | refine n2 (fun b _ => ?_) | refine n3 (fun _ _ => ?_) | refine n4 ?_ | refine n5 ?_ | refine n6 (padding_fn (jn (fs.take x)).length (by omega)) ?_ | refine n6v (padding_fn (jn (fs.take x)).length (by omega)) ?_ | refine WL_nil ?_ | refine W_seq ?_ | refine W_region ?_ | refine n7 ?_ | refine n8 ?_ | refine W_block ?_ | refine W_skip ?_ | refine W_ret ?_ | refine W_exit ?_ | refine WQ_then ?_ | refine WQ_then_ret ?_ | refine WQ_then_exit ?_ | refine WQ_block_normal ?_ | refine WQ_block_ret ?_ | refine WQ_block_exit ?_ | refine n9 ?_)
        refine WL_effs rfl rfl rfl (E_appendZ (bs := jn (fs.take x)) (k := pad4 (jn (fs.take x)).length) (nm := (jn (fs.take x) ++ zer (pad4 (jn (fs.take x)).length)).length) (all := jn (fs.take x) ++ zer (pad4 (jn (fs.take x)).length)) rfl rfl rfl (by repeat' (first | exact Pick.head _ _ | apply Pick.tail)) rfl rfl rfl rfl rfl rfl (Nat.le_of_ble_eq_true rfl) (by omega) (by rw [List.length_append, zer_length]) rfl) ?_
        intro o2 _
        refine WL_letgoB (v := o2) (by repeat' (first | exact Pick.head _ _ | apply Pick.tail)) rfl ?_
        repeat (first | refine n1 ?_ | refine n2 (fun b _ => ?_) | refine n3 (fun _ _ => ?_) | refine n4 ?_ | refine n5 ?_ | refine WL_nil ?_ | refine W_seq ?_ | refine W_region ?_ | refine n7 ?_ | refine n8 ?_ | refine W_block ?_ | refine W_skip ?_ | refine W_ret ?_ | refine W_exit ?_ | refine WQ_then ?_ | refine WQ_then_ret ?_ | refine WQ_then_exit ?_ | refine WQ_block_normal ?_ | refine WQ_block_ret ?_ | refine WQ_block_exit ?_ | refine n9 ?_)
        (apply WL_effs; exact rfl; exact rfl; exact rfl; (apply E_callG (first := #[]) (captured := #[]) (Γp := [])); exact rfl; exact rfl; exact rfl; (intro _ _; simp); (exact join1_fn o2 (vs x) (jn (fs.take x) ++ zer (pad4 (jn (fs.take x)).length)) (fs.getD x []) (by rw [List.length_append, zer_length]; omega)); exact .refl _; (repeat (first | exact AllE.nil _ | (apply AllE.cons; (focus (first | exact ent_nilBy | exact ent_nilSl | (apply Ent.mem; repeat' (first | exact mcs | apply mct))))))); (intro _; exact rfl); (intro _; exact rfl))
        intro o3 _
        by_cases c2 : (J1 (jn (fs.take x) ++ zer (pad4 (jn (fs.take x)).length)) (fs.getD x [])).2 = 0
        · obtain ⟨hp1, hp2⟩ := J1_ok c2
          rw [← jn_snoc c1] at hp2
          rw [c2, hp2]
          repeat (first | refine n1 ?_ | refine n2 (fun b _ => ?_) | refine n3 (fun _ _ => ?_) | refine n4 ?_ | refine n5 ?_ | refine WL_nil ?_ | refine W_seq ?_ | refine W_region ?_ | refine n7 ?_ | refine n8 ?_ | refine W_block ?_ | refine W_skip ?_ | refine W_ret ?_ | refine W_exit ?_ | refine WQ_then ?_ | refine WQ_then_ret ?_ | refine WQ_then_exit ?_ | refine WQ_block_normal ?_ | refine WQ_block_ret ?_ | refine WQ_block_exit ?_ | refine n9 ?_)
          have hok2 := okL_snoc c1 hok hp1
          ((apply WQ_again ((x + 1, o3))); (focus exact ⟨c1, hok2⟩); (focus (exact (show fs.length - (x + 1) < fs.length - x by omega))); (focus (repeat (first | exact FrIn.nil _ | (apply FrIn.cons; exact rfl; (first | exact rfl | (congr 1; first | omega | (dsimp only; omega)) | (simp; done)))))); (focus (repeat (first | exact SubO.nil _ | (apply SubO.cons; (focus (repeat' (first | exact Pick.head _ _ | apply Pick.tail))))))); (focus (repeat (first | exact AllE.nil _ | (apply AllE.cons; (focus (first | exact ent_nilBy | exact ent_nilSl | (apply Ent.mem; repeat' (first | exact mcs | apply mct)))))))))
        · have hpe := pieE_at hok c1 (by rw [← J1_err (jn (fs.take x) ++ zer (pad4 (jn (fs.take x)).length))]; exact c2)
          rw [← J1_err (jn (fs.take x) ++ zer (pad4 (jn (fs.take x)).length))] at hpe
          generalize J1 (jn (fs.take x) ++ zer (pad4 (jn (fs.take x)).length)) (fs.getD x []) = r at *
          obtain ⟨r1, r2⟩ := r
          replace c2 : ¬ r2 = 0 := c2
          replace hpe : pieE fs = r2 := hpe
          dsimp only
          repeat (first | refine n1 ?_ | refine n2 (fun b _ => ?_) | refine n3 (fun _ _ => ?_) | refine n4 ?_ | refine n5 ?_ | refine WL_nil ?_ | refine W_seq ?_ | refine W_region ?_ | refine n7 ?_ | refine n8 ?_ | refine W_block ?_ | refine W_skip ?_ | refine W_ret ?_ | refine W_exit ?_ | refine WQ_then ?_ | refine WQ_then_ret ?_ | refine WQ_then_exit ?_ | refine WQ_block_normal ?_ | refine WQ_block_ret ?_ | refine WQ_block_exit ?_ | refine n9 ?_)
          apply WQ_nilRow 5 1
          rw [show jnE fs = ([], r2) by unfold jnE; rw [if_neg h0, if_neg h1, if_neg (by rw [hpe]; exact c2), hpe]]
          ((apply ret2 Tryd.results34 ( Value.slice none 0 0)); (focus (first | trivial | assumption | omega)); (focus (first | exact RV_tmp rfl | (apply RV_cellN; exact rfl; (repeat' (first | exact Pick.head _ _ | apply Pick.tail)); (intro _; exact rfl); (intro _; exact rfl); exact rfl) | (apply RV_cell1; exact rfl; (repeat' (first | exact Pick.head _ _ | apply Pick.tail)); (intro _; exact rfl); exact rfl))); (focus (first | exact RV_tmp rfl | (apply RV_cellN; exact rfl; (repeat' (first | exact Pick.head _ _ | apply Pick.tail)); (intro _; exact rfl); (intro _; exact rfl); exact rfl) | (apply RV_cell1; exact rfl; (repeat' (first | exact Pick.head _ _ | apply Pick.tail)); (intro _; exact rfl); exact rfl)));  (focus (first | exact rfl | (simp; done))); (focus (repeat (first | exact SubO.nil _ | (apply SubO.cons; (focus (repeat' (first | exact Pick.head _ _ | apply Pick.tail))))))); (focus (repeat (first | exact AllE.nil _ | (apply AllE.cons; (focus (first | exact ent_nilBy | exact ent_nilSl | (apply Ent.mem; repeat' (first | exact mcs | apply mct)))))))))
      · obtain rfl : x = fs.length := by omega
        rw [List.take_length] at *
        by_cases c2 : 65535 < (jn fs).length
        · rw [show jnE fs = ([], 11) by unfold jnE; rw [if_neg h0, if_neg h1, if_pos (pieE_ok.2 hok), if_pos c2]]
          repeat (first | refine n1 ?_ | refine n2 (fun b _ => ?_) | refine n3 (fun _ _ => ?_) | refine n4 ?_ | refine n5 ?_ | refine WL_nil ?_ | refine W_seq ?_ | refine W_region ?_ | refine n7 ?_ | refine n8 ?_ | refine W_block ?_ | refine W_skip ?_ | refine W_ret ?_ | refine W_exit ?_ | refine WQ_then ?_ | refine WQ_then_ret ?_ | refine WQ_then_exit ?_ | refine WQ_block_normal ?_ | refine WQ_block_ret ?_ | refine WQ_block_exit ?_ | refine n9 ?_)
          apply WQ_nilRow 5 1
          ((apply ret2 Tryd.results34 ( Value.slice none 0 0)); (focus (first | trivial | assumption | omega)); (focus (first | exact RV_tmp rfl | (apply RV_cellN; exact rfl; (repeat' (first | exact Pick.head _ _ | apply Pick.tail)); (intro _; exact rfl); (intro _; exact rfl); exact rfl) | (apply RV_cell1; exact rfl; (repeat' (first | exact Pick.head _ _ | apply Pick.tail)); (intro _; exact rfl); exact rfl))); (focus (first | exact RV_tmp rfl | (apply RV_cellN; exact rfl; (repeat' (first | exact Pick.head _ _ | apply Pick.tail)); (intro _; exact rfl); (intro _; exact rfl); exact rfl) | (apply RV_cell1; exact rfl; (repeat' (first | exact Pick.head _ _ | apply Pick.tail)); (intro _; exact rfl); exact rfl)));  (focus (first | exact rfl | (simp; done))); (focus (repeat (first | exact SubO.nil _ | (apply SubO.cons; (focus (repeat' (first | exact Pick.head _ _ | apply Pick.tail))))))); (focus (repeat (first | exact AllE.nil _ | (apply AllE.cons; (focus (first | exact ent_nilBy | exact ent_nilSl | (apply Ent.mem; repeat' (first | exact mcs | apply mct)))))))))
        · rw [show jnE fs = (jn fs, 0) by unfold jnE; rw [if_neg h0, if_neg h1, if_pos (pieE_ok.2 hok), if_neg c2]]
          repeat (first | refine n1 ?_ | refine n2 (fun b _ => ?_) | refine n3 (fun _ _ => ?_) | refine n4 ?_ | refine n5 ?_ | refine WL_nil ?_ | refine W_seq ?_ | refine W_region ?_ | refine n7 ?_ | refine n8 ?_ | refine W_block ?_ | refine W_skip ?_ | refine W_ret ?_ | refine W_exit ?_ | refine WQ_then ?_ | refine WQ_then_ret ?_ | refine WQ_then_exit ?_ | refine WQ_block_normal ?_ | refine WQ_block_ret ?_ | refine WQ_block_exit ?_ | refine n9 ?_)
          ((apply ret2 Tryd.results34 ( o)); (focus (first | trivial | assumption | omega)); (focus (first | exact RV_tmp rfl | (apply RV_cellN; exact rfl; (repeat' (first | exact Pick.head _ _ | apply Pick.tail)); (intro _; exact rfl); (intro _; exact rfl); exact rfl) | (apply RV_cell1; exact rfl; (repeat' (first | exact Pick.head _ _ | apply Pick.tail)); (intro _; exact rfl); exact rfl))); (focus (first | exact RV_tmp rfl | (apply RV_cellN; exact rfl; (repeat' (first | exact Pick.head _ _ | apply Pick.tail)); (intro _; exact rfl); (intro _; exact rfl); exact rfl) | (apply RV_cell1; exact rfl; (repeat' (first | exact Pick.head _ _ | apply Pick.tail)); (intro _; exact rfl); exact rfl)));  (focus (first | exact rfl | (simp; done))); (focus (repeat (first | exact SubO.nil _ | (apply SubO.cons; (focus (repeat' (first | exact Pick.head _ _ | apply Pick.tail))))))); (focus (repeat (first | exact AllE.nil _ | (apply AllE.cons; (focus (first | exact ent_nilBy | exact ent_nilSl | (apply Ent.mem; repeat' (first | exact mcs | apply mct)))))))))

set_option maxRecDepth 100000 in
theorem join_fn (v : Value) (fs : List (List UInt8)) (vs : Nat → Value) : Ct Tryd.prog 16 [v] [] [Rw 1 v fs.length (fun i => [vs i]), Al fs.length (fun i => By (vs i) (fs.getD i []))]
    (X := Value) (fun _ => True) (fun x => .tuple #[x, .int .i64 (jnE fs).2]) (fun x => [.row x 5 1 (jnE fs).1.length ((jnE fs).1.map bcell)]) (fun _ => []) := by
  refine Ct_intro Tryd.func16 rfl Tryd.ntmps16 (by simp) _ rfl (fun w0 O0 => ?_)
  repeat (first | refine n1 ?_ | refine n2 (fun b _ => ?_) | refine n3 (fun _ _ => ?_) | refine n4 ?_ | refine n5 ?_ | refine WL_nil ?_ | refine W_seq ?_ | refine W_region ?_ | refine n7 ?_ | refine n8 ?_ | refine W_block ?_ | refine W_skip ?_ | refine W_ret ?_ | refine W_exit ?_ | refine WQ_then ?_ | refine WQ_then_ret ?_ | refine WQ_then_exit ?_ | refine WQ_block_normal ?_ | refine WQ_block_ret ?_ | refine WQ_block_exit ?_ | refine n9 ?_)
  (apply WL_effs; exact rfl; exact rfl; exact rfl; apply E_call; exact rfl; (intro _ _; simp); exact writeB_fn v fs vs; (repeat (first | exact AllE.nil _ | (apply AllE.cons; (focus (first | exact ent_nilBy | exact ent_nilSl | (apply Ent.mem; repeat' (first | exact mcs | apply mct))))))); (intro _; exact rfl); (intro _; exact rfl))
  intro o _
  repeat (first | refine n1 ?_ | refine n2 (fun b _ => ?_) | refine n3 (fun _ _ => ?_) | refine n4 ?_ | refine n5 ?_ | refine WL_nil ?_ | refine W_seq ?_ | refine W_region ?_ | refine n7 ?_ | refine n8 ?_ | refine W_block ?_ | refine W_skip ?_ | refine W_ret ?_ | refine W_exit ?_ | refine WQ_then ?_ | refine WQ_then_ret ?_ | refine WQ_then_exit ?_ | refine WQ_block_normal ?_ | refine WQ_block_ret ?_ | refine WQ_block_exit ?_ | refine n9 ?_)
  ((apply ret2 Tryd.results16 ( o)); (focus (first | trivial | assumption | omega)); (focus (first | exact RV_tmp rfl | (apply RV_cellN; exact rfl; (repeat' (first | exact Pick.head _ _ | apply Pick.tail)); (intro _; exact rfl); (intro _; exact rfl); exact rfl) | (apply RV_cell1; exact rfl; (repeat' (first | exact Pick.head _ _ | apply Pick.tail)); (intro _; exact rfl); exact rfl))); (focus (first | exact RV_tmp rfl | (apply RV_cellN; exact rfl; (repeat' (first | exact Pick.head _ _ | apply Pick.tail)); (intro _; exact rfl); (intro _; exact rfl); exact rfl) | (apply RV_cell1; exact rfl; (repeat' (first | exact Pick.head _ _ | apply Pick.tail)); (intro _; exact rfl); exact rfl)));  (focus (first | exact rfl | (simp; done))); (focus (repeat (first | exact SubO.nil _ | (apply SubO.cons; (focus (repeat' (first | exact Pick.head _ _ | apply Pick.tail))))))); (focus (repeat (first | exact AllE.nil _ | (apply AllE.cons; (focus (first | exact ent_nilBy | exact ent_nilSl | (apply Ent.mem; repeat' (first | exact mcs | apply mct)))))))))
end Go.Proofs.YtdhbgolbfkejcaaDoor.C08

/-
  Byte strings scanned: 'Scan'; the reference's 'At', 'Starts', 'GreatPieces'.
-/
namespace Go.Proofs.YtdhbgolbfkejcaaDoor.C01
end Go.Proofs.YtdhbgolbfkejcaaDoor.C01
namespace Go.Proofs.YtdhbgolbfkejcaaDoor.C03
end Go.Proofs.YtdhbgolbfkejcaaDoor.C03
namespace Go.Proofs.YtdhbgolbfkejcaaDoor.C08
open C01 C03
open Go Go.RowKit Go.Hs

theorem drop_rest {α : Type} (l : List α) (k : Nat) : (l.drop k).take (l.length - k) = l.drop k := List.take_of_length_le (by simp)
theorem getD_app1 {α : Type} {l : List α} {x d : α} {i : Nat} (h : i < l.length) : (l ++ [x]).getD i d = l.getD i d := by
  rw [List.getD_eq_getElem?_getD, List.getD_eq_getElem?_getD, List.getElem?_append_left h]
theorem getD_app2 {α : Type} {l : List α} {x d : α} {i : Nat} (h : l.length = i) : (l ++ [x]).getD i d = x := by
  subst h
  rw [List.getD_eq_getElem?_getD, List.getElem?_append_right (Nat.le_refl _)]
  simp
theorem ent_alB {Φ : List SP} {us : List Value} {fs : List (List UInt8)} {u : Value} {f : List UInt8} (hm : Al fs.length (fun i => By (us.getD i undef) (fs.getD i [])) ∈ Φ) (hc : By u f ∈ Φ) (hl : us.length = fs.length) :
    Ent Φ (Al (fs ++ [f]).length (fun i => By ((us ++ [u]).getD i undef) ((fs ++ [f]).getD i []))) := by
  rw [show (fs ++ [f]).length = fs.length + 1 by simp]
  exact ent_alS hm hc (fun i hi => by rw [getD_app1 (by omega), getD_app1 hi]) (by rw [getD_app2 hl, getD_app2 rfl])
structure SS where
  v : Value
  rest : List UInt8
  o : Value
  us : List Value
  fs : List (List UInt8)
  sk : Nat
def ssInv (bs : List UInt8) (x : SS) : Prop := x.rest.length ≤ bs.length ∧ x.us.length = x.fs.length ∧ x.fs.length + x.rest.length ≤ bs.length ∧ x.sk + x.rest.length ≤ bs.length ∧ sc bs = (x.fs ++ (sc x.rest).1, x.sk + (sc x.rest).2)
theorem num2_def (b : List UInt8) : (b.getD 0 0).toNat + 256 * (b.getD 1 0).toNat = num2 b := rfl
attribute [local irreducible] WL W WQ PL Runs Effs AllE Ent SubO FrIn Pick OneC Ones CellsE PartsE SeqE UZ By Sl Pt Ct

set_option maxRecDepth 100000 in
set_option maxHeartbeats 8000000 in
theorem scan_fn (v : Value) (bs : List UInt8) (hb : bs.length ≤ 10000000) : Ct Tryd.prog 17 [v] [] [By v bs]
    (X := Value × List Value) (fun x => x.2.length = (sc bs).1.length) (fun x => .tuple #[x.1, .int .i64 ((sc bs).2 : Int)]) (fun _ => [])
    (fun x => [Rw 1 x.1 (sc bs).1.length (fun i => [x.2.getD i undef]), Al (sc bs).1.length (fun i => By (x.2.getD i undef) ((sc bs).1.getD i []))]) := by
  refine Ct_intro Tryd.func17 rfl Tryd.ntmps17 (by simp) _ rfl (fun w0 O0 => ?_)
  repeat (first | refine n1 ?_ | refine n2 (fun b _ => ?_) | refine n3 (fun _ _ => ?_) | refine n4 ?_ | refine n5 ?_ | refine WL_nil ?_ | refine W_seq ?_ | refine W_region ?_ | refine n7 ?_ | refine n8 ?_ | refine W_block ?_ | refine W_skip ?_ | refine W_ret ?_ | refine W_exit ?_ | refine WQ_then ?_ | refine WQ_then_ret ?_ | refine WQ_then_exit ?_ | refine WQ_block_normal ?_ | refine WQ_block_ret ?_ | refine WQ_block_exit ?_ | refine n9 ?_)
  apply W_nilRow 23 1
  refine W_ent (ent_al0 (ψ := fun i => By (([] : List Value).getD i undef) (([] : List (List UInt8)).getD i []))) ?_
  ((apply W_loopK (X := SS) [0, 2, 3, 4] [0] (fun x => ssInv bs x) (fun x => [(0, x.v), (2, x.o), (3, .int .i64 (x.sk : Int))]) (fun x => [.row x.o 23 1 x.fs.length x.us]) (fun x => [By x.v x.rest, Al x.fs.length (fun i => By (x.us.getD i undef) (x.fs.getD i []))]) (fun x => x.rest.length) (⟨v, bs, .slice none 0 0, [], [], 0⟩)); (focus exact ⟨Nat.le_refl _, rfl, by simp, by simp, by simp⟩); exact rfl; exact rfl; (intro _; exact rfl); (intro _; exact rfl); (intro _; exact rfl); (focus (repeat (first | exact FrIn.nil _ | (apply FrIn.cons; exact rfl; (first | exact rfl | (congr 1; first | omega | (dsimp only; omega)) | (simp; done)))))); (focus (repeat (first | exact SubO.nil _ | (apply SubO.cons; (focus (repeat' (first | exact Pick.head _ _ | apply Pick.tail))))))); (focus (repeat (first | exact AllE.nil _ | (apply AllE.cons; (focus (first | exact ent_nilBy | exact ent_nilSl | (apply Ent.mem; repeat' (first | exact mcs | apply mct)))))))); intro x hx)
  obtain ⟨bv, rest, o, us, fs, sk⟩ := x
  obtain ⟨i1, i2, i3, i4, i5⟩ := hx
  replace i1 : rest.length ≤ bs.length := i1
  replace i2 : us.length = fs.length := i2
  replace i3 : fs.length + rest.length ≤ bs.length := i3
  replace i4 : sk + rest.length ≤ bs.length := i4
  replace i5 : sc bs = (fs ++ (sc rest).1, sk + (sc rest).2) := i5
  dsimp only
  by_cases h4 : 4 ≤ rest.length
  · have hnl := num2_lt rest
    have q0 := u8_nat (rest.getD 0 0)
    have q1 := u8_nat (rest.getD 1 0)
    repeat (first | refine n1 ?_ | refine n2 (fun b _ => ?_) | refine n3 (fun _ _ => ?_) | refine n4 ?_ | refine n5 ?_ | refine WL_nil ?_ | refine W_seq ?_ | refine W_region ?_ | refine n7 ?_ | refine n8 ?_ | refine W_block ?_ | refine W_skip ?_ | refine W_ret ?_ | refine W_exit ?_ | refine WQ_then ?_ | refine WQ_then_ret ?_ | refine WQ_then_exit ?_ | refine WQ_block_normal ?_ | refine WQ_block_ret ?_ | refine WQ_block_exit ?_ | refine n9 ?_)
    (refine W_regionP' [] [] [0, 1, 2, 3, 4, 5, 6, 7, 8, 9, 10] [] (by kernel_rfl) (by kernel_rfl) (by repeat (first | exact UZ.nil _ _ | (apply UZ.cons; exact rfl; (intro _; exact rfl)))) (by exact rfl) (by (repeat (first | exact SubO.nil _ | (apply SubO.cons; (focus (repeat' (first | exact Pick.head _ _ | apply Pick.tail))))))) ?_)
    repeat (first | refine p1 ?_ | refine p2 (fun b _ => ?_) | refine p3 (fun _ _ => ?_) | refine p4 ?_ | refine p5 ?_ | refine p7 (fun b => ?_) | refine PL_nil ?_)
    refine PL_runs rfl rfl rfl rfl rfl (R_shl rfl rfl (by decide) (i64_shl8 _)) ?_
    refine PL_runs rfl rfl rfl rfl rfl (R_or rfl rfl (i64_or8 _ _)) ?_
    rw [num2_def]
    repeat (first | refine p1 ?_ | refine p2 (fun b _ => ?_) | refine p3 (fun _ _ => ?_) | refine p4 ?_ | refine p5 ?_ | refine p7 (fun b => ?_) | refine PL_nil ?_)
    by_cases hh : hit rest = true
    · obtain ⟨_, h1, h2, h3, h5⟩ := hit_iff.1 hh
      have hpl := pad4_lt (num2 rest)
      have hsc := sc_hit hh
      repeat (first | refine n1 ?_ | refine n2 (fun b _ => ?_) | refine n3 (fun _ _ => ?_) | refine n4 ?_ | refine n5 ?_ | refine WL_nil ?_ | refine W_seq ?_ | refine W_region ?_ | refine n7 ?_ | refine n8 ?_ | refine W_block ?_ | refine W_skip ?_ | refine W_ret ?_ | refine W_exit ?_ | refine WQ_then ?_ | refine WQ_then_ret ?_ | refine WQ_then_exit ?_ | refine WQ_block_normal ?_ | refine WQ_block_ret ?_ | refine WQ_block_exit ?_ | refine n9 ?_)
      (apply WL_effs; exact rfl; exact rfl; exact rfl; apply E_call; exact rfl; (intro _ _; simp); (exact delimiter_fn (num2 rest) (by omega)); (repeat (first | exact AllE.nil _ | (apply AllE.cons; (focus (first | exact ent_nilBy | exact ent_nilSl | (apply Ent.mem; repeat' (first | exact mcs | apply mct))))))); (intro _; exact rfl); (intro _; exact rfl))
      intro dv _
      have hp := prefix_fn bv dv rest (dlm (num2 rest))
      rw [decide_eq_true (show (dlm (num2 rest)).length ≤ rest.length ∧ rest.take (dlm (num2 rest)).length = dlm (num2 rest) from ⟨h4, h3⟩)] at hp
      repeat (first | refine n1 ?_ | refine n2 (fun b _ => ?_) | refine n3 (fun _ _ => ?_) | refine n4 ?_ | refine n5 ?_ | refine n6 (hp) ?_ | refine n6v (hp) ?_ | refine WL_nil ?_ | refine W_seq ?_ | refine W_region ?_ | refine n7 ?_ | refine n8 ?_ | refine W_block ?_ | refine W_skip ?_ | refine W_ret ?_ | refine W_exit ?_ | refine WQ_then ?_ | refine WQ_then_ret ?_ | refine WQ_then_exit ?_ | refine WQ_block_normal ?_ | refine WQ_block_ret ?_ | refine WQ_block_exit ?_ | refine n9 ?_)
      have hdl : ((rest.drop 4).take (num2 rest)).length ≤ rest.length := by rw [List.length_take, List.length_drop]; omega
      (apply WL_effs; exact rfl; exact rfl; exact rfl; apply E_call; exact rfl; (intro _ _; simp); (exact cloneB_fnB (cutV 1 4 (4 + num2 rest) bv) ((rest.drop 4).take (num2 rest)) (by omega)); (repeat (first | exact AllE.nil _ | (apply AllE.cons; (focus (first | exact ent_nilBy | exact ent_nilSl | (apply Ent.mem; repeat' (first | exact mcs | apply mct))))))); (intro _; exact rfl); (intro _; exact rfl))
      intro cv _
      (apply WL_effs; exact rfl; exact rfl; exact rfl; (apply E_buildSlice; exact rfl; (focus (repeat (first | apply SeqE.nil | (apply SeqE.cons; exact rfl; (focus (first | (apply CellsE.lit; exact rfl) | (apply CellsE.one; (first | (apply OneC.lit; exact rfl) | (apply OneC.by_; (repeat' (first | exact mcs | apply mct)); done) | (apply OneC.sl; (repeat' (first | exact mcs | apply mct)); done) | (apply OneC.rw; (repeat' (first | exact mcs | apply mct)); done) | (apply OneC.row; (repeat' (first | exact Pick.head _ _ | apply Pick.tail))))))); exact rfl) | exact rfl))); exact rfl; (first | (intro _; exact (rfl : _ = Result.ok 1 _)) | (intro _; exact (rfl : _ = Result.ok 2 _)) | (intro _; exact (rfl : _ = Result.ok 3 _)) | (intro _; exact (rfl : _ = Result.ok 4 _)) | (intro _; exact (rfl : _ = Result.ok 5 _)) | (intro _; exact (rfl : _ = Result.ok 6 _)) | (intro _; exact (rfl : _ = Result.ok 7 _)) | (intro _; exact (rfl : _ = Result.ok 8 _)) | (intro _; exact (rfl : _ = Result.ok 9 _)) | (intro _; exact (rfl : _ = Result.ok 13 _)) | (intro _; exact (rfl : _ = Result.ok 14 _)) | (intro _; exact (rfl : _ = Result.ok 26 _)) | (intro _; exact (rfl : _ = Result.ok 40 _)) | (intro _; exact (rfl : _ = Result.ok 41 _)) | (intro _; exact (rfl : _ = Result.ok 42 _)) | (intro _; exact (rfl : _ = Result.ok 43 _)) | (intro _; exact (rfl : _ = Result.ok 44 _)) | (intro _; exact (rfl : _ = Result.ok 45 _)) | (intro _; exact (rfl : _ = Result.ok 46 _))); (intro _; exact rfl); exact rfl; exact Nat.le_of_ble_eq_true rfl; exact Nat.le_of_ble_eq_true rfl); skip)
      intro q _
      have hlen : (fs ++ [(rest.drop 4).take (num2 rest)]).length = fs.length + 1 := by simp
      refine WL_effs rfl rfl rfl (E_appendRowO (nm := (fs ++ [(rest.drop 4).take (num2 rest)]).length) (all := us ++ [cv]) rfl rfl (by repeat' (first | exact Pick.head _ _ | apply Pick.tail)) (by repeat' (first | exact Pick.head _ _ | apply Pick.tail)) rfl rfl rfl rfl rfl (Nat.le_of_ble_eq_true rfl) (Ones.cons (OneC.by_ (by repeat' (first | exact mcs | apply mct))) Ones.nil) (Nat.le_of_ble_eq_true rfl) (by omega) hlen.symm rfl) ?_
      intro o2 _
      refine WL_ent (ent_alB (us := us) (fs := fs) (u := cv) (f := (rest.drop 4).take (num2 rest)) (by repeat' (first | exact mcs | apply mct)) (by repeat' (first | exact mcs | apply mct)) i2) ?_
      repeat (first | refine n1 ?_ | refine n2 (fun b _ => ?_) | refine n3 (fun _ _ => ?_) | refine n4 ?_ | refine n5 ?_ | refine n6 (padding_fn (num2 rest) (by omega)) ?_ | refine n6v (padding_fn (num2 rest) (by omega)) ?_ | refine WL_nil ?_ | refine W_seq ?_ | refine W_region ?_ | refine n7 ?_ | refine n8 ?_ | refine W_block ?_ | refine W_skip ?_ | refine W_ret ?_ | refine W_exit ?_ | refine WQ_then ?_ | refine WQ_then_ret ?_ | refine WQ_then_exit ?_ | refine WQ_block_normal ?_ | refine WQ_block_ret ?_ | refine WQ_block_exit ?_ | refine n9 ?_)
      by_cases c1 : 4 + num2 rest + pad4 (num2 rest) ≤ rest.length
      · repeat (first | refine n1 ?_ | refine n2 (fun b _ => ?_) | refine n3 (fun _ _ => ?_) | refine n4 ?_ | refine n5 ?_ | refine WL_nil ?_ | refine W_seq ?_ | refine W_region ?_ | refine n7 ?_ | refine n8 ?_ | refine W_block ?_ | refine W_skip ?_ | refine W_ret ?_ | refine W_exit ?_ | refine WQ_then ?_ | refine WQ_then_ret ?_ | refine WQ_then_exit ?_ | refine WQ_block_normal ?_ | refine WQ_block_ret ?_ | refine WQ_block_exit ?_ | refine n9 ?_)
        repeat (first | refine n1 ?_ | refine n2 (fun b _ => ?_) | refine n3 (fun _ _ => ?_) | refine n4 ?_ | refine n5 ?_ | refine WL_nil ?_ | refine W_seq ?_ | refine W_region ?_ | refine n7 ?_ | refine n8 ?_ | refine W_block ?_ | refine W_skip ?_ | refine W_ret ?_ | refine W_exit ?_ | refine WQ_then ?_ | refine WQ_then_ret ?_ | refine WQ_then_exit ?_ | refine WQ_block_normal ?_ | refine WQ_block_ret ?_ | refine WQ_block_exit ?_ | refine n9 ?_)
        rw [drop_rest]
        have hr : (rest.drop (4 + num2 rest + pad4 (num2 rest))).length = rest.length - (4 + num2 rest + pad4 (num2 rest)) := List.length_drop
        have hn : ssInv bs ⟨cutV 1 (4 + num2 rest + pad4 (num2 rest)) rest.length bv, rest.drop (4 + num2 rest + pad4 (num2 rest)), o2, us ++ [cv], fs ++ [(rest.drop 4).take (num2 rest)], sk⟩ :=
          ⟨by show (rest.drop _).length ≤ _; omega, by simp [i2], by show (fs ++ _).length + (rest.drop _).length ≤ _; omega, by show sk + (rest.drop _).length ≤ _; omega, by rw [i5, hsc]; simp⟩
        ((apply WQ_again (⟨cutV 1 (4 + num2 rest + pad4 (num2 rest)) rest.length bv, rest.drop (4 + num2 rest + pad4 (num2 rest)), o2, us ++ [cv], fs ++ [(rest.drop 4).take (num2 rest)], sk⟩)); (focus exact hn); (focus (exact (show (rest.drop (4 + num2 rest + pad4 (num2 rest))).length < rest.length by omega))); (focus (repeat (first | exact FrIn.nil _ | (apply FrIn.cons; exact rfl; (first | exact rfl | (congr 1; first | omega | (dsimp only; omega)) | (simp; done)))))); (focus (repeat (first | exact SubO.nil _ | (apply SubO.cons; (focus (repeat' (first | exact Pick.head _ _ | apply Pick.tail))))))); (focus (repeat (first | exact AllE.nil _ | (apply AllE.cons; (focus (first | exact ent_nilBy | exact ent_nilSl | (apply Ent.mem; repeat' (first | exact mcs | apply mct)))))))))
      · have e0 : rest.drop (4 + num2 rest + pad4 (num2 rest)) = [] := List.drop_of_length_le (by omega)
        rw [e0] at hsc
        repeat (first | refine n1 ?_ | refine n2 (fun b _ => ?_) | refine n3 (fun _ _ => ?_) | refine n4 ?_ | refine n5 ?_ | refine WL_nil ?_ | refine W_seq ?_ | refine W_region ?_ | refine n7 ?_ | refine n8 ?_ | refine W_block ?_ | refine W_skip ?_ | refine W_ret ?_ | refine W_exit ?_ | refine WQ_then ?_ | refine WQ_then_ret ?_ | refine WQ_then_exit ?_ | refine WQ_block_normal ?_ | refine WQ_block_ret ?_ | refine WQ_block_exit ?_ | refine n9 ?_)
        repeat (first | refine n1 ?_ | refine n2 (fun b _ => ?_) | refine n3 (fun _ _ => ?_) | refine n4 ?_ | refine n5 ?_ | refine WL_nil ?_ | refine W_seq ?_ | refine W_region ?_ | refine n7 ?_ | refine n8 ?_ | refine W_block ?_ | refine W_skip ?_ | refine W_ret ?_ | refine W_exit ?_ | refine WQ_then ?_ | refine WQ_then_ret ?_ | refine WQ_then_exit ?_ | refine WQ_block_normal ?_ | refine WQ_block_ret ?_ | refine WQ_block_exit ?_ | refine n9 ?_)
        rw [show (rest.drop rest.length).take (rest.length - rest.length) = [] by simp]
        have hn : ssInv bs ⟨cutV 1 rest.length rest.length bv, [], o2, us ++ [cv], fs ++ [(rest.drop 4).take (num2 rest)], sk⟩ :=
          ⟨by simp, by simp [i2], by show (fs ++ _).length + 0 ≤ _; omega, by show sk + 0 ≤ _; omega, by rw [i5, hsc]; simp⟩
        ((apply WQ_again (⟨cutV 1 rest.length rest.length bv, [], o2, us ++ [cv], fs ++ [(rest.drop 4).take (num2 rest)], sk⟩)); (focus exact hn); (focus (exact (show 0 < rest.length by omega))); (focus (repeat (first | exact FrIn.nil _ | (apply FrIn.cons; exact rfl; (first | exact rfl | (congr 1; first | omega | (dsimp only; omega)) | (simp; done)))))); (focus (repeat (first | exact SubO.nil _ | (apply SubO.cons; (focus (repeat' (first | exact Pick.head _ _ | apply Pick.tail))))))); (focus (repeat (first | exact AllE.nil _ | (apply AllE.cons; (focus (first | exact ent_nilBy | exact ent_nilSl | (apply Ent.mem; repeat' (first | exact mcs | apply mct)))))))))
    · have hsc := sc_miss h4 (by simpa using hh)
      have hr : (rest.drop 4).length = rest.length - 4 := List.length_drop
      have hn : ssInv bs ⟨cutV 1 4 rest.length bv, rest.drop 4, o, us, fs, sk + 1⟩ :=
        ⟨by show (rest.drop 4).length ≤ _; omega, i2, by show fs.length + (rest.drop 4).length ≤ _; omega, by show sk + 1 + (rest.drop 4).length ≤ _; omega, by rw [i5, hsc]; simp; omega⟩
      by_cases a1 : num2 rest < 1
      · repeat (first | refine n1 ?_ | refine n2 (fun b _ => ?_) | refine n3 (fun _ _ => ?_) | refine n4 ?_ | refine n5 ?_ | refine WL_nil ?_ | refine W_seq ?_ | refine W_region ?_ | refine n7 ?_ | refine n8 ?_ | refine W_block ?_ | refine W_skip ?_ | refine W_ret ?_ | refine W_exit ?_ | refine WQ_then ?_ | refine WQ_then_ret ?_ | refine WQ_then_exit ?_ | refine WQ_block_normal ?_ | refine WQ_block_ret ?_ | refine WQ_block_exit ?_ | refine n9 ?_)
        repeat (first | refine n1 ?_ | refine n2 (fun b _ => ?_) | refine n3 (fun _ _ => ?_) | refine n4 ?_ | refine n5 ?_ | refine WL_nil ?_ | refine W_seq ?_ | refine W_region ?_ | refine n7 ?_ | refine n8 ?_ | refine W_block ?_ | refine W_skip ?_ | refine W_ret ?_ | refine W_exit ?_ | refine WQ_then ?_ | refine WQ_then_ret ?_ | refine WQ_then_exit ?_ | refine WQ_block_normal ?_ | refine WQ_block_ret ?_ | refine WQ_block_exit ?_ | refine n9 ?_)
        rw [drop_rest]
        ((apply WQ_again (⟨cutV 1 4 rest.length bv, rest.drop 4, o, us, fs, sk + 1⟩)); (focus exact hn); (focus (exact (show (rest.drop 4).length < rest.length by omega))); (focus (repeat (first | exact FrIn.nil _ | (apply FrIn.cons; exact rfl; (first | exact rfl | (congr 1; first | omega | (dsimp only; omega)) | (simp; done)))))); (focus (repeat (first | exact SubO.nil _ | (apply SubO.cons; (focus (repeat' (first | exact Pick.head _ _ | apply Pick.tail))))))); (focus (repeat (first | exact AllE.nil _ | (apply AllE.cons; (focus (first | exact ent_nilBy | exact ent_nilSl | (apply Ent.mem; repeat' (first | exact mcs | apply mct)))))))))
      · by_cases a2 : 2400 < num2 rest
        · repeat (first | refine n1 ?_ | refine n2 (fun b _ => ?_) | refine n3 (fun _ _ => ?_) | refine n4 ?_ | refine n5 ?_ | refine WL_nil ?_ | refine W_seq ?_ | refine W_region ?_ | refine n7 ?_ | refine n8 ?_ | refine W_block ?_ | refine W_skip ?_ | refine W_ret ?_ | refine W_exit ?_ | refine WQ_then ?_ | refine WQ_then_ret ?_ | refine WQ_then_exit ?_ | refine WQ_block_normal ?_ | refine WQ_block_ret ?_ | refine WQ_block_exit ?_ | refine n9 ?_)
          repeat (first | refine n1 ?_ | refine n2 (fun b _ => ?_) | refine n3 (fun _ _ => ?_) | refine n4 ?_ | refine n5 ?_ | refine WL_nil ?_ | refine W_seq ?_ | refine W_region ?_ | refine n7 ?_ | refine n8 ?_ | refine W_block ?_ | refine W_skip ?_ | refine W_ret ?_ | refine W_exit ?_ | refine WQ_then ?_ | refine WQ_then_ret ?_ | refine WQ_then_exit ?_ | refine WQ_block_normal ?_ | refine WQ_block_ret ?_ | refine WQ_block_exit ?_ | refine n9 ?_)
          rw [drop_rest]
          ((apply WQ_again (⟨cutV 1 4 rest.length bv, rest.drop 4, o, us, fs, sk + 1⟩)); (focus exact hn); (focus (exact (show (rest.drop 4).length < rest.length by omega))); (focus (repeat (first | exact FrIn.nil _ | (apply FrIn.cons; exact rfl; (first | exact rfl | (congr 1; first | omega | (dsimp only; omega)) | (simp; done)))))); (focus (repeat (first | exact SubO.nil _ | (apply SubO.cons; (focus (repeat' (first | exact Pick.head _ _ | apply Pick.tail))))))); (focus (repeat (first | exact AllE.nil _ | (apply AllE.cons; (focus (first | exact ent_nilBy | exact ent_nilSl | (apply Ent.mem; repeat' (first | exact mcs | apply mct)))))))))
        · by_cases a3 : rest.take 4 = dlm (num2 rest)
          · have a4 : rest.length < 4 + num2 rest := by
              apply Nat.lt_of_not_le
              intro a4
              exact hh (hit_iff.2 ⟨h4, by omega, by omega, a3, a4⟩)
            repeat (first | refine n1 ?_ | refine n2 (fun b _ => ?_) | refine n3 (fun _ _ => ?_) | refine n4 ?_ | refine n5 ?_ | refine WL_nil ?_ | refine W_seq ?_ | refine W_region ?_ | refine n7 ?_ | refine n8 ?_ | refine W_block ?_ | refine W_skip ?_ | refine W_ret ?_ | refine W_exit ?_ | refine WQ_then ?_ | refine WQ_then_ret ?_ | refine WQ_then_exit ?_ | refine WQ_block_normal ?_ | refine WQ_block_ret ?_ | refine WQ_block_exit ?_ | refine n9 ?_)
            (apply WL_effs; exact rfl; exact rfl; exact rfl; apply E_call; exact rfl; (intro _ _; simp); (exact delimiter_fn (num2 rest) (by omega)); (repeat (first | exact AllE.nil _ | (apply AllE.cons; (focus (first | exact ent_nilBy | exact ent_nilSl | (apply Ent.mem; repeat' (first | exact mcs | apply mct))))))); (intro _; exact rfl); (intro _; exact rfl))
            intro dv _
            have hp := prefix_fn bv dv rest (dlm (num2 rest))
            rw [decide_eq_true (show (dlm (num2 rest)).length ≤ rest.length ∧ rest.take (dlm (num2 rest)).length = dlm (num2 rest) from ⟨h4, a3⟩)] at hp
            repeat (first | refine n1 ?_ | refine n2 (fun b _ => ?_) | refine n3 (fun _ _ => ?_) | refine n4 ?_ | refine n5 ?_ | refine n6 (hp) ?_ | refine n6v (hp) ?_ | refine WL_nil ?_ | refine W_seq ?_ | refine W_region ?_ | refine n7 ?_ | refine n8 ?_ | refine W_block ?_ | refine W_skip ?_ | refine W_ret ?_ | refine W_exit ?_ | refine WQ_then ?_ | refine WQ_then_ret ?_ | refine WQ_then_exit ?_ | refine WQ_block_normal ?_ | refine WQ_block_ret ?_ | refine WQ_block_exit ?_ | refine n9 ?_)
            repeat (first | refine n1 ?_ | refine n2 (fun b _ => ?_) | refine n3 (fun _ _ => ?_) | refine n4 ?_ | refine n5 ?_ | refine WL_nil ?_ | refine W_seq ?_ | refine W_region ?_ | refine n7 ?_ | refine n8 ?_ | refine W_block ?_ | refine W_skip ?_ | refine W_ret ?_ | refine W_exit ?_ | refine WQ_then ?_ | refine WQ_then_ret ?_ | refine WQ_then_exit ?_ | refine WQ_block_normal ?_ | refine WQ_block_ret ?_ | refine WQ_block_exit ?_ | refine n9 ?_)
            rw [drop_rest]
            ((apply WQ_again (⟨cutV 1 4 rest.length bv, rest.drop 4, o, us, fs, sk + 1⟩)); (focus exact hn); (focus (exact (show (rest.drop 4).length < rest.length by omega))); (focus (repeat (first | exact FrIn.nil _ | (apply FrIn.cons; exact rfl; (first | exact rfl | (congr 1; first | omega | (dsimp only; omega)) | (simp; done)))))); (focus (repeat (first | exact SubO.nil _ | (apply SubO.cons; (focus (repeat' (first | exact Pick.head _ _ | apply Pick.tail))))))); (focus (repeat (first | exact AllE.nil _ | (apply AllE.cons; (focus (first | exact ent_nilBy | exact ent_nilSl | (apply Ent.mem; repeat' (first | exact mcs | apply mct)))))))))
          · repeat (first | refine n1 ?_ | refine n2 (fun b _ => ?_) | refine n3 (fun _ _ => ?_) | refine n4 ?_ | refine n5 ?_ | refine WL_nil ?_ | refine W_seq ?_ | refine W_region ?_ | refine n7 ?_ | refine n8 ?_ | refine W_block ?_ | refine W_skip ?_ | refine W_ret ?_ | refine W_exit ?_ | refine WQ_then ?_ | refine WQ_then_ret ?_ | refine WQ_then_exit ?_ | refine WQ_block_normal ?_ | refine WQ_block_ret ?_ | refine WQ_block_exit ?_ | refine n9 ?_)
            (apply WL_effs; exact rfl; exact rfl; exact rfl; apply E_call; exact rfl; (intro _ _; simp); (exact delimiter_fn (num2 rest) (by omega)); (repeat (first | exact AllE.nil _ | (apply AllE.cons; (focus (first | exact ent_nilBy | exact ent_nilSl | (apply Ent.mem; repeat' (first | exact mcs | apply mct))))))); (intro _; exact rfl); (intro _; exact rfl))
            intro dv _
            have hp := prefix_fn bv dv rest (dlm (num2 rest))
            rw [decide_eq_false (show ¬ ((dlm (num2 rest)).length ≤ rest.length ∧ rest.take (dlm (num2 rest)).length = dlm (num2 rest)) from fun e => a3 e.2)] at hp
            repeat (first | refine n1 ?_ | refine n2 (fun b _ => ?_) | refine n3 (fun _ _ => ?_) | refine n4 ?_ | refine n5 ?_ | refine n6 (hp) ?_ | refine n6v (hp) ?_ | refine WL_nil ?_ | refine W_seq ?_ | refine W_region ?_ | refine n7 ?_ | refine n8 ?_ | refine W_block ?_ | refine W_skip ?_ | refine W_ret ?_ | refine W_exit ?_ | refine WQ_then ?_ | refine WQ_then_ret ?_ | refine WQ_then_exit ?_ | refine WQ_block_normal ?_ | refine WQ_block_ret ?_ | refine WQ_block_exit ?_ | refine n9 ?_)
            repeat (first | refine n1 ?_ | refine n2 (fun b _ => ?_) | refine n3 (fun _ _ => ?_) | refine n4 ?_ | refine n5 ?_ | refine WL_nil ?_ | refine W_seq ?_ | refine W_region ?_ | refine n7 ?_ | refine n8 ?_ | refine W_block ?_ | refine W_skip ?_ | refine W_ret ?_ | refine W_exit ?_ | refine WQ_then ?_ | refine WQ_then_ret ?_ | refine WQ_then_exit ?_ | refine WQ_block_normal ?_ | refine WQ_block_ret ?_ | refine WQ_block_exit ?_ | refine n9 ?_)
            rw [drop_rest]
            ((apply WQ_again (⟨cutV 1 4 rest.length bv, rest.drop 4, o, us, fs, sk + 1⟩)); (focus exact hn); (focus (exact (show (rest.drop 4).length < rest.length by omega))); (focus (repeat (first | exact FrIn.nil _ | (apply FrIn.cons; exact rfl; (first | exact rfl | (congr 1; first | omega | (dsimp only; omega)) | (simp; done)))))); (focus (repeat (first | exact SubO.nil _ | (apply SubO.cons; (focus (repeat' (first | exact Pick.head _ _ | apply Pick.tail))))))); (focus (repeat (first | exact AllE.nil _ | (apply AllE.cons; (focus (first | exact ent_nilBy | exact ent_nilSl | (apply Ent.mem; repeat' (first | exact mcs | apply mct)))))))))
  · have hsc := sc_short (b := rest) (by omega)
    rw [hsc, List.append_nil] at i5
    replace i5 : sc bs = (fs, sk) := i5
    rw [i5]
    repeat (first | refine n1 ?_ | refine n2 (fun b _ => ?_) | refine n3 (fun _ _ => ?_) | refine n4 ?_ | refine n5 ?_ | refine WL_nil ?_ | refine W_seq ?_ | refine W_region ?_ | refine n7 ?_ | refine n8 ?_ | refine W_block ?_ | refine W_skip ?_ | refine W_ret ?_ | refine W_exit ?_ | refine WQ_then ?_ | refine WQ_then_ret ?_ | refine WQ_then_exit ?_ | refine WQ_block_normal ?_ | refine WQ_block_ret ?_ | refine WQ_block_exit ?_ | refine n9 ?_)
    refine WQ_letgo (v := o) (by repeat' (first | exact Pick.head _ _ | apply Pick.tail)) ?_
    refine WQ_ent (ent_slRw1 (v := o) (by (focus (repeat' (first | exact mcs | apply mct))))) ?_
    ((apply ret2 Tryd.results17 ( (o, us))); (focus (first | trivial | assumption | omega)); (focus (first | exact RV_tmp rfl | (apply RV_cellN; exact rfl; (repeat' (first | exact Pick.head _ _ | apply Pick.tail)); (intro _; exact rfl); (intro _; exact rfl); exact rfl) | (apply RV_cell1; exact rfl; (repeat' (first | exact Pick.head _ _ | apply Pick.tail)); (intro _; exact rfl); exact rfl))); (focus (first | exact RV_tmp rfl | (apply RV_cellN; exact rfl; (repeat' (first | exact Pick.head _ _ | apply Pick.tail)); (intro _; exact rfl); (intro _; exact rfl); exact rfl) | (apply RV_cell1; exact rfl; (repeat' (first | exact Pick.head _ _ | apply Pick.tail)); (intro _; exact rfl); exact rfl)));  (focus (first | exact rfl | (simp; done))); (focus (repeat (first | exact SubO.nil _ | (apply SubO.cons; (focus (repeat' (first | exact Pick.head _ _ | apply Pick.tail))))))); (focus (repeat (first | exact AllE.nil _ | (apply AllE.cons; (focus (first | exact ent_nilBy | exact ent_nilSl | (apply Ent.mem; repeat' (first | exact mcs | apply mct)))))))))

theorem getD_drop0 (xs : List UInt8) (p i : Nat) : xs.getD (p + i) 0 = (xs.drop p).getD i 0 := by
  rw [List.getD_eq_getElem?_getD, List.getD_eq_getElem?_getD, List.getElem?_drop]
theorem num2_at (xs : List UInt8) (p : Nat) : (xs.getD p 0).toNat + 256 * (xs.getD (p + 1) 0).toNat = num2 (xs.drop p) := by
  have h := getD_drop0 xs p 0
  rw [Nat.add_zero] at h
  rw [h, getD_drop0 xs p 1]
  rfl

def stV (fs : List (List UInt8)) (n : Nat) : List Value := (List.range n).map fun k => .int .i64 (st fs k : Int)
end Go.Proofs.YtdhbgolbfkejcaaDoor.C08
