/-
  Joined forms and their scan: the mathematics.
-/
import Derived.Test.YtdhbgolbfkejcaaCc
namespace Go.Proofs.Ytdhbgolbfkejcaa
open Go Go.RowKit Go.Hs

def pad4 (n : Nat) : Nat := (4 - n % 4) % 4
theorem pad4_mod (n : Nat) : (n + pad4 n) % 4 = 0 := by unfold pad4; omega
theorem pad4_lt (n : Nat) : pad4 n < 4 := by unfold pad4; omega
theorem pad4_add {a n : Nat} (h : a % 4 = 0) : pad4 (a + n) = pad4 n := by unfold pad4; omega
def zer (n : Nat) : List UInt8 := List.replicate n 0
theorem zer_length (n : Nat) : (zer n).length = n := List.length_replicate ..

/-- entries, one behind the other, with zeros between them. -/
def jg : List (List UInt8) → List UInt8
  | [] => []
  | e :: r => e ++ (if r.isEmpty then [] else zer (pad4 e.length) ++ jg r)
theorem jg_one (e : List UInt8) : jg [e] = e := by simp [jg]
theorem jg_cons {e : List UInt8} {r : List (List UInt8)} (h : r ≠ []) : jg (e :: r) = e ++ (zer (pad4 e.length) ++ jg r) := by
  cases r with
  | nil => exact absurd rfl h
  | cons _ _ => rfl
theorem jg_snoc (e : List UInt8) : ∀ (es : List (List UInt8)), jg (es ++ [e]) = jg es ++ zer (pad4 (jg es).length) ++ e
  | [] => by simp [jg, zer, pad4]
  | x :: es => by
    rw [List.cons_append, jg_cons (by simp), jg_snoc e es]
    cases es with
    | nil => simp [jg, zer, pad4]
    | cons y ys =>
      rw [jg_cons (e := x) (r := y :: ys) (by simp)]
      have e1 : pad4 (x ++ (zer (pad4 x.length) ++ jg (y :: ys))).length = pad4 (jg (y :: ys)).length := by
        rw [List.length_append, List.length_append, zer_length, ← Nat.add_assoc]
        exact pad4_add (pad4_mod _)
      rw [e1]
      simp only [List.append_assoc]

/-- entries, each with its zeros behind it. -/
def pj : List (List UInt8) → List UInt8
  | [] => []
  | e :: r => e ++ (zer (pad4 e.length) ++ pj r)
theorem pj_length_mod : ∀ (es : List (List UInt8)), (pj es).length % 4 = 0
  | [] => rfl
  | e :: r => by
    have := pj_length_mod r
    have h2 := pad4_mod e.length
    simp only [pj, List.length_append, zer_length]
    omega
theorem jg_split (e : List UInt8) (r : List (List UInt8)) : ∀ (a : List (List UInt8)), jg (a ++ e :: r) = pj a ++ jg (e :: r)
  | [] => rfl
  | x :: a => by
    rw [List.cons_append, jg_cons (by simp), jg_split e r a, pj]
    simp only [List.append_assoc]

/-- the check value of a byte string, as a byte. -/
def c8 (xs : List UInt8) : UInt8 := UInt8.ofNat (crc P8 xs).toNat
theorem c8_cell (xs : List UInt8) : Value.int .u8 ((crc P8 xs).toNat : Int) = bcell (c8 xs) := by
  have := (crc P8 xs).isLt
  unfold bcell c8
  rw [UInt8.toNat_ofNat', Nat.mod_eq_of_lt (by omega)]
def dl2 (n : Nat) : List UInt8 := [UInt8.ofNat n, UInt8.ofNat (n / 256)]
def dlm (n : Nat) : List UInt8 := [UInt8.ofNat n, UInt8.ofNat (n / 256), c8 (dl2 n), 78]
theorem dlm_length (n : Nat) : (dlm n).length = 4 := rfl
def entp (p : List UInt8) : List UInt8 := dlm p.length ++ p
theorem entp_length (p : List UInt8) : (entp p).length = 4 + p.length := by simp [entp, dlm_length]
theorem pad_entp (p : List UInt8) : pad4 (entp p).length = pad4 p.length := by rw [entp_length]; exact pad4_add (by decide)
def jn (l : List (List UInt8)) : List UInt8 := jg (l.map entp)

/-- the number that the first two bytes tell. -/
def num2 (b : List UInt8) : Nat := (b.getD 0 0).toNat + 256 * (b.getD 1 0).toNat
theorem num2_lt (b : List UInt8) : num2 b < 65536 := by
  have h1 := (b.getD 0 0).toNat_lt
  have h2 := (b.getD 1 0).toNat_lt
  unfold num2
  omega
theorem num2_dlm {n : Nat} (h : n < 65536) (r : List UInt8) : num2 (dlm n ++ r) = n := by
  simp only [num2, dlm, List.cons_append, List.getD_cons_zero, List.getD_cons_succ, UInt8.toNat_ofNat']
  omega
/-- a delimiter stands at the front, and its piece is there. -/
def hit (b : List UInt8) : Bool := decide (4 ≤ b.length) && decide (1 ≤ num2 b) && decide (num2 b ≤ 2400) && decide (b.take 4 = dlm (num2 b)) && decide (4 + num2 b ≤ b.length)
theorem hit_iff {b : List UInt8} : hit b = true ↔ 4 ≤ b.length ∧ 1 ≤ num2 b ∧ num2 b ≤ 2400 ∧ b.take 4 = dlm (num2 b) ∧ 4 + num2 b ≤ b.length := by
  simp only [hit, Bool.and_eq_true, decide_eq_true_eq]
  constructor
  · rintro ⟨⟨⟨⟨h1, h2⟩, h3⟩, h4⟩, h5⟩; exact ⟨h1, h2, h3, h4, h5⟩
  · rintro ⟨h1, h2, h3, h4, h5⟩; exact ⟨⟨⟨⟨h1, h2⟩, h3⟩, h4⟩, h5⟩
def scn : Nat → List UInt8 → List (List UInt8) × Nat
  | 0, _ => ([], 0)
  | f + 1, b =>
    if b.length < 4 then ([], 0)
    else if hit b then ((b.drop 4).take (num2 b) :: (scn f (b.drop (4 + num2 b + pad4 (num2 b)))).1, (scn f (b.drop (4 + num2 b + pad4 (num2 b)))).2)
    else ((scn f (b.drop 4)).1, (scn f (b.drop 4)).2 + 1)
theorem scn_fuel : ∀ (f g : Nat) (b : List UInt8), b.length ≤ f → b.length ≤ g → scn f b = scn g b
  | 0, 0, _, _, _ => rfl
  | 0, g + 1, b, h, _ => by
    rw [scn, scn, if_pos (by omega)]
  | f + 1, 0, b, _, h => by
    rw [scn, scn, if_pos (by omega)]
  | f + 1, g + 1, b, hf, hg => by
    rw [scn, scn]
    by_cases h1 : b.length < 4
    · rw [if_pos h1, if_pos h1]
    · rw [if_neg h1, if_neg h1, scn_fuel f g (b.drop (4 + num2 b + pad4 (num2 b))) (by rw [List.length_drop]; omega) (by rw [List.length_drop]; omega),
        scn_fuel f g (b.drop 4) (by rw [List.length_drop]; omega) (by rw [List.length_drop]; omega)]
def sc (b : List UInt8) : List (List UInt8) × Nat := scn b.length b
theorem sc_short {b : List UInt8} (h : b.length < 4) : sc b = ([], 0) := by
  unfold sc
  cases hl : b.length with
  | zero => rfl
  | succ k => rw [scn, if_pos h]
theorem sc_hit {b : List UInt8} (h : hit b = true) : sc b = ((b.drop 4).take (num2 b) :: (sc (b.drop (4 + num2 b + pad4 (num2 b)))).1, (sc (b.drop (4 + num2 b + pad4 (num2 b)))).2) := by
  have h4 := (hit_iff.1 h).1
  have e : sc b = scn ((b.length - 1) + 1) b := scn_fuel _ _ _ (Nat.le_refl _) (by omega)
  rw [e, scn, if_neg (by omega), if_pos h]
  have e2 : scn (b.length - 1) (b.drop (4 + num2 b + pad4 (num2 b))) = sc (b.drop (4 + num2 b + pad4 (num2 b))) := scn_fuel _ _ _ (by rw [List.length_drop]; omega) (Nat.le_refl _)
  rw [e2]
theorem sc_miss {b : List UInt8} (h4 : 4 ≤ b.length) (h : hit b = false) : sc b = ((sc (b.drop 4)).1, (sc (b.drop 4)).2 + 1) := by
  have e : sc b = scn ((b.length - 1) + 1) b := scn_fuel _ _ _ (Nat.le_refl _) (by omega)
  rw [e, scn, if_neg (by omega), if_neg (by simp [h])]
  have e2 : scn (b.length - 1) (b.drop 4) = sc (b.drop 4) := scn_fuel _ _ _ (by rw [List.length_drop]; omega) (Nat.le_refl _)
  rw [e2]

def okP (p : List UInt8) : Prop := 1 ≤ p.length ∧ p.length ≤ 2400
theorem hit_entp {p : List UInt8} (h : okP p) (r : List UInt8) : hit (entp p ++ r) = true ∧ num2 (entp p ++ r) = p.length := by
  obtain ⟨h1, h2⟩ := h
  have hn : num2 (entp p ++ r) = p.length := by
    rw [entp, List.append_assoc]
    exact num2_dlm (by omega) _
  refine ⟨hit_iff.2 ?_, hn⟩
  rw [hn, List.length_append, entp_length]
  refine ⟨by omega, h1, h2, ?_, by omega⟩
  rw [entp, List.append_assoc, List.take_left' (dlm_length _)]
theorem sc_entp {p : List UInt8} (h : okP p) (r : List UInt8) : sc (entp p ++ r) = (p :: (sc (r.drop (pad4 p.length))).1, (sc (r.drop (pad4 p.length))).2) := by
  obtain ⟨h1, h2⟩ := hit_entp h r
  rw [sc_hit h1, h2]
  have e1 : (entp p ++ r).drop (4 + p.length + pad4 p.length) = r.drop (pad4 p.length) := by
    rw [← List.drop_drop, List.drop_left' (entp_length p)]
  have e2 : ((entp p ++ r).drop 4).take p.length = p := by
    rw [entp, List.append_assoc, List.drop_left' (dlm_length _), List.take_left' rfl]
  rw [e1, e2]
def okL (l : List (List UInt8)) : Prop := ∀ p ∈ l, okP p
theorem sc_pj : ∀ (a : List (List UInt8)) (X : List UInt8), okL a → sc (pj (a.map entp) ++ X) = (a ++ (sc X).1, (sc X).2)
  | [], X, _ => rfl
  | p :: a, X, h => by
    have e : pj ((p :: a).map entp) ++ X = entp p ++ (zer (pad4 p.length) ++ (pj (a.map entp) ++ X)) := by
      rw [List.map_cons, pj, pad_entp]
      simp only [List.append_assoc]
    rw [e, sc_entp (h p List.mem_cons_self), List.drop_left' (zer_length _), sc_pj a X (fun q hq => h q (List.mem_cons_of_mem _ hq))]
    rfl
theorem sc_jn : ∀ (l : List (List UInt8)), okL l → sc (jn l) = (l, 0)
  | [], _ => sc_short (by decide)
  | p :: r, h => by
    have h0 := h p List.mem_cons_self
    by_cases hr : r = []
    · subst hr
      have e : jn [p] = entp p ++ [] := by rw [List.append_nil]; exact jg_one _
      rw [e, sc_entp h0, List.drop_nil, sc_short (by simp)]
    · have e : jn (p :: r) = entp p ++ (zer (pad4 p.length) ++ jn r) := by
        unfold jn
        rw [List.map_cons, jg_cons (by simpa using hr), pad_entp]
      rw [e, sc_entp h0, List.drop_left' (zer_length _), sc_jn r fun q hq => h q (List.mem_cons_of_mem _ hq)]
/-- where the k-th entry begins. -/
def st : List (List UInt8) → Nat → Nat
  | p :: r, k + 1 => 4 + p.length + pad4 p.length + st r k
  | _, _ => 0
theorem st_pj : ∀ (l : List (List UInt8)) (k : Nat), k ≤ l.length → (pj ((l.take k).map entp)).length = st l k
  | [], 0, _ => rfl
  | [], _ + 1, h => absurd h (by simp)
  | _ :: _, 0, _ => rfl
  | p :: r, k + 1, h => by
    rw [List.take_succ_cons, List.map_cons, pj, st, List.length_append, List.length_append, zer_length, entp_length, ← pad_entp p, entp_length, st_pj r k (by simpa using h)]
    omega
theorem st_succ : ∀ (l : List (List UInt8)) (k : Nat), k < l.length → st l (k + 1) = st l k + (4 + (l.getD k []).length + pad4 (l.getD k []).length)
  | [], _, h => absurd h (by simp)
  | p :: r, 0, _ => by cases r <;> simp [st]
  | p :: r, k + 1, h => by
    rw [st, st_succ r k (by simpa using h), st]
    simp only [List.getD_cons_succ]
    omega
theorem list_at {α : Type} {l : List α} {k : Nat} (h : k < l.length) (d : α) : l = l.take k ++ l.getD k d :: l.drop (k + 1) := by
  have e : l.getD k d = l[k] := by rw [List.getD_eq_getElem?_getD, List.getElem?_eq_getElem h]; rfl
  rw [e, List.getElem_cons_drop, List.take_append_drop]
/-- a joined form, laid open at one piece. -/
def tl_ (l : List (List UInt8)) (k : Nat) : List UInt8 := if l.drop (k + 1) = [] then [] else zer (pad4 (l.getD k []).length) ++ jn (l.drop (k + 1))
theorem jn_at {l : List (List UInt8)} {k : Nat} (h : k < l.length) : jn l = pj ((l.take k).map entp) ++ (entp (l.getD k []) ++ tl_ l k) := by
  have e := congrArg jn (list_at h [])
  refine e.trans ?_
  unfold jn
  rw [List.map_append, List.map_cons, jg_split, jg, tl_, pad_entp]
  by_cases hr : l.drop (k + 1) = []
  · rw [hr]; rfl
  · rw [if_neg hr, if_neg (by simpa using hr)]; rfl
theorem tl_set (l : List (List UInt8)) (k : Nat) (q : List UInt8) (hk : k < l.length) (h : q.length = (l.getD k []).length) : tl_ (l.set k q) k = tl_ l k := by
  unfold tl_
  rw [List.drop_set_of_lt (by omega)]
  have e : ((l.set k q).getD k []).length = (l.getD k []).length := by
    rw [List.getD_eq_getElem?_getD, List.getElem?_set_self hk]; exact h
  rw [e]
theorem jn_set {l : List (List UInt8)} {k : Nat} (hk : k < l.length) (q : List UInt8) (h : q.length = (l.getD k []).length) :
    jn (l.set k q) = pj ((l.take k).map entp) ++ (dlm (l.getD k []).length ++ q ++ tl_ l k) := by
  rw [jn_at (l := l.set k q) (k := k) (by rw [List.length_set]; exact hk), tl_set l k q hk h, List.take_set_of_le (by omega)]
  have e : (l.set k q).getD k [] = q := by rw [List.getD_eq_getElem?_getD, List.getElem?_set_self hk]; rfl
  rw [e, entp, h]

/-- what stands ahead of a place stays found, whatever comes behind it. -/
theorem sc_front : ∀ (l : List (List UInt8)) (at_ : Nat) (tail : List UInt8) (m : Nat), okL l → m ≤ l.length → (∀ j, j < m → st l j + 4 + (l.getD j []).length ≤ at_) →
    ∃ rest, (sc ((jn l).take at_ ++ tail)).1 = l.take m ++ rest
  | _, _, _, 0, _, _, _ => ⟨_, rfl⟩
  | [], _, _, _ + 1, _, h, _ => absurd h (by simp)
  | p :: r, at_, tail, m + 1, h, hm, hj => by
    have h0 := h p List.mem_cons_self
    have hr : okL r := fun q hq => h q (List.mem_cons_of_mem _ hq)
    have h1 : 4 + p.length ≤ at_ := by have := hj 0 (by omega); simp [st] at this; omega
    have e : (jn (p :: r)).take at_ = entp p ++ ((jn (p :: r)).drop (4 + p.length)).take (at_ - (4 + p.length)) := by
      have e1 : jn (p :: r) = entp p ++ (jn (p :: r)).drop (4 + p.length) := by
        unfold jn
        rw [List.map_cons, jg, List.drop_left' (entp_length p)]
      have e2 := congrArg (List.take at_) e1
      rw [e2, List.take_append, entp_length, List.take_of_length_le (by rw [entp_length]; exact h1)]
    rw [e, List.append_assoc, sc_entp h0]
    by_cases hm0 : m = 0
    · subst hm0; exact ⟨_, rfl⟩
    · have hrn : r ≠ [] := by rintro rfl; simp at hm; omega
      have hd : (jn (p :: r)).drop (4 + p.length) = zer (pad4 p.length) ++ jn r := by
        unfold jn
        rw [List.map_cons, jg_cons (by simpa using hrn), List.drop_left' (entp_length p), pad_entp]
      have h2 : 4 + p.length + pad4 p.length ≤ at_ := by have := hj 1 (by omega); cases r <;> simp [st] at this <;> omega
      obtain ⟨rest, hrest⟩ := sc_front r (at_ - (4 + p.length + pad4 p.length)) tail m hr (by simpa using hm) (fun j hjm => by
        have := hj (j + 1) (by omega)
        rw [st, List.getD_cons_succ] at this
        omega)
      refine ⟨rest, ?_⟩
      have e3 : ((zer (pad4 p.length) ++ jn r).take (at_ - (4 + p.length)) ++ tail).drop (pad4 p.length) = (jn r).take (at_ - (4 + p.length + pad4 p.length)) ++ tail := by
        rw [List.take_append, zer_length, List.take_of_length_le (by rw [zer_length]; omega), List.append_assoc, List.drop_left' (zer_length _), Nat.sub_sub]
      rw [hd, e3, hrest]
      rfl
theorem sc_skip : ∀ (n : Nat) (Y : List UInt8), (∀ i, i < n → 4 ≤ (Y.drop (4 * i)).length ∧ hit (Y.drop (4 * i)) = false) → sc Y = ((sc (Y.drop (4 * n))).1, (sc (Y.drop (4 * n))).2 + n)
  | 0, _, _ => rfl
  | n + 1, Y, h => by
    obtain ⟨h1, h2⟩ := h 0 (by omega)
    rw [Nat.mul_zero, List.drop_zero] at h1 h2
    rw [sc_miss h1 h2, sc_skip n (Y.drop 4) fun i hi => by
      rw [List.drop_drop, show 4 + 4 * i = 4 * (i + 1) by omega]
      exact h (i + 1) (by omega)]
    rw [List.drop_drop, show 4 + 4 * n = 4 * (n + 1) by omega, Nat.add_assoc]
/-- a delimiter that is none any more: its piece is lost alone. -/
theorem sc_lost {l : List (List UInt8)} {k : Nat} (hl : okL l) (hk : k < l.length) (bad : List UInt8) (hb : bad.length = 4) (m : Nat)
    (hm : ∀ i, i < m → 4 * i < 4 + (l.getD k []).length ∧ 4 ≤ ((bad ++ (l.getD k [] ++ tl_ l k)).drop (4 * i)).length ∧ hit ((bad ++ (l.getD k [] ++ tl_ l k)).drop (4 * i)) = false)
    (hend : 4 + (l.getD k []).length ≤ 4 * m ∨ ((bad ++ (l.getD k [] ++ tl_ l k)).drop (4 * m)).length < 4) :
    sc (pj ((l.take k).map entp) ++ (bad ++ (l.getD k [] ++ tl_ l k))) = (l.take k ++ l.drop (k + 1), m) := by
  have hok : okP (l.getD k []) := hl _ (by rw [List.getD_eq_getElem?_getD, List.getElem?_eq_getElem hk]; exact List.getElem_mem hk)
  rw [sc_pj _ _ (fun p hp => hl p (List.mem_of_mem_take hp)), sc_skip m _ fun i hi => (hm i hi).2]
  generalize hp : l.getD k [] = p at *
  have hrest : okL (l.drop (k + 1)) := fun p hp => hl p (List.mem_of_mem_drop hp)
  have hpm := pad4_mod p.length
  have hpl := pad4_lt p.length
  have key : sc ((bad ++ (p ++ tl_ l k)).drop (4 * m)) = (l.drop (k + 1), 0) := by
    by_cases hr : l.drop (k + 1) = []
    · rw [hr]
      apply sc_short
      rcases hend with hend | hend
      · simp only [tl_, if_pos hr, List.append_nil, List.length_drop, List.length_append]
        omega
      · exact hend
    · have hjl : 5 ≤ (jn (l.drop (k + 1))).length := by
        cases hd : l.drop (k + 1) with
        | nil => exact absurd hd hr
        | cons q r =>
          have := (hrest q (by rw [hd]; exact List.mem_cons_self)).1
          unfold jn
          rw [List.map_cons, jg, List.length_append, entp_length]
          omega
      have hlen : (bad ++ (p ++ tl_ l k)).length = 4 + p.length + pad4 p.length + (jn (l.drop (k + 1))).length := by
        simp only [tl_, if_neg hr, hp, List.length_append, zer_length, hb]
        omega
      have h1 : 4 + p.length ≤ 4 * m := by
        rcases hend with hend | hend
        · exact hend
        · rw [List.length_drop, hlen] at hend; omega
      have h2 : 4 * m = 4 + p.length + pad4 p.length := by
        have := hm (m - 1) (by omega)
        omega
      have e : bad ++ (p ++ tl_ l k) = (bad ++ p ++ zer (pad4 p.length)) ++ jn (l.drop (k + 1)) := by
        simp only [tl_, if_neg hr, hp, List.append_assoc]
      rw [e, List.drop_left' (by rw [h2, List.length_append, List.length_append, zer_length, hb]), sc_jn _ hrest]
  rw [key, Nat.zero_add]
/-- what stops a list of pieces from being joined. -/
def pieE : List (List UInt8) → Int
  | [] => 0
  | p :: r => if p.length = 0 then 8 else if 2400 < p.length then 11 else pieE r
theorem pieE_ok : ∀ {l : List (List UInt8)}, pieE l = 0 ↔ okL l
  | [] => ⟨fun _ _ h => (by cases h), fun _ => rfl⟩
  | p :: r => by
    unfold pieE
    constructor
    · intro h
      split at h
      · cases h
      · split at h
        · cases h
        · intro q hq
          rcases List.mem_cons.1 hq with rfl | hq
          · exact ⟨by omega, by omega⟩
          · exact pieE_ok.1 h q hq
    · intro h
      have h0 := h p List.mem_cons_self
      rw [if_neg (by have := h0.1; omega), if_neg (by have := h0.2; omega)]
      exact pieE_ok.2 fun q hq => h q (List.mem_cons_of_mem _ hq)
def jnE (l : List (List UInt8)) : List UInt8 × Int :=
  if l.length = 0 then ([], 6) else if 64 < l.length then ([], 4) else if pieE l = 0 then (if 65535 < (jn l).length then ([], 11) else (jn l, 0)) else ([], pieE l)
theorem jnE_ok {l : List (List UInt8)} (h : (jnE l).2 = 0) : l ≠ [] ∧ l.length ≤ 64 ∧ okL l ∧ (jn l).length ≤ 65535 ∧ (jnE l).1 = jn l := by
  unfold jnE at h ⊢
  split at h
  · cases h
  · next h1 =>
    split at h
    · cases h
    · next h2 =>
      split at h
      · next h3 =>
        split at h
        · cases h
        · next h4 =>
          rw [if_neg h1, if_neg h2, if_pos h3, if_neg h4]
          exact ⟨fun e => h1 (by rw [e]; rfl), by omega, pieE_ok.1 h3, by omega, rfl⟩
      · next h3 => exact absurd h h3
theorem jnE_err {l : List (List UInt8)} (h : (jnE l).2 ≠ 0) : (jnE l).1 = [] := by
  unfold jnE at h ⊢
  split
  · rfl
  · split
    · rfl
    · split
      · split
        · rfl
        · next h1 h2 h3 h4 => rw [if_neg h1, if_neg h2, if_pos h3, if_neg h4] at h; exact absurd rfl h
      · rfl
end Go.Proofs.Ytdhbgolbfkejcaa
