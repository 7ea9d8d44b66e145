/-
  Arrays in own blocks, elements of own rows, calls of function values. No program is named here.
-/
import Derived.Test.YtlfghljgilmenaaLn
namespace Go.Hs
open Go Go.RowKit

theorem takeN_all : ∀ (cs : List Value), takeN 0 cs.length cs = some cs
  | [] => rfl
  | c :: cs => by simp only [List.length_cons, takeN, takeN_all cs]
theorem takeN_full {n : Nat} {cs : List Value} (h : cs.length = n) : takeN 0 n cs = some cs := h ▸ takeN_all cs
theorem putN_nil (cs : List Value) : putN 0 [] cs = some cs := by cases cs <;> rfl
theorem putN_all : ∀ (us cs : List Value), us.length = cs.length → putN 0 us cs = some us
  | [], [], _ => rfl
  | [], _ :: _, h => by simp at h
  | _ :: _, [], h => by simp at h
  | u :: us, c :: cs, h => by simp only [putN, putN_all us cs (by simpa using h)]
theorem putN_one : ∀ (i : Nat) (v : Value) (cs : List Value), i < cs.length → putN i [v] cs = some (cs.set i v)
  | _, _, [], h => by simp at h
  | 0, v, c :: cs, _ => by simp [putN, putN_nil]
  | i + 1, v, c :: cs, h => by simp only [putN, putN_one i v cs (by simpa using h), List.set_cons_succ]

section
variable {C : Ctx} {fr : Fr} {Γ Γ' Γ1 : List OA} {Φ : List SP}
  {d : Nat} {ty : TypeId} {pos : String} {aft : Array Edge} {g : Option (Nat × Bool)}

theorem R_idxArr {t e : TypeId} {x y : Operand} {b len i : Nat} {kd : IntKind} {ii : Int} (hx : evO fr x = some (.pointer (some ⟨b, 0, none⟩))) (hy : evO fr y = some (.int kd ii))
    (ht : C.P.underlying t = some (.array len e)) (hs : ∀ w, (sizeOf e).run C.P w = .ok 1 w) (hii : ii = (i : Int)) (hi : i < len) :
    Runs C fr Γ Φ ⟨some d, .indexAddr t x y, ty, pos, aft, g⟩ (.pointer (some ⟨b, i, none⟩)) := by
  subst hii
  refine Runs.pure fun a w ha hw => ?_
  have h2 : (i : Int) < (len : Int) := by omega
  simp [execOp, evO_sound ha hx, evO_sound ha hy, Instr.indexAt, asIntOf, run_underlying ht, Instr.sureAddr, hs, hi, Addr.add_lit]

/-- a store of one cell at some place of an own block. -/
theorem E_storeAt {t bt : TypeId} {x y : Operand} {b off : Nat} {cs : List Value} {v : Value} (hx : evO fr x = some (.pointer (some ⟨b, off, none⟩))) (hy : evO fr y = some v)
    (hp : Pick (.blk b bt cs) Γ Γ') (h1 : v.oneCell' = true) (hs : ∀ w, (sizeOf t).run C.P w = .ok 1 w) (hn : off < cs.length) :
    Effs C fr Γ Φ ⟨none, .store t x y, ty, pos, aft, g⟩ (X := Unit) (fun _ => True) (fun _ => undef) (fun _ => .blk b bt (cs.set off v) :: Γ') (fun _ => Φ) :=
  E_store (us := [v]) hx hy hp (CellsE.one (OneC.lit h1)) hs (Ones.cons (OneC.lit h1) Ones.nil) (putN_one off v cs hn)

/-- a whole block written over. -/
theorem E_storeAll {t bt : TypeId} {x y : Operand} {b : Nat} {cs us : List Value} (hx : evO fr x = some (.pointer (some ⟨b, 0, none⟩))) (hy : evO fr y = some (.agg us.toArray))
    (hp : Pick (.blk b bt cs) Γ Γ') (h1 : ∀ u ∈ us, u.oneCell' = true) (hs : ∀ w, (sizeOf t).run C.P w = .ok us.length w) (hn : us.length = cs.length) :
    Effs C fr Γ Φ ⟨none, .store t x y, ty, pos, aft, g⟩ (X := Unit) (fun _ => True) (fun _ => undef) (fun _ => .blk b bt us :: Γ') (fun _ => Φ) :=
  E_store (us := us) hx hy hp (fun _ _ _ => rfl) hs (fun u hu => OneC.lit (h1 u hu)) (putN_all us cs hn)

/-- an element's address in an own row. -/
theorem R_idxRow {t e rt : TypeId} {x y : Operand} {v : Value} {size n : Nat} {xs : List Value} {kd : IntKind} {ii : Int} {i : Nat} (hx : evO fr x = some v) (hy : evO fr y = some (.int kd ii)) (hp : Pick (.row v rt size n xs) Γ Γ')
    (ht : C.P.underlying t = some (.slice e)) (hs : ∀ w, (sizeOf e).run C.P w = .ok size w) (hii : ii = (i : Int)) (hi : i < n) :
    Runs C fr Γ Φ ⟨some d, .indexAddr t x y, ty, pos, aft, g⟩ (idxV size i v) := by
  subst hii
  refine Runs.pure fun a w ha hw => ?_
  have hown := (pick_holds hp hw).own.1
  rcases hown with ⟨hl, h2⟩
  rcases h2 with ⟨h2, _⟩ | ⟨b, cap, cur, hv, _, hb, hc, hm, hsz, htk⟩
  · omega
  · simp [execOp, evO_sound ha hx, evO_sound ha hy, hv, run_indexAt_some ht hs hi, idxV]

/-- a one-cell element of an own row is loaded. -/
theorem R_loadRow {t rt : TypeId} {x : Operand} {v u : Value} {n i : Nat} {xs : List Value} (hx : evO fr x = some (idxV 1 i v)) (hp : Pick (.row v rt 1 n xs) Γ Γ') (hagg : ∀ w, (isAgg t).run C.P w = .ok false w)
    (hi : i < n) (hc : xs[i]? = some u) : Runs C fr Γ Φ ⟨some d, .load t x, ty, pos, aft, g⟩ u := by
  refine Runs.pure fun a w ha hw => ?_
  have hown := (pick_holds hp hw).own.1
  rcases hown with ⟨hl, h2⟩
  rcases h2 with ⟨h2, _⟩ | ⟨b, cap, cur, hv, _, hb, hcc, hm, hsz, htk⟩
  · omega
  · subst hv
    have h0 : w.cell? ((⟨b, 0, none⟩ : Addr).add i) = some u := by
      rw [Addr.add_lit, Nat.zero_add]
      rw [← htk, List.getElem?_take_of_lt (by omega)] at hc
      simp only [World.cell?, hb]
      simpa using hc
    simp [execOp, evO_sound ha hx, idxV, Instr.loadAt, Instr.sureAddr, run_loadVar_one hagg h0]

/-- a one-cell element of an own row is written. -/
theorem E_storeRow {t rt : TypeId} {x y : Operand} {v u : Value} {n i : Nat} {xs : List Value} (hx : evO fr x = some (idxV 1 i v)) (hy : evO fr y = some u) (hp : Pick (.row v rt 1 n xs) Γ Γ') (h1 : u.oneCell' = true)
    (hs : ∀ w, (sizeOf t).run C.P w = .ok 1 w) (hi : i < n) :
    Effs C fr Γ Φ ⟨none, .store t x y, ty, pos, aft, g⟩ (X := Unit) (fun _ => True) (fun _ => undef) (fun _ => .row v rt 1 n (xs.set i u) :: Γ') (fun _ => Φ) := by
  refine ⟨fun _ => AllIn.refl _, fun R a w ha hw => ?_⟩
  have hw' := pick_holds (pick_app hp R) hw
  have hown := hw'.own.1
  rcases hown with ⟨hl, h2⟩
  rcases h2 with ⟨h2, _⟩ | ⟨b, cap, cur, hv, _, hb, hcc, hm, hsz, htk⟩
  · omega
  · subst hv
    have hu : u.cells = [u].toArray := by cases u <;> first | rfl | cases h1
    have hb' : w.heap[b]? = some (.cells cur.toList.toArray rt (0, 0)) := by simpa using hb
    have hst := run_storeVar_own (P := C.P) (w := w) (t := t) (us := [u]) (ds := cur.toList.set i u) (off := i) hb' hs hu (by simpa using h1) (putN_one i u cur.toList (by simp; omega))
    refine .skip (w' := w.setRow b (cur.toList.set i u).toArray) ?_ ⟨(), trivial, rfl, setRow_row hw' hb (by simp) ?_⟩
    · simp [execOp, evO_sound ha hx, evO_sound ha hy, Instr.storeAt, Instr.sureAddr, idxV, Addr.add_lit, hst]
    · rw [← htk]
      simp only [Nat.mul_one, List.take_set]

theorem R_min3 {x y z : Operand} {kd : IntKind} {a b c m : Int} {ts : Array TypeId} (hx : evO fr x = some (.int kd a)) (hy : evO fr y = some (.int kd b)) (hz : evO fr z = some (.int kd c))
    (hr : (if c < (if b < a then b else a) then c else (if b < a then b else a)) = m) : Runs C fr Γ Φ ⟨some d, .call { callee := .builtin .min, args := #[x, y, z], argTypes := ts }, ty, pos, aft, g⟩ (.int kd m) :=
  Runs.pure fun a' w ha _ => by
    subst hr
    simp [execOp, resolve, invoke, builtin, evO_sound ha hx, evO_sound ha hy, evO_sound ha hz, Builtin.min_, Builtin.min2]

end

section
variable {C : Ctx} {ops : Array Oper} {l : List Oper} {fr : Fr} {Γ Γ1 : List OA} {Φ : List SP} {Q : Exit → Act → World → Prop}
/-- nothing, told as an own row. -/
theorem Holds.nilRow {w : World} (t : TypeId) (size : Nat) (h : Holds C Γ Φ w) : Holds C (.row (.slice none 0 0) t size 0 [] :: Γ) Φ w := by
  have hf : ∀ k, ¬ (OA.row (.slice none 0 0) t size 0 []).fp k := fun k (e : (none : Option Nat) = some k) => by cases e
  refine h.move (Mod.refl _ _) ⟨⟨by simp, .inl ⟨rfl, rfl⟩⟩, fun k hk => (hf k hk).elim, h.own⟩ fun k _ hk => ?_
  rcases fpL_cons.1 hk with e | e
  · exact (hf k e).elim
  · exact e
theorem W_nilRow {c : Code} (t : TypeId) (size : Nat) (h : W C c fr (.row (.slice none 0 0) t size 0 [] :: Γ) Φ Q) : W C c fr Γ Φ Q := fun a w ha hw => h a w ha (hw.nilRow t size)
theorem WL_nilRow (t : TypeId) (size : Nat) (h : WL C ops l fr (.row (.slice none 0 0) t size 0 [] :: Γ) Φ Q) : WL C ops l fr Γ Φ Q := fun a w ha hw => h a w ha (hw.nilRow t size)
theorem WQ_nilRow {e : Exit} (t : TypeId) (size : Nat) (h : WQ C e fr (.row (.slice none 0 0) t size 0 [] :: Γ) Φ Q) : WQ C e fr Γ Φ Q := fun a w ha hw => h a w ha (hw.nilRow t size)

theorem W_letgo {c : Code} {v : Value} {t : TypeId} {size n : Nat} {xs : List Value} (hp : Pick (.row v t size n xs) Γ Γ1) (h : W C c fr Γ1 (Sl size v n xs :: Φ) Q) : W C c fr Γ Φ Q := fun a w ha hw => h a w ha (pick_holds hp hw).letgo
theorem WL_letgo {v : Value} {t : TypeId} {size n : Nat} {xs : List Value} (hp : Pick (.row v t size n xs) Γ Γ1) (h : WL C ops l fr Γ1 (Sl size v n xs :: Φ) Q) : WL C ops l fr Γ Φ Q := fun a w ha hw => h a w ha (pick_holds hp hw).letgo
theorem WQ_letgo {e : Exit} {v : Value} {t : TypeId} {size n : Nat} {xs : List Value} (hp : Pick (.row v t size n xs) Γ Γ1) (h : WQ C e fr Γ1 (Sl size v n xs :: Φ) Q) : WQ C e fr Γ Φ Q := fun a w ha hw => h a w ha (pick_holds hp hw).letgo
end

theorem ent_alI {Φ : List SP} {n : Nat} {ψ : Nat → SP} (h : ∀ i, i < n → Ent Φ (ψ i)) : Ent Φ (Al n ψ) := fun w O hw i hi => h i hi w O hw

section
variable {C : Ctx} {fr : Fr} {Γ Γ' : List OA} {Φ : List SP} {d : Nat} {ty : TypeId} {pos : String} {aft : Array Edge} {g : Option (Nat × Bool)}

theorem freeze_other (w : World) (b n k : Nat) (h : k ≠ b) : (w.freeze ⟨b, n, none⟩ 1).heap[k]? = w.heap[k]? := by
  unfold World.freeze
  rw [if_neg (by decide)]
  show (w.heap.modify b _)[k]? = _
  rw [Array.getElem?_modify, if_neg (fun e => h e.symm)]
theorem freeze_size (w : World) (b n : Nat) : (w.freeze ⟨b, n, none⟩ 1).heap.size = w.heap.size := by
  unfold World.freeze
  rw [if_neg (by decide)]
  show (w.heap.modify b _).size = _
  rw [Array.size_modify]
theorem freeze_at (w : World) (b n : Nat) (c : Array Value) (e : TypeId) (h : w.heap[b]? = some (.cells c e (0, 0))) : (w.freeze ⟨b, n, none⟩ 1).heap[b]? = some (.cells c e (n, n + 1)) := by
  unfold World.freeze
  rw [if_neg (by decide)]
  show (w.heap.modify b _)[b]? = _
  rw [Array.getElem?_modify, if_pos rfl, h]
  rfl

/-- the conversion of a literal's bytes to their own type: the row is told as lasting from now on. -/
theorem E_convB {t e rt : TypeId} {x : Operand} {v : Value} {n : Nat} {xs : List Value} {bs : List UInt8} (hx : evO fr x = some v) (hp : Pick (.row v rt 1 n xs) Γ Γ') (hxs : xs = bs.map bcell) (hn : 0 < n)
    (ht : C.P.underlying t = some (.slice e)) (he : C.P.underlying e = some (.int .u8)) :
    Effs C fr Γ Φ ⟨some d, .convert t t x, ty, pos, aft, g⟩ (X := Unit) (fun _ => True) (fun _ => v) (fun _ => Γ') (fun _ => By v bs :: Φ) := by
  subst hxs
  refine ⟨fun _ ψ hψ => List.mem_cons_of_mem _ hψ, fun R a w ha hw => ?_⟩
  have hw' := pick_holds (pick_app hp R) hw
  have hown := hw'.own.1
  obtain ⟨hl, h2⟩ := hown
  have hlen : n = bs.length := by simpa using hl.symm
  rcases h2 with ⟨h2, _⟩ | ⟨b, cap, cur, rfl, _, hb, hcc, hm, hsz, htk⟩
  · omega
  · have hother := fun k hk => freeze_other w b cur.size k hk
    have hat := freeze_at w b cur.size cur rt hb
    have hfp : ∀ k, (OA.row (.slice (some ⟨b, 0, none⟩) n cap) rt 1 n (bs.map bcell)).fp k ↔ k = b := fun k => by
      constructor
      · intro (e : some b = some k)
        injection e with e
        exact e.symm
      · intro e
        subst e
        exact (rfl : some k = some k)
    have hblt : b < w.heap.size := (Array.getElem?_eq_some_iff.1 hb).1
    have hnb : ¬ avo C.O0 (Γ' ++ R) b := by
      rintro (h | h)
      · have h1 := hw'.o0 b h
        rcases hw'.ofp b (fpL_cons.2 (.inl ((hfp b).2 rfl))) with h3 | h3
        · exact h1.2 h3
        · omega
      · exact hw'.own.2.1 b ((hfp b).2 rfl) h
    have hmv : Holds C (Γ' ++ R) Φ (w.freeze ⟨b, cur.size, none⟩ 1) := by
      refine hw'.move ⟨?_, ?_, ?_, by rw [freeze_size]; exact Nat.le_refl _, fun k _ hk => hother k fun e => hk (fpL_cons.2 (.inl ((hfp k).2 e)))⟩
        (hw'.own.2.2.keep fun k _ hk => hother k fun e => hw'.own.2.1 k ((hfp k).2 e) hk) fun k _ hk => fpL_cons.2 (.inr hk)
      · unfold World.freeze; rw [if_neg (by decide)]
      · unfold World.freeze; rw [if_neg (by decide)]
      · unfold World.freeze; rw [if_neg (by decide)]
    refine .val (v := .slice (some ⟨b, 0, none⟩) n cap) (w' := w.freeze ⟨b, cur.size, none⟩ 1) ?_ ⟨(), trivial, rfl, hmv.cons ?_⟩
    · have hsh : w.shape? b = some (rt, cur.size) := by
        unfold World.shape?
        rw [hb]
      simp [execOp, evO_sound ha hx, convert, run_underlying ht, run_underlying he, markStringish, hsh]
    · refine ⟨by simp, some ⟨b, 0, none⟩, cap, by rw [← hlen], by omega, hm, fun _ => ⟨_, rfl, by rw [freeze_size]; exact hblt, hnb, fun j u hu => ?_⟩⟩
      rw [Addr.add_lit, Nat.zero_add]
      have hj : j < n := by
        have := (List.getElem?_eq_some_iff.1 hu).1
        simp at this
        omega
      rw [← htk, Nat.mul_one, List.getElem?_take_of_lt hj] at hu
      simp only [World.cell?, hat]
      simpa using hu
end
end Go.Hs
