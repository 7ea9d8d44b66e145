/-
  Arrays in own blocks, elements of own rows, calls of function values. No program is named here.
-/
import Derived.Test.YtdgckeogpichfaaLn
namespace Go.Hs
open Go Go.RowKit

theorem takeN_all : ∀ (cs : List Value), takeN 0 cs.length cs = some cs
  | [] => rfl
  | c :: cs => by simp only [List.length_cons, takeN, takeN_all cs]
theorem takeN_full {n : Nat} {cs : List Value} (h : cs.length = n) : takeN 0 n cs = some cs := h ▸ takeN_all cs
theorem putN_nil (cs : List Value) : putN 0 [] cs = some cs := by cases cs <;> rfl
theorem putN_all : ∀ (us cs : List Value), us.length = cs.length → putN 0 us cs = some us
  | [], [], _ => rfl
  | [], _ :: _, h => by simp at h
  | _ :: _, [], h => by simp at h
  | u :: us, c :: cs, h => by simp only [putN, putN_all us cs (by simpa using h)]
theorem putN_one : ∀ (i : Nat) (v : Value) (cs : List Value), i < cs.length → putN i [v] cs = some (cs.set i v)
  | _, _, [], h => by simp at h
  | 0, v, c :: cs, _ => by simp [putN, putN_nil]
  | i + 1, v, c :: cs, h => by simp only [putN, putN_one i v cs (by simpa using h), List.set_cons_succ]

section
variable {C : Ctx} {fr : Fr} {Γ Γ' Γ1 : List OA} {Φ : List SP}
  {d : Nat} {ty : TypeId} {pos : String} {aft : Array Edge} {g : Option (Nat × Bool)}

theorem R_idxArr {t e : TypeId} {x y : Operand} {b len i : Nat} {kd : IntKind} {ii : Int} (hx : evO fr x = some (.pointer (some ⟨b, 0, none⟩))) (hy : evO fr y = some (.int kd ii))
    (ht : C.P.underlying t = some (.array len e)) (hs : ∀ w, (sizeOf e).run C.P w = .ok 1 w) (hii : ii = (i : Int)) (hi : i < len) :
    Runs C fr Γ Φ ⟨some d, .indexAddr t x y, ty, pos, aft, g⟩ (.pointer (some ⟨b, i, none⟩)) := by
  subst hii
  refine Runs.pure fun a w ha hw => ?_
  have h2 : (i : Int) < (len : Int) := by omega
  simp [execOp, evO_sound ha hx, evO_sound ha hy, Instr.indexAt, asIntOf, run_underlying ht, Instr.sureAddr, hs, hi, Addr.add_lit]

/-- a store of one cell at some place of an own block. -/
theorem E_storeAt {t bt : TypeId} {x y : Operand} {b off : Nat} {cs : List Value} {v : Value} (hx : evO fr x = some (.pointer (some ⟨b, off, none⟩))) (hy : evO fr y = some v)
    (hp : Pick (.blk b bt cs) Γ Γ') (h1 : v.oneCell' = true) (hs : ∀ w, (sizeOf t).run C.P w = .ok 1 w) (hn : off < cs.length) :
    Effs C fr Γ Φ ⟨none, .store t x y, ty, pos, aft, g⟩ (X := Unit) (fun _ => True) (fun _ => undef) (fun _ => .blk b bt (cs.set off v) :: Γ') (fun _ => Φ) :=
  E_store (us := [v]) hx hy hp (CellsE.one (OneC.lit h1)) hs (Ones.cons (OneC.lit h1) Ones.nil) (putN_one off v cs hn)

/-- a whole block written over. -/
theorem E_storeAll {t bt : TypeId} {x y : Operand} {b : Nat} {cs us : List Value} (hx : evO fr x = some (.pointer (some ⟨b, 0, none⟩))) (hy : evO fr y = some (.agg us.toArray))
    (hp : Pick (.blk b bt cs) Γ Γ') (h1 : ∀ u ∈ us, u.oneCell' = true) (hs : ∀ w, (sizeOf t).run C.P w = .ok us.length w) (hn : us.length = cs.length) :
    Effs C fr Γ Φ ⟨none, .store t x y, ty, pos, aft, g⟩ (X := Unit) (fun _ => True) (fun _ => undef) (fun _ => .blk b bt us :: Γ') (fun _ => Φ) :=
  E_store (us := us) hx hy hp (fun _ _ _ => rfl) hs (fun u hu => OneC.lit (h1 u hu)) (putN_all us cs hn)

/-- an element's address in an own row. -/
theorem R_idxRow {t e rt : TypeId} {x y : Operand} {v : Value} {size n : Nat} {xs : List Value} {kd : IntKind} {ii : Int} {i : Nat} (hx : evO fr x = some v) (hy : evO fr y = some (.int kd ii)) (hp : Pick (.row v rt size n xs) Γ Γ')
    (ht : C.P.underlying t = some (.slice e)) (hs : ∀ w, (sizeOf e).run C.P w = .ok size w) (hii : ii = (i : Int)) (hi : i < n) :
    Runs C fr Γ Φ ⟨some d, .indexAddr t x y, ty, pos, aft, g⟩ (idxV size i v) := by
  subst hii
  refine Runs.pure fun a w ha hw => ?_
  have hown := (pick_holds hp hw).own.1
  rcases hown with ⟨hl, h2⟩
  rcases h2 with ⟨h2, _⟩ | ⟨b, cap, cur, hv, _, hb, hc, hm, hsz, htk⟩
  · omega
  · simp [execOp, evO_sound ha hx, evO_sound ha hy, hv, run_indexAt_some ht hs hi, idxV]

/-- a one-cell element of an own row is loaded. -/
theorem R_loadRow {t rt : TypeId} {x : Operand} {v u : Value} {n i : Nat} {xs : List Value} (hx : evO fr x = some (idxV 1 i v)) (hp : Pick (.row v rt 1 n xs) Γ Γ') (hagg : ∀ w, (isAgg t).run C.P w = .ok false w)
    (hi : i < n) (hc : xs[i]? = some u) : Runs C fr Γ Φ ⟨some d, .load t x, ty, pos, aft, g⟩ u := by
  refine Runs.pure fun a w ha hw => ?_
  have hown := (pick_holds hp hw).own.1
  rcases hown with ⟨hl, h2⟩
  rcases h2 with ⟨h2, _⟩ | ⟨b, cap, cur, hv, _, hb, hcc, hm, hsz, htk⟩
  · omega
  · subst hv
    have h0 : w.cell? ((⟨b, 0, none⟩ : Addr).add i) = some u := by
      rw [Addr.add_lit, Nat.zero_add]
      rw [← htk, List.getElem?_take_of_lt (by omega)] at hc
      simp only [World.cell?, hb]
      simpa using hc
    simp [execOp, evO_sound ha hx, idxV, Instr.loadAt, Instr.sureAddr, run_loadVar_one hagg h0]

/-- a one-cell element of an own row is written. -/
theorem E_storeRow {t rt : TypeId} {x y : Operand} {v u : Value} {n i : Nat} {xs : List Value} (hx : evO fr x = some (idxV 1 i v)) (hy : evO fr y = some u) (hp : Pick (.row v rt 1 n xs) Γ Γ') (h1 : u.oneCell' = true)
    (hs : ∀ w, (sizeOf t).run C.P w = .ok 1 w) (hi : i < n) :
    Effs C fr Γ Φ ⟨none, .store t x y, ty, pos, aft, g⟩ (X := Unit) (fun _ => True) (fun _ => undef) (fun _ => .row v rt 1 n (xs.set i u) :: Γ') (fun _ => Φ) := by
  refine ⟨fun _ => AllIn.refl _, fun R a w ha hw => ?_⟩
  have hw' := pick_holds (pick_app hp R) hw
  have hown := hw'.own.1
  rcases hown with ⟨hl, h2⟩
  rcases h2 with ⟨h2, _⟩ | ⟨b, cap, cur, hv, _, hb, hcc, hm, hsz, htk⟩
  · omega
  · subst hv
    have hu : u.cells = [u].toArray := by cases u <;> first | rfl | cases h1
    have hb' : w.heap[b]? = some (.cells cur.toList.toArray rt (0, 0)) := by simpa using hb
    have hst := run_storeVar_own (P := C.P) (w := w) (t := t) (us := [u]) (ds := cur.toList.set i u) (off := i) hb' hs hu (by simpa using h1) (putN_one i u cur.toList (by simp; omega))
    refine .skip (w' := w.setRow b (cur.toList.set i u).toArray) ?_ ⟨(), trivial, rfl, setRow_row hw' hb (by simp) ?_⟩
    · simp [execOp, evO_sound ha hx, evO_sound ha hy, Instr.storeAt, Instr.sureAddr, idxV, Addr.add_lit, hst]
    · rw [← htk]
      simp only [Nat.mul_one, List.take_set]

theorem R_min3 {x y z : Operand} {kd : IntKind} {a b c m : Int} {ts : Array TypeId} (hx : evO fr x = some (.int kd a)) (hy : evO fr y = some (.int kd b)) (hz : evO fr z = some (.int kd c))
    (hr : (if c < (if b < a then b else a) then c else (if b < a then b else a)) = m) : Runs C fr Γ Φ ⟨some d, .call { callee := .builtin .min, args := #[x, y, z], argTypes := ts }, ty, pos, aft, g⟩ (.int kd m) :=
  Runs.pure fun a' w ha _ => by
    subst hr
    simp [execOp, resolve, invoke, builtin, evO_sound ha hx, evO_sound ha hy, evO_sound ha hz, Builtin.min_, Builtin.min2]

end

section
variable {C : Ctx} {ops : Array Oper} {l : List Oper} {fr : Fr} {Γ Γ1 : List OA} {Φ : List SP} {Q : Exit → Act → World → Prop}
/-- nothing, told as an own row. -/
theorem Holds.nilRow {w : World} (t : TypeId) (size : Nat) (h : Holds C Γ Φ w) : Holds C (.row (.slice none 0 0) t size 0 [] :: Γ) Φ w := by
  have hf : ∀ k, ¬ (OA.row (.slice none 0 0) t size 0 []).fp k := fun k (e : (none : Option Nat) = some k) => by cases e
  refine h.move (Mod.refl _ _) ⟨⟨by simp, .inl ⟨rfl, rfl⟩⟩, fun k hk => (hf k hk).elim, h.own⟩ fun k _ hk => ?_
  rcases fpL_cons.1 hk with e | e
  · exact (hf k e).elim
  · exact e
theorem W_nilRow {c : Code} (t : TypeId) (size : Nat) (h : W C c fr (.row (.slice none 0 0) t size 0 [] :: Γ) Φ Q) : W C c fr Γ Φ Q := fun a w ha hw => h a w ha (hw.nilRow t size)
theorem WL_nilRow (t : TypeId) (size : Nat) (h : WL C ops l fr (.row (.slice none 0 0) t size 0 [] :: Γ) Φ Q) : WL C ops l fr Γ Φ Q := fun a w ha hw => h a w ha (hw.nilRow t size)
theorem WQ_nilRow {e : Exit} (t : TypeId) (size : Nat) (h : WQ C e fr (.row (.slice none 0 0) t size 0 [] :: Γ) Φ Q) : WQ C e fr Γ Φ Q := fun a w ha hw => h a w ha (hw.nilRow t size)

theorem W_letgo {c : Code} {v : Value} {t : TypeId} {size n : Nat} {xs : List Value} (hp : Pick (.row v t size n xs) Γ Γ1) (h : W C c fr Γ1 (Sl size v n xs :: Φ) Q) : W C c fr Γ Φ Q := fun a w ha hw => h a w ha (pick_holds hp hw).letgo
theorem WL_letgo {v : Value} {t : TypeId} {size n : Nat} {xs : List Value} (hp : Pick (.row v t size n xs) Γ Γ1) (h : WL C ops l fr Γ1 (Sl size v n xs :: Φ) Q) : WL C ops l fr Γ Φ Q := fun a w ha hw => h a w ha (pick_holds hp hw).letgo
theorem WQ_letgo {e : Exit} {v : Value} {t : TypeId} {size n : Nat} {xs : List Value} (hp : Pick (.row v t size n xs) Γ Γ1) (h : WQ C e fr Γ1 (Sl size v n xs :: Φ) Q) : WQ C e fr Γ Φ Q := fun a w ha hw => h a w ha (pick_holds hp hw).letgo
end
end Go.Hs
