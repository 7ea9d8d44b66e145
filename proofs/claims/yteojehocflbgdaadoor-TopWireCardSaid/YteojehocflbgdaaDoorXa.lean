/-
  Rules for walks, merged.
-/
import Derived.WalkKit
import Derived.WalkSpells
import Derived.WalkLawsBesides
import Derived.Maps.AppendAt
import Derived.TacticsIn
import Derived.OrdersIn
import Derived.RangeFuncRecord
import Derived.Laws.CopyRow
import Derived.Laws.IdiomCopy
/-
  A small program logic over the model's 'Code.wp': symbolic frames that know some slots, own blocks of memory, and facts that last while
  what is not owned stays as it is. No program is named here.
-/
namespace Go.Hs
open Go Go.RowKit

/-- what a walk takes for granted: the program, the number of slots, the memory at the call's begin, what is not to be touched, what may be turned; within which round of a range over a function; what the activation has deferred. -/
structure Ctx where
  P : Program
  n : Nat
  w0 : World
  O0 : Nat → Prop
  M : Nat → Prop
  rd : Option Nat
  ds : List Deferred

def fenceOf : Option Nat → Fence
  | none => Fence.wide
  | some l => Fence.wide.inRound l
theorem fenceOf_fn (r : Option Nat) (f : FuncId) : (fenceOf r).fn f := by cases r <;> trivial
theorem fenceOf_depth (r : Option Nat) : (fenceOf r).depth.isSome = true → 1 ≤ 0 := by cases r <;> intro h <;> cases h
theorem fenceOf_round (r : Option Nat) : (fenceOf r).round = r := by cases r <;> rfl
theorem fenceOf_calls {r : Option Nat} {P : Program} {f : FuncId} {args : Array Value} {w : World} {R : Ending → World → Prop} (h : Calls P f args w R) : CallsIn (fenceOf r) 0 P f args w R := by
  have h' := (callsIn_wide (n := 0)).2 h
  cases r
  · exact h'
  · exact h'

-- ===== frames =====

abbrev Fr := List (Nat × Value)

def fget : List (Nat × Value) → Nat → Option Value
  | [], _ => none
  | (k, v) :: r, t => bif Nat.beq k t then some v else fget r t

def fok (C : Ctx) (fr : Fr) (a : Act) : Prop :=
  a.defers = C.ds ∧ a.tmps.size = C.n ∧ ∀ t v, fget fr t = some v → a.tmps.getD t undef = v

theorem fget_cons (k : Nat) (v : Value) (r : Fr) (t : Nat) : fget ((k, v) :: r) t = if k = t then some v else fget r t := by
  show (bif Nat.beq k t then some v else fget r t) = _
  by_cases h : k = t
  · subst h; simp
  · have : Nat.beq k t = false := by
      cases hb : Nat.beq k t
      · rfl
      · exact absurd (Nat.eq_of_beq_eq_true hb) h
    simp [this, h]

theorem fok.put {C : Ctx} {fr : Fr} {a : Act} {d : Nat} {v : Value} (h : fok C fr a) (hd : d < C.n) : fok C ((d, v) :: fr) (a.put (some d) v) := by
  obtain ⟨h1, h2, h3⟩ := h
  refine ⟨h1, by simp [Act.put, h2], fun t u hu => ?_⟩
  rw [fget_cons] at hu
  by_cases e : d = t
  · subst e
    simp at hu; subst hu
    simp [Act.put, Array.getD, h2, hd]
  · rw [if_neg e] at hu
    have h4 := h3 t u hu
    rw [← h4]
    have he : (a.tmps.setIfInBounds d v)[t]? = a.tmps[t]? := by rw [Array.getElem?_setIfInBounds_ne e]
    simp [Act.put, he]

def evO (fr : Fr) : Operand → Option Value
  | .tmp t => fget fr t
  | .const v => some v
  | .global g => some (.pointer (some ⟨g, 0, none⟩))
  | .func f => some (.func (.func f) #[] #[])

theorem evO_sound {C : Ctx} {fr : Fr} {a : Act} (h : fok C fr a) {x : Operand} {v : Value} (hx : evO fr x = some v) : a.eval x = v := by
  cases x with
  | tmp t => exact h.2.2 t v hx
  | const u => injection hx
  | global g => injection hx
  | func f => injection hx

def evOs (fr : Fr) : List Operand → Option (List Value)
  | [] => some []
  | x :: r => match evO fr x, evOs fr r with
    | some v, some vs => some (v :: vs)
    | _, _ => none

theorem evOs_sound {C : Ctx} {fr : Fr} {a : Act} (h : fok C fr a) : ∀ {xs : List Operand} {vs : List Value}, evOs fr xs = some vs → xs.map a.eval = vs
  | [], vs, hx => by cases hx; rfl
  | x :: r, vs, hx => by
    simp only [evOs] at hx
    cases h1 : evO fr x with
    | none => rw [h1] at hx; cases hx
    | some v =>
      cases h2 : evOs fr r with
      | none => rw [h1, h2] at hx; cases hx
      | some us =>
        rw [h1, h2] at hx
        injection hx with hx
        subst hx
        simp [evO_sound h h1, evOs_sound h h2]

def evPs (fr : Fr) : List (Nat × Operand) → Option (List (Nat × Value))
  | [] => some []
  | (i, x) :: r => match evO fr x, evPs fr r with
    | some v, some vs => some ((i, v) :: vs)
    | _, _ => none

theorem evPs_sound' {C : Ctx} {fr : Fr} {a : Act} (h : fok C fr a) : ∀ {xs : List (Nat × Operand)} {vs : List (Nat × Value)}, evPs fr xs = some vs → xs.map (fun p => (p.1, a.eval p.2)) = vs
  | [], vs, hx => by cases hx; rfl
  | (i, x) :: r, vs, hx => by
    simp only [evPs] at hx
    cases h1 : evO fr x with
    | none => rw [h1] at hx; cases hx
    | some v =>
      cases h2 : evPs fr r with
      | none => rw [h1, h2] at hx; cases hx
      | some us =>
        rw [h1, h2] at hx
        injection hx with hx
        subst hx
        simp only [List.map_cons, evO_sound h h1, evPs_sound' h h2]

theorem evPs_sound {C : Ctx} {fr : Fr} {a : Act} (h : fok C fr a) {xs : Array (Nat × Operand)} {vs : List (Nat × Value)} (hx : evPs fr xs.toList = some vs) : xs.map (fun p => match p with | (i, x) => (i, a.eval x)) = vs.toArray := by
  have := evPs_sound' h hx
  apply Array.ext'
  simpa using this

def putFr (dst : Option Tmp) (v : Value) (fr : Fr) : Fr :=
  match dst with
  | some d => (d, v) :: fr
  | none => fr

def dstOk (dst : Option Tmp) (n : Nat) : Bool :=
  match dst with
  | some d => Nat.blt d n
  | none => true

theorem fok.putd {C : Ctx} {fr : Fr} {a : Act} {dst : Option Tmp} {v : Value} (h : fok C fr a) (hd : dstOk dst C.n = true) : fok C (putFr dst v fr) (a.put dst v) := by
  cases dst with
  | none => exact h
  | some d => exact h.put (Nat.lt_of_lt_of_le (Nat.lt_succ_self d) (Nat.le_of_ble_eq_true hd))

/-- what a guard says: 'some true': the operation runs; 'some false': it is passed over. -/
def gv (ops : Array Oper) (fr : Fr) (g : Option (Nat × Bool)) : Option Bool :=
  match g with
  | none => some true
  | some (j, want) =>
    match ops[j]? with
    | some o' => match o'.dst with
      | some d => match fget fr d with
        | some (.bool b) => some (b == want)
        | some (.tuple _) => some false
        | _ => none
      | none => none
    | none => none

-- ===== memory =====

structure Mod (O : Nat → Prop) (w w' : World) : Prop where
  os : w'.os = w.os
  tape : w'.tape = w.tape
  output : w'.output = w.output
  size : w.heap.size ≤ w'.heap.size
  block : ∀ k, k < w.heap.size → ¬ O k → w'.heap[k]? = w.heap[k]?

theorem Mod.refl (O : Nat → Prop) (w : World) : Mod O w w := ⟨rfl, rfl, rfl, Nat.le_refl _, fun _ _ _ => rfl⟩

theorem Mod.trans {O : Nat → Prop} {a b c : World} (h : Mod O a b) (k : Mod O b c) : Mod O a c :=
  ⟨k.os.trans h.os, k.tape.trans h.tape, k.output.trans h.output, Nat.le_trans h.size k.size,
    fun i hi ho => (k.block i (Nat.lt_of_lt_of_le hi h.size) ho).trans (h.block i hi ho)⟩

theorem Mod.mono {O O' : Nat → Prop} {a b : World} (h : Mod O a b) (ho : ∀ k, k < a.heap.size → O k → O' k) : Mod O' a b :=
  ⟨h.os, h.tape, h.output, h.size, fun i hi hn => h.block i hi (fun x => hn (ho i hi x))⟩

theorem Mod.alloc (O : Nat → Prop) (w : World) (o : Obj) : Mod O w (w.alloc o) :=
  ⟨rfl, rfl, rfl, by simp, fun _ hk _ => heap_alloc_old w o hk⟩

theorem Mod.drew (O : Nat → Prop) (w : World) : Mod O w w.drew := ⟨rfl, rfl, rfl, Nat.le_refl _, fun _ _ _ => rfl⟩

theorem Mod.grown {O : Nat → Prop} {w w' : World} {row : Option Nat} (h : w.grownBy w' row) (hr : ∀ k, row = some k → O k) : Mod O w w' :=
  ⟨h.os, h.tape, h.output, h.size, fun k hk hn => h.block k hk (fun e => hn (hr k e.symm))⟩

/-- A fact on memory that lasts while the blocks that are not owned stay as they are. -/
structure SP where
  p : World → (Nat → Prop) → Prop
  st : ∀ {w w' : World} {O O' : Nat → Prop}, p w O → Mod O w w' → (∀ k, k < w.heap.size → O' k → O k) → p w' O'

/-- something owned of which no more is known than which blocks it is, and what is said of them. -/
structure AbsO where
  fp : Nat → Prop
  holds : World → Prop
  lt : ∀ {w : World}, holds w → ∀ {k : Nat}, fp k → k < w.heap.size
  keep : ∀ {w w' : World}, holds w → (∀ k, k < w.heap.size → fp k → w'.heap[k]? = w.heap[k]?) → holds w'

/-- What is owned: a block that is known whole; a row that grows. -/
inductive OA where
  | blk (b : Nat) (t : TypeId) (cs : List Value)
  | row (v : Value) (t : TypeId) (size n : Nat) (xs : List Value)
  | abs (a : AbsO)

def OA.fp : OA → Nat → Prop
  | .blk b _ _, k => k = b
  | .row v _ _ _ _, k => v.ownBlock = some k
  | .abs a, k => a.fp k

def OA.holds : OA → World → Prop
  | .blk b t cs, w => w.heap[b]? = some (.cells cs.toArray t (0, 0))
  | .row v t size n xs, w => w.ownsRow 0 t size v n xs
  | .abs a, w => a.holds w

theorem OA.lt {x : OA} {w : World} (h : x.holds w) {k : Nat} (hk : x.fp k) : k < w.heap.size := by
  cases x with
  | blk b t cs =>
    have hk : k = b := hk
    subst hk
    exact (Array.getElem?_eq_some_iff.1 h).1
  | row v t size n xs => exact (World.ownsRow.lt h k hk).2
  | abs a => exact a.lt h hk

theorem OA.keep {x : OA} {w w' : World} (h : x.holds w) (hk : ∀ k, k < w.heap.size → x.fp k → w'.heap[k]? = w.heap[k]?) : x.holds w' := by
  cases x with
  | blk b t cs => exact (hk b (OA.lt (x := .blk b t cs) h rfl) rfl).trans h
  | row v t size n xs =>
    obtain ⟨h1, h2⟩ := h
    refine ⟨h1, ?_⟩
    rcases h2 with h2 | ⟨g, cap, cur, hv, hg, hh, r⟩
    · exact .inl h2
    · have hlt := (Array.getElem?_eq_some_iff.1 hh).1
      exact .inr ⟨g, cap, cur, hv, hg, by rw [hk g hlt (by subst hv; rfl)]; exact hh, r⟩
  | abs a => exact a.keep h hk

def fpL (Γ : List OA) (k : Nat) : Prop := ∃ x, x ∈ Γ ∧ x.fp k

theorem fpL_cons {x : OA} {Γ : List OA} {k : Nat} : fpL (x :: Γ) k ↔ x.fp k ∨ fpL Γ k := by
  constructor
  · rintro ⟨y, hy, hk⟩
    rcases List.mem_cons.1 hy with rfl | hy
    · exact .inl hk
    · exact .inr ⟨y, hy, hk⟩
  · rintro (h | ⟨y, hy, hk⟩)
    · exact ⟨x, List.mem_cons_self, h⟩
    · exact ⟨y, List.mem_cons_of_mem _ hy, hk⟩

def Own : List OA → World → Prop
  | [], _ => True
  | x :: r, w => x.holds w ∧ (∀ k, x.fp k → ¬ fpL r k) ∧ Own r w

theorem Own.lt : ∀ {Γ : List OA} {w : World}, Own Γ w → ∀ {k : Nat}, fpL Γ k → k < w.heap.size
  | [], _, _, _, ⟨_, hx, _⟩ => by cases hx
  | x :: r, w, h, k, hk => by
    rcases fpL_cons.1 hk with hk | hk
    · exact OA.lt h.1 hk
    · exact Own.lt h.2.2 hk

theorem Own.keep : ∀ {Γ : List OA} {w w' : World}, Own Γ w → (∀ k, k < w.heap.size → fpL Γ k → w'.heap[k]? = w.heap[k]?) → Own Γ w'
  | [], _, _, _, _ => trivial
  | _ :: _, _, _, h, hk => ⟨OA.keep h.1 fun k h1 h2 => hk k h1 (fpL_cons.2 (.inl h2)), h.2.1, Own.keep h.2.2 fun k h1 h2 => hk k h1 (fpL_cons.2 (.inr h2))⟩

theorem fpL_perm {Γ Γ' : List OA} (h : Γ.Perm Γ') (k : Nat) : fpL Γ k ↔ fpL Γ' k :=
  ⟨fun ⟨x, hx, hk⟩ => ⟨x, h.mem_iff.1 hx, hk⟩, fun ⟨x, hx, hk⟩ => ⟨x, h.mem_iff.2 hx, hk⟩⟩

theorem Own.perm {Γ Γ' : List OA} (h : Γ.Perm Γ') {w : World} (ho : Own Γ w) : Own Γ' w := by
  induction h with
  | nil => exact ho
  | cons x p ih => exact ⟨ho.1, fun k hk hn => ho.2.1 k hk ((fpL_perm p k).2 hn), ih ho.2.2⟩
  | swap x y l =>
    obtain ⟨h1, h2, h3, h4, h5⟩ := ho
    refine ⟨h3, fun k hk hn => ?_, h1, fun k hk hn => h2 k hk (fpL_cons.2 (.inr hn)), h5⟩
    rcases fpL_cons.1 hn with hn | hn
    · exact h2 k hn (fpL_cons.2 (.inl hk))
    · exact h4 k hk hn
  | trans _ _ ih1 ih2 => exact ih2 (ih1 ho)

theorem fpL_append {Γ Δ : List OA} {k : Nat} : fpL (Γ ++ Δ) k ↔ fpL Γ k ∨ fpL Δ k := by
  constructor
  · rintro ⟨x, hx, hk⟩
    rcases List.mem_append.1 hx with hx | hx
    · exact .inl ⟨x, hx, hk⟩
    · exact .inr ⟨x, hx, hk⟩
  · rintro (⟨x, hx, hk⟩ | ⟨x, hx, hk⟩)
    · exact ⟨x, List.mem_append.2 (.inl hx), hk⟩
    · exact ⟨x, List.mem_append.2 (.inr hx), hk⟩

theorem Own.append : ∀ {Γ Δ : List OA} {w : World}, Own (Γ ++ Δ) w ↔ Own Γ w ∧ Own Δ w ∧ ∀ k, fpL Γ k → ¬ fpL Δ k
  | [], Δ, w => ⟨fun h => ⟨trivial, h, fun _ ⟨_, hx, _⟩ => by cases hx⟩, fun h => h.2.1⟩
  | x :: Γ, Δ, w => by
    show (x.holds w ∧ (∀ k, x.fp k → ¬ fpL (Γ ++ Δ) k) ∧ Own (Γ ++ Δ) w) ↔ _
    rw [Own.append]
    constructor
    · rintro ⟨h1, h2, h3, h4, h5⟩
      refine ⟨⟨h1, fun k hk hn => h2 k hk (fpL_append.2 (.inl hn)), h3⟩, h4, fun k hk hn => ?_⟩
      rcases fpL_cons.1 hk with hk | hk
      · exact h2 k hk (fpL_append.2 (.inr hn))
      · exact h5 k hk hn
    · rintro ⟨⟨h1, h2, h3⟩, h4, h5⟩
      refine ⟨h1, fun k hk hn => ?_, h3, h4, fun k hk hn => h5 k (fpL_cons.2 (.inr hk)) hn⟩
      rcases fpL_append.1 hn with hn | hn
      · exact h2 k hk hn
      · exact h5 k (fpL_cons.2 (.inl hk)) hn

def avo (O0 : Nat → Prop) (Γ : List OA) (k : Nat) : Prop := O0 k ∨ fpL Γ k

structure Holds (C : Ctx) (Γ : List OA) (Φ : List SP) (w : World) : Prop where
  mod : Mod C.M C.w0 w
  own : Own Γ w
  ofp : ∀ k, fpL Γ k → C.M k ∨ C.w0.heap.size ≤ k
  o0 : ∀ k, C.O0 k → k < C.w0.heap.size ∧ ¬ C.M k
  sp : ∀ ψ ∈ Φ, ψ.p w (avo C.O0 Γ)

/-- one move of memory: what is not owned stays; what is owned behind it is owned before it, or new. -/
theorem Holds.move {C : Ctx} {Γ Γ' : List OA} {Φ : List SP} {w w' : World} (h : Holds C Γ Φ w) (hm : Mod (fpL Γ) w w') (ho : Own Γ' w')
    (hf : ∀ k, k < w.heap.size → fpL Γ' k → fpL Γ k) : Holds C Γ' Φ w' where
  mod := ⟨hm.os.trans h.mod.os, hm.tape.trans h.mod.tape, hm.output.trans h.mod.output, Nat.le_trans h.mod.size hm.size, fun k hk hn =>
    (hm.block k (Nat.lt_of_lt_of_le hk h.mod.size) (fun hg => (h.ofp k hg).elim hn (fun h2 => by omega))).trans (h.mod.block k hk hn)⟩
  own := ho
  ofp := fun k hk => by
    rcases Nat.lt_or_ge k w.heap.size with hlt | hge
    · exact h.ofp k (hf k hlt hk)
    · exact .inr (Nat.le_trans h.mod.size hge)
  o0 := h.o0
  sp := fun ψ hψ => ψ.st (h.sp ψ hψ) (hm.mono fun k _ hk => .inr hk) fun k hk hk' => by
    rcases hk' with hk' | hk'
    · exact .inl hk'
    · exact .inr (hf k hk hk')

theorem Holds.cons {C : Ctx} {Γ : List OA} {Φ : List SP} {w : World} (h : Holds C Γ Φ w) {ψ : SP} (hψ : ψ.p w (avo C.O0 Γ)) : Holds C Γ (ψ :: Φ) w :=
  ⟨h.mod, h.own, h.ofp, h.o0, fun χ hχ => by
    rcases List.mem_cons.1 hχ with rfl | hχ
    · exact hψ
    · exact h.sp χ hχ⟩

theorem Holds.perm {C : Ctx} {Γ Γ' : List OA} {Φ : List SP} {w : World} (h : Holds C Γ Φ w) (hp : Γ.Perm Γ') : Holds C Γ' Φ w :=
  h.move (Mod.refl _ w) (h.own.perm hp) fun k _ hk => (fpL_perm hp k).2 hk

theorem Holds.drop {C : Ctx} {x : OA} {Γ : List OA} {Φ : List SP} {w : World} (h : Holds C (x :: Γ) Φ w) : Holds C Γ Φ w :=
  h.move (Mod.refl _ w) h.own.2.2 fun _ _ hk => fpL_cons.2 (.inr hk)

theorem Holds.sub {C : Ctx} {Γ : List OA} {Φ Ψ : List SP} {w : World} (h : Holds C Γ Φ w) (hs : ∀ ψ ∈ Ψ, ψ ∈ Φ) : Holds C Γ Ψ w :=
  ⟨h.mod, h.own, h.ofp, h.o0, fun ψ hψ => h.sp ψ (hs ψ hψ)⟩

/-- a new block. -/
theorem Holds.alloc {C : Ctx} {Γ : List OA} {Φ : List SP} {w : World} (h : Holds C Γ Φ w) (t : TypeId) (cs : Array Value) :
    Holds C (.blk w.heap.size t cs.toList :: Γ) Φ (w.alloc (.cells cs t)) := by
  refine h.move (Mod.alloc _ w _) ⟨?_, fun k hk hn => ?_, h.own.keep fun _ hk _ => heap_alloc_old w _ hk⟩ fun k hk hk' => ?_
  · show (w.alloc (.cells cs t)).heap[w.heap.size]? = _
    rw [heap_alloc_new]
  · have hk : k = w.heap.size := hk
    have := Own.lt h.own hn
    omega
  · rcases fpL_cons.1 hk' with hk' | hk'
    · have hk' : k = w.heap.size := hk'
      omega
    · exact hk'

-- ===== where an own thing stands in the list =====

def Pick (x : OA) (Γ Γ' : List OA) : Prop := Γ.Perm (x :: Γ')
theorem Pick.head (x : OA) (Γ : List OA) : Pick x (x :: Γ) Γ := .refl _
theorem Pick.tail {x y : OA} {Γ Γ' : List OA} (h : Pick x Γ Γ') : Pick x (y :: Γ) (y :: Γ') := (List.Perm.cons y h).trans (.swap x y Γ')

/-- Γ holds all of Δ (and maybe more). -/
def SubO (Γ Δ : List OA) : Prop := ∃ R, Γ.Perm (Δ ++ R)
theorem SubO.nil (Γ : List OA) : SubO Γ [] := ⟨Γ, .refl _⟩
theorem SubO.cons {x : OA} {Γ Γ' Δ : List OA} (h : Pick x Γ Γ') (k : SubO Γ' Δ) : SubO Γ (x :: Δ) := by
  obtain ⟨R, hR⟩ := k
  exact ⟨R, h.trans (List.Perm.cons x hR)⟩

theorem Holds.dropR {C : Ctx} {Γ R : List OA} {Φ : List SP} {w : World} (h : Holds C (Γ ++ R) Φ w) : Holds C Γ Φ w :=
  h.move (Mod.refl _ w) (Own.append.1 h.own).1 fun _ _ hk => fpL_append.2 (.inl hk)

theorem Holds.subOwn {C : Ctx} {Γ Δ : List OA} {Φ : List SP} {w : World} (h : Holds C Γ Φ w) (hs : SubO Γ Δ) : Holds C Δ Φ w := by
  obtain ⟨R, hR⟩ := hs
  exact (h.perm hR).dropR

-- ===== the walk =====

def WL (C : Ctx) (ops : Array Oper) (l : List Oper) (fr : Fr) (Γ : List OA) (Φ : List SP) (Q : Exit → Act → World → Prop) : Prop :=
  ∀ a w, fok C fr a → Holds C Γ Φ w → wpListIn (fenceOf C.rd) 0 C.P ops Q l a w

def W (C : Ctx) (c : Code) (fr : Fr) (Γ : List OA) (Φ : List SP) (Q : Exit → Act → World → Prop) : Prop :=
  ∀ a w, fok C fr a → Holds C Γ Φ w → c.wpIn (fenceOf C.rd) 0 C.P Q a w

def WQ (C : Ctx) (e : Exit) (fr : Fr) (Γ : List OA) (Φ : List SP) (Q : Exit → Act → World → Prop) : Prop :=
  ∀ a w, fok C fr a → Holds C Γ Φ w → Q e a w

section
variable {C : Ctx} {ops : Array Oper} {l : List Oper} {fr : Fr} {Γ : List OA} {Φ : List SP} {Q : Exit → Act → World → Prop}

theorem W_seq {x y : Code} (h : W C x fr Γ Φ (Exit.then (y.wpIn (fenceOf C.rd) 0 C.P Q) Q)) : W C (.seq x y) fr Γ Φ Q := fun a w ha hw => wpIn_seq (h a w ha hw)
theorem WQ_then {y : Code} (h : W C y fr Γ Φ Q) : WQ C .normal fr Γ Φ (Exit.then (y.wpIn (fenceOf C.rd) 0 C.P Q) Q) := h
theorem WQ_then_ret {K : Act → World → Prop} (h : WQ C .ret fr Γ Φ Q) : WQ C .ret fr Γ Φ (Exit.then K Q) := h
theorem WQ_then_exit {K : Act → World → Prop} {i : Nat} (h : WQ C (.exit i) fr Γ Φ Q) : WQ C (.exit i) fr Γ Φ (Exit.then K Q) := h
theorem W_block {id : Nat} {c : Code} (h : W C c fr Γ Φ (Exit.inBlock id Q)) : W C (.block id c) fr Γ Φ Q := fun a w ha hw => wpIn_block (h a w ha hw)
theorem WQ_block_normal {id : Nat} (h : WQ C .normal fr Γ Φ Q) : WQ C .normal fr Γ Φ (Exit.inBlock id Q) := h
theorem WQ_block_ret {id : Nat} (h : WQ C .ret fr Γ Φ Q) : WQ C .ret fr Γ Φ (Exit.inBlock id Q) := h
theorem WQ_block_exit {id : Nat} (h : WQ C .normal fr Γ Φ Q) : WQ C (.exit id) fr Γ Φ (Exit.inBlock id Q) := fun a w ha hw => by
  show Exit.inBlock id Q (.exit id) a w
  simp only [Exit.inBlock, if_true]
  exact h a w ha hw
theorem WQ_block_other {id i : Nat} (hne : Nat.beq i id = false) (h : WQ C (.exit i) fr Γ Φ Q) : WQ C (.exit i) fr Γ Φ (Exit.inBlock id Q) := fun a w ha hw => by
  have : i ≠ id := fun e => by subst e; simp at hne
  show Exit.inBlock id Q (.exit i) a w
  simp only [Exit.inBlock, this, if_false]
  exact h a w ha hw
theorem W_skip (h : WQ C .normal fr Γ Φ Q) : W C .skip fr Γ Φ Q := fun a w ha hw => wpIn_skip (h a w ha hw)
theorem W_exit {i : Nat} (h : WQ C (.exit i) fr Γ Φ Q) : W C (.exit i) fr Γ Φ Q := fun a w ha hw => wpIn_exit (h a w ha hw)
theorem W_ret (h : WQ C .ret fr Γ Φ Q) : W C .ret fr Γ Φ Q := fun a w ha hw => wpIn_ret (h a w ha hw)
theorem W_region {id : Nat} {l : List Oper} (h : WL C l.toArray l fr Γ Φ Q) : W C (.region id l.toArray false) fr Γ Φ Q :=
  fun a w ha hw => wpIn_region_lit (h a w ha hw)
theorem WL_nil (h : WQ C .normal fr Γ Φ Q) : WL C ops [] fr Γ Φ Q := fun a w ha hw => wpListIn_nil (h a w ha hw)

theorem W_cond_t {c : Operand} {x y : Code} (hc : evO fr c = some (.bool true)) (h : W C x fr Γ Φ Q) : W C (.cond c x y) fr Γ Φ Q :=
  fun a w ha hw => wpIn_cond_true (evO_sound ha hc) (h a w ha hw)
theorem W_cond_f {c : Operand} {x y : Code} (hc : evO fr c = some (.bool false)) (h : W C y fr Γ Φ Q) : W C (.cond c x y) fr Γ Φ Q :=
  fun a w ha hw => wpIn_cond_false (evO_sound ha hc) (h a w ha hw)
theorem gv_sound {a : Act} (ha : fok C fr a) {o : Oper} {b : Bool} (hg : gv ops fr o.guard = some b) : Region.wanted o (yielded ops a.tmps) = b := by
  unfold Region.wanted
  cases hgd : o.guard with
  | none => rw [hgd] at hg; simpa [gv] using hg
  | some jw =>
    obtain ⟨j, want⟩ := jw
    rw [hgd] at hg
    simp only [gv] at hg
    cases ho : ops[j]? with
    | none => rw [ho] at hg; cases hg
    | some o' =>
      rw [ho] at hg
      simp only at hg
      cases hd : o'.dst with
      | none => rw [hd] at hg; cases hg
      | some d =>
        rw [hd] at hg
        simp only at hg
        cases hf : fget fr d with
        | none => rw [hf] at hg; cases hg
        | some v =>
          have hv := ha.2.2 d v hf
          rw [hf] at hg
          simp only [yielded, ho, hd, Option.bind_some]
          have hv' : a.tmps[d]? = some v ∨ (v = undef ∧ a.tmps[d]? = none) := by
            cases h0 : a.tmps[d]? with
            | none => exact .inr ⟨by rw [← hv]; simp [h0], rfl⟩
            | some u => exact .inl (by rw [← hv]; simp [h0])
          rcases hv' with hv' | ⟨rfl, hv'⟩
          · rw [hv']
            cases v with
            | bool c =>
              simp only [Option.some.injEq] at hg
              subst hg
              cases want <;> cases c <;> rfl
            | tuple vs =>
              simp only [Option.some.injEq] at hg
              subst hg
              cases want <;> rfl
            | _ => cases hg
          · rw [hv']
            simp only [undef, Option.some.injEq] at hg
            subst hg
            cases want <;> rfl

end

/-- what running an operation comes to: a value (or nothing), by itself or by a call, and the memory behind it. -/
def Gives (P : Program) (r : Result Next) (post : Value → World → Prop) : Prop :=
  match r with
  | .ok (.value v) w' => post v w'
  | .ok .skip w' => post undef w'
  | .ok (.enter f args) w' => Calls P f args w' fun e w'' => ∃ v, e = .returned v ∧ post v w''
  | .ok (.round l f tmps assign body) w' => RoundIn Fence.wide 0 P l f tmps assign body w' fun e w'' => ∃ v, e = .returned v ∧ post v w''
  | _ => False

theorem Gives.mono {P : Program} {r : Result Next} {p q : Value → World → Prop} (h : Gives P r p) (hpq : ∀ v w, p v w → q v w) : Gives P r q := by
  unfold Gives at *
  split
  · exact hpq _ _ h
  · exact hpq _ _ h
  · exact h.mono fun e w ⟨v, he, hp⟩ => ⟨v, he, hpq v w hp⟩
  · exact h.mono fun e w ⟨v, he, hp⟩ => ⟨v, he, hpq v w hp⟩
  · rename_i h1 h2 h3 h4
    split at h
    · exact (h1 _ _ rfl).elim
    · exact (h2 _ rfl).elim
    · exact (h3 _ _ _ rfl).elim
    · exact (h4 _ _ _ _ _ _ rfl).elim
    · exact h

theorem Gives.defer {P : Program} {o : Oper} {a : Act} {w : World} {post : Value → World → Prop} (h : Gives P ((execOp a.eval o).run P w) post) : ∀ c, o.op ≠ .defer c := by
  intro c hc
  have e : execOp a.eval o = (do pure (.defer (← resolve a.eval c o.type))) := by
    unfold execOp
    rw [hc]
  rw [e, Sem.run_bind] at h
  cases hr : (resolve a.eval c o.type).run P w with
  | ok d w' => rw [hr] at h; simp [Gives] at h
  | _ => rw [hr] at h; simp [Gives, Result.andThen] at h

theorem Gives.wp {P : Program} {r : Option Nat} {o : Oper} {a : Act} {w : World} {K : Act → World → Prop} {Q : Exit → Act → World → Prop} {post : Value → World → Prop}
    (h : Gives P ((execOp a.eval o).run P w) post) (hk : ∀ v w', post v w' → K (a.put o.dst v) w') : o.wpIn (fenceOf r) 0 P a w K Q := by
  refine ⟨fun f _ => fenceOf_fn r f, ?_⟩
  rw [fenceOf_round, Oper.semAt_eq r a.eval o h.defer]
  generalize (execOp a.eval o).run P w = r' at h
  unfold Gives at h
  split at h
  · exact hk _ _ h
  · exact hk _ _ h
  · refine ⟨fenceOf_depth r, fenceOf_calls (h.mono fun e w'' ⟨v, he, hp⟩ => ?_)⟩
    subst he
    exact hk _ _ hp
  · refine ⟨fenceOf_depth r, ?_⟩
    have h' := h.mono (R' := fun
      | .returned v, w'' => K (a.put o.dst v) w''
      | .panicked chain, w'' => Q (.panic chain) a w''
      | .outgrown, _ => LetsOut Q) fun e w'' ⟨v, he, hp⟩ => by
        subst he
        exact hk _ _ hp
    cases r
    · exact h'
    · exact h'
  · exact h.elim

theorem Gives.val {P : Program} {r : Result Next} {v : Value} {w' : World} {post : Value → World → Prop} (h : r = .ok (.value v) w') (hp : post v w') : Gives P r post := by subst h; exact hp
theorem Gives.skip {P : Program} {r : Result Next} {w' : World} {post : Value → World → Prop} (h : r = .ok .skip w') (hp : post undef w') : Gives P r post := by subst h; exact hp

def noOwn : Nat → Prop := fun _ => False

/-- an operation whose value is settled by what is known, and that turns nothing that was there. -/
def Runs (C : Ctx) (fr : Fr) (Γ : List OA) (Φ : List SP) (o : Oper) (v : Value) : Prop :=
  ∀ a w, fok C fr a → Holds C Γ Φ w → Gives C.P ((execOp a.eval o).run C.P w) fun v' w' => v' = v ∧ Mod noOwn w w'

/-- all of Ψ stands in Φ. -/
def AllIn (Ψ Φ : List SP) : Prop := ∀ ψ ∈ Ψ, ψ ∈ Φ
theorem AllIn.nil (Φ : List SP) : AllIn [] Φ := fun _ h => by cases h
theorem AllIn.cons {ψ : SP} {Ψ Φ : List SP} (h : ψ ∈ Φ) (k : AllIn Ψ Φ) : AllIn (ψ :: Ψ) Φ := fun χ hχ => by
  rcases List.mem_cons.1 hχ with rfl | hχ
  · exact h
  · exact k χ hχ
theorem AllIn.refl (Φ : List SP) : AllIn Φ Φ := fun _ h => h
theorem AllIn.more {ψ : SP} {Ψ Φ : List SP} (h : AllIn Ψ Φ) : AllIn Ψ (ψ :: Φ) := fun χ hχ => List.mem_cons_of_mem _ (h χ hχ)

theorem mcs {ψ : SP} {Φ : List SP} : ψ ∈ ψ :: Φ := List.mem_cons_self
theorem mct {ψ χ : SP} {Φ : List SP} (h : ψ ∈ Φ) : ψ ∈ χ :: Φ := List.mem_cons_of_mem _ h
/-- what follows from Φ wherever Φ holds. -/
def Ent (Φ : List SP) (ψ : SP) : Prop := ∀ w O, (∀ χ ∈ Φ, χ.p w O) → ψ.p w O
theorem Holds.ent {C : Ctx} {Γ : List OA} {Φ : List SP} {w : World} {ψ : SP} (h : Holds C Γ Φ w) (he : Ent Φ ψ) : Holds C Γ (ψ :: Φ) w := h.cons (he _ _ h.sp)

/-- a list, reckoned to the end. -/
def listO {α : Type} : List α → Option (List α)
  | [] => some []
  | a :: r => match listO r with
    | some t => some (a :: t)
    | none => none
theorem listO_eq {α : Type} : ∀ {a b : List α}, listO a = some b → a = b
  | [], b, h => by injection h
  | x :: r, b, h => by
    simp only [listO] at h
    cases hr : listO r with
    | none => rw [hr] at h; cases h
    | some t =>
      rw [hr] at h
      injection h with h
      rw [← h, ← listO_eq hr]

theorem Ent.mem {Φ : List SP} {ψ : SP} (h : ψ ∈ Φ) : Ent Φ ψ := fun _ _ k => k ψ h
/-- all of Ψ follows from Φ. -/
def AllE (Ψ Φ : List SP) : Prop := ∀ ψ ∈ Ψ, Ent Φ ψ
theorem AllE.nil (Φ : List SP) : AllE [] Φ := fun _ h => by cases h
theorem AllE.cons {ψ : SP} {Ψ Φ : List SP} (h : Ent Φ ψ) (k : AllE Ψ Φ) : AllE (ψ :: Ψ) Φ := fun χ hχ => by
  rcases List.mem_cons.1 hχ with rfl | hχ
  · exact h
  · exact k χ hχ
theorem Holds.allE {C : Ctx} {Γ : List OA} {Φ Ψ : List SP} {w : World} (h : Holds C Γ Φ w) (hs : AllE Ψ Φ) : Holds C Γ Ψ w :=
  ⟨h.mod, h.own, h.ofp, h.o0, fun ψ hψ => hs ψ hψ _ _ h.sp⟩

/-- two lists joined, reckoned to the end. -/
def appO {α : Type} : List α → List α → Option (List α)
  | [], l => some l
  | a :: r, l => match appO r l with
    | some t => some (a :: t)
    | none => none
theorem appO_eq {α : Type} : ∀ {a b c : List α}, appO a b = some c → a ++ b = c
  | [], b, c, h => by injection h
  | x :: r, b, c, h => by
    simp only [appO] at h
    cases hr : appO r b with
    | none => rw [hr] at h; cases h
    | some t =>
      rw [hr] at h
      injection h with h
      rw [← h, ← appO_eq hr]
      rfl

/-- an operation that makes, or writes, what is owned: some outcome x; what was known stays known. -/
def Effs (C : Ctx) (fr : Fr) (Γ : List OA) (Φ : List SP) (o : Oper) {X : Type} (pf : X → Prop) (vx : X → Value) (Γ' : X → List OA) (Φ' : X → List SP) : Prop :=
  (∀ x, AllIn Φ (Φ' x)) ∧
  ∀ R a w, fok C fr a → Holds C (Γ ++ R) Φ w → Gives C.P ((execOp a.eval o).run C.P w) fun v' w' => ∃ x, pf x ∧ v' = vx x ∧ Holds C (Γ' x ++ R) (Φ' x) w'

theorem Holds.ext {C : Ctx} {Γ : List OA} {Φ : List SP} {w w' : World} (h : Holds C Γ Φ w) (hm : Mod noOwn w w') : Holds C Γ Φ w' :=
  h.move (hm.mono fun _ _ hk => hk.elim) (h.own.keep fun k hk _ => hm.block k hk (fun h => h)) fun _ _ hk => hk

section
variable {C : Ctx} {ops : Array Oper} {l : List Oper} {fr : Fr} {Γ : List OA} {Φ : List SP} {Q : Exit → Act → World → Prop}

theorem Runs.pure {o : Oper} {v : Value} (h : ∀ a w, fok C fr a → Holds C Γ Φ w → (execOp a.eval o).run C.P w = .ok (.value v) w) : Runs C fr Γ Φ o v :=
  fun a w ha hw => .val (h a w ha hw) ⟨rfl, Mod.refl _ _⟩

theorem WL_runs {o : Oper} {d : Nat} {v : Value} (hg : gv ops fr o.guard = some true) (hd : o.dst = some d) (hn : Nat.blt d C.n = true) (h : Runs C fr Γ Φ o v)
    (k : WL C ops l ((d, v) :: fr) Γ Φ Q) : WL C ops (o :: l) fr Γ Φ Q := by
  intro a w ha hw
  unfold wpListIn
  rw [if_pos (gv_sound ha hg)]
  refine (h a w ha hw).wp fun v' w' ⟨hv, hm⟩ => ?_
  subst hv
  rw [hd]
  exact k _ _ (ha.putd (dst := some d) hn) (hw.ext hm)

theorem WL_pass {o : Oper} {d : Nat} (hg : gv ops fr o.guard = some false) (hd : o.dst = some d) (hn : Nat.blt d C.n = true)
    (k : WL C ops l ((d, undef) :: fr) Γ Φ Q) : WL C ops (o :: l) fr Γ Φ Q := by
  intro a w ha hw
  unfold wpListIn
  rw [if_neg (by rw [gv_sound ha hg]; simp), hd]
  exact ⟨fun f _ => fenceOf_fn _ f, k _ _ (ha.putd (dst := some d) hn) hw⟩

theorem WL_effs {o : Oper} {d : Nat} {X : Type} {pf : X → Prop} {vx : X → Value} {Γ' : X → List OA} {Φ' : X → List SP} (hg : gv ops fr o.guard = some true) (hd : o.dst = some d) (hn : Nat.blt d C.n = true)
    (h : Effs C fr Γ Φ o pf vx Γ' Φ') (k : ∀ x, pf x → WL C ops l ((d, vx x) :: fr) (Γ' x) (Φ' x) Q) : WL C ops (o :: l) fr Γ Φ Q := by
  intro a w ha hw
  unfold wpListIn
  rw [if_pos (gv_sound ha hg)]
  refine (h.2 [] a w ha (by simpa using hw)).wp fun v' w' ⟨x, hp, hv, hw'⟩ => ?_
  subst hv
  rw [hd]
  exact k x hp _ _ (ha.putd (dst := some d) hn) (by simpa using hw')

theorem WL_do {o : Oper} {X : Type} {pf : X → Prop} {vx : X → Value} {Γ' : X → List OA} {Φ' : X → List SP} (hg : gv ops fr o.guard = some true) (hd : o.dst = none)
    (h : Effs C fr Γ Φ o pf vx Γ' Φ') (k : ∀ x, pf x → WL C ops l fr (Γ' x) (Φ' x) Q) : WL C ops (o :: l) fr Γ Φ Q := by
  intro a w ha hw
  unfold wpListIn
  rw [if_pos (gv_sound ha hg)]
  refine (h.2 [] a w ha (by simpa using hw)).wp fun v' w' ⟨x, hp, hv, hw'⟩ => ?_
  rw [hd]
  exact k x hp _ _ ha (by simpa using hw')

/-- the same, with a fact that follows from what is known. -/
theorem WL_runsF {o : Oper} {d : Nat} {v : Value} {ψ : SP} (hg : gv ops fr o.guard = some true) (hd : o.dst = some d) (hn : Nat.blt d C.n = true) (h : Runs C fr Γ Φ o v ∧ Ent Φ ψ)
    (k : WL C ops l ((d, v) :: fr) Γ (ψ :: Φ) Q) : WL C ops (o :: l) fr Γ Φ Q :=
  WL_runs hg hd hn h.1 fun a w ha hw => k a w ha (hw.ent h.2)

end
end Go.Hs

/-
  The rules of the small logic: one for each form of operation. No program is named here.
-/
namespace Go.Hs
open Go Go.RowKit

-- ===== slices aas lasting data =====

theorem add_add' (a : Addr) (i j : Nat) : (a.add i).add j = a.add (i + j) := by
  unfold Addr.add
  by_cases hi : i = 0 <;> by_cases hj : j = 0 <;> simp [hi, hj, Nat.add_assoc]
theorem block_add (a : Addr) (n : Nat) : (a.add n).block = a.block := by unfold Addr.add; split <;> rfl

def slP (size : Nat) (v : Value) (n : Nat) (xs : List Value) (w : World) (O : Nat → Prop) : Prop :=
  xs.length = n * size ∧ ∃ A c, v = .slice A n c ∧ n ≤ c ∧ c ≤ maxLen ∧
    (0 < n → ∃ ad, A = some ad ∧ ad.block < w.heap.size ∧ ¬ O ad.block ∧ ∀ j u, xs[j]? = some u → w.cell? (ad.add j) = some u)

theorem slP.st {size : Nat} {v : Value} {n : Nat} {xs : List Value} {w w' : World} {O O' : Nat → Prop} (h : slP size v n xs w O) (hm : Mod O w w') (ho : ∀ k, k < w.heap.size → O' k → O k) : slP size v n xs w' O' := by
  obtain ⟨h1, A, c, hv, hc, hcm, hr⟩ := h
  refine ⟨h1, A, c, hv, hc, hcm, fun hn => ?_⟩
  obtain ⟨ad, hA, hlt, hO, hcell⟩ := hr hn
  refine ⟨ad, hA, Nat.lt_of_lt_of_le hlt hm.size, fun h => hO (ho _ hlt h), fun j u hu => ?_⟩
  rw [World.cell?_of_block (w := w) (by rw [block_add]; exact hm.block _ hlt hO)]
  exact hcell j u hu

/-- the slice value v of n elements (size cells each) reads the cells xs. -/
def Sl (size : Nat) (v : Value) (n : Nat) (xs : List Value) : SP := ⟨slP size v n xs, slP.st⟩

def ptP (v : Value) (xs : List Value) (w : World) (O : Nat → Prop) : Prop :=
  ∃ ad, v = .pointer (some ad) ∧ ad.block < w.heap.size ∧ ¬ O ad.block ∧ ∀ j u, xs[j]? = some u → w.cell? (ad.add j) = some u

theorem ptP.st {v : Value} {xs : List Value} {w w' : World} {O O' : Nat → Prop} (h : ptP v xs w O) (hm : Mod O w w') (ho : ∀ k, k < w.heap.size → O' k → O k) : ptP v xs w' O' := by
  obtain ⟨ad, hv, hlt, hO, hcell⟩ := h
  refine ⟨ad, hv, Nat.lt_of_lt_of_le hlt hm.size, fun h => hO (ho _ hlt h), fun j u hu => ?_⟩
  rw [World.cell?_of_block (w := w) (by rw [block_add]; exact hm.block _ hlt hO)]
  exact hcell j u hu

/-- the pointer v leads to the cells xs. -/
def Pt (v : Value) (xs : List Value) : SP := ⟨ptP v xs, ptP.st⟩

def bcell (b : UInt8) : Value := .int .u8 (b.toNat : Int)
theorem bcells_one (bs : List UInt8) : ∀ u ∈ bs.map bcell, u.oneCell' = true := by
  intro u hu
  obtain ⟨b, _, rfl⟩ := List.mem_map.1 hu
  rfl

/-- a byte slice as a list of bytes. -/
def By (v : Value) (bs : List UInt8) : SP := ⟨slP 1 v bs.length (bs.map bcell), slP.st⟩

def strV (bs : List UInt8) : Value := .string ⟨bs.toArray⟩

section
variable {C : Ctx} {ops : Array Oper} {l : List Oper} {fr : Fr} {Γ Γ' : List OA} {Φ : List SP} {Q : Exit → Act → World → Prop}
  {d : Nat} {ty : TypeId} {pos : String} {aft : Array Edge} {g : Option (Nat × Bool)}

theorem R_move {x : Operand} {v : Value}  (hx : evO fr x = some v) :
    Runs C fr Γ Φ ⟨some d, .move x, ty, pos, aft, g⟩ (v) :=
  Runs.pure fun a w ha _ => by simp [execOp, evO_sound ha hx]
theorem R_assign {x : Operand} {v : Value}  (hx : evO fr x = some v) :
    Runs C fr Γ Φ ⟨some d, .assign x, ty, pos, aft, g⟩ (v) :=
  Runs.pure fun a w ha _ => by simp [execOp, evO_sound ha hx]
theorem R_pick_t {c x y : Operand} {v : Value}  (hc : evO fr c = some (.bool true)) (hx : evO fr x = some v) :
    Runs C fr Γ Φ ⟨some d, .pick c x y, ty, pos, aft, g⟩ (v) :=
  Runs.pure fun a w ha _ => by simp [execOp, evO_sound ha hx, evO_sound ha hc, asBool]
theorem R_pick_f {c x y : Operand} {v : Value}  (hc : evO fr c = some (.bool false)) (hy : evO fr y = some v) :
    Runs C fr Γ Φ ⟨some d, .pick c x y, ty, pos, aft, g⟩ (v) :=
  Runs.pure fun a w ha _ => by simp [execOp, evO_sound ha hy, evO_sound ha hc, asBool]

theorem R_extract {x : Operand} {vs : Array Value} {i : Nat} {v : Value}  (hx : evO fr x = some (.tuple vs)) (hi : vs[i]? = some v) :
    Runs C fr Γ Φ ⟨some d, .extract x i, ty, pos, aft, g⟩ (v) :=
  Runs.pure fun a w ha _ => by simp [execOp, evO_sound ha hx, Instr.extract, hi]

theorem R_convi {x : Operand} {k' : IntKind} {n m : Int} {s t : TypeId} {kd : IntKind} {ds : TypeDesc}  (hx : evO fr x = some (.int k' n))
    (hs : C.P.underlying s = some ds) (ht : C.P.underlying t = some (.int kd)) (hr : kd.wrap n = m) :
    Runs C fr Γ Φ ⟨some d, .convert s t x, ty, pos, aft, g⟩ (.int kd m) :=
  Runs.pure fun a w ha _ => by
    subst hr
    have h1 := run_underlying (P := C.P) hs w
    have h2 := run_underlying (P := C.P) ht w
    simp [execOp, evO_sound ha hx, convert, h1, h2]
    cases ds <;> rfl

theorem R_binI {op : BinOp} {x y : Operand} {t t' : TypeId} {kd : IntKind} {a b : Int} {v : Value} 
    (hx : evO fr x = some (.int kd a)) (hy : evO fr y = some (.int kd b)) (hr : binOp op t (.int kd a) (.int kd b) = pure v) :
    Runs C fr Γ Φ ⟨some d, .binOp op t x y t', ty, pos, aft, g⟩ (v) :=
  Runs.pure fun a' w ha _ => by simp [execOp, evO_sound ha hx, evO_sound ha hy, eqGuard_at_int, hr]

theorem R_add {x y : Operand} {t t' : TypeId} {kd : IntKind} {a b c : Int} 
    (hx : evO fr x = some (.int kd a)) (hy : evO fr y = some (.int kd b)) (hr : kd.wrap (a + b) = c) :
    Runs C fr Γ Φ ⟨some d, .binOp .add t x y t', ty, pos, aft, g⟩ (.int kd c) :=
  R_binI hx hy (by subst hr; rw [binOp_add]; rfl)
theorem R_sub {x y : Operand} {t t' : TypeId} {kd : IntKind} {a b c : Int} 
    (hx : evO fr x = some (.int kd a)) (hy : evO fr y = some (.int kd b)) (hr : kd.wrap (a - b) = c) :
    Runs C fr Γ Φ ⟨some d, .binOp .sub t x y t', ty, pos, aft, g⟩ (.int kd c) :=
  R_binI hx hy (by subst hr; rw [binOp_sub]; rfl)
theorem R_mul {x y : Operand} {t t' : TypeId} {kd : IntKind} {a b c : Int} 
    (hx : evO fr x = some (.int kd a)) (hy : evO fr y = some (.int kd b)) (hr : kd.wrap (a * b) = c) :
    Runs C fr Γ Φ ⟨some d, .binOp .mul t x y t', ty, pos, aft, g⟩ (.int kd c) :=
  R_binI hx hy (by subst hr; rw [binOp_mul]; rfl)
theorem R_quo {x y : Operand} {t t' : TypeId} {kd : IntKind} {a b c : Int} 
    (hx : evO fr x = some (.int kd a)) (hy : evO fr y = some (.int kd b)) (hb : b ≠ 0) (hr : kd.wrap (a.tdiv b) = c) :
    Runs C fr Γ Φ ⟨some d, .binOp .quo t x y t', ty, pos, aft, g⟩ (.int kd c) :=
  R_binI hx hy (by subst hr; rw [binOp_quo]; simp [Op.intDiv, hb])
theorem R_rem {x y : Operand} {t t' : TypeId} {kd : IntKind} {a b c : Int} 
    (hx : evO fr x = some (.int kd a)) (hy : evO fr y = some (.int kd b)) (hb : b ≠ 0) (hr : a.tmod b = c) :
    Runs C fr Γ Φ ⟨some d, .binOp .rem t x y t', ty, pos, aft, g⟩ (.int kd c) :=
  R_binI hx hy (by subst hr; rw [binOp_rem]; simp [Op.intDiv, hb])
theorem R_and {x y : Operand} {t t' : TypeId} {kd : IntKind} {a b c : Int} 
    (hx : evO fr x = some (.int kd a)) (hy : evO fr y = some (.int kd b)) (hr : bits .and kd a b = c) :
    Runs C fr Γ Φ ⟨some d, .binOp .and t x y t', ty, pos, aft, g⟩ (.int kd c) :=
  R_binI hx hy (by subst hr; rw [binOp_and, intBits_and])
theorem R_or {x y : Operand} {t t' : TypeId} {kd : IntKind} {a b c : Int} 
    (hx : evO fr x = some (.int kd a)) (hy : evO fr y = some (.int kd b)) (hr : bits .or kd a b = c) :
    Runs C fr Γ Φ ⟨some d, .binOp .or t x y t', ty, pos, aft, g⟩ (.int kd c) :=
  R_binI hx hy (by subst hr; rw [binOp_or, intBits_or])
theorem R_xor {x y : Operand} {t t' : TypeId} {kd : IntKind} {a b c : Int} 
    (hx : evO fr x = some (.int kd a)) (hy : evO fr y = some (.int kd b)) (hr : bits .xor kd a b = c) :
    Runs C fr Γ Φ ⟨some d, .binOp .xor t x y t', ty, pos, aft, g⟩ (.int kd c) :=
  R_binI hx hy (by subst hr; rw [binOp_xor, intBits_xor])
theorem R_andNot {x y : Operand} {t t' : TypeId} {kd : IntKind} {a b c : Int} 
    (hx : evO fr x = some (.int kd a)) (hy : evO fr y = some (.int kd b)) (hr : bits .andNot kd a b = c) :
    Runs C fr Γ Φ ⟨some d, .binOp .andNot t x y t', ty, pos, aft, g⟩ (.int kd c) :=
  R_binI hx hy (by subst hr; rw [binOp_andNot, intBits_andNot])
theorem R_eql {x y : Operand} {t t' : TypeId} {kd : IntKind} {a b : Int} {c : Bool} 
    (hx : evO fr x = some (.int kd a)) (hy : evO fr y = some (.int kd b)) (hr : decide (a = b) = c) :
    Runs C fr Γ Φ ⟨some d, .binOp .eql t x y t', ty, pos, aft, g⟩ (.bool c) :=
  R_binI hx hy (by subst hr; rw [binOp_eql]; rfl)
theorem R_neq {x y : Operand} {t t' : TypeId} {kd : IntKind} {a b : Int} {c : Bool} 
    (hx : evO fr x = some (.int kd a)) (hy : evO fr y = some (.int kd b)) (hr : decide (a ≠ b) = c) :
    Runs C fr Γ Φ ⟨some d, .binOp .neq t x y t', ty, pos, aft, g⟩ (.bool c) :=
  R_binI hx hy (by
    subst hr; rw [binOp_neq]
    have : (a != b) = decide (a ≠ b) := by by_cases h : a = b <;> simp [h]
    rw [this])
theorem R_lss {x y : Operand} {t t' : TypeId} {kd : IntKind} {a b : Int} {c : Bool} 
    (hx : evO fr x = some (.int kd a)) (hy : evO fr y = some (.int kd b)) (hr : decide (a < b) = c) :
    Runs C fr Γ Φ ⟨some d, .binOp .lss t x y t', ty, pos, aft, g⟩ (.bool c) :=
  R_binI hx hy (by subst hr; rw [binOp_lss])
theorem R_leq {x y : Operand} {t t' : TypeId} {kd : IntKind} {a b : Int} {c : Bool} 
    (hx : evO fr x = some (.int kd a)) (hy : evO fr y = some (.int kd b)) (hr : decide (a ≤ b) = c) :
    Runs C fr Γ Φ ⟨some d, .binOp .leq t x y t', ty, pos, aft, g⟩ (.bool c) :=
  R_binI hx hy (by subst hr; rw [binOp_leq])
theorem R_gtr {x y : Operand} {t t' : TypeId} {kd : IntKind} {a b : Int} {c : Bool} 
    (hx : evO fr x = some (.int kd a)) (hy : evO fr y = some (.int kd b)) (hr : decide (b < a) = c) :
    Runs C fr Γ Φ ⟨some d, .binOp .gtr t x y t', ty, pos, aft, g⟩ (.bool c) :=
  R_binI hx hy (by subst hr; rw [binOp_gtr])
theorem R_geq {x y : Operand} {t t' : TypeId} {kd : IntKind} {a b : Int} {c : Bool} 
    (hx : evO fr x = some (.int kd a)) (hy : evO fr y = some (.int kd b)) (hr : decide (b ≤ a) = c) :
    Runs C fr Γ Φ ⟨some d, .binOp .geq t x y t', ty, pos, aft, g⟩ (.bool c) :=
  R_binI hx hy (by subst hr; rw [binOp_geq])

theorem R_shl {x y : Operand} {t t' : TypeId} {kd yk : IntKind} {a b c : Int} 
    (hx : evO fr x = some (.int kd a)) (hy : evO fr y = some (.int yk b)) (hb : 0 ≤ b) (hr : kd.wrap (a * 2 ^ (min b.toNat kd.bits)) = c) :
    Runs C fr Γ Φ ⟨some d, .binOp .shl t x y t', ty, pos, aft, g⟩ (.int kd c) :=
  Runs.pure fun a' w ha _ => by
    subst hr
    have h0 : ¬ b < 0 := by omega
    simp [execOp, evO_sound ha hx, evO_sound ha hy, eqGuard_at_int, binOp_shl, Op.shift, h0]
theorem R_shr {x y : Operand} {t t' : TypeId} {kd yk : IntKind} {a b c : Int} 
    (hx : evO fr x = some (.int kd a)) (hy : evO fr y = some (.int yk b)) (hb : 0 ≤ b) (hr : a.fdiv (2 ^ (min b.toNat kd.bits)) = c) :
    Runs C fr Γ Φ ⟨some d, .binOp .shr t x y t', ty, pos, aft, g⟩ (.int kd c) :=
  Runs.pure fun a' w ha _ => by
    subst hr
    have h0 : ¬ b < 0 := by omega
    simp [execOp, evO_sound ha hx, evO_sound ha hy, eqGuard_at_int, binOp_shr, Op.shift, h0]

theorem R_not {x : Operand} {t : TypeId} {b c : Bool}  (hx : evO fr x = some (.bool b)) (hr : (!b) = c) :
    Runs C fr Γ Φ ⟨some d, .unOp .not t x, ty, pos, aft, g⟩ (.bool c) :=
  Runs.pure fun a' w ha _ => by subst hr; simp [execOp, evO_sound ha hx, Op.unary]
theorem R_neg {x : Operand} {t : TypeId} {kd : IntKind} {a c : Int}  (hx : evO fr x = some (.int kd a)) (hr : kd.wrap (0 - a) = c) :
    Runs C fr Γ Φ ⟨some d, .unOp .neg t x, ty, pos, aft, g⟩ (.int kd c) :=
  Runs.pure fun a' w ha _ => by subst hr; simp [execOp, evO_sound ha hx, Op.unary, Op.intArith]
theorem R_com {x : Operand} {t : TypeId} {kd : IntKind} {a c : Int}  (hx : evO fr x = some (.int kd a))
    (hr : bits .xor kd (if kd.signed then -1 else kd.max) a = c) :
    Runs C fr Γ Φ ⟨some d, .unOp .xor t x, ty, pos, aft, g⟩ (.int kd c) :=
  Runs.pure fun a' w ha _ => by subst hr; simp [execOp, evO_sound ha hx, Op.unary, intBits_xor]

theorem R_eqB {x y : Operand} {t t' : TypeId} {a b c : Bool} 
    (hx : evO fr x = some (.bool a)) (hy : evO fr y = some (.bool b)) (ht : C.P.underlying t = some .bool) (hr : (a == b) = c) :
    Runs C fr Γ Φ ⟨some d, .binOp .eql t x y t', ty, pos, aft, g⟩ (.bool c) :=
  Runs.pure fun a' w ha _ => by subst hr; simp [execOp, evO_sound ha hx, evO_sound ha hy, eqGuard_at_bool, run_eql_bool w t a b ht]
theorem R_neB {x y : Operand} {t t' : TypeId} {a b c : Bool} 
    (hx : evO fr x = some (.bool a)) (hy : evO fr y = some (.bool b)) (ht : C.P.underlying t = some .bool) (hr : (!(a == b)) = c) :
    Runs C fr Γ Φ ⟨some d, .binOp .neq t x y t', ty, pos, aft, g⟩ (.bool c) :=
  Runs.pure fun a' w ha _ => by subst hr; simp [execOp, evO_sound ha hx, evO_sound ha hy, eqGuard_at_bool, run_neq_bool w t a b ht]

theorem str_beq (a b : List UInt8) : (a == b) = decide (a = b) := by
  by_cases h : a = b <;> simp [h]

theorem R_eqS {x y : Operand} {t t' : TypeId} {a b : List UInt8} {c : Bool} 
    (hx : evO fr x = some (strV a)) (hy : evO fr y = some (strV b)) (hr : decide (a = b) = c) :
    Runs C fr Γ Φ ⟨some d, .binOp .eql t x y t', ty, pos, aft, g⟩ (.bool c) :=
  Runs.pure fun a' w ha _ => by
    subst hr
    have e1 := evO_sound ha hx
    have e2 := evO_sound ha hy
    simp only [strV] at e1 e2
    simp only [execOp, e1, e2, eqGuard_at_string, binOp, Op.stringOp, Sem.run_bind, Sem.run_pure, Result.andThen_ok, ByteArray.toList_mk, str_beq]

/-- comparisons, all by one rule. -/
def cmpP (op : BinOp) (a b : Int) : Option Bool := match op with
  | .eql => some (decide (a = b)) | .neq => some (decide (a ≠ b)) | .lss => some (decide (a < b)) | .leq => some (decide (a ≤ b)) | .gtr => some (decide (b < a)) | .geq => some (decide (b ≤ a)) | _ => none
theorem R_cmp {op : BinOp} {x y : Operand} {t t' : TypeId} {kd : IntKind} {a b : Int} {q c : Bool}
    (hx : evO fr x = some (.int kd a)) (hy : evO fr y = some (.int kd b)) (hq : cmpP op a b = some q) (hr : q = c) :
    Runs C fr Γ Φ ⟨some d, .binOp op t x y t', ty, pos, aft, g⟩ (.bool c) := by
  subst hr
  cases op <;> simp only [cmpP, Option.some.injEq, reduceCtorEq] at hq <;> subst hq
  · exact R_eql hx hy rfl
  · exact R_neq hx hy rfl
  · exact R_lss hx hy rfl
  · exact R_leq hx hy rfl
  · exact R_gtr hx hy rfl
  · exact R_geq hx hy rfl
/-- sums, differences, products, by one rule. -/
def arP (op : BinOp) (a b : Int) : Option Int := match op with
  | .add => some (a + b) | .sub => some (a - b) | .mul => some (a * b) | _ => none
theorem R_ari {op : BinOp} {x y : Operand} {t t' : TypeId} {kd : IntKind} {a b q c : Int}
    (hx : evO fr x = some (.int kd a)) (hy : evO fr y = some (.int kd b)) (hq : arP op a b = some q) (hr : kd.wrap q = c) :
    Runs C fr Γ Φ ⟨some d, .binOp op t x y t', ty, pos, aft, g⟩ (.int kd c) := by
  cases op <;> simp only [arP, Option.some.injEq, reduceCtorEq] at hq <;> subst hq
  · exact R_add hx hy hr
  · exact R_sub hx hy hr
  · exact R_mul hx hy hr

end
end Go.Hs

/-
  The rules of the small logic that read memory. No program is named here.
-/
namespace Go.Hs
open Go Go.RowKit

-- ===== lists of cells, reckoned to the end =====

/-- the n cells from off on. -/
def takeN : Nat → Nat → List Value → Option (List Value)
  | _, 0, _ => some []
  | 0, n + 1, c :: cs => match takeN 0 n cs with
    | some r => some (c :: r)
    | none => none
  | off + 1, n + 1, _ :: cs => takeN off (n + 1) cs
  | _, _, [] => none

theorem takeN_at : ∀ {off n : Nat} {cs us : List Value}, takeN off n cs = some us → us.length = n ∧ ∀ j u, us[j]? = some u → cs[off + j]? = some u
  | off, 0, cs, us, h => by
    have : us = [] := by cases off <;> cases cs <;> simp [takeN] at h <;> exact h
    subst this
    exact ⟨rfl, fun j u hu => by simp at hu⟩
  | 0, n + 1, [], us, h => by simp [takeN] at h
  | off + 1, n + 1, [], us, h => by simp [takeN] at h
  | 0, n + 1, c :: cs, us, h => by
    simp only [takeN] at h
    cases hr : takeN 0 n cs with
    | none => rw [hr] at h; cases h
    | some r =>
      rw [hr] at h
      injection h with h
      subst h
      obtain ⟨h1, h2⟩ := takeN_at hr
      refine ⟨by simp [h1], fun j u hu => ?_⟩
      cases j with
      | zero => simpa using hu
      | succ j =>
        have := h2 j u (by simpa using hu)
        rw [Nat.zero_add] at this ⊢
        simpa using this
  | off + 1, n + 1, c :: cs, us, h => by
    simp only [takeN] at h
    obtain ⟨h1, h2⟩ := takeN_at h
    refine ⟨h1, fun j u hu => ?_⟩
    have := h2 j u hu
    rw [show off + 1 + j = (off + j) + 1 from by omega]
    simpa using this

/-- the list with us laid over it from off on. -/
def putN : Nat → List Value → List Value → Option (List Value)
  | 0, [], cs => some cs
  | 0, u :: us, _ :: cs => match putN 0 us cs with
    | some r => some (u :: r)
    | none => none
  | off + 1, us, c :: cs => match putN off us cs with
    | some r => some (c :: r)
    | none => none
  | _, _, [] => none

theorem putN_eq : ∀ {off : Nat} {us cs ds : List Value}, putN off us cs = some ds → off + us.length ≤ cs.length ∧ ds = cs.take off ++ us ++ cs.drop (off + us.length)
  | 0, [], cs, ds, h => by
    have : ds = cs := by cases cs <;> simp [putN] at h <;> first | exact h | exact h.symm
    subst this
    simp
  | 0, u :: us, [], ds, h => by simp [putN] at h
  | off + 1, us, [], ds, h => by simp [putN] at h
  | 0, u :: us, c :: cs, ds, h => by
    simp only [putN] at h
    cases hr : putN 0 us cs with
    | none => rw [hr] at h; cases h
    | some r =>
      rw [hr] at h
      injection h with h
      subst h
      obtain ⟨h1, h2⟩ := putN_eq hr
      subst h2
      refine ⟨by simp at h1 ⊢; omega, ?_⟩
      simp
  | off + 1, us, c :: cs, ds, h => by
    simp only [putN] at h
    cases hr : putN off us cs with
    | none => rw [hr] at h; cases h
    | some r =>
      rw [hr] at h
      injection h with h
      subst h
      obtain ⟨h1, h2⟩ := putN_eq hr
      subst h2
      refine ⟨by simp; omega, ?_⟩
      rw [show off + 1 + us.length = (off + us.length) + 1 from by omega]
      simp

-- ===== a row behind an own value =====

theorem row_nil_or {w : World} {v : Value} {t : TypeId} {size n : Nat} {xs : List Value} (h : w.ownsRow 0 t size v n xs) :
    ∃ A c, v = .slice A n c ∧ n ≤ c ∧ c ≤ maxLen ∧ (0 < n → ∃ g, A = some ⟨g, 0, none⟩) := by
  rcases h.2 with ⟨rfl, rfl⟩ | ⟨g, cap, cur, rfl, _, _, hc, hm, _⟩
  · exact ⟨none, 0, rfl, Nat.le_refl _, by simp [maxLen], fun h => absurd h (by omega)⟩
  · exact ⟨_, _, rfl, hc, hm, fun _ => ⟨g, rfl⟩⟩

/-- an own row, let go: its cells last. -/
theorem slP_of_row {w : World} {v : Value} {t : TypeId} {size n : Nat} {xs : List Value} {O : Nat → Prop} (h : w.ownsRow 0 t size v n xs) (hO : ∀ k, v.ownBlock = some k → ¬ O k) : slP size v n xs w O := by
  obtain ⟨h1, h2⟩ := h
  refine ⟨h1, ?_⟩
  rcases h2 with ⟨rfl, rfl⟩ | ⟨g, cap, cur, rfl, _, hh, hc, hm, hs, ht⟩
  · exact ⟨none, 0, rfl, Nat.le_refl _, by simp [maxLen], fun h => absurd h (by omega)⟩
  · refine ⟨_, _, rfl, hc, hm, fun _ => ⟨_, rfl, (Array.getElem?_eq_some_iff.1 hh).1, hO g rfl, fun j u hu => ?_⟩⟩
    exact World.ownsRow.cells (w := w) (base := 0) (e := t) (size := size) (v := .slice (some ⟨g, 0, none⟩) n cap) (n := n) (xs := xs) ⟨h1, .inr ⟨g, cap, cur, rfl, Nat.zero_le _, hh, hc, hm, hs, ht⟩⟩ rfl j u hu


section
variable {C : Ctx} {ops : Array Oper} {l : List Oper} {fr : Fr} {Γ Γ' : List OA} {Φ : List SP} {Q : Exit → Act → World → Prop}
  {d : Nat} {ty : TypeId} {pos : String} {aft : Array Edge} {g : Option (Nat × Bool)}

theorem Holds.letgo {v : Value} {t : TypeId} {size n : Nat} {xs : List Value} {w : World} (h : Holds C (.row v t size n xs :: Γ) Φ w) : Holds C Γ (Sl size v n xs :: Φ) w := by
  have ho := h.own
  refine h.drop.cons (slP_of_row ho.1 fun k hk hO => ?_)
  rcases hO with hO | hO
  · have h1 := h.o0 k hO
    rcases h.ofp k (fpL_cons.2 (.inl hk)) with h2 | h2
    · exact h1.2 h2
    · omega
  · exact ho.2.1 k hk hO

theorem Holds.letgoB {v : Value} {t : TypeId} {bs : List UInt8} {n : Nat} {xs : List Value} {w : World} (h : Holds C (.row v t 1 n xs :: Γ) Φ w) (hx : xs = bs.map bcell) : Holds C Γ (By v bs :: Φ) w := by
  have h1 := h.letgo
  have hn : n = bs.length := by
    have := h.own.1.1
    subst hx
    simpa using this.symm
  subst hx
  subst hn
  exact h1

theorem pick_holds {x : OA} {w : World} (hp : Pick x Γ Γ') (h : Holds C Γ Φ w) : Holds C (x :: Γ') Φ w := h.perm hp

theorem blk_cell {b : Nat} {t : TypeId} {cs : List Value} {w : World} (h : (OA.blk b t cs).holds w) (i : Nat) : w.cell? ⟨b, i, none⟩ = cs[i]? := by
  have h : w.heap[b]? = some (.cells cs.toArray t (0, 0)) := h
  rw [cell_of_row w b i cs.toArray t (0, 0) h]
  simp

theorem run_load_cell {P : Program} {w : World} {a : Addr} {v : Value} (h : w.cell? a = some v) : (load a).run P w = .ok v w := by
  simp only [load, Sem.run]
  rw [h]

theorem run_loadVar_one {P : Program} {w : World} {t : TypeId} {a : Addr} {v : Value} (hagg : ∀ w, (isAgg t).run P w = .ok false w) (h : w.cell? a = some v) : (loadVar t a).run P w = .ok v w := by
  simp only [loadVar, hagg, Sem.run_bind, Result.andThen_ok]
  exact run_load_cell h

theorem run_loadVar_agg {P : Program} {w : World} {t : TypeId} {a : Addr} {us : List Value} (hagg : ∀ w, (isAgg t).run P w = .ok true w) (hs : ∀ w, (sizeOf t).run P w = .ok us.length w)
    (h : ∀ j u, us[j]? = some u → w.cell? (a.add j) = some u) : (loadVar t a).run P w = .ok (.agg us.toArray) w := by
  simp [loadVar, hagg, hs, run_loadCells_list w a us h]

theorem R_load1 {t bt : TypeId} {x : Operand} {b off : Nat} {cs : List Value} {v : Value} (hx : evO fr x = some (.pointer (some ⟨b, off, none⟩)))
    (hp : Pick (.blk b bt cs) Γ Γ') (hagg : ∀ w, (isAgg t).run C.P w = .ok false w) (hc : cs[off]? = some v) : Runs C fr Γ Φ ⟨some d, .load t x, ty, pos, aft, g⟩ v :=
  Runs.pure fun a w ha hw => by
    have hb := (pick_holds hp hw).own.1
    simp [execOp, evO_sound ha hx, Instr.loadAt, Instr.sureAddr, run_loadVar_one hagg ((blk_cell hb off).trans hc)]

theorem R_loadN {t bt : TypeId} {x : Operand} {b off n : Nat} {cs us : List Value} (hx : evO fr x = some (.pointer (some ⟨b, off, none⟩)))
    (hp : Pick (.blk b bt cs) Γ Γ') (hagg : ∀ w, (isAgg t).run C.P w = .ok true w) (hs : ∀ w, (sizeOf t).run C.P w = .ok n w) (hc : takeN off n cs = some us) :
    Runs C fr Γ Φ ⟨some d, .load t x, ty, pos, aft, g⟩ (.agg us.toArray) :=
  Runs.pure fun a w ha hw => by
    have hb := (pick_holds hp hw).own.1
    obtain ⟨h1, h2⟩ := takeN_at hc
    have hl := run_loadVar_agg (P := C.P) (w := w) (t := t) (a := ⟨b, off, none⟩) (us := us) hagg (by rw [h1]; exact hs) (fun j u hu => by rw [Addr.add_lit, blk_cell hb]; exact h2 j u hu)
    simp [execOp, evO_sound ha hx, Instr.loadAt, Instr.sureAddr, hl]

theorem R_loadP {t : TypeId} {x : Operand} {p : Value} {us : List Value} {v : Value} (hx : evO fr x = some p)
    (hm : Pt p us ∈ Φ) (hagg : ∀ w, (isAgg t).run C.P w = .ok false w) (hc : us[0]? = some v) : Runs C fr Γ Φ ⟨some d, .load t x, ty, pos, aft, g⟩ v :=
  Runs.pure fun a w ha hw => by
    obtain ⟨ad, hv, _, _, hcell⟩ := hw.sp _ hm
    have h0 := hcell 0 v hc
    rw [Addr.add_zero'] at h0
    simp [execOp, evO_sound ha hx, hv, Instr.loadAt, Instr.sureAddr, run_loadVar_one hagg h0]

theorem R_loadPN {t : TypeId} {x : Operand} {p : Value} {us : List Value} (hx : evO fr x = some p)
    (hm : Pt p us ∈ Φ) (hagg : ∀ w, (isAgg t).run C.P w = .ok true w) (hs : ∀ w, (sizeOf t).run C.P w = .ok us.length w) : Runs C fr Γ Φ ⟨some d, .load t x, ty, pos, aft, g⟩ (.agg us.toArray) :=
  Runs.pure fun a w ha hw => by
    obtain ⟨ad, hv, _, _, hcell⟩ := hw.sp _ hm
    simp [execOp, evO_sound ha hx, hv, Instr.loadAt, Instr.sureAddr, run_loadVar_agg hagg hs hcell]

theorem run_fieldAt {P : Program} {t : TypeId} {fs : Array Field} {a : Addr} {i : Nat} {f : Field} {n : Nat} (ht : P.underlying t = some (.struct fs)) (hf : fs[i]? = some f) (hs : ∀ w, (sizeOf f.type).run P w = .ok n w) (hn : Nat.beq n 0 = false) (w : World) :
    (Instr.fieldAt t (.pointer (some a)) i).run P w = .ok (.pointer (some (a.add f.offset))) w := by
  have : n ≠ 0 := fun e => by subst e; cases hn
  simp [Instr.fieldAt, run_underlying ht, hf, Instr.sureAddr, fieldPlace, hs, this]

/-- a field's address in an own block. -/
theorem R_fieldO {t ft : TypeId} {fs : Array Field} {x : Operand} {b off i n fo bo : Nat} {nm tag pk : String} {emb : Bool} (hx : evO fr x = some (.pointer (some ⟨b, off, none⟩)))
    (ht : C.P.underlying t = some (.struct fs)) (hf : fs[i]? = some ⟨nm, ft, fo, emb, tag, pk, bo⟩) (hs : ∀ w, (sizeOf ft).run C.P w = .ok n w) (hn : Nat.beq n 0 = false) :
    Runs C fr Γ Φ ⟨some d, .fieldAddr t x i, ty, pos, aft, g⟩ (.pointer (some ⟨b, off + fo, none⟩)) :=
  Runs.pure fun a w ha _ => by
    have h := run_fieldAt (P := C.P) (a := ⟨b, off, none⟩) ht hf hs hn w
    simp only [Addr.add_lit] at h
    simp only [execOp, evO_sound ha hx, Sem.run_bind, h, Result.andThen_ok, Sem.run_pure]
theorem R_fieldO0 {t ft : TypeId} {fs : Array Field} {x : Operand} {b i n fo bo : Nat} {nm tag pk : String} {emb : Bool} (hx : evO fr x = some (.pointer (some ⟨b, 0, none⟩)))
    (ht : C.P.underlying t = some (.struct fs)) (hf : fs[i]? = some ⟨nm, ft, fo, emb, tag, pk, bo⟩) (hs : ∀ w, (sizeOf ft).run C.P w = .ok n w) (hn : Nat.beq n 0 = false) :
    Runs C fr Γ Φ ⟨some d, .fieldAddr t x i, ty, pos, aft, g⟩ (.pointer (some ⟨b, fo, none⟩)) := by
  have h := R_fieldO (Γ := Γ) (Φ := Φ) (d := d) (ty := ty) (pos := pos) (aft := aft) (g := g) hx ht hf hs hn
  rwa [Nat.zero_add] at h

/-- a field's address behind a pointer to data. -/
def fldV (off : Nat) : Value → Value
  | .pointer (some a) => .pointer (some (a.add off))
  | v => v

theorem ent_fld {p : Value} {us : List Value} {off : Nat} (hm : Pt p us ∈ Φ) : Ent Φ (Pt (fldV off p) (us.drop off)) := fun w O h => by
  obtain ⟨ad, hv, hlt, hO, hcell⟩ := h _ hm
  subst hv
  refine ⟨_, rfl, by rw [block_add]; exact hlt, by rw [block_add]; exact hO, fun j u hu => ?_⟩
  rw [add_add']
  exact hcell _ u (by rw [← hu, List.getElem?_drop])

theorem R_fieldP {t ft : TypeId} {fs : Array Field} {x : Operand} {p : Value} {us us' : List Value} {i off n bo : Nat} {nm tag pk : String} {emb : Bool} (hx : evO fr x = some p)
    (hm : Pt p us ∈ Φ) (ht : C.P.underlying t = some (.struct fs)) (hf : fs[i]? = some ⟨nm, ft, off, emb, tag, pk, bo⟩) (hs : ∀ w, (sizeOf ft).run C.P w = .ok n w) (hn : Nat.beq n 0 = false) (hd : us.drop off = us') :
    Runs C fr Γ Φ ⟨some d, .fieldAddr t x i, ty, pos, aft, g⟩ (fldV off p) ∧ Ent Φ (Pt (fldV off p) us') := by
  subst hd
  refine ⟨Runs.pure fun a w ha hw => ?_, ent_fld hm⟩
  obtain ⟨ad, hv, _, _, _⟩ := hw.sp _ hm
  have h := run_fieldAt (P := C.P) (a := ad) ht hf hs hn w
  simp only [execOp, evO_sound ha hx, hv, Sem.run_bind, h, Result.andThen_ok, Sem.run_pure, fldV]

theorem setRow_holds {b : Nat} {t : TypeId} {cs ds : List Value} {w : World} (h : Holds C (.blk b t cs :: Γ) Φ w) : Holds C (.blk b t ds :: Γ) Φ (w.setRow b ds.toArray) := by
  have hb : w.heap[b]? = some (.cells cs.toArray t (0, 0)) := h.own.1
  have hother : ∀ k, k ≠ b → (w.setRow b ds.toArray).heap[k]? = w.heap[k]? := fun k hk => setRow_other w b k _ hk
  refine h.move ⟨rfl, rfl, rfl, by simp, fun k _ hn => hother k fun e => hn (fpL_cons.2 (.inl e))⟩ ⟨?_, h.own.2.1, h.own.2.2.keep fun k _ hk => hother k fun e => h.own.2.1 k e hk⟩
    fun k _ hk => fpL_cons.2 (Or.imp_left (fun (e : k = b) => (e : (OA.blk b t cs).fp k)) (fpL_cons.1 hk))
  exact setRow_heap w b _ _ t _ hb

theorem run_storeVar_own {P : Program} {w : World} {t bt : TypeId} {b off : Nat} {cs us ds : List Value} {v : Value} (hb : w.heap[b]? = some (.cells cs.toArray bt (0, 0)))
    (hs : ∀ w, (sizeOf t).run P w = .ok us.length w) (hv : v.cells = us.toArray) (h1 : ∀ u ∈ us, u.oneCell' = true) (hp : putN off us cs = some ds) :
    (storeVar t ⟨b, off, none⟩ v).run P w = .ok () (w.setRow b ds.toArray) := by
  obtain ⟨hl, rfl⟩ := putN_eq hp
  have h := run_storeCells_at P b off bt us 0 cs.toArray w hb (by simpa using hl) h1
  simp only [Nat.add_zero] at h
  simp [storeVar, hv, hs, h]

-- ===== slices =====

theorem R_lenSl {t : TypeId} {x : Operand} {v : Value} {size n : Nat} {xs : List Value} {e : TypeId} (hx : evO fr x = some v)
    (hm : Sl size v n xs ∈ Φ) (ht : C.P.underlying t = some (.slice e)) : Runs C fr Γ Φ ⟨some d, .call { callee := .builtin .len, args := #[x], argTypes := #[t] }, ty, pos, aft, g⟩ (.int .i64 (n : Int)) :=
  Runs.pure fun a w ha hw => by
    obtain ⟨_, A, c, hv, _⟩ := hw.sp _ hm
    simp [execOp, resolve, invoke, builtin, evO_sound ha hx, hv, Builtin.len_, run_underlying ht, goInt]

theorem R_lenBy {t : TypeId} {x : Operand} {v : Value} {bs : List UInt8} {e : TypeId} (hx : evO fr x = some v)
    (hm : By v bs ∈ Φ) (ht : C.P.underlying t = some (.slice e)) : Runs C fr Γ Φ ⟨some d, .call { callee := .builtin .len, args := #[x], argTypes := #[t] }, ty, pos, aft, g⟩ (.int .i64 (bs.length : Int)) :=
  Runs.pure fun a w ha hw => by
    obtain ⟨_, A, c, hv, _⟩ := hw.sp _ hm
    simp [execOp, resolve, invoke, builtin, evO_sound ha hx, hv, Builtin.len_, run_underlying ht, goInt]

theorem R_lenRow {t : TypeId} {x : Operand} {v : Value} {rt : TypeId} {size n : Nat} {xs : List Value} {e : TypeId} (hx : evO fr x = some v)
    (hp : Pick (.row v rt size n xs) Γ Γ') (ht : C.P.underlying t = some (.slice e)) : Runs C fr Γ Φ ⟨some d, .call { callee := .builtin .len, args := #[x], argTypes := #[t] }, ty, pos, aft, g⟩ (.int .i64 (n : Int)) :=
  Runs.pure fun a w ha hw => by
    obtain ⟨A, c, hv, _⟩ := row_nil_or (pick_holds hp hw).own.1
    simp [execOp, resolve, invoke, builtin, evO_sound ha hx, hv, Builtin.len_, run_underlying ht, goInt]

theorem R_lenNil {t : TypeId} {x : Operand} {A : Option Addr} {n c : Nat} {e : TypeId} (hx : evO fr x = some (.slice A n c))
    (ht : C.P.underlying t = some (.slice e)) : Runs C fr Γ Φ ⟨some d, .call { callee := .builtin .len, args := #[x], argTypes := #[t] }, ty, pos, aft, g⟩ (.int .i64 (n : Int)) :=
  Runs.pure fun a w ha _ => by
    simp [execOp, resolve, invoke, builtin, evO_sound ha hx, Builtin.len_, run_underlying ht, goInt]

theorem run_indexAt_some {P : Program} {w : World} {t e : TypeId} {size : Nat} {ad : Addr} {n c : Nat} {kd : IntKind} {i : Nat} (ht : P.underlying t = some (.slice e)) (hs : ∀ w, (sizeOf e).run P w = .ok size w) (hi : i < n) :
    (Instr.indexAt t (.slice (some ad) n c) (.int kd (i : Int))).run P w = .ok (.pointer (some (ad.add (i * size)))) w := by
  simp [Instr.indexAt, asIntOf, run_underlying ht, hs, hi]


/-- an element's address in lasting data. -/
def idxV (size i : Nat) : Value → Value
  | .slice (some ad) _ _ => .pointer (some (ad.add (i * size)))
  | v => v

theorem ent_idxBy {v : Value} {bs : List UInt8} {i : Nat} (hm : By v bs ∈ Φ) (hi : i < bs.length) : Ent Φ (Pt (idxV 1 i v) [bcell (bs.getD i 0)]) := fun w O h => by
  obtain ⟨hl, A, c, hv, _, _, hr⟩ := h _ hm
  obtain ⟨ad, rfl, hlt, hO, hcell⟩ := hr (by omega)
  subst hv
  refine ⟨_, rfl, by rw [block_add]; exact hlt, by rw [block_add]; exact hO, fun j u hu => ?_⟩
  cases j with
  | zero =>
    rw [Addr.add_zero', Nat.mul_one]
    refine hcell i u ?_
    simp at hu
    subst hu
    simp [hi]
  | succ j => simp at hu

theorem R_idxBy {t e : TypeId} {x y : Operand} {v : Value} {bs : List UInt8} {kd : IntKind} {ii : Int} {i : Nat}
    (hx : evO fr x = some v) (hy : evO fr y = some (.int kd ii)) (hm : By v bs ∈ Φ) (ht : C.P.underlying t = some (.slice e)) (hs : ∀ w, (sizeOf e).run C.P w = .ok 1 w) (hii : ii = (i : Int)) (hi : i < bs.length) :
    Runs C fr Γ Φ ⟨some d, .indexAddr t x y, ty, pos, aft, g⟩ (idxV 1 i v) ∧ Ent Φ (Pt (idxV 1 i v) [bcell (bs.getD i 0)]) := by
  subst hii
  refine ⟨Runs.pure fun a w ha hw => ?_, ent_idxBy hm hi⟩
  obtain ⟨hl, A, c, hv, _, _, hr⟩ := hw.sp _ hm
  obtain ⟨ad, rfl, _⟩ := hr (by omega)
  simp [execOp, evO_sound ha hx, evO_sound ha hy, hv, run_indexAt_some ht hs hi, idxV]

/-- x[lo:hi] of lasting data. -/
theorem run_slice_data {P : Program} {w : World} {t e : TypeId} {size n c lo hi : Nat} {A : Option Addr} {kl kh : IntKind} (ht : P.underlying t = some (.slice e)) (hs : ∀ w, (sizeOf e).run P w = .ok size w) (h1 : lo ≤ hi) (h2 : hi ≤ c) :
    (Instr.sliceAt t (.slice A n c) (some (.int kl (lo : Int))) (some (.int kh (hi : Int))) none).run P w = .ok (.slice (if c = lo then A else A.map (·.add (lo * size))) (hi - lo) (c - lo)) w := by
  simp [Instr.sliceAt, Instr.slice, Instr.sliceBounds, Instr.sliceBound, asIntOf, run_underlying ht, hs, h1, h2]

theorem run_slice_data_h {P : Program} {w : World} {t e : TypeId} {size n c hi : Nat} {A : Option Addr} {kh : IntKind} (ht : P.underlying t = some (.slice e)) (hs : ∀ w, (sizeOf e).run P w = .ok size w) (h2 : hi ≤ c) :
    (Instr.sliceAt t (.slice A n c) none (some (.int kh (hi : Int))) none).run P w = .ok (.slice (if c = 0 then A else A.map (·.add (0 * size))) (hi - 0) (c - 0)) w := by
  simp [Instr.sliceAt, Instr.slice, Instr.sliceBounds, Instr.sliceBound, asIntOf, run_underlying ht, hs, h2]

theorem run_slice_data_l {P : Program} {w : World} {t e : TypeId} {size n c lo : Nat} {A : Option Addr} {kl : IntKind} (ht : P.underlying t = some (.slice e)) (hs : ∀ w, (sizeOf e).run P w = .ok size w) (h1 : lo ≤ n) :
    (Instr.sliceAt t (.slice A n c) (some (.int kl (lo : Int))) none none).run P w = .ok (.slice (if c = lo then A else A.map (·.add (lo * size))) (n - lo) (c - lo)) w := by
  simp [Instr.sliceAt, Instr.slice, Instr.sliceBounds, Instr.sliceBound, asIntOf, run_underlying ht, hs, h1]

theorem slP_cut {size n c lo hi : Nat} {A : Option Addr} {xs : List Value} {w : World} {O : Nat → Prop} (h : slP size (.slice A n c) n xs w O) (h1 : lo ≤ hi) (h2 : hi ≤ n) :
    slP size (.slice (if c = lo then A else A.map (·.add (lo * size))) (hi - lo) (c - lo)) (hi - lo) ((xs.drop (lo * size)).take ((hi - lo) * size)) w O := by
  obtain ⟨hl, A', c', hv, hc, hcm, hr⟩ := h
  injection hv with e1 e2 e3
  subst e1
  subst e3
  refine ⟨?_, _, _, rfl, by omega, by omega, fun hn => ?_⟩
  · rw [List.length_take, List.length_drop, hl, ← Nat.sub_mul]
    exact Nat.min_eq_left (Nat.mul_le_mul_right _ (by omega))
  · obtain ⟨ad, rfl, hlt, hO, hcell⟩ := hr (by omega)
    rw [if_neg (by omega)]
    refine ⟨ad.add (lo * size), rfl, by rw [block_add]; exact hlt, by rw [block_add]; exact hO, fun j u hu => ?_⟩
    rw [add_add']
    rw [List.getElem?_take] at hu
    split at hu
    · exact hcell _ u (by rw [← hu, List.getElem?_drop])
    · cases hu

/-- the bounds that a slice expression names: (lo, hi) out of the operands, n the length. -/
def cutLo (fr : Fr) : Option Operand → Option Int
  | none => some 0
  | some x => match evO fr x with
    | some (.int _ i) => some i
    | _ => none
def cutHi (fr : Fr) (n : Nat) : Option Operand → Option Int
  | none => some (n : Int)
  | some x => match evO fr x with
    | some (.int _ i) => some i
    | _ => none

theorem run_cut {P : Program} {a : Act} {m : Ctx} {w : World} {t e : TypeId} {size n c lo hi : Nat} {A : Option Addr} {lo? hi? : Option Operand} (ha : fok m fr a) (ht : P.underlying t = some (.slice e)) (hs : ∀ w, (sizeOf e).run P w = .ok size w)
    (hlo : cutLo fr lo? = some (lo : Int)) (hhi : cutHi fr n hi? = some (hi : Int)) (h1 : lo ≤ hi) (h2 : hi ≤ n) (h3 : n ≤ c) :
    (Instr.sliceAt t (.slice A n c) (lo?.map a.eval) (hi?.map a.eval) none).run P w = .ok (.slice (if c = lo then A else A.map (·.add (lo * size))) (hi - lo) (c - lo)) w := by
  have hL : (lo? = none ∧ lo = 0) ∨ ∃ x kl, lo? = some x ∧ a.eval x = .int kl (lo : Int) := by
    cases lo? with
    | none => left; simp [cutLo] at hlo; exact ⟨rfl, by omega⟩
    | some x =>
      right
      simp only [cutLo] at hlo
      split at hlo
      · rename_i kl i hx
        injection hlo with hlo
        exact ⟨x, kl, rfl, by rw [← hlo]; exact evO_sound ha hx⟩
      · cases hlo
  have hH : (hi? = none ∧ hi = n) ∨ ∃ x kl, hi? = some x ∧ a.eval x = .int kl (hi : Int) := by
    cases hi? with
    | none => left; simp [cutHi] at hhi; exact ⟨rfl, by omega⟩
    | some x =>
      right
      simp only [cutHi] at hhi
      split at hhi
      · rename_i kl i hx
        injection hhi with hhi
        exact ⟨x, kl, rfl, by rw [← hhi]; exact evO_sound ha hx⟩
      · cases hhi
  rcases hL with ⟨rfl, rfl⟩ | ⟨x, kl, rfl, hx⟩ <;> rcases hH with ⟨rfl, rfl⟩ | ⟨y, kh, rfl, hy⟩
  · simp [Instr.sliceAt, Instr.slice, Instr.sliceBounds, run_underlying ht, hs]
  · simp only [Option.map_none, Option.map_some, hy]
    exact run_slice_data_h ht hs (by omega)
  · simp only [Option.map_none, Option.map_some, hx]
    exact run_slice_data_l ht hs h1
  · simp only [Option.map_some, hx, hy]
    exact run_slice_data ht hs h1 (by omega)


def cutV (size lo hi : Nat) : Value → Value
  | .slice A _ c => .slice (if c = lo then A else A.map (·.add (lo * size))) (hi - lo) (c - lo)
  | v => v

theorem ent_cutBy {v : Value} {lo hi : Nat} {bs : List UInt8} (hm : By v bs ∈ Φ) (h1 : lo ≤ hi) (h2 : hi ≤ bs.length) : Ent Φ (By (cutV 1 lo hi v) ((bs.drop lo).take (hi - lo))) := fun w O h => by
  have hsl := h _ hm
  have hsl' : slP 1 v bs.length (bs.map bcell) w O := hsl
  obtain ⟨_, A, c, hv, hc, _⟩ := hsl
  subst hv
  have h := slP_cut hsl' h1 h2
  show slP 1 _ ((bs.drop lo).take (hi - lo)).length (((bs.drop lo).take (hi - lo)).map bcell) w _
  have e1 : ((bs.drop lo).take (hi - lo)).length = hi - lo := by simp; omega
  have e2 : (((bs.map bcell).drop (lo * 1)).take ((hi - lo) * 1)) = ((bs.drop lo).take (hi - lo)).map bcell := by simp [List.map_take, List.map_drop]
  rw [e1, ← e2]
  exact h

theorem R_cutBy {t e : TypeId} {x : Operand} {lo? hi? : Option Operand} {v : Value} {bs bs' : List UInt8} {ilo ihi : Int} {lo hi : Nat}
    (hx : evO fr x = some v) (hm : By v bs ∈ Φ) (ht : C.P.underlying t = some (.slice e)) (hs : ∀ w, (sizeOf e).run C.P w = .ok 1 w)
    (hlo : cutLo fr lo? = some ilo) (hhi : cutHi fr bs.length hi? = some ihi) (el : ilo = (lo : Int)) (eh : ihi = (hi : Int)) (h1 : lo ≤ hi) (h2 : hi ≤ bs.length) (hb : (bs.drop lo).take (hi - lo) = bs') :
    Runs C fr Γ Φ ⟨some d, .slice t x lo? hi? none, ty, pos, aft, g⟩ (cutV 1 lo hi v) ∧ Ent Φ (By (cutV 1 lo hi v) bs') := by
  subst el; subst eh; subst hb
  refine ⟨Runs.pure fun a w ha hw => ?_, ent_cutBy hm h1 h2⟩
  obtain ⟨_, A, c, hv, hc, _⟩ := hw.sp _ hm
  subst hv
  simp only [execOp, Sem.run_bind, evO_sound ha hx, run_cut ha ht hs hlo hhi h1 h2 hc, Option.map_none, Result.andThen_ok, Sem.run_pure, cutV]

-- ===== strings =====

theorem run_bytesToString' {P : Program} {w : World} {v : Value} {bs : List UInt8} {O : Nat → Prop} (h : slP 1 v bs.length (bs.map bcell) w O) : (Conv.bytesToString v).run P w = .ok (strV bs) w := by
  obtain ⟨_, A, A_c, rfl, _, _, hr⟩ := h
  cases A with
  | none =>
    have : bs = [] := by
      cases bs with
      | nil => rfl
      | cons b r => obtain ⟨ad, h, _⟩ := hr (by simp); cases h
    subst this
    rfl
  | some ad =>
    have hc : (loadCells ad bs.length).run P w = .ok (bs.map bcell).toArray w := by
      have := run_loadCells_list (P := P) w ad (bs.map bcell) (fun j u hu => by
        by_cases hb : 0 < bs.length
        · obtain ⟨ad', h, _, _, hcell⟩ := hr hb
          injection h with h
          subst h
          exact hcell j u hu
        · have : bs = [] := List.eq_nil_of_length_eq_zero (by omega)
          subst this
          simp at hu)
      simpa using this
    have hf : ∀ (l : List UInt8) (s : ByteArray), (l.map fun b => (b.toNat : Int)).foldl (fun r n => r.push (UInt8.ofNat n.toNat)) s = ⟨s.data ++ l.toArray⟩ := by
      intro l
      induction l with
      | nil => intro s; simp
      | cons b r ih =>
        intro s
        simp only [List.map_cons, List.foldl_cons, ih, Int.toNat_natCast, UInt8.ofNat_toNat]
        simp [ByteArray.push]
    have hr := run_bytesToString (P := P) w ad bs.length A_c (bs.map fun b => (b.toNat : Int)) (by rw [hc]; simp [bcell, Function.comp_def])
    rw [hr, hf]
    simp [strV, ByteArray.empty, ByteArray.emptyWithCapacity]
    rfl

theorem R_toStr {s t e : TypeId} {x : Operand} {v : Value} {bs : List UInt8} (hx : evO fr x = some v)
    (hm : By v bs ∈ Φ) (hs : C.P.underlying s = some (.slice e)) (he : C.P.underlying e = some (.int .u8)) (ht : C.P.underlying t = some .string) :
    Runs C fr Γ Φ ⟨some d, .convert s t x, ty, pos, aft, g⟩ (strV bs) :=
  Runs.pure fun a w ha hw => by
    have hsl : slP 1 v bs.length (bs.map bcell) w (avo C.O0 Γ) := hw.sp _ hm
    have hr := run_bytesToString' (P := C.P) hsl
    obtain ⟨_, A, c, hv, _⟩ := hsl
    subst hv
    simp only [execOp, evO_sound ha hx, convert, Sem.run_bind, run_underlying hs, run_underlying ht, Result.andThen_ok, run_underlying he, hr, Sem.run_pure]

/-- an own row read as a string. -/
theorem R_toStrRow {s t e rt : TypeId} {x : Operand} {v : Value} {bs : List UInt8} {n : Nat} {xs : List Value} (hx : evO fr x = some v)
    (hp : Pick (.row v rt 1 n xs) Γ Γ') (hxs : xs = bs.map bcell) (hs : C.P.underlying s = some (.slice e)) (he : C.P.underlying e = some (.int .u8)) (ht : C.P.underlying t = some .string) :
    Runs C fr Γ Φ ⟨some d, .convert s t x, ty, pos, aft, g⟩ (strV bs) :=
  Runs.pure fun a w ha hw => by
    have h1 := (pick_holds hp hw).letgoB hxs
    have hsl : slP 1 v bs.length (bs.map bcell) w (avo C.O0 Γ') := h1.sp _ List.mem_cons_self
    have hr := run_bytesToString' (P := C.P) hsl
    obtain ⟨_, A, c, hv, _⟩ := hsl
    subst hv
    simp only [execOp, evO_sound ha hx, convert, Sem.run_bind, run_underlying hs, run_underlying ht, Result.andThen_ok, run_underlying he, hr, Sem.run_pure]

theorem ent_nilBy : Ent Φ (By (.slice none 0 0) []) := fun _ _ _ => ⟨rfl, none, 0, rfl, Nat.le_refl _, by simp [maxLen], fun h => absurd h (by simp)⟩
theorem ent_nilSl {size : Nat} : Ent Φ (Sl size (.slice none 0 0) 0 []) := fun _ _ _ => ⟨by simp, none, 0, rfl, Nat.le_refl _, by simp [maxLen], fun h => absurd h (by simp)⟩

-- ===== what a value's cells are =====

/-- the value is of one cell. -/
def OneC (C : Ctx) (Γ : List OA) (Φ : List SP) (u : Value) : Prop := ∀ R w, Holds C (Γ ++ R) Φ w → u.oneCell' = true
theorem OneC.lit {u : Value} (h : u.oneCell' = true) : OneC C Γ Φ u := fun _ _ _ => h
theorem OneC.by_ {u : Value} {bs : List UInt8} (h : By u bs ∈ Φ) : OneC C Γ Φ u := fun _ _ hw => by
  obtain ⟨_, A, c, rfl, _⟩ := hw.sp _ h
  rfl
theorem OneC.sl {u : Value} {size n : Nat} {xs : List Value} (h : Sl size u n xs ∈ Φ) : OneC C Γ Φ u := fun _ _ hw => by
  obtain ⟨_, A, c, rfl, _⟩ := hw.sp _ h
  rfl
theorem OneC.row {u : Value} {t : TypeId} {size n : Nat} {xs : List Value} (h : Pick (.row u t size n xs) Γ Γ') : OneC C Γ Φ u := fun R _ hw => by
  obtain ⟨A, c, rfl, _⟩ := row_nil_or (pick_holds (h.append_right R) hw).own.1
  rfl
def Ones (C : Ctx) (Γ : List OA) (Φ : List SP) (us : List Value) : Prop := ∀ u ∈ us, OneC C Γ Φ u
theorem Ones.nil : Ones C Γ Φ [] := fun _ h => by cases h
theorem Ones.cons {u : Value} {us : List Value} (h : OneC C Γ Φ u) (k : Ones C Γ Φ us) : Ones C Γ Φ (u :: us) := fun v hv => by
  rcases List.mem_cons.1 hv with rfl | hv
  · exact h
  · exact k v hv
theorem Ones.bytes {bs : List UInt8} : Ones C Γ Φ (bs.map bcell) := fun u hu _ _ _ => bcells_one bs u hu

/-- the value's cells. -/
def CellsE (C : Ctx) (Γ : List OA) (Φ : List SP) (v : Value) (us : List Value) : Prop := ∀ R w, Holds C (Γ ++ R) Φ w → v.cells = us.toArray
theorem CellsE.lit {v : Value} {us : List Value} (h : listO v.cells.toList = some us) : CellsE C Γ Φ v us := fun _ _ _ => by rw [← listO_eq h]
theorem CellsE.one {v : Value} (h : OneC C Γ Φ v) : CellsE C Γ Φ v [v] := fun R w hw => by
  have := h R w hw
  cases v <;> first | rfl | cases this

-- ===== what makes memory, or writes what is owned =====

theorem pick_app {x : OA} {Γ Γ' : List OA} (h : Pick x Γ Γ') (R : List OA) : Pick x (Γ ++ R) (Γ' ++ R) := h.append_right R

theorem E_alloc {t : TypeId} {z : Value} {cs : List Value} (hz : ∀ w, (zeroValue t).run C.P w = .ok z w) (hc : listO z.cells.toList = some cs) :
    Effs C fr Γ Φ ⟨some d, .alloc t, ty, pos, aft, g⟩ (X := Nat) (fun _ => True) (fun b => .pointer (some ⟨b, 0, none⟩)) (fun b => .blk b t cs :: Γ) (fun _ => Φ) := by
  have hc := listO_eq hc
  subst hc
  refine ⟨fun _ => AllIn.refl _, fun R a w _ hw => .val (w' := w.alloc (.cells z.cells t)) ?_ ⟨w.heap.size, trivial, rfl, hw.alloc t z.cells⟩⟩
  simp only [execOp, Instr.alloc, Sem.run_bind, hz, Result.andThen_ok, newVar, newRow, newObj]
  rfl

theorem E_box {t : TypeId} {x : Operand} {v : Value} {cs : List Value} (hx : evO fr x = some v) (hc : CellsE C Γ Φ v cs) :
    Effs C fr Γ Φ ⟨some d, .box t x, ty, pos, aft, g⟩ (X := Nat) (fun _ => True) (fun b => .pointer (some ⟨b, 0, none⟩)) (fun b => .blk b t cs :: Γ) (fun _ => Φ) := by
  refine ⟨fun _ => AllIn.refl _, fun R a w ha hw => ?_⟩
  have hc := hc R w hw
  have hal := hw.alloc t v.cells
  rw [hc] at hal
  refine .val (w' := w.alloc (.cells v.cells t)) ?_ ⟨w.heap.size, trivial, rfl, by rw [hc]; exact hal⟩
  simp only [execOp, Instr.box, Sem.run_bind, newVar, newRow, newObj, evO_sound ha hx]
  rfl

/-- a store into an own block: v's cells are us. -/
theorem E_store {t bt : TypeId} {x y : Operand} {b off : Nat} {cs us ds : List Value} {v : Value} (hx : evO fr x = some (.pointer (some ⟨b, off, none⟩))) (hy : evO fr y = some v)
    (hp : Pick (.blk b bt cs) Γ Γ') (hv : CellsE C Γ Φ v us) (hs : ∀ w, (sizeOf t).run C.P w = .ok us.length w) (h1 : Ones C Γ Φ us) (hn : putN off us cs = some ds) :
    Effs C fr Γ Φ ⟨none, .store t x y, ty, pos, aft, g⟩ (X := Unit) (fun _ => True) (fun _ => undef) (fun _ => .blk b bt ds :: Γ') (fun _ => Φ) := by
  refine ⟨fun _ => AllIn.refl _, fun R a w ha hw => ?_⟩
  have hv := hv R w hw
  have h1 : ∀ u ∈ us, u.oneCell' = true := fun u hu => h1 u hu R w hw
  have hw' := pick_holds (pick_app hp R) hw
  have hb : w.heap[b]? = some (.cells cs.toArray bt (0, 0)) := hw'.own.1
  refine .skip (w' := w.setRow b ds.toArray) ?_ ⟨(), trivial, rfl, setRow_holds hw'⟩
  simp [execOp, evO_sound ha hx, evO_sound ha hy, Instr.storeAt, Instr.sureAddr, run_storeVar_own hb hs hv h1 hn]

end
end Go.Hs

/-
  Contracts of functions, calls, loops, endings. No program is named here.
-/
namespace Go.Hs
open Go Go.RowKit

/-- what a call leaves: for some outcome x: the value, the own things handed over, the lasting facts. -/
def FnPost (w : World) (O0 M : Nat → Prop) {X : Type} (pf : X → Prop) (ret : X → Value) (Γ' : X → List OA) (Φ' : X → List SP) : Ending → World → Prop :=
  fun e w' => ∃ x, pf x ∧ e = .returned (ret x) ∧ Mod M w w' ∧ Own (Γ' x) w' ∧ (∀ k, fpL (Γ' x) k → M k ∨ w.heap.size ≤ k) ∧ ∀ ψ ∈ Φ' x, ψ.p w' (avo O0 (Γ' x))

/-- a function's contract: called with args, where it is handed the own things Γ and the facts Φ hold. -/
def Ct (P : Program) (f : FuncId) (args : List Value) (Γ : List OA) (Φ : List SP) {X : Type} (pf : X → Prop) (ret : X → Value) (Γ' : X → List OA) (Φ' : X → List SP) : Prop :=
  ∀ w O0, (∀ k, O0 k → k < w.heap.size ∧ ¬ fpL Γ k) → Own Γ w → (∀ ψ ∈ Φ, ψ.p w (avo O0 Γ)) → Calls P f args.toArray w (FnPost w O0 (fpL Γ) pf ret Γ' Φ')

def argFr : Nat → List Value → Fr
  | _, [] => []
  | i, v :: r => (i, v) :: argFr (i + 1) r

theorem argFr_get : ∀ (l : List Value) (i t : Nat) (v : Value), fget (argFr i l) t = some v → i ≤ t ∧ l[t - i]? = some v
  | [], _, _, _, h => by cases h
  | u :: r, i, t, v, h => by
    rw [argFr, fget_cons] at h
    by_cases e : i = t
    · subst e
      simp at h
      subst h
      simp
    · rw [if_neg e] at h
      obtain ⟨h1, h2⟩ := argFr_get r (i + 1) t v h
      refine ⟨by omega, ?_⟩
      rw [show t - i = (t - (i + 1)) + 1 from by omega]
      simpa using h2

theorem Ct_intro {P : Program} {f : FuncId} {fn : Func} {c : Code} {args : List Value} {Γ : List OA} {Φ : List SP} {X : Type} {pf : X → Prop} {ret : X → Value} {Γ' : X → List OA} {Φ' : X → List SP} {n : Nat}
    (hf : P.funcs[f]? = some fn) (hb : fn.body = some c) (hn : fn.ntmps = n) (hl : args.length ≤ n) (fr : Fr) (hfr : listO (argFr 0 args) = some fr)
    (h : ∀ w0 O0, W ⟨P, n, w0, O0, fpL Γ, none, []⟩ c fr Γ Φ (bodyPost P fn (FnPost w0 O0 (fpL Γ) pf ret Γ' Φ'))) : Ct P f args Γ Φ pf ret Γ' Φ' := by
  intro w O0 hO ho hΦ
  have hfr := listO_eq hfr
  refine calls_of_wp hf hb (wpIn_wide.1 (h w O0 _ w ⟨rfl, ?_, fun t v hv => ?_⟩ ⟨Mod.refl _ _, ho, fun k hk => .inl hk, hO, hΦ⟩))
  · subst hn
    simp
    omega
  · rw [← hfr] at hv
    obtain ⟨_, h2⟩ := argFr_get args 0 t v hv
    rw [Nat.sub_zero] at h2
    have hlt : t < args.length := (List.getElem?_eq_some_iff.1 h2).1
    have h3 := (List.getElem?_eq_some_iff.1 h2).2
    simp [Array.getElem?_append, hlt, h3]

section
variable {C : Ctx} {ops : Array Oper} {l : List Oper} {fr : Fr} {Γ Γ1 : List OA} {Φ : List SP} {Q : Exit → Act → World → Prop}
  {d : Nat} {ty : TypeId} {pos : String} {aft : Array Edge} {g : Option (Nat × Bool)}

theorem avo_append {O0 : Nat → Prop} {Γ Δ : List OA} {k : Nat} : avo O0 (Γ ++ Δ) k ↔ avo (avo O0 Δ) Γ k := by
  unfold avo
  rw [fpL_append]
  constructor
  · rintro (h | h | h)
    · exact .inl (.inl h)
    · exact .inr h
    · exact .inl (.inr h)
  · rintro ((h | h) | h)
    · exact .inl h
    · exact .inr (.inr h)
    · exact .inr (.inl h)

theorem E_callG {dst : Option Tmp} {callee : Operand} {fn : FuncId} {first captured : Array Value} {args : List Operand} {argTypes : Array TypeId} {vs aas : List Value}
    {Γp Γr : List OA} {Φp : List SP} {X : Type} {pf : X → Prop} {ret : X → Value} {Γ' : X → List OA} {Φ' : X → List SP} {Γ'' : X → List OA} {Φ'' : X → List SP}
    (hc : evO fr callee = some (.func (.func fn) first captured)) (ha : evOs fr args = some vs) (has : first.toList ++ vs ++ captured.toList = aas)
    (hrun : ∀ (aas : Array Value) (w : World), (callFunc fn aas).run C.P w = .ok (.enter fn aas) w)
    (hfn : Ct C.P fn aas Γp Φp pf ret Γ' Φ')
    (hp : Γ.Perm (Γp ++ Γr)) (hin : AllE Φp Φ) (hΓ : ∀ x, Γ' x ++ Γr = Γ'' x) (hΦ : ∀ x, Φ' x ++ Φ = Φ'' x) :
    Effs C fr Γ Φ ⟨dst, .call { callee := .value callee, args := args.toArray, argTypes := argTypes }, ty, pos, aft, g⟩ pf ret Γ'' Φ'' := by
  subst has
  refine ⟨fun x ψ hψ => by rw [← hΦ]; exact List.mem_append.2 (.inr hψ), fun R a w hfa hw => ?_⟩
  have hw' := hw.perm (hp.append_right R)
  rw [List.append_assoc] at hw'
  obtain ⟨ho1, ho2, ho3⟩ := Own.append.1 hw'.own
  have hO : ∀ k, avo C.O0 (Γr ++ R) k → k < w.heap.size ∧ ¬ fpL Γp k := fun k hk => by
    rcases hk with hk | hk
    · have h1 := hw'.o0 k hk
      refine ⟨Nat.lt_of_lt_of_le h1.1 hw'.mod.size, fun hn => ?_⟩
      rcases hw'.ofp k (fpL_append.2 (.inl hn)) with h2 | h2
      · exact h1.2 h2
      · omega
    · exact ⟨Own.lt ho2 hk, fun hn => ho3 k hn hk⟩
  have hcall := hfn w (avo C.O0 (Γr ++ R)) hO ho1 (fun ψ hψ => ψ.st (hin ψ hψ _ _ hw'.sp) (Mod.refl _ _) fun k _ hk => avo_append.2 hk)
  have hrun' : (execOp a.eval ⟨dst, .call { callee := .value callee, args := args.toArray, argTypes := argTypes }, ty, pos, aft, g⟩).run C.P w = .ok (.enter fn (first.toList ++ vs ++ captured.toList).toArray) w := by
    have e1 := evO_sound hfa hc
    have e2 := evOs_sound hfa ha
    simp only [execOp, resolve, e1, Deferred.ofValue, List.map_toArray, e2, Sem.run_bind, Sem.run_pure, Result.andThen_ok, invoke]
    rw [hrun]
    congr 2
    apply Array.ext'
    simp
  rw [hrun']
  show Calls _ _ _ _ _
  refine hcall.mono fun e w1 ⟨x, hx, he, hm, ho, hf, hs⟩ => ⟨_, he, x, hx, rfl, ?_⟩
  have hdis : ∀ k, fpL (Γ' x) k → ¬ fpL (Γr ++ R) k := fun k hk hn => by
    rcases hf k hk with h1 | h1
    · exact ho3 k h1 hn
    · have := Own.lt ho2 hn
      omega
  have hmove : Holds C (Γ' x ++ (Γr ++ R)) Φ w1 := by
    refine hw'.move (hm.mono fun k _ hk => fpL_append.2 (.inl hk)) (Own.append.2 ⟨ho, ho2.keep fun k hlt hk => hm.block k hlt fun hn => ho3 k hn hk, hdis⟩) fun k hlt hk => ?_
    rcases fpL_append.1 hk with hk | hk
    · rcases hf k hk with h1 | h1
      · exact fpL_append.2 (.inl h1)
      · omega
    · exact fpL_append.2 (.inr hk)
  rw [← hΓ, ← hΦ, List.append_assoc]
  refine ⟨hmove.mod, hmove.own, hmove.ofp, hmove.o0, fun ψ hψ => ?_⟩
  rcases List.mem_append.1 hψ with hψ | hψ
  · exact ψ.st (hs ψ hψ) (Mod.refl _ _) fun k _ hk => avo_append.1 hk
  · exact hmove.sp ψ hψ

/-- the usual call: nothing own is handed over. -/
theorem E_call {dst : Option Tmp} {f : FuncId} {args : List Operand} {argTypes : Array TypeId} {vs : List Value}
    {Φp : List SP} {X : Type} {pf : X → Prop} {ret : X → Value} {Γ' : X → List OA} {Φ' : X → List SP} {Γ'' : X → List OA} {Φ'' : X → List SP}
    (ha : evOs fr args = some vs)
    (hrun : ∀ (aas : Array Value) (w : World), (callFunc f aas).run C.P w = .ok (.enter f aas) w)
    (hfn : Ct C.P f vs [] Φp pf ret Γ' Φ') (hin : AllE Φp Φ) (hΓ : ∀ x, appO (Γ' x) Γ = some (Γ'' x)) (hΦ : ∀ x, appO (Φ' x) Φ = some (Φ'' x)) :
    Effs C fr Γ Φ ⟨dst, .call { callee := .value (.func f), args := args.toArray, argTypes := argTypes }, ty, pos, aft, g⟩ pf ret Γ'' Φ'' :=
  E_callG (first := #[]) (captured := #[]) (Γp := []) (Γr := Γ) rfl ha (by simp) hrun hfn (.refl _) hin (fun x => appO_eq (hΓ x)) (fun x => appO_eq (hΦ x))

/-- a call that is handed own things (Γp), the rest stays (Γr). -/
theorem E_callO {dst : Option Tmp} {f : FuncId} {args : List Operand} {argTypes : Array TypeId} {vs : List Value} {Γp Γr : List OA}
    {Φp : List SP} {X : Type} {pf : X → Prop} {ret : X → Value} {Γ' : X → List OA} {Φ' : X → List SP} {Γ'' : X → List OA} {Φ'' : X → List SP}
    (ha : evOs fr args = some vs)
    (hrun : ∀ (aas : Array Value) (w : World), (callFunc f aas).run C.P w = .ok (.enter f aas) w)
    (hfn : Ct C.P f vs Γp Φp pf ret Γ' Φ') (hp : Γ.Perm (Γp ++ Γr)) (hin : AllE Φp Φ) (hΓ : ∀ x, appO (Γ' x) Γr = some (Γ'' x)) (hΦ : ∀ x, appO (Φ' x) Φ = some (Φ'' x)) :
    Effs C fr Γ Φ ⟨dst, .call { callee := .value (.func f), args := args.toArray, argTypes := argTypes }, ty, pos, aft, g⟩ pf ret Γ'' Φ'' :=
  E_callG (first := #[]) (captured := #[]) rfl ha (by simp) hrun hfn hp hin (fun x => appO_eq (hΓ x)) (fun x => appO_eq (hΦ x))

/-- a contract whose value is settled. -/
abbrev CtD (P : Program) (f : FuncId) (args : List Value) (Φ : List SP) (v : Value) : Prop :=
  Ct P f args [] Φ (X := Unit) (fun _ => True) (fun _ => v) (fun _ => []) (fun _ => [])

theorem R_callG {dst : Option Tmp} {callee : Operand} {fn : FuncId} {first captured : Array Value} {args : List Operand} {argTypes : Array TypeId} {vs aas : List Value} {Φp : List SP} {v : Value}
    (hc : evO fr callee = some (.func (.func fn) first captured)) (ha : evOs fr args = some vs) (has : first.toList ++ vs ++ captured.toList = aas)
    (hrun : ∀ (aas : Array Value) (w : World), (callFunc fn aas).run C.P w = .ok (.enter fn aas) w)
    (hfn : CtD C.P fn aas Φp v) (hin : AllE Φp Φ) :
    Runs C fr Γ Φ ⟨dst, .call { callee := .value callee, args := args.toArray, argTypes := argTypes }, ty, pos, aft, g⟩ v := by
  intro a w hfa hw
  subst has
  have hO : ∀ k, avo C.O0 Γ k → k < w.heap.size ∧ ¬ fpL [] k := fun k hk => by
    refine ⟨?_, fun ⟨_, hx, _⟩ => by cases hx⟩
    rcases hk with hk | hk
    · exact Nat.lt_of_lt_of_le (hw.o0 k hk).1 hw.mod.size
    · exact Own.lt hw.own hk
  have hcall := hfn w (avo C.O0 Γ) hO trivial (fun ψ hψ => ψ.st (hin ψ hψ _ _ hw.sp) (Mod.refl _ _) fun k _ hk => hk.elim id fun ⟨_, hx, _⟩ => by cases hx)
  have hrun' : (execOp a.eval ⟨dst, .call { callee := .value callee, args := args.toArray, argTypes := argTypes }, ty, pos, aft, g⟩).run C.P w = .ok (.enter fn (first.toList ++ vs ++ captured.toList).toArray) w := by
    have e1 := evO_sound hfa hc
    have e2 := evOs_sound hfa ha
    simp only [execOp, resolve, e1, Deferred.ofValue, List.map_toArray, e2, Sem.run_bind, Sem.run_pure, Result.andThen_ok, invoke]
    rw [hrun]
    congr 2
    apply Array.ext'
    simp
  rw [hrun']
  show Calls _ _ _ _ _
  exact hcall.mono fun e w1 ⟨_, _, he, hm, _⟩ => ⟨_, he, rfl, hm.mono fun k _ ⟨_, hx, _⟩ => by cases hx⟩

theorem R_call {dst : Option Tmp} {f : FuncId} {args : List Operand} {argTypes : Array TypeId} {vs : List Value} {Φp : List SP} {v : Value} (ha : evOs fr args = some vs)
    (hrun : ∀ (aas : Array Value) (w : World), (callFunc f aas).run C.P w = .ok (.enter f aas) w) (hfn : CtD C.P f vs Φp v) (hin : AllE Φp Φ) :
    Runs C fr Γ Φ ⟨dst, .call { callee := .value (.func f), args := args.toArray, argTypes := argTypes }, ty, pos, aft, g⟩ v :=
  R_callG (first := #[]) (captured := #[]) rfl ha (by simp) hrun hfn hin

/-- a loop: what holds at every round's head is said of a thing x; the measure is of x. -/
theorem W_loop {c : Code} {X : Type} (I : X → Prop) (F : X → Fr) (G : X → List OA) (H : X → List SP) (μ : X → Nat) (x0 : X) (hI : I x0)
    (h0 : WQ C .normal fr Γ Φ (fun _ a w => fok C (F x0) a ∧ Holds C (G x0) (H x0) w))
    (round : ∀ x, I x → W C c (F x) (G x) (H x) (Exit.then (fun a w => ∃ x', I x' ∧ μ x' < μ x ∧ fok C (F x') a ∧ Holds C (G x') (H x') w) Q)) : W C (.loop c) fr Γ Φ Q := by
  intro a w ha hw b k cs hro hb hr
  have key : ∀ n x a w, I x → μ x = n → fok C (F x) a → Holds C (G x) (H x) w →
      ∃ e a' w', Q e a' w' ∧ ArrivesIn (Machine.fenced C.P (fenceOf C.rd)) C.P (lone (b.atR a (.code c :: .inLoop c :: k)) cs w) b k cs e a' w' := by
    intro n
    induction n using Nat.strongRecOn with
    | _ n ih =>
      intro x a w hi hn hfa hh
      obtain ⟨e, a₁, w₁, hq, harr⟩ := round x hi a w hfa hh b (.inLoop c :: k) cs hro hb hr
      cases e with
      | normal =>
        obtain ⟨x', hi', hlt, hfa', hh'⟩ := hq
        obtain ⟨e₂, a₂, w₂, hq₂, harr₂⟩ := ih (μ x') (hn ▸ hlt) x' a₁ w₁ hi' rfl hfa' hh'
        exact ⟨e₂, a₂, w₂, hq₂, .of_steps (StepsIn.trans harr (.one (fenced_calm hb hr rfl) stepR_inLoop)) harr₂⟩
      | exit id => exact ⟨_, a₁, w₁, hq, .pass (x := .inLoop c) rfl (fun _ _ => .inl (by simp)) harr⟩
      | goto l => exact ⟨_, a₁, w₁, hq, .pass (x := .inLoop c) rfl (fun _ _ => .inl (by simp)) harr⟩
      | ret => exact ⟨_, a₁, w₁, hq, .pass (x := .inLoop c) rfl (fun _ _ => .inl (by simp)) harr⟩
      | panic ch => exact ⟨_, a₁, w₁, hq, .pass (x := .inLoop c) rfl (fun _ _ => .inl (by simp)) harr⟩
      | outgrown => exact ⟨_, a₁, w₁, hq, .pass (x := .inLoop c) rfl (fun _ _ => .inl (by simp)) harr⟩
  obtain ⟨hfa, hh⟩ := h0 a w ha hw
  obtain ⟨e, a', w', hq, harr⟩ := key _ x0 a w hI rfl hfa hh
  exact ⟨e, a', w', hq, .of_steps (.one (fenced_calm hb hr rfl) stepR_loop) harr⟩

/-- the frame knows all of fr'. -/
def FrIn (fr fr' : Fr) : Prop := ∀ t v, fget fr' t = some v → fget fr t = some v
theorem FrIn.nil (fr : Fr) : FrIn fr [] := fun _ _ h => by cases h
theorem FrIn.cons {t : Nat} {v v' : Value} {fr fr' : Fr} (h : fget fr t = some v') (e : v' = v) (k : FrIn fr fr') : FrIn fr ((t, v) :: fr') := fun s u hu => by
  rw [fget_cons] at hu
  by_cases e' : t = s
  · subst e'
    rw [if_pos rfl] at hu
    injection hu with hu
    subst hu
    subst e
    exact h
  · rw [if_neg e'] at hu
    exact k s u hu

theorem fok.sub {C : Ctx} {fr fr' : Fr} {a : Act} (h : fok C fr a) (hs : FrIn fr fr') : fok C fr' a := ⟨h.1, h.2.1, fun t v hv => h.2.2 t v (hs t v hv)⟩

/-- the state at hand fits what is wanted. -/
theorem WQ_fit {e : Exit} {fr' : Fr} {Γ' : List OA} {Φ' : List SP} (h1 : FrIn fr fr') (h2 : SubO Γ Γ') (h3 : AllE Φ' Φ) : WQ C e fr Γ Φ (fun _ a w => fok C fr' a ∧ Holds C Γ' Φ' w) :=
  fun _ _ ha hw => ⟨ha.sub h1, (hw.subOwn h2).allE h3⟩

theorem WQ_again {X : Type} {I : X → Prop} {F : X → Fr} {G : X → List OA} {H : X → List SP} {μ : X → Nat} {m : Nat} (x : X) (hi : I x) (hμ : μ x < m) (h1 : FrIn fr (F x)) (h2 : SubO Γ (G x)) (h3 : AllE (H x) Φ) :
    WQ C .normal fr Γ Φ (Exit.then (fun a w => ∃ x', I x' ∧ μ x' < m ∧ fok C (F x') a ∧ Holds C (G x') (H x') w) Q) :=
  fun _ _ ha hw => ⟨x, hi, hμ, ha.sub h1, (hw.subOwn h2).allE h3⟩

/-- where ways meet again: what holds there, said of a thing x. -/
theorem W_cut {x y : Code} {X : Type} (I : X → Prop) (F : X → Fr) (G : X → List OA) (H : X → List SP)
    (h : W C x fr Γ Φ (Exit.then (fun a w => ∃ z, I z ∧ fok C (F z) a ∧ Holds C (G z) (H z) w) Q)) (k : ∀ z, I z → W C y (F z) (G z) (H z) Q) : W C (.seq x y) fr Γ Φ Q := by
  intro a w ha hw
  refine wpIn_seq (wpIn_mono (h a w ha hw) fun e a' w' he => ?_)
  cases e <;> first | exact he | (obtain ⟨z, h0, h1, h2⟩ := he; exact k z h0 a' w' h1 h2)

theorem WQ_meet {X : Type} {I : X → Prop} {F : X → Fr} {G : X → List OA} {H : X → List SP} (z : X) (hi : I z) (h1 : FrIn fr (F z)) (h2 : SubO Γ (G z)) (h3 : AllE (H z) Φ) :
    WQ C .normal fr Γ Φ (Exit.then (fun a w => ∃ z, I z ∧ fok C (F z) a ∧ Holds C (G z) (H z) w) Q) :=
  fun _ _ ha hw => ⟨z, hi, ha.sub h1, (hw.subOwn h2).allE h3⟩

-- ===== more knowledge =====

theorem WQ_letgoB {e : Exit} {v : Value} {t : TypeId} {n : Nat} {xs : List Value} {bs : List UInt8} (hp : Pick (.row v t 1 n xs) Γ Γ1) (hx : xs = bs.map bcell) (h : WQ C e fr Γ1 (By v bs :: Φ) Q) : WQ C e fr Γ Φ Q :=
  fun a w ha hw => h a w ha ((pick_holds hp hw).letgoB hx)
theorem WL_letgoB {v : Value} {t : TypeId} {n : Nat} {xs : List Value} {bs : List UInt8} (hp : Pick (.row v t 1 n xs) Γ Γ1) (hx : xs = bs.map bcell) (h : WL C ops l fr Γ1 (By v bs :: Φ) Q) : WL C ops l fr Γ Φ Q :=
  fun a w ha hw => h a w ha ((pick_holds hp hw).letgoB hx)
theorem W_letgoB {c : Code} {v : Value} {t : TypeId} {n : Nat} {xs : List Value} {bs : List UInt8} (hp : Pick (.row v t 1 n xs) Γ Γ1) (hx : xs = bs.map bcell) (h : W C c fr Γ1 (By v bs :: Φ) Q) : W C c fr Γ Φ Q :=
  fun a w ha hw => h a w ha ((pick_holds hp hw).letgoB hx)

-- ===== endings =====

def rvRun (tmps : Array Value) : ResultVar → Sem Value
  | .tmp t => pure (tmps.getD t undef)
  | .cell a t => do loadVar t (← asAddr (tmps.getD a undef))

/-- what a result slot holds at the end. -/
def RV (C : Ctx) (fr : Fr) (Γ : List OA) (Φ : List SP) (r : ResultVar) (v : Value) : Prop :=
  ∀ a w, fok C fr a → Holds C Γ Φ w → (rvRun a.tmps r).run C.P w = .ok v w

theorem RV_tmp {t : Nat} {v : Value} (h : fget fr t = some v) : RV C fr Γ Φ (.tmp t) v := fun a w ha _ => by
  have := ha.2.2 t v h
  show (Pure.pure (a.tmps.getD t undef) : Sem Value).run C.P w = _
  rw [this]
  rfl

theorem RV_cell1 {t b : Nat} {ty bt : TypeId} {cs : List Value} {v : Value} (h : fget fr t = some (.pointer (some ⟨b, 0, none⟩))) (hp : Pick (.blk b bt cs) Γ Γ1) (hagg : ∀ w, (isAgg ty).run C.P w = .ok false w) (hc : cs[0]? = some v) :
    RV C fr Γ Φ (.cell t ty) v := fun a w ha hw => by
  have h1 := ha.2.2 t _ h
  have hb := (pick_holds hp hw).own.1
  have hl := run_loadVar_one (P := C.P) (w := w) (a := ⟨b, 0, none⟩) hagg ((blk_cell hb 0).trans hc)
  simp only [rvRun, h1, asAddr, Sem.run_bind, Sem.run_pure, Result.andThen_ok, hl]

theorem RV_cellN {t b n : Nat} {ty bt : TypeId} {cs us : List Value} (h : fget fr t = some (.pointer (some ⟨b, 0, none⟩))) (hp : Pick (.blk b bt cs) Γ Γ1) (hagg : ∀ w, (isAgg ty).run C.P w = .ok true w)
    (hs : ∀ w, (sizeOf ty).run C.P w = .ok n w) (hc : takeN 0 n cs = some us) : RV C fr Γ Φ (.cell t ty) (.agg us.toArray) := fun a w ha hw => by
  have h1 := ha.2.2 t _ h
  have hb := (pick_holds hp hw).own.1
  obtain ⟨h3, h4⟩ := takeN_at hc
  have hl := run_loadVar_agg (P := C.P) (w := w) (t := ty) (a := ⟨b, 0, none⟩) (us := us) hagg (by rw [h3]; exact hs) (fun j u hu => by rw [Addr.add_lit, blk_cell hb]; exact h4 j u hu)
  simp only [rvRun, h1, asAddr, Sem.run_bind, Sem.run_pure, Result.andThen_ok, hl]

theorem results_run {fn : Func} {tmps : Array Value} : results fn tmps = (do let vs ← fn.results.mapM (rvRun tmps); pure (if h : vs.size = 1 then vs[0] else .tuple vs)) := by
  have : rvRun tmps = fun r => (match r with | .tmp t => pure (tmps.getD t undef) | .cell a t => do loadVar t (← asAddr (tmps.getD a undef)) : Sem Value) := by
    funext x
    cases x <;> rfl
  rw [this]
  rfl

theorem ret_end {P0 : Program} {n0 : Nat} {w0 : World} {O0 M0 : Nat → Prop} {rd0 : Option Nat} {fn : Func} {X : Type} {pf : X → Prop} {ret : X → Value} {Γ' : X → List OA} {Φ' : X → List SP} {e : Exit} (he : e = .ret ∨ e = .normal) (x : X) (hp : pf x)
    (hr : ∀ a w, fok ⟨P0, n0, w0, O0, M0, rd0, []⟩ fr a → Holds ⟨P0, n0, w0, O0, M0, rd0, []⟩ Γ Φ w → (results fn a.tmps).run P0 w = .ok (ret x) w) (h2 : SubO Γ (Γ' x)) (h3 : AllE (Φ' x) Φ) :
    WQ ⟨P0, n0, w0, O0, M0, rd0, []⟩ e fr Γ Φ (bodyPost P0 fn (FnPost w0 O0 M0 pf ret Γ' Φ')) := by
  intro a w ha hw
  have hw' := (hw.subOwn h2).allE h3
  have : FnPost w0 O0 M0 pf ret Γ' Φ' (.returned (ret x)) w := ⟨x, hp, rfl, hw'.mod, hw'.own, hw'.ofp, hw'.sp⟩
  rcases he with rfl | rfl
  · exact ⟨ha.1, _, hr a w ha hw, this⟩
  · exact ⟨ha.1, _, hr a w ha hw, this⟩

theorem ret1 {P0 : Program} {n0 : Nat} {w0 : World} {O0 M0 : Nat → Prop} {rd0 : Option Nat} {fn : Func} {X : Type} {pf : X → Prop} {ret : X → Value} {Γ' : X → List OA} {Φ' : X → List SP} {r1 : ResultVar} {v1 : Value} (hres : fn.results = #[r1]) (x : X) (hp : pf x)
    (h1 : RV ⟨P0, n0, w0, O0, M0, rd0, []⟩ fr Γ Φ r1 v1) (hv : v1 = ret x) (h2 : SubO Γ (Γ' x)) (h3 : AllE (Φ' x) Φ) : WQ ⟨P0, n0, w0, O0, M0, rd0, []⟩ .ret fr Γ Φ (bodyPost P0 fn (FnPost w0 O0 M0 pf ret Γ' Φ')) :=
  ret_end (.inl rfl) x hp (fun a w ha hw => by subst hv; rw [results_run, hres]; simp [h1 a w ha hw]) h2 h3
theorem ret2 {P0 : Program} {n0 : Nat} {w0 : World} {O0 M0 : Nat → Prop} {rd0 : Option Nat} {fn : Func} {X : Type} {pf : X → Prop} {ret : X → Value} {Γ' : X → List OA} {Φ' : X → List SP} {r1 r2 : ResultVar} {v1 v2 : Value} (hres : fn.results = #[r1, r2]) (x : X) (hp : pf x)
    (h1 : RV ⟨P0, n0, w0, O0, M0, rd0, []⟩ fr Γ Φ r1 v1) (h1' : RV ⟨P0, n0, w0, O0, M0, rd0, []⟩ fr Γ Φ r2 v2) (hv : .tuple #[v1, v2] = ret x) (h2 : SubO Γ (Γ' x)) (h3 : AllE (Φ' x) Φ) : WQ ⟨P0, n0, w0, O0, M0, rd0, []⟩ .ret fr Γ Φ (bodyPost P0 fn (FnPost w0 O0 M0 pf ret Γ' Φ')) :=
  ret_end (.inl rfl) x hp (fun a w ha hw => by rw [← hv, results_run, hres]; simp [h1 a w ha hw, h1' a w ha hw]) h2 h3
theorem ret3 {P0 : Program} {n0 : Nat} {w0 : World} {O0 M0 : Nat → Prop} {rd0 : Option Nat} {fn : Func} {X : Type} {pf : X → Prop} {ret : X → Value} {Γ' : X → List OA} {Φ' : X → List SP} {r1 r2 r3 : ResultVar} {v1 v2 v3 : Value} (hres : fn.results = #[r1, r2, r3]) (x : X) (hp : pf x)
    (h1 : RV ⟨P0, n0, w0, O0, M0, rd0, []⟩ fr Γ Φ r1 v1) (h1' : RV ⟨P0, n0, w0, O0, M0, rd0, []⟩ fr Γ Φ r2 v2) (h1'' : RV ⟨P0, n0, w0, O0, M0, rd0, []⟩ fr Γ Φ r3 v3) (hv : .tuple #[v1, v2, v3] = ret x) (h2 : SubO Γ (Γ' x)) (h3 : AllE (Φ' x) Φ) :
    WQ ⟨P0, n0, w0, O0, M0, rd0, []⟩ .ret fr Γ Φ (bodyPost P0 fn (FnPost w0 O0 M0 pf ret Γ' Φ')) :=
  ret_end (.inl rfl) x hp (fun a w ha hw => by rw [← hv, results_run, hres]; simp [h1 a w ha hw, h1' a w ha hw, h1'' a w ha hw]) h2 h3
theorem ret0 {P0 : Program} {n0 : Nat} {w0 : World} {O0 M0 : Nat → Prop} {rd0 : Option Nat} {fn : Func} {X : Type} {pf : X → Prop} {ret : X → Value} {Γ' : X → List OA} {Φ' : X → List SP} {e : Exit} (he : e = .ret ∨ e = .normal) (hres : fn.results = #[]) (x : X) (hp : pf x)
    (hv : .tuple #[] = ret x) (h2 : SubO Γ (Γ' x)) (h3 : AllE (Φ' x) Φ) : WQ ⟨P0, n0, w0, O0, M0, rd0, []⟩ e fr Γ Φ (bodyPost P0 fn (FnPost w0 O0 M0 pf ret Γ' Φ')) :=
  ret_end he x hp (fun a w ha hw => by rw [← hv, results_run, hres]; simp) h2 h3

end
end Go.Hs

/-
  The rules of the small logic for slices that are made, grown and written. No program is named here.
-/
namespace Go.Hs
open Go Go.RowKit

/-- where data to be appended comes from: lasting cells. -/
theorem run_append_data {P : Program} (w : World) (t ty e : TypeId) (i : TypeInfo) (z : Value) (size : Nat) (ht : P.underlying t = some (.slice e)) (hi : P.info? e = some i) (hz : i.zero = some z)
    (hsize : i.size = size) (hzs : z.cells.size = size) (hsz : 0 < size)
    (v : Value) (n : Nat) (xs : List Value) (hown : w.ownsRow 0 e size v n xs)
    (u : Value) (m : Nat) (news : List Value) (O : Nat → Prop) (hsl : slP size u m news w O) (h1 : ∀ u ∈ news, u.oneCell' = true)
    (h63 : n + m ≤ maxLen) (hbytes : (n + m) * i.bytes ≤ 140737488355328) :
    ∃ v' w', (Builtin.append_ #[t, t] ty #[v, u]).run P w = .ok v' w' ∧ w'.ownsRow 0 e size v' (n + m) (xs ++ news) ∧ w.grownBy w' v.ownBlock ∧ (v'.ownBlock = v.ownBlock ∨ v'.ownBlock = some w.heap.size) := by
  obtain ⟨hl, A, c, rfl, _, _, hr⟩ := hsl
  cases A with
  | none =>
    have hm0 : m = 0 := by
      rcases Nat.eq_zero_or_pos m with h | h
      · exact h
      · obtain ⟨_, h, _⟩ := hr h; cases h
    subst hm0
    have hn : news = [] := List.eq_nil_of_length_eq_zero (by simpa using hl)
    subst hn
    refine ⟨v, w, ?_, by simpa using hown, World.grownBy.refl w _, .inl rfl⟩
    obtain ⟨A, c', rfl, hc, _⟩ := row_nil_or hown
    rcases A with _ | ad
    · have hn0 : n ≤ c' := hc
      simp [Builtin.append_, run_underlying ht, sizeOf, typeInfo, hi, Builtin.lenOf, Builtin.firstCells, hn0]
    · simp [Builtin.append_, run_underlying ht, sizeOf, typeInfo, hi, Builtin.lenOf, Builtin.firstCells, hc, storeCells]
  | some ad =>
    have hcells : ∀ j u, news[j]? = some u → w.cell? (ad.add j) = some u := by
      intro j u hu
      rcases Nat.eq_zero_or_pos m with h0 | h0
      · subst h0
        have hn : news = [] := List.eq_nil_of_length_eq_zero (by simpa using hl)
        subst hn
        simp at hu
      · obtain ⟨ad', h, _, _, hc⟩ := hr h0
        injection h with h
        subst h
        exact hc j u hu
    obtain ⟨v', w', hrun, h2, h3, _, h5⟩ := run_append_own_at (P := P) w 0 t ty e i z size i.bytes ht hi hz hsize rfl hzs hsz v n xs hown ad m c news hl hcells h1 h63 hbytes (Nat.zero_le _)
    exact ⟨v', w', hrun, h2, h3, h5⟩

section
variable {C : Ctx} {fr : Fr} {Γ Γ' Γ1 : List OA} {Φ : List SP}
  {d : Nat} {ty : TypeId} {pos : String} {aft : Array Edge} {g : Option (Nat × Bool)}

theorem Holds.grown {v v' : Value} {t : TypeId} {size n n' : Nat} {xs xs' : List Value} {w w' : World} (h : Holds C (.row v t size n xs :: Γ) Φ w) (hown : w'.ownsRow 0 t size v' n' xs') (hg : w.grownBy w' v.ownBlock)
    (hb : v'.ownBlock = v.ownBlock ∨ v'.ownBlock = some w.heap.size) : Holds C (.row v' t size n' xs' :: Γ) Φ w' := by
  have hold : ∀ k, k < w.heap.size → v'.ownBlock = some k → v.ownBlock = some k := fun k hk e => by
    rcases hb with hb | hb
    · rw [← hb]; exact e
    · rw [hb] at e; injection e with e; omega
  refine h.move ⟨hg.os, hg.tape, hg.output, hg.size, fun k hk hn => hg.block k hk fun e => hn (fpL_cons.2 (.inl e.symm))⟩ ⟨hown, fun k hk hn => ?_, h.own.2.2.keep fun k hk hn => hg.block k hk fun e => h.own.2.1 k e.symm hn⟩ fun k hk hk' => ?_
  · have hlt := Own.lt h.own.2.2 hn
    exact h.own.2.1 k (hold k hlt hk) hn
  · rcases fpL_cons.1 hk' with hk' | hk'
    · exact fpL_cons.2 (.inl (hold k hk hk'))
    · exact fpL_cons.2 (.inr hk')

/-- append to an own row, of lasting data. -/
theorem E_append {t e : TypeId} {x y : Operand} {v u : Value} {size n m nm : Nat} {xs news all : List Value} {i : TypeInfo} {z : Value}
    (hx : evO fr x = some v) (hy : evO fr y = some u) (hp : Pick (.row v e size n xs) Γ Γ') (hm : Sl size u m news ∈ Φ)
    (ht : C.P.underlying t = some (.slice e)) (hi : C.P.info? e = some i) (hz : i.zero = some z) (hsize : i.size = size) (hzs : z.cells.size = size) (hsz : 0 < size) (h1 : ∀ u ∈ news, u.oneCell' = true)
    (hby : i.bytes ≤ 128) (hb : n + m ≤ 1099511627776) (hnm : n + m = nm) (hall : xs ++ news = all) :
    Effs C fr Γ Φ ⟨some d, .call { callee := .builtin .append, args := #[x, y], argTypes := #[t, t] }, ty, pos, aft, g⟩ (X := Value) (fun _ => True) (fun q => q) (fun v' => .row v' e size nm all :: Γ') (fun _ => Φ) := by
  subst hnm; subst hall
  refine ⟨fun _ => AllIn.refl _, fun R a w ha hw => ?_⟩
  have hw' := pick_holds (pick_app hp R) hw
  have hbb : (n + m) * i.bytes ≤ 140737488355328 := Nat.le_trans (Nat.mul_le_mul hb hby) (by decide)
  obtain ⟨v', w', hrun, h2, h3, h4⟩ := run_append_data (P := C.P) w t ty e i z size ht hi hz hsize hzs hsz v n xs hw'.own.1 u m news _ (hw'.sp _ hm) h1 (by simp only [maxLen]; omega) hbb
  refine .val (v := v') (w' := w') ?_ ⟨v', trivial, rfl, hw'.grown h2 h3 h4⟩
  simp only [execOp, resolve, invoke, builtin, Sem.run_bind, Sem.run_pure, Result.andThen_ok, List.map_toArray, List.map_cons, List.map_nil, evO_sound ha hx, evO_sound ha hy, hrun]

theorem E_appendBy {t e : TypeId} {x y : Operand} {v u : Value} {n nm : Nat} {bs news all : List UInt8} {i : TypeInfo} {z : Value} {xs : List Value}
    (hx : evO fr x = some v) (hy : evO fr y = some u) (hp : Pick (.row v e 1 n xs) Γ Γ') (hm : By u news ∈ Φ) (hxs : xs = bs.map bcell)
    (ht : C.P.underlying t = some (.slice e)) (hi : C.P.info? e = some i) (hz : i.zero = some z) (hsize : i.size = 1) (hzs : z.cells.size = 1) (hby : i.bytes ≤ 128)
    (hb : n + news.length ≤ 1099511627776) (hnm : n + news.length = nm) (hall : bs ++ news = all) :
    Effs C fr Γ Φ ⟨some d, .call { callee := .builtin .append, args := #[x, y], argTypes := #[t, t] }, ty, pos, aft, g⟩ (X := Value) (fun _ => True) (fun q => q) (fun v' => .row v' e 1 nm (all.map bcell) :: Γ') (fun _ => Φ) := by
  subst hnm; subst hall; subst hxs
  refine ⟨fun _ => AllIn.refl _, fun R a w ha hw => ?_⟩
  have hw' := pick_holds (pick_app hp R) hw
  have hbb : (n + news.length) * i.bytes ≤ 140737488355328 := Nat.le_trans (Nat.mul_le_mul hb hby) (by decide)
  obtain ⟨v', w', hrun, h2, h3, h4⟩ := run_append_data (P := C.P) w t ty e i z 1 ht hi hz hsize hzs (by decide) v _ _ hw'.own.1 u news.length (news.map bcell) _ (hw'.sp _ hm) (bcells_one _) (by simp only [maxLen]; omega) hbb
  rw [← List.map_append] at h2
  refine .val (v := v') (w' := w') ?_ ⟨v', trivial, rfl, hw'.grown h2 h3 h4⟩
  simp only [execOp, resolve, invoke, builtin, Sem.run_bind, Sem.run_pure, Result.andThen_ok, List.map_toArray, List.map_cons, List.map_nil, evO_sound ha hx, evO_sound ha hy, hrun]

/-- append to an own row, of an own row (an element's own box, say): the second is let go. -/
theorem E_appendRow {t e : TypeId} {x y : Operand} {v u : Value} {size n m nm : Nat} {xs news all : List Value} {i : TypeInfo} {z : Value}
    (hx : evO fr x = some v) (hy : evO fr y = some u) (hp : Pick (.row v e size n xs) Γ Γ') (hp' : Pick (.row u e size m news) Γ' Γ1)
    (ht : C.P.underlying t = some (.slice e)) (hi : C.P.info? e = some i) (hz : i.zero = some z) (hsize : i.size = size) (hzs : z.cells.size = size) (hsz : 0 < size) (h1 : ∀ u ∈ news, u.oneCell' = true)
    (hby : i.bytes ≤ 128) (hb : n + m ≤ 1099511627776) (hnm : n + m = nm) (hall : xs ++ news = all) :
    Effs C fr Γ Φ ⟨some d, .call { callee := .builtin .append, args := #[x, y], argTypes := #[t, t] }, ty, pos, aft, g⟩ (X := Value) (fun _ => True) (fun q => q) (fun v' => .row v' e size nm all :: Γ1) (fun _ => Φ) := by
  refine ⟨fun _ => AllIn.refl _, fun R a w ha hw => ?_⟩
  have hw' := pick_holds (pick_app hp R) hw
  have hw'' := (hw'.perm ((List.Perm.cons _ (pick_app hp' R)).trans (.swap _ _ _))).letgo
  refine ((E_append (Γ := .row v e size n xs :: Γ1) (Γ' := Γ1) (Φ := Sl size u m news :: Φ) hx hy (.head _ _) List.mem_cons_self ht hi hz hsize hzs hsz h1 hby hb hnm hall).2 R a w ha hw'').mono ?_
  rintro v' w' ⟨x, hx, hv, hh⟩
  exact ⟨x, hx, hv, hh.sub fun ψ hψ => List.mem_cons_of_mem _ hψ⟩

/-- the same for bytes. -/
theorem E_appendRowB {t e : TypeId} {x y : Operand} {v u : Value} {n m nm : Nat} {bs news all : List UInt8} {xs ys : List Value} {i : TypeInfo} {z : Value}
    (hx : evO fr x = some v) (hy : evO fr y = some u) (hp : Pick (.row v e 1 n xs) Γ Γ') (hp' : Pick (.row u e 1 m ys) Γ' Γ1) (hxs : xs = bs.map bcell) (hys : ys = news.map bcell)
    (ht : C.P.underlying t = some (.slice e)) (hi : C.P.info? e = some i) (hz : i.zero = some z) (hsize : i.size = 1) (hzs : z.cells.size = 1)
    (hby : i.bytes ≤ 128) (hb : n + m ≤ 1099511627776) (hnm : n + m = nm) (hall : bs ++ news = all) :
    Effs C fr Γ Φ ⟨some d, .call { callee := .builtin .append, args := #[x, y], argTypes := #[t, t] }, ty, pos, aft, g⟩ (X := Value) (fun _ => True) (fun q => q) (fun v' => .row v' e 1 nm (all.map bcell) :: Γ1) (fun _ => Φ) :=
  E_appendRow hx hy hp hp' ht hi hz hsize hzs (by decide) (by subst hys; exact bcells_one _) hby hb hnm (by subst hxs; subst hys; subst hall; simp)

/-- a new row of an element type's zeros. -/
def zeros (z : Value) (n : Nat) : List Value := (madeCells z.cells n).toList

theorem own_new {w : World} {e : TypeId} {size n c : Nat} {cur : Array Value} (hs : cur.size = c * size) (hn : n ≤ c) (hm : c ≤ maxLen) :
    (w.alloc (.cells cur e)).ownsRow 0 e size (.slice (some ⟨w.heap.size, 0, none⟩) n c) n (cur.toList.take (n * size)) := by
  refine ⟨?_, .inr ⟨w.heap.size, c, cur, rfl, Nat.zero_le _, heap_alloc_new w _, hn, hm, hs, rfl⟩⟩
  rw [List.length_take, Array.length_toList, hs]
  exact Nat.min_eq_left (Nat.mul_le_mul_right _ hn)

theorem Holds.newRow {w : World} {e : TypeId} {size n c : Nat} {cur : Array Value} (h : Holds C Γ Φ w) (hs : cur.size = c * size) (hn : n ≤ c) (hm : c ≤ maxLen) :
    Holds C (.row (.slice (some ⟨w.heap.size, 0, none⟩) n c) e size n (cur.toList.take (n * size)) :: Γ) Φ (w.alloc (.cells cur e)) := by
  have ha := h.alloc e cur
  refine ha.move (Mod.refl _ _) ⟨own_new hs hn hm, fun k hk hn' => ?_, ha.own.2.2⟩ fun k _ hk => ?_
  · have : some w.heap.size = some k := hk
    injection this with this
    exact ha.own.2.1 k this.symm hn'
  · rcases fpL_cons.1 hk with hk | hk
    · have : some w.heap.size = some k := hk
      injection this with this
      exact fpL_cons.2 (.inl this.symm)
    · exact fpL_cons.2 (.inr hk)

/-- make([]T, n) or make([]T, n, c). -/
theorem E_make {t e : TypeId} {x y : Operand} {kl kc : IntKind} {il ic : Int} {n c size : Nat} {i : TypeInfo} {z : Value} {us : List Value}
    (hx : evO fr x = some (.int kl il)) (hy : evO fr y = some (.int kc ic)) (hil : il = (n : Int)) (hic : ic = (c : Int)) (hnc : n ≤ c)
    (ht : C.P.underlying t = some (.slice e)) (hi : C.P.info? e = some i) (hz : i.zero = some z) (hsize : i.size = size) (hby : i.bytes ≤ 128) (hc : c ≤ 1099511627776) (hu : (madeCells z.cells (c * size)).toList.take (n * size) = us) :
    Effs C fr Γ Φ ⟨some d, .makeSlice t x y, ty, pos, aft, g⟩ (X := Value) (fun _ => True) (fun q => q) (fun v' => .row v' e size n us :: Γ) (fun _ => Φ) := by
  subst hil; subst hic; subst hsize; subst hu
  refine ⟨fun _ => AllIn.refl _, fun R a w ha hw => ?_⟩
  have hb : (i.bytes : Int) * (c : Int) ≤ 281474976710656 := by
    have h : i.bytes * c ≤ 281474976710656 := Nat.le_trans (Nat.mul_le_mul hby hc) (by decide)
    have h' : ((i.bytes * c : Nat) : Int) ≤ 281474976710656 := by omega
    rwa [Int.natCast_mul] at h'
  have hr := run_make (P := C.P) w t e i z ht hi hz kl kc n c (by omega) (by omega) hb (by omega)
  simp only [Int.toNat_natCast] at hr
  refine .val (v := .slice (some ⟨w.heap.size, 0, none⟩) n c) (w' := w.alloc (.cells (madeCells z.cells (c * i.size)) e)) ?_ ⟨_, trivial, rfl, hw.newRow (by simp [madeCells]) hnc (by simp only [maxLen]; omega)⟩
  simp only [execOp, evO_sound ha hx, evO_sound ha hy, Sem.run_bind, hr, Result.andThen_ok, Sem.run_pure]

-- ===== literals of structs and slices =====

theorem fold_set : ∀ (us : List Value) (k off : Nat) (cs : List Value), off + k + us.length ≤ cs.length →
    ((us.zipIdx k).foldl (fun (cs : Array Value) (p : Value × Nat) => cs.setIfInBounds (off + p.2) p.1) cs.toArray) = (cs.take (off + k) ++ us ++ cs.drop (off + k + us.length)).toArray
  | [], k, off, cs, _ => by simp
  | u :: us, k, off, cs, h => by
    simp only [List.length_cons] at h
    have hlt : off + k < cs.length := by omega
    simp only [List.zipIdx_cons, List.foldl_cons, List.setIfInBounds_toArray]
    rw [fold_set us (k + 1) off (cs.set (off + k) u) (by simp; omega)]
    congr 1
    have e1 : (cs.set (off + k) u).take (off + (k + 1)) = cs.take (off + k) ++ [u] := by
      rw [← Nat.add_assoc, List.take_add_one, List.take_set_of_le (Nat.le_refl _), List.getElem?_set_self hlt]
      rfl
    have e2 : (cs.set (off + k) u).drop (off + (k + 1) + us.length) = cs.drop (off + k + (us.length + 1)) := by
      rw [List.drop_set_of_lt (by omega)]
      congr 1
      omega
    rw [e1, e2]
    simp

/-- the parts of a struct, laid over its zeros. -/
def fillO (pl : List (Nat × Nat)) : List Value → List (Nat × List Value) → Option (List Value)
  | cs, [] => some cs
  | cs, (i, us) :: r => match pl[i]? with
    | some (off, sz) => bif Nat.beq us.length sz then (match putN off us cs with
      | some ds => fillO pl ds r
      | none => none) else none
    | none => none

def PartsE (C : Ctx) (Γ : List OA) (Φ : List SP) : List (Nat × Value) → List (Nat × List Value) → Prop
  | [], [] => True
  | (i, v) :: r, (j, us) :: s => i = j ∧ CellsE C Γ Φ v us ∧ PartsE C Γ Φ r s
  | _, _ => False
theorem PartsE.nil {C : Ctx} {Γ : List OA} {Φ : List SP} : PartsE C Γ Φ [] [] := trivial
theorem PartsE.cons {C : Ctx} {Γ : List OA} {Φ : List SP} {i : Nat} {v : Value} {us : List Value} {r : List (Nat × Value)} {s : List (Nat × List Value)} (h : CellsE C Γ Φ v us) (k : PartsE C Γ Φ r s) : PartsE C Γ Φ ((i, v) :: r) ((i, us) :: s) := ⟨rfl, h, k⟩

theorem fill_eq {pl : List (Nat × Nat)} {R : List OA} {w : World} (hw : Holds C (Γ ++ R) Φ w) : ∀ {ps : List (Nat × Value)} {qs : List (Nat × List Value)} {cs ds : List Value}, PartsE C Γ Φ ps qs → fillO pl cs qs = some ds →
    Instr.fill (fun i => pl.toArray[i]?) cs.toArray ps = some ds.toArray
  | [], [], cs, ds, _, h => by
    simp only [fillO, Option.some.injEq] at h
    subst h
    rfl
  | [], _ :: _, _, _, h, _ => h.elim
  | _ :: _, [], _, _, h, _ => h.elim
  | (i, v) :: r, (j, us) :: s, cs, ds, hp, h => by
    obtain ⟨rfl, hc, hp⟩ := hp
    have hc := hc R w hw
    simp only [fillO] at h
    cases hpl : pl[i]? with
    | none => rw [hpl] at h; cases h
    | some os =>
      obtain ⟨off, sz⟩ := os
      rw [hpl] at h
      simp only at h
      cases hb : Nat.beq us.length sz with
      | false => rw [hb] at h; cases h
      | true =>
        rw [hb] at h
        have hsz : us.length = sz := Nat.eq_of_beq_eq_true hb
        cases hpn : putN off us cs with
        | none => rw [hpn] at h; cases h
        | some es =>
          rw [hpn] at h
          obtain ⟨hl, rfl⟩ := putN_eq hpn
          have ih := fill_eq hw hp h
          have hf := fold_set us 0 off cs (by simpa using hl)
          simp only [Nat.add_zero] at hf
          have h1 : pl.toArray[i]? = some (off, sz) := by simpa using hpl
          simp only [Instr.fill, h1, hc]
          rw [if_neg (by simp [hsz]; omega)]
          rw [← ih, ← hf]
          congr 1
          rw [← Array.foldl_toList]
          simp

theorem R_build {t : TypeId} {fs : Array Field} {parts : Array (Nat × Operand)} {pv : List (Nat × Value)} {qs : List (Nat × List Value)} {z : Value} {zs ds : List Value} {pl : List (Nat × Nat)}
    (hpv : evPs fr parts.toList = some pv) (hq : PartsE C Γ Φ pv qs) (hz : ∀ w, (zeroValue t).run C.P w = .ok z w) (hzs : listO z.cells.toList = some zs) (ht : C.P.underlying t = some (.struct fs))
    (hpl : ∀ w, Sem.run C.P (fs.mapM fun (f : Field) => (do pure (f.offset, ← sizeOf f.type) : Sem (Nat × Nat))) w = .ok pl.toArray w) (hf : fillO pl zs qs = some ds) :
    Runs C fr Γ Φ ⟨some d, .build t parts, ty, pos, aft, g⟩ (.agg ds.toArray) :=
  Runs.pure fun a w ha hw => by
    have h1 := fill_eq (R := []) (by simpa using hw) hq hf
    have e : z.cells = zs.toArray := by rw [← listO_eq hzs]
    simp only [execOp, evPs_sound ha hpv, Instr.build, Sem.run_bind, hz, Result.andThen_ok, run_underlying ht, hpl, e, h1, Sem.run_pure]

/-- the elements of a slice literal, one behind the other. -/
def SeqE (C : Ctx) (Γ : List OA) (Φ : List SP) (size : Nat) : Nat → List (Nat × Value) → List Value → Prop
  | _, [], us => us = []
  | k, (i, v) :: r, us => i = k ∧ ∃ u1 u2, us = u1 ++ u2 ∧ u1.length = size ∧ CellsE C Γ Φ v u1 ∧ SeqE C Γ Φ size (k + 1) r u2
theorem SeqE.nil {C : Ctx} {Γ : List OA} {Φ : List SP} {size k : Nat} : SeqE C Γ Φ size k [] [] := rfl
theorem SeqE.cons {C : Ctx} {Γ : List OA} {Φ : List SP} {size k : Nat} {i : Nat} {v : Value} {u1 u2 us : List Value} {r : List (Nat × Value)} (hi : i = k) (h : CellsE C Γ Φ v u1) (hl : u1.length = size) (hs : SeqE C Γ Φ size (k + 1) r u2) (ha : appO u1 u2 = some us) : SeqE C Γ Φ size k ((i, v) :: r) us :=
  ⟨hi, u1, u2, (appO_eq ha).symm, hl, h, hs⟩

theorem fill_seq {size : Nat} {R : List OA} {w : World} (hw : Holds C (Γ ++ R) Φ w) : ∀ {ps : List (Nat × Value)} {k : Nat} {us done rest : List Value}, SeqE C Γ Φ size k ps us → done.length = k * size → rest.length = us.length →
    Instr.fill (fun i => some (i * size, size)) (done ++ rest).toArray ps = some (done ++ us).toArray
  | [], k, us, done, rest, h, _, hr => by
    have h : us = [] := h
    subst h
    have : rest = [] := List.eq_nil_of_length_eq_zero (by simpa using hr)
    subst this
    rfl
  | (i, v) :: r, k, us, done, rest, h, hd, hr => by
    obtain ⟨rfl, u1, u2, rfl, hl, hc, hs⟩ := h
    have hc := hc R w hw
    have hlen : i * size + size ≤ (done ++ rest).length := by simp [hd, hr, hl]
    have hf := fold_set u1 0 (i * size) (done ++ rest) (by simpa [hl] using hlen)
    have e1 : (done ++ rest).take (i * size) = done := by rw [← hd]; simp
    have e2 : (done ++ rest).drop (i * size + u1.length) = rest.drop u1.length := by rw [← hd, ← List.drop_drop]; simp
    simp only [Nat.add_zero, e1, e2] at hf
    simp only [Instr.fill, hc]
    rw [if_neg (by simp [hl] at hlen ⊢; omega)]
    have ih := fill_seq hw hs (done := done ++ u1) (rest := rest.drop u1.length) (by simp [hd, hl, Nat.add_mul]) (by simp [hr])
    rw [← List.append_assoc done u1 u2, ← ih]
    congr 1
    rw [← Array.foldl_toList]
    simpa using hf

/-- a slice literal. -/
theorem E_buildSlice {t e : TypeId} {len : Nat} {parts : Array (Nat × Operand)} {pv : List (Nat × Value)} {size : Nat} {us : List Value} {z : Value}
    (hpv : evPs fr parts.toList = some pv) (hq : SeqE C Γ Φ size 0 pv us) (ht : C.P.underlying t = some (.slice e)) (hs : ∀ w, (sizeOf e).run C.P w = .ok size w) (hz : ∀ w, (zeroValue e).run C.P w = .ok z w)
    (hl : us.length = len * size) (hm : len * size ≤ 16777216) (hm' : len ≤ 16777216) :
    Effs C fr Γ Φ ⟨some d, .buildSlice t len parts, ty, pos, aft, g⟩ (X := Value) (fun _ => True) (fun q => q) (fun v' => .row v' e size len us :: Γ) (fun _ => Φ) := by
  refine ⟨fun _ => AllIn.refl _, fun R a w ha hw => ?_⟩
  have hn := hw.newRow (e := e) (size := size) (n := len) (c := len) (cur := us.toArray) (by simpa using hl) (Nat.le_refl _) (by simp only [maxLen]; omega)
  rw [show us.toArray.toList.take (len * size) = us from by rw [← hl]; simp] at hn
  have key : ∀ zc : Array Value, Instr.fill (fun i => some (i * size, size)) ((Array.range (len * size)).map (zc[· % zc.size]!)) pv = some us.toArray := fun zc => by
    have h1 := fill_seq hw hq (done := []) (rest := ((Array.range (len * size)).map (zc[· % zc.size]!)).toList) (by simp) (by simp [hl])
    rw [List.nil_append, List.nil_append, Array.toArray_toList] at h1
    exact h1
  have hm2 : ¬ len * size > 2 ^ 24 := by omega
  refine .val (v := .slice (some ⟨w.heap.size, 0, none⟩) len len) (w' := w.alloc (.cells us.toArray e)) ?_ ⟨_, trivial, rfl, hn⟩
  have hr : (Instr.buildSlice t len pv.toArray).run C.P w = .ok (.slice (some ⟨w.heap.size, 0, none⟩) len len) (w.alloc (.cells us.toArray e)) := by
    by_cases h0 : len * size = 0
    · have hk := key #[]
      have h3 : ¬ (0 : Nat) > 2 ^ 24 := by decide
      rw [h0] at hk
      simp only [Instr.buildSlice, Sem.run_bind, run_underlying ht, hs, Result.andThen_ok, h0, h3, if_false, if_true, Sem.run_pure, hk, newRow, newObj]
      rfl
    · simp only [Instr.buildSlice, Sem.run_bind, run_underlying ht, hs, Result.andThen_ok, hm2, if_false, h0, hz, Sem.run_pure, key, newRow, newObj]
      rfl
  simp only [execOp, evPs_sound ha hpv, Sem.run_bind, hr, Result.andThen_ok, Sem.run_pure]

theorem R_field1 {t : TypeId} {fs : Array Field} {x : Operand} {cs : List Value} {i : Nat} {f : Field} {v : Value} (hx : evO fr x = some (.agg cs.toArray)) (ht : C.P.underlying t = some (.struct fs)) (hf : fs[i]? = some f)
    (hagg : ∀ w, (isAgg f.type).run C.P w = .ok false w) (hc : cs[f.offset]? = some v) : Runs C fr Γ Φ ⟨some d, .field t x i, ty, pos, aft, g⟩ v :=
  Runs.pure fun a w ha _ => by
    have hc' : cs.toArray[f.offset]? = some v := by simpa using hc
    simp only [execOp, evO_sound ha hx, Instr.field, Sem.run_bind, run_underlying ht, Result.andThen_ok, hf, asAgg, part, hagg, Sem.run_pure, Bool.false_eq_true, if_false, hc']

theorem R_fieldN {t : TypeId} {fs : Array Field} {x : Operand} {cs us : List Value} {i n : Nat} {f : Field} (hx : evO fr x = some (.agg cs.toArray)) (ht : C.P.underlying t = some (.struct fs)) (hf : fs[i]? = some f)
    (hagg : ∀ w, (isAgg f.type).run C.P w = .ok true w) (hs : ∀ w, (sizeOf f.type).run C.P w = .ok n w) (hc : takeN f.offset n cs = some us) : Runs C fr Γ Φ ⟨some d, .field t x i, ty, pos, aft, g⟩ (.agg us.toArray) :=
  Runs.pure fun a w ha _ => by
    obtain ⟨h1, h2⟩ := takeN_at hc
    have he : cs.toArray.extract f.offset (f.offset + n) = us.toArray := by
      apply Array.ext'
      simp only [List.extract_toArray, List.extract_eq_take_drop]
      apply List.ext_getElem?
      intro j
      by_cases hj : j < n
      · have hu : us[j]? = some (us[j]'(by omega)) := List.getElem?_eq_getElem (by omega)
        rw [hu, List.getElem?_take, if_pos (by omega), List.getElem?_drop]
        exact h2 j _ hu
      · rw [List.getElem?_eq_none (l := us) (by omega), List.getElem?_take, if_neg (by omega)]
    simp only [execOp, evO_sound ha hx, Instr.field, Sem.run_bind, run_underlying ht, Result.andThen_ok, hf, asAgg, part, hagg, hs, Sem.run_pure, if_true, he]

end
end Go.Hs

/-
  Small facts on numbers for the rules' side goals. No program is named here.
-/
namespace Go.Hs
open Go Go.RowKit

theorem wx_i64 {x : Int} (h : -9223372036854775808 ≤ x ∧ x ≤ 9223372036854775807) : IntKind.i64.wrap x = x := by
  rw [IntKind.wrap_i64]; omega
theorem wx_u8 {x : Int} (h : 0 ≤ x ∧ x ≤ 255) : IntKind.u8.wrap x = x := by
  rw [IntKind.wrap_u8]; omega
theorem wx_u16 {x : Int} (h : 0 ≤ x ∧ x ≤ 65535) : IntKind.u16.wrap x = x := by
  rw [IntKind.wrap_u16]; omega
theorem wx_u32 {x : Int} (h : 0 ≤ x ∧ x ≤ 4294967295) : IntKind.u32.wrap x = x := by
  rw [IntKind.wrap_u32]; omega
theorem wx_u64 {x : Int} (h : 0 ≤ x ∧ x ≤ 18446744073709551615) : IntKind.u64.wrap x = x := by
  rw [IntKind.wrap_u64]; omega
theorem lit0 : (0 : Int) = ((0 : Nat) : Int) := rfl
theorem lit1 : (1 : Int) = ((1 : Nat) : Int) := rfl
theorem lit2 : (2 : Int) = ((2 : Nat) : Int) := rfl
theorem lit3 : (3 : Int) = ((3 : Nat) : Int) := rfl
theorem lit4 : (4 : Int) = ((4 : Nat) : Int) := rfl
theorem lit5 : (5 : Int) = ((5 : Nat) : Int) := rfl
theorem lit6 : (6 : Int) = ((6 : Nat) : Int) := rfl
theorem lit7 : (7 : Int) = ((7 : Nat) : Int) := rfl
theorem lit8 : (8 : Int) = ((8 : Nat) : Int) := rfl
theorem wx_b8 (x : Nat) : IntKind.u8.wrap (x : Int) = (((UInt8.ofNat x).toNat : Nat) : Int) := by
  rw [IntKind.wrap_u8]
  simp
theorem R_neS {C : Ctx} {fr : Fr} {Γ : List OA} {Φ : List SP} {d : Nat} {ty : TypeId} {pos : String} {aft : Array Edge} {g : Option (Nat × Bool)} {x y : Operand} {t t' : TypeId} {a b : List UInt8} {c : Bool}
    (hx : evO fr x = some (strV a)) (hy : evO fr y = some (strV b)) (hr : (!decide (a = b)) = c) : Runs C fr Γ Φ ⟨some d, .binOp .neq t x y t', ty, pos, aft, g⟩ (.bool c) :=
  Runs.pure fun a' w ha _ => by
    subst hr
    have e1 := evO_sound ha hx
    have e2 := evO_sound ha hy
    simp only [strV] at e1 e2
    simp only [execOp, e1, e2, eqGuard_at_string, binOp, Op.stringOp, Sem.run_bind, Sem.run_pure, Result.andThen_ok, ByteArray.toList_mk, bne, str_beq]
theorem neS_t {a b : List UInt8} (h : ¬ a = b) : (!decide (a = b)) = true := by rw [decide_eq_false h]; rfl
theorem neS_f {a b : List UInt8} (h : a = b) : (!decide (a = b)) = false := by rw [decide_eq_true h]; rfl
theorem nil_map : ([] : List Value) = List.map bcell [] := rfl
end Go.Hs

/-
  A region that draws its order: one walk, in an order of our own, serves every order that the edges allow. No program is named here.
-/
namespace Go.Hs
open Go Go.RowKit

def clsOf (es us : List Nat) (i : Nat) : Nat := if es.contains i then 1 else if us.contains i then 2 else 0

def depOn (ops : Array Oper) (i j : Nat) : Bool := ((Region.before ops).getD i 0).testBit j

/-- the walk of a region that draws: settled operations ('Runs') lean on Γs alone; those of es make or write what is owned; those of us are plain new blocks. -/
def PL (C : Ctx) (ops : Array Oper) (Γs : List OA) (es us : List Nat) (Q : Exit → Act → World → Prop) : List Nat → Fr → List OA → List SP → Prop
  | [], fr, Γ, Φ => WQ C .normal fr Γ Φ Q
  | i :: π, fr, Γ, Φ => ∃ o, ops[i]? = some o ∧ dstOk o.dst C.n = true ∧
      ((clsOf es us i = 0 ∧ ∃ v N, (∀ ψ ∈ N, Ent Φ ψ) ∧ ((gv ops fr o.guard = some true ∧ Runs C fr Γs Φ o v) ∨ (gv ops fr o.guard = some false ∧ v = undef)) ∧ PL C ops Γs es us Q π (putFr o.dst v fr) Γ (N ++ Φ)) ∨
       (clsOf es us i = 1 ∧ gv ops fr o.guard = some true ∧ ∃ (X : Type) (pf : X → Prop) (vx : X → Value) (Γ' : X → List OA) (Φ' : X → List SP), Effs C fr Γ Φ o pf vx Γ' Φ' ∧
          ∀ x, pf x → (SubO (Γ' x) Γs ∨ (π = [] ∧ ∀ j, j < ops.size → j ≠ i → depOn ops i j = true)) ∧ PL C ops Γs es us Q π (putFr o.dst (vx x) fr) (Γ' x) (Φ' x)) ∨
       (clsOf es us i = 2 ∧ ∃ t z, o.op = .alloc t ∧ o.guard = none ∧ (∀ w, (zeroValue t).run C.P w = .ok z w) ∧
          ∀ b, PL C ops Γs es us Q π (putFr o.dst (.pointer (some ⟨b, 0, none⟩)) fr) (.blk b t z.cells.toList :: Γ) Φ))

def dstAt (ops : Array Oper) (i : Nat) : Option Tmp := (ops[i]?).bind (·.dst)

def puts (ops : Array Oper) (a : Act) (val : Nat → Value) : List Nat → Act
  | [] => a
  | j :: r => (puts ops a val r).put (dstAt ops j) (val j)

theorem put_defers' (a : Act) (d : Option Tmp) (v : Value) : (a.put d v).defers = a.defers := by cases d <;> rfl
theorem put_size (a : Act) (d : Option Tmp) (v : Value) : (a.put d v).tmps.size = a.tmps.size := by cases d <;> simp [Act.put]

theorem puts_defers {ops : Array Oper} {a : Act} {val : Nat → Value} : ∀ l, (puts ops a val l).defers = a.defers
  | [] => rfl
  | j :: r => by rw [puts, put_defers', puts_defers r]
theorem puts_size {ops : Array Oper} {a : Act} {val : Nat → Value} : ∀ l, (puts ops a val l).tmps.size = a.tmps.size
  | [] => rfl
  | j :: r => by rw [puts, put_size, puts_size r]

theorem puts_get {ops : Array Oper} {a : Act} {val : Nat → Value} (t : Nat) : ∀ l, (puts ops a val l).tmps[t]? = match l.find? (fun j => dstAt ops j == some t) with
    | some j => if t < a.tmps.size then some (val j) else none
    | none => a.tmps[t]?
  | [] => rfl
  | j :: r => by
    rw [puts, List.find?_cons]
    by_cases h : dstAt ops j = some t
    · rw [h]
      simp only [Act.put, beq_self_eq_true]
      have hs := puts_size (ops := ops) (a := a) (val := val) r
      rw [Array.getElem?_setIfInBounds]
      simp [hs]
    · have hb : (dstAt ops j == some t) = false := by simpa using h
      rw [hb]
      simp only
      rw [← puts_get t r]
      cases hd : dstAt ops j with
      | none => rfl
      | some d =>
        have hne : d ≠ t := fun e => h (by rw [hd, e])
        simp [Act.put, Array.getElem?_setIfInBounds_ne hne]

theorem puts_congr {ops : Array Oper} {a : Act} {val val' : Nat → Value} : ∀ l, (∀ j ∈ l, val j = val' j) → puts ops a val l = puts ops a val' l
  | [], _ => rfl
  | j :: r, h => by rw [puts, puts, puts_congr r fun k hk => h k (List.mem_cons_of_mem _ hk), h j List.mem_cons_self]


/-- what the edges give, and the order of our walk. -/
structure Fit (ops : Array Oper) (es us π0 : List Nat) : Prop where
  nodup : π0.Nodup
  len : π0.length ≤ ops.size
  all : ∀ i, i < ops.size → i ∈ π0
  lt : ∀ i, i ∈ π0 → i < ops.size
  dist : ∀ i j t, dstAt ops i = some t → dstAt ops j = some t → i = j
  apart : ∀ i j oi oj, i ≠ j → ops[i]? = some oi → ops[j]? = some oj → depOn ops i j = true ∨ depOn ops j i = true ∨ ∀ t, oi.dst = some t → t ∉ oj.looksAt ops
  edge : ∀ i o e, ops[i]? = some o → e ∈ o.after → Region.binds .any e = true → depOn ops i e.on = true
  clos : ∀ i j, i < ops.size → depOn ops i j = true → ∃ o e, ops[i]? = some o ∧ e ∈ o.after ∧ Region.binds .any e = true ∧ (e.on = j ∨ depOn ops e.on j = true)
  ord : ∀ l1 i l2, π0 = l1 ++ i :: l2 → ∀ j, depOn ops i j = true → j ∈ l1
  eff : ∀ l1 i l2, π0 = l1 ++ i :: l2 → clsOf es us i ≠ 0 → ∀ j ∈ l2, clsOf es us j ≠ 2 → depOn ops j i = true
  nosel : ∀ (i : Nat) (o : Oper) cs b, ops[i]? = some o → o.op ≠ .select cs b

def Proper (ops : Array Oper) (i : Nat) (o : Oper) (S : List Nat) : Prop :=
  (∀ j, depOn ops i j = true → j ∈ S) ∧ (∀ k ∈ S, depOn ops i k = true ∨ ∀ t, dstAt ops k = some t → t ∉ o.looksAt ops)

section
variable {C : Ctx} {ops : Array Oper} {es us π0 : List Nat} {Γs : List OA} {Q : Exit → Act → World → Prop}

theorem look_same (F : Fit ops es us π0) {a0 : Act} {val : Nat → Value} {i : Nat} {o : Oper} {S T : List Nat} (hS : Proper ops i o S) (hT : Proper ops i o T) {t : Nat} (ht : t ∈ o.looksAt ops) :
    (puts ops a0 val S).tmps[t]? = (puts ops a0 val T).tmps[t]? := by
  rw [puts_get, puts_get]
  have key : ∀ {S T : List Nat}, Proper ops i o S → Proper ops i o T → ∀ k, S.find? (fun j => dstAt ops j == some t) = some k → T.find? (fun j => dstAt ops j == some t) = some k := by
    intro S T hS hT k hk
    have h1 := List.mem_of_find?_eq_some hk
    have h2 : dstAt ops k = some t := by simpa using List.find?_some hk
    have h3 : depOn ops i k = true := (hS.2 k h1).resolve_right fun h => h t h2 ht
    have h4 := hT.1 k h3
    cases hf : T.find? (fun j => dstAt ops j == some t) with
    | none => exact absurd h2 (by have := List.find?_eq_none.1 hf k h4; simpa using this)
    | some k' =>
      have h5 : dstAt ops k' = some t := by simpa using List.find?_some hf
      rw [F.dist k' k t h5 h2]
  cases hf : S.find? (fun j => dstAt ops j == some t) with
  | some k => rw [key hS hT k hf]
  | none =>
    cases hg : T.find? (fun j => dstAt ops j == some t) with
    | none => rfl
    | some k => rw [key hT hS k hg] at hf; cases hf

theorem exec_same (F : Fit ops es us π0) {a0 : Act} {val : Nat → Value} {i : Nat} {o : Oper} (ho : ops[i]? = some o) {S T : List Nat} (hS : Proper ops i o S) (hT : Proper ops i o T) :
    execOp (puts ops a0 val S).eval o = execOp (puts ops a0 val T).eval o ∧ Region.wanted o (yielded ops (puts ops a0 val S).tmps) = Region.wanted o (yielded ops (puts ops a0 val T).tmps) := by
  constructor
  · refine execOp_congr o (fun cs b => F.nosel i o cs b ho) fun x hx => ?_
    cases x with
    | tmp t =>
      have h := look_same F (a0 := a0) (val := val) hS hT (t := t) (List.mem_append_left _ (List.mem_filterMap.2 ⟨.tmp t, by simpa using hx, rfl⟩))
      simp only [Act.eval, Array.getD_eq_getD_getElem?, h]
    | _ => rfl
  · unfold Region.wanted
    cases hg : o.guard with
    | none => rfl
    | some gw =>
      obtain ⟨gd, want⟩ := gw
      have : yielded ops (puts ops a0 val S).tmps gd = yielded ops (puts ops a0 val T).tmps gd := by
        unfold yielded
        cases ht : (ops[gd]?).bind (·.dst) with
        | none => rfl
        | some t =>
          have h := look_same F (a0 := a0) (val := val) hS hT (t := t) (List.mem_append_right _ (by simp [hg, ht]))
          simp only [Option.bind_some, h]
      simp only [this]

theorem fok_same (F : Fit ops es us π0) {C : Ctx} {a0 : Act} {val : Nat → Value} {fr : Fr} {S T : List Nat} (hST : ∀ j, j ∈ S ↔ j ∈ T) (h : fok C fr (puts ops a0 val S)) : fok C fr (puts ops a0 val T) := by
  refine ⟨by have := h.1; rw [puts_defers] at this ⊢; exact this, by have := h.2.1; rw [puts_size] at this ⊢; exact this, fun t v hv => ?_⟩
  have h3 := h.2.2 t v hv
  have : (puts ops a0 val S).tmps[t]? = (puts ops a0 val T).tmps[t]? := by
    rw [puts_get, puts_get]
    have key : ∀ {S T : List Nat}, (∀ j, j ∈ S ↔ j ∈ T) → ∀ k, S.find? (fun j => dstAt ops j == some t) = some k → T.find? (fun j => dstAt ops j == some t) = some k := by
      intro S T hST k hk
      have h1 := (hST k).1 (List.mem_of_find?_eq_some hk)
      have h2 : dstAt ops k = some t := by simpa using List.find?_some hk
      cases hf : T.find? (fun j => dstAt ops j == some t) with
      | none => exact absurd h2 (by have := List.find?_eq_none.1 hf k h1; simpa using this)
      | some k' =>
        have h5 : dstAt ops k' = some t := by simpa using List.find?_some hf
        rw [F.dist k' k t h5 h2]
    cases hf : S.find? (fun j => dstAt ops j == some t) with
    | some k => rw [key hST k hf]
    | none =>
      cases hg : T.find? (fun j => dstAt ops j == some t) with
      | none => rfl
      | some k => rw [key (fun j => (hST j).symm) k hg] at hf; cases hf
  rw [Array.getD_eq_getD_getElem?] at h3 ⊢
  rw [← this]
  exact h3

def upd (val : Nat → Value) (i : Nat) (v : Value) : Nat → Value := fun k => if k = i then v else val k
theorem upd_same (val : Nat → Value) (i : Nat) (v : Value) : upd val i v i = v := by simp [upd]
theorem upd_other (val : Nat → Value) {i k : Nat} (v : Value) (h : k ≠ i) : upd val i v k = val k := by simp [upd, h]

/-- a settled operation that waits. -/
def Pend (C : Ctx) (ops : Array Oper) (Γs : List OA) (a0 : Act) (val : Nat → Value) (Φ : List SP) (ps : List Nat) (j : Nat) : Prop :=
  ∃ o Φj S, ops[j]? = some o ∧ AllIn Φj Φ ∧ (∀ k ∈ S, k ∈ ps) ∧ Proper ops j o S ∧
    ((Region.wanted o (yielded ops (puts ops a0 val S).tmps) = true ∧ ∀ w, Holds C Γs Φj w → Gives C.P ((execOp (puts ops a0 val S).eval o).run C.P w) fun v' w' => v' = val j ∧ Mod noOwn w w') ∨
     (Region.wanted o (yielded ops (puts ops a0 val S).tmps) = false ∧ val j = undef))

theorem Pend.turn {a0 : Act} {val val' : Nat → Value} {Φ Φ' : List SP} {ps ps' : List Nat} {j : Nat} (h : Pend C ops Γs a0 val Φ ps j) (hv : ∀ k ∈ ps, val k = val' k) (hj : val j = val' j) (hΦ : AllIn Φ Φ') (hps : ∀ k ∈ ps, k ∈ ps') :
    Pend C ops Γs a0 val' Φ' ps' j := by
  obtain ⟨o, Φj, S, ho, hin, hS, hp, h⟩ := h
  have e : puts ops a0 val S = puts ops a0 val' S := puts_congr S fun k hk => hv k (hS k hk)
  refine ⟨o, Φj, S, ho, fun ψ hψ => hΦ ψ (hin ψ hψ), fun k hk => hps k (hS k hk), hp, ?_⟩
  rw [← e, ← hj]
  exact h

/-- a new block made ahead of its place in the walk. -/
def Early (C : Ctx) (ops : Array Oper) (val : Nat → Value) (i : Nat) (A : OA) : Prop :=
  ∃ o t z b, ops[i]? = some o ∧ o.op = .alloc t ∧ (∀ w, (zeroValue t).run C.P w = .ok z w) ∧ val i = .pointer (some ⟨b, 0, none⟩) ∧ A = .blk b t z.cells.toList

def UZ (C : Ctx) (ops : Array Oper) (us : List Nat) : Prop :=
  ∀ i ∈ us, ∃ o t z, ops[i]? = some o ∧ o.op = .alloc t ∧ o.guard = none ∧ (∀ w, (zeroValue t).run C.P w = .ok z w)
theorem UZ.nil (C : Ctx) (ops : Array Oper) : UZ C ops [] := fun _ h => by cases h
theorem UZ.cons' {i d : Nat} {us : List Nat} {t ty : TypeId} {pos : String} {aft : Array Edge} {z : Value} (ho : ops[i]? = some ⟨some d, .alloc t, ty, pos, aft, none⟩) (hz : ∀ w, (zeroValue t).run C.P w = .ok z w) (h : UZ C ops us) : UZ C ops (i :: us) := fun j hj => by
  rcases List.mem_cons.1 hj with rfl | hj
  · exact ⟨_, t, z, ho, rfl, rfl, hz⟩
  · exact h j hj

theorem cls_us {i : Nat} (h : clsOf es us i = 2) : i ∈ us := by
  unfold clsOf at h
  split at h
  · cases h
  · split at h
    · rename_i h1
      simpa using h1
    · cases h

theorem filter_lt {p q : Nat → Bool} (h : ∀ x, q x = true → p x = true) : ∀ {l : List Nat} {i : Nat}, i ∈ l → p i = true → q i = false → (l.filter q).length < (l.filter p).length
  | [], _, hi, _, _ => by cases hi
  | x :: r, i, hi, hp, hq => by
    have hle : (r.filter q).length ≤ (r.filter p).length := by
      clear hi
      induction r with
      | nil => simp
      | cons y r ih =>
        simp only [List.filter_cons]
        cases hqy : q y
        · cases p y <;> simp <;> omega
        · rw [h y hqy]; simp; exact ih
    rcases List.mem_cons.1 hi with rfl | hi
    · simp [hp, hq]; omega
    · have := filter_lt h hi hp hq
      simp only [List.filter_cons]
      cases hqx : q x
      · cases p x <;> simp <;> omega
      · rw [h x hqx]; simp; omega

theorem getD_set_iff {listed : Array Bool} {n i j : Nat} (hs : listed.size = n) (hi : i < n) : (listed.setIfInBounds i true).getD j false = true ↔ j = i ∨ listed.getD j false = true := by
  by_cases h : i = j
  · subst h
    simp [Array.getD_eq_getD_getElem?, hs, hi]
  · have : (listed.setIfInBounds i true)[j]? = listed[j]? := by rw [Array.getElem?_setIfInBounds_ne h]
    simp only [Array.getD_eq_getD_getElem?, this]
    constructor
    · exact .inr
    · rintro (h1 | h1)
      · exact absurd h1.symm h
      · exact h1

/-- the state of a drawn region, held against our walk. -/
structure St (C : Ctx) (ops : Array Oper) (es us π0 : List Nat) (Γs : List OA) (Q : Exit → Act → World → Prop) (a0 : Act) (fuel : Nat) (π ps ex : List Nat) (val : Nat → Value) (fr : Fr) (Γ : List OA) (Φ : List SP)
    (el : List (Nat × OA)) (listed : Array Bool) (w : World) : Prop where
  plan : π0 = ps.reverse ++ π
  lsz : listed.size = ops.size
  lex : ∀ i, i < ops.size → (listed.getD i false = true ↔ i ∈ ex)
  xlt : ∀ i ∈ ex, i < ops.size
  fu : (π0.filter fun k => !ex.contains k).length ≤ fuel
  xdep : ∀ i ∈ ex, ∀ j, depOn ops i j = true → j ∈ ex
  xps : ∀ i ∈ ex, i ∈ ps ∨ (i ∈ π ∧ ∃ A, (i, A) ∈ el)
  early : ∀ p ∈ el, p.1 ∈ ex ∧ p.1 ∈ π ∧ clsOf es us p.1 = 2 ∧ Early C ops val p.1 p.2
  elnd : (el.map (·.1)).Nodup
  pend : ∀ j ∈ ps, j ∉ ex → Pend C ops Γs a0 val Φ ps j
  frm : fok C fr (puts ops a0 val ps)
  hol : Holds C (Γ ++ el.map (·.2)) Φ w
  sub : SubO Γ Γs ∨ (π = [] ∧ ∀ j ∈ ps, j ∈ ex)
  walk : PL C ops Γs es us Q π fr Γ Φ

theorem puts_upd {a0 : Act} {val : Nat → Value} {i : Nat} {v : Value} {l : List Nat} (h : i ∉ l) : puts ops a0 (upd val i v) l = puts ops a0 val l :=
  puts_congr l fun _ hk => upd_other val v fun e => h (e ▸ hk)

theorem dstAt_eq {i : Nat} {o : Oper} (ho : ops[i]? = some o) : dstAt ops i = o.dst := by simp [dstAt, ho]

theorem sub_holds {Γ R : List OA} {Φ Φj : List SP} {w : World} (h : Holds C (Γ ++ R) Φ w) (hs : SubO Γ Γs) (hin : AllIn Φj Φ) : Holds C Γs Φj w := by
  obtain ⟨X, hX⟩ := hs
  have h1 := h.perm (hX.append_right R)
  rw [List.append_assoc] at h1
  exact h1.dropR.sub hin

/-- what all orders share: an operation that is ready sees what our walk saw. -/
theorem St.proper {a0 : Act} {fuel : Nat} {π ps ex : List Nat} {val : Nat → Value} {fr : Fr} {Γ : List OA} {Φ : List SP} {el : List (Nat × OA)} {listed : Array Bool} {w : World}
    (F : Fit ops es us π0) (S : St C ops es us π0 Γs Q a0 fuel π ps ex val fr Γ Φ el listed w) {i : Nat} {o : Oper} (ho : ops[i]? = some o) (hx : i ∉ ex) (hdep : ∀ j, depOn ops i j = true → j ∈ ex) : Proper ops i o ex := by
  refine ⟨hdep, fun k hk => ?_⟩
  obtain ⟨ok, hok⟩ : ∃ ok, ops[k]? = some ok := ⟨_, Array.getElem?_eq_getElem (S.xlt k hk)⟩
  have hne : k ≠ i := fun e => hx (e ▸ hk)
  rcases F.apart k i ok o hne hok ho with h | h | h
  · exact absurd (S.xdep k hk i h) hx
  · exact .inl h
  · exact .inr fun t ht => h t (by rw [← dstAt_eq hok]; exact ht)

/-- one operation is done: it waits no more, or it was a new block ahead of its place, or the walk's next. -/
theorem St.step (F : Fit ops es us π0) (hU : UZ C ops us) {a0 : Act} (_ : a0.defers = C.ds) {fuel : Nat}
    (ih : ∀ (π ps ex : List Nat) (val : Nat → Value) (fr : Fr) (Γ : List OA) (Φ : List SP) (el : List (Nat × OA)) (listed : Array Bool) (w : World), St C ops es us π0 Γs Q a0 fuel π ps ex val fr Γ Φ el listed w → wpAnyIn (fenceOf C.rd) 0 C.P .any ops Q fuel listed (puts ops a0 val ex) w)
    {π ps ex : List Nat} {val : Nat → Value} {fr : Fr} {Γ : List OA} {Φ : List SP} {el : List (Nat × OA)} {listed : Array Bool} {w : World}
    (S : St C ops es us π0 Γs Q a0 (fuel + 1) π ps ex val fr Γ Φ el listed w)
    (hst : ∀ h r, π = h :: r → h ∉ ex ∧ clsOf es us h ≠ 0) {i : Nat} (hlt : i < ops.size) (hx : i ∉ ex) (hdep : ∀ j, depOn ops i j = true → j ∈ ex) :
    wpOpIn (fenceOf C.rd) 0 C.P ops Q i (wpAnyIn (fenceOf C.rd) 0 C.P .any ops Q fuel (listed.setIfInBounds i true)) (puts ops a0 val ex) w := by
  obtain ⟨o, ho⟩ : ∃ o, ops[i]? = some o := ⟨_, Array.getElem?_eq_getElem hlt⟩
  have hprop := S.proper F ho hx hdep
  have hi0 := F.all i hlt
  have lsz' : (listed.setIfInBounds i true).size = ops.size := by simp [S.lsz]
  have lex' : ∀ j, j < ops.size → ((listed.setIfInBounds i true).getD j false = true ↔ j ∈ i :: ex) := fun j hj => by
    rw [getD_set_iff S.lsz hlt, S.lex j hj]
    simp
  have xlt' : ∀ j ∈ i :: ex, j < ops.size := fun j hj => by
    rcases List.mem_cons.1 hj with rfl | hj
    · exact hlt
    · exact S.xlt j hj
  have fu' : (π0.filter fun k => !(i :: ex).contains k).length ≤ fuel := by
    have := filter_lt (p := fun k => !ex.contains k) (q := fun k => !(i :: ex).contains k) (fun x hq => by simp at hq ⊢; exact hq.2) hi0 (by simpa using hx) (by simp)
    have := S.fu
    omega
  have xdep' : ∀ k ∈ i :: ex, ∀ j, depOn ops k j = true → j ∈ i :: ex := fun k hk j hj => by
    rcases List.mem_cons.1 hk with rfl | hk
    · exact List.mem_cons_of_mem _ (hdep j hj)
    · exact List.mem_cons_of_mem _ (S.xdep k hk j hj)
  have hmem : i ∈ ps ∨ i ∈ π := by
    rw [S.plan] at hi0
    simpa using hi0
  unfold wpOpIn
  rw [ho]
  show if Region.wanted o (yielded ops (puts ops a0 val ex).tmps) = true then _ else _
  rcases hmem with hmem | hmem
  · -- it waited
    obtain ⟨o', Φj, T, ho', hin, hT, hTp, h⟩ := S.pend i hmem hx
    obtain rfl : o = o' := by rw [ho] at ho'; injection ho' with e
    obtain ⟨e1, e2⟩ := exec_same F (a0 := a0) (val := val) ho hTp hprop
    have next : ∀ w', Holds C (Γ ++ el.map (·.2)) Φ w' → St C ops es us π0 Γs Q a0 fuel π ps (i :: ex) val fr Γ Φ el (listed.setIfInBounds i true) w' := fun w' hw' =>
      { plan := S.plan, lsz := lsz', lex := lex', xlt := xlt', fu := fu', xdep := xdep', elnd := S.elnd, frm := S.frm, hol := hw', sub := S.sub.imp_right (fun h => ⟨h.1, fun j hj => List.mem_cons_of_mem _ (h.2 j hj)⟩), walk := S.walk
        xps := fun k hk => by
          rcases List.mem_cons.1 hk with rfl | hk
          · exact .inl hmem
          · exact S.xps k hk
        early := fun p hp => ⟨List.mem_cons_of_mem _ (S.early p hp).1, (S.early p hp).2⟩
        pend := fun j hj hjx => S.pend j hj fun hk => hjx (List.mem_cons_of_mem _ hk) }
    rcases h with ⟨hw1, hg⟩ | ⟨hw1, hv⟩
    · rw [if_pos (by rw [← e2]; exact hw1)]
      have hG := hg w (sub_holds S.hol (S.sub.resolve_right fun h => hx (h.2 i hmem)) hin)
      rw [e1] at hG
      refine hG.wp fun v' w' ⟨hv, hm⟩ => ?_
      subst hv
      have := ih _ _ _ _ _ _ _ _ _ _ (next w' (S.hol.ext hm))
      rw [puts, dstAt_eq ho] at this
      exact this
    · rw [if_neg (by rw [← e2, hw1]; simp)]
      have := ih _ _ _ _ _ _ _ _ _ _ (next w S.hol)
      rw [puts, dstAt_eq ho, hv] at this
      exact ⟨fun f _ => fenceOf_fn _ f, this⟩
  · have hnps : i ∉ ps := fun h => by
      have := F.nodup
      rw [S.plan] at this
      exact (List.nodup_append.1 this).2.2 i (List.mem_reverse.2 h) i hmem rfl
    have hpps : ∀ k ∈ ps, k ≠ i := fun k hk e => hnps (e ▸ hk)
    by_cases hc : clsOf es us i = 2
    · -- a new block ahead of its place
      obtain ⟨o', t, z, ho', hop, hgd, hz⟩ := hU i (cls_us hc)
      obtain rfl : o = o' := by rw [ho] at ho'; injection ho' with e
      rw [if_pos (by simp [Region.wanted, hgd])]
      refine Gives.wp (post := fun v' w' => v' = .pointer (some ⟨w.heap.size, 0, none⟩) ∧ w' = w.alloc (.cells z.cells t)) ?_ fun v' w' ⟨hv, hw'⟩ => ?_
      · refine .val (v := .pointer (some ⟨w.heap.size, 0, none⟩)) (w' := w.alloc (.cells z.cells t)) ?_ ⟨rfl, rfl⟩
        unfold execOp
        rw [hop]
        simp only [Instr.alloc, Sem.run_bind, hz, Result.andThen_ok, newVar, newRow, newObj]
        rfl
      · subst hv; subst hw'
        have hnel : i ∉ el.map (·.1) := fun h => by
          obtain ⟨p, hp, e⟩ := List.mem_map.1 h
          exact hx (e ▸ (S.early p hp).1)
        have S' : St C ops es us π0 Γs Q a0 fuel π ps (i :: ex) (upd val i (.pointer (some ⟨w.heap.size, 0, none⟩))) fr Γ Φ ((i, .blk w.heap.size t z.cells.toList) :: el) (listed.setIfInBounds i true) (w.alloc (.cells z.cells t)) :=
          { plan := S.plan, lsz := lsz', lex := lex', xlt := xlt', fu := fu', xdep := xdep', sub := S.sub.imp_right (fun h => ⟨h.1, fun j hj => List.mem_cons_of_mem _ (h.2 j hj)⟩), walk := S.walk
            xps := fun k hk => by
              rcases List.mem_cons.1 hk with rfl | hk
              · exact .inr ⟨hmem, _, List.mem_cons_self⟩
              · rcases S.xps k hk with h | ⟨h, A, hA⟩
                · exact .inl h
                · exact .inr ⟨h, A, List.mem_cons_of_mem _ hA⟩
            early := fun p hp => by
              rcases List.mem_cons.1 hp with rfl | hp
              · exact ⟨List.mem_cons_self, hmem, hc, o, t, z, w.heap.size, ho, hop, hz, upd_same _ _ _, rfl⟩
              · obtain ⟨h1, h2, h3, o2, t2, z2, b2, h4, h5, h6, h7, h8⟩ := S.early p hp
                have hne : p.1 ≠ i := fun e => hx (e ▸ h1)
                refine ⟨List.mem_cons_of_mem _ h1, h2, h3, o2, t2, z2, b2, h4, h5, h6, ?_, h8⟩
                rw [upd_other _ _ hne]
                exact h7
            elnd := by simpa using ⟨by simpa using hnel, S.elnd⟩
            pend := fun j hj hjx => (S.pend j hj fun hk => hjx (List.mem_cons_of_mem _ hk)).turn (fun k hk => (upd_other _ _ (hpps k hk)).symm) (upd_other _ _ (hpps j hj)).symm (AllIn.refl _) fun k hk => hk
            frm := by rw [puts_upd hnps]; exact S.frm
            hol := (S.hol.alloc t z.cells).perm (List.perm_middle.symm) }
        have := ih _ _ _ _ _ _ _ _ _ _ S'
        rw [puts, dstAt_eq ho, upd_same, puts_upd hx] at this
        exact this
    · -- the walk's next
      cases hπ : π with
      | nil => rw [hπ] at hmem; cases hmem
      | cons h r =>
        obtain ⟨hhx, hh0⟩ := hst h r hπ
        have hih : i = h := by
          rw [hπ] at hmem
          rcases List.mem_cons.1 hmem with e | hr
          · exact e
          · exact absurd (hdep h (F.eff ps.reverse h r (by rw [S.plan, hπ]) hh0 i hr hc)) hhx
        subst hih
        have hpl := S.walk
        rw [hπ] at hpl
        obtain ⟨o', ho', hdo, hnode⟩ := hpl
        obtain rfl : o = o' := by rw [ho] at ho'; injection ho' with e
        rcases hnode with ⟨h0, _⟩ | ⟨_, hgv, X, pf, vx, Γ', Φ', heff, hk⟩ | ⟨h2, _⟩
        · exact absurd h0 hh0
        · have hpprop : Proper ops i o ps := by
            refine ⟨fun j hj => by simpa using F.ord ps.reverse i r (by rw [S.plan, hπ]) j hj, fun k hk => ?_⟩
            have hklt := F.lt k (by rw [S.plan]; simp [hk])
            obtain ⟨ok, hok⟩ : ∃ ok, ops[k]? = some ok := ⟨_, Array.getElem?_eq_getElem hklt⟩
            rcases F.apart k i ok o (hpps k hk) hok ho with h | h | h
            · exfalso
              obtain ⟨l1, l2, hl⟩ := List.append_of_mem (List.mem_reverse.2 hk)
              have h1 := F.ord l1 k (l2 ++ i :: r) (by rw [S.plan, hπ, hl]; simp) i h
              exact hnps (List.mem_reverse.1 (by rw [hl]; simp [h1]))
            · exact .inl h
            · exact .inr fun t ht => h t (by rw [← dstAt_eq hok]; exact ht)
          obtain ⟨e1, e2⟩ := exec_same F (a0 := a0) (val := val) ho hpprop hprop
          rw [if_pos (by rw [← e2]; exact gv_sound S.frm hgv)]
          have hG := heff.2 _ _ w S.frm S.hol
          rw [e1] at hG
          refine hG.wp fun v' w' ⟨x, hpf, hv, hw'⟩ => ?_
          subst hv
          obtain ⟨hsub, hpl'⟩ := hk x hpf
          have S' : St C ops es us π0 Γs Q a0 fuel r (i :: ps) (i :: ex) (upd val i (vx x)) (putFr o.dst (vx x) fr) (Γ' x) (Φ' x) el (listed.setIfInBounds i true) w' :=
            { plan := by rw [S.plan, hπ]; simp
              lsz := lsz', lex := lex', xlt := xlt', fu := fu', xdep := xdep', walk := hpl'
              sub := hsub.imp_right (fun h => ⟨h.1, fun j hj => by
                by_cases e : j = i
                · rw [e]; exact List.mem_cons_self
                · rcases List.mem_cons.1 hj with h' | h'
                  · exact absurd h' e
                  · exact List.mem_cons_of_mem _ (hdep j (h.2 j (F.lt j (by rw [S.plan]; simp [h'])) e))⟩)
             , elnd := S.elnd, hol := hw'
              xps := fun k hk => by
                rcases List.mem_cons.1 hk with rfl | hk
                · exact .inl List.mem_cons_self
                · rcases S.xps k hk with h | ⟨h, A, hA⟩
                  · exact .inl (List.mem_cons_of_mem _ h)
                  · rw [hπ] at h
                    rcases List.mem_cons.1 h with h | h
                    · exact absurd (h ▸ hk) hx
                    · exact .inr ⟨h, A, hA⟩
              early := fun p hp => by
                obtain ⟨h1, h2, h3, o2, t2, z2, b2, h4, h5, h6, h7, h8⟩ := S.early p hp
                have hne : p.1 ≠ i := fun e => hx (e ▸ h1)
                refine ⟨List.mem_cons_of_mem _ h1, ?_, h3, o2, t2, z2, b2, h4, h5, h6, ?_, h8⟩
                · rw [hπ] at h2
                  exact (List.mem_cons.1 h2).resolve_left hne
                · rw [upd_other _ _ hne]
                  exact h7
              pend := fun j hj hjx => by
                rcases List.mem_cons.1 hj with rfl | hj
                · exact absurd List.mem_cons_self hjx
                · exact (S.pend j hj fun hk => hjx (List.mem_cons_of_mem _ hk)).turn (fun k hk => (upd_other _ _ (hpps k hk)).symm) (upd_other _ _ (hpps j hj)).symm (heff.1 x) fun k hk => List.mem_cons_of_mem _ hk
              frm := by
                rw [puts, upd_same, puts_upd hnps, dstAt_eq ho]
                exact S.frm.putd hdo }
          have := ih _ _ _ _ _ _ _ _ _ _ S'
          rw [puts, dstAt_eq ho, upd_same, puts_upd hx] at this
          exact this
        · exact absurd h2 hc

theorem zero_same {P : Program} {t : TypeId} {z z' : Value} (h : ∀ w, (zeroValue t).run P w = .ok z w) (h' : ∀ w, (zeroValue t).run P w = .ok z' w) : z = z' := by
  have h1 := h default
  rw [h' default] at h1
  injection h1 with h1
  exact h1.symm

theorem ready_mem {listed : Array Bool} {i : Nat} (h : i ∈ Region.ready .any ops listed) : i < ops.size ∧ listed.getD i true = false ∧ ∃ o, ops[i]? = some o ∧ ∀ e ∈ o.after, Region.binds .any e = true → listed.getD e.on false = true := by
  obtain ⟨h1, o, h2, h3⟩ := mem_ready.1 h
  exact ⟨(Array.getElem?_eq_some_iff.1 h2).1, h1, o, h2, h3⟩

theorem St.ready {a0 : Act} {fuel : Nat} {π ps ex : List Nat} {val : Nat → Value} {fr : Fr} {Γ : List OA} {Φ : List SP} {el : List (Nat × OA)} {listed : Array Bool} {w : World}
    (F : Fit ops es us π0) (S : St C ops es us π0 Γs Q a0 fuel π ps ex val fr Γ Φ el listed w) {i : Nat} (h : i ∈ Region.ready .any ops listed) : i < ops.size ∧ i ∉ ex ∧ ∀ j, depOn ops i j = true → j ∈ ex := by
  obtain ⟨hlt, hl, o, ho, hall⟩ := ready_mem h
  refine ⟨hlt, fun hx => ?_, fun j hj => ?_⟩
  · have := (S.lex i hlt).2 hx
    have hlt' : i < listed.size := by rw [S.lsz]; exact hlt
    simp [Array.getD_eq_getD_getElem?, hlt'] at this hl
    rw [this] at hl
    cases hl
  · obtain ⟨o', e, ho', he, hb, hor⟩ := F.clos i j hlt hj
    obtain rfl : o = o' := by rw [ho] at ho'; injection ho' with e
    have hle := hall e he hb
    have helt : e.on < ops.size := by
      rcases Nat.lt_or_ge e.on ops.size with h | h
      · exact h
      · have : listed[e.on]? = none := Array.getElem?_eq_none (by rw [S.lsz]; exact h)
        simp [Array.getD_eq_getD_getElem?, this] at hle
    have hex := (S.lex e.on helt).1 hle
    rcases hor with rfl | hor
    · exact hex
    · exact S.xdep _ hex j hor

/-- nothing is ready: all is done. -/
theorem St.done {a0 : Act} {fuel : Nat} {π ps ex : List Nat} {val : Nat → Value} {fr : Fr} {Γ : List OA} {Φ : List SP} {el : List (Nat × OA)} {listed : Array Bool} {w : World}
    (F : Fit ops es us π0) (S : St C ops es us π0 Γs Q a0 fuel π ps ex val fr Γ Φ el listed w) (hr : Region.ready .any ops listed = []) : ∀ i ∈ π0, i ∈ ex := by
  have key : ∀ n l1 i l2, l1.length = n → π0 = l1 ++ i :: l2 → i ∈ ex := by
    intro n
    induction n using Nat.strongRecOn with
    | _ n ih =>
      intro l1 i l2 hn hl
      have hlt := F.lt i (by rw [hl]; simp)
      obtain ⟨o, ho⟩ : ∃ o, ops[i]? = some o := ⟨_, Array.getElem?_eq_getElem hlt⟩
      rcases Classical.em (i ∈ ex) with hx | hx
      · exact hx
      · exfalso
        have : i ∈ Region.ready .any ops listed := by
          refine mem_ready.2 ⟨?_, o, ho, fun e he hb => ?_⟩
          · have hlt' : i < listed.size := by rw [S.lsz]; exact hlt
            have h2 : ¬ listed.getD i false = true := fun h => hx ((S.lex i hlt).1 h)
            simp [Array.getD_eq_getD_getElem?, hlt'] at h2 ⊢
            exact h2
          · have hd := F.edge i o e ho he hb
            have hm := F.ord l1 i l2 hl e.on hd
            obtain ⟨m1, m2, hm2⟩ := List.append_of_mem hm
            have helt := F.lt e.on (by rw [hl, hm2]; simp)
            refine (S.lex e.on helt).2 (ih m1.length (by rw [← hn, hm2]; simp) m1 e.on (m2 ++ i :: l2) rfl (by rw [hl, hm2]; simp))
        rw [hr] at this
        cases this
  intro i hi
  obtain ⟨l1, l2, hl⟩ := List.append_of_mem hi
  exact key _ l1 i l2 rfl hl

theorem St.fin {a0 : Act} {fuel : Nat} {π ps ex : List Nat} {val : Nat → Value} {fr : Fr} {Γ : List OA} {Φ : List SP} {el : List (Nat × OA)} {listed : Array Bool} {w : World}
    (F : Fit ops es us π0) (S : St C ops es us π0 Γs Q a0 fuel π ps ex val fr Γ Φ el listed w) (hst : ∀ h r, π = h :: r → h ∉ ex ∧ clsOf es us h ≠ 0) (hall : ∀ i ∈ π0, i ∈ ex) : Q .normal (puts ops a0 val ex) w := by
  have hπ : π = [] := by
    cases hπ : π with
    | nil => rfl
    | cons h r => exact absurd (hall h (by rw [S.plan, hπ]; simp)) (hst h r hπ).1
  subst hπ
  have hel : el = [] := by
    cases el with
    | nil => rfl
    | cons p r => have := (S.early p List.mem_cons_self).2.1; cases this
  subst hel
  have hw := S.walk
  refine hw _ w (fok_same F (fun j => ⟨fun h => hall j (by rw [S.plan]; simp [h]), fun h => ?_⟩) S.frm) (by simpa using S.hol)
  rcases S.xps j h with h | ⟨h, _⟩
  · exact h
  · cases h

/-- what can be settled is settled, ahead of the next step. -/
theorem St.settle (F : Fit ops es us π0) {a0 : Act} {fuel : Nat} {listed : Array Bool} {w : World} {ex : List Nat} {K : (Nat → Value) → Prop}
    (hK : ∀ (π ps : List Nat) (val : Nat → Value) (fr : Fr) (Γ : List OA) (Φ : List SP) (el : List (Nat × OA)), St C ops es us π0 Γs Q a0 fuel π ps ex val fr Γ Φ el listed w → (∀ h r, π = h :: r → h ∉ ex ∧ clsOf es us h ≠ 0) → K val)
    (hKc : ∀ val val', (∀ k ∈ ex, val k = val' k) → K val' → K val) :
    ∀ (π ps : List Nat) (val : Nat → Value) (fr : Fr) (Γ : List OA) (Φ : List SP) (el : List (Nat × OA)), St C ops es us π0 Γs Q a0 fuel π ps ex val fr Γ Φ el listed w → K val := by
  intro π
  induction π with
  | nil => exact fun ps val fr Γ Φ el S => hK _ _ _ _ _ _ _ S fun h r e => by cases e
  | cons i r ih =>
    intro ps val fr Γ Φ el S
    have hnd := F.nodup
    rw [S.plan] at hnd
    have hnps : i ∉ ps := fun h => (List.nodup_append.1 hnd).2.2 i (List.mem_reverse.2 h) i List.mem_cons_self rfl
    have hpps : ∀ k ∈ ps, k ≠ i := fun k hk e => hnps (e ▸ hk)
    have hir : i ∉ r := (List.nodup_cons.1 (List.nodup_append.1 hnd).2.1).1
    have hlt := F.lt i (by rw [S.plan]; simp)
    obtain ⟨o, ho, hdo, hnode⟩ := S.walk
    have hpprop : Proper ops i o ps := by
      refine ⟨fun j hj => by simpa using F.ord ps.reverse i r S.plan j hj, fun k hk => ?_⟩
      have hklt := F.lt k (by rw [S.plan]; simp [hk])
      obtain ⟨ok, hok⟩ : ∃ ok, ops[k]? = some ok := ⟨_, Array.getElem?_eq_getElem hklt⟩
      rcases F.apart k i ok o (hpps k hk) hok ho with h | h | h
      · exfalso
        obtain ⟨l1, l2, hl⟩ := List.append_of_mem (List.mem_reverse.2 hk)
        have h1 := F.ord l1 k (l2 ++ i :: r) (by rw [S.plan, hl]; simp) i h
        exact hnps (List.mem_reverse.1 (by rw [hl]; simp [h1]))
      · exact .inl h
      · exact .inr fun t ht => h t (by rw [← dstAt_eq hok]; exact ht)
    rcases hnode with ⟨h0, v, N, hN, hrun, hpl⟩ | ⟨h1, _⟩ | ⟨h2, t, z, hop, hgd, hz, hpl⟩
    · -- settled by what is known
      have hix : i ∉ ex := fun h => by
        rcases S.xps i h with h | ⟨_, A, hA⟩
        · exact hnps h
        · have := (S.early _ hA).2.2.1
          rw [h0] at this
          cases this
      have hin : AllIn Φ (N ++ Φ) := fun ψ hψ => List.mem_append.2 (.inr hψ)
      refine hKc val (upd val i v) (fun k hk => (upd_other _ _ (fun (e : k = i) => hix (e ▸ hk))).symm) (ih (i :: ps) (upd val i v) (putFr o.dst v fr) Γ (N ++ Φ) el
        { plan := by rw [S.plan]; simp
          lsz := S.lsz, lex := S.lex, xlt := S.xlt, fu := S.fu, xdep := S.xdep, elnd := S.elnd, sub := .inl (S.sub.resolve_right fun h => by cases h.1), walk := hpl
          hol := ⟨S.hol.mod, S.hol.own, S.hol.ofp, S.hol.o0, fun ψ hψ => by
            rcases List.mem_append.1 hψ with hψ | hψ
            · exact hN ψ hψ _ _ S.hol.sp
            · exact S.hol.sp ψ hψ⟩
          xps := fun k hk => by
            rcases S.xps k hk with h | ⟨h, A⟩
            · exact .inl (List.mem_cons_of_mem _ h)
            · exact .inr ⟨(List.mem_cons.1 h).resolve_left (fun (e : k = i) => hix (by rw [← e]; exact hk)), A⟩
          early := fun p hp => by
            obtain ⟨h1, h2, h3, o2, t2, z2, b2, h4, h5, h6, h7, h8⟩ := S.early p hp
            have hne : p.1 ≠ i := fun e => hix (e ▸ h1)
            exact ⟨h1, (List.mem_cons.1 h2).resolve_left hne, h3, o2, t2, z2, b2, h4, h5, h6, by rw [upd_other _ _ hne]; exact h7, h8⟩
          pend := fun j hj hjx => by
            rcases List.mem_cons.1 hj with rfl | hj
            · refine ⟨o, Φ, ps, ho, hin, fun k hk => List.mem_cons_of_mem _ hk, hpprop, ?_⟩
              rw [puts_upd hnps, upd_same]
              rcases hrun with ⟨hg, hr⟩ | ⟨hg, hv⟩
              · refine .inl ⟨gv_sound S.frm hg, fun w' hw' => hr _ w' S.frm hw'⟩
              · exact .inr ⟨gv_sound S.frm hg, hv⟩
            · exact (S.pend j hj hjx).turn (fun k hk => (upd_other _ _ (hpps k hk)).symm) (upd_other _ _ (hpps j hj)).symm hin fun k hk => List.mem_cons_of_mem _ hk
          frm := by
            rw [puts, upd_same, puts_upd hnps, dstAt_eq ho]
            exact S.frm.putd hdo })
    · exact hK _ _ _ _ _ _ _ S fun h r' e => by
        injection e with e1 e2
        subst e1
        refine ⟨fun hx => ?_, by rw [h1]; decide⟩
        rcases S.xps i hx with h | ⟨_, A, hA⟩
        · exact hnps h
        · have := (S.early _ hA).2.2.1
          rw [h1] at this
          cases this
    · by_cases hx : i ∈ ex
      · -- a block made ahead takes its place
        obtain ⟨A, hA⟩ : ∃ A, (i, A) ∈ el := by
          rcases S.xps i hx with h | ⟨_, h⟩
          · exact absurd h hnps
          · exact h
        obtain ⟨_, _, _, o2, t2, z2, b, h4, h5, h6, h7, h8⟩ := S.early _ hA
        obtain rfl : o = o2 := by rw [ho] at h4; injection h4 with e
        obtain rfl : t = t2 := by rw [hop] at h5; injection h5 with e
        obtain rfl : z = z2 := zero_same hz h6
        obtain ⟨e1, e2, hel⟩ := List.append_of_mem hA
        have hnd2 := S.elnd
        rw [hel] at hnd2
        simp only [List.map_append, List.map_cons] at hnd2
        have hni : ∀ p ∈ e1 ++ e2, p.1 ≠ i := fun p hp e => by
          rw [List.nodup_append] at hnd2
          obtain ⟨_, h2, h3⟩ := hnd2
          rcases List.mem_append.1 hp with hp | hp
          · exact h3 p.1 (List.mem_map_of_mem hp) i List.mem_cons_self e
          · exact (List.nodup_cons.1 h2).1 (e ▸ List.mem_map_of_mem hp)
        refine ih (i :: ps) val (putFr o.dst (.pointer (some ⟨b, 0, none⟩)) fr) (.blk b t z.cells.toList :: Γ) Φ (e1 ++ e2)
          { plan := by rw [S.plan]; simp
            lsz := S.lsz, lex := S.lex, xlt := S.xlt, fu := S.fu, xdep := S.xdep, walk := hpl b
            sub := by
              obtain ⟨X, hX⟩ := S.sub.resolve_right fun h => by cases h.1
              exact .inl ⟨.blk b t z.cells.toList :: X, (List.Perm.cons _ hX).trans List.perm_middle.symm⟩
            elnd := by
              rw [List.map_append]
              rw [List.nodup_append] at hnd2 ⊢
              obtain ⟨h1, h2, h3⟩ := hnd2
              exact ⟨h1, (List.nodup_cons.1 h2).2, fun a ha b hb => h3 a ha b (List.mem_cons_of_mem _ hb)⟩
            hol := by
              have hh := S.hol
              rw [hel] at hh
              subst h8
              refine hh.perm ?_
              simp only [List.map_append, List.map_cons, List.cons_append]
              rw [← List.append_assoc, ← List.append_assoc]
              exact List.perm_middle
            xps := fun k hk => by
              rcases S.xps k hk with h | ⟨h, A', hA'⟩
              · exact .inl (List.mem_cons_of_mem _ h)
              · by_cases e : k = i
                · exact .inl (e ▸ List.mem_cons_self)
                · refine .inr ⟨(List.mem_cons.1 h).resolve_left e, A', ?_⟩
                  rw [hel] at hA'
                  rcases List.mem_append.1 hA' with h | h
                  · exact List.mem_append.2 (.inl h)
                  · rcases List.mem_cons.1 h with h | h
                    · injection h with h
                      exact absurd h e
                    · exact List.mem_append.2 (.inr h)
            early := fun p hp => by
              have hp' : p ∈ el := by
                rw [hel]
                rcases List.mem_append.1 hp with h | h
                · exact List.mem_append.2 (.inl h)
                · exact List.mem_append.2 (.inr (List.mem_cons_of_mem _ h))
              obtain ⟨h1, h2, h3⟩ := S.early p hp'
              exact ⟨h1, (List.mem_cons.1 h2).resolve_left (hni p hp), h3⟩
            pend := fun j hj hjx => by
              rcases List.mem_cons.1 hj with rfl | hj
              · exact absurd hx hjx
              · exact (S.pend j hj hjx).turn (fun _ _ => rfl) rfl (AllIn.refl _) fun k hk => List.mem_cons_of_mem _ hk
            frm := by
              rw [puts, h7, dstAt_eq ho]
              exact S.frm.putd hdo }
      · exact hK _ _ _ _ _ _ _ S fun h r' e => by
          injection e with e1 e2
          subst e1
          exact ⟨hx, by rw [h2]; decide⟩

theorem PL_main (F : Fit ops es us π0) (hU : UZ C ops us) (a0 : Act) (hd0 : a0.defers = C.ds) : ∀ (fuel : Nat) (π ps ex : List Nat) (val : Nat → Value) (fr : Fr) (Γ : List OA) (Φ : List SP) (el : List (Nat × OA)) (listed : Array Bool) (w : World),
    St C ops es us π0 Γs Q a0 fuel π ps ex val fr Γ Φ el listed w → wpAnyIn (fenceOf C.rd) 0 C.P .any ops Q fuel listed (puts ops a0 val ex) w := by
  intro fuel
  induction fuel with
  | zero =>
    intro π ps ex val fr Γ Φ el listed w S
    refine St.settle F (K := fun val => wpAnyIn (fenceOf C.rd) 0 C.P .any ops Q 0 listed (puts ops a0 val ex) w) ?_ (fun v v' h hk => by rw [puts_congr ex h]; exact hk) π ps val fr Γ Φ el S
    intro π ps val fr Γ Φ el S hst
    have hall : ∀ i ∈ π0, i ∈ ex := fun i hi => by
      rcases Classical.em (i ∈ ex) with h | h
      · exact h
      · have : i ∈ π0.filter fun k => !ex.contains k := List.mem_filter.2 ⟨hi, by simpa using h⟩
        have h0 := List.length_pos_of_mem this
        have := S.fu
        omega
    refine ⟨?_, S.fin F hst hall⟩
    cases hr : Region.ready .any ops listed with
    | nil => rfl
    | cons i r =>
      obtain ⟨h1, h2, _⟩ := S.ready F (i := i) (by rw [hr]; exact List.mem_cons_self)
      exact absurd (hall i (F.all i h1)) h2
  | succ fuel ih =>
    intro π ps ex val fr Γ Φ el listed w S
    refine St.settle F (K := fun val => wpAnyIn (fenceOf C.rd) 0 C.P .any ops Q (fuel + 1) listed (puts ops a0 val ex) w) ?_ (fun v v' h hk => by rw [puts_congr ex h]; exact hk) π ps val fr Γ Φ el S
    intro π ps val fr Γ Φ el S hst
    refine ⟨fun hr => S.fin F hst (S.done F hr), fun i hi => ?_⟩
    obtain ⟨h1, h2, h3⟩ := S.ready F hi
    exact St.step F hU hd0 ih S hst h1 h2 h3


-- ===== the check of the order, by reckoning =====

def ordOk (D : Array Nat) (n : Nat) (seen : List Nat) : List Nat → Bool
  | [] => true
  | i :: r => ((List.range n).all fun j => !((D.getD i 0).testBit j) || seen.contains j) && ordOk D n (i :: seen) r
def effOk (D : Array Nat) (es us : List Nat) : List Nat → Bool
  | [] => true
  | i :: r => (clsOf es us i == 0 || r.all fun j => clsOf es us j == 2 || (D.getD j 0).testBit i) && effOk D es us r
def nodupOk : List Nat → Bool
  | [] => true
  | i :: r => !r.contains i && nodupOk r
def edgesOk (D : Array Nat) (n : Nat) (i : Nat) (o : Oper) : Bool :=
  (o.after.toList.all fun e => !Region.binds .any e || (D.getD i 0).testBit e.on) &&
  ((List.range n).all fun j => !((D.getD i 0).testBit j) || o.after.toList.any fun e => Region.binds .any e && (e.on == j || (D.getD e.on 0).testBit j))
def noSel (o : Oper) : Bool := match o.op with | .select .. => false | _ => true
def pairOk (D : Array Nat) (ops : Array Oper) (i j : Nat) (oi oj : Oper) : Bool :=
  i == j || ((oi.dst == none || oi.dst != oj.dst) && ((D.getD i 0).testBit j || (D.getD j 0).testBit i || (match oi.dst with | some t => !(oj.looksAt ops).contains t | none => true)))
def chk (ops : Array Oper) (es us π0 : List Nat) : Bool :=
  let D := Region.before ops
  let n := ops.size
  let l := ops.toList.zipIdx
  D.size == n && (D.toList.all fun x => Nat.blt x (2 ^ n)) && nodupOk π0 && Nat.ble π0.length n && ((List.range n).all fun i => π0.contains i) && (π0.all fun i => Nat.blt i n) && ordOk D n [] π0 && effOk D es us π0 &&
  (l.all fun p => edgesOk D n p.2 p.1 && noSel p.1 && l.all fun q => pairOk D ops p.2 q.2 p.1 q.1)

theorem nodupOk_spec : ∀ {l : List Nat}, nodupOk l = true → l.Nodup
  | [], _ => List.nodup_nil
  | i :: r, h => by
    simp only [nodupOk, Bool.and_eq_true, Bool.not_eq_true'] at h
    exact List.nodup_cons.2 ⟨by simpa using h.1, nodupOk_spec h.2⟩

theorem ordOk_spec {D : Array Nat} {n : Nat} (hD : ∀ i j, (D.getD i 0).testBit j = true → j < n) : ∀ {l seen : List Nat}, ordOk D n seen l = true → ∀ l1 i l2, l = l1 ++ i :: l2 → ∀ j, (D.getD i 0).testBit j = true → j ∈ seen ∨ j ∈ l1
  | [], _, _, l1, i, l2, hl, _, _ => by cases l1 <;> cases hl
  | k :: r, seen, h, l1, i, l2, hl, j, hj => by
    simp only [ordOk, Bool.and_eq_true, List.all_eq_true, List.mem_range] at h
    cases l1 with
    | nil =>
      injection hl with h1 h2
      subst h1
      have := h.1 j (hD _ _ hj)
      rw [hj] at this
      exact .inl (by simpa using this)
    | cons x l1 =>
      injection hl with h1 h2
      subst h1
      rcases ordOk_spec hD h.2 l1 i l2 h2 j hj with h3 | h3
      · rcases List.mem_cons.1 h3 with rfl | h3
        · exact .inr List.mem_cons_self
        · exact .inl h3
      · exact .inr (List.mem_cons_of_mem _ h3)

theorem effOk_spec {D : Array Nat} {es us : List Nat} : ∀ {l : List Nat}, effOk D es us l = true → ∀ l1 i l2, l = l1 ++ i :: l2 → clsOf es us i ≠ 0 → ∀ j ∈ l2, clsOf es us j ≠ 2 → (D.getD j 0).testBit i = true
  | [], _, l1, i, l2, hl, _, _, _, _ => by cases l1 <;> cases hl
  | k :: r, h, l1, i, l2, hl, hc, j, hj, hcj => by
    simp only [effOk, Bool.and_eq_true, Bool.or_eq_true, List.all_eq_true] at h
    cases l1 with
    | nil =>
      injection hl with h1 h2
      subst h1; subst h2
      rcases h.1 with h1 | h1
      · exact absurd (by simpa using h1) hc
      · exact (h1 j hj).resolve_left fun h => hcj (by simpa using h)
    | cons x l1 =>
      injection hl with h1 h2
      subst h1
      exact effOk_spec h.2 l1 i l2 h2 hc j hj hcj

theorem fit_of_chk (hc : chk ops es us π0 = true) : Fit ops es us π0 := by
  simp only [chk, Bool.and_eq_true, List.all_eq_true, List.mem_range] at hc
  obtain ⟨⟨⟨⟨⟨⟨⟨⟨hd1, hd2⟩, h1⟩, h2⟩, h3⟩, h4⟩, h5⟩, h6⟩, h7⟩ := hc
  have hD' : ∀ i j, ((Region.before ops).getD i 0).testBit j = true → j < ops.size := fun i j hj => by
    rcases Nat.lt_or_ge j ops.size with h | h
    · exact h
    · exfalso
      cases hx : (Region.before ops)[i]? with
      | none => simp [Array.getD_eq_getD_getElem?, hx] at hj
      | some x =>
        have hxm : x ∈ (Region.before ops).toList := by
          have := Array.mem_of_getElem? hx
          simpa using this
        have hlt : x < 2 ^ ops.size := by have := hd2 x hxm; simpa [Nat.blt_eq] using this
        have : x.testBit j = false := Nat.testBit_lt_two_pow (Nat.lt_of_lt_of_le hlt (Nat.pow_le_pow_right (by decide) h))
        rw [Array.getD_eq_getD_getElem?, hx, Option.getD_some, this] at hj
        cases hj
  have hp : ∀ i o, ops[i]? = some o → (o, i) ∈ ops.toList.zipIdx := fun i o ho => by
    rw [List.mem_zipIdx_iff_getElem?]
    simpa using ho
  have hdst : ∀ {i t}, dstAt ops i = some t → ∃ o, ops[i]? = some o ∧ o.dst = some t := fun {i t} h => by
    unfold dstAt at h
    cases ho : ops[i]? with
    | none => rw [ho] at h; cases h
    | some o => rw [ho] at h; exact ⟨o, rfl, h⟩
  refine { nodup := nodupOk_spec h1, len := Nat.le_of_ble_eq_true h2, all := fun i hi => by simpa using h3 i hi, lt := fun i hi => by have := h4 i hi; simpa [Nat.blt_eq] using this
           eff := effOk_spec h6, dist := ?_, apart := ?_, edge := ?_, clos := ?_, ord := ?_, nosel := ?_ }
  · intro i j t hi hj
    obtain ⟨oi, hoi, hti⟩ := hdst hi
    obtain ⟨oj, hoj, htj⟩ := hdst hj
    have := (h7 _ (hp i oi hoi)).2 _ (hp j oj hoj)
    simp only [pairOk, Bool.or_eq_true, Bool.and_eq_true] at this
    rcases this with h | ⟨h, _⟩
    · simpa using h
    · rw [hti, htj] at h
      simp at h
  · intro i j oi oj hne hoi hoj
    have := (h7 _ (hp i oi hoi)).2 _ (hp j oj hoj)
    simp only [pairOk, Bool.or_eq_true, Bool.and_eq_true] at this
    rcases this with h | ⟨_, h⟩
    · exact absurd (by simpa using h) hne
    · rcases h with (h | h) | h
      · exact .inl h
      · exact .inr (.inl h)
      · refine .inr (.inr fun t ht => ?_)
        rw [ht] at h
        simpa using h
  · intro i o e ho he hb
    have := (h7 _ (hp i o ho)).1.1
    simp only [edgesOk, Bool.and_eq_true, List.all_eq_true] at this
    have h8 := this.1 e (by simpa using he)
    rw [hb] at h8
    simpa [depOn] using h8
  · intro i j hi hj
    obtain ⟨o, ho⟩ : ∃ o, ops[i]? = some o := ⟨_, Array.getElem?_eq_getElem hi⟩
    have := (h7 _ (hp i o ho)).1.1
    simp only [edgesOk, Bool.and_eq_true, List.all_eq_true, List.mem_range] at this
    have h8 := this.2 j (hD' _ _ hj)
    unfold depOn at hj
    rw [hj] at h8
    simp only [Bool.not_true, Bool.false_or, List.any_eq_true, Bool.and_eq_true, Bool.or_eq_true, beq_iff_eq] at h8
    obtain ⟨e, he, hb, h9⟩ := h8
    exact ⟨o, e, ho, by simpa using he, hb, h9⟩
  · intro l1 i l2 hl j hj
    rcases ordOk_spec hD' h5 l1 i l2 hl j hj with h | h
    · cases h
    · exact h
  · intro i o cs b ho he
    have := (h7 _ (hp i o ho)).1.2
    unfold noSel at this
    rw [he] at this
    cases this

variable {fr : Fr} {Γ : List OA} {Φ : List SP} {π : List Nat} {i d : Nat} {o : Oper}

/-- a region that draws: 'chk' holds our order against the edges. -/
theorem W_regionP {id : Nat} {l : List Oper} (es us π0 : List Nat) (Γs : List OA) (hm : C.P.follows .mixedOrders = true) (hc : chk l.toArray es us π0 = true) (hz : UZ C l.toArray us) (hs : SubO Γ Γs)
    (h : PL C l.toArray Γs es us Q π0 fr Γ Φ) : W C (.region id l.toArray true) fr Γ Φ Q := by
  intro a w ha hw
  have F := fit_of_chk hc
  refine wpIn_region_any hm ?_
  refine PL_main F hz a ha.1 _ π0 [] [] (fun _ => undef) fr Γ Φ [] _ _ { plan := rfl, lsz := (by simp), lex := ?_, xlt := (fun _ h => by cases h), fu := ?_, xdep := (fun _ h => by cases h), xps := (fun _ h => by cases h), early := (fun _ h => by cases h), elnd := List.nodup_nil, pend := (fun _ h => by cases h), frm := ha, hol := ?_, sub := .inl hs, walk := h }
  · intro i hi
    have hi' : i < l.length := by simpa using hi
    simp [Array.getD_eq_getD_getElem?, hi']
  · have := F.len
    refine Nat.le_trans (List.length_filter_le _ _) ?_
    simpa using this
  · simpa using hw.ext (w' := { w with drawn := w.drawn + 1 }) ⟨rfl, rfl, rfl, Nat.le_refl _, fun _ _ _ => rfl⟩

def lget : List Oper → Nat → Option Oper
  | o :: _, 0 => some o
  | _ :: r, n + 1 => lget r n
  | [], _ => none
theorem lget_eq : ∀ {l : List Oper} {i : Nat} {o : Oper}, lget l i = some o → l[i]? = some o
  | [], i, o, h => by cases i <;> cases h
  | a :: r, 0, o, h => by simpa [lget] using h
  | a :: r, n + 1, o, h => by simpa using lget_eq (l := r) (i := n) h
theorem lget_ops {i : Nat} {o : Oper} (h : lget ops.toList i = some o) : ops[i]? = some o := by
  have := lget_eq h
  simpa using this

theorem PL_nil (h : WQ C .normal fr Γ Φ Q) : PL C ops Γs es us Q [] fr Γ Φ := h
theorem PL_runs {v : Value} (he : clsOf es us i = 0) (ho : lget ops.toList i = some o) (hg : gv ops fr o.guard = some true) (hd : o.dst = some d) (hn : Nat.blt d C.n = true) (h : Runs C fr Γs Φ o v)
    (k : PL C ops Γs es us Q π ((d, v) :: fr) Γ Φ) : PL C ops Γs es us Q (i :: π) fr Γ Φ :=
  ⟨o, lget_ops ho, by rw [hd]; exact hn, .inl ⟨he, v, [], (fun _ h => by cases h), .inl ⟨hg, h⟩, by rw [hd]; exact k⟩⟩
theorem PL_runsF {v : Value} {ψ : SP} (he : clsOf es us i = 0) (ho : lget ops.toList i = some o) (hg : gv ops fr o.guard = some true) (hd : o.dst = some d) (hn : Nat.blt d C.n = true) (h : Runs C fr Γs Φ o v ∧ Ent Φ ψ)
    (k : PL C ops Γs es us Q π ((d, v) :: fr) Γ (ψ :: Φ)) : PL C ops Γs es us Q (i :: π) fr Γ Φ :=
  ⟨o, lget_ops ho, by rw [hd]; exact hn, .inl ⟨he, v, [ψ], (fun χ hχ => by rcases List.mem_cons.1 hχ with rfl | hχ; exact h.2; cases hχ), .inl ⟨hg, h.1⟩, by rw [hd]; exact k⟩⟩
theorem PL_pass (he : clsOf es us i = 0) (ho : lget ops.toList i = some o) (hg : gv ops fr o.guard = some false) (hd : o.dst = some d) (hn : Nat.blt d C.n = true)
    (k : PL C ops Γs es us Q π ((d, undef) :: fr) Γ Φ) : PL C ops Γs es us Q (i :: π) fr Γ Φ :=
  ⟨o, lget_ops ho, by rw [hd]; exact hn, .inl ⟨he, undef, [], (fun _ h => by cases h), .inr ⟨hg, rfl⟩, by rw [hd]; exact k⟩⟩
theorem PL_effs {X : Type} {pf : X → Prop} {vx : X → Value} {Γ' : X → List OA} {Φ' : X → List SP} (he : clsOf es us i = 1) (ho : lget ops.toList i = some o) (hg : gv ops fr o.guard = some true) (hd : o.dst = some d) (hn : Nat.blt d C.n = true)
    (h : Effs C fr Γ Φ o pf vx Γ' Φ') (hs : ∀ x, SubO (Γ' x) Γs) (k : ∀ x, pf x → PL C ops Γs es us Q π ((d, vx x) :: fr) (Γ' x) (Φ' x)) : PL C ops Γs es us Q (i :: π) fr Γ Φ :=
  ⟨o, lget_ops ho, by rw [hd]; exact hn, .inr (.inl ⟨he, hg, X, pf, vx, Γ', Φ', h, fun x hx => ⟨.inl (hs x), by rw [hd]; exact k x hx⟩⟩)⟩
theorem PL_do {X : Type} {pf : X → Prop} {vx : X → Value} {Γ' : X → List OA} {Φ' : X → List SP} (he : clsOf es us i = 1) (ho : lget ops.toList i = some o) (hg : gv ops fr o.guard = some true) (hd : o.dst = none)
    (h : Effs C fr Γ Φ o pf vx Γ' Φ') (hs : ∀ x, SubO (Γ' x) Γs) (k : ∀ x, pf x → PL C ops Γs es us Q π fr (Γ' x) (Φ' x)) : PL C ops Γs es us Q (i :: π) fr Γ Φ :=
  ⟨o, lget_ops ho, by rw [hd]; rfl, .inr (.inl ⟨he, hg, X, pf, vx, Γ', Φ', h, fun x hx => ⟨.inl (hs x), by rw [hd]; exact k x hx⟩⟩)⟩
/-- the last operation of a region, all others ahead of it: it may write what the others read. -/
def allDep (ops : Array Oper) (i : Nat) : Bool := (List.range ops.size).all fun j => j == i || depOn ops i j
theorem PL_new {t ty : TypeId} {pos : String} {aft : Array Edge} {z : Value} {cs : List Value} (he : clsOf es us i = 2) (ho : lget ops.toList i = some ⟨some d, .alloc t, ty, pos, aft, none⟩) (hn : Nat.blt d C.n = true)
    (hz : ∀ w, (zeroValue t).run C.P w = .ok z w) (hcs : listO z.cells.toList = some cs) (k : ∀ b, PL C ops Γs es us Q π ((d, .pointer (some ⟨b, 0, none⟩)) :: fr) (.blk b t cs :: Γ) Φ) : PL C ops Γs es us Q (i :: π) fr Γ Φ :=
  ⟨_, lget_ops ho, hn, .inr (.inr ⟨he, t, z, rfl, rfl, hz, fun b => by rw [listO_eq hcs]; exact k b⟩)⟩

/-- what is left of a list without the places named, reckoned to the end. -/
def dropO (ks : List Nat) : Nat → List OA → Option (List OA)
  | _, [] => some []
  | n, x :: r => match dropO ks (n + 1) r with
    | some t => bif ks.contains n then some t else some (x :: t)
    | none => none

theorem W_regionP' {id : Nat} {l : List Oper} (es us π0 : List Nat) (drop : List Nat) {Γs : List OA} (hm : C.P.follows .mixedOrders = true) (hc : chk l.toArray es us π0 = true) (hz : UZ C l.toArray us) (_ : dropO drop 0 Γ = some Γs) (hs : SubO Γ Γs)
    (h : PL C l.toArray Γs es us Q π0 fr Γ Φ) : W C (.region id l.toArray true) fr Γ Φ Q := W_regionP es us π0 Γs hm hc hz hs h

-- ===== signposts: each says which kind of goal stands =====
section
variable {ty : TypeId} {pos : String} {aft : Array Edge} {g : Option (Nat × Bool)} {dst : Option Tmp} {v : Value}
theorem G_bin {op : BinOp} {t t' : TypeId} {x y : Operand} (h : Runs C fr Γ Φ ⟨dst, .binOp op t x y t', ty, pos, aft, g⟩ v) : Runs C fr Γ Φ ⟨dst, .binOp op t x y t', ty, pos, aft, g⟩ v := h
theorem G_load {t : TypeId} {x : Operand} (h : Runs C fr Γ Φ ⟨dst, .load t x, ty, pos, aft, g⟩ v) : Runs C fr Γ Φ ⟨dst, .load t x, ty, pos, aft, g⟩ v := h
theorem G_call {c : Call} (h : Runs C fr Γ Φ ⟨dst, .call c, ty, pos, aft, g⟩ v) : Runs C fr Γ Φ ⟨dst, .call c, ty, pos, aft, g⟩ v := h
end

theorem UZ.cons {i d : Nat} {us : List Nat} {t ty : TypeId} {pos : String} {aft : Array Edge} {z : Value} (ho : lget ops.toList i = some ⟨some d, .alloc t, ty, pos, aft, none⟩) (hz : ∀ w, (zeroValue t).run C.P w = .ok z w) (h : UZ C ops us) : UZ C ops (i :: us) :=
  UZ.cons' (lget_ops ho) hz h

end
end Go.Hs

/-
  Loops and joins that keep what stands in the frame. No program is named here.
-/
namespace Go.Hs
open Go Go.RowKit

def memN (t : Nat) : List Nat → Bool
  | [] => false
  | s :: r => bif Nat.beq s t then true else memN t r

/-- the frame without the slots named, each slot once. -/
def keepO : List Nat → Fr → Option Fr
  | _, [] => some []
  | seen, (t, v) :: r => bif memN t seen then keepO seen r else match keepO (t :: seen) r with
    | some q => some ((t, v) :: q)
    | none => none

theorem memN_eq : ∀ {l : List Nat} {t : Nat}, memN t l = true ↔ t ∈ l
  | [], t => by simp [memN]
  | s :: r, t => by
    simp only [memN, List.mem_cons]
    cases h : Nat.beq s t with
    | true => simp [Nat.eq_of_beq_eq_true h]
    | false =>
      have : ¬ t = s := fun e => by subst e; simp at h
      simp only [cond_false, this, false_or]
      exact memN_eq

theorem keepO_get : ∀ {fr q : Fr} {seen : List Nat}, keepO seen fr = some q → ∀ t v, fget q t = some v → fget fr t = some v ∧ ¬ t ∈ seen
  | [], q, seen, h, t, v, hv => by
    simp only [keepO, Option.some.injEq] at h
    subst h
    cases hv
  | (s, u) :: r, q, seen, h, t, v, hv => by
    simp only [keepO] at h
    cases hm : memN s seen with
    | true =>
      rw [hm] at h
      obtain ⟨h1, h2⟩ := keepO_get h t v hv
      have : ¬ s = t := fun e => h2 (e ▸ memN_eq.1 hm)
      exact ⟨by rw [fget_cons, if_neg this]; exact h1, h2⟩
    | false =>
      rw [hm] at h
      simp only [cond_false] at h
      cases hk : keepO (s :: seen) r with
      | none => rw [hk] at h; cases h
      | some p =>
        rw [hk] at h
        injection h with h
        subst h
        rw [fget_cons] at hv
        by_cases e : s = t
        · subst e
          rw [if_pos rfl] at hv
          refine ⟨by rw [fget_cons, if_pos rfl]; exact hv, fun hs => ?_⟩
          rw [memN_eq.2 hs] at hm
          cases hm
        · rw [if_neg e] at hv
          obtain ⟨h1, h2⟩ := keepO_get hk t v hv
          exact ⟨by rw [fget_cons, if_neg e]; exact h1, fun hs => h2 (List.mem_cons_of_mem _ hs)⟩

theorem keepO_in {fr q : Fr} {seen : List Nat} (h : keepO seen fr = some q) : FrIn fr q := fun t v hv => (keepO_get h t v hv).1

theorem fget_append : ∀ (l r : Fr) (t : Nat), fget (l ++ r) t = (fget l t).or (fget r t)
  | [], r, t => by simp [fget]
  | (s, v) :: l, r, t => by
    rw [List.cons_append, fget_cons, fget_cons, fget_append l r t]
    by_cases e : s = t <;> simp [e]

theorem FrIn.append {fr l r : Fr} (h : FrIn fr l) (k : FrIn fr r) : FrIn fr (l ++ r) := fun t v hv => by
  rw [fget_append] at hv
  cases hl : fget l t with
  | none =>
    rw [hl] at hv
    exact k t v (by simpa using hv)
  | some u =>
    rw [hl] at hv
    exact h t v (by simpa [hl] using hv)

theorem AllE.append {Ψ Ψ' Φ : List SP} (h : AllE Ψ Φ) (k : AllE Ψ' Φ) : AllE (Ψ ++ Ψ') Φ := fun ψ hψ => (List.mem_append.1 hψ).elim (h ψ) (k ψ)

section
variable {C : Ctx} {fr : Fr} {Γ : List OA} {Φ : List SP} {Q : Exit → Act → World → Prop}

/-- a loop: what it turns is told by ch, gn and hn; all else stands. -/
theorem W_loopK {c : Code} {X : Type} (ds ps : List Nat) (I : X → Prop) (ch : X → Fr) (gn : X → List OA) (hn : X → List SP) (μ : X → Nat) (x0 : X) (hI : I x0) {fr1 : Fr} {Γ1 : List OA} {F : X → Fr} {G : X → List OA} {H : X → List SP}
    (hf : keepO ds fr = some fr1) (hg : dropO ps 0 Γ = some Γ1) (hF : ∀ x, appO (ch x) fr1 = some (F x)) (hG : ∀ x, appO (gn x) Γ1 = some (G x)) (hH : ∀ x, appO (hn x) Φ = some (H x))
    (h1 : FrIn fr (ch x0)) (h2 : SubO Γ (G x0)) (h3 : AllE (hn x0) Φ)
    (round : ∀ x, I x → W C c (F x) (G x) (H x) (Exit.then (fun a w => ∃ x', I x' ∧ μ x' < μ x ∧ fok C (F x') a ∧ Holds C (G x') (H x') w) Q)) : W C (.loop c) fr Γ Φ Q := by
  refine W_loop I F G H μ x0 hI (WQ_fit ?_ h2 ?_) round
  · rw [← appO_eq (hF x0)]
    exact FrIn.append h1 (keepO_in hf)
  · rw [← appO_eq (hH x0)]
    exact AllE.append h3 fun ψ hψ => Ent.mem hψ

/-- where ways meet again: what was turned is told by ch, gn and hn; all else stands. -/
theorem W_cutK {x y : Code} {X : Type} (ds ps : List Nat) (I : X → Prop) (ch : X → Fr) (gn : X → List OA) (hn : X → List SP) {fr1 : Fr} {Γ1 : List OA} {F : X → Fr} {G : X → List OA} {H : X → List SP}
    (hf : keepO ds fr = some fr1) (hg : dropO ps 0 Γ = some Γ1) (hF : ∀ x, appO (ch x) fr1 = some (F x)) (hG : ∀ x, appO (gn x) Γ1 = some (G x)) (hH : ∀ x, appO (hn x) Φ = some (H x))
    (h : W C x fr Γ Φ (Exit.then (fun a w => ∃ z, I z ∧ fok C (F z) a ∧ Holds C (G z) (H z) w) Q)) (k : ∀ z, I z → W C y (F z) (G z) (H z) Q) : W C (.seq x y) fr Γ Φ Q :=
  W_cut I F G H h k
end

/-- what is made and handed back as one's own may be told as lasting. -/
theorem Ct.letB {P : Program} {f : FuncId} {args : List Value} {Γ : List OA} {Φ : List SP} {X : Type} {pf : X → Prop} {ret : X → Value} {t : TypeId} {n : X → Nat} {cs : X → List Value} {v : X → Value} {bs : X → List UInt8}
    (h : Ct P f args Γ Φ pf ret (fun x => [.row (v x) t 1 (n x) (cs x)]) (fun _ => [])) (hc : ∀ x, cs x = (bs x).map bcell) : Ct P f args Γ Φ pf ret (fun _ => []) (fun x => [By (v x) (bs x)]) := by
  intro w O0 h0 ho hs
  refine (h w O0 h0 ho hs).mono fun e w' ⟨x, hp, he, hm, ho', hf, hs'⟩ => ⟨x, hp, he, hm, trivial, fun k hk => ?_, ?_⟩
  · obtain ⟨y, hy, _⟩ := hk
    cases hy
  · have hh : Holds { P := P, n := 0, w0 := w, O0 := O0, M := fpL Γ, rd := none, ds := [] } [.row (v x) t 1 (n x) (cs x)] [] w' := ⟨hm, ho', hf, h0, hs'⟩
    exact (hh.letgoB (hc x)).sp
end Go.Hs

/-
  Slices of things: each element told by a function of its number. No program is named here.
-/
namespace Go.Hs
open Go Go.RowKit

def rwP (size : Nat) (v : Value) (n : Nat) (f : Nat → List Value) (w : World) (O : Nat → Prop) : Prop :=
  ∃ A c, v = .slice A n c ∧ n ≤ c ∧ c ≤ maxLen ∧
    (0 < n → ∃ ad, A = some ad ∧ ad.block < w.heap.size ∧ ¬ O ad.block ∧ ∀ i, i < n → ∀ j u, (f i)[j]? = some u → w.cell? (ad.add (i * size + j)) = some u)

theorem rwP.st {size : Nat} {v : Value} {n : Nat} {f : Nat → List Value} {w w' : World} {O O' : Nat → Prop} (h : rwP size v n f w O) (hm : Mod O w w') (ho : ∀ k, k < w.heap.size → O' k → O k) : rwP size v n f w' O' := by
  obtain ⟨A, c, hv, hc, hcm, hr⟩ := h
  refine ⟨A, c, hv, hc, hcm, fun hn => ?_⟩
  obtain ⟨ad, hA, hlt, hO, hcell⟩ := hr hn
  refine ⟨ad, hA, Nat.lt_of_lt_of_le hlt hm.size, fun h => hO (ho _ hlt h), fun i hi j u hu => ?_⟩
  rw [World.cell?_of_block (w := w) (by rw [block_add]; exact hm.block _ hlt hO)]
  exact hcell i hi j u hu

/-- the slice value v of n elements (size cells each): the i-th reads the cells f i. -/
def Rw (size : Nat) (v : Value) (n : Nat) (f : Nat → List Value) : SP := ⟨rwP size v n f, rwP.st⟩

/-- a fact of every number below n. -/
def Al (n : Nat) (ψ : Nat → SP) : SP := ⟨fun w O => ∀ i, i < n → (ψ i).p w O, fun h hm ho i hi => (ψ i).st (h i hi) hm ho⟩

theorem ent_al {Φ : List SP} {n i : Nat} {ψ : Nat → SP} (hm : Al n ψ ∈ Φ) (hi : i < n) : Ent Φ (ψ i) := fun _ _ h => h _ hm i hi

theorem ent_idxRw {Φ : List SP} {v : Value} {size n i : Nat} {f : Nat → List Value} (hm : Rw size v n f ∈ Φ) (hi : i < n) : Ent Φ (Pt (idxV size i v) (f i)) := fun w O h => by
  obtain ⟨A, c, hv, _, _, hr⟩ := h _ hm
  obtain ⟨ad, rfl, hlt, hO, hcell⟩ := hr (by omega)
  subst hv
  refine ⟨_, rfl, by rw [block_add]; exact hlt, by rw [block_add]; exact hO, fun j u hu => ?_⟩
  rw [add_add']
  exact hcell i hi j u hu

theorem ent_slRw {Φ : List SP} {v : Value} {size n : Nat} {xs : List Value} (hm : Sl size v n xs ∈ Φ) : Ent Φ (Rw size v n (fun i => (xs.drop (i * size)).take size)) := fun w O h => by
  obtain ⟨hl, A, c, hv, hc, hcm, hr⟩ := h _ hm
  refine ⟨A, c, hv, hc, hcm, fun hn => ?_⟩
  obtain ⟨ad, hA, hlt, hO, hcell⟩ := hr hn
  refine ⟨ad, hA, hlt, hO, fun i hi j u hu => ?_⟩
  rw [List.getElem?_take] at hu
  split at hu
  · exact hcell _ u (by rw [← hu, List.getElem?_drop])
  · cases hu

theorem ent_slRw1 {Φ : List SP} {v : Value} {n : Nat} {xs : List Value} (hm : Sl 1 v n xs ∈ Φ) : Ent Φ (Rw 1 v n (fun i => [xs.getD i undef])) := fun w O h => by
  obtain ⟨hl, A, c, hv, hc, hcm, hr⟩ := h _ hm
  refine ⟨A, c, hv, hc, hcm, fun hn => ?_⟩
  obtain ⟨ad, hA, hlt, hO, hcell⟩ := hr hn
  refine ⟨ad, hA, hlt, hO, fun i hi j u hu => ?_⟩
  cases j with
  | zero =>
    simp only [List.getElem?_cons_zero, Option.some.injEq] at hu
    subst hu
    have h2 : i < xs.length := by omega
    rw [Nat.mul_one, Nat.add_zero]
    exact hcell i _ (by simp [List.getD, h2])
  | succ j => simp at hu

section
variable {C : Ctx} {fr : Fr} {Γ Γ' : List OA} {Φ : List SP}
  {d : Nat} {ty : TypeId} {pos : String} {aft : Array Edge} {g : Option (Nat × Bool)}

theorem R_idxRw {t e : TypeId} {x y : Operand} {v : Value} {size n : Nat} {f : Nat → List Value} {us : List Value} {kd : IntKind} {ii : Int} {i : Nat}
    (hx : evO fr x = some v) (hy : evO fr y = some (.int kd ii)) (hm : Rw size v n f ∈ Φ) (ht : C.P.underlying t = some (.slice e)) (hs : ∀ w, (sizeOf e).run C.P w = .ok size w) (hii : ii = (i : Int)) (hi : i < n) (hu : f i = us) :
    Runs C fr Γ Φ ⟨some d, .indexAddr t x y, ty, pos, aft, g⟩ (idxV size i v) ∧ Ent Φ (Pt (idxV size i v) us) := by
  subst hii
  subst hu
  refine ⟨Runs.pure fun a w ha hw => ?_, ent_idxRw hm hi⟩
  obtain ⟨A, c, hv, _, _, hr⟩ := hw.sp _ hm
  obtain ⟨ad, rfl, _⟩ := hr (by omega)
  simp [execOp, evO_sound ha hx, evO_sound ha hy, hv, run_indexAt_some ht hs hi, idxV]

theorem R_lenRw {t : TypeId} {x : Operand} {v : Value} {size n : Nat} {f : Nat → List Value} {e : TypeId} (hx : evO fr x = some v)
    (hm : Rw size v n f ∈ Φ) (ht : C.P.underlying t = some (.slice e)) : Runs C fr Γ Φ ⟨some d, .call { callee := .builtin .len, args := #[x], argTypes := #[t] }, ty, pos, aft, g⟩ (.int .i64 (n : Int)) :=
  Runs.pure fun a w ha hw => by
    obtain ⟨A, c, hv, _⟩ := hw.sp _ hm
    simp [execOp, resolve, invoke, builtin, evO_sound ha hx, hv, Builtin.len_, run_underlying ht, goInt]
end

section
variable {C : Ctx} {ops : Array Oper} {l : List Oper} {fr : Fr} {Γ : List OA} {Φ : List SP} {Q : Exit → Act → World → Prop}
theorem OneC.rw {u : Value} {size n : Nat} {f : Nat → List Value} (h : Rw size u n f ∈ Φ) : OneC C Γ Φ u := fun _ _ hw => by
  obtain ⟨A, c, rfl, _⟩ := hw.sp _ h
  rfl

/-- a fact that follows is put down. -/
theorem W_ent {c : Code} {ψ : SP} (he : Ent Φ ψ) (h : W C c fr Γ (ψ :: Φ) Q) : W C c fr Γ Φ Q := fun a w ha hw => h a w ha (hw.ent he)
theorem WL_ent {ψ : SP} (he : Ent Φ ψ) (h : WL C ops l fr Γ (ψ :: Φ) Q) : WL C ops l fr Γ Φ Q := fun a w ha hw => h a w ha (hw.ent he)
theorem WQ_ent {e : Exit} {ψ : SP} (he : Ent Φ ψ) (h : WQ C e fr Γ (ψ :: Φ) Q) : WQ C e fr Γ Φ Q := fun a w ha hw => h a w ha (hw.ent he)
end
end Go.Hs

/-
  The rules of the small logic for copy, and for rows whose cells are written. No program is named here.
-/
namespace Go.Hs
open Go Go.RowKit

section
variable {C : Ctx} {fr : Fr} {Γ Γ' : List OA} {Φ : List SP}
  {d : Nat} {ty : TypeId} {pos : String} {aft : Array Edge} {g : Option (Nat × Bool)}

/-- an own row, its cells written anew. -/
theorem setRow_row {t : TypeId} {size n cap b : Nat} {xs us : List Value} {cur new : Array Value} {w : World} (h : Holds C (.row (.slice (some ⟨b, 0, none⟩) n cap) t size n xs :: Γ) Φ w)
    (hb : w.heap[b]? = some (.cells cur t (0, 0))) (hs : new.size = cur.size) (hu : new.toList.take (n * size) = us) : Holds C (.row (.slice (some ⟨b, 0, none⟩) n cap) t size n us :: Γ) Φ (w.setRow b new) := by
  have hother : ∀ k, k ≠ b → (w.setRow b new).heap[k]? = w.heap[k]? := fun k hk => setRow_other w b k _ hk
  have hfp : ∀ k, (OA.row (.slice (some ⟨b, 0, none⟩) n cap) t size n xs).fp k ↔ k = b := fun k => by
    constructor
    · intro (e : some b = some k)
      injection e with e
      exact e.symm
    · intro e
      subst e
      exact (rfl : some k = some k)
  refine h.move ⟨rfl, rfl, rfl, by simp, fun k _ hn => hother k fun e => hn (fpL_cons.2 (.inl ((hfp k).2 e)))⟩ ⟨?_, h.own.2.1, h.own.2.2.keep fun k _ hk => hother k fun e => h.own.2.1 k ((hfp k).2 e) hk⟩
    fun k _ hk => by
      rcases fpL_cons.1 hk with e | e
      · exact fpL_cons.2 (.inl e)
      · exact fpL_cons.2 (.inr e)
  obtain ⟨h1, h2⟩ := h.own.1
  rcases h2 with ⟨h2, _⟩ | ⟨g', cap', cur', he, _, hb', hc, hm, hsz, htk⟩
  · cases h2
  · injection he with he1 he2 he3
    injection he1 with he1
    injection he1 with he1
    subst he1
    subst he3
    rw [hb] at hb'
    injection hb' with hb'
    injection hb' with hb'
    subst hb'
    refine ⟨?_, .inr ⟨b, cap, new, rfl, Nat.zero_le _, setRow_heap w b _ _ t _ hb, hc, hm, by rw [hs, hsz], hu⟩⟩
    rw [← hu, List.length_take, Array.length_toList, hs, hsz]
    exact Nat.min_eq_left (Nat.mul_le_mul_right _ hc)

end

theorem one_map (b : UInt8) : [Value.int .u8 (b.toNat : Int)] = List.map bcell [b] := rfl
theorem two_map (b c : UInt8) : [Value.int .u8 (b.toNat : Int), .int .u8 (c.toNat : Int)] = List.map bcell [b, c] := rfl
end Go.Hs
