/-
  A small program logic over the model's 'Code.wp': symbolic frames that know some slots, own blocks of memory, and facts that last while
  what is not owned stays as it is. No program is named here.
-/
import Derived.WalkKit
import Derived.WalkSpells
import Derived.WalkLawsBesides
import Derived.Maps.AppendAt
import Derived.TacticsIn
import Derived.OrdersIn
import Derived.RangeFuncRecord
namespace Go.Hs
open Go Go.RowKit

/-- what a walk takes for granted: the program, the number of slots, the memory at the call's begin, what is not to be touched, what may be turned; within which round of a range over a function; what the activation has deferred. -/
structure Ctx where
  P : Program
  n : Nat
  w0 : World
  O0 : Nat → Prop
  M : Nat → Prop
  rd : Option Nat
  ds : List Deferred

def fenceOf : Option Nat → Fence
  | none => Fence.wide
  | some l => Fence.wide.inRound l
theorem fenceOf_fn (r : Option Nat) (f : FuncId) : (fenceOf r).fn f := by cases r <;> trivial
theorem fenceOf_depth (r : Option Nat) : (fenceOf r).depth.isSome = true → 1 ≤ 0 := by cases r <;> intro h <;> cases h
theorem fenceOf_round (r : Option Nat) : (fenceOf r).round = r := by cases r <;> rfl
theorem fenceOf_calls {r : Option Nat} {P : Program} {f : FuncId} {args : Array Value} {w : World} {R : Ending → World → Prop} (h : Calls P f args w R) : CallsIn (fenceOf r) 0 P f args w R := by
  have h' := (callsIn_wide (n := 0)).2 h
  cases r
  · exact h'
  · exact h'

-- ===== frames =====

abbrev Fr := List (Nat × Value)

def fget : List (Nat × Value) → Nat → Option Value
  | [], _ => none
  | (k, v) :: r, t => bif Nat.beq k t then some v else fget r t

def fok (C : Ctx) (fr : Fr) (a : Act) : Prop :=
  a.defers = C.ds ∧ a.tmps.size = C.n ∧ ∀ t v, fget fr t = some v → a.tmps.getD t undef = v

theorem fget_cons (k : Nat) (v : Value) (r : Fr) (t : Nat) : fget ((k, v) :: r) t = if k = t then some v else fget r t := by
  show (bif Nat.beq k t then some v else fget r t) = _
  by_cases h : k = t
  · subst h; simp
  · have : Nat.beq k t = false := by
      cases hb : Nat.beq k t
      · rfl
      · exact absurd (Nat.eq_of_beq_eq_true hb) h
    simp [this, h]

theorem fok.put {C : Ctx} {fr : Fr} {a : Act} {d : Nat} {v : Value} (h : fok C fr a) (hd : d < C.n) : fok C ((d, v) :: fr) (a.put (some d) v) := by
  obtain ⟨h1, h2, h3⟩ := h
  refine ⟨h1, by simp [Act.put, h2], fun t u hu => ?_⟩
  rw [fget_cons] at hu
  by_cases e : d = t
  · subst e
    simp at hu; subst hu
    simp [Act.put, Array.getD, h2, hd]
  · rw [if_neg e] at hu
    have h4 := h3 t u hu
    rw [← h4]
    have he : (a.tmps.setIfInBounds d v)[t]? = a.tmps[t]? := by rw [Array.getElem?_setIfInBounds_ne e]
    simp [Act.put, he]

def evO (fr : Fr) : Operand → Option Value
  | .tmp t => fget fr t
  | .const v => some v
  | .global g => some (.pointer (some ⟨g, 0, none⟩))
  | .func f => some (.func (.func f) #[] #[])

theorem evO_sound {C : Ctx} {fr : Fr} {a : Act} (h : fok C fr a) {x : Operand} {v : Value} (hx : evO fr x = some v) : a.eval x = v := by
  cases x with
  | tmp t => exact h.2.2 t v hx
  | const u => injection hx
  | global g => injection hx
  | func f => injection hx

def evOs (fr : Fr) : List Operand → Option (List Value)
  | [] => some []
  | x :: r => match evO fr x, evOs fr r with
    | some v, some vs => some (v :: vs)
    | _, _ => none

theorem evOs_sound {C : Ctx} {fr : Fr} {a : Act} (h : fok C fr a) : ∀ {xs : List Operand} {vs : List Value}, evOs fr xs = some vs → xs.map a.eval = vs
  | [], vs, hx => by cases hx; rfl
  | x :: r, vs, hx => by
    simp only [evOs] at hx
    cases h1 : evO fr x with
    | none => rw [h1] at hx; cases hx
    | some v =>
      cases h2 : evOs fr r with
      | none => rw [h1, h2] at hx; cases hx
      | some us =>
        rw [h1, h2] at hx
        injection hx with hx
        subst hx
        simp [evO_sound h h1, evOs_sound h h2]

def evPs (fr : Fr) : List (Nat × Operand) → Option (List (Nat × Value))
  | [] => some []
  | (i, x) :: r => match evO fr x, evPs fr r with
    | some v, some vs => some ((i, v) :: vs)
    | _, _ => none

theorem evPs_sound' {C : Ctx} {fr : Fr} {a : Act} (h : fok C fr a) : ∀ {xs : List (Nat × Operand)} {vs : List (Nat × Value)}, evPs fr xs = some vs → xs.map (fun p => (p.1, a.eval p.2)) = vs
  | [], vs, hx => by cases hx; rfl
  | (i, x) :: r, vs, hx => by
    simp only [evPs] at hx
    cases h1 : evO fr x with
    | none => rw [h1] at hx; cases hx
    | some v =>
      cases h2 : evPs fr r with
      | none => rw [h1, h2] at hx; cases hx
      | some us =>
        rw [h1, h2] at hx
        injection hx with hx
        subst hx
        simp only [List.map_cons, evO_sound h h1, evPs_sound' h h2]

theorem evPs_sound {C : Ctx} {fr : Fr} {a : Act} (h : fok C fr a) {xs : Array (Nat × Operand)} {vs : List (Nat × Value)} (hx : evPs fr xs.toList = some vs) : xs.map (fun p => match p with | (i, x) => (i, a.eval x)) = vs.toArray := by
  have := evPs_sound' h hx
  apply Array.ext'
  simpa using this

def putFr (dst : Option Tmp) (v : Value) (fr : Fr) : Fr :=
  match dst with
  | some d => (d, v) :: fr
  | none => fr

def dstOk (dst : Option Tmp) (n : Nat) : Bool :=
  match dst with
  | some d => Nat.blt d n
  | none => true

theorem fok.putd {C : Ctx} {fr : Fr} {a : Act} {dst : Option Tmp} {v : Value} (h : fok C fr a) (hd : dstOk dst C.n = true) : fok C (putFr dst v fr) (a.put dst v) := by
  cases dst with
  | none => exact h
  | some d => exact h.put (Nat.lt_of_lt_of_le (Nat.lt_succ_self d) (Nat.le_of_ble_eq_true hd))

/-- what a guard says: 'some true': the operation runs; 'some false': it is passed over. -/
def gv (ops : Array Oper) (fr : Fr) (g : Option (Nat × Bool)) : Option Bool :=
  match g with
  | none => some true
  | some (j, want) =>
    match ops[j]? with
    | some o' => match o'.dst with
      | some d => match fget fr d with
        | some (.bool b) => some (b == want)
        | some (.tuple _) => some false
        | _ => none
      | none => none
    | none => none

-- ===== memory =====

structure Mod (O : Nat → Prop) (w w' : World) : Prop where
  os : w'.os = w.os
  tape : w'.tape = w.tape
  output : w'.output = w.output
  size : w.heap.size ≤ w'.heap.size
  block : ∀ k, k < w.heap.size → ¬ O k → w'.heap[k]? = w.heap[k]?

theorem Mod.refl (O : Nat → Prop) (w : World) : Mod O w w := ⟨rfl, rfl, rfl, Nat.le_refl _, fun _ _ _ => rfl⟩

theorem Mod.trans {O : Nat → Prop} {a b c : World} (h : Mod O a b) (k : Mod O b c) : Mod O a c :=
  ⟨k.os.trans h.os, k.tape.trans h.tape, k.output.trans h.output, Nat.le_trans h.size k.size,
    fun i hi ho => (k.block i (Nat.lt_of_lt_of_le hi h.size) ho).trans (h.block i hi ho)⟩

theorem Mod.mono {O O' : Nat → Prop} {a b : World} (h : Mod O a b) (ho : ∀ k, k < a.heap.size → O k → O' k) : Mod O' a b :=
  ⟨h.os, h.tape, h.output, h.size, fun i hi hn => h.block i hi (fun x => hn (ho i hi x))⟩

theorem Mod.alloc (O : Nat → Prop) (w : World) (o : Obj) : Mod O w (w.alloc o) :=
  ⟨rfl, rfl, rfl, by simp, fun _ hk _ => heap_alloc_old w o hk⟩

theorem Mod.drew (O : Nat → Prop) (w : World) : Mod O w w.drew := ⟨rfl, rfl, rfl, Nat.le_refl _, fun _ _ _ => rfl⟩

theorem Mod.grown {O : Nat → Prop} {w w' : World} {row : Option Nat} (h : w.grownBy w' row) (hr : ∀ k, row = some k → O k) : Mod O w w' :=
  ⟨h.os, h.tape, h.output, h.size, fun k hk hn => h.block k hk (fun e => hn (hr k e.symm))⟩

theorem Mod.setCell {O : Nat → Prop} (w : World) {a : Addr} (ha : O a.block) (v : Value) : Mod O w (w.setCell a v) :=
  ⟨rfl, rfl, rfl, by simp, fun k _ hn => heap_setCell_other w a k v (fun e => hn (e ▸ ha))⟩

/-- A fact on memory that lasts while the blocks that are not owned stay as they are. -/
structure SP where
  p : World → (Nat → Prop) → Prop
  st : ∀ {w w' : World} {O O' : Nat → Prop}, p w O → Mod O w w' → (∀ k, k < w.heap.size → O' k → O k) → p w' O'

/-- something owned of which no more is known than which blocks it is, and what is said of them. -/
structure AbsO where
  fp : Nat → Prop
  holds : World → Prop
  lt : ∀ {w : World}, holds w → ∀ {k : Nat}, fp k → k < w.heap.size
  keep : ∀ {w w' : World}, holds w → (∀ k, k < w.heap.size → fp k → w'.heap[k]? = w.heap[k]?) → holds w'

/-- What is owned: a block that is known whole; a row that grows. -/
inductive OA where
  | blk (b : Nat) (t : TypeId) (cs : List Value)
  | row (v : Value) (t : TypeId) (size n : Nat) (xs : List Value)
  | abs (a : AbsO)

def OA.fp : OA → Nat → Prop
  | .blk b _ _, k => k = b
  | .row v _ _ _ _, k => v.ownBlock = some k
  | .abs a, k => a.fp k

def OA.holds : OA → World → Prop
  | .blk b t cs, w => w.heap[b]? = some (.cells cs.toArray t (0, 0))
  | .row v t size n xs, w => w.ownsRow 0 t size v n xs
  | .abs a, w => a.holds w

theorem OA.lt {x : OA} {w : World} (h : x.holds w) {k : Nat} (hk : x.fp k) : k < w.heap.size := by
  cases x with
  | blk b t cs =>
    have hk : k = b := hk
    subst hk
    exact (Array.getElem?_eq_some_iff.1 h).1
  | row v t size n xs => exact (World.ownsRow.lt h k hk).2
  | abs a => exact a.lt h hk

theorem OA.keep {x : OA} {w w' : World} (h : x.holds w) (hk : ∀ k, k < w.heap.size → x.fp k → w'.heap[k]? = w.heap[k]?) : x.holds w' := by
  cases x with
  | blk b t cs => exact (hk b (OA.lt (x := .blk b t cs) h rfl) rfl).trans h
  | row v t size n xs =>
    obtain ⟨h1, h2⟩ := h
    refine ⟨h1, ?_⟩
    rcases h2 with h2 | ⟨g, cap, cur, hv, hg, hh, r⟩
    · exact .inl h2
    · have hlt := (Array.getElem?_eq_some_iff.1 hh).1
      exact .inr ⟨g, cap, cur, hv, hg, by rw [hk g hlt (by subst hv; rfl)]; exact hh, r⟩
  | abs a => exact a.keep h hk

def fpL (Γ : List OA) (k : Nat) : Prop := ∃ x, x ∈ Γ ∧ x.fp k

theorem fpL_cons {x : OA} {Γ : List OA} {k : Nat} : fpL (x :: Γ) k ↔ x.fp k ∨ fpL Γ k := by
  constructor
  · rintro ⟨y, hy, hk⟩
    rcases List.mem_cons.1 hy with rfl | hy
    · exact .inl hk
    · exact .inr ⟨y, hy, hk⟩
  · rintro (h | ⟨y, hy, hk⟩)
    · exact ⟨x, List.mem_cons_self, h⟩
    · exact ⟨y, List.mem_cons_of_mem _ hy, hk⟩

def Own : List OA → World → Prop
  | [], _ => True
  | x :: r, w => x.holds w ∧ (∀ k, x.fp k → ¬ fpL r k) ∧ Own r w

theorem Own.lt : ∀ {Γ : List OA} {w : World}, Own Γ w → ∀ {k : Nat}, fpL Γ k → k < w.heap.size
  | [], _, _, _, ⟨_, hx, _⟩ => by cases hx
  | x :: r, w, h, k, hk => by
    rcases fpL_cons.1 hk with hk | hk
    · exact OA.lt h.1 hk
    · exact Own.lt h.2.2 hk

theorem Own.keep : ∀ {Γ : List OA} {w w' : World}, Own Γ w → (∀ k, k < w.heap.size → fpL Γ k → w'.heap[k]? = w.heap[k]?) → Own Γ w'
  | [], _, _, _, _ => trivial
  | _ :: _, _, _, h, hk => ⟨OA.keep h.1 fun k h1 h2 => hk k h1 (fpL_cons.2 (.inl h2)), h.2.1, Own.keep h.2.2 fun k h1 h2 => hk k h1 (fpL_cons.2 (.inr h2))⟩

theorem fpL_perm {Γ Γ' : List OA} (h : Γ.Perm Γ') (k : Nat) : fpL Γ k ↔ fpL Γ' k :=
  ⟨fun ⟨x, hx, hk⟩ => ⟨x, h.mem_iff.1 hx, hk⟩, fun ⟨x, hx, hk⟩ => ⟨x, h.mem_iff.2 hx, hk⟩⟩

theorem Own.perm {Γ Γ' : List OA} (h : Γ.Perm Γ') {w : World} (ho : Own Γ w) : Own Γ' w := by
  induction h with
  | nil => exact ho
  | cons x p ih => exact ⟨ho.1, fun k hk hn => ho.2.1 k hk ((fpL_perm p k).2 hn), ih ho.2.2⟩
  | swap x y l =>
    obtain ⟨h1, h2, h3, h4, h5⟩ := ho
    refine ⟨h3, fun k hk hn => ?_, h1, fun k hk hn => h2 k hk (fpL_cons.2 (.inr hn)), h5⟩
    rcases fpL_cons.1 hn with hn | hn
    · exact h2 k hn (fpL_cons.2 (.inl hk))
    · exact h4 k hk hn
  | trans _ _ ih1 ih2 => exact ih2 (ih1 ho)

theorem fpL_append {Γ Δ : List OA} {k : Nat} : fpL (Γ ++ Δ) k ↔ fpL Γ k ∨ fpL Δ k := by
  constructor
  · rintro ⟨x, hx, hk⟩
    rcases List.mem_append.1 hx with hx | hx
    · exact .inl ⟨x, hx, hk⟩
    · exact .inr ⟨x, hx, hk⟩
  · rintro (⟨x, hx, hk⟩ | ⟨x, hx, hk⟩)
    · exact ⟨x, List.mem_append.2 (.inl hx), hk⟩
    · exact ⟨x, List.mem_append.2 (.inr hx), hk⟩

theorem Own.append : ∀ {Γ Δ : List OA} {w : World}, Own (Γ ++ Δ) w ↔ Own Γ w ∧ Own Δ w ∧ ∀ k, fpL Γ k → ¬ fpL Δ k
  | [], Δ, w => ⟨fun h => ⟨trivial, h, fun _ ⟨_, hx, _⟩ => by cases hx⟩, fun h => h.2.1⟩
  | x :: Γ, Δ, w => by
    show (x.holds w ∧ (∀ k, x.fp k → ¬ fpL (Γ ++ Δ) k) ∧ Own (Γ ++ Δ) w) ↔ _
    rw [Own.append]
    constructor
    · rintro ⟨h1, h2, h3, h4, h5⟩
      refine ⟨⟨h1, fun k hk hn => h2 k hk (fpL_append.2 (.inl hn)), h3⟩, h4, fun k hk hn => ?_⟩
      rcases fpL_cons.1 hk with hk | hk
      · exact h2 k hk (fpL_append.2 (.inr hn))
      · exact h5 k hk hn
    · rintro ⟨⟨h1, h2, h3⟩, h4, h5⟩
      refine ⟨h1, fun k hk hn => ?_, h3, h4, fun k hk hn => h5 k (fpL_cons.2 (.inr hk)) hn⟩
      rcases fpL_append.1 hn with hn | hn
      · exact h2 k hk hn
      · exact h5 k (fpL_cons.2 (.inl hk)) hn

def avo (O0 : Nat → Prop) (Γ : List OA) (k : Nat) : Prop := O0 k ∨ fpL Γ k

structure Holds (C : Ctx) (Γ : List OA) (Φ : List SP) (w : World) : Prop where
  mod : Mod C.M C.w0 w
  own : Own Γ w
  ofp : ∀ k, fpL Γ k → C.M k ∨ C.w0.heap.size ≤ k
  o0 : ∀ k, C.O0 k → k < C.w0.heap.size ∧ ¬ C.M k
  sp : ∀ ψ ∈ Φ, ψ.p w (avo C.O0 Γ)

/-- one move of memory: what is not owned stays; what is owned behind it is owned before it, or new. -/
theorem Holds.move {C : Ctx} {Γ Γ' : List OA} {Φ : List SP} {w w' : World} (h : Holds C Γ Φ w) (hm : Mod (fpL Γ) w w') (ho : Own Γ' w')
    (hf : ∀ k, k < w.heap.size → fpL Γ' k → fpL Γ k) : Holds C Γ' Φ w' where
  mod := ⟨hm.os.trans h.mod.os, hm.tape.trans h.mod.tape, hm.output.trans h.mod.output, Nat.le_trans h.mod.size hm.size, fun k hk hn =>
    (hm.block k (Nat.lt_of_lt_of_le hk h.mod.size) (fun hg => (h.ofp k hg).elim hn (fun h2 => by omega))).trans (h.mod.block k hk hn)⟩
  own := ho
  ofp := fun k hk => by
    rcases Nat.lt_or_ge k w.heap.size with hlt | hge
    · exact h.ofp k (hf k hlt hk)
    · exact .inr (Nat.le_trans h.mod.size hge)
  o0 := h.o0
  sp := fun ψ hψ => ψ.st (h.sp ψ hψ) (hm.mono fun k _ hk => .inr hk) fun k hk hk' => by
    rcases hk' with hk' | hk'
    · exact .inl hk'
    · exact .inr (hf k hk hk')

theorem Holds.cons {C : Ctx} {Γ : List OA} {Φ : List SP} {w : World} (h : Holds C Γ Φ w) {ψ : SP} (hψ : ψ.p w (avo C.O0 Γ)) : Holds C Γ (ψ :: Φ) w :=
  ⟨h.mod, h.own, h.ofp, h.o0, fun χ hχ => by
    rcases List.mem_cons.1 hχ with rfl | hχ
    · exact hψ
    · exact h.sp χ hχ⟩

theorem Holds.perm {C : Ctx} {Γ Γ' : List OA} {Φ : List SP} {w : World} (h : Holds C Γ Φ w) (hp : Γ.Perm Γ') : Holds C Γ' Φ w :=
  h.move (Mod.refl _ w) (h.own.perm hp) fun k _ hk => (fpL_perm hp k).2 hk

theorem Holds.drop {C : Ctx} {x : OA} {Γ : List OA} {Φ : List SP} {w : World} (h : Holds C (x :: Γ) Φ w) : Holds C Γ Φ w :=
  h.move (Mod.refl _ w) h.own.2.2 fun _ _ hk => fpL_cons.2 (.inr hk)

theorem Holds.sub {C : Ctx} {Γ : List OA} {Φ Ψ : List SP} {w : World} (h : Holds C Γ Φ w) (hs : ∀ ψ ∈ Ψ, ψ ∈ Φ) : Holds C Γ Ψ w :=
  ⟨h.mod, h.own, h.ofp, h.o0, fun ψ hψ => h.sp ψ (hs ψ hψ)⟩

/-- a new block. -/
theorem Holds.alloc {C : Ctx} {Γ : List OA} {Φ : List SP} {w : World} (h : Holds C Γ Φ w) (t : TypeId) (cs : Array Value) :
    Holds C (.blk w.heap.size t cs.toList :: Γ) Φ (w.alloc (.cells cs t)) := by
  refine h.move (Mod.alloc _ w _) ⟨?_, fun k hk hn => ?_, h.own.keep fun _ hk _ => heap_alloc_old w _ hk⟩ fun k hk hk' => ?_
  · show (w.alloc (.cells cs t)).heap[w.heap.size]? = _
    rw [heap_alloc_new]
  · have hk : k = w.heap.size := hk
    have := Own.lt h.own hn
    omega
  · rcases fpL_cons.1 hk' with hk' | hk'
    · have hk' : k = w.heap.size := hk'
      omega
    · exact hk'

-- ===== where an own thing stands in the list =====

def Pick (x : OA) (Γ Γ' : List OA) : Prop := Γ.Perm (x :: Γ')
theorem Pick.head (x : OA) (Γ : List OA) : Pick x (x :: Γ) Γ := .refl _
theorem Pick.tail {x y : OA} {Γ Γ' : List OA} (h : Pick x Γ Γ') : Pick x (y :: Γ) (y :: Γ') := (List.Perm.cons y h).trans (.swap x y Γ')

/-- Γ holds all of Δ (and maybe more). -/
def SubO (Γ Δ : List OA) : Prop := ∃ R, Γ.Perm (Δ ++ R)
theorem SubO.nil (Γ : List OA) : SubO Γ [] := ⟨Γ, .refl _⟩
theorem SubO.cons {x : OA} {Γ Γ' Δ : List OA} (h : Pick x Γ Γ') (k : SubO Γ' Δ) : SubO Γ (x :: Δ) := by
  obtain ⟨R, hR⟩ := k
  exact ⟨R, h.trans (List.Perm.cons x hR)⟩

theorem Holds.dropR {C : Ctx} {Γ R : List OA} {Φ : List SP} {w : World} (h : Holds C (Γ ++ R) Φ w) : Holds C Γ Φ w :=
  h.move (Mod.refl _ w) (Own.append.1 h.own).1 fun _ _ hk => fpL_append.2 (.inl hk)

theorem Holds.subOwn {C : Ctx} {Γ Δ : List OA} {Φ : List SP} {w : World} (h : Holds C Γ Φ w) (hs : SubO Γ Δ) : Holds C Δ Φ w := by
  obtain ⟨R, hR⟩ := hs
  exact (h.perm hR).dropR

-- ===== the walk =====

def WL (C : Ctx) (ops : Array Oper) (l : List Oper) (fr : Fr) (Γ : List OA) (Φ : List SP) (Q : Exit → Act → World → Prop) : Prop :=
  ∀ a w, fok C fr a → Holds C Γ Φ w → wpListIn (fenceOf C.rd) 0 C.P ops Q l a w

def W (C : Ctx) (c : Code) (fr : Fr) (Γ : List OA) (Φ : List SP) (Q : Exit → Act → World → Prop) : Prop :=
  ∀ a w, fok C fr a → Holds C Γ Φ w → c.wpIn (fenceOf C.rd) 0 C.P Q a w

def WQ (C : Ctx) (e : Exit) (fr : Fr) (Γ : List OA) (Φ : List SP) (Q : Exit → Act → World → Prop) : Prop :=
  ∀ a w, fok C fr a → Holds C Γ Φ w → Q e a w

section
variable {C : Ctx} {ops : Array Oper} {l : List Oper} {fr : Fr} {Γ : List OA} {Φ : List SP} {Q : Exit → Act → World → Prop}

theorem W_seq {x y : Code} (h : W C x fr Γ Φ (Exit.then (y.wpIn (fenceOf C.rd) 0 C.P Q) Q)) : W C (.seq x y) fr Γ Φ Q := fun a w ha hw => wpIn_seq (h a w ha hw)
theorem WQ_then {y : Code} (h : W C y fr Γ Φ Q) : WQ C .normal fr Γ Φ (Exit.then (y.wpIn (fenceOf C.rd) 0 C.P Q) Q) := h
theorem WQ_then_ret {K : Act → World → Prop} (h : WQ C .ret fr Γ Φ Q) : WQ C .ret fr Γ Φ (Exit.then K Q) := h
theorem WQ_then_exit {K : Act → World → Prop} {i : Nat} (h : WQ C (.exit i) fr Γ Φ Q) : WQ C (.exit i) fr Γ Φ (Exit.then K Q) := h
theorem W_block {id : Nat} {c : Code} (h : W C c fr Γ Φ (Exit.inBlock id Q)) : W C (.block id c) fr Γ Φ Q := fun a w ha hw => wpIn_block (h a w ha hw)
theorem WQ_block_normal {id : Nat} (h : WQ C .normal fr Γ Φ Q) : WQ C .normal fr Γ Φ (Exit.inBlock id Q) := h
theorem WQ_block_ret {id : Nat} (h : WQ C .ret fr Γ Φ Q) : WQ C .ret fr Γ Φ (Exit.inBlock id Q) := h
theorem WQ_block_exit {id : Nat} (h : WQ C .normal fr Γ Φ Q) : WQ C (.exit id) fr Γ Φ (Exit.inBlock id Q) := fun a w ha hw => by
  show Exit.inBlock id Q (.exit id) a w
  simp only [Exit.inBlock, if_true]
  exact h a w ha hw
theorem WQ_block_other {id i : Nat} (hne : Nat.beq i id = false) (h : WQ C (.exit i) fr Γ Φ Q) : WQ C (.exit i) fr Γ Φ (Exit.inBlock id Q) := fun a w ha hw => by
  have : i ≠ id := fun e => by subst e; simp at hne
  show Exit.inBlock id Q (.exit i) a w
  simp only [Exit.inBlock, this, if_false]
  exact h a w ha hw
theorem W_skip (h : WQ C .normal fr Γ Φ Q) : W C .skip fr Γ Φ Q := fun a w ha hw => wpIn_skip (h a w ha hw)
theorem W_label {i : Nat} (h : WQ C .normal fr Γ Φ Q) : W C (.label i) fr Γ Φ Q := fun a w ha hw => wpIn_label (h a w ha hw)
theorem W_exit {i : Nat} (h : WQ C (.exit i) fr Γ Φ Q) : W C (.exit i) fr Γ Φ Q := fun a w ha hw => wpIn_exit (h a w ha hw)
theorem W_ret (h : WQ C .ret fr Γ Φ Q) : W C .ret fr Γ Φ Q := fun a w ha hw => wpIn_ret (h a w ha hw)
theorem W_region {id : Nat} {l : List Oper} (h : WL C l.toArray l fr Γ Φ Q) : W C (.region id l.toArray false) fr Γ Φ Q :=
  fun a w ha hw => wpIn_region_lit (h a w ha hw)
theorem WL_nil (h : WQ C .normal fr Γ Φ Q) : WL C ops [] fr Γ Φ Q := fun a w ha hw => wpListIn_nil (h a w ha hw)

theorem W_cond {c : Operand} {x y : Code} {b : Bool} (hc : evO fr c = some (.bool b)) (ht : b = true → W C x fr Γ Φ Q) (hf : b = false → W C y fr Γ Φ Q) :
    W C (.cond c x y) fr Γ Φ Q := fun a w ha hw => wpIn_cond_split (evO_sound ha hc) (fun e => ht e a w ha hw) (fun e => hf e a w ha hw)
theorem W_cond_t {c : Operand} {x y : Code} (hc : evO fr c = some (.bool true)) (h : W C x fr Γ Φ Q) : W C (.cond c x y) fr Γ Φ Q :=
  fun a w ha hw => wpIn_cond_true (evO_sound ha hc) (h a w ha hw)
theorem W_cond_f {c : Operand} {x y : Code} (hc : evO fr c = some (.bool false)) (h : W C y fr Γ Φ Q) : W C (.cond c x y) fr Γ Φ Q :=
  fun a w ha hw => wpIn_cond_false (evO_sound ha hc) (h a w ha hw)
theorem W_cond_d {c : Operand} {x y : Code} {p : Prop} [Decidable p] (hc : evO fr c = some (.bool (decide p))) (ht : p → W C x fr Γ Φ Q) (hf : ¬ p → W C y fr Γ Φ Q) :
    W C (.cond c x y) fr Γ Φ Q := W_cond hc (fun e => ht (of_decide_eq_true e)) (fun e => hf (of_decide_eq_false e))

/-- pure knowledge out of a lasting fact. -/
theorem W_know {c : Code} {φ : Prop} (hφ : ∀ w, Holds C Γ Φ w → φ) (h : φ → W C c fr Γ Φ Q) : W C c fr Γ Φ Q := fun a w ha hw => h (hφ w hw) a w ha hw
theorem WL_know {φ : Prop} (hφ : ∀ w, Holds C Γ Φ w → φ) (h : φ → WL C ops l fr Γ Φ Q) : WL C ops l fr Γ Φ Q := fun a w ha hw => h (hφ w hw) a w ha hw
theorem WQ_know {e : Exit} {φ : Prop} (hφ : ∀ w, Holds C Γ Φ w → φ) (h : φ → WQ C e fr Γ Φ Q) : WQ C e fr Γ Φ Q := fun a w ha hw => h (hφ w hw) a w ha hw

theorem gv_sound {a : Act} (ha : fok C fr a) {o : Oper} {b : Bool} (hg : gv ops fr o.guard = some b) : Region.wanted o (yielded ops a.tmps) = b := by
  unfold Region.wanted
  cases hgd : o.guard with
  | none => rw [hgd] at hg; simpa [gv] using hg
  | some jw =>
    obtain ⟨j, want⟩ := jw
    rw [hgd] at hg
    simp only [gv] at hg
    cases ho : ops[j]? with
    | none => rw [ho] at hg; cases hg
    | some o' =>
      rw [ho] at hg
      simp only at hg
      cases hd : o'.dst with
      | none => rw [hd] at hg; cases hg
      | some d =>
        rw [hd] at hg
        simp only at hg
        cases hf : fget fr d with
        | none => rw [hf] at hg; cases hg
        | some v =>
          have hv := ha.2.2 d v hf
          rw [hf] at hg
          simp only [yielded, ho, hd, Option.bind_some]
          have hv' : a.tmps[d]? = some v ∨ (v = undef ∧ a.tmps[d]? = none) := by
            cases h0 : a.tmps[d]? with
            | none => exact .inr ⟨by rw [← hv]; simp [h0], rfl⟩
            | some u => exact .inl (by rw [← hv]; simp [h0])
          rcases hv' with hv' | ⟨rfl, hv'⟩
          · rw [hv']
            cases v with
            | bool c =>
              simp only [Option.some.injEq] at hg
              subst hg
              cases want <;> cases c <;> rfl
            | tuple vs =>
              simp only [Option.some.injEq] at hg
              subst hg
              cases want <;> rfl
            | _ => cases hg
          · rw [hv']
            simp only [undef, Option.some.injEq] at hg
            subst hg
            cases want <;> rfl

end

/-- what running an operation comes to: a value (or nothing), by itself or by a call, and the memory behind it. -/
def Gives (P : Program) (r : Result Next) (post : Value → World → Prop) : Prop :=
  match r with
  | .ok (.value v) w' => post v w'
  | .ok .skip w' => post undef w'
  | .ok (.enter f args) w' => Calls P f args w' fun e w'' => ∃ v, e = .returned v ∧ post v w''
  | .ok (.round l f tmps assign body) w' => RoundIn Fence.wide 0 P l f tmps assign body w' fun e w'' => ∃ v, e = .returned v ∧ post v w''
  | _ => False

theorem Gives.mono {P : Program} {r : Result Next} {p q : Value → World → Prop} (h : Gives P r p) (hpq : ∀ v w, p v w → q v w) : Gives P r q := by
  unfold Gives at *
  split
  · exact hpq _ _ h
  · exact hpq _ _ h
  · exact h.mono fun e w ⟨v, he, hp⟩ => ⟨v, he, hpq v w hp⟩
  · exact h.mono fun e w ⟨v, he, hp⟩ => ⟨v, he, hpq v w hp⟩
  · rename_i h1 h2 h3 h4
    split at h
    · exact (h1 _ _ rfl).elim
    · exact (h2 _ rfl).elim
    · exact (h3 _ _ _ rfl).elim
    · exact (h4 _ _ _ _ _ _ rfl).elim
    · exact h

theorem Gives.defer {P : Program} {o : Oper} {a : Act} {w : World} {post : Value → World → Prop} (h : Gives P ((execOp a.eval o).run P w) post) : ∀ c, o.op ≠ .defer c := by
  intro c hc
  have e : execOp a.eval o = (do pure (.defer (← resolve a.eval c o.type))) := by
    unfold execOp
    rw [hc]
  rw [e, Sem.run_bind] at h
  cases hr : (resolve a.eval c o.type).run P w with
  | ok d w' => rw [hr] at h; simp [Gives] at h
  | _ => rw [hr] at h; simp [Gives, Result.andThen] at h

theorem Gives.wp {P : Program} {r : Option Nat} {o : Oper} {a : Act} {w : World} {K : Act → World → Prop} {Q : Exit → Act → World → Prop} {post : Value → World → Prop}
    (h : Gives P ((execOp a.eval o).run P w) post) (hk : ∀ v w', post v w' → K (a.put o.dst v) w') : o.wpIn (fenceOf r) 0 P a w K Q := by
  refine ⟨fun f _ => fenceOf_fn r f, ?_⟩
  rw [fenceOf_round, Oper.semAt_eq r a.eval o h.defer]
  generalize (execOp a.eval o).run P w = r' at h
  unfold Gives at h
  split at h
  · exact hk _ _ h
  · exact hk _ _ h
  · refine ⟨fenceOf_depth r, fenceOf_calls (h.mono fun e w'' ⟨v, he, hp⟩ => ?_)⟩
    subst he
    exact hk _ _ hp
  · refine ⟨fenceOf_depth r, ?_⟩
    have h' := h.mono (R' := fun
      | .returned v, w'' => K (a.put o.dst v) w''
      | .panicked chain, w'' => Q (.panic chain) a w''
      | .outgrown, _ => LetsOut Q) fun e w'' ⟨v, he, hp⟩ => by
        subst he
        exact hk _ _ hp
    cases r
    · exact h'
    · exact h'
  · exact h.elim

theorem Gives.val {P : Program} {r : Result Next} {v : Value} {w' : World} {post : Value → World → Prop} (h : r = .ok (.value v) w') (hp : post v w') : Gives P r post := by subst h; exact hp
theorem Gives.skip {P : Program} {r : Result Next} {w' : World} {post : Value → World → Prop} (h : r = .ok .skip w') (hp : post undef w') : Gives P r post := by subst h; exact hp

def noOwn : Nat → Prop := fun _ => False

/-- an operation whose value is settled by what is known, and that turns nothing that was there. -/
def Runs (C : Ctx) (fr : Fr) (Γ : List OA) (Φ : List SP) (o : Oper) (v : Value) : Prop :=
  ∀ a w, fok C fr a → Holds C Γ Φ w → Gives C.P ((execOp a.eval o).run C.P w) fun v' w' => v' = v ∧ Mod noOwn w w'

/-- all of Ψ stands in Φ. -/
def AllIn (Ψ Φ : List SP) : Prop := ∀ ψ ∈ Ψ, ψ ∈ Φ
theorem AllIn.nil (Φ : List SP) : AllIn [] Φ := fun _ h => by cases h
theorem AllIn.cons {ψ : SP} {Ψ Φ : List SP} (h : ψ ∈ Φ) (k : AllIn Ψ Φ) : AllIn (ψ :: Ψ) Φ := fun χ hχ => by
  rcases List.mem_cons.1 hχ with rfl | hχ
  · exact h
  · exact k χ hχ
theorem AllIn.refl (Φ : List SP) : AllIn Φ Φ := fun _ h => h
theorem AllIn.more {ψ : SP} {Ψ Φ : List SP} (h : AllIn Ψ Φ) : AllIn Ψ (ψ :: Φ) := fun χ hχ => List.mem_cons_of_mem _ (h χ hχ)

theorem mcs {ψ : SP} {Φ : List SP} : ψ ∈ ψ :: Φ := List.mem_cons_self
theorem mct {ψ χ : SP} {Φ : List SP} (h : ψ ∈ Φ) : ψ ∈ χ :: Φ := List.mem_cons_of_mem _ h
/-- what follows from Φ wherever Φ holds. -/
def Ent (Φ : List SP) (ψ : SP) : Prop := ∀ w O, (∀ χ ∈ Φ, χ.p w O) → ψ.p w O
theorem Holds.ent {C : Ctx} {Γ : List OA} {Φ : List SP} {w : World} {ψ : SP} (h : Holds C Γ Φ w) (he : Ent Φ ψ) : Holds C Γ (ψ :: Φ) w := h.cons (he _ _ h.sp)

/-- a list, reckoned to the end. -/
def listO {α : Type} : List α → Option (List α)
  | [] => some []
  | a :: r => match listO r with
    | some t => some (a :: t)
    | none => none
theorem listO_eq {α : Type} : ∀ {a b : List α}, listO a = some b → a = b
  | [], b, h => by injection h
  | x :: r, b, h => by
    simp only [listO] at h
    cases hr : listO r with
    | none => rw [hr] at h; cases h
    | some t =>
      rw [hr] at h
      injection h with h
      rw [← h, ← listO_eq hr]

theorem Ent.mem {Φ : List SP} {ψ : SP} (h : ψ ∈ Φ) : Ent Φ ψ := fun _ _ k => k ψ h
/-- all of Ψ follows from Φ. -/
def AllE (Ψ Φ : List SP) : Prop := ∀ ψ ∈ Ψ, Ent Φ ψ
theorem AllE.nil (Φ : List SP) : AllE [] Φ := fun _ h => by cases h
theorem AllE.cons {ψ : SP} {Ψ Φ : List SP} (h : Ent Φ ψ) (k : AllE Ψ Φ) : AllE (ψ :: Ψ) Φ := fun χ hχ => by
  rcases List.mem_cons.1 hχ with rfl | hχ
  · exact h
  · exact k χ hχ
theorem Holds.allE {C : Ctx} {Γ : List OA} {Φ Ψ : List SP} {w : World} (h : Holds C Γ Φ w) (hs : AllE Ψ Φ) : Holds C Γ Ψ w :=
  ⟨h.mod, h.own, h.ofp, h.o0, fun ψ hψ => hs ψ hψ _ _ h.sp⟩

/-- two lists joined, reckoned to the end. -/
def appO {α : Type} : List α → List α → Option (List α)
  | [], l => some l
  | a :: r, l => match appO r l with
    | some t => some (a :: t)
    | none => none
theorem appO_eq {α : Type} : ∀ {a b c : List α}, appO a b = some c → a ++ b = c
  | [], b, c, h => by injection h
  | x :: r, b, c, h => by
    simp only [appO] at h
    cases hr : appO r b with
    | none => rw [hr] at h; cases h
    | some t =>
      rw [hr] at h
      injection h with h
      rw [← h, ← appO_eq hr]
      rfl

/-- an operation that makes, or writes, what is owned: some outcome x; what was known stays known. -/
def Effs (C : Ctx) (fr : Fr) (Γ : List OA) (Φ : List SP) (o : Oper) {X : Type} (pf : X → Prop) (vx : X → Value) (Γ' : X → List OA) (Φ' : X → List SP) : Prop :=
  (∀ x, AllIn Φ (Φ' x)) ∧
  ∀ R a w, fok C fr a → Holds C (Γ ++ R) Φ w → Gives C.P ((execOp a.eval o).run C.P w) fun v' w' => ∃ x, pf x ∧ v' = vx x ∧ Holds C (Γ' x ++ R) (Φ' x) w'

theorem Holds.ext {C : Ctx} {Γ : List OA} {Φ : List SP} {w w' : World} (h : Holds C Γ Φ w) (hm : Mod noOwn w w') : Holds C Γ Φ w' :=
  h.move (hm.mono fun _ _ hk => hk.elim) (h.own.keep fun k hk _ => hm.block k hk (fun h => h)) fun _ _ hk => hk

section
variable {C : Ctx} {ops : Array Oper} {l : List Oper} {fr : Fr} {Γ : List OA} {Φ : List SP} {Q : Exit → Act → World → Prop}

theorem Runs.pure {o : Oper} {v : Value} (h : ∀ a w, fok C fr a → Holds C Γ Φ w → (execOp a.eval o).run C.P w = .ok (.value v) w) : Runs C fr Γ Φ o v :=
  fun a w ha hw => .val (h a w ha hw) ⟨rfl, Mod.refl _ _⟩

theorem WL_runs {o : Oper} {d : Nat} {v : Value} (hg : gv ops fr o.guard = some true) (hd : o.dst = some d) (hn : Nat.blt d C.n = true) (h : Runs C fr Γ Φ o v)
    (k : WL C ops l ((d, v) :: fr) Γ Φ Q) : WL C ops (o :: l) fr Γ Φ Q := by
  intro a w ha hw
  unfold wpListIn
  rw [if_pos (gv_sound ha hg)]
  refine (h a w ha hw).wp fun v' w' ⟨hv, hm⟩ => ?_
  subst hv
  rw [hd]
  exact k _ _ (ha.putd (dst := some d) hn) (hw.ext hm)

theorem WL_pass {o : Oper} {d : Nat} (hg : gv ops fr o.guard = some false) (hd : o.dst = some d) (hn : Nat.blt d C.n = true)
    (k : WL C ops l ((d, undef) :: fr) Γ Φ Q) : WL C ops (o :: l) fr Γ Φ Q := by
  intro a w ha hw
  unfold wpListIn
  rw [if_neg (by rw [gv_sound ha hg]; simp), hd]
  exact ⟨fun f _ => fenceOf_fn _ f, k _ _ (ha.putd (dst := some d) hn) hw⟩

theorem WL_effs {o : Oper} {d : Nat} {X : Type} {pf : X → Prop} {vx : X → Value} {Γ' : X → List OA} {Φ' : X → List SP} (hg : gv ops fr o.guard = some true) (hd : o.dst = some d) (hn : Nat.blt d C.n = true)
    (h : Effs C fr Γ Φ o pf vx Γ' Φ') (k : ∀ x, pf x → WL C ops l ((d, vx x) :: fr) (Γ' x) (Φ' x) Q) : WL C ops (o :: l) fr Γ Φ Q := by
  intro a w ha hw
  unfold wpListIn
  rw [if_pos (gv_sound ha hg)]
  refine (h.2 [] a w ha (by simpa using hw)).wp fun v' w' ⟨x, hp, hv, hw'⟩ => ?_
  subst hv
  rw [hd]
  exact k x hp _ _ (ha.putd (dst := some d) hn) (by simpa using hw')

theorem WL_do {o : Oper} {X : Type} {pf : X → Prop} {vx : X → Value} {Γ' : X → List OA} {Φ' : X → List SP} (hg : gv ops fr o.guard = some true) (hd : o.dst = none)
    (h : Effs C fr Γ Φ o pf vx Γ' Φ') (k : ∀ x, pf x → WL C ops l fr (Γ' x) (Φ' x) Q) : WL C ops (o :: l) fr Γ Φ Q := by
  intro a w ha hw
  unfold wpListIn
  rw [if_pos (gv_sound ha hg)]
  refine (h.2 [] a w ha (by simpa using hw)).wp fun v' w' ⟨x, hp, hv, hw'⟩ => ?_
  rw [hd]
  exact k x hp _ _ ha (by simpa using hw')

/-- the same, with a fact that follows from what is known. -/
theorem WL_runsF {o : Oper} {d : Nat} {v : Value} {ψ : SP} (hg : gv ops fr o.guard = some true) (hd : o.dst = some d) (hn : Nat.blt d C.n = true) (h : Runs C fr Γ Φ o v ∧ Ent Φ ψ)
    (k : WL C ops l ((d, v) :: fr) Γ (ψ :: Φ) Q) : WL C ops (o :: l) fr Γ Φ Q :=
  WL_runs hg hd hn h.1 fun a w ha hw => k a w ha (hw.ent h.2)

end
end Go.Hs
