/-
  Trees of elements in memory; own things lent to a call; rows of bytes of which only the lengths matter. No program is named here.
-/
import Derived.Test.YtlfghljgilmenaaLz
namespace Go.Hs
open Go Go.RowKit

-- ===== a call that looks at what is owned =====

/-- while Γb is owned and Φ holds, the facts Φb hold too (where Γb itself is not forbidden). -/
def Bor (Γb : List OA) (Φ Φb : List SP) : Prop := ∀ w O, Own Γb w → (∀ k, fpL Γb k → ¬ O k) → (∀ ψ ∈ Φ, ψ.p w O) → ∀ ψ ∈ Φb, ψ.p w O

section
variable {C : Ctx} {ops : Array Oper} {l : List Oper} {fr : Fr} {Γ Γ' Γ1 : List OA} {Φ : List SP} {Q : Exit → Act → World → Prop}
  {d : Nat} {ty : TypeId} {pos : String} {aft : Array Edge} {g : Option (Nat × Bool)}

theorem Bor.row {v : Value} {t : TypeId} {n : Nat} {bs : List UInt8} {Γr : List OA} (hn : n = bs.length) : Bor [.row v t 1 n (bs.map bcell)] Φ (By v bs :: Φ) := fun w O ho hd hΦ ψ hψ => by
  rcases List.mem_cons.1 hψ with rfl | hψ
  · subst hn
    exact slP_of_row ho.1 fun k hk => hd k (fpL_cons.2 (.inl hk))
  · exact hΦ ψ hψ

theorem R_callB {dst : Option Tmp} {f : FuncId} {args : List Operand} {argTypes : Array TypeId} {vs : List Value} {Φp : List SP} {v : Value} {Γb Γr : List OA}
    (ha : evOs fr args = some vs)
    (hrun : ∀ (as : Array Value) (w : World), (callFunc f as).run C.P w = .ok (.enter f as) w)
    (hfn : CtD C.P f vs Φp v) (hp : Γ.Perm (Γb ++ Γr)) (hb : Bor Γb Φ Φp) :
    Runs C fr Γ Φ ⟨dst, .call { callee := .value (.func f), args := args.toArray, argTypes := argTypes }, ty, pos, aft, g⟩ v := by
  intro a w hfa hw0
  have hw := hw0.perm hp
  obtain ⟨ho1, ho2, ho3⟩ := Own.append.1 hw.own
  have hO : ∀ k, avo C.O0 Γr k → k < w.heap.size ∧ ¬ fpL [] k := fun k hk => by
    refine ⟨?_, fun ⟨_, hx, _⟩ => by cases hx⟩
    rcases hk with hk | hk
    · exact Nat.lt_of_lt_of_le (hw.o0 k hk).1 hw.mod.size
    · exact Own.lt ho2 hk
  have hd : ∀ k, fpL Γb k → ¬ avo C.O0 Γr k := fun k hk hn => by
    rcases hn with hn | hn
    · have h1 := hw.o0 k hn
      rcases hw.ofp k (fpL_append.2 (.inl hk)) with h2 | h2
      · exact h1.2 h2
      · omega
    · exact ho3 k hk hn
  have hΦ : ∀ ψ ∈ Φ, ψ.p w (avo C.O0 Γr) := fun ψ hψ => ψ.st (hw.sp ψ hψ) (Mod.refl _ _) fun k _ hk => hk.elim .inl fun h => .inr (fpL_append.2 (.inr h))
  have hcall := hfn w (avo C.O0 Γr) hO trivial (fun ψ hψ => ψ.st (hb w _ ho1 hd hΦ ψ hψ) (Mod.refl _ _) fun k _ hk => hk.elim id fun ⟨_, hx, _⟩ => by cases hx)
  have hrun' : (execOp a.eval ⟨dst, .call { callee := .value (.func f), args := args.toArray, argTypes := argTypes }, ty, pos, aft, g⟩).run C.P w = .ok (.enter f vs.toArray) w := by
    have e2 := evOs_sound hfa ha
    simp only [execOp, resolve, Act.eval, Deferred.ofValue, List.map_toArray, e2, Sem.run_bind, Sem.run_pure, Result.andThen_ok, invoke]
    rw [hrun]
    congr 2
    apply Array.ext'
    simp
  rw [hrun']
  show Calls _ _ _ _ _
  exact hcall.mono fun e w1 ⟨_, _, he, hm, _⟩ => ⟨_, he, rfl, hm.mono fun k _ ⟨_, hx, _⟩ => by cases hx⟩

/-- a plain truth drawn from what holds. -/
theorem W_pure {c : Code} {p : Prop} (hp : ∀ w, Holds C Γ Φ w → p) (h : p → W C c fr Γ Φ Q) : W C c fr Γ Φ Q := fun a w ha hw => h (hp w hw) a w ha hw
theorem WL_pure {p : Prop} (hp : ∀ w, Holds C Γ Φ w → p) (h : p → WL C ops l fr Γ Φ Q) : WL C ops l fr Γ Φ Q := fun a w ha hw => h (hp w hw) a w ha hw

def isNilV : Value → Bool
  | .slice none _ _ => true
  | _ => false

theorem R_eqNil {x y : Operand} {t e t' : TypeId} {v : Value} {size n : Nat} {xs : List Value} (hx : evO fr x = some v) (hy : evO fr y = some (.slice none 0 0)) (hm : Sl size v n xs ∈ Φ) (ht : C.P.underlying t = some (.slice e)) :
    Runs C fr Γ Φ ⟨some d, .binOp .eql t x y t', ty, pos, aft, g⟩ (.bool (isNilV v)) :=
  Runs.pure fun a w ha hw => by
    obtain ⟨_, A, c, hv, _⟩ := hw.sp _ hm
    subst hv
    have h := Lib.run_eql_slice_nil (P := C.P) w t e A n c 0 0 ht
    have hg : (eqGuard .eql t x y (.slice A n c) (.slice none 0 0)).run C.P w = .ok () w := by simp [eqGuard]
    simp only [execOp, evO_sound ha hx, evO_sound ha hy, Sem.run_bind, hg, Result.andThen_ok, h, Sem.run_pure]
    cases A <;> rfl
theorem R_eqNilB {x y : Operand} {t e t' : TypeId} {v : Value} {bs : List UInt8} (hx : evO fr x = some v) (hy : evO fr y = some (.slice none 0 0)) (hm : By v bs ∈ Φ) (ht : C.P.underlying t = some (.slice e)) :
    Runs C fr Γ Φ ⟨some d, .binOp .eql t x y t', ty, pos, aft, g⟩ (.bool (isNilV v)) := R_eqNil (xs := bs.map bcell) (size := 1) hx hy hm ht
theorem R_eqNilR {x y : Operand} {t e t' : TypeId} {v : Value} {size n : Nat} {f : Nat → List Value} (hx : evO fr x = some v) (hy : evO fr y = some (.slice none 0 0)) (hm : Rw size v n f ∈ Φ) (ht : C.P.underlying t = some (.slice e)) :
    Runs C fr Γ Φ ⟨some d, .binOp .eql t x y t', ty, pos, aft, g⟩ (.bool (isNilV v)) :=
  Runs.pure fun a w ha hw => by
    obtain ⟨A, c, hv, _⟩ := hw.sp _ hm
    subst hv
    have h := Lib.run_eql_slice_nil (P := C.P) w t e A n c 0 0 ht
    have hg : (eqGuard .eql t x y (.slice A n c) (.slice none 0 0)).run C.P w = .ok () w := by simp [eqGuard]
    simp only [execOp, evO_sound ha hx, evO_sound ha hy, Sem.run_bind, hg, Result.andThen_ok, h, Sem.run_pure]
    cases A <;> rfl
theorem by_nil {v : Value} {bs : List UInt8} (h : isNilV v = true) (hm : By v bs ∈ Φ) : ∀ w, Holds C Γ Φ w → bs = [] := fun w hw => by
  obtain ⟨_, A, c, rfl, _, _, hr⟩ := hw.sp _ hm
  cases A with
  | some A => cases h
  | none =>
    cases bs with
    | nil => rfl
    | cons b r =>
      obtain ⟨ad, h, _⟩ := hr (by simp)
      cases h
theorem rw_nil {v : Value} {size n : Nat} {f : Nat → List Value} (h : isNilV v = true) (hm : Rw size v n f ∈ Φ) : ∀ w, Holds C Γ Φ w → n = 0 := fun w hw => by
  obtain ⟨A, c, rfl, _, _, hr⟩ := hw.sp _ hm
  cases A with
  | some A => cases h
  | none =>
    cases n with
    | zero => rfl
    | succ n =>
      obtain ⟨ad, h, _⟩ := hr (by omega)
      cases h
/-- a method's value: the receiver is kept. -/
theorem R_makeFunc1 {fn : FuncId} {x : Operand} {v : Value} (hx : evO fr x = some v) : Runs C fr Γ Φ ⟨some d, .makeFunc (.func fn) #[x] #[], ty, pos, aft, g⟩ (.func (.func fn) #[v] #[]) :=
  Runs.pure fun a w ha _ => by simp [execOp, Instr.makeFunc, evO_sound ha hx]
end

theorem perm1 {x : OA} {Γ Γr : List OA} (h : Pick x Γ Γr) : Γ.Perm ([x] ++ Γr) := h
theorem perm2 {x y : OA} {Γ Γ1 Γr : List OA} (h : Pick x Γ Γ1) (k : Pick y Γ1 Γr) : Γ.Perm ([x, y] ++ Γr) := h.trans (List.Perm.cons x k)
theorem perm3 {x y z : OA} {Γ Γ1 Γ2 Γr : List OA} (h : Pick x Γ Γ1) (k : Pick y Γ1 Γ2) (l : Pick z Γ2 Γr) : Γ.Perm ([x, y, z] ++ Γr) := h.trans (List.Perm.cons x (k.trans (List.Perm.cons y l)))

-- ===== many rows of bytes as one thing =====

def rowsL (bt : TypeId) (L : List (Value × List UInt8)) : List OA := L.map fun p => .row p.1 bt 1 p.2.length (p.2.map bcell)
theorem rowsL_append (bt : TypeId) (L K : List (Value × List UInt8)) : rowsL bt (L ++ K) = rowsL bt L ++ rowsL bt K := List.map_append ..

theorem perm_erase {α : Type} : ∀ {L : List α} {i : Nat} {p : α}, L[i]? = some p → L.Perm (p :: L.eraseIdx i)
  | [], _, _, h => by simp at h
  | a :: r, 0, p, h => by
    simp only [List.getElem?_cons_zero, Option.some.injEq] at h
    subst h
    exact .refl _
  | a :: r, i + 1, p, h => by
    rw [List.getElem?_cons_succ] at h
    exact (List.Perm.cons a (perm_erase h)).trans (.swap p a _)
theorem perm_set {α : Type} : ∀ {L : List α} {i : Nat} (q : α), i < L.length → (q :: L.eraseIdx i).Perm (L.set i q)
  | [], _, _, h => by simp at h
  | a :: r, 0, q, _ => .refl _
  | a :: r, i + 1, q, h => (List.Perm.swap a q _).trans (List.Perm.cons a (perm_set q (by simpa using h)))

section
variable {C : Ctx} {ops : Array Oper} {l : List Oper} {fr : Fr} {Γ Γ1 Γ2 : List OA} {Φ : List SP} {Q : Exit → Act → World → Prop}
theorem Holds.takeL {bt : TypeId} {L : List (Value × List UInt8)} {i : Nat} {p : Value × List UInt8} {w : World} (h : Holds C (pk (rowsL bt L) :: Γ) Φ w) (hi : L[i]? = some p) :
    Holds C (.row p.1 bt 1 p.2.length (p.2.map bcell) :: pk (rowsL bt (L.eraseIdx i)) :: Γ) Φ w := by
  have h1 := h.unpack
  have hp : (rowsL bt L).Perm (.row p.1 bt 1 p.2.length (p.2.map bcell) :: rowsL bt (L.eraseIdx i)) := (perm_erase hi).map fun (p : Value × List UInt8) => OA.row p.1 bt 1 p.2.length (p.2.map bcell)
  have h2 := h1.perm (hp.append_right Γ)
  have h3 : Holds C (rowsL bt (L.eraseIdx i) ++ .row p.1 bt 1 p.2.length (p.2.map bcell) :: Γ) Φ w := h2.perm List.perm_middle.symm
  exact h3.pack.perm (.swap _ _ _)
theorem Holds.putL {bt : TypeId} {L : List (Value × List UInt8)} {i : Nat} {v : Value} {bs : List UInt8} {w : World} (h : Holds C (.row v bt 1 bs.length (bs.map bcell) :: pk (rowsL bt (L.eraseIdx i)) :: Γ) Φ w) (hi : i < L.length) :
    Holds C (pk (rowsL bt (L.set i (v, bs))) :: Γ) Φ w := by
  have h1 := (h.perm (.swap _ _ _)).unpack
  have h2 := h1.perm List.perm_middle
  have hp : (.row v bt 1 bs.length (bs.map bcell) :: rowsL bt (L.eraseIdx i)).Perm (rowsL bt (L.set i (v, bs))) := (perm_set (v, bs) hi).map fun (p : Value × List UInt8) => OA.row p.1 bt 1 p.2.length (p.2.map bcell)
  exact (h2.perm (hp.append_right Γ)).pack
theorem Holds.addL {bt : TypeId} {L : List (Value × List UInt8)} {v : Value} {n : Nat} {xs : List Value} {bs : List UInt8} {w : World} (h : Holds C (.row v bt 1 n xs :: pk (rowsL bt L) :: Γ) Φ w) (hx : xs = bs.map bcell) :
    Holds C (pk (rowsL bt (L ++ [(v, bs)])) :: Γ) Φ w := by
  have hn : n = bs.length := by
    have := h.own.1.1
    subst hx
    simpa using this.symm
  subst hx
  subst hn
  have h1 := (h.perm (.swap _ _ _)).unpack
  have h2 : Holds C (rowsL bt (L ++ [(v, bs)]) ++ Γ) Φ w := by
    rw [rowsL_append, List.append_assoc]
    exact h1
  exact h2.pack
theorem Holds.nilL {w : World} (bt : TypeId) (h : Holds C Γ Φ w) : Holds C (pk (rowsL bt []) :: Γ) Φ w := Holds.pack h

theorem W_takeL {c : Code} {bt : TypeId} {L : List (Value × List UInt8)} {i : Nat} {p : Value × List UInt8} (hi : L[i]? = some p) (hp : Pick (pk (rowsL bt L)) Γ Γ1)
    (h : W C c fr (.row p.1 bt 1 p.2.length (p.2.map bcell) :: pk (rowsL bt (L.eraseIdx i)) :: Γ1) Φ Q) : W C c fr Γ Φ Q := fun a w ha hw => h a w ha ((pick_holds hp hw).takeL hi)
theorem WQ_putL {e : Exit} {bt : TypeId} {L : List (Value × List UInt8)} {i n : Nat} {v : Value} {xs : List Value} (bs : List UInt8) (hx : xs = bs.map bcell) (hp : Pick (.row v bt 1 n xs) Γ Γ1) (hp' : Pick (pk (rowsL bt (L.eraseIdx i))) Γ1 Γ2) (hi : i < L.length)
    (h : WQ C e fr (pk (rowsL bt (L.set i (v, bs))) :: Γ2) Φ Q) : WQ C e fr Γ Φ Q := fun a w ha hw => h a w ha (by
  subst hx
  have h1 := (pick_holds hp hw)
  have hn : n = bs.length := by simpa using h1.own.1.1.symm
  subst hn
  exact (h1.perm (List.Perm.cons _ hp')).putL hi)
theorem WL_putL {bt : TypeId} {L : List (Value × List UInt8)} {i n : Nat} {v : Value} {xs : List Value} (bs : List UInt8) (hx : xs = bs.map bcell) (hp : Pick (.row v bt 1 n xs) Γ Γ1) (hp' : Pick (pk (rowsL bt (L.eraseIdx i))) Γ1 Γ2) (hi : i < L.length)
    (h : WL C ops l fr (pk (rowsL bt (L.set i (v, bs))) :: Γ2) Φ Q) : WL C ops l fr Γ Φ Q := fun a w ha hw => h a w ha (by
  subst hx
  have h1 := (pick_holds hp hw)
  have hn : n = bs.length := by simpa using h1.own.1.1.symm
  subst hn
  exact (h1.perm (List.Perm.cons _ hp')).putL hi)
theorem WL_addL {bt : TypeId} {L : List (Value × List UInt8)} {n : Nat} {v : Value} {xs : List Value} (bs : List UInt8) (hx : xs = bs.map bcell) (hp : Pick (.row v bt 1 n xs) Γ Γ1) (hp' : Pick (pk (rowsL bt L)) Γ1 Γ2)
    (h : WL C ops l fr (pk (rowsL bt (L ++ [(v, bs)])) :: Γ2) Φ Q) : WL C ops l fr Γ Φ Q := fun a w ha hw => h a w ha (((pick_holds hp hw).perm (List.Perm.cons _ hp')).addL hx)
theorem WQ_addL {e : Exit} {bt : TypeId} {L : List (Value × List UInt8)} {n : Nat} {v : Value} {xs : List Value} (bs : List UInt8) (hx : xs = bs.map bcell) (hp : Pick (.row v bt 1 n xs) Γ Γ1) (hp' : Pick (pk (rowsL bt L)) Γ1 Γ2)
    (h : WQ C e fr (pk (rowsL bt (L ++ [(v, bs)])) :: Γ2) Φ Q) : WQ C e fr Γ Φ Q := fun a w ha hw => h a w ha (((pick_holds hp hw).perm (List.Perm.cons _ hp')).addL hx)
theorem W_nilL {c : Code} (bt : TypeId) (h : W C c fr (pk (rowsL bt []) :: Γ) Φ Q) : W C c fr Γ Φ Q := fun a w ha hw => h a w ha (hw.nilL bt)
theorem WL_nilL (bt : TypeId) (h : WL C ops l fr (pk (rowsL bt []) :: Γ) Φ Q) : WL C ops l fr Γ Φ Q := fun a w ha hw => h a w ha (hw.nilL bt)
theorem WQ_nilL {e : Exit} (bt : TypeId) (h : WQ C e fr (pk (rowsL bt []) :: Γ) Φ Q) : WQ C e fr Γ Φ Q := fun a w ha hw => h a w ha (hw.nilL bt)
end

-- ===== trees =====

/-- a list of elements as it stands in memory, each with its own list; the values that lead to the data and to the list are told too. -/
inductive T where
  | nil
  | cons (id ext : UInt8) (dv : Value) (data : List UInt8) (sv : Value) (subs next : T)

/-- the same without the values. -/
inductive Fo where
  | nil
  | cons (id ext : UInt8) (data : List UInt8) (subs next : Fo)
deriving DecidableEq

namespace T
def er : T → Fo
  | .nil => .nil
  | .cons id ext _ data _ subs next => .cons id ext data subs.er next.er
def len : T → Nat
  | .nil => 0
  | .cons _ _ _ _ _ _ next => next.len + 1
def drop : Nat → T → T
  | 0, t => t
  | _ + 1, .nil => .nil
  | k + 1, .cons _ _ _ _ _ _ next => drop k next
def app : T → T → T
  | .nil, u => u
  | .cons id ext dv data sv subs next, u => .cons id ext dv data sv subs (next.app u)
def head : T → List Value
  | .nil => []
  | .cons id ext dv _ sv _ _ => [bcell id, bcell ext, dv, sv]
def at_ (t : T) (i : Nat) : List Value := (t.drop i).head
def cells : T → List Value
  | .nil => []
  | .cons id ext dv _ sv _ next => bcell id :: bcell ext :: dv :: sv :: next.cells
def dls : T → List (Value × List UInt8)
  | .nil => []
  | .cons _ _ dv data _ _ next => (dv, data) :: next.dls

def tfP : T → World → (Nat → Prop) → Prop
  | .nil, _, _ => True
  | .cons _ _ dv data sv subs next, w, O => (By dv data).p w O ∧ (Rw 4 sv subs.len subs.at_).p w O ∧ subs.tfP w O ∧ next.tfP w O
theorem tfP.st : ∀ {t : T} {w w' : World} {O O' : Nat → Prop}, t.tfP w O → Mod O w w' → (∀ k, k < w.heap.size → O' k → O k) → t.tfP w' O'
  | .nil, _, _, _, _, _, _, _ => trivial
  | .cons _ _ _ _ _ _ _, _, _, _, _, h, hm, ho => ⟨SP.st _ h.1 hm ho, SP.st _ h.2.1 hm ho, tfP.st h.2.2.1 hm ho, tfP.st h.2.2.2 hm ho⟩
/-- what hangs on the elements lasts. -/
def tf (t : T) : SP := ⟨t.tfP, tfP.st⟩

def tsP : T → World → (Nat → Prop) → Prop
  | .nil, _, _ => True
  | .cons _ _ _ _ sv subs next, w, O => (Rw 4 sv subs.len subs.at_).p w O ∧ subs.tfP w O ∧ next.tsP w O
theorem tsP.st : ∀ {t : T} {w w' : World} {O O' : Nat → Prop}, t.tsP w O → Mod O w w' → (∀ k, k < w.heap.size → O' k → O k) → t.tsP w' O'
  | .nil, _, _, _, _, _, _, _ => trivial
  | .cons _ _ _ _ _ _ _, _, _, _, _, h, hm, ho => ⟨SP.st _ h.1 hm ho, tfP.st h.2.1 hm ho, tsP.st h.2.2 hm ho⟩
/-- the same of the elements' lists alone: the data are owned. -/
def ts (t : T) : SP := ⟨t.tsP, tsP.st⟩

theorem len_app : ∀ (t u : T), (t.app u).len = t.len + u.len
  | .nil, u => by simp [app, len]
  | .cons _ _ _ _ _ _ next, u => by simp only [app, len, len_app next u]; omega
theorem cells_app : ∀ (t u : T), (t.app u).cells = t.cells ++ u.cells
  | .nil, u => rfl
  | .cons _ _ _ _ _ _ next, u => by simp only [app, cells, cells_app next u, List.cons_append]
theorem dls_app : ∀ (t u : T), (t.app u).dls = t.dls ++ u.dls
  | .nil, u => rfl
  | .cons _ _ _ _ _ _ next, u => by simp only [app, dls, dls_app next u, List.cons_append]
theorem len_snoc (t : T) (id ext : UInt8) (dv : Value) (data : List UInt8) (sv : Value) (subs : T) : t.len + 1 = (t.app (.cons id ext dv data sv subs .nil)).len := by rw [len_app]; rfl
theorem cells_snoc (t : T) (id ext : UInt8) (dv : Value) (data : List UInt8) (sv : Value) (subs : T) : t.cells ++ [bcell id, bcell ext, dv, sv] = (t.app (.cons id ext dv data sv subs .nil)).cells := by rw [cells_app]; rfl
theorem dls_snoc (t : T) (id ext : UInt8) (dv : Value) (data : List UInt8) (sv : Value) (subs : T) : t.dls ++ [(dv, data)] = (t.app (.cons id ext dv data sv subs .nil)).dls := by rw [dls_app]; rfl
theorem cells_length : ∀ (t : T), t.cells.length = t.len * 4
  | .nil => rfl
  | .cons _ _ _ _ _ _ next => by simp only [cells, List.length_cons, cells_length next, len]; omega
theorem dls_length : ∀ (t : T), t.dls.length = t.len
  | .nil => rfl
  | .cons _ _ _ _ _ _ next => by simp only [dls, List.length_cons, dls_length next, len]
theorem cells_at : ∀ (t : T) (i : Nat), i < t.len → (t.cells.drop (i * 4)).take 4 = t.at_ i
  | .nil, _, h => by simp [len] at h
  | .cons _ _ _ _ _ _ next, 0, _ => rfl
  | .cons _ _ _ _ _ _ next, i + 1, h => by
    have h' : i < next.len := by simp only [len] at h; omega
    rw [show (i + 1) * 4 = i * 4 + 1 + 1 + 1 + 1 by omega]
    exact cells_at next i h'
theorem drop_len : ∀ (t : T) (k : Nat), k ≤ t.len → (t.drop k).len = t.len - k
  | t, 0, _ => rfl
  | .nil, k + 1, h => by simp [len] at h
  | .cons _ _ _ _ _ _ next, k + 1, h => by
    simp only [len] at h
    simp only [drop, len, drop_len next k (by omega)]
    omega
theorem drop_nil : ∀ (k : Nat), drop k .nil = .nil
  | 0 => rfl
  | _ + 1 => rfl
theorem drop_next : ∀ {t : T} {k : Nat} {id ext : UInt8} {dv : Value} {data : List UInt8} {sv : Value} {subs next : T}, t.drop k = .cons id ext dv data sv subs next → t.drop (k + 1) = next
  | .nil, k, _, _, _, _, _, _, _, h => by rw [drop_nil] at h; cases h
  | .cons _ _ _ _ _ _ _, 0, _, _, _, _, _, _, _, h => by
    simp only [drop, cons.injEq] at h
    simp only [drop]
    exact h.2.2.2.2.2.2
  | .cons _ _ _ _ _ _ n, k + 1, _, _, _, _, _, _, _, h => by
    show drop (k + 1) n = _
    exact drop_next (t := n) h
/-- the k-th element. -/
theorem get {t : T} {k : Nat} (h : k < t.len) : ∃ id ext dv data sv subs next, t.drop k = .cons id ext dv data sv subs next := by
  cases e : t.drop k with
  | nil =>
    have := drop_len t k (by omega)
    rw [e] at this
    simp only [len] at this
    omega
  | cons id ext dv data sv subs next => exact ⟨_, _, _, _, _, _, _, rfl⟩
theorem at_cons {t : T} {k : Nat} {id ext : UInt8} {dv : Value} {data : List UInt8} {sv : Value} {subs next : T} (h : t.drop k = .cons id ext dv data sv subs next) : t.at_ k = [bcell id, bcell ext, dv, sv] := by
  rw [at_, h]
  rfl
theorem dls_get : ∀ {t : T} {k : Nat} {id ext : UInt8} {dv : Value} {data : List UInt8} {sv : Value} {subs next : T}, t.drop k = .cons id ext dv data sv subs next → t.dls[k]? = some (dv, data)
  | .nil, k, _, _, _, _, _, _, _, h => by rw [drop_nil] at h; cases h
  | .cons _ _ _ _ _ _ _, 0, _, _, _, _, _, _, _, h => by
    simp only [drop, cons.injEq] at h
    simp [dls, h]
  | .cons _ _ _ _ _ _ n, k + 1, _, _, _, _, _, _, _, h => by
    rw [dls, List.getElem?_cons_succ]
    exact dls_get (t := n) h

def size : T → Nat
  | .nil => 0
  | .cons _ _ _ _ _ subs next => subs.size + next.size + 1
theorem drop_size : ∀ {t : T} {k : Nat} {id ext : UInt8} {dv : Value} {data : List UInt8} {sv : Value} {subs next : T}, t.drop k = .cons id ext dv data sv subs next → subs.size < t.size
  | .nil, k, _, _, _, _, _, _, _, h => by rw [drop_nil] at h; cases h
  | .cons _ _ _ _ _ _ _, 0, _, _, _, _, _, _, _, h => by
    simp only [drop, cons.injEq] at h
    obtain ⟨_, _, _, _, _, rfl, rfl⟩ := h
    simp only [size]
    omega
  | .cons _ _ _ _ _ _ n, k + 1, _, _, _, _, _, _, _, h => by
    have := drop_size (t := n) h
    simp only [size]
    omega

theorem tf_at : ∀ {t : T} {k : Nat} {id ext : UInt8} {dv : Value} {data : List UInt8} {sv : Value} {subs next : T} {w : World} {O : Nat → Prop}, t.drop k = .cons id ext dv data sv subs next → t.tfP w O →
    (By dv data).p w O ∧ (Rw 4 sv subs.len subs.at_).p w O ∧ subs.tfP w O
  | .nil, k, _, _, _, _, _, _, _, _, _, h, _ => by rw [drop_nil] at h; cases h
  | .cons _ _ _ _ _ _ _, 0, _, _, _, _, _, _, _, _, _, h, hp => by
    simp only [drop, cons.injEq] at h
    obtain ⟨rfl, rfl, rfl, rfl, rfl, rfl, rfl⟩ := h
    exact ⟨hp.1, hp.2.1, hp.2.2.1⟩
  | .cons _ _ _ _ _ _ n, k + 1, _, _, _, _, _, _, _, _, _, h, hp => tf_at (t := n) h hp.2.2.2
theorem ts_at : ∀ {t : T} {k : Nat} {id ext : UInt8} {dv : Value} {data : List UInt8} {sv : Value} {subs next : T} {w : World} {O : Nat → Prop}, t.drop k = .cons id ext dv data sv subs next → t.tsP w O →
    (Rw 4 sv subs.len subs.at_).p w O ∧ subs.tfP w O
  | .nil, k, _, _, _, _, _, _, _, _, _, h, _ => by rw [drop_nil] at h; cases h
  | .cons _ _ _ _ _ _ _, 0, _, _, _, _, _, _, _, _, _, h, hp => by
    simp only [drop, cons.injEq] at h
    obtain ⟨rfl, rfl, rfl, rfl, rfl, rfl, rfl⟩ := h
    exact ⟨hp.1, hp.2.1⟩
  | .cons _ _ _ _ _ _ n, k + 1, _, _, _, _, _, _, _, _, _, h, hp => ts_at (t := n) h hp.2.2
theorem tf_app : ∀ {t u : T} {w : World} {O : Nat → Prop}, t.tfP w O → u.tfP w O → (t.app u).tfP w O
  | .nil, _, _, _, _, h => h
  | .cons _ _ _ _ _ _ _, _, _, _, h, k => ⟨h.1, h.2.1, h.2.2.1, tf_app h.2.2.2 k⟩
theorem ts_app : ∀ {t u : T} {w : World} {O : Nat → Prop}, t.tsP w O → u.tsP w O → (t.app u).tsP w O
  | .nil, _, _, _, _, h => h
  | .cons _ _ _ _ _ _ _, _, _, _, h, k => ⟨h.1, h.2.1, ts_app h.2.2 k⟩
theorem tf_of_ts : ∀ {bt : TypeId} {t : T} {w : World} {O : Nat → Prop}, Own (rowsL bt t.dls) w → (∀ k, fpL (rowsL bt t.dls) k → ¬ O k) → t.tsP w O → t.tfP w O
  | _, .nil, _, _, _, _, _ => trivial
  | _, .cons _ _ _ _ _ _ _, _, _, ho, hd, h => ⟨slP_of_row ho.1 fun k hk => hd k (fpL_cons.2 (.inl hk)), h.1, h.2.1, tf_of_ts ho.2.2 (fun k hk => hd k (fpL_cons.2 (.inr hk))) h.2.2⟩
end T

section
variable {C : Ctx} {fr : Fr} {Γ Γ1 : List OA} {Φ : List SP}
theorem ent_tree {t : T} {k : Nat} {id ext : UInt8} {dv : Value} {data : List UInt8} {sv : Value} {subs next : T} (hm : t.tf ∈ Φ) (h : t.drop k = .cons id ext dv data sv subs next) :
    Ent Φ (By dv data) ∧ Ent Φ (Rw 4 sv subs.len subs.at_) ∧ Ent Φ subs.tf := ⟨fun _ _ hw => (T.tf_at h (hw _ hm)).1, fun _ _ hw => (T.tf_at h (hw _ hm)).2.1, fun _ _ hw => (T.tf_at h (hw _ hm)).2.2⟩
theorem ent_trees {t : T} {k : Nat} {id ext : UInt8} {dv : Value} {data : List UInt8} {sv : Value} {subs next : T} (hm : t.ts ∈ Φ) (h : t.drop k = .cons id ext dv data sv subs next) :
    Ent Φ (Rw 4 sv subs.len subs.at_) ∧ Ent Φ subs.tf := ⟨fun _ _ hw => (T.ts_at h (hw _ hm)).1, fun _ _ hw => (T.ts_at h (hw _ hm)).2⟩
theorem ent_slT {v : Value} {t : T} (hm : Sl 4 v t.len t.cells ∈ Φ) : Ent Φ (Rw 4 v t.len t.at_) := fun w O h => by
  have h1 := ent_slRw hm w O h
  exact rwP_congr' h1 fun i hi => T.cells_at t i hi
where
  rwP_congr' {size : Nat} {v : Value} {n : Nat} {f g : Nat → List Value} {w : World} {O : Nat → Prop} (h : rwP size v n f w O) (e : ∀ i, i < n → f i = g i) : rwP size v n g w O := by
    obtain ⟨A, c, hv, h1, h2, hr⟩ := h
    refine ⟨A, c, hv, h1, h2, fun hn => ?_⟩
    obtain ⟨ad, hA, hlt, hO, hcell⟩ := hr hn
    exact ⟨ad, hA, hlt, hO, fun i hi j u hu => hcell i hi j u (by rw [e i hi]; exact hu)⟩
theorem ent_tsapp {t u : T} (h1 : t.ts ∈ Φ) (h2 : u.ts ∈ Φ) : Ent Φ (t.app u).ts := fun _ _ h => T.ts_app (h _ h1) (h _ h2)
theorem ent_ts1 {id ext : UInt8} {dv : Value} {data : List UInt8} {sv : Value} {subs : T} (h1 : Rw 4 sv subs.len subs.at_ ∈ Φ) (h2 : subs.tf ∈ Φ) : Ent Φ (T.cons id ext dv data sv subs .nil).ts := fun _ _ h => ⟨h _ h1, h _ h2, trivial⟩
theorem ent_tfapp {t u : T} (h1 : t.tf ∈ Φ) (h2 : u.tf ∈ Φ) : Ent Φ (t.app u).tf := fun _ _ h => T.tf_app (h _ h1) (h _ h2)
theorem ent_tf1 {id ext : UInt8} {dv : Value} {data : List UInt8} {sv : Value} {subs : T} (h0 : By dv data ∈ Φ) (h1 : Rw 4 sv subs.len subs.at_ ∈ Φ) (h2 : subs.tf ∈ Φ) : Ent Φ (T.cons id ext dv data sv subs .nil).tf := fun _ _ h => ⟨h _ h0, h _ h1, h _ h2, trivial⟩
theorem ent_tf0 : Ent Φ T.nil.tf := fun _ _ _ => trivial
theorem ent_ts0 : Ent Φ T.nil.ts := fun _ _ _ => trivial
/-- the data let go with the tree's lists. -/
theorem Holds.tree {bt : TypeId} {t : T} {w : World} (h : Holds C (pk (rowsL bt t.dls) :: Γ) Φ w) (hm : t.ts ∈ Φ) : Holds C Γ (t.tf :: Φ) w := by
  have hd : ∀ k, fpL (rowsL bt t.dls) k → ¬ avo C.O0 Γ k := fun k hk hn => by
    rcases hn with hn | hn
    · have h1 := h.o0 k hn
      rcases h.ofp k (fpL_cons.2 (.inl hk)) with h2 | h2
      · exact h1.2 h2
      · omega
    · exact h.own.2.1 k hk hn
  exact h.drop.cons (T.tf_of_ts h.own.1 hd (h.drop.sp _ hm))
theorem W_tree {c : Code} {Q : Exit → Act → World → Prop} {bt : TypeId} {t : T} (hp : Pick (pk (rowsL bt t.dls)) Γ Γ1) (hm : t.ts ∈ Φ) (h : W C c fr Γ1 (t.tf :: Φ) Q) : W C c fr Γ Φ Q := fun a w ha hw => h a w ha ((pick_holds hp hw).tree hm)
theorem WL_tree {ops : Array Oper} {l : List Oper} {Q : Exit → Act → World → Prop} {bt : TypeId} {t : T} (hp : Pick (pk (rowsL bt t.dls)) Γ Γ1) (hm : t.ts ∈ Φ) (h : WL C ops l fr Γ1 (t.tf :: Φ) Q) : WL C ops l fr Γ Φ Q := fun a w ha hw => h a w ha ((pick_holds hp hw).tree hm)
theorem WQ_tree {e : Exit} {Q : Exit → Act → World → Prop} {bt : TypeId} {t : T} (hp : Pick (pk (rowsL bt t.dls)) Γ Γ1) (hm : t.ts ∈ Φ) (h : WQ C e fr Γ1 (t.tf :: Φ) Q) : WQ C e fr Γ Φ Q := fun a w ha hw => h a w ha ((pick_holds hp hw).tree hm)
/-- a tree lent: its data are owned. -/
theorem Bor.tree {bt : TypeId} {t : T} (hm : t.ts ∈ Φ) {Φb : List SP} (hb : ∀ ψ ∈ Φb, ψ = t.tf ∨ ψ ∈ Φ) : Bor [pk (rowsL bt t.dls)] Φ Φb := fun w O ho hd hΦ ψ hψ => by
  rcases hb ψ hψ with rfl | h
  · exact T.tf_of_ts ho.1 (fun k hk => hd k (fpL_cons.2 (.inl hk))) (hΦ _ hm)
  · exact hΦ ψ h
end
theorem rw_le {C : Ctx} {Γ : List OA} {Φ : List SP} {size n : Nat} {v : Value} {f : Nat → List Value} (hm : Rw size v n f ∈ Φ) : ∀ w, Holds C Γ Φ w → n ≤ 9223372036854775807 := fun w h => by
  obtain ⟨A, c, _, h1, h2, _⟩ := h.sp _ hm
  have : maxLen = 9223372036854775807 := rfl
  omega
theorem by_le {C : Ctx} {Γ : List OA} {Φ : List SP} {v : Value} {bs : List UInt8} (hm : By v bs ∈ Φ) : ∀ w, Holds C Γ Φ w → bs.length ≤ 9223372036854775807 := fun w h => by
  obtain ⟨_, A, c, _, h1, h2, _⟩ := (show slP 1 v bs.length (bs.map bcell) w _ from h.sp _ hm)
  have : maxLen = 9223372036854775807 := rfl
  omega
theorem row_le {C : Ctx} {Γ Γ' : List OA} {Φ : List SP} {size n : Nat} {v : Value} {t : TypeId} {xs : List Value} (hp : Pick (.row v t size n xs) Γ Γ') : ∀ w, Holds C Γ Φ w → n ≤ 9223372036854775807 := fun w h => by
  obtain ⟨A, c, _, h1, h2, _⟩ := row_nil_or (pick_holds hp h).own.1
  have : maxLen = 9223372036854775807 := rfl
  omega
end Go.Hs
