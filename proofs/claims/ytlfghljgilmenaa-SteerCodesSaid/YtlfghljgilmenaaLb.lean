/-
  Slices of things: each element told by a function of its number. No program is named here.
-/
import Derived.Test.YtlfghljgilmenaaLk
namespace Go.Hs
open Go Go.RowKit

def rwP (size : Nat) (v : Value) (n : Nat) (f : Nat → List Value) (w : World) (O : Nat → Prop) : Prop :=
  ∃ A c, v = .slice A n c ∧ n ≤ c ∧ c ≤ maxLen ∧
    (0 < n → ∃ ad, A = some ad ∧ ad.block < w.heap.size ∧ ¬ O ad.block ∧ ∀ i, i < n → ∀ j u, (f i)[j]? = some u → w.cell? (ad.add (i * size + j)) = some u)

theorem rwP.st {size : Nat} {v : Value} {n : Nat} {f : Nat → List Value} {w w' : World} {O O' : Nat → Prop} (h : rwP size v n f w O) (hm : Mod O w w') (ho : ∀ k, k < w.heap.size → O' k → O k) : rwP size v n f w' O' := by
  obtain ⟨A, c, hv, hc, hcm, hr⟩ := h
  refine ⟨A, c, hv, hc, hcm, fun hn => ?_⟩
  obtain ⟨ad, hA, hlt, hO, hcell⟩ := hr hn
  refine ⟨ad, hA, Nat.lt_of_lt_of_le hlt hm.size, fun h => hO (ho _ hlt h), fun i hi j u hu => ?_⟩
  rw [World.cell?_of_block (w := w) (by rw [block_add]; exact hm.block _ hlt hO)]
  exact hcell i hi j u hu

/-- the slice value v of n elements (size cells each): the i-th reads the cells f i. -/
def Rw (size : Nat) (v : Value) (n : Nat) (f : Nat → List Value) : SP := ⟨rwP size v n f, rwP.st⟩

/-- a fact of every number below n. -/
def Al (n : Nat) (ψ : Nat → SP) : SP := ⟨fun w O => ∀ i, i < n → (ψ i).p w O, fun h hm ho i hi => (ψ i).st (h i hi) hm ho⟩

theorem ent_al {Φ : List SP} {n i : Nat} {ψ : Nat → SP} (hm : Al n ψ ∈ Φ) (hi : i < n) : Ent Φ (ψ i) := fun _ _ h => h _ hm i hi

theorem ent_idxRw {Φ : List SP} {v : Value} {size n i : Nat} {f : Nat → List Value} (hm : Rw size v n f ∈ Φ) (hi : i < n) : Ent Φ (Pt (idxV size i v) (f i)) := fun w O h => by
  obtain ⟨A, c, hv, _, _, hr⟩ := h _ hm
  obtain ⟨ad, rfl, hlt, hO, hcell⟩ := hr (by omega)
  subst hv
  refine ⟨_, rfl, by rw [block_add]; exact hlt, by rw [block_add]; exact hO, fun j u hu => ?_⟩
  rw [add_add']
  exact hcell i hi j u hu

theorem ent_slRw {Φ : List SP} {v : Value} {size n : Nat} {xs : List Value} (hm : Sl size v n xs ∈ Φ) : Ent Φ (Rw size v n (fun i => (xs.drop (i * size)).take size)) := fun w O h => by
  obtain ⟨hl, A, c, hv, hc, hcm, hr⟩ := h _ hm
  refine ⟨A, c, hv, hc, hcm, fun hn => ?_⟩
  obtain ⟨ad, hA, hlt, hO, hcell⟩ := hr hn
  refine ⟨ad, hA, hlt, hO, fun i hi j u hu => ?_⟩
  rw [List.getElem?_take] at hu
  split at hu
  · exact hcell _ u (by rw [← hu, List.getElem?_drop])
  · cases hu

theorem ent_slRw1 {Φ : List SP} {v : Value} {n : Nat} {xs : List Value} (hm : Sl 1 v n xs ∈ Φ) : Ent Φ (Rw 1 v n (fun i => [xs.getD i undef])) := fun w O h => by
  obtain ⟨hl, A, c, hv, hc, hcm, hr⟩ := h _ hm
  refine ⟨A, c, hv, hc, hcm, fun hn => ?_⟩
  obtain ⟨ad, hA, hlt, hO, hcell⟩ := hr hn
  refine ⟨ad, hA, hlt, hO, fun i hi j u hu => ?_⟩
  cases j with
  | zero =>
    simp only [List.getElem?_cons_zero, Option.some.injEq] at hu
    subst hu
    have h2 : i < xs.length := by omega
    rw [Nat.mul_one, Nat.add_zero]
    exact hcell i _ (by simp [List.getD, h2])
  | succ j => simp at hu

section
variable {C : Ctx} {fr : Fr} {Γ Γ' : List OA} {Φ : List SP}
  {d : Nat} {ty : TypeId} {pos : String} {aft : Array Edge} {g : Option (Nat × Bool)}

theorem R_idxRw {t e : TypeId} {x y : Operand} {v : Value} {size n : Nat} {f : Nat → List Value} {us : List Value} {kd : IntKind} {ii : Int} {i : Nat}
    (hx : evO fr x = some v) (hy : evO fr y = some (.int kd ii)) (hm : Rw size v n f ∈ Φ) (ht : C.P.underlying t = some (.slice e)) (hs : ∀ w, (sizeOf e).run C.P w = .ok size w) (hii : ii = (i : Int)) (hi : i < n) (hu : f i = us) :
    Runs C fr Γ Φ ⟨some d, .indexAddr t x y, ty, pos, aft, g⟩ (idxV size i v) ∧ Ent Φ (Pt (idxV size i v) us) := by
  subst hii
  subst hu
  refine ⟨Runs.pure fun a w ha hw => ?_, ent_idxRw hm hi⟩
  obtain ⟨A, c, hv, _, _, hr⟩ := hw.sp _ hm
  obtain ⟨ad, rfl, _⟩ := hr (by omega)
  simp [execOp, evO_sound ha hx, evO_sound ha hy, hv, run_indexAt_some ht hs hi, idxV]

theorem R_lenRw {t : TypeId} {x : Operand} {v : Value} {size n : Nat} {f : Nat → List Value} {e : TypeId} (hx : evO fr x = some v)
    (hm : Rw size v n f ∈ Φ) (ht : C.P.underlying t = some (.slice e)) : Runs C fr Γ Φ ⟨some d, .call { callee := .builtin .len, args := #[x], argTypes := #[t] }, ty, pos, aft, g⟩ (.int .i64 (n : Int)) :=
  Runs.pure fun a w ha hw => by
    obtain ⟨A, c, hv, _⟩ := hw.sp _ hm
    simp [execOp, resolve, invoke, builtin, evO_sound ha hx, hv, Builtin.len_, run_underlying ht, goInt]
end

section
variable {C : Ctx} {ops : Array Oper} {l : List Oper} {fr : Fr} {Γ : List OA} {Φ : List SP} {Q : Exit → Act → World → Prop}
theorem OneC.rw {u : Value} {size n : Nat} {f : Nat → List Value} (h : Rw size u n f ∈ Φ) : OneC C Γ Φ u := fun _ _ hw => by
  obtain ⟨A, c, rfl, _⟩ := hw.sp _ h
  rfl

/-- a fact that follows is put down. -/
theorem W_ent {c : Code} {ψ : SP} (he : Ent Φ ψ) (h : W C c fr Γ (ψ :: Φ) Q) : W C c fr Γ Φ Q := fun a w ha hw => h a w ha (hw.ent he)
theorem WL_ent {ψ : SP} (he : Ent Φ ψ) (h : WL C ops l fr Γ (ψ :: Φ) Q) : WL C ops l fr Γ Φ Q := fun a w ha hw => h a w ha (hw.ent he)
theorem WQ_ent {e : Exit} {ψ : SP} (he : Ent Φ ψ) (h : WQ C e fr Γ (ψ :: Φ) Q) : WQ C e fr Γ Φ Q := fun a w ha hw => h a w ha (hw.ent he)
end
end Go.Hs
