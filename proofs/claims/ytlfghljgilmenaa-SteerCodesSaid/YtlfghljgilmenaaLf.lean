/-
  Contracts of functions, calls, loops, endings. No program is named here.
-/
import Derived.Test.YtlfghljgilmenaaLm
namespace Go.Hs
open Go Go.RowKit

/-- what a call leaves: for some outcome x: the value, the own things handed over, the lasting facts. -/
def FnPost (w : World) (O0 M : Nat → Prop) {X : Type} (pf : X → Prop) (ret : X → Value) (Γ' : X → List OA) (Φ' : X → List SP) : Ending → World → Prop :=
  fun e w' => ∃ x, pf x ∧ e = .returned (ret x) ∧ Mod M w w' ∧ Own (Γ' x) w' ∧ (∀ k, fpL (Γ' x) k → M k ∨ w.heap.size ≤ k) ∧ ∀ ψ ∈ Φ' x, ψ.p w' (avo O0 (Γ' x))

/-- a function's contract: called with args, where it is handed the own things Γ and the facts Φ hold. -/
def Ct (P : Program) (f : FuncId) (args : List Value) (Γ : List OA) (Φ : List SP) {X : Type} (pf : X → Prop) (ret : X → Value) (Γ' : X → List OA) (Φ' : X → List SP) : Prop :=
  ∀ w O0, (∀ k, O0 k → k < w.heap.size ∧ ¬ fpL Γ k) → Own Γ w → (∀ ψ ∈ Φ, ψ.p w (avo O0 Γ)) → Calls P f args.toArray w (FnPost w O0 (fpL Γ) pf ret Γ' Φ')

def argFr : Nat → List Value → Fr
  | _, [] => []
  | i, v :: r => (i, v) :: argFr (i + 1) r

theorem argFr_get : ∀ (l : List Value) (i t : Nat) (v : Value), fget (argFr i l) t = some v → i ≤ t ∧ l[t - i]? = some v
  | [], _, _, _, h => by cases h
  | u :: r, i, t, v, h => by
    rw [argFr, fget_cons] at h
    by_cases e : i = t
    · subst e
      simp at h
      subst h
      simp
    · rw [if_neg e] at h
      obtain ⟨h1, h2⟩ := argFr_get r (i + 1) t v h
      refine ⟨by omega, ?_⟩
      rw [show t - i = (t - (i + 1)) + 1 from by omega]
      simpa using h2

theorem Ct_intro {P : Program} {f : FuncId} {fn : Func} {c : Code} {args : List Value} {Γ : List OA} {Φ : List SP} {X : Type} {pf : X → Prop} {ret : X → Value} {Γ' : X → List OA} {Φ' : X → List SP} {n : Nat}
    (hf : P.funcs[f]? = some fn) (hb : fn.body = some c) (hn : fn.ntmps = n) (hl : args.length ≤ n) (fr : Fr) (hfr : listO (argFr 0 args) = some fr)
    (h : ∀ w0 O0, W ⟨P, n, w0, O0, fpL Γ, none, []⟩ c fr Γ Φ (bodyPost P fn (FnPost w0 O0 (fpL Γ) pf ret Γ' Φ'))) : Ct P f args Γ Φ pf ret Γ' Φ' := by
  intro w O0 hO ho hΦ
  have hfr := listO_eq hfr
  refine calls_of_wp hf hb (wpIn_wide.1 (h w O0 _ w ⟨rfl, ?_, fun t v hv => ?_⟩ ⟨Mod.refl _ _, ho, fun k hk => .inl hk, hO, hΦ⟩))
  · subst hn
    simp
    omega
  · rw [← hfr] at hv
    obtain ⟨_, h2⟩ := argFr_get args 0 t v hv
    rw [Nat.sub_zero] at h2
    have hlt : t < args.length := (List.getElem?_eq_some_iff.1 h2).1
    have h3 := (List.getElem?_eq_some_iff.1 h2).2
    simp [Array.getElem?_append, hlt, h3]

section
variable {C : Ctx} {ops : Array Oper} {l : List Oper} {fr : Fr} {Γ Γ1 : List OA} {Φ : List SP} {Q : Exit → Act → World → Prop}
  {d : Nat} {ty : TypeId} {pos : String} {aft : Array Edge} {g : Option (Nat × Bool)}

theorem avo_append {O0 : Nat → Prop} {Γ Δ : List OA} {k : Nat} : avo O0 (Γ ++ Δ) k ↔ avo (avo O0 Δ) Γ k := by
  unfold avo
  rw [fpL_append]
  constructor
  · rintro (h | h | h)
    · exact .inl (.inl h)
    · exact .inr h
    · exact .inl (.inr h)
  · rintro ((h | h) | h)
    · exact .inl h
    · exact .inr (.inr h)
    · exact .inr (.inl h)

theorem E_callG {dst : Option Tmp} {callee : Operand} {fn : FuncId} {first captured : Array Value} {args : List Operand} {argTypes : Array TypeId} {vs as : List Value}
    {Γp Γr : List OA} {Φp : List SP} {X : Type} {pf : X → Prop} {ret : X → Value} {Γ' : X → List OA} {Φ' : X → List SP} {Γ'' : X → List OA} {Φ'' : X → List SP}
    (hc : evO fr callee = some (.func (.func fn) first captured)) (ha : evOs fr args = some vs) (has : first.toList ++ vs ++ captured.toList = as)
    (hrun : ∀ (as : Array Value) (w : World), (callFunc fn as).run C.P w = .ok (.enter fn as) w)
    (hfn : Ct C.P fn as Γp Φp pf ret Γ' Φ')
    (hp : Γ.Perm (Γp ++ Γr)) (hin : AllE Φp Φ) (hΓ : ∀ x, Γ' x ++ Γr = Γ'' x) (hΦ : ∀ x, Φ' x ++ Φ = Φ'' x) :
    Effs C fr Γ Φ ⟨dst, .call { callee := .value callee, args := args.toArray, argTypes := argTypes }, ty, pos, aft, g⟩ pf ret Γ'' Φ'' := by
  subst has
  refine ⟨fun x ψ hψ => by rw [← hΦ]; exact List.mem_append.2 (.inr hψ), fun R a w hfa hw => ?_⟩
  have hw' := hw.perm (hp.append_right R)
  rw [List.append_assoc] at hw'
  obtain ⟨ho1, ho2, ho3⟩ := Own.append.1 hw'.own
  have hO : ∀ k, avo C.O0 (Γr ++ R) k → k < w.heap.size ∧ ¬ fpL Γp k := fun k hk => by
    rcases hk with hk | hk
    · have h1 := hw'.o0 k hk
      refine ⟨Nat.lt_of_lt_of_le h1.1 hw'.mod.size, fun hn => ?_⟩
      rcases hw'.ofp k (fpL_append.2 (.inl hn)) with h2 | h2
      · exact h1.2 h2
      · omega
    · exact ⟨Own.lt ho2 hk, fun hn => ho3 k hn hk⟩
  have hcall := hfn w (avo C.O0 (Γr ++ R)) hO ho1 (fun ψ hψ => ψ.st (hin ψ hψ _ _ hw'.sp) (Mod.refl _ _) fun k _ hk => avo_append.2 hk)
  have hrun' : (execOp a.eval ⟨dst, .call { callee := .value callee, args := args.toArray, argTypes := argTypes }, ty, pos, aft, g⟩).run C.P w = .ok (.enter fn (first.toList ++ vs ++ captured.toList).toArray) w := by
    have e1 := evO_sound hfa hc
    have e2 := evOs_sound hfa ha
    simp only [execOp, resolve, e1, Deferred.ofValue, List.map_toArray, e2, Sem.run_bind, Sem.run_pure, Result.andThen_ok, invoke]
    rw [hrun]
    congr 2
    apply Array.ext'
    simp
  rw [hrun']
  show Calls _ _ _ _ _
  refine hcall.mono fun e w1 ⟨x, hx, he, hm, ho, hf, hs⟩ => ⟨_, he, x, hx, rfl, ?_⟩
  have hdis : ∀ k, fpL (Γ' x) k → ¬ fpL (Γr ++ R) k := fun k hk hn => by
    rcases hf k hk with h1 | h1
    · exact ho3 k h1 hn
    · have := Own.lt ho2 hn
      omega
  have hmove : Holds C (Γ' x ++ (Γr ++ R)) Φ w1 := by
    refine hw'.move (hm.mono fun k _ hk => fpL_append.2 (.inl hk)) (Own.append.2 ⟨ho, ho2.keep fun k hlt hk => hm.block k hlt fun hn => ho3 k hn hk, hdis⟩) fun k hlt hk => ?_
    rcases fpL_append.1 hk with hk | hk
    · rcases hf k hk with h1 | h1
      · exact fpL_append.2 (.inl h1)
      · omega
    · exact fpL_append.2 (.inr hk)
  rw [← hΓ, ← hΦ, List.append_assoc]
  refine ⟨hmove.mod, hmove.own, hmove.ofp, hmove.o0, fun ψ hψ => ?_⟩
  rcases List.mem_append.1 hψ with hψ | hψ
  · exact ψ.st (hs ψ hψ) (Mod.refl _ _) fun k _ hk => avo_append.1 hk
  · exact hmove.sp ψ hψ

/-- the usual call: nothing own is handed over. -/
theorem E_call {dst : Option Tmp} {f : FuncId} {args : List Operand} {argTypes : Array TypeId} {vs : List Value}
    {Φp : List SP} {X : Type} {pf : X → Prop} {ret : X → Value} {Γ' : X → List OA} {Φ' : X → List SP} {Γ'' : X → List OA} {Φ'' : X → List SP}
    (ha : evOs fr args = some vs)
    (hrun : ∀ (as : Array Value) (w : World), (callFunc f as).run C.P w = .ok (.enter f as) w)
    (hfn : Ct C.P f vs [] Φp pf ret Γ' Φ') (hin : AllE Φp Φ) (hΓ : ∀ x, appO (Γ' x) Γ = some (Γ'' x)) (hΦ : ∀ x, appO (Φ' x) Φ = some (Φ'' x)) :
    Effs C fr Γ Φ ⟨dst, .call { callee := .value (.func f), args := args.toArray, argTypes := argTypes }, ty, pos, aft, g⟩ pf ret Γ'' Φ'' :=
  E_callG (first := #[]) (captured := #[]) (Γp := []) (Γr := Γ) rfl ha (by simp) hrun hfn (.refl _) hin (fun x => appO_eq (hΓ x)) (fun x => appO_eq (hΦ x))

/-- a call that is handed own things (Γp), the rest stays (Γr). -/
theorem E_callO {dst : Option Tmp} {f : FuncId} {args : List Operand} {argTypes : Array TypeId} {vs : List Value} {Γp Γr : List OA}
    {Φp : List SP} {X : Type} {pf : X → Prop} {ret : X → Value} {Γ' : X → List OA} {Φ' : X → List SP} {Γ'' : X → List OA} {Φ'' : X → List SP}
    (ha : evOs fr args = some vs)
    (hrun : ∀ (as : Array Value) (w : World), (callFunc f as).run C.P w = .ok (.enter f as) w)
    (hfn : Ct C.P f vs Γp Φp pf ret Γ' Φ') (hp : Γ.Perm (Γp ++ Γr)) (hin : AllE Φp Φ) (hΓ : ∀ x, appO (Γ' x) Γr = some (Γ'' x)) (hΦ : ∀ x, appO (Φ' x) Φ = some (Φ'' x)) :
    Effs C fr Γ Φ ⟨dst, .call { callee := .value (.func f), args := args.toArray, argTypes := argTypes }, ty, pos, aft, g⟩ pf ret Γ'' Φ'' :=
  E_callG (first := #[]) (captured := #[]) rfl ha (by simp) hrun hfn hp hin (fun x => appO_eq (hΓ x)) (fun x => appO_eq (hΦ x))

/-- a contract whose value is settled. -/
abbrev CtD (P : Program) (f : FuncId) (args : List Value) (Φ : List SP) (v : Value) : Prop :=
  Ct P f args [] Φ (X := Unit) (fun _ => True) (fun _ => v) (fun _ => []) (fun _ => [])

theorem R_callG {dst : Option Tmp} {callee : Operand} {fn : FuncId} {first captured : Array Value} {args : List Operand} {argTypes : Array TypeId} {vs as : List Value} {Φp : List SP} {v : Value}
    (hc : evO fr callee = some (.func (.func fn) first captured)) (ha : evOs fr args = some vs) (has : first.toList ++ vs ++ captured.toList = as)
    (hrun : ∀ (as : Array Value) (w : World), (callFunc fn as).run C.P w = .ok (.enter fn as) w)
    (hfn : CtD C.P fn as Φp v) (hin : AllE Φp Φ) :
    Runs C fr Γ Φ ⟨dst, .call { callee := .value callee, args := args.toArray, argTypes := argTypes }, ty, pos, aft, g⟩ v := by
  intro a w hfa hw
  subst has
  have hO : ∀ k, avo C.O0 Γ k → k < w.heap.size ∧ ¬ fpL [] k := fun k hk => by
    refine ⟨?_, fun ⟨_, hx, _⟩ => by cases hx⟩
    rcases hk with hk | hk
    · exact Nat.lt_of_lt_of_le (hw.o0 k hk).1 hw.mod.size
    · exact Own.lt hw.own hk
  have hcall := hfn w (avo C.O0 Γ) hO trivial (fun ψ hψ => ψ.st (hin ψ hψ _ _ hw.sp) (Mod.refl _ _) fun k _ hk => hk.elim id fun ⟨_, hx, _⟩ => by cases hx)
  have hrun' : (execOp a.eval ⟨dst, .call { callee := .value callee, args := args.toArray, argTypes := argTypes }, ty, pos, aft, g⟩).run C.P w = .ok (.enter fn (first.toList ++ vs ++ captured.toList).toArray) w := by
    have e1 := evO_sound hfa hc
    have e2 := evOs_sound hfa ha
    simp only [execOp, resolve, e1, Deferred.ofValue, List.map_toArray, e2, Sem.run_bind, Sem.run_pure, Result.andThen_ok, invoke]
    rw [hrun]
    congr 2
    apply Array.ext'
    simp
  rw [hrun']
  show Calls _ _ _ _ _
  exact hcall.mono fun e w1 ⟨_, _, he, hm, _⟩ => ⟨_, he, rfl, hm.mono fun k _ ⟨_, hx, _⟩ => by cases hx⟩

theorem R_call {dst : Option Tmp} {f : FuncId} {args : List Operand} {argTypes : Array TypeId} {vs : List Value} {Φp : List SP} {v : Value} (ha : evOs fr args = some vs)
    (hrun : ∀ (as : Array Value) (w : World), (callFunc f as).run C.P w = .ok (.enter f as) w) (hfn : CtD C.P f vs Φp v) (hin : AllE Φp Φ) :
    Runs C fr Γ Φ ⟨dst, .call { callee := .value (.func f), args := args.toArray, argTypes := argTypes }, ty, pos, aft, g⟩ v :=
  R_callG (first := #[]) (captured := #[]) rfl ha (by simp) hrun hfn hin

/-- a loop: what holds at every round's head is said of a thing x; the measure is of x. -/
theorem W_loop {c : Code} {X : Type} (I : X → Prop) (F : X → Fr) (G : X → List OA) (H : X → List SP) (μ : X → Nat) (x0 : X) (hI : I x0)
    (h0 : WQ C .normal fr Γ Φ (fun _ a w => fok C (F x0) a ∧ Holds C (G x0) (H x0) w))
    (round : ∀ x, I x → W C c (F x) (G x) (H x) (Exit.then (fun a w => ∃ x', I x' ∧ μ x' < μ x ∧ fok C (F x') a ∧ Holds C (G x') (H x') w) Q)) : W C (.loop c) fr Γ Φ Q := by
  intro a w ha hw b k cs hro hb hr
  have key : ∀ n x a w, I x → μ x = n → fok C (F x) a → Holds C (G x) (H x) w →
      ∃ e a' w', Q e a' w' ∧ ArrivesIn (Machine.fenced C.P (fenceOf C.rd)) C.P (lone (b.atR a (.code c :: .inLoop c :: k)) cs w) b k cs e a' w' := by
    intro n
    induction n using Nat.strongRecOn with
    | _ n ih =>
      intro x a w hi hn hfa hh
      obtain ⟨e, a₁, w₁, hq, harr⟩ := round x hi a w hfa hh b (.inLoop c :: k) cs hro hb hr
      cases e with
      | normal =>
        obtain ⟨x', hi', hlt, hfa', hh'⟩ := hq
        obtain ⟨e₂, a₂, w₂, hq₂, harr₂⟩ := ih (μ x') (hn ▸ hlt) x' a₁ w₁ hi' rfl hfa' hh'
        exact ⟨e₂, a₂, w₂, hq₂, .of_steps (StepsIn.trans harr (.one (fenced_calm hb hr rfl) stepR_inLoop)) harr₂⟩
      | exit id => exact ⟨_, a₁, w₁, hq, .pass (x := .inLoop c) rfl (fun _ _ => .inl (by simp)) harr⟩
      | goto l => exact ⟨_, a₁, w₁, hq, .pass (x := .inLoop c) rfl (fun _ _ => .inl (by simp)) harr⟩
      | ret => exact ⟨_, a₁, w₁, hq, .pass (x := .inLoop c) rfl (fun _ _ => .inl (by simp)) harr⟩
      | panic ch => exact ⟨_, a₁, w₁, hq, .pass (x := .inLoop c) rfl (fun _ _ => .inl (by simp)) harr⟩
      | outgrown => exact ⟨_, a₁, w₁, hq, .pass (x := .inLoop c) rfl (fun _ _ => .inl (by simp)) harr⟩
  obtain ⟨hfa, hh⟩ := h0 a w ha hw
  obtain ⟨e, a', w', hq, harr⟩ := key _ x0 a w hI rfl hfa hh
  exact ⟨e, a', w', hq, .of_steps (.one (fenced_calm hb hr rfl) stepR_loop) harr⟩

/-- the frame knows all of fr'. -/
def FrIn (fr fr' : Fr) : Prop := ∀ t v, fget fr' t = some v → fget fr t = some v
theorem FrIn.nil (fr : Fr) : FrIn fr [] := fun _ _ h => by cases h
theorem FrIn.cons {t : Nat} {v v' : Value} {fr fr' : Fr} (h : fget fr t = some v') (e : v' = v) (k : FrIn fr fr') : FrIn fr ((t, v) :: fr') := fun s u hu => by
  rw [fget_cons] at hu
  by_cases e' : t = s
  · subst e'
    rw [if_pos rfl] at hu
    injection hu with hu
    subst hu
    subst e
    exact h
  · rw [if_neg e'] at hu
    exact k s u hu

theorem fok.sub {C : Ctx} {fr fr' : Fr} {a : Act} (h : fok C fr a) (hs : FrIn fr fr') : fok C fr' a := ⟨h.1, h.2.1, fun t v hv => h.2.2 t v (hs t v hv)⟩

/-- the state at hand fits what is wanted. -/
theorem WQ_fit {e : Exit} {fr' : Fr} {Γ' : List OA} {Φ' : List SP} (h1 : FrIn fr fr') (h2 : SubO Γ Γ') (h3 : AllE Φ' Φ) : WQ C e fr Γ Φ (fun _ a w => fok C fr' a ∧ Holds C Γ' Φ' w) :=
  fun _ _ ha hw => ⟨ha.sub h1, (hw.subOwn h2).allE h3⟩

theorem WQ_again {X : Type} {I : X → Prop} {F : X → Fr} {G : X → List OA} {H : X → List SP} {μ : X → Nat} {m : Nat} (x : X) (hi : I x) (hμ : μ x < m) (h1 : FrIn fr (F x)) (h2 : SubO Γ (G x)) (h3 : AllE (H x) Φ) :
    WQ C .normal fr Γ Φ (Exit.then (fun a w => ∃ x', I x' ∧ μ x' < m ∧ fok C (F x') a ∧ Holds C (G x') (H x') w) Q) :=
  fun _ _ ha hw => ⟨x, hi, hμ, ha.sub h1, (hw.subOwn h2).allE h3⟩

/-- forget what is not wanted any more. -/
theorem W_weak {c : Code} (fr' : Fr) (Γ' : List OA) (Φ' : List SP) (h1 : FrIn fr fr') (h2 : SubO Γ Γ') (h3 : AllE Φ' Φ) (h : W C c fr' Γ' Φ' Q) : W C c fr Γ Φ Q :=
  fun a w ha hw => h a w (ha.sub h1) ((hw.subOwn h2).allE h3)

/-- where ways meet again: what holds there, said of a thing x. -/
theorem W_cut {x y : Code} {X : Type} (I : X → Prop) (F : X → Fr) (G : X → List OA) (H : X → List SP)
    (h : W C x fr Γ Φ (Exit.then (fun a w => ∃ z, I z ∧ fok C (F z) a ∧ Holds C (G z) (H z) w) Q)) (k : ∀ z, I z → W C y (F z) (G z) (H z) Q) : W C (.seq x y) fr Γ Φ Q := by
  intro a w ha hw
  refine wpIn_seq (wpIn_mono (h a w ha hw) fun e a' w' he => ?_)
  cases e <;> first | exact he | (obtain ⟨z, h0, h1, h2⟩ := he; exact k z h0 a' w' h1 h2)

theorem WQ_meet {X : Type} {I : X → Prop} {F : X → Fr} {G : X → List OA} {H : X → List SP} (z : X) (hi : I z) (h1 : FrIn fr (F z)) (h2 : SubO Γ (G z)) (h3 : AllE (H z) Φ) :
    WQ C .normal fr Γ Φ (Exit.then (fun a w => ∃ z, I z ∧ fok C (F z) a ∧ Holds C (G z) (H z) w) Q) :=
  fun _ _ ha hw => ⟨z, hi, ha.sub h1, (hw.subOwn h2).allE h3⟩

-- ===== more knowledge =====

theorem W_fact {c : Code} {ψ : SP} (hψ : ∀ w, Holds C Γ Φ w → ψ.p w (avo C.O0 Γ)) (h : W C c fr Γ (ψ :: Φ) Q) : W C c fr Γ Φ Q := fun a w ha hw => h a w ha (hw.cons (hψ w hw))
theorem WL_fact {ψ : SP} (hψ : ∀ w, Holds C Γ Φ w → ψ.p w (avo C.O0 Γ)) (h : WL C ops l fr Γ (ψ :: Φ) Q) : WL C ops l fr Γ Φ Q := fun a w ha hw => h a w ha (hw.cons (hψ w hw))
theorem WQ_fact {e : Exit} {ψ : SP} (hψ : ∀ w, Holds C Γ Φ w → ψ.p w (avo C.O0 Γ)) (h : WQ C e fr Γ (ψ :: Φ) Q) : WQ C e fr Γ Φ Q := fun a w ha hw => h a w ha (hw.cons (hψ w hw))

theorem WQ_letgoB {e : Exit} {v : Value} {t : TypeId} {n : Nat} {xs : List Value} {bs : List UInt8} (hp : Pick (.row v t 1 n xs) Γ Γ1) (hx : xs = bs.map bcell) (h : WQ C e fr Γ1 (By v bs :: Φ) Q) : WQ C e fr Γ Φ Q :=
  fun a w ha hw => h a w ha ((pick_holds hp hw).letgoB hx)
theorem WL_letgoB {v : Value} {t : TypeId} {n : Nat} {xs : List Value} {bs : List UInt8} (hp : Pick (.row v t 1 n xs) Γ Γ1) (hx : xs = bs.map bcell) (h : WL C ops l fr Γ1 (By v bs :: Φ) Q) : WL C ops l fr Γ Φ Q :=
  fun a w ha hw => h a w ha ((pick_holds hp hw).letgoB hx)
theorem W_letgoB {c : Code} {v : Value} {t : TypeId} {n : Nat} {xs : List Value} {bs : List UInt8} (hp : Pick (.row v t 1 n xs) Γ Γ1) (hx : xs = bs.map bcell) (h : W C c fr Γ1 (By v bs :: Φ) Q) : W C c fr Γ Φ Q :=
  fun a w ha hw => h a w ha ((pick_holds hp hw).letgoB hx)

-- ===== endings =====

def rvRun (tmps : Array Value) : ResultVar → Sem Value
  | .tmp t => pure (tmps.getD t undef)
  | .cell a t => do loadVar t (← asAddr (tmps.getD a undef))

/-- what a result slot holds at the end. -/
def RV (C : Ctx) (fr : Fr) (Γ : List OA) (Φ : List SP) (r : ResultVar) (v : Value) : Prop :=
  ∀ a w, fok C fr a → Holds C Γ Φ w → (rvRun a.tmps r).run C.P w = .ok v w

theorem RV_tmp {t : Nat} {v : Value} (h : fget fr t = some v) : RV C fr Γ Φ (.tmp t) v := fun a w ha _ => by
  have := ha.2.2 t v h
  show (Pure.pure (a.tmps.getD t undef) : Sem Value).run C.P w = _
  rw [this]
  rfl

theorem RV_cell1 {t b : Nat} {ty bt : TypeId} {cs : List Value} {v : Value} (h : fget fr t = some (.pointer (some ⟨b, 0, none⟩))) (hp : Pick (.blk b bt cs) Γ Γ1) (hagg : ∀ w, (isAgg ty).run C.P w = .ok false w) (hc : cs[0]? = some v) :
    RV C fr Γ Φ (.cell t ty) v := fun a w ha hw => by
  have h1 := ha.2.2 t _ h
  have hb := (pick_holds hp hw).own.1
  have hl := run_loadVar_one (P := C.P) (w := w) (a := ⟨b, 0, none⟩) hagg ((blk_cell hb 0).trans hc)
  simp only [rvRun, h1, asAddr, Sem.run_bind, Sem.run_pure, Result.andThen_ok, hl]

theorem RV_cellN {t b n : Nat} {ty bt : TypeId} {cs us : List Value} (h : fget fr t = some (.pointer (some ⟨b, 0, none⟩))) (hp : Pick (.blk b bt cs) Γ Γ1) (hagg : ∀ w, (isAgg ty).run C.P w = .ok true w)
    (hs : ∀ w, (sizeOf ty).run C.P w = .ok n w) (hc : takeN 0 n cs = some us) : RV C fr Γ Φ (.cell t ty) (.agg us.toArray) := fun a w ha hw => by
  have h1 := ha.2.2 t _ h
  have hb := (pick_holds hp hw).own.1
  obtain ⟨h3, h4⟩ := takeN_at hc
  have hl := run_loadVar_agg (P := C.P) (w := w) (t := ty) (a := ⟨b, 0, none⟩) (us := us) hagg (by rw [h3]; exact hs) (fun j u hu => by rw [Addr.add_lit, blk_cell hb]; exact h4 j u hu)
  simp only [rvRun, h1, asAddr, Sem.run_bind, Sem.run_pure, Result.andThen_ok, hl]

theorem results_run {fn : Func} {tmps : Array Value} : results fn tmps = (do let vs ← fn.results.mapM (rvRun tmps); pure (if h : vs.size = 1 then vs[0] else .tuple vs)) := by
  have : rvRun tmps = fun r => (match r with | .tmp t => pure (tmps.getD t undef) | .cell a t => do loadVar t (← asAddr (tmps.getD a undef)) : Sem Value) := by
    funext x
    cases x <;> rfl
  rw [this]
  rfl

theorem ret_end {P0 : Program} {n0 : Nat} {w0 : World} {O0 M0 : Nat → Prop} {rd0 : Option Nat} {fn : Func} {X : Type} {pf : X → Prop} {ret : X → Value} {Γ' : X → List OA} {Φ' : X → List SP} {e : Exit} (he : e = .ret ∨ e = .normal) (x : X) (hp : pf x)
    (hr : ∀ a w, fok ⟨P0, n0, w0, O0, M0, rd0, []⟩ fr a → Holds ⟨P0, n0, w0, O0, M0, rd0, []⟩ Γ Φ w → (results fn a.tmps).run P0 w = .ok (ret x) w) (h2 : SubO Γ (Γ' x)) (h3 : AllE (Φ' x) Φ) :
    WQ ⟨P0, n0, w0, O0, M0, rd0, []⟩ e fr Γ Φ (bodyPost P0 fn (FnPost w0 O0 M0 pf ret Γ' Φ')) := by
  intro a w ha hw
  have hw' := (hw.subOwn h2).allE h3
  have : FnPost w0 O0 M0 pf ret Γ' Φ' (.returned (ret x)) w := ⟨x, hp, rfl, hw'.mod, hw'.own, hw'.ofp, hw'.sp⟩
  rcases he with rfl | rfl
  · exact ⟨ha.1, _, hr a w ha hw, this⟩
  · exact ⟨ha.1, _, hr a w ha hw, this⟩

theorem ret1 {P0 : Program} {n0 : Nat} {w0 : World} {O0 M0 : Nat → Prop} {rd0 : Option Nat} {fn : Func} {X : Type} {pf : X → Prop} {ret : X → Value} {Γ' : X → List OA} {Φ' : X → List SP} {r1 : ResultVar} {v1 : Value} (hres : fn.results = #[r1]) (x : X) (hp : pf x)
    (h1 : RV ⟨P0, n0, w0, O0, M0, rd0, []⟩ fr Γ Φ r1 v1) (hv : v1 = ret x) (h2 : SubO Γ (Γ' x)) (h3 : AllE (Φ' x) Φ) : WQ ⟨P0, n0, w0, O0, M0, rd0, []⟩ .ret fr Γ Φ (bodyPost P0 fn (FnPost w0 O0 M0 pf ret Γ' Φ')) :=
  ret_end (.inl rfl) x hp (fun a w ha hw => by subst hv; rw [results_run, hres]; simp [h1 a w ha hw]) h2 h3
theorem ret2 {P0 : Program} {n0 : Nat} {w0 : World} {O0 M0 : Nat → Prop} {rd0 : Option Nat} {fn : Func} {X : Type} {pf : X → Prop} {ret : X → Value} {Γ' : X → List OA} {Φ' : X → List SP} {r1 r2 : ResultVar} {v1 v2 : Value} (hres : fn.results = #[r1, r2]) (x : X) (hp : pf x)
    (h1 : RV ⟨P0, n0, w0, O0, M0, rd0, []⟩ fr Γ Φ r1 v1) (h1' : RV ⟨P0, n0, w0, O0, M0, rd0, []⟩ fr Γ Φ r2 v2) (hv : .tuple #[v1, v2] = ret x) (h2 : SubO Γ (Γ' x)) (h3 : AllE (Φ' x) Φ) : WQ ⟨P0, n0, w0, O0, M0, rd0, []⟩ .ret fr Γ Φ (bodyPost P0 fn (FnPost w0 O0 M0 pf ret Γ' Φ')) :=
  ret_end (.inl rfl) x hp (fun a w ha hw => by rw [← hv, results_run, hres]; simp [h1 a w ha hw, h1' a w ha hw]) h2 h3
theorem ret3 {P0 : Program} {n0 : Nat} {w0 : World} {O0 M0 : Nat → Prop} {rd0 : Option Nat} {fn : Func} {X : Type} {pf : X → Prop} {ret : X → Value} {Γ' : X → List OA} {Φ' : X → List SP} {r1 r2 r3 : ResultVar} {v1 v2 v3 : Value} (hres : fn.results = #[r1, r2, r3]) (x : X) (hp : pf x)
    (h1 : RV ⟨P0, n0, w0, O0, M0, rd0, []⟩ fr Γ Φ r1 v1) (h1' : RV ⟨P0, n0, w0, O0, M0, rd0, []⟩ fr Γ Φ r2 v2) (h1'' : RV ⟨P0, n0, w0, O0, M0, rd0, []⟩ fr Γ Φ r3 v3) (hv : .tuple #[v1, v2, v3] = ret x) (h2 : SubO Γ (Γ' x)) (h3 : AllE (Φ' x) Φ) :
    WQ ⟨P0, n0, w0, O0, M0, rd0, []⟩ .ret fr Γ Φ (bodyPost P0 fn (FnPost w0 O0 M0 pf ret Γ' Φ')) :=
  ret_end (.inl rfl) x hp (fun a w ha hw => by rw [← hv, results_run, hres]; simp [h1 a w ha hw, h1' a w ha hw, h1'' a w ha hw]) h2 h3
theorem ret4 {P0 : Program} {n0 : Nat} {w0 : World} {O0 M0 : Nat → Prop} {rd0 : Option Nat} {fn : Func} {X : Type} {pf : X → Prop} {ret : X → Value} {Γ' : X → List OA} {Φ' : X → List SP} {r1 r2 r3 r4 : ResultVar} {v1 v2 v3 v4 : Value} (hres : fn.results = #[r1, r2, r3, r4]) (x : X) (hp : pf x)
    (h1 : RV ⟨P0, n0, w0, O0, M0, rd0, []⟩ fr Γ Φ r1 v1) (h1' : RV ⟨P0, n0, w0, O0, M0, rd0, []⟩ fr Γ Φ r2 v2) (h1'' : RV ⟨P0, n0, w0, O0, M0, rd0, []⟩ fr Γ Φ r3 v3) (h1''' : RV ⟨P0, n0, w0, O0, M0, rd0, []⟩ fr Γ Φ r4 v4) (hv : .tuple #[v1, v2, v3, v4] = ret x) (h2 : SubO Γ (Γ' x)) (h3 : AllE (Φ' x) Φ) :
    WQ ⟨P0, n0, w0, O0, M0, rd0, []⟩ .ret fr Γ Φ (bodyPost P0 fn (FnPost w0 O0 M0 pf ret Γ' Φ')) :=
  ret_end (.inl rfl) x hp (fun a w ha hw => by rw [← hv, results_run, hres]; simp [h1 a w ha hw, h1' a w ha hw, h1'' a w ha hw, h1''' a w ha hw]) h2 h3
theorem ret0 {P0 : Program} {n0 : Nat} {w0 : World} {O0 M0 : Nat → Prop} {rd0 : Option Nat} {fn : Func} {X : Type} {pf : X → Prop} {ret : X → Value} {Γ' : X → List OA} {Φ' : X → List SP} {e : Exit} (he : e = .ret ∨ e = .normal) (hres : fn.results = #[]) (x : X) (hp : pf x)
    (hv : .tuple #[] = ret x) (h2 : SubO Γ (Γ' x)) (h3 : AllE (Φ' x) Φ) : WQ ⟨P0, n0, w0, O0, M0, rd0, []⟩ e fr Γ Φ (bodyPost P0 fn (FnPost w0 O0 M0 pf ret Γ' Φ')) :=
  ret_end he x hp (fun a w ha hw => by rw [← hv, results_run, hres]; simp) h2 h3

end
end Go.Hs
