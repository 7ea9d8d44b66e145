/-
  A range over a function: the loop's own walk, the function's, and where it ends. No program is named here.
-/
import Derived.Test.YtlfghljgilmenaaLe
import Derived.RangeFuncLeaves
namespace Go.Hs
open Go Go.RowKit

/-- several own things as one. -/
def pk (Γ : List OA) : OA := .abs ⟨fpL Γ, Own Γ, fun h => Own.lt h, fun h k => h.keep k⟩
theorem pk_fp (Γ : List OA) (k : Nat) : (pk Γ).fp k ↔ fpL Γ k := Iff.rfl

/-- a block that is no cells. -/
def ob (b : Nat) (o : Obj) : OA := .abs ⟨fun k => k = b, fun w => w.heap[b]? = some o, fun h _ e => by subst e; exact (Array.getElem?_eq_some_iff.1 h).1, fun h hk => (hk b (Array.getElem?_eq_some_iff.1 h).1 rfl).trans h⟩
theorem ob_fp (b : Nat) (o : Obj) (k : Nat) : (ob b o).fp k ↔ k = b := Iff.rfl

/-- several lasting facts as one. -/
def cj (Φ : List SP) : SP := ⟨fun w O => ∀ ψ ∈ Φ, ψ.p w O, fun h hm ho ψ hψ => ψ.st (h ψ hψ) hm ho⟩

theorem Own.pk {Γ Δ : List OA} {w : World} : Own (pk Γ :: Δ) w ↔ Own (Γ ++ Δ) w := by
  rw [Own.append]
  constructor
  · rintro ⟨h1, h2, h3⟩
    exact ⟨h1, h3, h2⟩
  · rintro ⟨h1, h2, h3⟩
    exact ⟨h1, h3, h2⟩
theorem fpL_pk {Γ Δ : List OA} {k : Nat} : fpL (pk Γ :: Δ) k ↔ fpL (Γ ++ Δ) k := by
  rw [fpL_cons, fpL_append]
  exact Iff.rfl

/-- what a call of yield comes to: with these arguments, where it is handed Γ and Φ holds. -/
def Yc (P : Program) (l : Nat) (args : List Value) (Γ : List OA) (Φ : List SP) {X : Type} (pf : X → Prop) (ret : X → Value) (Γ' : X → List OA) (Φ' : X → List SP) : Prop :=
  ∀ w O0, (∀ k, O0 k → k < w.heap.size ∧ ¬ fpL Γ k) → Own Γ w → (∀ ψ ∈ Φ, ψ.p w (avo O0 Γ)) →
    ∃ fn tmps assign body, (Instr.yield l args.toArray).run P w = .ok (.round l fn tmps assign body) w ∧ RoundIn Fence.wide 0 P l fn tmps assign body w (FnPost w O0 (fpL Γ) pf ret Γ' Φ')

section
variable {C : Ctx} {fr : Fr} {Γ : List OA} {Φ : List SP} {ty : TypeId} {pos : String} {aft : Array Edge} {g : Option (Nat × Bool)}

theorem E_yield {dst : Option Tmp} {callee : Operand} {l : Nat} {args : List Operand} {argTypes : Array TypeId} {vs : List Value}
    {Γp Γr : List OA} {Φp : List SP} {X : Type} {pf : X → Prop} {ret : X → Value} {Γ' : X → List OA} {Φ' : X → List SP} {Γ'' : X → List OA} {Φ'' : X → List SP}
    (hc : evO fr callee = some (.func (.yield l) #[] #[])) (ha : evOs fr args = some vs)
    (hfn : Yc C.P l vs Γp Φp pf ret Γ' Φ')
    (hp : Γ.Perm (Γp ++ Γr)) (hin : AllE Φp Φ) (hΓ : ∀ x, Γ' x ++ Γr = Γ'' x) (hΦ : ∀ x, Φ' x ++ Φ = Φ'' x) :
    Effs C fr Γ Φ ⟨dst, .call { callee := .value callee, args := args.toArray, argTypes := argTypes }, ty, pos, aft, g⟩ pf ret Γ'' Φ'' := by
  refine ⟨fun x ψ hψ => by rw [← hΦ]; exact List.mem_append.2 (.inr hψ), fun R a w hfa hw => ?_⟩
  have hw' := hw.perm (hp.append_right R)
  rw [List.append_assoc] at hw'
  obtain ⟨ho1, ho2, ho3⟩ := Own.append.1 hw'.own
  have hO : ∀ k, avo C.O0 (Γr ++ R) k → k < w.heap.size ∧ ¬ fpL Γp k := fun k hk => by
    rcases hk with hk | hk
    · have h1 := hw'.o0 k hk
      refine ⟨Nat.lt_of_lt_of_le h1.1 hw'.mod.size, fun hn => ?_⟩
      rcases hw'.ofp k (fpL_append.2 (.inl hn)) with h2 | h2
      · exact h1.2 h2
      · omega
    · exact ⟨Own.lt ho2 hk, fun hn => ho3 k hn hk⟩
  obtain ⟨fn, tmps, assign, body, hy, hcall⟩ := hfn w (avo C.O0 (Γr ++ R)) hO ho1 (fun ψ hψ => ψ.st (hin ψ hψ _ _ hw'.sp) (Mod.refl _ _) fun k _ hk => avo_append.2 hk)
  have hrun' : (execOp a.eval ⟨dst, .call { callee := .value callee, args := args.toArray, argTypes := argTypes }, ty, pos, aft, g⟩).run C.P w = .ok (.round l fn tmps assign body) w := by
    have e1 := evO_sound hfa hc
    have e2 := evOs_sound hfa ha
    simp only [execOp, resolve, e1, Deferred.ofValue, List.map_toArray, e2, Sem.run_bind, Sem.run_pure, Result.andThen_ok, invoke]
    rw [show (#[] : Array Value) ++ vs.toArray = vs.toArray by simp]
    exact hy
  rw [hrun']
  show RoundIn _ _ _ _ _ _ _ _ _ _
  refine hcall.mono fun e w1 ⟨x, hx, he, hm, ho, hf, hs⟩ => ⟨_, he, x, hx, rfl, ?_⟩
  have hdis : ∀ k, fpL (Γ' x) k → ¬ fpL (Γr ++ R) k := fun k hk hn => by
    rcases hf k hk with h1 | h1
    · exact ho3 k h1 hn
    · have := Own.lt ho2 hn
      omega
  have hmove : Holds C (Γ' x ++ (Γr ++ R)) Φ w1 := by
    refine hw'.move (hm.mono fun k _ hk => fpL_append.2 (.inl hk)) (Own.append.2 ⟨ho, ho2.keep fun k hlt hk => hm.block k hlt fun hn => ho3 k hn hk, hdis⟩) fun k hlt hk => ?_
    rcases fpL_append.1 hk with hk | hk
    · rcases hf k hk with h1 | h1
      · exact fpL_append.2 (.inl h1)
      · omega
    · exact fpL_append.2 (.inr hk)
  rw [← hΓ, ← hΦ, List.append_assoc]
  refine ⟨hmove.mod, hmove.own, hmove.ofp, hmove.o0, fun ψ hψ => ?_⟩
  rcases List.mem_append.1 hψ with hψ | hψ
  · exact ψ.st (hs ψ hψ) (Mod.refl _ _) fun k _ hk => avo_append.1 hk
  · exact hmove.sp ψ hψ
end

-- ===== moves of memory at a block that is no cells =====

theorem heap_alloc_new' (w : World) (o : Obj) : (w.alloc o).heap[w.heap.size]? = some o := heap_alloc_new w o

section
variable {C : Ctx} {Γ Δ : List OA} {Φ : List SP}
theorem Holds.allocO {w : World} (h : Holds C Γ Φ w) (o : Obj) : Holds C (ob w.heap.size o :: Γ) Φ (w.alloc o) := by
  refine h.move (Mod.alloc _ w _) ⟨heap_alloc_new w o, fun k hk hn => ?_, h.own.keep fun _ hk _ => heap_alloc_old w _ hk⟩ fun k hk hk' => ?_
  · have hk : k = w.heap.size := hk
    have := Own.lt h.own hn
    omega
  · rcases fpL_cons.1 hk' with hk' | hk'
    · have hk' : k = w.heap.size := hk'
      omega
    · exact hk'
theorem Holds.putO {w : World} {l : Nat} {o : Obj} (h : Holds C (ob l o :: Γ) Φ w) (o' : Obj) : Holds C (ob l o' :: Γ) Φ (w.putObj l o') := by
  have hl : l < w.heap.size := (Array.getElem?_eq_some_iff.1 (show w.heap[l]? = some o from h.own.1)).1
  have hother : ∀ k, k ≠ l → (w.putObj l o').heap[k]? = w.heap[k]? := fun k hk => World.putObj_heap_other hk
  refine h.move ⟨rfl, rfl, rfl, by simp, fun k _ hn => hother k fun e => hn (fpL_cons.2 (.inl e))⟩ ⟨World.putObj_heap_same hl, h.own.2.1, h.own.2.2.keep fun k _ hk => hother k fun e => h.own.2.1 k e hk⟩
    fun k _ hk => by
      rcases fpL_cons.1 hk with e | e
      · exact fpL_cons.2 (.inl e)
      · exact fpL_cons.2 (.inr e)
theorem Holds.pack {w : World} (h : Holds C (Γ ++ Δ) Φ w) : Holds C (pk Γ :: Δ) Φ w :=
  h.move (Mod.refl _ _) (Own.pk.2 h.own) fun _ _ hk => fpL_pk.1 hk
theorem Holds.unpack {w : World} (h : Holds C (pk Γ :: Δ) Φ w) : Holds C (Γ ++ Δ) Φ w :=
  h.move (Mod.refl _ _) (Own.pk.1 h.own) fun _ _ hk => fpL_pk.2 hk
theorem Holds.ctx {C' : Ctx} {w : World} (h : Holds C Γ Φ w) (h1 : C'.w0 = C.w0) (h2 : C'.O0 = C.O0) (h3 : C'.M = C.M) : Holds C' Γ Φ w :=
  ⟨by rw [h1, h3]; exact h.mod, h.own, by rw [h1, h3]; exact h.ofp, by rw [h1, h2, h3]; exact h.o0, by rw [h2]; exact h.sp⟩
theorem Holds.facts {Ψ : List SP} {w : World} (h : Holds C Γ Φ w) (k : ∀ ψ ∈ Ψ, ψ.p w (avo C.O0 Γ)) : Holds C Γ Ψ w := ⟨h.mod, h.own, h.ofp, h.o0, k⟩
theorem ob_at {w : World} {l : Nat} {o : Obj} (h : Holds C (ob l o :: Γ) Φ w) : w.heap[l]? = some o := h.own.1

/-- a call, by what it leaves. -/
theorem call_holds {f : FuncId} {as : List Value} {Γp Γr : List OA} {Φp : List SP} {X : Type} {pf : X → Prop} {ret : X → Value} {Γ' : X → List OA} {Φ' : X → List SP} {w : World}
    (hfn : Ct C.P f as Γp Φp pf ret Γ' Φ') (hw : Holds C (Γp ++ Γr) Φ w) (hin : AllE Φp Φ) :
    Calls C.P f as.toArray w fun e w1 => ∃ x, pf x ∧ e = .returned (ret x) ∧ Holds C (Γ' x ++ Γr) (Φ' x ++ Φ) w1 := by
  obtain ⟨ho1, ho2, ho3⟩ := Own.append.1 hw.own
  have hO : ∀ k, avo C.O0 Γr k → k < w.heap.size ∧ ¬ fpL Γp k := fun k hk => by
    rcases hk with hk | hk
    · have h1 := hw.o0 k hk
      refine ⟨Nat.lt_of_lt_of_le h1.1 hw.mod.size, fun hn => ?_⟩
      rcases hw.ofp k (fpL_append.2 (.inl hn)) with h2 | h2
      · exact h1.2 h2
      · omega
    · exact ⟨Own.lt ho2 hk, fun hn => ho3 k hn hk⟩
  refine (hfn w (avo C.O0 Γr) hO ho1 (fun ψ hψ => ψ.st (hin ψ hψ _ _ hw.sp) (Mod.refl _ _) fun k _ hk => avo_append.2 hk)).mono fun e w1 ⟨x, hx, he, hm, ho, hf, hs⟩ => ⟨x, hx, he, ?_⟩
  have hdis : ∀ k, fpL (Γ' x) k → ¬ fpL Γr k := fun k hk hn => by
    rcases hf k hk with h1 | h1
    · exact ho3 k h1 hn
    · have := Own.lt ho2 hn
      omega
  have hmove : Holds C (Γ' x ++ Γr) Φ w1 := by
    refine hw.move (hm.mono fun k _ hk => fpL_append.2 (.inl hk)) (Own.append.2 ⟨ho, ho2.keep fun k hlt hk => hm.block k hlt fun hn => ho3 k hn hk, hdis⟩) fun k hlt hk => ?_
    rcases fpL_append.1 hk with hk | hk
    · rcases hf k hk with h1 | h1
      · exact fpL_append.2 (.inl h1)
      · omega
    · exact fpL_append.2 (.inr hk)
  refine hmove.facts fun ψ hψ => ?_
  rcases List.mem_append.1 hψ with hψ | hψ
  · exact ψ.st (hs ψ hψ) (Mod.refl _ _) fun k _ hk => avo_append.1 hk
  · exact hmove.sp ψ hψ
end

-- ===== the rounds =====

/-- the jump that a round leaves behind. -/
def jumpOf : Exit → Option (Option Code)
  | .normal => some none
  | .ret => some (some .ret)
  | .exit i => some (some (.exit i))
  | .goto t => some (some (.goto t))
  | _ => none

def recOf (fn : FuncId) (t0 : Array Value) (ps : Array Tmp) (assign body : Code) (D : Nat) (j : Option Code) : Loop :=
  { state := if j.isNone then .ready else .done, pending := j, fn := fn, tmps := t0, params := ps, assign := assign, body := body, defers := D }

/-- how a round's body is left: the jump is told by the new state. -/
def RQ (C : Ctx) (l : Nat) (o : Obj) {α : Type} (step : α → Prop) (Y : α → List OA) (Ψ : α → List SP) (e : α → Option Code) : Exit → Act → World → Prop :=
  fun ex _ w => ∃ y, step y ∧ jumpOf ex = some (e y) ∧ Holds C (ob l o :: Y y) (Ψ y) w
def AQ (C : Ctx) (fr : Fr) (Γ : List OA) (Φ : List SP) : Exit → Act → World → Prop := fun ex a w => ex = .normal ∧ fok C fr a ∧ Holds C Γ Φ w

theorem WQ_round {C : Ctx} {l : Nat} {o : Obj} {α : Type} {step : α → Prop} {Y : α → List OA} {Ψ : α → List SP} {e : α → Option Code} {ex : Exit} {fr : Fr} {Γ : List OA} {Φ : List SP} (y : α) (hs : step y) (hj : jumpOf ex = some (e y))
    (h2 : SubO Γ (ob l o :: Y y)) (h3 : AllE (Ψ y) Φ) : WQ C ex fr Γ Φ (RQ C l o step Y Ψ e) := fun _ _ _ hw => ⟨y, hs, hj, (hw.subOwn h2).allE h3⟩
theorem WQ_assign {C : Ctx} {fr fr' : Fr} {Γ Γ' : List OA} {Φ Φ' : List SP} (h1 : FrIn fr fr') (h2 : SubO Γ Γ') (h3 : AllE Φ' Φ) : WQ C .normal fr Γ Φ (AQ C fr' Γ' Φ') := fun _ _ ha hw => ⟨rfl, ha.sub h1, (hw.subOwn h2).allE h3⟩

theorem Yc_round {P : Program} {l D : Nat} {fn : FuncId} {t0 : Array Value} {p : Tmp} {assign body : Code} {n : Nat} {fr fr1 : Fr} {α : Type} {Y : α → List OA} {Ψ : α → List SP} {e : α → Option Code} {y : α} {v : Value} {Φa : List SP} {step : α → Prop}
    (he : e y = none) (ht : t0.size = n) (hfr : ∀ t v, fget fr t = some v → t0.getD t undef = v) (hpn : Nat.blt p n = true)
    (hassign : ∀ w0 O0 M o, W ⟨P, n, w0, O0, M, some l, []⟩ assign ((p, v) :: fr) (ob l o :: Y y) (Φa ++ Ψ y) (AQ ⟨P, n, w0, O0, M, some l, []⟩ fr1 (ob l o :: Y y) (Φa ++ Ψ y)))
    (hbody : ∀ w0 O0 M o, W ⟨P, n, w0, O0, M, some l, []⟩ body fr1 (ob l o :: Y y) (Φa ++ Ψ y) (RQ ⟨P, n, w0, O0, M, some l, []⟩ l o step Y Ψ e)) :
    Yc P l [v] [pk (ob l (.loop (recOf fn t0 #[p] assign body D (e y))) :: Y y)] (Φa ++ [cj (Ψ y)]) (X := α) step (fun y' => .bool (e y').isNone) (fun y' => [pk (ob l (.loop (recOf fn t0 #[p] assign body D (e y'))) :: Y y')]) (fun y' => [cj (Ψ y')]) := by
  intro w O0 hO ho hΦ
  have hw0 : Holds ⟨P, n, w, O0, fpL [pk (ob l (.loop (recOf fn t0 #[p] assign body D (e y))) :: Y y)], some l, []⟩ (ob l (.loop (recOf fn t0 #[p] assign body D (e y))) :: Y y) (Φa ++ Ψ y) w := by
    have h1 : Holds ⟨P, n, w, O0, fpL [pk (ob l (.loop (recOf fn t0 #[p] assign body D (e y))) :: Y y)], some l, []⟩ [pk (ob l (.loop (recOf fn t0 #[p] assign body D (e y))) :: Y y)] (Φa ++ [cj (Ψ y)]) w := ⟨Mod.refl _ _, ho, fun k hk => .inl hk, hO, hΦ⟩
    have h2 := h1.unpack
    rw [List.append_nil] at h2
    refine h2.facts fun ψ hψ => ?_
    rcases List.mem_append.1 hψ with hψ | hψ
    · exact h2.sp ψ (List.mem_append.2 (.inl hψ))
    · exact h2.sp (cj (Ψ y)) (List.mem_append.2 (.inr (by simp))) ψ hψ
  have hat := ob_at hw0
  refine ⟨_, _, _, _, run_yield hat (by rfl), roundIn_of_wpIn trivial ?_⟩
  have hfo : fok ⟨P, n, w, O0, fpL [pk (ob l (.loop (recOf fn t0 #[p] assign body D (e y))) :: Y y)], some l, []⟩ ((p, v) :: fr) { tmps := t0.setIfInBounds p v, defers := [] } := by
    have h0 : fok ⟨P, n, w, O0, fpL [pk (ob l (.loop (recOf fn t0 #[p] assign body D (e y))) :: Y y)], some l, []⟩ fr { tmps := t0, defers := [] } := ⟨rfl, ht, hfr⟩
    exact h0.put (Nat.lt_of_lt_of_le (Nat.lt_succ_self p) (Nat.le_of_ble_eq_true hpn))
  have hz : ((recOf fn t0 #[p] assign body D (e y)).params.zip #[v]).foldl (fun tmps (t, a) => tmps.setIfInBounds t a) (recOf fn t0 #[p] assign body D (e y)).tmps = t0.setIfInBounds p v := by simp [recOf]
  rw [show ([v] : List Value).toArray = #[v] from rfl, hz]
  refine wpIn_mono (hassign _ _ _ _ _ w hfo hw0) ?_
  rintro ex a1 w1 ⟨rfl, hfa, hw1⟩
  have hat1 := ob_at hw1
  refine ⟨_, run_beginRound hat1 (by rw [he]; rfl), ?_⟩
  have hw2 := hw1.putO (.loop { recOf fn t0 #[p] assign body D (e y) with state := .busy })
  refine wpIn_mono (hbody _ _ _ _ a1 _ hfa hw2) ?_
  rintro ex a2 w3 ⟨y', hst, hj, hw3⟩
  have hat3 := ob_at hw3
  have hend := run_endRound (P := P) (e y') hat3
  have hw4 := hw3.putO (.loop (recOf fn t0 #[p] assign body D (e y')))
  have hpost : FnPost w O0 (fpL [pk (ob l (.loop (recOf fn t0 #[p] assign body D (e y))) :: Y y)]) step (fun y' => .bool (e y').isNone) (fun y' => [pk (ob l (.loop (recOf fn t0 #[p] assign body D (e y'))) :: Y y')]) (fun y' => [cj (Ψ y')])
      (.returned (.bool (e y').isNone)) (w3.putObj l (.loop (recOf fn t0 #[p] assign body D (e y')))) := by
    have h5 : Holds ⟨P, n, w, O0, fpL [pk (ob l (.loop (recOf fn t0 #[p] assign body D (e y))) :: Y y)], some l, []⟩ [pk (ob l (.loop (recOf fn t0 #[p] assign body D (e y'))) :: Y y')] (Ψ y') (w3.putObj l (.loop (recOf fn t0 #[p] assign body D (e y')))) := by
      apply Holds.pack
      rw [List.append_nil]
      exact hw4
    refine ⟨y', hst, rfl, h5.mod, h5.own, h5.ofp, fun ψ hψ => ?_⟩
    rcases List.mem_singleton.1 hψ with rfl
    exact h5.sp
  cases ex with
  | normal =>
    injection hj with hj
    rw [← hj] at hend hpost
    exact ⟨_, _, hend, hpost⟩
  | ret =>
    injection hj with hj
    rw [← hj] at hend hpost
    exact ⟨_, _, hend, hpost⟩
  | exit id =>
    injection hj with hj
    rw [← hj] at hend hpost
    exact ⟨_, _, hend, hpost⟩
  | goto t =>
    injection hj with hj
    rw [← hj] at hend hpost
    exact ⟨_, _, hend, hpost⟩
  | panic ch => cases hj
  | outgrown => cases hj

/-- the statement. -/
theorem W_rangeFunc {P : Program} {ds : List Deferred} {n : Nat} {w0 : World} {O0 M : Nat → Prop} {g : Operand} {p : Tmp} {assign body : Code} {fr : Fr} {Γ : List OA} {Φ : List SP} {Q : Exit → Act → World → Prop} {gf : FuncId} {lb : Array Value}
    {α β : Type} (Y : α → List OA) (Ψ : α → List SP) (e : α → Option Code) (y0 : α) (av : β → Value) (aΦ : β → List SP) (pre : α → β → Prop) (step : α → β → α → Prop) (fr1 : β → Fr)
    {Γi Γr : List OA} {Φi : List SP} {X : Type} {pf : X → Prop} {ret : X → Value} {yx : X → α} {Γ' : X → List OA} {Φ' : X → List SP}
    (hg : evO fr g = some (.func (.func gf) #[] lb)) (hcf : ∀ (args : Array Value) (w : World), (callFunc gf args).run P w = .ok (.enter gf args) w)
    (he0 : e y0 = none) (hp : Γ.Perm (Γi ++ (Y y0 ++ Γr))) (hΨ : AllE (Ψ y0) Φ) (hΦi : AllE Φi Φ) (hpn : Nat.blt p n = true) (hpre : ∀ y b, pre y b → e y = none)
    (hassign : ∀ l y b, pre y b → ∀ w0 O0 M o, W ⟨P, n, w0, O0, M, some l, []⟩ assign ((p, av b) :: fr) (ob l o :: Y y) (aΦ b ++ Ψ y) (AQ ⟨P, n, w0, O0, M, some l, []⟩ (fr1 b) (ob l o :: Y y) (aΦ b ++ Ψ y)))
    (hbody : ∀ l y b, pre y b → ∀ w0 O0 M o, W ⟨P, n, w0, O0, M, some l, []⟩ body (fr1 b) (ob l o :: Y y) (aΦ b ++ Ψ y) (RQ ⟨P, n, w0, O0, M, some l, []⟩ l o (step y b) Y Ψ e))
    (hiter : ∀ (l : Nat) (YO : α → OA) (YS : α → SP), (∀ y b, pre y b → Yc P l [av b] [YO y] (aΦ b ++ [YS y]) (X := α) (step y b) (fun y' => .bool (e y').isNone) (fun y' => [YO y']) (fun y' => [YS y'])) →
      Ct P gf (.func (.yield l) #[] #[] :: lb.toList) (Γi ++ [YO y0]) (Φi ++ [YS y0]) pf ret (fun x => YO (yx x) :: Γ' x) (fun x => YS (yx x) :: Φ' x))
    (hk : ∀ D x, pf x → (e (yx x) = none → WQ ⟨P, n, w0, O0, M, none, ⟨.collected D, #[]⟩ :: ds⟩ .normal fr (ob D (.deferred (some [])) :: (Y (yx x) ++ (Γ' x ++ Γr))) (Ψ (yx x) ++ (Φ' x ++ Φ)) Q) ∧
      ∀ c, e (yx x) = some c → W ⟨P, n, w0, O0, M, none, ⟨.collected D, #[]⟩ :: ds⟩ c fr (ob D (.deferred (some [])) :: (Y (yx x) ++ (Γ' x ++ Γr))) (Ψ (yx x) ++ (Φ' x ++ Φ)) Q) :
    W ⟨P, n, w0, O0, M, none, ds⟩ (.rangeFunc g #[p] assign body) fr Γ Φ Q := by
  intro a w ha hw
  show Code.wpIn Fence.wide 0 P _ Q a w
  refine wpIn_rangeFunc fun fn _ => ?_
  have hres : ∀ w1 : World, (resolve a.eval (rangeCall g (w.heap.size + 1)) 0).run P w1 = .ok ⟨.fn (.func gf) lb, #[.func (.yield (w.heap.size + 1)) #[] #[]]⟩ w1 := fun w1 => by
    have e1 := evO_sound ha hg
    simp only [resolve, e1, Deferred.ofValue]
    simp
    rfl
  have hinv : ∀ w1 : World, (invoke (.fn (.func gf) lb) #[.func (.yield (w.heap.size + 1)) #[] #[]]).run P w1 = .ok (.enter gf (#[.func (.yield (w.heap.size + 1)) #[] #[]] ++ lb)) w1 := fun w1 => by
    simp only [invoke]
    exact hcf _ _
  refine ⟨_, _, _, _, _, gf, _, _, run_enterLoop_outer fn a.tmps #[p] assign body, hres _, fun _ _ => trivial, hinv _, fenceOf_depth none, ?_⟩
  obtain ⟨w1, hw1⟩ : ∃ w1, w1 = (w.alloc (.deferred (some []))).alloc (.loop (recOf fn a.tmps #[p] assign body w.heap.size none)) := ⟨_, rfl⟩
  have h1 := ((hw.perm hp).allocO (.deferred (some []))).allocO (.loop (recOf fn a.tmps #[p] assign body w.heap.size none))
  rw [World.size_alloc, ← hw1] at h1
  have h2 : Holds ⟨P, n, w0, O0, M, none, ds⟩ ((Γi ++ [pk (ob (w.heap.size + 1) (.loop (recOf fn a.tmps #[p] assign body w.heap.size (e y0))) :: Y y0)]) ++ (ob w.heap.size (.deferred (some [])) :: Γr)) (cj (Ψ y0) :: Φ) w1 := by
    have h3 : Holds ⟨P, n, w0, O0, M, none, ds⟩ ((ob (w.heap.size + 1) (.loop (recOf fn a.tmps #[p] assign body w.heap.size (e y0))) :: Y y0) ++ (Γi ++ (ob w.heap.size (.deferred (some [])) :: Γr))) Φ w1 := by
      rw [he0]
      refine h1.perm ?_
      show (ob (w.heap.size + 1) _ :: (ob w.heap.size (.deferred (some [])) :: (Γi ++ (Y y0 ++ Γr)))).Perm (ob (w.heap.size + 1) _ :: (Y y0 ++ (Γi ++ (ob w.heap.size (.deferred (some [])) :: Γr))))
      refine List.Perm.cons _ ?_
      have e1 : (Γi ++ (Y y0 ++ Γr)).Perm (Y y0 ++ (Γi ++ Γr)) := by
        rw [← List.append_assoc, ← List.append_assoc]
        exact List.perm_append_comm.append_right Γr
      refine (List.Perm.cons _ e1).trans ?_
      rw [← List.append_assoc, ← List.append_assoc]
      exact List.perm_middle.symm
    have h4 := h3.pack
    have h5 := h4.perm (Γ' := (Γi ++ [pk (ob (w.heap.size + 1) (.loop (recOf fn a.tmps #[p] assign body w.heap.size (e y0))) :: Y y0)]) ++ (ob w.heap.size (.deferred (some [])) :: Γr)) (by
      rw [List.append_assoc]
      exact List.perm_middle.symm)
    exact h5.cons fun ψ hψ => hΨ ψ hψ _ _ h5.sp
  have hcall := call_holds (hiter (w.heap.size + 1) (fun y => pk (ob (w.heap.size + 1) (.loop (recOf fn a.tmps #[p] assign body w.heap.size (e y))) :: Y y)) (fun y => cj (Ψ y)) fun y b hb =>
    Yc_round (hpre y b hb) ha.2.1 ha.2.2 hpn (hassign _ y b hb) (hbody _ y b hb)) h2 (fun ψ hψ => by
      rcases List.mem_append.1 hψ with hψ | hψ
      · exact fun W O hh => hΦi ψ hψ W O fun χ hχ => hh χ (List.mem_cons_of_mem _ hχ)
      · rcases List.mem_singleton.1 hψ with rfl
        exact Ent.mem List.mem_cons_self)
  have eargs : (#[.func (.yield (w.heap.size + 1)) #[] #[]] ++ lb : Array Value) = (Value.func (.yield (w.heap.size + 1)) #[] #[] :: lb.toList).toArray := by
    apply Array.ext'
    simp
  rw [← eargs, hw1] at hcall
  refine (callsIn_wide (n := 0 - 1)).2 (hcall.mono ?_)
  rintro en w' ⟨x, hx, rfl, hw'⟩
  have h6 : Holds ⟨P, n, w0, O0, M, none, ds⟩ (ob (w.heap.size + 1) (.loop (recOf fn a.tmps #[p] assign body w.heap.size (e (yx x)))) :: (Y (yx x) ++ (Γ' x ++ (ob w.heap.size (.deferred (some [])) :: Γr)))) (cj (Ψ (yx x)) :: Φ' x ++ (cj (Ψ y0) :: Φ)) w' := hw'.unpack
  have hat := ob_at h6
  have hend := run_endLoop (P := P) hat (by
    show (if (e (yx x)).isNone then LoopState.ready else .done) ≠ .busy
    split <;> intro h <;> cases h)
  refine ⟨_, _, hend, ?_⟩
  have h7 := (h6.putO (.loop { recOf fn a.tmps #[p] assign body w.heap.size (e (yx x)) with state := .exhausted })).drop
  have h8 : Holds ⟨P, n, w0, O0, M, none, ⟨.collected w.heap.size, #[]⟩ :: ds⟩ (ob w.heap.size (.deferred (some [])) :: (Y (yx x) ++ (Γ' x ++ Γr))) (Ψ (yx x) ++ (Φ' x ++ Φ)) (w'.putObj (w.heap.size + 1) (.loop { recOf fn a.tmps #[p] assign body w.heap.size (e (yx x)) with state := .exhausted })) := by
    have h9 := (h7.perm (Γ' := ob w.heap.size (.deferred (some [])) :: (Y (yx x) ++ (Γ' x ++ Γr))) (by
      rw [← List.append_assoc, ← List.append_assoc]
      exact List.perm_middle)).ctx (C' := ⟨P, n, w0, O0, M, none, ⟨.collected w.heap.size, #[]⟩ :: ds⟩) rfl rfl rfl
    refine h9.facts fun ψ hψ => ?_
    rcases List.mem_append.1 hψ with hψ | hψ
    · exact h9.sp (cj (Ψ (yx x))) (by simp) ψ hψ
    · rcases List.mem_append.1 hψ with hψ | hψ
      · exact h9.sp ψ (by simp [hψ])
      · exact h9.sp ψ (by simp [hψ])
  have hfa : fok ⟨P, n, w0, O0, M, none, ⟨.collected w.heap.size, #[]⟩ :: ds⟩ fr { a with defers := [⟨.collected w.heap.size, #[]⟩] ++ a.defers } := ⟨by rw [ha.1]; rfl, ha.2.1, ha.2.2⟩
  obtain ⟨k1, k2⟩ := hk w.heap.size x hx
  generalize w'.putObj (w.heap.size + 1) (.loop { recOf fn a.tmps #[p] assign body w.heap.size (e (yx x)) with state := .exhausted }) = w4 at h8 ⊢
  show match e (yx x) with | none => _ | some c => _
  cases hc : e (yx x) with
  | none => exact k1 hc _ _ hfa h8
  | some c => exact k2 c hc _ _ hfa h8

-- ===== a function that holds such a loop =====

theorem Ct_introM {P : Program} {f : FuncId} {fn : Func} {c : Code} {args : List Value} {Γ : List OA} {Φ : List SP} {X : Type} {pf : X → Prop} {ret : X → Value} {Γ' : X → List OA} {Φ' : X → List SP} {n : Nat}
    (hf : P.funcs[f]? = some fn) (hb : fn.body = some c) (hn : fn.ntmps = n) (hl : args.length ≤ n) (fr : Fr) (hfr : listO (argFr 0 args) = some fr)
    (h : ∀ w0 O0, W ⟨P, n, w0, O0, fpL Γ, none, []⟩ c fr Γ Φ (bodyPostM Fence.wide 0 P fn (FnPost w0 O0 (fpL Γ) pf ret Γ' Φ'))) : Ct P f args Γ Φ pf ret Γ' Φ' := by
  intro w O0 hO ho hΦ
  have hfr := listO_eq hfr
  refine (callsIn_wide (n := 0)).1 (callsIn_of_wp_marks hf hb trivial (h w O0 _ w ⟨rfl, ?_, fun t v hv => ?_⟩ ⟨Mod.refl _ _, ho, fun k hk => .inl hk, hO, hΦ⟩))
  · subst hn
    simp
    omega
  · rw [← hfr] at hv
    obtain ⟨_, h2⟩ := argFr_get args 0 t v hv
    rw [Nat.sub_zero] at h2
    have hlt : t < args.length := (List.getElem?_eq_some_iff.1 h2).1
    have h3 := (List.getElem?_eq_some_iff.1 h2).2
    simp [Array.getElem?_append, hlt, h3]

abbrev CtxM (P : Program) (n : Nat) (w0 : World) (O0 M : Nat → Prop) (D : Nat) : Ctx := ⟨P, n, w0, O0, M, none, [⟨.collected D, #[]⟩]⟩

theorem ret_endM {P : Program} {n D : Nat} {w0 : World} {O0 M : Nat → Prop} {fn : Func} {fr : Fr} {Γ Γ1 : List OA} {Φ : List SP} {X : Type} {pf : X → Prop} {ret : X → Value} {Γ' : X → List OA} {Φ' : X → List SP} {e : Exit} (he : e = .ret ∨ e = .normal) (x : X) (hp : pf x)
    (hD : Pick (ob D (.deferred (some []))) Γ Γ1)
    (hr : ∀ a w, fok (CtxM P n w0 O0 M D) fr a → Holds (CtxM P n w0 O0 M D) (ob D (.deferred none) :: Γ1) Φ w → (results fn a.tmps).run P w = .ok (ret x) w) (h2 : SubO Γ1 (Γ' x)) (h3 : AllE (Φ' x) Φ) :
    WQ (CtxM P n w0 O0 M D) e fr Γ Φ (bodyPostM Fence.wide 0 P fn (FnPost w0 O0 M pf ret Γ' Φ')) := by
  intro a w ha hw
  have hw1 := pick_holds hD hw
  have hat := ob_at hw1
  have hw2 := hw1.putO (.deferred none)
  have hw3 := (hw2.drop.subOwn h2).allE h3
  have hl : LeavesInM Fence.wide 0 P fn a.tmps (FnPost w0 O0 M pf ret Γ' Φ') a.defers .returning w := by
    rw [show a.defers = [⟨.collected D, #[]⟩] from ha.1]
    exact ⟨(fun h => by cases h), .inl ⟨D, _, rfl, run_takeDeferred hat, _, hr a _ ha hw2, x, hp, rfl, hw3.mod, hw3.own, hw3.ofp, hw3.sp⟩⟩
  rcases he with rfl | rfl
  · exact hl
  · exact hl

section
variable {P : Program} {n D : Nat} {w0 : World} {O0 M : Nat → Prop} {fn : Func} {fr : Fr} {Γ Γ1 : List OA} {Φ : List SP} {X : Type} {pf : X → Prop} {ret : X → Value} {Γ' : X → List OA} {Φ' : X → List SP}
theorem ret1M {r1 : ResultVar} {v1 : Value} (hres : fn.results = #[r1]) (x : X) (hp : pf x) (hD : Pick (ob D (.deferred (some []))) Γ Γ1)
    (h1 : RV (CtxM P n w0 O0 M D) fr (ob D (.deferred none) :: Γ1) Φ r1 v1) (hv : v1 = ret x) (h2 : SubO Γ1 (Γ' x)) (h3 : AllE (Φ' x) Φ) :
    WQ (CtxM P n w0 O0 M D) .ret fr Γ Φ (bodyPostM Fence.wide 0 P fn (FnPost w0 O0 M pf ret Γ' Φ')) :=
  ret_endM (.inl rfl) x hp hD (fun a w ha hw => by subst hv; rw [results_run, hres]; simp [h1 a w ha hw]) h2 h3
theorem ret2M {r1 r2 : ResultVar} {v1 v2 : Value} (hres : fn.results = #[r1, r2]) (x : X) (hp : pf x) (hD : Pick (ob D (.deferred (some []))) Γ Γ1)
    (h1 : RV (CtxM P n w0 O0 M D) fr (ob D (.deferred none) :: Γ1) Φ r1 v1) (h1' : RV (CtxM P n w0 O0 M D) fr (ob D (.deferred none) :: Γ1) Φ r2 v2) (hv : .tuple #[v1, v2] = ret x) (h2 : SubO Γ1 (Γ' x)) (h3 : AllE (Φ' x) Φ) :
    WQ (CtxM P n w0 O0 M D) .ret fr Γ Φ (bodyPostM Fence.wide 0 P fn (FnPost w0 O0 M pf ret Γ' Φ')) :=
  ret_endM (.inl rfl) x hp hD (fun a w ha hw => by rw [← hv, results_run, hres]; simp [h1 a w ha hw, h1' a w ha hw]) h2 h3
end

section
variable {C : Ctx} {fr : Fr} {Γ Γ' Γ1 : List OA} {Φ : List SP} {d : Nat} {ty : TypeId} {pos : String} {aft : Array Edge} {g : Option (Nat × Bool)}
theorem R_makeFunc {fn : Fn} {caps : Array Operand} {vs : List Value} (hc : evOs fr caps.toList = some vs) : Runs C fr Γ Φ ⟨some d, .makeFunc fn #[] caps, ty, pos, aft, g⟩ (.func fn #[] vs.toArray) :=
  Runs.pure fun a w ha _ => by
    have e := evOs_sound ha hc
    have e2 : caps.map a.eval = vs.toArray := by
      apply Array.ext'
      simpa using e
    simp [execOp, Instr.makeFunc, e2]
theorem R_nilCheck {x : Operand} {A : Addr} (hx : evO fr x = some (.pointer (some A))) : Runs C fr Γ Φ ⟨some d, .nilCheck x, ty, pos, aft, g⟩ (.pointer (some A)) :=
  Runs.pure fun a w ha _ => by simp [execOp, evO_sound ha hx]

/-- a byte row that is made, told as lasting at once. -/
theorem Effs.letB {o : Oper} {X : Type} {pf : X → Prop} {vx : X → Value} {G : X → List OA} {H : X → List SP} {v : X → Value} {t : TypeId} {n : X → Nat} {bs : X → List UInt8}
    (h : Effs C fr Γ Φ o pf vx (fun x => .row (v x) t 1 (n x) ((bs x).map bcell) :: G x) H) : Effs C fr Γ Φ o pf vx G (fun x => By (v x) (bs x) :: H x) := by
  refine ⟨fun x ψ hψ => List.mem_cons_of_mem _ (h.1 x ψ hψ), fun R a w ha hw => (h.2 R a w ha hw).mono fun v' w' ⟨x, hp, hv, hw'⟩ => ⟨x, hp, hv, ?_⟩⟩
  exact Holds.letgoB hw' rfl

/-- things appended that are themselves slices. -/
theorem E_appendRowO {t e : TypeId} {x y : Operand} {v u : Value} {size n m nm : Nat} {xs news all : List Value} {i : TypeInfo} {z : Value}
    (hx : evO fr x = some v) (hy : evO fr y = some u) (hp : Pick (.row v e size n xs) Γ Γ') (hp' : Pick (.row u e size m news) Γ' Γ1)
    (ht : C.P.underlying t = some (.slice e)) (hi : C.P.info? e = some i) (hz : i.zero = some z) (hsize : i.size = size) (hzs : z.cells.size = size) (hsz : 0 < size) (h1 : Ones C Γ Φ news)
    (hby : i.bytes ≤ 128) (hb : n + m ≤ 1099511627776) (hnm : n + m = nm) (hall : xs ++ news = all) :
    Effs C fr Γ Φ ⟨some d, .call { callee := .builtin .append, args := #[x, y], argTypes := #[t, t] }, ty, pos, aft, g⟩ (X := Value) (fun _ => True) (fun q => q) (fun v' => .row v' e size nm all :: Γ1) (fun _ => Φ) := by
  refine ⟨fun _ => AllIn.refl _, fun R a w ha hw => ?_⟩
  exact (E_appendRow hx hy hp hp' ht hi hz hsize hzs hsz (fun u hu => h1 u hu R w hw) hby hb hnm hall).2 R a w ha hw
end

theorem ent_alS {Φ : List SP} {n : Nat} {ψ ψ' : Nat → SP} {χ : SP} (hm : Al n ψ ∈ Φ) (hc : χ ∈ Φ) (h1 : ∀ i, i < n → ψ i = ψ' i) (h2 : χ = ψ' n) : Ent Φ (Al (n + 1) ψ') := fun w O h i hi => by
  by_cases e : i < n
  · rw [← h1 i e]
    exact h _ hm i e
  · obtain rfl : i = n := by omega
    rw [← h2]
    exact h _ hc
theorem ent_nilRw {Φ : List SP} {size : Nat} {f : Nat → List Value} : Ent Φ (Rw size (.slice none 0 0) 0 f) := fun _ _ _ => ⟨none, 0, rfl, Nat.le_refl _, by simp [maxLen], fun h => absurd h (by omega)⟩
theorem ent_al0 {Φ : List SP} {ψ : Nat → SP} : Ent Φ (Al 0 ψ) := ent_alI fun i hi => absurd hi (by omega)
end Go.Hs
