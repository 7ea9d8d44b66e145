/-
  Rules for walks, merged.
-/
import Derived.Test.YtahkcidnmdcaaaaXa
import Derived.RangeFuncLeaves
import Derived.DeepKeys
/-
  Arrays in own blocks, elements of own rows, calls of function values. No program is named here.
-/
namespace Go.Hs
open Go Go.RowKit

theorem putN_nil (cs : List Value) : putN 0 [] cs = some cs := by cases cs <;> rfl
theorem putN_one : ∀ (i : Nat) (v : Value) (cs : List Value), i < cs.length → putN i [v] cs = some (cs.set i v)
  | _, _, [], h => by simp at h
  | 0, v, c :: cs, _ => by simp [putN, putN_nil]
  | i + 1, v, c :: cs, h => by simp only [putN, putN_one i v cs (by simpa using h), List.set_cons_succ]

section
variable {C : Ctx} {fr : Fr} {Γ Γ' Γ1 : List OA} {Φ : List SP}
  {d : Nat} {ty : TypeId} {pos : String} {aft : Array Edge} {g : Option (Nat × Bool)}

theorem R_idxArr {t e : TypeId} {x y : Operand} {b len i : Nat} {kd : IntKind} {ii : Int} (hx : evO fr x = some (.pointer (some ⟨b, 0, none⟩))) (hy : evO fr y = some (.int kd ii))
    (ht : C.P.underlying t = some (.array len e)) (hs : ∀ w, (sizeOf e).run C.P w = .ok 1 w) (hii : ii = (i : Int)) (hi : i < len) :
    Runs C fr Γ Φ ⟨some d, .indexAddr t x y, ty, pos, aft, g⟩ (.pointer (some ⟨b, i, none⟩)) := by
  subst hii
  refine Runs.pure fun a w ha hw => ?_
  have h2 : (i : Int) < (len : Int) := by omega
  simp [execOp, evO_sound ha hx, evO_sound ha hy, Instr.indexAt, asIntOf, run_underlying ht, Instr.sureAddr, hs, hi, Addr.add_lit]

/-- an element's address in an own row. -/
theorem R_idxRow {t e rt : TypeId} {x y : Operand} {v : Value} {size n : Nat} {xs : List Value} {kd : IntKind} {ii : Int} {i : Nat} (hx : evO fr x = some v) (hy : evO fr y = some (.int kd ii)) (hp : Pick (.row v rt size n xs) Γ Γ')
    (ht : C.P.underlying t = some (.slice e)) (hs : ∀ w, (sizeOf e).run C.P w = .ok size w) (hii : ii = (i : Int)) (hi : i < n) :
    Runs C fr Γ Φ ⟨some d, .indexAddr t x y, ty, pos, aft, g⟩ (idxV size i v) := by
  subst hii
  refine Runs.pure fun a w ha hw => ?_
  have hown := (pick_holds hp hw).own.1
  rcases hown with ⟨hl, h2⟩
  rcases h2 with ⟨h2, _⟩ | ⟨b, cap, cur, hv, _, hb, hc, hm, hsz, htk⟩
  · omega
  · simp [execOp, evO_sound ha hx, evO_sound ha hy, hv, run_indexAt_some ht hs hi, idxV]

/-- a one-cell element of an own row is loaded. -/
theorem R_loadRow {t rt : TypeId} {x : Operand} {v u : Value} {n i : Nat} {xs : List Value} (hx : evO fr x = some (idxV 1 i v)) (hp : Pick (.row v rt 1 n xs) Γ Γ') (hagg : ∀ w, (isAgg t).run C.P w = .ok false w)
    (hi : i < n) (hc : xs[i]? = some u) : Runs C fr Γ Φ ⟨some d, .load t x, ty, pos, aft, g⟩ u := by
  refine Runs.pure fun a w ha hw => ?_
  have hown := (pick_holds hp hw).own.1
  rcases hown with ⟨hl, h2⟩
  rcases h2 with ⟨h2, _⟩ | ⟨b, cap, cur, hv, _, hb, hcc, hm, hsz, htk⟩
  · omega
  · subst hv
    have h0 : w.cell? ((⟨b, 0, none⟩ : Addr).add i) = some u := by
      rw [Addr.add_lit, Nat.zero_add]
      rw [← htk, List.getElem?_take_of_lt (by omega)] at hc
      simp only [World.cell?, hb]
      simpa using hc
    simp [execOp, evO_sound ha hx, idxV, Instr.loadAt, Instr.sureAddr, run_loadVar_one hagg h0]

end

section
variable {C : Ctx} {ops : Array Oper} {l : List Oper} {fr : Fr} {Γ Γ1 : List OA} {Φ : List SP} {Q : Exit → Act → World → Prop}
/-- nothing, told as an own row. -/
theorem Holds.nilRow {w : World} (t : TypeId) (size : Nat) (h : Holds C Γ Φ w) : Holds C (.row (.slice none 0 0) t size 0 [] :: Γ) Φ w := by
  have hf : ∀ k, ¬ (OA.row (.slice none 0 0) t size 0 []).fp k := fun k (e : (none : Option Nat) = some k) => by cases e
  refine h.move (Mod.refl _ _) ⟨⟨by simp, .inl ⟨rfl, rfl⟩⟩, fun k hk => (hf k hk).elim, h.own⟩ fun k _ hk => ?_
  rcases fpL_cons.1 hk with e | e
  · exact (hf k e).elim
  · exact e
theorem W_nilRow {c : Code} (t : TypeId) (size : Nat) (h : W C c fr (.row (.slice none 0 0) t size 0 [] :: Γ) Φ Q) : W C c fr Γ Φ Q := fun a w ha hw => h a w ha (hw.nilRow t size)
theorem WQ_nilRow {e : Exit} (t : TypeId) (size : Nat) (h : WQ C e fr (.row (.slice none 0 0) t size 0 [] :: Γ) Φ Q) : WQ C e fr Γ Φ Q := fun a w ha hw => h a w ha (hw.nilRow t size)

theorem WL_letgo {v : Value} {t : TypeId} {size n : Nat} {xs : List Value} (hp : Pick (.row v t size n xs) Γ Γ1) (h : WL C ops l fr Γ1 (Sl size v n xs :: Φ) Q) : WL C ops l fr Γ Φ Q := fun a w ha hw => h a w ha (pick_holds hp hw).letgo
end

theorem ent_alI {Φ : List SP} {n : Nat} {ψ : Nat → SP} (h : ∀ i, i < n → Ent Φ (ψ i)) : Ent Φ (Al n ψ) := fun w O hw i hi => h i hi w O hw

section
variable {C : Ctx} {fr : Fr} {Γ Γ' : List OA} {Φ : List SP} {d : Nat} {ty : TypeId} {pos : String} {aft : Array Edge} {g : Option (Nat × Bool)}

end
end Go.Hs

/-
  A range over a function: the loop's own walk, the function's, and where it ends. No program is named here.
-/
namespace Go.Hs
open Go Go.RowKit

/-- several own things as one. -/
def pk (Γ : List OA) : OA := .abs ⟨fpL Γ, Own Γ, fun h => Own.lt h, fun h k => h.keep k⟩
/-- a block that is no cells. -/
def ob (b : Nat) (o : Obj) : OA := .abs ⟨fun k => k = b, fun w => w.heap[b]? = some o, fun h _ e => by subst e; exact (Array.getElem?_eq_some_iff.1 h).1, fun h hk => (hk b (Array.getElem?_eq_some_iff.1 h).1 rfl).trans h⟩
/-- several lasting facts as one. -/
def cj (Φ : List SP) : SP := ⟨fun w O => ∀ ψ ∈ Φ, ψ.p w O, fun h hm ho ψ hψ => ψ.st (h ψ hψ) hm ho⟩

theorem Own.pk {Γ Δ : List OA} {w : World} : Own (pk Γ :: Δ) w ↔ Own (Γ ++ Δ) w := by
  rw [Own.append]
  constructor
  · rintro ⟨h1, h2, h3⟩
    exact ⟨h1, h3, h2⟩
  · rintro ⟨h1, h2, h3⟩
    exact ⟨h1, h3, h2⟩
theorem fpL_pk {Γ Δ : List OA} {k : Nat} : fpL (pk Γ :: Δ) k ↔ fpL (Γ ++ Δ) k := by
  rw [fpL_cons, fpL_append]
  exact Iff.rfl

/-- what a call of yield comes to: with these arguments, where it is handed Γ and Φ holds. -/
def Yc (P : Program) (l : Nat) (args : List Value) (Γ : List OA) (Φ : List SP) {X : Type} (pf : X → Prop) (ret : X → Value) (Γ' : X → List OA) (Φ' : X → List SP) : Prop :=
  ∀ w O0, (∀ k, O0 k → k < w.heap.size ∧ ¬ fpL Γ k) → Own Γ w → (∀ ψ ∈ Φ, ψ.p w (avo O0 Γ)) →
    ∃ fn tmps assign body, (Instr.yield l args.toArray).run P w = .ok (.round l fn tmps assign body) w ∧ RoundIn Fence.wide 0 P l fn tmps assign body w (FnPost w O0 (fpL Γ) pf ret Γ' Φ')

section
variable {C : Ctx} {fr : Fr} {Γ : List OA} {Φ : List SP} {ty : TypeId} {pos : String} {aft : Array Edge} {g : Option (Nat × Bool)}

theorem E_yield {dst : Option Tmp} {callee : Operand} {l : Nat} {args : List Operand} {argTypes : Array TypeId} {vs : List Value}
    {Γp Γr : List OA} {Φp : List SP} {X : Type} {pf : X → Prop} {ret : X → Value} {Γ' : X → List OA} {Φ' : X → List SP} {Γ'' : X → List OA} {Φ'' : X → List SP}
    (hc : evO fr callee = some (.func (.yield l) #[] #[])) (ha : evOs fr args = some vs)
    (hfn : Yc C.P l vs Γp Φp pf ret Γ' Φ')
    (hp : Γ.Perm (Γp ++ Γr)) (hin : AllE Φp Φ) (hΓ : ∀ x, Γ' x ++ Γr = Γ'' x) (hΦ : ∀ x, Φ' x ++ Φ = Φ'' x) :
    Effs C fr Γ Φ ⟨dst, .call { callee := .value callee, args := args.toArray, argTypes := argTypes }, ty, pos, aft, g⟩ pf ret Γ'' Φ'' := by
  refine ⟨fun x ψ hψ => by rw [← hΦ]; exact List.mem_append.2 (.inr hψ), fun R a w hfa hw => ?_⟩
  have hw' := hw.perm (hp.append_right R)
  rw [List.append_assoc] at hw'
  obtain ⟨ho1, ho2, ho3⟩ := Own.append.1 hw'.own
  have hO : ∀ k, avo C.O0 (Γr ++ R) k → k < w.heap.size ∧ ¬ fpL Γp k := fun k hk => by
    rcases hk with hk | hk
    · have h1 := hw'.o0 k hk
      refine ⟨Nat.lt_of_lt_of_le h1.1 hw'.mod.size, fun hn => ?_⟩
      rcases hw'.ofp k (fpL_append.2 (.inl hn)) with h2 | h2
      · exact h1.2 h2
      · omega
    · exact ⟨Own.lt ho2 hk, fun hn => ho3 k hn hk⟩
  obtain ⟨fn, tmps, assign, body, hy, hcall⟩ := hfn w (avo C.O0 (Γr ++ R)) hO ho1 (fun ψ hψ => ψ.st (hin ψ hψ _ _ hw'.sp) (Mod.refl _ _) fun k _ hk => avo_append.2 hk)
  have hrun' : (execOp a.eval ⟨dst, .call { callee := .value callee, args := args.toArray, argTypes := argTypes }, ty, pos, aft, g⟩).run C.P w = .ok (.round l fn tmps assign body) w := by
    have e1 := evO_sound hfa hc
    have e2 := evOs_sound hfa ha
    simp only [execOp, resolve, e1, Deferred.ofValue, List.map_toArray, e2, Sem.run_bind, Sem.run_pure, Result.andThen_ok, invoke]
    rw [show (#[] : Array Value) ++ vs.toArray = vs.toArray by simp]
    exact hy
  rw [hrun']
  show RoundIn _ _ _ _ _ _ _ _ _ _
  refine hcall.mono fun e w1 ⟨x, hx, he, hm, ho, hf, hs⟩ => ⟨_, he, x, hx, rfl, ?_⟩
  have hdis : ∀ k, fpL (Γ' x) k → ¬ fpL (Γr ++ R) k := fun k hk hn => by
    rcases hf k hk with h1 | h1
    · exact ho3 k h1 hn
    · have := Own.lt ho2 hn
      omega
  have hmove : Holds C (Γ' x ++ (Γr ++ R)) Φ w1 := by
    refine hw'.move (hm.mono fun k _ hk => fpL_append.2 (.inl hk)) (Own.append.2 ⟨ho, ho2.keep fun k hlt hk => hm.block k hlt fun hn => ho3 k hn hk, hdis⟩) fun k hlt hk => ?_
    rcases fpL_append.1 hk with hk | hk
    · rcases hf k hk with h1 | h1
      · exact fpL_append.2 (.inl h1)
      · omega
    · exact fpL_append.2 (.inr hk)
  rw [← hΓ, ← hΦ, List.append_assoc]
  refine ⟨hmove.mod, hmove.own, hmove.ofp, hmove.o0, fun ψ hψ => ?_⟩
  rcases List.mem_append.1 hψ with hψ | hψ
  · exact ψ.st (hs ψ hψ) (Mod.refl _ _) fun k _ hk => avo_append.1 hk
  · exact hmove.sp ψ hψ
end

-- ===== moves of memory at a block that is no cells =====

section
variable {C : Ctx} {Γ Δ : List OA} {Φ : List SP}
theorem Holds.allocO {w : World} (h : Holds C Γ Φ w) (o : Obj) : Holds C (ob w.heap.size o :: Γ) Φ (w.alloc o) := by
  refine h.move (Mod.alloc _ w _) ⟨heap_alloc_new w o, fun k hk hn => ?_, h.own.keep fun _ hk _ => heap_alloc_old w _ hk⟩ fun k hk hk' => ?_
  · have hk : k = w.heap.size := hk
    have := Own.lt h.own hn
    omega
  · rcases fpL_cons.1 hk' with hk' | hk'
    · have hk' : k = w.heap.size := hk'
      omega
    · exact hk'
theorem Holds.putO {w : World} {l : Nat} {o : Obj} (h : Holds C (ob l o :: Γ) Φ w) (o' : Obj) : Holds C (ob l o' :: Γ) Φ (w.putObj l o') := by
  have hl : l < w.heap.size := (Array.getElem?_eq_some_iff.1 (show w.heap[l]? = some o from h.own.1)).1
  have hother : ∀ k, k ≠ l → (w.putObj l o').heap[k]? = w.heap[k]? := fun k hk => World.putObj_heap_other hk
  refine h.move ⟨rfl, rfl, rfl, by simp, fun k _ hn => hother k fun e => hn (fpL_cons.2 (.inl e))⟩ ⟨World.putObj_heap_same hl, h.own.2.1, h.own.2.2.keep fun k _ hk => hother k fun e => h.own.2.1 k e hk⟩
    fun k _ hk => by
      rcases fpL_cons.1 hk with e | e
      · exact fpL_cons.2 (.inl e)
      · exact fpL_cons.2 (.inr e)
theorem Holds.pack {w : World} (h : Holds C (Γ ++ Δ) Φ w) : Holds C (pk Γ :: Δ) Φ w :=
  h.move (Mod.refl _ _) (Own.pk.2 h.own) fun _ _ hk => fpL_pk.1 hk
theorem Holds.unpack {w : World} (h : Holds C (pk Γ :: Δ) Φ w) : Holds C (Γ ++ Δ) Φ w :=
  h.move (Mod.refl _ _) (Own.pk.1 h.own) fun _ _ hk => fpL_pk.2 hk
theorem Holds.ctx {C' : Ctx} {w : World} (h : Holds C Γ Φ w) (h1 : C'.w0 = C.w0) (h2 : C'.O0 = C.O0) (h3 : C'.M = C.M) : Holds C' Γ Φ w :=
  ⟨by rw [h1, h3]; exact h.mod, h.own, by rw [h1, h3]; exact h.ofp, by rw [h1, h2, h3]; exact h.o0, by rw [h2]; exact h.sp⟩
theorem Holds.facts {Ψ : List SP} {w : World} (h : Holds C Γ Φ w) (k : ∀ ψ ∈ Ψ, ψ.p w (avo C.O0 Γ)) : Holds C Γ Ψ w := ⟨h.mod, h.own, h.ofp, h.o0, k⟩
theorem ob_at {w : World} {l : Nat} {o : Obj} (h : Holds C (ob l o :: Γ) Φ w) : w.heap[l]? = some o := h.own.1

/-- a call, by what it leaves. -/
theorem call_holds {f : FuncId} {aas : List Value} {Γp Γr : List OA} {Φp : List SP} {X : Type} {pf : X → Prop} {ret : X → Value} {Γ' : X → List OA} {Φ' : X → List SP} {w : World}
    (hfn : Ct C.P f aas Γp Φp pf ret Γ' Φ') (hw : Holds C (Γp ++ Γr) Φ w) (hin : AllE Φp Φ) :
    Calls C.P f aas.toArray w fun e w1 => ∃ x, pf x ∧ e = .returned (ret x) ∧ Holds C (Γ' x ++ Γr) (Φ' x ++ Φ) w1 := by
  obtain ⟨ho1, ho2, ho3⟩ := Own.append.1 hw.own
  have hO : ∀ k, avo C.O0 Γr k → k < w.heap.size ∧ ¬ fpL Γp k := fun k hk => by
    rcases hk with hk | hk
    · have h1 := hw.o0 k hk
      refine ⟨Nat.lt_of_lt_of_le h1.1 hw.mod.size, fun hn => ?_⟩
      rcases hw.ofp k (fpL_append.2 (.inl hn)) with h2 | h2
      · exact h1.2 h2
      · omega
    · exact ⟨Own.lt ho2 hk, fun hn => ho3 k hn hk⟩
  refine (hfn w (avo C.O0 Γr) hO ho1 (fun ψ hψ => ψ.st (hin ψ hψ _ _ hw.sp) (Mod.refl _ _) fun k _ hk => avo_append.2 hk)).mono fun e w1 ⟨x, hx, he, hm, ho, hf, hs⟩ => ⟨x, hx, he, ?_⟩
  have hdis : ∀ k, fpL (Γ' x) k → ¬ fpL Γr k := fun k hk hn => by
    rcases hf k hk with h1 | h1
    · exact ho3 k h1 hn
    · have := Own.lt ho2 hn
      omega
  have hmove : Holds C (Γ' x ++ Γr) Φ w1 := by
    refine hw.move (hm.mono fun k _ hk => fpL_append.2 (.inl hk)) (Own.append.2 ⟨ho, ho2.keep fun k hlt hk => hm.block k hlt fun hn => ho3 k hn hk, hdis⟩) fun k hlt hk => ?_
    rcases fpL_append.1 hk with hk | hk
    · rcases hf k hk with h1 | h1
      · exact fpL_append.2 (.inl h1)
      · omega
    · exact fpL_append.2 (.inr hk)
  refine hmove.facts fun ψ hψ => ?_
  rcases List.mem_append.1 hψ with hψ | hψ
  · exact ψ.st (hs ψ hψ) (Mod.refl _ _) fun k _ hk => avo_append.1 hk
  · exact hmove.sp ψ hψ
end

-- ===== the rounds =====

/-- the jump that a round leaves behind. -/
def jumpOf : Exit → Option (Option Code)
  | .normal => some none
  | .ret => some (some .ret)
  | .exit i => some (some (.exit i))
  | .goto t => some (some (.goto t))
  | _ => none

def recOf (fn : FuncId) (t0 : Array Value) (ps : Array Tmp) (assign body : Code) (D : Nat) (j : Option Code) : Loop :=
  { state := if j.isNone then .ready else .done, pending := j, fn := fn, tmps := t0, params := ps, assign := assign, body := body, defers := D }

/-- how a round's body is left: the jump is told by the new state. -/
def RQ (C : Ctx) (l : Nat) (o : Obj) {α : Type} (step : α → Prop) (Y : α → List OA) (Ψ : α → List SP) (e : α → Option Code) : Exit → Act → World → Prop :=
  fun ex _ w => ∃ y, step y ∧ jumpOf ex = some (e y) ∧ Holds C (ob l o :: Y y) (Ψ y) w
def AQ (C : Ctx) (fr : Fr) (Γ : List OA) (Φ : List SP) : Exit → Act → World → Prop := fun ex a w => ex = .normal ∧ fok C fr a ∧ Holds C Γ Φ w

theorem WQ_round {C : Ctx} {l : Nat} {o : Obj} {α : Type} {step : α → Prop} {Y : α → List OA} {Ψ : α → List SP} {e : α → Option Code} {ex : Exit} {fr : Fr} {Γ : List OA} {Φ : List SP} (y : α) (hs : step y) (hj : jumpOf ex = some (e y))
    (h2 : SubO Γ (ob l o :: Y y)) (h3 : AllE (Ψ y) Φ) : WQ C ex fr Γ Φ (RQ C l o step Y Ψ e) := fun _ _ _ hw => ⟨y, hs, hj, (hw.subOwn h2).allE h3⟩
theorem WQ_assign {C : Ctx} {fr fr' : Fr} {Γ Γ' : List OA} {Φ Φ' : List SP} (h1 : FrIn fr fr') (h2 : SubO Γ Γ') (h3 : AllE Φ' Φ) : WQ C .normal fr Γ Φ (AQ C fr' Γ' Φ') := fun _ _ ha hw => ⟨rfl, ha.sub h1, (hw.subOwn h2).allE h3⟩

theorem Yc_round {P : Program} {l D : Nat} {fn : FuncId} {t0 : Array Value} {p : Tmp} {assign body : Code} {n : Nat} {fr fr1 : Fr} {α : Type} {Y : α → List OA} {Ψ : α → List SP} {e : α → Option Code} {y : α} {v : Value} {Φa : List SP} {step : α → Prop}
    (he : e y = none) (ht : t0.size = n) (hfr : ∀ t v, fget fr t = some v → t0.getD t undef = v) (hpn : Nat.blt p n = true)
    (hassign : ∀ w0 O0 M o, W ⟨P, n, w0, O0, M, some l, []⟩ assign ((p, v) :: fr) (ob l o :: Y y) (Φa ++ Ψ y) (AQ ⟨P, n, w0, O0, M, some l, []⟩ fr1 (ob l o :: Y y) (Φa ++ Ψ y)))
    (hbody : ∀ w0 O0 M o, W ⟨P, n, w0, O0, M, some l, []⟩ body fr1 (ob l o :: Y y) (Φa ++ Ψ y) (RQ ⟨P, n, w0, O0, M, some l, []⟩ l o step Y Ψ e)) :
    Yc P l [v] [pk (ob l (.loop (recOf fn t0 #[p] assign body D (e y))) :: Y y)] (Φa ++ [cj (Ψ y)]) (X := α) step (fun y' => .bool (e y').isNone) (fun y' => [pk (ob l (.loop (recOf fn t0 #[p] assign body D (e y'))) :: Y y')]) (fun y' => [cj (Ψ y')]) := by
  intro w O0 hO ho hΦ
  have hw0 : Holds ⟨P, n, w, O0, fpL [pk (ob l (.loop (recOf fn t0 #[p] assign body D (e y))) :: Y y)], some l, []⟩ (ob l (.loop (recOf fn t0 #[p] assign body D (e y))) :: Y y) (Φa ++ Ψ y) w := by
    have h1 : Holds ⟨P, n, w, O0, fpL [pk (ob l (.loop (recOf fn t0 #[p] assign body D (e y))) :: Y y)], some l, []⟩ [pk (ob l (.loop (recOf fn t0 #[p] assign body D (e y))) :: Y y)] (Φa ++ [cj (Ψ y)]) w := ⟨Mod.refl _ _, ho, fun k hk => .inl hk, hO, hΦ⟩
    have h2 := h1.unpack
    rw [List.append_nil] at h2
    refine h2.facts fun ψ hψ => ?_
    rcases List.mem_append.1 hψ with hψ | hψ
    · exact h2.sp ψ (List.mem_append.2 (.inl hψ))
    · exact h2.sp (cj (Ψ y)) (List.mem_append.2 (.inr (by simp))) ψ hψ
  have hat := ob_at hw0
  refine ⟨_, _, _, _, run_yield hat (by rfl), roundIn_of_wpIn trivial ?_⟩
  have hfo : fok ⟨P, n, w, O0, fpL [pk (ob l (.loop (recOf fn t0 #[p] assign body D (e y))) :: Y y)], some l, []⟩ ((p, v) :: fr) { tmps := t0.setIfInBounds p v, defers := [] } := by
    have h0 : fok ⟨P, n, w, O0, fpL [pk (ob l (.loop (recOf fn t0 #[p] assign body D (e y))) :: Y y)], some l, []⟩ fr { tmps := t0, defers := [] } := ⟨rfl, ht, hfr⟩
    exact h0.put (Nat.lt_of_lt_of_le (Nat.lt_succ_self p) (Nat.le_of_ble_eq_true hpn))
  have hz : ((recOf fn t0 #[p] assign body D (e y)).params.zip #[v]).foldl (fun tmps (t, a) => tmps.setIfInBounds t a) (recOf fn t0 #[p] assign body D (e y)).tmps = t0.setIfInBounds p v := by simp [recOf]
  rw [show ([v] : List Value).toArray = #[v] from rfl, hz]
  refine wpIn_mono (hassign _ _ _ _ _ w hfo hw0) ?_
  rintro ex a1 w1 ⟨rfl, hfa, hw1⟩
  have hat1 := ob_at hw1
  refine ⟨_, run_beginRound hat1 (by rw [he]; rfl), ?_⟩
  have hw2 := hw1.putO (.loop { recOf fn t0 #[p] assign body D (e y) with state := .busy })
  refine wpIn_mono (hbody _ _ _ _ a1 _ hfa hw2) ?_
  rintro ex a2 w3 ⟨y', hst, hj, hw3⟩
  have hat3 := ob_at hw3
  have hend := run_endRound (P := P) (e y') hat3
  have hw4 := hw3.putO (.loop (recOf fn t0 #[p] assign body D (e y')))
  have hpost : FnPost w O0 (fpL [pk (ob l (.loop (recOf fn t0 #[p] assign body D (e y))) :: Y y)]) step (fun y' => .bool (e y').isNone) (fun y' => [pk (ob l (.loop (recOf fn t0 #[p] assign body D (e y'))) :: Y y')]) (fun y' => [cj (Ψ y')])
      (.returned (.bool (e y').isNone)) (w3.putObj l (.loop (recOf fn t0 #[p] assign body D (e y')))) := by
    have h5 : Holds ⟨P, n, w, O0, fpL [pk (ob l (.loop (recOf fn t0 #[p] assign body D (e y))) :: Y y)], some l, []⟩ [pk (ob l (.loop (recOf fn t0 #[p] assign body D (e y'))) :: Y y')] (Ψ y') (w3.putObj l (.loop (recOf fn t0 #[p] assign body D (e y')))) := by
      apply Holds.pack
      rw [List.append_nil]
      exact hw4
    refine ⟨y', hst, rfl, h5.mod, h5.own, h5.ofp, fun ψ hψ => ?_⟩
    rcases List.mem_singleton.1 hψ with rfl
    exact h5.sp
  cases ex with
  | normal =>
    injection hj with hj
    rw [← hj] at hend hpost
    exact ⟨_, _, hend, hpost⟩
  | ret =>
    injection hj with hj
    rw [← hj] at hend hpost
    exact ⟨_, _, hend, hpost⟩
  | exit id =>
    injection hj with hj
    rw [← hj] at hend hpost
    exact ⟨_, _, hend, hpost⟩
  | goto t =>
    injection hj with hj
    rw [← hj] at hend hpost
    exact ⟨_, _, hend, hpost⟩
  | panic ch => cases hj
  | outgrown => cases hj

/-- the statement. -/
theorem W_rangeFunc {P : Program} {ds : List Deferred} {n : Nat} {w0 : World} {O0 M : Nat → Prop} {g : Operand} {p : Tmp} {assign body : Code} {fr : Fr} {Γ : List OA} {Φ : List SP} {Q : Exit → Act → World → Prop} {gf : FuncId} {lb : Array Value}
    {α β : Type} (Y : α → List OA) (Ψ : α → List SP) (e : α → Option Code) (y0 : α) (av : β → Value) (aΦ : β → List SP) (pre : α → β → Prop) (step : α → β → α → Prop) (fr1 : β → Fr)
    {Γi Γr : List OA} {Φi : List SP} {X : Type} {pf : X → Prop} {ret : X → Value} {yx : X → α} {Γ' : X → List OA} {Φ' : X → List SP}
    (hg : evO fr g = some (.func (.func gf) #[] lb)) (hcf : ∀ (args : Array Value) (w : World), (callFunc gf args).run P w = .ok (.enter gf args) w)
    (he0 : e y0 = none) (hp : Γ.Perm (Γi ++ (Y y0 ++ Γr))) (hΨ : AllE (Ψ y0) Φ) (hΦi : AllE Φi Φ) (hpn : Nat.blt p n = true) (hpre : ∀ y b, pre y b → e y = none)
    (hassign : ∀ l y b, pre y b → ∀ w0 O0 M o, W ⟨P, n, w0, O0, M, some l, []⟩ assign ((p, av b) :: fr) (ob l o :: Y y) (aΦ b ++ Ψ y) (AQ ⟨P, n, w0, O0, M, some l, []⟩ (fr1 b) (ob l o :: Y y) (aΦ b ++ Ψ y)))
    (hbody : ∀ l y b, pre y b → ∀ w0 O0 M o, W ⟨P, n, w0, O0, M, some l, []⟩ body (fr1 b) (ob l o :: Y y) (aΦ b ++ Ψ y) (RQ ⟨P, n, w0, O0, M, some l, []⟩ l o (step y b) Y Ψ e))
    (hiter : ∀ (l : Nat) (YO : α → OA) (YS : α → SP), (∀ y b, pre y b → Yc P l [av b] [YO y] (aΦ b ++ [YS y]) (X := α) (step y b) (fun y' => .bool (e y').isNone) (fun y' => [YO y']) (fun y' => [YS y'])) →
      Ct P gf (.func (.yield l) #[] #[] :: lb.toList) (Γi ++ [YO y0]) (Φi ++ [YS y0]) pf ret (fun x => YO (yx x) :: Γ' x) (fun x => YS (yx x) :: Φ' x))
    (hk : ∀ D x, pf x → (e (yx x) = none → WQ ⟨P, n, w0, O0, M, none, ⟨.collected D, #[]⟩ :: ds⟩ .normal fr (ob D (.deferred (some [])) :: (Y (yx x) ++ (Γ' x ++ Γr))) (Ψ (yx x) ++ (Φ' x ++ Φ)) Q) ∧
      ∀ c, e (yx x) = some c → W ⟨P, n, w0, O0, M, none, ⟨.collected D, #[]⟩ :: ds⟩ c fr (ob D (.deferred (some [])) :: (Y (yx x) ++ (Γ' x ++ Γr))) (Ψ (yx x) ++ (Φ' x ++ Φ)) Q) :
    W ⟨P, n, w0, O0, M, none, ds⟩ (.rangeFunc g #[p] assign body) fr Γ Φ Q := by
  intro a w ha hw
  show Code.wpIn Fence.wide 0 P _ Q a w
  refine wpIn_rangeFunc fun fn _ => ?_
  have hres : ∀ w1 : World, (resolve a.eval (rangeCall g (w.heap.size + 1)) 0).run P w1 = .ok ⟨.fn (.func gf) lb, #[.func (.yield (w.heap.size + 1)) #[] #[]]⟩ w1 := fun w1 => by
    have e1 := evO_sound ha hg
    simp only [resolve, e1, Deferred.ofValue]
    simp
    rfl
  have hinv : ∀ w1 : World, (invoke (.fn (.func gf) lb) #[.func (.yield (w.heap.size + 1)) #[] #[]]).run P w1 = .ok (.enter gf (#[.func (.yield (w.heap.size + 1)) #[] #[]] ++ lb)) w1 := fun w1 => by
    simp only [invoke]
    exact hcf _ _
  refine ⟨_, _, _, _, _, gf, _, _, run_enterLoop_outer fn a.tmps #[p] assign body, hres _, fun _ _ => trivial, hinv _, fenceOf_depth none, ?_⟩
  obtain ⟨w1, hw1⟩ : ∃ w1, w1 = (w.alloc (.deferred (some []))).alloc (.loop (recOf fn a.tmps #[p] assign body w.heap.size none)) := ⟨_, rfl⟩
  have h1 := ((hw.perm hp).allocO (.deferred (some []))).allocO (.loop (recOf fn a.tmps #[p] assign body w.heap.size none))
  rw [World.size_alloc, ← hw1] at h1
  have h2 : Holds ⟨P, n, w0, O0, M, none, ds⟩ ((Γi ++ [pk (ob (w.heap.size + 1) (.loop (recOf fn a.tmps #[p] assign body w.heap.size (e y0))) :: Y y0)]) ++ (ob w.heap.size (.deferred (some [])) :: Γr)) (cj (Ψ y0) :: Φ) w1 := by
    have h3 : Holds ⟨P, n, w0, O0, M, none, ds⟩ ((ob (w.heap.size + 1) (.loop (recOf fn a.tmps #[p] assign body w.heap.size (e y0))) :: Y y0) ++ (Γi ++ (ob w.heap.size (.deferred (some [])) :: Γr))) Φ w1 := by
      rw [he0]
      refine h1.perm ?_
      show (ob (w.heap.size + 1) _ :: (ob w.heap.size (.deferred (some [])) :: (Γi ++ (Y y0 ++ Γr)))).Perm (ob (w.heap.size + 1) _ :: (Y y0 ++ (Γi ++ (ob w.heap.size (.deferred (some [])) :: Γr))))
      refine List.Perm.cons _ ?_
      have e1 : (Γi ++ (Y y0 ++ Γr)).Perm (Y y0 ++ (Γi ++ Γr)) := by
        rw [← List.append_assoc, ← List.append_assoc]
        exact List.perm_append_comm.append_right Γr
      refine (List.Perm.cons _ e1).trans ?_
      rw [← List.append_assoc, ← List.append_assoc]
      exact List.perm_middle.symm
    have h4 := h3.pack
    have h5 := h4.perm (Γ' := (Γi ++ [pk (ob (w.heap.size + 1) (.loop (recOf fn a.tmps #[p] assign body w.heap.size (e y0))) :: Y y0)]) ++ (ob w.heap.size (.deferred (some [])) :: Γr)) (by
      rw [List.append_assoc]
      exact List.perm_middle.symm)
    exact h5.cons fun ψ hψ => hΨ ψ hψ _ _ h5.sp
  have hcall := call_holds (hiter (w.heap.size + 1) (fun y => pk (ob (w.heap.size + 1) (.loop (recOf fn a.tmps #[p] assign body w.heap.size (e y))) :: Y y)) (fun y => cj (Ψ y)) fun y b hb =>
    Yc_round (hpre y b hb) ha.2.1 ha.2.2 hpn (hassign _ y b hb) (hbody _ y b hb)) h2 (fun ψ hψ => by
      rcases List.mem_append.1 hψ with hψ | hψ
      · exact fun W O hh => hΦi ψ hψ W O fun χ hχ => hh χ (List.mem_cons_of_mem _ hχ)
      · rcases List.mem_singleton.1 hψ with rfl
        exact Ent.mem List.mem_cons_self)
  have eargs : (#[.func (.yield (w.heap.size + 1)) #[] #[]] ++ lb : Array Value) = (Value.func (.yield (w.heap.size + 1)) #[] #[] :: lb.toList).toArray := by
    apply Array.ext'
    simp
  rw [← eargs, hw1] at hcall
  refine (callsIn_wide (n := 0 - 1)).2 (hcall.mono ?_)
  rintro en w' ⟨x, hx, rfl, hw'⟩
  have h6 : Holds ⟨P, n, w0, O0, M, none, ds⟩ (ob (w.heap.size + 1) (.loop (recOf fn a.tmps #[p] assign body w.heap.size (e (yx x)))) :: (Y (yx x) ++ (Γ' x ++ (ob w.heap.size (.deferred (some [])) :: Γr)))) (cj (Ψ (yx x)) :: Φ' x ++ (cj (Ψ y0) :: Φ)) w' := hw'.unpack
  have hat := ob_at h6
  have hend := run_endLoop (P := P) hat (by
    show (if (e (yx x)).isNone then LoopState.ready else .done) ≠ .busy
    split <;> intro h <;> cases h)
  refine ⟨_, _, hend, ?_⟩
  have h7 := (h6.putO (.loop { recOf fn a.tmps #[p] assign body w.heap.size (e (yx x)) with state := .exhausted })).drop
  have h8 : Holds ⟨P, n, w0, O0, M, none, ⟨.collected w.heap.size, #[]⟩ :: ds⟩ (ob w.heap.size (.deferred (some [])) :: (Y (yx x) ++ (Γ' x ++ Γr))) (Ψ (yx x) ++ (Φ' x ++ Φ)) (w'.putObj (w.heap.size + 1) (.loop { recOf fn a.tmps #[p] assign body w.heap.size (e (yx x)) with state := .exhausted })) := by
    have h9 := (h7.perm (Γ' := ob w.heap.size (.deferred (some [])) :: (Y (yx x) ++ (Γ' x ++ Γr))) (by
      rw [← List.append_assoc, ← List.append_assoc]
      exact List.perm_middle)).ctx (C' := ⟨P, n, w0, O0, M, none, ⟨.collected w.heap.size, #[]⟩ :: ds⟩) rfl rfl rfl
    refine h9.facts fun ψ hψ => ?_
    rcases List.mem_append.1 hψ with hψ | hψ
    · exact h9.sp (cj (Ψ (yx x))) (by simp) ψ hψ
    · rcases List.mem_append.1 hψ with hψ | hψ
      · exact h9.sp ψ (by simp [hψ])
      · exact h9.sp ψ (by simp [hψ])
  have hfa : fok ⟨P, n, w0, O0, M, none, ⟨.collected w.heap.size, #[]⟩ :: ds⟩ fr { a with defers := [⟨.collected w.heap.size, #[]⟩] ++ a.defers } := ⟨by rw [ha.1]; rfl, ha.2.1, ha.2.2⟩
  obtain ⟨k1, k2⟩ := hk w.heap.size x hx
  generalize w'.putObj (w.heap.size + 1) (.loop { recOf fn a.tmps #[p] assign body w.heap.size (e (yx x)) with state := .exhausted }) = w4 at h8 ⊢
  show match e (yx x) with | none => _ | some c => _
  cases hc : e (yx x) with
  | none => exact k1 hc _ _ hfa h8
  | some c => exact k2 c hc _ _ hfa h8

-- ===== a function that holds such a loop =====

theorem Ct_introM {P : Program} {f : FuncId} {fn : Func} {c : Code} {args : List Value} {Γ : List OA} {Φ : List SP} {X : Type} {pf : X → Prop} {ret : X → Value} {Γ' : X → List OA} {Φ' : X → List SP} {n : Nat}
    (hf : P.funcs[f]? = some fn) (hb : fn.body = some c) (hn : fn.ntmps = n) (hl : args.length ≤ n) (fr : Fr) (hfr : listO (argFr 0 args) = some fr)
    (h : ∀ w0 O0, W ⟨P, n, w0, O0, fpL Γ, none, []⟩ c fr Γ Φ (bodyPostM Fence.wide 0 P fn (FnPost w0 O0 (fpL Γ) pf ret Γ' Φ'))) : Ct P f args Γ Φ pf ret Γ' Φ' := by
  intro w O0 hO ho hΦ
  have hfr := listO_eq hfr
  refine (callsIn_wide (n := 0)).1 (callsIn_of_wp_marks hf hb trivial (h w O0 _ w ⟨rfl, ?_, fun t v hv => ?_⟩ ⟨Mod.refl _ _, ho, fun k hk => .inl hk, hO, hΦ⟩))
  · subst hn
    simp
    omega
  · rw [← hfr] at hv
    obtain ⟨_, h2⟩ := argFr_get args 0 t v hv
    rw [Nat.sub_zero] at h2
    have hlt : t < args.length := (List.getElem?_eq_some_iff.1 h2).1
    have h3 := (List.getElem?_eq_some_iff.1 h2).2
    simp [Array.getElem?_append, hlt, h3]

abbrev CtxM (P : Program) (n : Nat) (w0 : World) (O0 M : Nat → Prop) (D : Nat) : Ctx := ⟨P, n, w0, O0, M, none, [⟨.collected D, #[]⟩]⟩

section
variable {P : Program} {n D : Nat} {w0 : World} {O0 M : Nat → Prop} {fn : Func} {fr : Fr} {Γ Γ1 : List OA} {Φ : List SP} {X : Type} {pf : X → Prop} {ret : X → Value} {Γ' : X → List OA} {Φ' : X → List SP}
end

section
variable {C : Ctx} {fr : Fr} {Γ Γ' Γ1 : List OA} {Φ : List SP} {d : Nat} {ty : TypeId} {pos : String} {aft : Array Edge} {g : Option (Nat × Bool)}
theorem R_makeFunc {fn : Fn} {caps : Array Operand} {vs : List Value} (hc : evOs fr caps.toList = some vs) : Runs C fr Γ Φ ⟨some d, .makeFunc fn #[] caps, ty, pos, aft, g⟩ (.func fn #[] vs.toArray) :=
  Runs.pure fun a w ha _ => by
    have e := evOs_sound ha hc
    have e2 : caps.map a.eval = vs.toArray := by
      apply Array.ext'
      simpa using e
    simp [execOp, Instr.makeFunc, e2]
theorem R_nilCheck {x : Operand} {A : Addr} (hx : evO fr x = some (.pointer (some A))) : Runs C fr Γ Φ ⟨some d, .nilCheck x, ty, pos, aft, g⟩ (.pointer (some A)) :=
  Runs.pure fun a w ha _ => by simp [execOp, evO_sound ha hx]

/-- things appended that are themselves slices. -/
theorem E_appendRowO {t e : TypeId} {x y : Operand} {v u : Value} {size n m nm : Nat} {xs news all : List Value} {i : TypeInfo} {z : Value}
    (hx : evO fr x = some v) (hy : evO fr y = some u) (hp : Pick (.row v e size n xs) Γ Γ') (hp' : Pick (.row u e size m news) Γ' Γ1)
    (ht : C.P.underlying t = some (.slice e)) (hi : C.P.info? e = some i) (hz : i.zero = some z) (hsize : i.size = size) (hzs : z.cells.size = size) (hsz : 0 < size) (h1 : Ones C Γ Φ news)
    (hby : i.bytes ≤ 128) (hb : n + m ≤ 1099511627776) (hnm : n + m = nm) (hall : xs ++ news = all) :
    Effs C fr Γ Φ ⟨some d, .call { callee := .builtin .append, args := #[x, y], argTypes := #[t, t] }, ty, pos, aft, g⟩ (X := Value) (fun _ => True) (fun q => q) (fun v' => .row v' e size nm all :: Γ1) (fun _ => Φ) := by
  refine ⟨fun _ => AllIn.refl _, fun R a w ha hw => ?_⟩
  exact (E_appendRow hx hy hp hp' ht hi hz hsize hzs hsz (fun u hu => h1 u hu R w hw) hby hb hnm hall).2 R a w ha hw
end

theorem ent_nilRw {Φ : List SP} {size : Nat} {f : Nat → List Value} : Ent Φ (Rw size (.slice none 0 0) 0 f) := fun _ _ _ => ⟨none, 0, rfl, Nat.le_refl _, by simp [maxLen], fun h => absurd h (by omega)⟩
end Go.Hs

/-
  Trees of elements in memory; own things lent to a call; rows of bytes of which only the lengths matter. No program is named here.
-/
namespace Go.Hs
open Go Go.RowKit

-- ===== a call that looks at what is owned =====

/-- while Γb is owned and Φ holds, the facts Φb hold too (where Γb itself is not forbidden). -/
def Bor (Γb : List OA) (Φ Φb : List SP) : Prop := ∀ w O, Own Γb w → (∀ k, fpL Γb k → ¬ O k) → (∀ ψ ∈ Φ, ψ.p w O) → ∀ ψ ∈ Φb, ψ.p w O

section
variable {C : Ctx} {ops : Array Oper} {l : List Oper} {fr : Fr} {Γ Γ' Γ1 : List OA} {Φ : List SP} {Q : Exit → Act → World → Prop}
  {d : Nat} {ty : TypeId} {pos : String} {aft : Array Edge} {g : Option (Nat × Bool)}

theorem Bor.row {v : Value} {t : TypeId} {n : Nat} {bs : List UInt8} {Γr : List OA} (hn : n = bs.length) : Bor [.row v t 1 n (bs.map bcell)] Φ (By v bs :: Φ) := fun w O ho hd hΦ ψ hψ => by
  rcases List.mem_cons.1 hψ with rfl | hψ
  · subst hn
    exact slP_of_row ho.1 fun k hk => hd k (fpL_cons.2 (.inl hk))
  · exact hΦ ψ hψ

theorem R_callB {dst : Option Tmp} {f : FuncId} {args : List Operand} {argTypes : Array TypeId} {vs : List Value} {Φp : List SP} {v : Value} {Γb Γr : List OA}
    (ha : evOs fr args = some vs)
    (hrun : ∀ (aas : Array Value) (w : World), (callFunc f aas).run C.P w = .ok (.enter f aas) w)
    (hfn : CtD C.P f vs Φp v) (hp : Γ.Perm (Γb ++ Γr)) (hb : Bor Γb Φ Φp) :
    Runs C fr Γ Φ ⟨dst, .call { callee := .value (.func f), args := args.toArray, argTypes := argTypes }, ty, pos, aft, g⟩ v := by
  intro a w hfa hw0
  have hw := hw0.perm hp
  obtain ⟨ho1, ho2, ho3⟩ := Own.append.1 hw.own
  have hO : ∀ k, avo C.O0 Γr k → k < w.heap.size ∧ ¬ fpL [] k := fun k hk => by
    refine ⟨?_, fun ⟨_, hx, _⟩ => by cases hx⟩
    rcases hk with hk | hk
    · exact Nat.lt_of_lt_of_le (hw.o0 k hk).1 hw.mod.size
    · exact Own.lt ho2 hk
  have hd : ∀ k, fpL Γb k → ¬ avo C.O0 Γr k := fun k hk hn => by
    rcases hn with hn | hn
    · have h1 := hw.o0 k hn
      rcases hw.ofp k (fpL_append.2 (.inl hk)) with h2 | h2
      · exact h1.2 h2
      · omega
    · exact ho3 k hk hn
  have hΦ : ∀ ψ ∈ Φ, ψ.p w (avo C.O0 Γr) := fun ψ hψ => ψ.st (hw.sp ψ hψ) (Mod.refl _ _) fun k _ hk => hk.elim .inl fun h => .inr (fpL_append.2 (.inr h))
  have hcall := hfn w (avo C.O0 Γr) hO trivial (fun ψ hψ => ψ.st (hb w _ ho1 hd hΦ ψ hψ) (Mod.refl _ _) fun k _ hk => hk.elim id fun ⟨_, hx, _⟩ => by cases hx)
  have hrun' : (execOp a.eval ⟨dst, .call { callee := .value (.func f), args := args.toArray, argTypes := argTypes }, ty, pos, aft, g⟩).run C.P w = .ok (.enter f vs.toArray) w := by
    have e2 := evOs_sound hfa ha
    simp only [execOp, resolve, Act.eval, Deferred.ofValue, List.map_toArray, e2, Sem.run_bind, Sem.run_pure, Result.andThen_ok, invoke]
    rw [hrun]
    congr 2
    apply Array.ext'
    simp
  rw [hrun']
  show Calls _ _ _ _ _
  exact hcall.mono fun e w1 ⟨_, _, he, hm, _⟩ => ⟨_, he, rfl, hm.mono fun k _ ⟨_, hx, _⟩ => by cases hx⟩

/-- a plain truth drawn from what holds. -/
theorem W_pure {c : Code} {p : Prop} (hp : ∀ w, Holds C Γ Φ w → p) (h : p → W C c fr Γ Φ Q) : W C c fr Γ Φ Q := fun a w ha hw => h (hp w hw) a w ha hw
theorem WL_pure {p : Prop} (hp : ∀ w, Holds C Γ Φ w → p) (h : p → WL C ops l fr Γ Φ Q) : WL C ops l fr Γ Φ Q := fun a w ha hw => h (hp w hw) a w ha hw

def isNilV : Value → Bool
  | .slice none _ _ => true
  | _ => false

theorem R_eqNil {x y : Operand} {t e t' : TypeId} {v : Value} {size n : Nat} {xs : List Value} (hx : evO fr x = some v) (hy : evO fr y = some (.slice none 0 0)) (hm : Sl size v n xs ∈ Φ) (ht : C.P.underlying t = some (.slice e)) :
    Runs C fr Γ Φ ⟨some d, .binOp .eql t x y t', ty, pos, aft, g⟩ (.bool (isNilV v)) :=
  Runs.pure fun a w ha hw => by
    obtain ⟨_, A, c, hv, _⟩ := hw.sp _ hm
    subst hv
    have h := Lib.run_eql_slice_nil (P := C.P) w t e A n c 0 0 ht
    have hg : (eqGuard .eql t x y (.slice A n c) (.slice none 0 0)).run C.P w = .ok () w := by simp [eqGuard]
    simp only [execOp, evO_sound ha hx, evO_sound ha hy, Sem.run_bind, hg, Result.andThen_ok, h, Sem.run_pure]
    cases A <;> rfl
theorem R_eqNilB {x y : Operand} {t e t' : TypeId} {v : Value} {bs : List UInt8} (hx : evO fr x = some v) (hy : evO fr y = some (.slice none 0 0)) (hm : By v bs ∈ Φ) (ht : C.P.underlying t = some (.slice e)) :
    Runs C fr Γ Φ ⟨some d, .binOp .eql t x y t', ty, pos, aft, g⟩ (.bool (isNilV v)) := R_eqNil (xs := bs.map bcell) (size := 1) hx hy hm ht
theorem R_eqNilR {x y : Operand} {t e t' : TypeId} {v : Value} {size n : Nat} {f : Nat → List Value} (hx : evO fr x = some v) (hy : evO fr y = some (.slice none 0 0)) (hm : Rw size v n f ∈ Φ) (ht : C.P.underlying t = some (.slice e)) :
    Runs C fr Γ Φ ⟨some d, .binOp .eql t x y t', ty, pos, aft, g⟩ (.bool (isNilV v)) :=
  Runs.pure fun a w ha hw => by
    obtain ⟨A, c, hv, _⟩ := hw.sp _ hm
    subst hv
    have h := Lib.run_eql_slice_nil (P := C.P) w t e A n c 0 0 ht
    have hg : (eqGuard .eql t x y (.slice A n c) (.slice none 0 0)).run C.P w = .ok () w := by simp [eqGuard]
    simp only [execOp, evO_sound ha hx, evO_sound ha hy, Sem.run_bind, hg, Result.andThen_ok, h, Sem.run_pure]
    cases A <;> rfl
theorem by_nil {v : Value} {bs : List UInt8} (h : isNilV v = true) (hm : By v bs ∈ Φ) : ∀ w, Holds C Γ Φ w → bs = [] := fun w hw => by
  obtain ⟨_, A, c, rfl, _, _, hr⟩ := hw.sp _ hm
  cases A with
  | some A => cases h
  | none =>
    cases bs with
    | nil => rfl
    | cons b r =>
      obtain ⟨ad, h, _⟩ := hr (by simp)
      cases h
theorem rw_nil {v : Value} {size n : Nat} {f : Nat → List Value} (h : isNilV v = true) (hm : Rw size v n f ∈ Φ) : ∀ w, Holds C Γ Φ w → n = 0 := fun w hw => by
  obtain ⟨A, c, rfl, _, _, hr⟩ := hw.sp _ hm
  cases A with
  | some A => cases h
  | none =>
    cases n with
    | zero => rfl
    | succ n =>
      obtain ⟨ad, h, _⟩ := hr (by omega)
      cases h
/-- a method's value: the receiver is kept. -/
theorem R_makeFunc1 {fn : FuncId} {x : Operand} {v : Value} (hx : evO fr x = some v) : Runs C fr Γ Φ ⟨some d, .makeFunc (.func fn) #[x] #[], ty, pos, aft, g⟩ (.func (.func fn) #[v] #[]) :=
  Runs.pure fun a w ha _ => by simp [execOp, Instr.makeFunc, evO_sound ha hx]
end

theorem perm1 {x : OA} {Γ Γr : List OA} (h : Pick x Γ Γr) : Γ.Perm ([x] ++ Γr) := h
theorem perm2 {x y : OA} {Γ Γ1 Γr : List OA} (h : Pick x Γ Γ1) (k : Pick y Γ1 Γr) : Γ.Perm ([x, y] ++ Γr) := h.trans (List.Perm.cons x k)
theorem perm3 {x y z : OA} {Γ Γ1 Γ2 Γr : List OA} (h : Pick x Γ Γ1) (k : Pick y Γ1 Γ2) (l : Pick z Γ2 Γr) : Γ.Perm ([x, y, z] ++ Γr) := h.trans (List.Perm.cons x (k.trans (List.Perm.cons y l)))

-- ===== many rows of bytes aas one thing =====

def rowsL (bt : TypeId) (L : List (Value × List UInt8)) : List OA := L.map fun p => .row p.1 bt 1 p.2.length (p.2.map bcell)
theorem rowsL_append (bt : TypeId) (L K : List (Value × List UInt8)) : rowsL bt (L ++ K) = rowsL bt L ++ rowsL bt K := List.map_append ..

theorem perm_erase {α : Type} : ∀ {L : List α} {i : Nat} {p : α}, L[i]? = some p → L.Perm (p :: L.eraseIdx i)
  | [], _, _, h => by simp at h
  | a :: r, 0, p, h => by
    simp only [List.getElem?_cons_zero, Option.some.injEq] at h
    subst h
    exact .refl _
  | a :: r, i + 1, p, h => by
    rw [List.getElem?_cons_succ] at h
    exact (List.Perm.cons a (perm_erase h)).trans (.swap p a _)
section
variable {C : Ctx} {ops : Array Oper} {l : List Oper} {fr : Fr} {Γ Γ1 Γ2 : List OA} {Φ : List SP} {Q : Exit → Act → World → Prop}
theorem Holds.takeL {bt : TypeId} {L : List (Value × List UInt8)} {i : Nat} {p : Value × List UInt8} {w : World} (h : Holds C (pk (rowsL bt L) :: Γ) Φ w) (hi : L[i]? = some p) :
    Holds C (.row p.1 bt 1 p.2.length (p.2.map bcell) :: pk (rowsL bt (L.eraseIdx i)) :: Γ) Φ w := by
  have h1 := h.unpack
  have hp : (rowsL bt L).Perm (.row p.1 bt 1 p.2.length (p.2.map bcell) :: rowsL bt (L.eraseIdx i)) := (perm_erase hi).map fun (p : Value × List UInt8) => OA.row p.1 bt 1 p.2.length (p.2.map bcell)
  have h2 := h1.perm (hp.append_right Γ)
  have h3 : Holds C (rowsL bt (L.eraseIdx i) ++ .row p.1 bt 1 p.2.length (p.2.map bcell) :: Γ) Φ w := h2.perm List.perm_middle.symm
  exact h3.pack.perm (.swap _ _ _)
theorem Holds.addL {bt : TypeId} {L : List (Value × List UInt8)} {v : Value} {n : Nat} {xs : List Value} {bs : List UInt8} {w : World} (h : Holds C (.row v bt 1 n xs :: pk (rowsL bt L) :: Γ) Φ w) (hx : xs = bs.map bcell) :
    Holds C (pk (rowsL bt (L ++ [(v, bs)])) :: Γ) Φ w := by
  have hn : n = bs.length := by
    have := h.own.1.1
    subst hx
    simpa using this.symm
  subst hx
  subst hn
  have h1 := (h.perm (.swap _ _ _)).unpack
  have h2 : Holds C (rowsL bt (L ++ [(v, bs)]) ++ Γ) Φ w := by
    rw [rowsL_append, List.append_assoc]
    exact h1
  exact h2.pack
theorem Holds.nilL {w : World} (bt : TypeId) (h : Holds C Γ Φ w) : Holds C (pk (rowsL bt []) :: Γ) Φ w := Holds.pack h

theorem WQ_addL {e : Exit} {bt : TypeId} {L : List (Value × List UInt8)} {n : Nat} {v : Value} {xs : List Value} (bs : List UInt8) (hx : xs = bs.map bcell) (hp : Pick (.row v bt 1 n xs) Γ Γ1) (hp' : Pick (pk (rowsL bt L)) Γ1 Γ2)
    (h : WQ C e fr (pk (rowsL bt (L ++ [(v, bs)])) :: Γ2) Φ Q) : WQ C e fr Γ Φ Q := fun a w ha hw => h a w ha (((pick_holds hp hw).perm (List.Perm.cons _ hp')).addL hx)
theorem W_nilL {c : Code} (bt : TypeId) (h : W C c fr (pk (rowsL bt []) :: Γ) Φ Q) : W C c fr Γ Φ Q := fun a w ha hw => h a w ha (hw.nilL bt)
theorem WQ_nilL {e : Exit} (bt : TypeId) (h : WQ C e fr (pk (rowsL bt []) :: Γ) Φ Q) : WQ C e fr Γ Φ Q := fun a w ha hw => h a w ha (hw.nilL bt)
end

-- ===== trees =====

/-- a list of elements as it stands in memory, each with its own list; the values that lead to the data and to the list are told too. -/
inductive T where
  | nil
  | cons (id ext : UInt8) (dv : Value) (data : List UInt8) (sv : Value) (subs next : T)

/-- the same without the values. -/
inductive Fo where
  | nil
  | cons (id ext : UInt8) (data : List UInt8) (subs next : Fo)
deriving DecidableEq

namespace T
def er : T → Fo
  | .nil => .nil
  | .cons id ext _ data _ subs next => .cons id ext data subs.er next.er
def len : T → Nat
  | .nil => 0
  | .cons _ _ _ _ _ _ next => next.len + 1
def drop : Nat → T → T
  | 0, t => t
  | _ + 1, .nil => .nil
  | k + 1, .cons _ _ _ _ _ _ next => drop k next
def app : T → T → T
  | .nil, u => u
  | .cons id ext dv data sv subs next, u => .cons id ext dv data sv subs (next.app u)
def head : T → List Value
  | .nil => []
  | .cons id ext dv _ sv _ _ => [bcell id, bcell ext, dv, sv]
def at_ (t : T) (i : Nat) : List Value := (t.drop i).head
def cells : T → List Value
  | .nil => []
  | .cons id ext dv _ sv _ next => bcell id :: bcell ext :: dv :: sv :: next.cells
def dls : T → List (Value × List UInt8)
  | .nil => []
  | .cons _ _ dv data _ _ next => (dv, data) :: next.dls

def tfP : T → World → (Nat → Prop) → Prop
  | .nil, _, _ => True
  | .cons _ _ dv data sv subs next, w, O => (By dv data).p w O ∧ (Rw 4 sv subs.len subs.at_).p w O ∧ subs.tfP w O ∧ next.tfP w O
theorem tfP.st : ∀ {t : T} {w w' : World} {O O' : Nat → Prop}, t.tfP w O → Mod O w w' → (∀ k, k < w.heap.size → O' k → O k) → t.tfP w' O'
  | .nil, _, _, _, _, _, _, _ => trivial
  | .cons _ _ _ _ _ _ _, _, _, _, _, h, hm, ho => ⟨SP.st _ h.1 hm ho, SP.st _ h.2.1 hm ho, tfP.st h.2.2.1 hm ho, tfP.st h.2.2.2 hm ho⟩
/-- what hangs on the elements lasts. -/
def tf (t : T) : SP := ⟨t.tfP, tfP.st⟩

def tsP : T → World → (Nat → Prop) → Prop
  | .nil, _, _ => True
  | .cons _ _ _ _ sv subs next, w, O => (Rw 4 sv subs.len subs.at_).p w O ∧ subs.tfP w O ∧ next.tsP w O
theorem tsP.st : ∀ {t : T} {w w' : World} {O O' : Nat → Prop}, t.tsP w O → Mod O w w' → (∀ k, k < w.heap.size → O' k → O k) → t.tsP w' O'
  | .nil, _, _, _, _, _, _, _ => trivial
  | .cons _ _ _ _ _ _ _, _, _, _, _, h, hm, ho => ⟨SP.st _ h.1 hm ho, tfP.st h.2.1 hm ho, tsP.st h.2.2 hm ho⟩
/-- the same of the elements' lists alone: the data are owned. -/
def ts (t : T) : SP := ⟨t.tsP, tsP.st⟩

theorem len_app : ∀ (t u : T), (t.app u).len = t.len + u.len
  | .nil, u => by simp [app, len]
  | .cons _ _ _ _ _ _ next, u => by simp only [app, len, len_app next u]; omega
theorem cells_app : ∀ (t u : T), (t.app u).cells = t.cells ++ u.cells
  | .nil, u => rfl
  | .cons _ _ _ _ _ _ next, u => by simp only [app, cells, cells_app next u, List.cons_append]
theorem dls_app : ∀ (t u : T), (t.app u).dls = t.dls ++ u.dls
  | .nil, u => rfl
  | .cons _ _ _ _ _ _ next, u => by simp only [app, dls, dls_app next u, List.cons_append]
theorem len_snoc (t : T) (id ext : UInt8) (dv : Value) (data : List UInt8) (sv : Value) (subs : T) : t.len + 1 = (t.app (.cons id ext dv data sv subs .nil)).len := by rw [len_app]; rfl
theorem cells_snoc (t : T) (id ext : UInt8) (dv : Value) (data : List UInt8) (sv : Value) (subs : T) : t.cells ++ [bcell id, bcell ext, dv, sv] = (t.app (.cons id ext dv data sv subs .nil)).cells := by rw [cells_app]; rfl
theorem dls_snoc (t : T) (id ext : UInt8) (dv : Value) (data : List UInt8) (sv : Value) (subs : T) : t.dls ++ [(dv, data)] = (t.app (.cons id ext dv data sv subs .nil)).dls := by rw [dls_app]; rfl
theorem cells_length : ∀ (t : T), t.cells.length = t.len * 4
  | .nil => rfl
  | .cons _ _ _ _ _ _ next => by simp only [cells, List.length_cons, cells_length next, len]; omega
theorem cells_at : ∀ (t : T) (i : Nat), i < t.len → (t.cells.drop (i * 4)).take 4 = t.at_ i
  | .nil, _, h => by simp [len] at h
  | .cons _ _ _ _ _ _ next, 0, _ => rfl
  | .cons _ _ _ _ _ _ next, i + 1, h => by
    have h' : i < next.len := by simp only [len] at h; omega
    rw [show (i + 1) * 4 = i * 4 + 1 + 1 + 1 + 1 by omega]
    exact cells_at next i h'
theorem drop_len : ∀ (t : T) (k : Nat), k ≤ t.len → (t.drop k).len = t.len - k
  | t, 0, _ => rfl
  | .nil, k + 1, h => by simp [len] at h
  | .cons _ _ _ _ _ _ next, k + 1, h => by
    simp only [len] at h
    simp only [drop, len, drop_len next k (by omega)]
    omega
theorem drop_nil : ∀ (k : Nat), drop k .nil = .nil
  | 0 => rfl
  | _ + 1 => rfl
theorem drop_next : ∀ {t : T} {k : Nat} {id ext : UInt8} {dv : Value} {data : List UInt8} {sv : Value} {subs next : T}, t.drop k = .cons id ext dv data sv subs next → t.drop (k + 1) = next
  | .nil, k, _, _, _, _, _, _, _, h => by rw [drop_nil] at h; cases h
  | .cons _ _ _ _ _ _ _, 0, _, _, _, _, _, _, _, h => by
    simp only [drop, cons.injEq] at h
    simp only [drop]
    exact h.2.2.2.2.2.2
  | .cons _ _ _ _ _ _ n, k + 1, _, _, _, _, _, _, _, h => by
    show drop (k + 1) n = _
    exact drop_next (t := n) h
/-- the k-th element. -/
theorem get {t : T} {k : Nat} (h : k < t.len) : ∃ id ext dv data sv subs next, t.drop k = .cons id ext dv data sv subs next := by
  cases e : t.drop k with
  | nil =>
    have := drop_len t k (by omega)
    rw [e] at this
    simp only [len] at this
    omega
  | cons id ext dv data sv subs next => exact ⟨_, _, _, _, _, _, _, rfl⟩
theorem at_cons {t : T} {k : Nat} {id ext : UInt8} {dv : Value} {data : List UInt8} {sv : Value} {subs next : T} (h : t.drop k = .cons id ext dv data sv subs next) : t.at_ k = [bcell id, bcell ext, dv, sv] := by
  rw [at_, h]
  rfl
def size : T → Nat
  | .nil => 0
  | .cons _ _ _ _ _ subs next => subs.size + next.size + 1
theorem drop_size : ∀ {t : T} {k : Nat} {id ext : UInt8} {dv : Value} {data : List UInt8} {sv : Value} {subs next : T}, t.drop k = .cons id ext dv data sv subs next → subs.size < t.size
  | .nil, k, _, _, _, _, _, _, _, h => by rw [drop_nil] at h; cases h
  | .cons _ _ _ _ _ _ _, 0, _, _, _, _, _, _, _, h => by
    simp only [drop, cons.injEq] at h
    obtain ⟨_, _, _, _, _, rfl, rfl⟩ := h
    simp only [size]
    omega
  | .cons _ _ _ _ _ _ n, k + 1, _, _, _, _, _, _, _, h => by
    have := drop_size (t := n) h
    simp only [size]
    omega

theorem tf_at : ∀ {t : T} {k : Nat} {id ext : UInt8} {dv : Value} {data : List UInt8} {sv : Value} {subs next : T} {w : World} {O : Nat → Prop}, t.drop k = .cons id ext dv data sv subs next → t.tfP w O →
    (By dv data).p w O ∧ (Rw 4 sv subs.len subs.at_).p w O ∧ subs.tfP w O
  | .nil, k, _, _, _, _, _, _, _, _, _, h, _ => by rw [drop_nil] at h; cases h
  | .cons _ _ _ _ _ _ _, 0, _, _, _, _, _, _, _, _, _, h, hp => by
    simp only [drop, cons.injEq] at h
    obtain ⟨rfl, rfl, rfl, rfl, rfl, rfl, rfl⟩ := h
    exact ⟨hp.1, hp.2.1, hp.2.2.1⟩
  | .cons _ _ _ _ _ _ n, k + 1, _, _, _, _, _, _, _, _, _, h, hp => tf_at (t := n) h hp.2.2.2
theorem ts_at : ∀ {t : T} {k : Nat} {id ext : UInt8} {dv : Value} {data : List UInt8} {sv : Value} {subs next : T} {w : World} {O : Nat → Prop}, t.drop k = .cons id ext dv data sv subs next → t.tsP w O →
    (Rw 4 sv subs.len subs.at_).p w O ∧ subs.tfP w O
  | .nil, k, _, _, _, _, _, _, _, _, _, h, _ => by rw [drop_nil] at h; cases h
  | .cons _ _ _ _ _ _ _, 0, _, _, _, _, _, _, _, _, _, h, hp => by
    simp only [drop, cons.injEq] at h
    obtain ⟨rfl, rfl, rfl, rfl, rfl, rfl, rfl⟩ := h
    exact ⟨hp.1, hp.2.1⟩
  | .cons _ _ _ _ _ _ n, k + 1, _, _, _, _, _, _, _, _, _, h, hp => ts_at (t := n) h hp.2.2
theorem ts_app : ∀ {t u : T} {w : World} {O : Nat → Prop}, t.tsP w O → u.tsP w O → (t.app u).tsP w O
  | .nil, _, _, _, _, h => h
  | .cons _ _ _ _ _ _ _, _, _, _, h, k => ⟨h.1, h.2.1, ts_app h.2.2 k⟩
theorem tf_of_ts : ∀ {bt : TypeId} {t : T} {w : World} {O : Nat → Prop}, Own (rowsL bt t.dls) w → (∀ k, fpL (rowsL bt t.dls) k → ¬ O k) → t.tsP w O → t.tfP w O
  | _, .nil, _, _, _, _, _ => trivial
  | _, .cons _ _ _ _ _ _ _, _, _, ho, hd, h => ⟨slP_of_row ho.1 fun k hk => hd k (fpL_cons.2 (.inl hk)), h.1, h.2.1, tf_of_ts ho.2.2 (fun k hk => hd k (fpL_cons.2 (.inr hk))) h.2.2⟩
end T

section
variable {C : Ctx} {fr : Fr} {Γ Γ1 : List OA} {Φ : List SP}
theorem ent_tree {t : T} {k : Nat} {id ext : UInt8} {dv : Value} {data : List UInt8} {sv : Value} {subs next : T} (hm : t.tf ∈ Φ) (h : t.drop k = .cons id ext dv data sv subs next) :
    Ent Φ (By dv data) ∧ Ent Φ (Rw 4 sv subs.len subs.at_) ∧ Ent Φ subs.tf := ⟨fun _ _ hw => (T.tf_at h (hw _ hm)).1, fun _ _ hw => (T.tf_at h (hw _ hm)).2.1, fun _ _ hw => (T.tf_at h (hw _ hm)).2.2⟩
theorem ent_trees {t : T} {k : Nat} {id ext : UInt8} {dv : Value} {data : List UInt8} {sv : Value} {subs next : T} (hm : t.ts ∈ Φ) (h : t.drop k = .cons id ext dv data sv subs next) :
    Ent Φ (Rw 4 sv subs.len subs.at_) ∧ Ent Φ subs.tf := ⟨fun _ _ hw => (T.ts_at h (hw _ hm)).1, fun _ _ hw => (T.ts_at h (hw _ hm)).2⟩
theorem ent_slT {v : Value} {t : T} (hm : Sl 4 v t.len t.cells ∈ Φ) : Ent Φ (Rw 4 v t.len t.at_) := fun w O h => by
  have h1 := ent_slRw hm w O h
  exact rwP_congr' h1 fun i hi => T.cells_at t i hi
where
  rwP_congr' {size : Nat} {v : Value} {n : Nat} {f g : Nat → List Value} {w : World} {O : Nat → Prop} (h : rwP size v n f w O) (e : ∀ i, i < n → f i = g i) : rwP size v n g w O := by
    obtain ⟨A, c, hv, h1, h2, hr⟩ := h
    refine ⟨A, c, hv, h1, h2, fun hn => ?_⟩
    obtain ⟨ad, hA, hlt, hO, hcell⟩ := hr hn
    exact ⟨ad, hA, hlt, hO, fun i hi j u hu => hcell i hi j u (by rw [e i hi]; exact hu)⟩
theorem ent_tsapp {t u : T} (h1 : t.ts ∈ Φ) (h2 : u.ts ∈ Φ) : Ent Φ (t.app u).ts := fun _ _ h => T.ts_app (h _ h1) (h _ h2)
theorem ent_ts1 {id ext : UInt8} {dv : Value} {data : List UInt8} {sv : Value} {subs : T} (h1 : Rw 4 sv subs.len subs.at_ ∈ Φ) (h2 : subs.tf ∈ Φ) : Ent Φ (T.cons id ext dv data sv subs .nil).ts := fun _ _ h => ⟨h _ h1, h _ h2, trivial⟩
theorem ent_tf1 {id ext : UInt8} {dv : Value} {data : List UInt8} {sv : Value} {subs : T} (h0 : By dv data ∈ Φ) (h1 : Rw 4 sv subs.len subs.at_ ∈ Φ) (h2 : subs.tf ∈ Φ) : Ent Φ (T.cons id ext dv data sv subs .nil).tf := fun _ _ h => ⟨h _ h0, h _ h1, h _ h2, trivial⟩
theorem ent_tf0 : Ent Φ T.nil.tf := fun _ _ _ => trivial
theorem ent_ts0 : Ent Φ T.nil.ts := fun _ _ _ => trivial
/-- the data let go with the tree's lists. -/
theorem Holds.tree {bt : TypeId} {t : T} {w : World} (h : Holds C (pk (rowsL bt t.dls) :: Γ) Φ w) (hm : t.ts ∈ Φ) : Holds C Γ (t.tf :: Φ) w := by
  have hd : ∀ k, fpL (rowsL bt t.dls) k → ¬ avo C.O0 Γ k := fun k hk hn => by
    rcases hn with hn | hn
    · have h1 := h.o0 k hn
      rcases h.ofp k (fpL_cons.2 (.inl hk)) with h2 | h2
      · exact h1.2 h2
      · omega
    · exact h.own.2.1 k hk hn
  exact h.drop.cons (T.tf_of_ts h.own.1 hd (h.drop.sp _ hm))
theorem WL_tree {ops : Array Oper} {l : List Oper} {Q : Exit → Act → World → Prop} {bt : TypeId} {t : T} (hp : Pick (pk (rowsL bt t.dls)) Γ Γ1) (hm : t.ts ∈ Φ) (h : WL C ops l fr Γ1 (t.tf :: Φ) Q) : WL C ops l fr Γ Φ Q := fun a w ha hw => h a w ha ((pick_holds hp hw).tree hm)
/-- a tree lent: its data are owned. -/
theorem Bor.tree {bt : TypeId} {t : T} (hm : t.ts ∈ Φ) {Φb : List SP} (hb : ∀ ψ ∈ Φb, ψ = t.tf ∨ ψ ∈ Φ) : Bor [pk (rowsL bt t.dls)] Φ Φb := fun w O ho hd hΦ ψ hψ => by
  rcases hb ψ hψ with rfl | h
  · exact T.tf_of_ts ho.1 (fun k hk => hd k (fpL_cons.2 (.inl hk))) (hΦ _ hm)
  · exact hΦ ψ h
end
theorem rw_le {C : Ctx} {Γ : List OA} {Φ : List SP} {size n : Nat} {v : Value} {f : Nat → List Value} (hm : Rw size v n f ∈ Φ) : ∀ w, Holds C Γ Φ w → n ≤ 9223372036854775807 := fun w h => by
  obtain ⟨A, c, _, h1, h2, _⟩ := h.sp _ hm
  have : maxLen = 9223372036854775807 := rfl
  omega
theorem row_le {C : Ctx} {Γ Γ' : List OA} {Φ : List SP} {size n : Nat} {v : Value} {t : TypeId} {xs : List Value} (hp : Pick (.row v t size n xs) Γ Γ') : ∀ w, Holds C Γ Φ w → n ≤ 9223372036854775807 := fun w h => by
  obtain ⟨A, c, _, h1, h2, _⟩ := row_nil_or (pick_holds hp h).own.1
  have : maxLen = 9223372036854775807 := rfl
  omega
end Go.Hs

/-
  Elements of own rows of structs, boxes let go, own rows cut and cleared, max. No program is named here.
-/
namespace Go.Hs
open Go Go.RowKit

/-- a truth kept out of the way of reckoning tactics. -/
structure Kp (p : Prop) : Prop where
  out : p

theorem row_cell {w : World} {v : Value} {t : TypeId} {size n : Nat} {xs : List Value} (h : w.ownsRow 0 t size v n xs) {k : Nat} {u : Value} (hk : xs[k]? = some u) :
    ∃ b c cur, v = .slice (some ⟨b, 0, none⟩) n c ∧ w.heap[b]? = some (.cells cur t (0, 0)) ∧ n ≤ c ∧ cur.size = c * size ∧ cur.toList.take (n * size) = xs ∧ w.cell? ⟨b, k, none⟩ = some u := by
  obtain ⟨h1, h2⟩ := h
  have hlt := (List.getElem?_eq_some_iff.1 hk).1
  rcases h2 with ⟨rfl, rfl⟩ | ⟨g, cap, cur, rfl, _, hh, hc, hm, hs, ht⟩
  · omega
  · refine ⟨g, cap, cur, rfl, hh, hc, hs, ht, ?_⟩
    simp only [World.cell?, hh]
    rw [← ht, List.getElem?_take_of_lt (by omega)] at hk
    simpa using hk

theorem putN_mk : ∀ (off : Nat) (us cs : List Value), off + us.length ≤ cs.length → putN off us cs = some (cs.take off ++ us ++ cs.drop (off + us.length)) := by
  intro off
  induction off with
  | zero =>
    intro us
    induction us with
    | nil => intro cs _; rw [putN_nil]; simp
    | cons u us ih =>
      intro cs hcs
      cases cs with
      | nil => simp at hcs
      | cons c cs =>
        have ih' := ih cs (by simp at hcs; omega)
        simp only [putN, ih']
        simp
  | succ off ih =>
    intro us cs hcs
    cases cs with
    | nil => simp at hcs
    | cons c cs =>
      have ih' := ih us cs (by simp at hcs; omega)
      simp only [putN, ih']
      simp [Nat.add_right_comm]

section
variable {C : Ctx} {ops : Array Oper} {l : List Oper} {fr : Fr} {Γ Γ' Γ1 : List OA} {Φ : List SP} {Q : Exit → Act → World → Prop}
  {d : Nat} {ty : TypeId} {pos : String} {aft : Array Edge} {g : Option (Nat × Bool)}

theorem R_max2 {x y : Operand} {kd : IntKind} {a b m : Int} {ts : Array TypeId} (hx : evO fr x = some (.int kd a)) (hy : evO fr y = some (.int kd b))
    (hr : (if b > a then b else a) = m) : Runs C fr Γ Φ ⟨some d, .call { callee := .builtin .max, args := #[x, y], argTypes := ts }, ty, pos, aft, g⟩ (.int kd m) :=
  Runs.pure fun a' w ha _ => by
    subst hr
    simp [execOp, resolve, invoke, builtin, evO_sound ha hx, evO_sound ha hy, Builtin.max_, Builtin.max2]
theorem R_min2 {x y : Operand} {kd : IntKind} {a b m : Int} {ts : Array TypeId} (hx : evO fr x = some (.int kd a)) (hy : evO fr y = some (.int kd b))
    (hr : (if b < a then b else a) = m) : Runs C fr Γ Φ ⟨some d, .call { callee := .builtin .min, args := #[x, y], argTypes := ts }, ty, pos, aft, g⟩ (.int kd m) :=
  Runs.pure fun a' w ha _ => by
    subst hr
    simp [execOp, resolve, invoke, builtin, evO_sound ha hx, evO_sound ha hy, Builtin.min_, Builtin.min2]

theorem R_addS {x y : Operand} {t t' : TypeId} {a b : List UInt8} (hx : evO fr x = some (strV a)) (hy : evO fr y = some (strV b)) (hl : a.length + b.length ≤ 9223372036854775807) :
    Runs C fr Γ Φ ⟨some d, .binOp .add t x y t', ty, pos, aft, g⟩ (strV (a ++ b)) :=
  Runs.pure fun a' w ha _ => by
    have e1 := evO_sound ha hx
    have e2 := evO_sound ha hy
    simp only [strV] at e1 e2
    have hb : (⟨a.toArray⟩ : ByteArray) ++ ⟨b.toArray⟩ = ⟨(a ++ b).toArray⟩ := by
      apply ByteArray.ext
      rw [ByteArray.data_append]
      simp
    have hn : ¬ ((((⟨a.toArray⟩ : ByteArray).size + (⟨b.toArray⟩ : ByteArray).size : Nat) : Int) > IntKind.i64.max) := by
      have e3 : (⟨a.toArray⟩ : ByteArray).size = a.length := by simp [ByteArray.size]
      have e4 : (⟨b.toArray⟩ : ByteArray).size = b.length := by simp [ByteArray.size]
      rw [e3, e4]
      have : IntKind.i64.max = 9223372036854775807 := rfl
      omega
    have hg : (eqGuard .add t x y (.string ⟨a.toArray⟩) (.string ⟨b.toArray⟩)).run C.P w = .ok () w := by simp [eqGuard]
    simp only [execOp, e1, e2, hg, binOp, Op.stringOp, Sem.run_bind, if_neg hn, Sem.run_pure, Result.andThen_ok, hb, strV]

/-- a list laid open: all its cells. -/
theorem ent_rwSl {v : Value} {size n : Nat} {f : Nat → List Value} {xs : List Value} (h0 : 0 < size) (hl : xs.length = n * size) (hf : ∀ i, i < n → (xs.drop (i * size)).take size = f i) (hm : Rw size v n f ∈ Φ) : Ent Φ (Sl size v n xs) := fun w O h => by
  obtain ⟨A, c, hv, h1, h2, hr⟩ := h _ hm
  refine ⟨hl, A, c, hv, h1, h2, fun hn => ?_⟩
  obtain ⟨ad, hA, hlt, hO, hcell⟩ := hr hn
  refine ⟨ad, hA, hlt, hO, fun j u hu => ?_⟩
  have hj : j < n * size := by rw [← hl]; exact (List.getElem?_eq_some_iff.1 hu).1
  have hi : j / size < n := (Nat.div_lt_iff_lt_mul h0).2 hj
  have hj2 : j / size * size + j % size = j := by rw [Nat.mul_comm]; exact Nat.div_add_mod j size
  have h3 := hcell (j / size) hi (j % size) u (by
    rw [← hf _ hi, List.getElem?_take_of_lt (Nat.mod_lt _ h0), List.getElem?_drop, hj2]
    exact hu)
  rwa [hj2] at h3

theorem Ones.append {us vs : List Value} (h : Ones C Γ Φ us) (k : Ones C Γ Φ vs) : Ones C Γ Φ (us ++ vs) := fun u hu => (List.mem_append.1 hu).elim (h u) (k u)
theorem ones_tree {t : T} (hm : t.tf ∈ Φ) : Ones C Γ Φ t.cells := by
  have key : ∀ (t : T) (O : Nat → Prop) (w : World), t.tfP w O → ∀ u ∈ t.cells, u.oneCell' = true := by
    intro t O w
    induction t with
    | nil => intro _ u hu; cases hu
    | cons id ext dv data sv subs next _ ih =>
      intro h u hu
      simp only [T.cells, List.mem_cons] at hu
      rcases hu with rfl | rfl | rfl | rfl | hu
      · rfl
      · rfl
      · obtain ⟨_, A, c, rfl, _⟩ := (show slP 1 u data.length (data.map bcell) w O from h.1)
        rfl
      · obtain ⟨A, c, rfl, _⟩ := (show rwP 4 u subs.len subs.at_ w O from h.2.1)
        rfl
      · exact ih h.2.2.2 u hu
  exact fun u hu R w hw => key t _ w (hw.sp _ hm) u hu
theorem ent_rwT {v : Value} {t : T} (hm : Rw 4 v t.len t.at_ ∈ Φ) : Ent Φ (Sl 4 v t.len t.cells) := ent_rwSl (by decide) (T.cells_length t) (fun i hi => T.cells_at t i hi) hm

/-- append to an own row, of lasting data whose cells are each one. -/
theorem E_appendO {t e : TypeId} {x y : Operand} {v u : Value} {size n m nm : Nat} {xs news all : List Value} {i : TypeInfo} {z : Value}
    (hx : evO fr x = some v) (hy : evO fr y = some u) (hp : Pick (.row v e size n xs) Γ Γ') (hm : Sl size u m news ∈ Φ)
    (ht : C.P.underlying t = some (.slice e)) (hi : C.P.info? e = some i) (hz : i.zero = some z) (hsize : i.size = size) (hzs : z.cells.size = size) (hsz : 0 < size) (h1 : Ones C Γ Φ news)
    (hby : i.bytes ≤ 128) (hb : n + m ≤ 1099511627776) (hnm : n + m = nm) (hall : xs ++ news = all) :
    Effs C fr Γ Φ ⟨some d, .call { callee := .builtin .append, args := #[x, y], argTypes := #[t, t] }, ty, pos, aft, g⟩ (X := Value) (fun _ => True) (fun q => q) (fun v' => .row v' e size nm all :: Γ') (fun _ => Φ) := by
  refine ⟨fun _ => AllIn.refl _, fun R a w ha hw => ?_⟩
  exact (E_append hx hy hp hm ht hi hz hsize hzs hsz (fun u hu => h1 u hu R w hw) hby hb hnm hall).2 R a w ha hw

/-- a field's address in an element of an own row. -/
theorem R_fieldRow {t ft rt : TypeId} {fs : Array Field} {x : Operand} {v : Value} {i j n fo bo size sz : Nat} {xs : List Value} {nm tag pk : String} {emb : Bool} (hx : evO fr x = some (idxV size i v))
    (hp : Pick (.row v rt size n xs) Γ Γ') (hi : i < n)
    (ht : C.P.underlying t = some (.struct fs)) (hf : fs[j]? = some ⟨nm, ft, fo, emb, tag, pk, bo⟩) (hs : ∀ w, (sizeOf ft).run C.P w = .ok sz w) (hn : Nat.beq sz 0 = false) :
    Runs C fr Γ Φ ⟨some d, .fieldAddr t x j, ty, pos, aft, g⟩ (fldV fo (idxV size i v)) :=
  Runs.pure fun a w ha hw => by
    obtain ⟨hl, h2⟩ := (pick_holds hp hw).own.1
    rcases h2 with ⟨h2, _⟩ | ⟨b, cap, cur, rfl, _, hb, hc, hm, hsz, htk⟩
    · omega
    · have h := run_fieldAt (P := C.P) (a := (⟨b, 0, none⟩ : Addr).add (i * size)) ht hf hs hn w
      simp only [execOp, evO_sound ha hx, idxV, Sem.run_bind, h, Result.andThen_ok, Sem.run_pure, fldV]

theorem R_loadRowF {t rt : TypeId} {x : Operand} {v u : Value} {n i off size : Nat} {xs : List Value} (hx : evO fr x = some (fldV off (idxV size i v))) (hp : Pick (.row v rt size n xs) Γ Γ') (hagg : ∀ w, (isAgg t).run C.P w = .ok false w)
    (hc : xs[i * size + off]? = some u) : Runs C fr Γ Φ ⟨some d, .load t x, ty, pos, aft, g⟩ u :=
  Runs.pure fun a w ha hw => by
    obtain ⟨b, c, cur, rfl, hb, _, _, _, h0⟩ := row_cell (pick_holds hp hw).own.1 hc
    have h0 : w.cell? (((⟨b, 0, none⟩ : Addr).add (i * size)).add off) = some u := by
      rw [Addr.add_lit, Addr.add_lit, Nat.zero_add]
      exact h0
    simp [execOp, evO_sound ha hx, idxV, fldV, Instr.loadAt, Instr.sureAddr, run_loadVar_one hagg h0]

theorem R_loadRowN {t rt : TypeId} {x : Operand} {v : Value} {n i size : Nat} {xs us : List Value} (hx : evO fr x = some (idxV size i v)) (hp : Pick (.row v rt size n xs) Γ Γ') (hagg : ∀ w, (isAgg t).run C.P w = .ok true w)
    (hs : ∀ w, (sizeOf t).run C.P w = .ok us.length w) (hi : i < n) (hc : ∀ j u, us[j]? = some u → xs[i * size + j]? = some u) : Runs C fr Γ Φ ⟨some d, .load t x, ty, pos, aft, g⟩ (.agg us.toArray) :=
  Runs.pure fun a w ha hw => by
    obtain ⟨hl, h2⟩ := (pick_holds hp hw).own.1
    rcases h2 with ⟨h2, _⟩ | ⟨b, cap, cur, rfl, _, hb, hcc, hm, hsz, htk⟩
    · omega
    · have hcell : ∀ j u, us[j]? = some u → w.cell? (((⟨b, 0, none⟩ : Addr).add (i * size)).add j) = some u := fun j u hu => by
        obtain ⟨b', c, cur', e, _, _, _, _, h0⟩ := row_cell (pick_holds hp hw).own.1 (hc j u hu)
        injection e with e
        injection e with e
        injection e with e
        subst e
        rw [Addr.add_lit, Addr.add_lit, Nat.zero_add]
        exact h0
      simp [execOp, evO_sound ha hx, idxV, Instr.loadAt, Instr.sureAddr, run_loadVar_agg hagg hs hcell]

/-- a store into an own row, at whatever place. -/
theorem E_storeRowK {t rt : TypeId} {x y : Operand} {v z : Value} {n i off size k : Nat} {xs us ds : List Value} (hx : evO fr x = some (fldV off (idxV size i v))) (hy : evO fr y = some z) (hp : Pick (.row v rt size n xs) Γ Γ')
    (hv : CellsE C Γ Φ z us) (h1 : Ones C Γ Φ us) (hs : ∀ w, (sizeOf t).run C.P w = .ok us.length w) (hi : i < n) (hk : i * size + off = k) (hn : putN k us xs = some ds) :
    Effs C fr Γ Φ ⟨none, .store t x y, ty, pos, aft, g⟩ (X := Unit) (fun _ => True) (fun _ => undef) (fun _ => .row v rt size n ds :: Γ') (fun _ => Φ) := by
  subst hk
  refine ⟨fun _ => AllIn.refl _, fun R a w ha hw => ?_⟩
  have hv := hv R w hw
  have h1 : ∀ u ∈ us, u.oneCell' = true := fun u hu => h1 u hu R w hw
  have hw' := pick_holds (pick_app hp R) hw
  obtain ⟨hl, h2⟩ := hw'.own.1
  rcases h2 with ⟨h2, _⟩ | ⟨b, cap, cur, rfl, _, hb, hcc, hm, hsz, htk⟩
  · omega
  · obtain ⟨hlen, hds⟩ := putN_eq hn
    have hle : xs.length ≤ cur.size := by rw [← htk]; simp; omega
    have hb' : w.heap[b]? = some (.cells cur.toList.toArray rt (0, 0)) := by simpa using hb
    have hpp := putN_mk (i * size + off) us cur.toList (by simp; omega)
    have hst := run_storeVar_own (P := C.P) (w := w) (t := t) (us := us) (v := z) hb' hs hv h1 hpp
    have hna : (off + i * size) = i * size + off := by omega
    refine .skip (w' := w.setRow b (cur.toList.take (i * size + off) ++ us ++ cur.toList.drop (i * size + off + us.length)).toArray) ?_ ⟨(), trivial, rfl, setRow_row hw' hb ?_ ?_⟩
    · simp only [execOp, evO_sound ha hx, evO_sound ha hy, fldV, idxV, Addr.add_lit, Nat.zero_add]
      simp [Instr.storeAt, Instr.sureAddr, hst]
    · simp
      omega
    · rw [hds, ← htk]
      apply List.ext_getElem?
      intro j
      have hcs : n * size ≤ cur.size := by rw [hsz]; exact Nat.mul_le_mul_right _ hcc
      simp only [List.getElem?_append, List.getElem?_take, List.getElem?_drop, List.length_append, List.length_take, Array.length_toList]
      rw [Nat.min_eq_left (show i * size + off ≤ cur.size by omega), Nat.min_eq_left hcs, Nat.min_eq_left (show i * size + off ≤ n * size by omega)]
      by_cases c1 : j < i * size + off
      · rw [if_pos (show j < n * size by omega), if_pos (show j < i * size + off + us.length by omega), if_pos c1, if_pos c1, if_pos (show j < i * size + off + us.length by omega), if_pos c1, if_pos c1, if_pos (show j < n * size by omega)]
      · by_cases c2 : j < i * size + off + us.length
        · rw [if_pos (show j < n * size by omega), if_pos c2, if_neg c1, if_pos c2, if_neg c1]
        · by_cases c3 : j < n * size
          · rw [if_pos c3, if_neg c2, if_neg c2, if_pos (by omega)]
          · rw [if_neg c3, if_neg c2, if_neg (by omega)]

theorem E_storeRowN {t rt : TypeId} {x y : Operand} {v z : Value} {n i size k : Nat} {xs us ds : List Value} (hx : evO fr x = some (idxV size i v)) (hy : evO fr y = some z) (hp : Pick (.row v rt size n xs) Γ Γ')
    (hv : CellsE C Γ Φ z us) (h1 : Ones C Γ Φ us) (hs : ∀ w, (sizeOf t).run C.P w = .ok us.length w) (hi : i < n) (hk : i * size = k) (hn : putN k us xs = some ds) :
    Effs C fr Γ Φ ⟨none, .store t x y, ty, pos, aft, g⟩ (X := Unit) (fun _ => True) (fun _ => undef) (fun _ => .row v rt size n ds :: Γ') (fun _ => Φ) := by
  have key : ∀ (O : List OA) (w : World), Holds C (Γ ++ O) Φ w → fldV 0 (idxV size i v) = idxV size i v := fun O w hw => by
    obtain ⟨hl, h2⟩ := (pick_holds (pick_app hp O) hw).own.1
    rcases h2 with ⟨h2, _⟩ | ⟨b, cap, cur, rfl, _, hb, hcc, hm, hsz, htk⟩
    · omega
    · simp only [idxV, fldV, Addr.add_lit, Nat.add_zero]
  refine ⟨fun _ => AllIn.refl _, fun R a w ha hw => ?_⟩
  have hx' : evO fr x = some (fldV 0 (idxV size i v)) := by rw [key R w hw]; exact hx
  exact (E_storeRowK hx' hy hp hv h1 hs hi (by rw [Nat.add_zero]; exact hk) hn).2 R a w ha hw

/-- an own block, let go. -/
theorem Holds.letgoK {b : Nat} {t : TypeId} {cs : List Value} {w : World} (h : Holds C (.blk b t cs :: Γ) Φ w) : Holds C Γ (Pt (.pointer (some ⟨b, 0, none⟩)) cs :: Φ) w := by
  have ho := h.own
  refine h.drop.cons ⟨⟨b, 0, none⟩, rfl, OA.lt ho.1 rfl, fun hO => ?_, fun j u hu => ?_⟩
  · rcases hO with hO | hO
    · have h1 := h.o0 b hO
      rcases h.ofp b (fpL_cons.2 (.inl rfl)) with h2 | h2
      · exact h1.2 h2
      · have := h1.1
        omega
    · exact ho.2.1 b rfl hO
  · rw [Addr.add_lit, Nat.zero_add, blk_cell ho.1]
    exact hu
theorem WQ_letgoK {e : Exit} {b : Nat} {t : TypeId} {cs : List Value} (hp : Pick (.blk b t cs) Γ Γ1) (h : WQ C e fr Γ1 (Pt (.pointer (some ⟨b, 0, none⟩)) cs :: Φ) Q) : WQ C e fr Γ Φ Q := fun a w ha hw => h a w ha (pick_holds hp hw).letgoK

/-- the front of an own row. -/
theorem E_cutRow {t e rt : TypeId} {x y : Operand} {v : Value} {size n j : Nat} {kd : IntKind} {ii : Int} {xs us : List Value} (hx : evO fr x = some v) (hy : evO fr y = some (.int kd ii)) (hp : Pick (.row v rt size n xs) Γ Γ')
    (ht : C.P.underlying t = some (.slice e)) (hs : ∀ w, (sizeOf e).run C.P w = .ok size w) (hii : ii = (j : Int)) (hj : j ≤ n) (hu : xs.take (j * size) = us) :
    Effs C fr Γ Φ ⟨some d, .slice t x none (some y) none, ty, pos, aft, g⟩ (X := Unit) (fun _ => True) (fun _ => cutV size 0 j v) (fun _ => .row (cutV size 0 j v) rt size j us :: Γ') (fun _ => Φ) := by
  subst hii
  subst hu
  refine ⟨fun _ => AllIn.refl _, fun R a w ha hw => ?_⟩
  have hw' := pick_holds (pick_app hp R) hw
  obtain ⟨hl, h2⟩ := hw'.own.1
  have hrun : ∀ A c, v = .slice A n c → n ≤ c → (execOp a.eval ⟨some d, .slice t x none (some y) none, ty, pos, aft, g⟩).run C.P w = .ok (.value (cutV size 0 j v)) w := fun A c hv hc => by
    subst hv
    have h := run_slice_data_h (P := C.P) (w := w) (n := n) (A := A) (c := c) (kh := kd) ht hs (show j ≤ c by omega)
    simp [execOp, evO_sound ha hx, evO_sound ha hy, h, cutV]
  rcases h2 with ⟨rfl, rfl⟩ | ⟨b, cap, cur, rfl, _, hb, hcc, hm, hsz, htk⟩
  · obtain rfl : j = 0 := by omega
    refine .val (hrun none 0 rfl (Nat.le_refl _)) ⟨(), trivial, rfl, ?_⟩
    have e : cutV size 0 0 (.slice none 0 0) = .slice none 0 0 := rfl
    rw [e]
    refine hw'.move (Mod.refl _ _) ⟨⟨by simp, .inl ⟨rfl, rfl⟩⟩, hw'.own.2.1, hw'.own.2.2⟩ fun k _ hk => ?_
    rcases fpL_cons.1 hk with hk | hk
    · exact fpL_cons.2 (.inl hk)
    · exact fpL_cons.2 (.inr hk)
  · refine .val (hrun _ cap rfl hcc) ⟨(), trivial, rfl, ?_⟩
    have e : cutV size 0 j (.slice (some ⟨b, 0, none⟩) n cap) = .slice (some ⟨b, 0, none⟩) j cap := by
      simp only [cutV, Nat.zero_mul, Nat.sub_zero, Option.map_some, Addr.add_lit, Nat.zero_add]
      split <;> rfl
    rw [e]
    have hj2 : j * size ≤ n * size := Nat.mul_le_mul_right _ hj
    refine hw'.move (Mod.refl _ _) ⟨⟨by simp; omega, .inr ⟨b, cap, cur, rfl, Nat.zero_le _, hb, by omega, hm, hsz, ?_⟩⟩, hw'.own.2.1, hw'.own.2.2⟩ fun k _ hk => ?_
    · rw [← htk, List.take_take, Nat.min_eq_left hj2]
    · rcases fpL_cons.1 hk with hk | hk
      · exact fpL_cons.2 (.inl hk)
      · exact fpL_cons.2 (.inr hk)

/-- the end of an own row made zero. -/
theorem E_clearRow {t e rt : TypeId} {x : Operand} {v z : Value} {size n j : Nat} {xs : List Value} (hx : evO fr x = some (cutV size j n v)) (hp : Pick (.row v rt size n xs) Γ Γ')
    (ht : C.P.underlying t = some (.slice e)) (hz : ∀ w, (zeroValue e).run C.P w = .ok z w) (hzs : z.cells.size = size) (hz1 : z.cells.toList.all (fun u => u.oneCell') = true) (hj : j ≤ n) :
    Effs C fr Γ Φ ⟨none, .call { callee := .builtin .clear, args := #[x], argTypes := #[t] }, ty, pos, aft, g⟩ (X := List Value) (fun _ => True) (fun _ => .tuple #[]) (fun zs => .row v rt size n (xs.take (j * size) ++ zs) :: Γ') (fun _ => Φ) := by
  refine ⟨fun _ => AllIn.refl _, fun R a w ha hw => ?_⟩
  have hw' := pick_holds (pick_app hp R) hw
  obtain ⟨hl, h2⟩ := hw'.own.1
  by_cases hjn : j = n
  · subst hjn
    refine .val (w' := w) (v := .tuple #[]) ?_ ⟨[], trivial, rfl, ?_⟩
    · rcases h2 with ⟨rfl, rfl⟩ | ⟨b, cap, cur, rfl, _, hb, hcc, hm, hsz, htk⟩
      · simp [execOp, resolve, invoke, builtin, evO_sound ha hx, cutV, Builtin.clear_, run_underlying ht]
      · by_cases hcn : cap = j
        · simp [execOp, resolve, invoke, builtin, evO_sound ha hx, cutV, Builtin.clear_, run_underlying ht, hcn]
        · simp [execOp, resolve, invoke, builtin, evO_sound ha hx, cutV, Builtin.clear_, run_underlying ht, hcn]
    · show Holds C (.row v rt size j (xs.take (j * size) ++ []) :: Γ' ++ R) Φ w
      rw [List.append_nil, List.take_of_length_le (by omega)]
      exact hw'
  · rcases h2 with ⟨rfl, rfl⟩ | ⟨b, cap, cur, rfl, _, hb, hcc, hm, hsz, htk⟩
    · omega
    · have hz1' : ∀ u ∈ (Builtin.zeroCells z.cells (n - j)).toList, u.oneCell' = true := by
        intro u hu
        have hall : ∀ u ∈ z.cells.toList, u.oneCell' = true := List.all_eq_true.1 hz1
        simp only [Builtin.zeroCells, Array.toList_map, List.mem_map] at hu
        obtain ⟨i, hi, rfl⟩ := hu
        have hi' : i < (n - j) * z.cells.size := by simpa using hi
        have h0 : 0 < z.cells.size := by
          rcases Nat.eq_zero_or_pos z.cells.size with h | h
          · rw [h] at hi'; omega
          · exact h
        have hlt : i % z.cells.size < z.cells.size := Nat.mod_lt _ h0
        rw [getElem!_pos z.cells _ hlt]
        exact hall _ (by simp)
      have hzl : (Builtin.zeroCells z.cells (n - j)).toList.length = (n - j) * size := by simp [Builtin.zeroCells, hzs]
      have hsum : j * size + (n - j) * size = n * size := by rw [← Nat.add_mul]; congr 1; omega
      have hcap : n * size ≤ cap * size := Nat.mul_le_mul_right _ hcc
      have hst := run_storeCells_at C.P b (j * size) rt (Builtin.zeroCells z.cells (n - j)).toList 0 cur w hb (by rw [hzl]; omega) hz1'
      rw [Nat.add_zero] at hst
      refine .val (w' := w.setRow b (cur.toList.take (j * size) ++ (Builtin.zeroCells z.cells (n - j)).toList ++ cur.toList.drop (j * size + (Builtin.zeroCells z.cells (n - j)).toList.length)).toArray) (v := .tuple #[]) ?_ ⟨(Builtin.zeroCells z.cells (n - j)).toList, trivial, rfl, setRow_row hw' hb ?_ ?_⟩
      · have hne : ¬ cap = j := by omega
        obtain ⟨m', hpos⟩ : ∃ m', n - j = m' + 1 := ⟨n - j - 1, by omega⟩
        simp only [execOp, resolve, invoke, builtin, evO_sound ha hx, cutV, hne, if_false, Option.map_some, Addr.add_lit, Nat.zero_add]
        rw [hpos] at hst ⊢
        simp [hpos, Deferred.ofValue, Builtin.clear_, run_underlying ht, hz, evO_sound ha hx, cutV, hne, Addr.add_lit, hst]
      · simp only [List.size_toArray, List.length_append, List.length_take, List.length_drop, hzl, Array.length_toList]
        omega
      · have l1 : (cur.toList.take (j * size)).length = j * size := by rw [List.length_take, Array.length_toList]; omega
        rw [List.take_left' (by rw [List.length_append, l1, hzl]; exact hsum), ← htk, List.take_take, Nat.min_eq_left (by omega)]

/-- where ways meet again, ahead of what follows. -/
theorem W_cutKT {x y : Code} {X : Type} (ds ps : List Nat) (I : X → Prop) (ch : X → Fr) (gn : X → List OA) (hn : X → List SP) {fr1 : Fr} {Γ1 : List OA} {F : X → Fr} {G : X → List OA} {H : X → List SP}
    (hf : keepO ds fr = some fr1) (hg : dropO ps 0 Γ = some Γ1) (hF : ∀ x, appO (ch x) fr1 = some (F x)) (hG : ∀ x, appO (gn x) Γ1 = some (G x)) (hH : ∀ x, appO (hn x) Φ = some (H x))
    (h : W C x fr Γ Φ (Exit.then (fun a w => ∃ z, I z ∧ fok C (F z) a ∧ Holds C (G z) (H z) w) Q)) (k : ∀ z, I z → W C y (F z) (G z) (H z) Q) : W C x fr Γ Φ (Exit.then (y.wpIn (fenceOf C.rd) 0 C.P Q) Q) := by
  intro a w ha hw
  refine wpIn_mono (h a w ha hw) fun e a' w' he => ?_
  cases e <;> first | exact he | (obtain ⟨z, h0, h1, h2⟩ := he; exact k z h0 a' w' h1 h2)
end
end Go.Hs

/-
  Loops whose rounds hold a range over a function: the marks that such a statement leaves. No program is named here.
-/
namespace Go.Hs
open Go Go.RowKit

/-- the marks of ranges over functions, and their blocks. -/
def Mk (Ds : List Nat) : List Deferred := Ds.map fun D => ⟨.collected D, #[]⟩
def mkO (Ds : List Nat) : List OA := Ds.map fun D => ob D (.deferred (some []))

section
variable {P : Program} {n : Nat} {w0 : World} {O0 M : Nat → Prop} {fr : Fr} {Γ Γ1 : List OA} {Φ : List SP} {Q : Exit → Act → World → Prop}

theorem Holds.consPk {C : Ctx} {x : OA} {Δ Γ : List OA} {Φ : List SP} {w : World} (h : Holds C (x :: pk Δ :: Γ) Φ w) : Holds C (pk (x :: Δ) :: Γ) Φ w := by
  have h1 := (h.perm (.swap _ _ _)).unpack
  exact (h1.perm (List.perm_middle)).pack
theorem WQ_mark {C : Ctx} {e : Exit} {x : OA} {Δ Γ2 : List OA} (hp : Pick x Γ Γ1) (hp' : Pick (pk Δ) Γ1 Γ2) (h : WQ C e fr (pk (x :: Δ) :: Γ2) Φ Q) : WQ C e fr Γ Φ Q :=
  fun a w ha hw => h a w ha (((pick_holds hp hw).perm (List.Perm.cons _ hp')).consPk)

theorem W_mark0 {C : Ctx} {c : Code} (h : W C c fr (pk (mkO []) :: Γ) Φ Q) : W C c fr Γ Φ Q := fun a w ha hw => h a w ha (Holds.pack (by exact hw))

theorem W_loopM {c : Code} {X : Type} {ds : List Deferred} (D : X → List Nat) (I : X → Prop) (F : X → Fr) (G : X → List OA) (H : X → List SP) (μ : X → Nat) (x0 : X) (hI : I x0) (hd : Mk (D x0) = ds)
    (h0 : WQ ⟨P, n, w0, O0, M, none, ds⟩ .normal fr Γ Φ (fun _ a w => fok ⟨P, n, w0, O0, M, none, ds⟩ (F x0) a ∧ Holds ⟨P, n, w0, O0, M, none, ds⟩ (G x0) (H x0) w))
    (round : ∀ x, I x → W ⟨P, n, w0, O0, M, none, Mk (D x)⟩ c (F x) (G x) (H x) (Exit.then (fun a w => ∃ x', I x' ∧ μ x' < μ x ∧ fok ⟨P, n, w0, O0, M, none, Mk (D x')⟩ (F x') a ∧ Holds ⟨P, n, w0, O0, M, none, Mk (D x')⟩ (G x') (H x') w) Q)) :
    W ⟨P, n, w0, O0, M, none, ds⟩ (.loop c) fr Γ Φ Q := by
  subst hd
  intro a w ha hw b k cs hro hb hr
  have key : ∀ m x a w, I x → μ x = m → fok ⟨P, n, w0, O0, M, none, Mk (D x)⟩ (F x) a → Holds ⟨P, n, w0, O0, M, none, Mk (D x)⟩ (G x) (H x) w →
      ∃ e a' w', Q e a' w' ∧ ArrivesIn (Machine.fenced P (fenceOf none)) P (lone (b.atR a (.code c :: .inLoop c :: k)) cs w) b k cs e a' w' := by
    intro m
    induction m using Nat.strongRecOn with
    | _ m ih =>
      intro x a w hi hn hfa hh
      obtain ⟨e, a₁, w₁, hq, harr⟩ := round x hi a w hfa hh b (.inLoop c :: k) cs hro hb hr
      cases e with
      | normal =>
        obtain ⟨x', hi', hlt, hfa', hh'⟩ := hq
        obtain ⟨e₂, a₂, w₂, hq₂, harr₂⟩ := ih (μ x') (hn ▸ hlt) x' a₁ w₁ hi' rfl hfa' hh'
        exact ⟨e₂, a₂, w₂, hq₂, .of_steps (StepsIn.trans harr (.one (fenced_calm hb hr rfl) stepR_inLoop)) harr₂⟩
      | exit id => exact ⟨_, a₁, w₁, hq, .pass (x := .inLoop c) rfl (fun _ _ => .inl (by simp)) harr⟩
      | goto l => exact ⟨_, a₁, w₁, hq, .pass (x := .inLoop c) rfl (fun _ _ => .inl (by simp)) harr⟩
      | ret => exact ⟨_, a₁, w₁, hq, .pass (x := .inLoop c) rfl (fun _ _ => .inl (by simp)) harr⟩
      | panic ch => exact ⟨_, a₁, w₁, hq, .pass (x := .inLoop c) rfl (fun _ _ => .inl (by simp)) harr⟩
      | outgrown => exact ⟨_, a₁, w₁, hq, .pass (x := .inLoop c) rfl (fun _ _ => .inl (by simp)) harr⟩
  obtain ⟨hfa, hh⟩ := h0 a w ha hw
  obtain ⟨e, a', w', hq, harr⟩ := key _ x0 a w hI rfl hfa hh
  exact ⟨e, a', w', hq, .of_steps (.one (fenced_calm hb hr rfl) stepR_loop) harr⟩

theorem W_loopKM {c : Code} {X : Type} {dv : List Deferred} (D : X → List Nat) (ds ps : List Nat) (I : X → Prop) (ch : X → Fr) (gn : X → List OA) (hn : X → List SP) (μ : X → Nat) (x0 : X) (hd : Mk (D x0) = dv) (hI : I x0) {fr1 : Fr} {Γ1 : List OA} {F : X → Fr} {G : X → List OA} {H : X → List SP}
    (hf : keepO ds fr = some fr1) (hg : dropO ps 0 Γ = some Γ1) (hF : ∀ x, appO (ch x) fr1 = some (F x)) (hG : ∀ x, appO (gn x) Γ1 = some (G x)) (hH : ∀ x, appO (hn x) Φ = some (H x))
    (h1 : FrIn fr (ch x0)) (h2 : SubO Γ (G x0)) (h3 : AllE (hn x0) Φ)
    (round : ∀ x, I x → W ⟨P, n, w0, O0, M, none, Mk (D x)⟩ c (F x) (G x) (H x) (Exit.then (fun a w => ∃ x', I x' ∧ μ x' < μ x ∧ fok ⟨P, n, w0, O0, M, none, Mk (D x')⟩ (F x') a ∧ Holds ⟨P, n, w0, O0, M, none, Mk (D x')⟩ (G x') (H x') w) Q)) :
    W ⟨P, n, w0, O0, M, none, dv⟩ (.loop c) fr Γ Φ Q := by
  refine W_loopM D I F G H μ x0 hI hd (WQ_fit ?_ h2 ?_) round
  · rw [← appO_eq (hF x0)]
    exact FrIn.append h1 (keepO_in hf)
  · rw [← appO_eq (hH x0)]
    exact AllE.append h3 fun ψ hψ => Ent.mem hψ

theorem WQ_againM {X : Type} {D : X → List Nat} {I : X → Prop} {F : X → Fr} {G : X → List OA} {H : X → List SP} {μ : X → Nat} {m : Nat} {dv : List Deferred} (x : X) (hd : Mk (D x) = dv) (hi : I x) (hμ : μ x < m) (h1 : FrIn fr (F x)) (h2 : SubO Γ (G x)) (h3 : AllE (H x) Φ) :
    WQ ⟨P, n, w0, O0, M, none, dv⟩ .normal fr Γ Φ (Exit.then (fun a w => ∃ x', I x' ∧ μ x' < m ∧ fok ⟨P, n, w0, O0, M, none, Mk (D x')⟩ (F x') a ∧ Holds ⟨P, n, w0, O0, M, none, Mk (D x')⟩ (G x') (H x') w) Q) := by
  subst hd
  exact fun _ _ ha hw => ⟨x, hi, hμ, ha.sub h1, (hw.subOwn h2).allE h3⟩

theorem ret_endMs {fn : Func} {X : Type} {pf : X → Prop} {ret : X → Value} {Γ' : X → List OA} {Φ' : X → List SP} {e : Exit} (he : e = .ret ∨ e = .normal) (Ds : List Nat) (x : X) (hp : pf x)
    (hD : Pick (pk (mkO Ds)) Γ Γ1)
    (hr : ∀ a w, fok ⟨P, n, w0, O0, M, none, Mk Ds⟩ fr a → Holds ⟨P, n, w0, O0, M, none, Mk Ds⟩ Γ1 Φ w → (results fn a.tmps).run P w = .ok (ret x) w) (h2 : SubO Γ1 (Γ' x)) (h3 : AllE (Φ' x) Φ) :
    WQ ⟨P, n, w0, O0, M, none, Mk Ds⟩ e fr Γ Φ (bodyPostM Fence.wide 0 P fn (FnPost w0 O0 M pf ret Γ' Φ')) := by
  intro a w ha hw
  have key : ∀ (Es : List Nat) (w : World), Holds ⟨P, n, w0, O0, M, none, Mk Ds⟩ (mkO Es ++ Γ1) Φ w → LeavesInM Fence.wide 0 P fn a.tmps (FnPost w0 O0 M pf ret Γ' Φ') (Mk Es) .returning w := by
    intro Es
    induction Es with
    | nil =>
      intro w hw
      have hw3 := (Holds.subOwn hw h2).allE h3
      exact ⟨_, hr a w ha hw, x, hp, rfl, hw3.mod, hw3.own, hw3.ofp, hw3.sp⟩
    | cons D Es ih =>
      intro w hw
      have hat := ob_at hw
      have hw2 := (hw.putO (.deferred none)).drop
      exact ⟨(fun h => by cases h), .inl ⟨D, _, rfl, run_takeDeferred hat, ih _ hw2⟩⟩
  have hw1 := (pick_holds hD hw).unpack
  have hl := key Ds w hw1
  rw [← show a.defers = Mk Ds from ha.1] at hl
  rcases he with rfl | rfl
  · exact hl
  · exact hl
end

section
variable {P : Program} {n : Nat} {w0 : World} {O0 M : Nat → Prop} {fn : Func} {fr : Fr} {Γ Γ1 : List OA} {Φ : List SP} {X : Type} {pf : X → Prop} {ret : X → Value} {Γ' : X → List OA} {Φ' : X → List SP}
theorem ret2Ms {r1 r2 : ResultVar} {v1 v2 : Value} (Ds : List Nat) (hres : fn.results = #[r1, r2]) (x : X) (hp : pf x) (hD : Pick (pk (mkO Ds)) Γ Γ1)
    (h1 : RV ⟨P, n, w0, O0, M, none, Mk Ds⟩ fr Γ1 Φ r1 v1) (h1' : RV ⟨P, n, w0, O0, M, none, Mk Ds⟩ fr Γ1 Φ r2 v2) (hv : .tuple #[v1, v2] = ret x) (h2 : SubO Γ1 (Γ' x)) (h3 : AllE (Φ' x) Φ) :
    WQ ⟨P, n, w0, O0, M, none, Mk Ds⟩ .ret fr Γ Φ (bodyPostM Fence.wide 0 P fn (FnPost w0 O0 M pf ret Γ' Φ')) :=
  ret_endMs (.inl rfl) Ds x hp hD (fun a w ha hw => by rw [← hv, results_run, hres]; simp [h1 a w ha hw, h1' a w ha hw]) h2 h3
end
end Go.Hs

/-
  Own rows sliced, own trees lent, rows let go by parts. No program is named here.
-/
namespace Go.Hs
open Go Go.RowKit

section
variable {C : Ctx} {ops : Array Oper} {l : List Oper} {fr : Fr} {Γ Γ' Γ1 : List OA} {Φ : List SP} {Q : Exit → Act → World → Prop}
  {d : Nat} {ty : TypeId} {pos : String} {aft : Array Edge} {g : Option (Nat × Bool)}

/-- the end of an own row, as a value. -/
theorem R_sliceRow {t e rt : TypeId} {x y : Operand} {v : Value} {size n j : Nat} {kd : IntKind} {ii : Int} {xs : List Value} (hx : evO fr x = some v) (hy : evO fr y = some (.int kd ii)) (hp : Pick (.row v rt size n xs) Γ Γ')
    (ht : C.P.underlying t = some (.slice e)) (hs : ∀ w, (sizeOf e).run C.P w = .ok size w) (hii : ii = (j : Int)) (hj : j ≤ n) :
    Runs C fr Γ Φ ⟨some d, .slice t x (some y) none none, ty, pos, aft, g⟩ (cutV size j n v) :=
  Runs.pure fun a w ha hw => by
    subst hii
    obtain ⟨A, c, rfl, hc, _⟩ := row_nil_or (pick_holds hp hw).own.1
    have h := run_slice_data_l (P := C.P) (w := w) (n := n) (A := A) (c := c) (kl := kd) ht hs hj
    simp [execOp, evO_sound ha hx, evO_sound ha hy, h, cutV]

theorem Ones.lits {us : List Value} (h : ∀ u ∈ us, u.oneCell' = true) : Ones C Γ Φ us := fun u hu => OneC.lit (h u hu)

theorem Holds.dropAll : ∀ {Δ Γ : List OA} {w : World}, Holds C (Δ ++ Γ) Φ w → Holds C Γ Φ w
  | [], _, _, h => h
  | _ :: Δ, _, _, h => Holds.dropAll (Δ := Δ) (Holds.drop h)
/-- of many rows some. -/
theorem Holds.subL {bt : TypeId} {L L' K : List (Value × List UInt8)} {w : World} (hp : L.Perm (L' ++ K)) (h : Holds C (pk (rowsL bt L) :: Γ) Φ w) : Holds C (pk (rowsL bt L') :: Γ) Φ w := by
  have h1 := h.unpack
  have h2 : Holds C ((rowsL bt L' ++ rowsL bt K) ++ Γ) Φ w := by
    rw [← rowsL_append]
    exact h1.perm ((hp.map fun (p : Value × List UInt8) => OA.row p.1 bt 1 p.2.length (p.2.map bcell)).append_right Γ)
  have h3 : Holds C (rowsL bt K ++ (rowsL bt L' ++ Γ)) Φ w := h2.perm (by
    rw [← List.append_assoc]
    exact List.perm_append_comm.append_right Γ)
  exact h3.dropAll.pack
theorem WL_subL {bt : TypeId} {L L' K : List (Value × List UInt8)} (hpk : Pick (pk (rowsL bt L)) Γ Γ1) (hp : L.Perm (L' ++ K)) (h : WL C ops l fr (pk (rowsL bt L') :: Γ1) Φ Q) : WL C ops l fr Γ Φ Q := fun a w ha hw => h a w ha ((pick_holds hpk hw).subL hp)
theorem WL_takeL {bt : TypeId} {L : List (Value × List UInt8)} {i : Nat} {p : Value × List UInt8} (hi : L[i]? = some p) (hp : Pick (pk (rowsL bt L)) Γ Γ1)
    (h : WL C ops l fr (.row p.1 bt 1 p.2.length (p.2.map bcell) :: pk (rowsL bt (L.eraseIdx i)) :: Γ1) Φ Q) : WL C ops l fr Γ Φ Q := fun a w ha hw => h a w ha ((pick_holds hp hw).takeL hi)

theorem slT_rw {v : Value} {t : T} {w : World} {O : Nat → Prop} (h : slP 4 v t.len t.cells w O) : rwP 4 v t.len t.at_ w O := by
  have h1 := ent_slT (Φ := [Sl 4 v t.len t.cells]) (v := v) (t := t) List.mem_cons_self w O (fun χ hχ => by rcases List.mem_singleton.1 hχ with rfl; exact h)
  exact h1
/-- an own list of elements lent. -/
theorem Bor.rowT {v : Value} {et : TypeId} {t : T} : Bor [.row v et 4 t.len t.cells] Φ (Rw 4 v t.len t.at_ :: Φ) := fun w O ho hd hΦ ψ hψ => by
  rcases List.mem_cons.1 hψ with rfl | hψ
  · exact slT_rw (slP_of_row ho.1 fun k hk => hd k (fpL_cons.2 (.inl hk)))
  · exact hΦ ψ hψ
theorem Bor.sub {Γb : List OA} {Φb Φc : List SP} (h : Bor Γb Φ Φb) (hs : AllIn Φc Φb) : Bor Γb Φ Φc := fun w O ho hd hΦ ψ hψ => h w O ho hd hΦ ψ (hs ψ hψ)

/-- the cells of an own tree are one each. -/
theorem tree_ones {bt : TypeId} {t : T} (hp : Pick (pk (rowsL bt t.dls)) Γ Γ1) (hm : t.ts ∈ Φ) : ∀ w, Holds C Γ Φ w → ∀ u ∈ t.cells, u.oneCell' = true := fun w hw => by
  have key : ∀ (t : T), Own (rowsL bt t.dls) w → t.tsP w (avo C.O0 Γ) → ∀ u ∈ t.cells, u.oneCell' = true := by
    intro t
    induction t with
    | nil => intro _ _ u hu; cases hu
    | cons id ext dv data sv subs next _ ih =>
      intro ho h u hu
      simp only [T.cells, List.mem_cons] at hu
      rcases hu with rfl | rfl | rfl | rfl | hu
      · rfl
      · rfl
      · obtain ⟨A, c, hu, _⟩ := row_nil_or ho.1
        have hu : u = .slice A data.length c := hu
        rw [hu]
        rfl
      · obtain ⟨A, c, rfl, _⟩ := (show rwP 4 u subs.len subs.at_ w _ from h.1)
        rfl
      · exact ih ho.2.2 h.2.2 u hu
  exact key t (pick_holds hp hw).own.1 (hw.sp _ hm)

/-- a list of elements that is made, told as lasting at once. -/
theorem Effs.letT {o : Oper} {X : Type} {pf : X → Prop} {vx : X → Value} {G : X → List OA} {H : X → List SP} {v : X → Value} {et : TypeId} {n : Nat} {cs : List Value} (t : T) (hn : n = t.len) (hc : cs = t.cells)
    (h : Effs C fr Γ Φ o pf vx (fun x => .row (v x) et 4 n cs :: G x) H) : Effs C fr Γ Φ o pf vx G (fun x => Rw 4 (v x) t.len t.at_ :: H x) := by
  subst hn; subst hc
  refine ⟨fun x ψ hψ => List.mem_cons_of_mem _ (h.1 x ψ hψ), fun R a w ha hw => (h.2 R a w ha hw).mono fun v' w' ⟨x, hp, hv, hw'⟩ => ⟨x, hp, hv, ?_⟩⟩
  have h1 : Holds C (G x ++ R) (Sl 4 (v x) t.len t.cells :: H x) w' := Holds.letgo hw'
  refine ⟨h1.mod, h1.own, h1.ofp, h1.o0, fun ψ hψ => ?_⟩
  rcases List.mem_cons.1 hψ with rfl | hψ
  · exact slT_rw (h1.sp _ List.mem_cons_self)
  · exact h1.sp ψ (List.mem_cons_of_mem _ hψ)
end
end Go.Hs

/-
  A region that draws its order, in which some operations are free: each makes something of its own, or tells lasting facts, in any order; one walk, in an order of our own, serves every order that the edges allow. No program is named here.
-/
namespace Go.Hs
open Go Go.RowKit

/-- the walk behind the settled beginning: settled operations lean on Γs alone; those of es make or write what is owned; those of us are free. -/
def PF (C : Ctx) (ops : Array Oper) (Γs : List OA) (es us : List Nat) (F : Nat → Value → List SP) (G : Nat → Value → List OA) (Q : Exit → Act → World → Prop) : List Nat → Fr → List OA → List SP → Prop
  | [], fr, Γ, Φ => WQ C .normal fr Γ Φ Q
  | i :: π, fr, Γ, Φ => ∃ o, ops[i]? = some o ∧ dstOk o.dst C.n = true ∧
      ((clsOf es us i = 0 ∧ ∃ v N, (∀ ψ ∈ N, Ent Φ ψ) ∧ ((gv ops fr o.guard = some true ∧ Runs C fr Γs Φ o v) ∨ (gv ops fr o.guard = some false ∧ v = undef)) ∧ PF C ops Γs es us F G Q π (putFr o.dst v fr) Γ (N ++ Φ)) ∨
       (clsOf es us i = 1 ∧ gv ops fr o.guard = some true ∧ ∃ (X : Type) (pf : X → Prop) (vx : X → Value) (Γ' : X → List OA) (Φ' : X → List SP), Effs C fr Γ Φ o pf vx Γ' Φ' ∧
          ∀ x, pf x → (SubO (Γ' x) Γs ∨ (π = [] ∧ ∀ j, j < ops.size → j ≠ i → depOn ops i j = true)) ∧ PF C ops Γs es us F G Q π (putFr o.dst (vx x) fr) (Γ' x) (Φ' x)) ∨
       (clsOf es us i = 2 ∧ ∀ v, PF C ops Γs es us F G Q π (putFr o.dst v fr) (G i v ++ Γ) (F i v ++ Φ)))

/-- a free operation: some value; what is told of it, what is its own. -/
def FreeE (C : Ctx) (fr : Fr) (Φ : List SP) (o : Oper) (F : Value → List SP) (G : Value → List OA) : Prop :=
  ∀ Ψ, Effs C fr [] (Φ ++ Ψ) o (X := Value) (fun _ => True) (fun v => v) G (fun v => F v ++ (Φ ++ Ψ))

def frOn (ops : Array Oper) (val : Nat → Value) (fr0 : Fr) : List Nat → Fr
  | [] => fr0
  | j :: r => putFr (dstAt ops j) (val j) (frOn ops val fr0 r)
def fsOn (F : Nat → Value → List SP) (val : Nat → Value) : List Nat → List SP
  | [] => []
  | j :: r => F j (val j) ++ fsOn F val r
def gsOn (G : Nat → Value → List OA) (val : Nat → Value) : List Nat → List OA
  | [] => []
  | j :: r => G j (val j) ++ gsOn G val r

def FSpec (C : Ctx) (ops : Array Oper) (us : List Nat) (dl : Nat → List Nat) (F : Nat → Value → List SP) (G : Nat → Value → List OA) (fr0 : Fr) (Φ0 : List SP) : Prop :=
  ∀ u ∈ us, ∃ o, ops[u]? = some o ∧ o.guard = none ∧ ∀ val, FreeE C (frOn ops val fr0 (dl u)) (fsOn F val (dl u) ++ Φ0) o (F u) (G u)

theorem fsOn_upd {F : Nat → Value → List SP} {val : Nat → Value} {i : Nat} {v : Value} : ∀ {l : List Nat}, i ∉ l → fsOn F (upd val i v) l = fsOn F val l
  | [], _ => rfl
  | j :: r, h => by
    rw [fsOn, fsOn, fsOn_upd fun hk => h (List.mem_cons_of_mem _ hk), upd_other _ _ fun (e : j = i) => h (List.mem_cons.2 (.inl e.symm))]
theorem gsOn_upd {G : Nat → Value → List OA} {val : Nat → Value} {i : Nat} {v : Value} : ∀ {l : List Nat}, i ∉ l → gsOn G (upd val i v) l = gsOn G val l
  | [], _ => rfl
  | j :: r, h => by
    rw [gsOn, gsOn, gsOn_upd fun hk => h (List.mem_cons_of_mem _ hk), upd_other _ _ fun (e : j = i) => h (List.mem_cons.2 (.inl e.symm))]
theorem fsOn_mem {F : Nat → Value → List SP} {val : Nat → Value} : ∀ {l : List Nat} {j : Nat}, j ∈ l → AllIn (F j (val j)) (fsOn F val l)
  | [], _, h => by cases h
  | k :: r, j, h => fun ψ hψ => by
    rw [fsOn]
    rcases List.mem_cons.1 h with rfl | h
    · exact List.mem_append.2 (.inl hψ)
    · exact List.mem_append.2 (.inr (fsOn_mem h ψ hψ))
theorem fsOn_nil {F : Nat → Value → List SP} {val : Nat → Value} : ∀ {l : List Nat}, (∀ j ∈ l, ∀ v, F j v = []) → fsOn F val l = []
  | [], _ => rfl
  | j :: r, h => by rw [fsOn, h j List.mem_cons_self, fsOn_nil fun k hk => h k (List.mem_cons_of_mem _ hk)]; rfl
theorem fsOn_all {F : Nat → Value → List SP} {val : Nat → Value} {Φ : List SP} : ∀ {l : List Nat}, (∀ j ∈ l, AllIn (F j (val j)) Φ) → AllIn (fsOn F val l) Φ
  | [], _ => fun _ h => by cases h
  | j :: r, h => fun ψ hψ => by
    rcases List.mem_append.1 hψ with h1 | h1
    · exact h j List.mem_cons_self ψ h1
    · exact fsOn_all (fun k hk => h k (List.mem_cons_of_mem _ hk)) ψ h1
theorem fsOn_app {F : Nat → Value → List SP} {val : Nat → Value} : ∀ {l m : List Nat}, fsOn F val (l ++ m) = fsOn F val l ++ fsOn F val m
  | [], _ => rfl
  | j :: r, m => by rw [List.cons_append, fsOn, fsOn, fsOn_app, List.append_assoc]
theorem gsOn_app {G : Nat → Value → List OA} {val : Nat → Value} : ∀ {l m : List Nat}, gsOn G val (l ++ m) = gsOn G val l ++ gsOn G val m
  | [], _ => rfl
  | j :: r, m => by rw [List.cons_append, gsOn, gsOn, gsOn_app, List.append_assoc]

/-- what is asked of the free operations' leanings. -/
structure FitF (ops : Array Oper) (es us s : List Nat) (dl : Nat → List Nat) (F : Nat → Value → List SP) (n : Nat) : Prop where
  dus : ∀ u ∈ us, ∀ j ∈ dl u, j ∈ us ∧ clsOf es us j = 2 ∧ depOn ops u j = true ∧ dstOk (dstAt ops j) n = true
  dep : ∀ u ∈ us, ∀ j, depOn ops u j = true → j ∈ s ∨ j ∈ dl u
  per : ∀ i, i < ops.size → clsOf es us i = 1 → ∀ j ∈ us, depOn ops i j = true ∨ ∀ v, F j v = []

section
variable {C : Ctx} {ops : Array Oper} {es us π0 s : List Nat} {dl : Nat → List Nat} {F : Nat → Value → List SP} {G : Nat → Value → List OA} {fr0 : Fr} {Φ0 : List SP} {Γs : List OA} {Q : Exit → Act → World → Prop}

theorem frOn_fok {a0 : Act} {val : Nat → Value} (h : fok C fr0 (puts ops a0 val s)) : ∀ {l : List Nat}, (∀ j ∈ l, dstOk (dstAt ops j) C.n = true) → fok C (frOn ops val fr0 l) (puts ops a0 val (l ++ s))
  | [], _ => h
  | j :: r, hd => by
    rw [List.cons_append, frOn, puts]
    exact (frOn_fok h fun k hk => hd k (List.mem_cons_of_mem _ hk)).putd (hd j List.mem_cons_self)

/-- the state of a drawn region, held against our walk. -/
structure SF (C : Ctx) (ops : Array Oper) (es us π0 s : List Nat) (F : Nat → Value → List SP) (G : Nat → Value → List OA) (fr0 : Fr) (Φ0 : List SP) (Γs : List OA) (Q : Exit → Act → World → Prop) (a0 : Act) (fuel : Nat) (π ps ex : List Nat) (val : Nat → Value) (fr : Fr) (Γ : List OA) (Φ : List SP)
    (el : List Nat) (listed : Array Bool) (w : World) : Prop where
  plan : π0 = ps.reverse ++ π
  lsz : listed.size = ops.size
  lex : ∀ i, i < ops.size → (listed.getD i false = true ↔ i ∈ ex)
  xlt : ∀ i ∈ ex, i < ops.size
  fu : (π0.filter fun k => !ex.contains k).length ≤ fuel
  xdep : ∀ i ∈ ex, ∀ j, depOn ops i j = true → j ∈ ex
  xps : ∀ i ∈ ex, i ∈ ps ∨ (i ∈ π ∧ i ∈ el)
  early : ∀ i ∈ el, i ∈ ex ∧ i ∈ π ∧ clsOf es us i = 2
  elnd : el.Nodup
  pend : ∀ j ∈ ps, j ∉ ex → Pend C ops Γs a0 val Φ ps j
  frm : fok C fr (puts ops a0 val ps)
  hol : Holds C (Γ ++ gsOn G val el) (fsOn F val el ++ Φ) w
  sub : SubO Γ Γs ∨ (π = [] ∧ ∀ j ∈ ps, j ∈ ex)
  walk : PF C ops Γs es us F G Q π fr Γ Φ
  base : fok C fr0 (puts ops a0 val s)
  sps : ∀ j ∈ s, j ∈ ps
  fct : AllIn Φ0 Φ
  pfct : ∀ j ∈ ps, clsOf es us j = 2 → AllIn (F j (val j)) Φ

theorem allR (Ψ Φ : List SP) : AllIn Φ (Ψ ++ Φ) := fun _ h => List.mem_append.2 (.inr h)
theorem allL (Ψ Φ : List SP) : AllIn Ψ (Ψ ++ Φ) := fun _ h => List.mem_append.2 (.inl h)
theorem AllIn.trans {Ψ Φ Θ : List SP} (h : AllIn Ψ Φ) (k : AllIn Φ Θ) : AllIn Ψ Θ := fun ψ hψ => k ψ (h ψ hψ)
theorem AllIn.app {Ψ Φ Θ : List SP} (h : AllIn Ψ Θ) (k : AllIn Φ Θ) : AllIn (Ψ ++ Φ) Θ := fun ψ hψ => (List.mem_append.1 hψ).elim (h ψ) (k ψ)

theorem SF.proper {a0 : Act} {fuel : Nat} {π ps ex : List Nat} {val : Nat → Value} {fr : Fr} {Γ : List OA} {Φ : List SP} {el : List Nat} {listed : Array Bool} {w : World}
    (T : Fit ops es us π0) (S : SF C ops es us π0 s F G fr0 Φ0 Γs Q a0 fuel π ps ex val fr Γ Φ el listed w) {i : Nat} {o : Oper} (ho : ops[i]? = some o) (hx : i ∉ ex) (hdep : ∀ j, depOn ops i j = true → j ∈ ex) : Proper ops i o ex := by
  refine ⟨hdep, fun k hk => ?_⟩
  obtain ⟨ok, hok⟩ : ∃ ok, ops[k]? = some ok := ⟨_, Array.getElem?_eq_getElem (S.xlt k hk)⟩
  have hne : k ≠ i := fun e => hx (e ▸ hk)
  rcases T.apart k i ok o hne hok ho with h | h | h
  · exact absurd (S.xdep k hk i h) hx
  · exact .inl h
  · exact .inr fun t ht => h t (by rw [← dstAt_eq hok]; exact ht)

/-- what is behind an operation in our order it does not look at. -/
theorem behind (T : Fit ops es us π0) {ps π : List Nat} (hp : π0 = ps.reverse ++ π) {i : Nat} {o : Oper} (ho : ops[i]? = some o) (hi : i ∉ ps) {k : Nat} (hk : k ∈ ps) : depOn ops i k = true ∨ ∀ t, dstAt ops k = some t → t ∉ o.looksAt ops := by
  have hklt := T.lt k (by rw [hp]; simp [hk])
  obtain ⟨ok, hok⟩ : ∃ ok, ops[k]? = some ok := ⟨_, Array.getElem?_eq_getElem hklt⟩
  rcases T.apart k i ok o (fun e => hi (e ▸ hk)) hok ho with h | h | h
  · exfalso
    obtain ⟨l1, l2, hl⟩ := List.append_of_mem (List.mem_reverse.2 hk)
    have h1 := T.ord l1 k (l2 ++ π) (by rw [hp, hl]; simp) i h
    exact hi (List.mem_reverse.1 (by rw [hl]; simp [h1]))
  · exact .inl h
  · exact .inr fun t ht => h t (by rw [← dstAt_eq hok]; exact ht)

/-- one operation is done. -/
theorem SF.step (T : Fit ops es us π0) (TF : FitF ops es us s dl F C.n) (hU : FSpec C ops us dl F G fr0 Φ0) {a0 : Act} {fuel : Nat}
    (ih : ∀ (π ps ex : List Nat) (val : Nat → Value) (fr : Fr) (Γ : List OA) (Φ : List SP) (el : List Nat) (listed : Array Bool) (w : World), SF C ops es us π0 s F G fr0 Φ0 Γs Q a0 fuel π ps ex val fr Γ Φ el listed w → wpAnyIn (fenceOf C.rd) 0 C.P .any ops Q fuel listed (puts ops a0 val ex) w)
    {π ps ex : List Nat} {val : Nat → Value} {fr : Fr} {Γ : List OA} {Φ : List SP} {el : List Nat} {listed : Array Bool} {w : World}
    (S : SF C ops es us π0 s F G fr0 Φ0 Γs Q a0 (fuel + 1) π ps ex val fr Γ Φ el listed w)
    (hst : ∀ h r, π = h :: r → h ∉ ex ∧ clsOf es us h ≠ 0) {i : Nat} (hlt : i < ops.size) (hx : i ∉ ex) (hdep : ∀ j, depOn ops i j = true → j ∈ ex) :
    wpOpIn (fenceOf C.rd) 0 C.P ops Q i (wpAnyIn (fenceOf C.rd) 0 C.P .any ops Q fuel (listed.setIfInBounds i true)) (puts ops a0 val ex) w := by
  obtain ⟨o, ho⟩ : ∃ o, ops[i]? = some o := ⟨_, Array.getElem?_eq_getElem hlt⟩
  have hprop := S.proper T ho hx hdep
  have hi0 := T.all i hlt
  have lsz' : (listed.setIfInBounds i true).size = ops.size := by simp [S.lsz]
  have lex' : ∀ j, j < ops.size → ((listed.setIfInBounds i true).getD j false = true ↔ j ∈ i :: ex) := fun j hj => by
    rw [getD_set_iff S.lsz hlt, S.lex j hj]
    simp
  have xlt' : ∀ j ∈ i :: ex, j < ops.size := fun j hj => by
    rcases List.mem_cons.1 hj with rfl | hj
    · exact hlt
    · exact S.xlt j hj
  have fu' : (π0.filter fun k => !(i :: ex).contains k).length ≤ fuel := by
    have := filter_lt (p := fun k => !ex.contains k) (q := fun k => !(i :: ex).contains k) (fun x hq => by simp at hq ⊢; exact hq.2) hi0 (by simpa using hx) (by simp)
    have := S.fu
    omega
  have xdep' : ∀ k ∈ i :: ex, ∀ j, depOn ops k j = true → j ∈ i :: ex := fun k hk j hj => by
    rcases List.mem_cons.1 hk with rfl | hk
    · exact List.mem_cons_of_mem _ (hdep j hj)
    · exact List.mem_cons_of_mem _ (S.xdep k hk j hj)
  have hmem : i ∈ ps ∨ i ∈ π := by
    rw [S.plan] at hi0
    simpa using hi0
  unfold wpOpIn
  rw [ho]
  show if Region.wanted o (yielded ops (puts ops a0 val ex).tmps) = true then _ else _
  rcases hmem with hmem | hmem
  · -- it waited
    obtain ⟨o', Φj, X, ho', hin, hT, hTp, h⟩ := S.pend i hmem hx
    obtain rfl : o = o' := by rw [ho] at ho'; injection ho' with e
    obtain ⟨e1, e2⟩ := exec_same T (a0 := a0) (val := val) ho hTp hprop
    have next : ∀ w', Holds C (Γ ++ gsOn G val el) (fsOn F val el ++ Φ) w' → SF C ops es us π0 s F G fr0 Φ0 Γs Q a0 fuel π ps (i :: ex) val fr Γ Φ el (listed.setIfInBounds i true) w' := fun w' hw' =>
      { plan := S.plan, lsz := lsz', lex := lex', xlt := xlt', fu := fu', xdep := xdep', elnd := S.elnd, frm := S.frm, hol := hw', sub := S.sub.imp_right (fun h => ⟨h.1, fun j hj => List.mem_cons_of_mem _ (h.2 j hj)⟩), walk := S.walk
        base := S.base, sps := S.sps, fct := S.fct, pfct := S.pfct
        xps := fun k hk => by
          rcases List.mem_cons.1 hk with rfl | hk
          · exact .inl hmem
          · exact S.xps k hk
        early := fun p hp => ⟨List.mem_cons_of_mem _ (S.early p hp).1, (S.early p hp).2⟩
        pend := fun j hj hjx => S.pend j hj fun hk => hjx (List.mem_cons_of_mem _ hk) }
    rcases h with ⟨hw1, hg⟩ | ⟨hw1, hv⟩
    · rw [if_pos (by rw [← e2]; exact hw1)]
      have hG := hg w (sub_holds S.hol (S.sub.resolve_right fun h => hx (h.2 i hmem)) (hin.trans (allR _ _)))
      rw [e1] at hG
      refine hG.wp fun v' w' ⟨hv, hm⟩ => ?_
      subst hv
      have := ih _ _ _ _ _ _ _ _ _ _ (next w' (S.hol.ext hm))
      rw [puts, dstAt_eq ho] at this
      exact this
    · rw [if_neg (by rw [← e2, hw1]; simp)]
      have := ih _ _ _ _ _ _ _ _ _ _ (next w S.hol)
      rw [puts, dstAt_eq ho, hv] at this
      exact ⟨fun f _ => fenceOf_fn _ f, this⟩
  · have hnps : i ∉ ps := fun h => by
      have := T.nodup
      rw [S.plan] at this
      exact (List.nodup_append.1 this).2.2 i (List.mem_reverse.2 h) i hmem rfl
    have hpps : ∀ k ∈ ps, k ≠ i := fun k hk e => hnps (e ▸ hk)
    have hns : i ∉ s := fun h => hnps (S.sps i h)
    by_cases hc : clsOf es us i = 2
    · -- a free operation
      have hius := cls_us hc
      obtain ⟨o', ho', hgd, hsp⟩ := hU i hius
      obtain rfl : o = o' := by rw [ho] at ho'; injection ho' with e
      have hdl := TF.dus i hius
      have hPr : Proper ops i o (dl i ++ s) := by
        refine ⟨fun j hj => List.mem_append.2 ((TF.dep i hius j hj).symm), fun k hk => ?_⟩
        rcases List.mem_append.1 hk with hk | hk
        · exact .inl (hdl k hk).2.2.1
        · exact behind T S.plan ho hnps (S.sps k hk)
      obtain ⟨e1, _⟩ := exec_same T (a0 := a0) (val := val) ho hPr hprop
      rw [if_pos (by simp [Region.wanted, hgd])]
      have hfk := frOn_fok S.base (l := dl i) fun j hj => (hdl j hj).2.2.2
      have hall : AllIn (fsOn F val (dl i) ++ Φ0) (fsOn F val el ++ Φ) := by
        refine AllIn.app (fsOn_all fun j hj => ?_) (S.fct.trans (allR _ _))
        rcases S.xps j (hdep j (hdl j hj).2.2.1) with h | ⟨_, h⟩
        · exact (S.pfct j h (hdl j hj).2.1).trans (allR _ _)
        · exact (fsOn_mem h).trans (allL _ _)
      have hG := (hsp val (fsOn F val el ++ Φ)).2 (Γ ++ gsOn G val el) _ w hfk ⟨S.hol.mod, S.hol.own, S.hol.ofp, S.hol.o0, fun ψ hψ => S.hol.sp ψ ((hall.app (AllIn.refl _)) ψ hψ)⟩
      rw [e1] at hG
      refine hG.wp fun v' w' ⟨x, _, hv, hw'⟩ => ?_
      subst hv
      have hnel : i ∉ el := fun h => hx (S.early i h).1
      have S' : SF C ops es us π0 s F G fr0 Φ0 Γs Q a0 fuel π ps (i :: ex) (upd val i v') fr Γ Φ (i :: el) (listed.setIfInBounds i true) w' :=
        { plan := S.plan, lsz := lsz', lex := lex', xlt := xlt', fu := fu', xdep := xdep', sub := S.sub.imp_right (fun h => ⟨h.1, fun j hj => List.mem_cons_of_mem _ (h.2 j hj)⟩), walk := S.walk
          base := by rw [puts_upd hns]; exact S.base
          sps := S.sps, fct := S.fct
          pfct := fun j hj hj2 => by rw [upd_other _ _ (hpps j hj)]; exact S.pfct j hj hj2
          xps := fun k hk => by
            rcases List.mem_cons.1 hk with rfl | hk
            · exact .inr ⟨hmem, List.mem_cons_self⟩
            · rcases S.xps k hk with h | ⟨h, hA⟩
              · exact .inl h
              · exact .inr ⟨h, List.mem_cons_of_mem _ hA⟩
          early := fun p hp => by
            rcases List.mem_cons.1 hp with rfl | hp
            · exact ⟨List.mem_cons_self, hmem, hc⟩
            · exact ⟨List.mem_cons_of_mem _ (S.early p hp).1, (S.early p hp).2⟩
          elnd := List.nodup_cons.2 ⟨hnel, S.elnd⟩
          pend := fun j hj hjx => (S.pend j hj fun hk => hjx (List.mem_cons_of_mem _ hk)).turn (fun k hk => (upd_other _ _ (hpps k hk)).symm) (upd_other _ _ (hpps j hj)).symm (AllIn.refl _) fun k hk => hk
          frm := by rw [puts_upd hnps]; exact S.frm
          hol := by
            rw [fsOn, gsOn, fsOn_upd hnel, gsOn_upd hnel, upd_same]
            have h1 : Holds C (G i v' ++ (Γ ++ gsOn G val el)) (F i v' ++ fsOn F val el ++ Φ) w' := hw'.sub fun ψ hψ => by
              rw [List.append_assoc] at hψ
              rcases List.mem_append.1 hψ with h | h
              · exact List.mem_append.2 (.inl h)
              · exact List.mem_append.2 (.inr (List.mem_append.2 (.inr h)))
            refine h1.perm ?_
            rw [← List.append_assoc, ← List.append_assoc]
            exact List.Perm.append_right _ List.perm_append_comm }
      have := ih _ _ _ _ _ _ _ _ _ _ S'
      rw [puts, dstAt_eq ho, upd_same, puts_upd hx] at this
      exact this
    · -- the walk's next
      cases hπ : π with
      | nil => rw [hπ] at hmem; cases hmem
      | cons h r =>
        obtain ⟨hhx, hh0⟩ := hst h r hπ
        have hih : i = h := by
          rw [hπ] at hmem
          rcases List.mem_cons.1 hmem with e | hr
          · exact e
          · exact absurd (hdep h (T.eff ps.reverse h r (by rw [S.plan, hπ]) hh0 i hr hc)) hhx
        subst hih
        have hpl := S.walk
        rw [hπ] at hpl
        obtain ⟨o', ho', hdo, hnode⟩ := hpl
        obtain rfl : o = o' := by rw [ho] at ho'; injection ho' with e
        rcases hnode with ⟨h0, _⟩ | ⟨hc1, hgv, X, pf, vx, Γ', Φ', heff, hk⟩ | ⟨h2, _⟩
        · exact absurd h0 hh0
        · have hpprop : Proper ops i o ps := ⟨fun j hj => by simpa using T.ord ps.reverse i r (by rw [S.plan, hπ]) j hj, fun k hk => behind T S.plan ho hnps hk⟩
          obtain ⟨e1, e2⟩ := exec_same T (a0 := a0) (val := val) ho hpprop hprop
          have hnone : fsOn F val el = [] := fsOn_nil fun j hj v => by
            obtain ⟨_, hjπ, hj2⟩ := S.early j hj
            rcases TF.per i hlt hc1 j (cls_us hj2) with h | h
            · have := T.ord ps.reverse i r (by rw [S.plan, hπ]) j h
              have hjp := List.mem_reverse.1 this
              have hnd := T.nodup
              rw [S.plan] at hnd
              exact absurd rfl ((List.nodup_append.1 hnd).2.2 j (List.mem_reverse.2 hjp) j hjπ)
            · exact h v
          rw [if_pos (by rw [← e2]; exact gv_sound S.frm hgv)]
          have hhol := S.hol
          rw [hnone, List.nil_append] at hhol
          have hG := heff.2 _ _ w S.frm hhol
          rw [e1] at hG
          refine hG.wp fun v' w' ⟨x, hpf, hv, hw'⟩ => ?_
          subst hv
          obtain ⟨hsub, hpl'⟩ := hk x hpf
          have hnel : i ∉ el := fun h => hx (S.early i h).1
          have S' : SF C ops es us π0 s F G fr0 Φ0 Γs Q a0 fuel r (i :: ps) (i :: ex) (upd val i (vx x)) (putFr o.dst (vx x) fr) (Γ' x) (Φ' x) el (listed.setIfInBounds i true) w' :=
            { plan := by rw [S.plan, hπ]; simp
              lsz := lsz', lex := lex', xlt := xlt', fu := fu', xdep := xdep', walk := hpl'
              sub := hsub.imp_right (fun h => ⟨h.1, fun j hj => by
                by_cases e : j = i
                · rw [e]; exact List.mem_cons_self
                · rcases List.mem_cons.1 hj with h' | h'
                  · exact absurd h' e
                  · exact List.mem_cons_of_mem _ (hdep j (h.2 j (T.lt j (by rw [S.plan]; simp [h'])) e))⟩)
              elnd := S.elnd
              hol := by rw [fsOn_upd hnel, gsOn_upd hnel, hnone, List.nil_append]; exact hw'
              base := by rw [puts_upd hns]; exact S.base
              sps := fun j hj => List.mem_cons_of_mem _ (S.sps j hj)
              fct := S.fct.trans (heff.1 x)
              pfct := fun j hj hj2 => by
                rcases List.mem_cons.1 hj with rfl | hj
                · exact absurd hj2 hc
                · rw [upd_other _ _ (hpps j hj)]; exact (S.pfct j hj hj2).trans (heff.1 x)
              xps := fun k hk => by
                rcases List.mem_cons.1 hk with rfl | hk
                · exact .inl List.mem_cons_self
                · rcases S.xps k hk with h | ⟨h, hA⟩
                  · exact .inl (List.mem_cons_of_mem _ h)
                  · rw [hπ] at h
                    rcases List.mem_cons.1 h with h | h
                    · exact absurd (h ▸ hk) hx
                    · exact .inr ⟨h, hA⟩
              early := fun p hp => by
                obtain ⟨h1, h2, h3⟩ := S.early p hp
                refine ⟨List.mem_cons_of_mem _ h1, ?_, h3⟩
                rw [hπ] at h2
                exact (List.mem_cons.1 h2).resolve_left fun e => hx (e ▸ h1)
              pend := fun j hj hjx => by
                rcases List.mem_cons.1 hj with rfl | hj
                · exact absurd List.mem_cons_self hjx
                · exact (S.pend j hj fun hk => hjx (List.mem_cons_of_mem _ hk)).turn (fun k hk => (upd_other _ _ (hpps k hk)).symm) (upd_other _ _ (hpps j hj)).symm (heff.1 x) fun k hk => List.mem_cons_of_mem _ hk
              frm := by
                rw [puts, upd_same, puts_upd hnps, dstAt_eq ho]
                exact S.frm.putd hdo }
          have := ih _ _ _ _ _ _ _ _ _ _ S'
          rw [puts, dstAt_eq ho, upd_same, puts_upd hx] at this
          exact this
        · exact absurd h2 hc
theorem SF.ready {a0 : Act} {fuel : Nat} {π ps ex : List Nat} {val : Nat → Value} {fr : Fr} {Γ : List OA} {Φ : List SP} {el : List Nat} {listed : Array Bool} {w : World}
    (T : Fit ops es us π0) (S : SF C ops es us π0 s F G fr0 Φ0 Γs Q a0 fuel π ps ex val fr Γ Φ el listed w) {i : Nat} (h : i ∈ Region.ready .any ops listed) : i < ops.size ∧ i ∉ ex ∧ ∀ j, depOn ops i j = true → j ∈ ex := by
  obtain ⟨hlt, hl, o, ho, hall⟩ := ready_mem h
  refine ⟨hlt, fun hx => ?_, fun j hj => ?_⟩
  · have := (S.lex i hlt).2 hx
    have hlt' : i < listed.size := by rw [S.lsz]; exact hlt
    simp [Array.getD_eq_getD_getElem?, hlt'] at this hl
    rw [this] at hl
    cases hl
  · obtain ⟨o', e, ho', he, hb, hor⟩ := T.clos i j hlt hj
    obtain rfl : o = o' := by rw [ho] at ho'; injection ho' with e
    have hle := hall e he hb
    have helt : e.on < ops.size := by
      rcases Nat.lt_or_ge e.on ops.size with h | h
      · exact h
      · have : listed[e.on]? = none := Array.getElem?_eq_none (by rw [S.lsz]; exact h)
        simp [Array.getD_eq_getD_getElem?, this] at hle
    have hex := (S.lex e.on helt).1 hle
    rcases hor with rfl | hor
    · exact hex
    · exact S.xdep _ hex j hor

/-- nothing is ready: all is done. -/
theorem SF.done {a0 : Act} {fuel : Nat} {π ps ex : List Nat} {val : Nat → Value} {fr : Fr} {Γ : List OA} {Φ : List SP} {el : List Nat} {listed : Array Bool} {w : World}
    (T : Fit ops es us π0) (S : SF C ops es us π0 s F G fr0 Φ0 Γs Q a0 fuel π ps ex val fr Γ Φ el listed w) (hr : Region.ready .any ops listed = []) : ∀ i ∈ π0, i ∈ ex := by
  have key : ∀ n l1 i l2, l1.length = n → π0 = l1 ++ i :: l2 → i ∈ ex := by
    intro n
    induction n using Nat.strongRecOn with
    | _ n ih =>
      intro l1 i l2 hn hl
      have hlt := T.lt i (by rw [hl]; simp)
      obtain ⟨o, ho⟩ : ∃ o, ops[i]? = some o := ⟨_, Array.getElem?_eq_getElem hlt⟩
      rcases Classical.em (i ∈ ex) with hx | hx
      · exact hx
      · exfalso
        have : i ∈ Region.ready .any ops listed := by
          refine mem_ready.2 ⟨?_, o, ho, fun e he hb => ?_⟩
          · have hlt' : i < listed.size := by rw [S.lsz]; exact hlt
            have h2 : ¬ listed.getD i false = true := fun h => hx ((S.lex i hlt).1 h)
            simp [Array.getD_eq_getD_getElem?, hlt'] at h2 ⊢
            exact h2
          · have hd := T.edge i o e ho he hb
            have hm := T.ord l1 i l2 hl e.on hd
            obtain ⟨m1, m2, hm2⟩ := List.append_of_mem hm
            have helt := T.lt e.on (by rw [hl, hm2]; simp)
            refine (S.lex e.on helt).2 (ih m1.length (by rw [← hn, hm2]; simp) m1 e.on (m2 ++ i :: l2) rfl (by rw [hl, hm2]; simp))
        rw [hr] at this
        cases this
  intro i hi
  obtain ⟨l1, l2, hl⟩ := List.append_of_mem hi
  exact key _ l1 i l2 rfl hl

theorem SF.fin {a0 : Act} {fuel : Nat} {π ps ex : List Nat} {val : Nat → Value} {fr : Fr} {Γ : List OA} {Φ : List SP} {el : List Nat} {listed : Array Bool} {w : World}
    (T : Fit ops es us π0) (S : SF C ops es us π0 s F G fr0 Φ0 Γs Q a0 fuel π ps ex val fr Γ Φ el listed w) (hst : ∀ h r, π = h :: r → h ∉ ex ∧ clsOf es us h ≠ 0) (hall : ∀ i ∈ π0, i ∈ ex) : Q .normal (puts ops a0 val ex) w := by
  have hπ : π = [] := by
    cases hπ : π with
    | nil => rfl
    | cons h r => exact absurd (hall h (by rw [S.plan, hπ]; simp)) (hst h r hπ).1
  subst hπ
  have hel : el = [] := by
    cases el with
    | nil => rfl
    | cons p r => have := (S.early p List.mem_cons_self).2.1; cases this
  subst hel
  have hw := S.walk
  refine hw _ w (fok_same T (fun j => ⟨fun h => hall j (by rw [S.plan]; simp [h]), fun h => ?_⟩) S.frm) (by simpa [gsOn, fsOn] using S.hol)
  rcases S.xps j h with h | ⟨h, _⟩
  · exact h
  · cases h

/-- what can be settled is settled, ahead of the next step. -/
theorem SF.settle (T : Fit ops es us π0) {a0 : Act} {fuel : Nat} {listed : Array Bool} {w : World} {ex : List Nat} {K : (Nat → Value) → Prop}
    (hK : ∀ (π ps : List Nat) (val : Nat → Value) (fr : Fr) (Γ : List OA) (Φ : List SP) (el : List Nat), SF C ops es us π0 s F G fr0 Φ0 Γs Q a0 fuel π ps ex val fr Γ Φ el listed w → (∀ h r, π = h :: r → h ∉ ex ∧ clsOf es us h ≠ 0) → K val)
    (hKc : ∀ val val', (∀ k ∈ ex, val k = val' k) → K val' → K val) :
    ∀ (π ps : List Nat) (val : Nat → Value) (fr : Fr) (Γ : List OA) (Φ : List SP) (el : List Nat), SF C ops es us π0 s F G fr0 Φ0 Γs Q a0 fuel π ps ex val fr Γ Φ el listed w → K val := by
  intro π
  induction π with
  | nil => exact fun ps val fr Γ Φ el S => hK _ _ _ _ _ _ _ S fun h r e => by cases e
  | cons i r ih =>
    intro ps val fr Γ Φ el S
    have hnd := T.nodup
    rw [S.plan] at hnd
    have hnps : i ∉ ps := fun h => (List.nodup_append.1 hnd).2.2 i (List.mem_reverse.2 h) i List.mem_cons_self rfl
    have hpps : ∀ k ∈ ps, k ≠ i := fun k hk e => hnps (e ▸ hk)
    have hns : i ∉ s := fun h => hnps (S.sps i h)
    obtain ⟨o, ho, hdo, hnode⟩ := S.walk
    have hpprop : Proper ops i o ps := ⟨fun j hj => by simpa using T.ord ps.reverse i r S.plan j hj, fun k hk => behind T S.plan ho hnps hk⟩
    rcases hnode with ⟨h0, v, N, hN, hrun, hpl⟩ | ⟨h1, _⟩ | ⟨h2, hpl⟩
    · -- settled by what is known
      have hix : i ∉ ex := fun h => by
        rcases S.xps i h with h | ⟨_, hA⟩
        · exact hnps h
        · have := (S.early _ hA).2.2
          rw [h0] at this
          cases this
      have hnel : i ∉ el := fun h => hix (S.early i h).1
      have hin : AllIn Φ (N ++ Φ) := fun ψ hψ => List.mem_append.2 (.inr hψ)
      refine hKc val (upd val i v) (fun k hk => (upd_other _ _ (fun (e : k = i) => hix (e ▸ hk))).symm) (ih (i :: ps) (upd val i v) (putFr o.dst v fr) Γ (N ++ Φ) el
        { plan := by rw [S.plan]; simp
          lsz := S.lsz, lex := S.lex, xlt := S.xlt, fu := S.fu, xdep := S.xdep, elnd := S.elnd, sub := .inl (S.sub.resolve_right fun h => by cases h.1), walk := hpl
          base := by rw [puts_upd hns]; exact S.base
          sps := fun j hj => List.mem_cons_of_mem _ (S.sps j hj)
          fct := S.fct.trans hin
          pfct := fun j hj hj2 => by
            rcases List.mem_cons.1 hj with rfl | hj
            · rw [h0] at hj2; cases hj2
            · rw [upd_other _ _ (hpps j hj)]; exact (S.pfct j hj hj2).trans hin
          hol := by
            rw [fsOn_upd hnel, gsOn_upd hnel]
            exact ⟨S.hol.mod, S.hol.own, S.hol.ofp, S.hol.o0, fun ψ hψ => by
              rcases List.mem_append.1 hψ with hψ | hψ
              · exact S.hol.sp ψ (List.mem_append.2 (.inl hψ))
              · rcases List.mem_append.1 hψ with hψ | hψ
                · exact hN ψ hψ _ _ fun χ hχ => S.hol.sp χ (List.mem_append.2 (.inr hχ))
                · exact S.hol.sp ψ (List.mem_append.2 (.inr hψ))⟩
          xps := fun k hk => by
            rcases S.xps k hk with h | ⟨h, A⟩
            · exact .inl (List.mem_cons_of_mem _ h)
            · exact .inr ⟨(List.mem_cons.1 h).resolve_left (fun (e : k = i) => hix (by rw [← e]; exact hk)), A⟩
          early := fun p hp => by
            obtain ⟨h1, h2, h3⟩ := S.early p hp
            exact ⟨h1, (List.mem_cons.1 h2).resolve_left fun e => hix (e ▸ h1), h3⟩
          pend := fun j hj hjx => by
            rcases List.mem_cons.1 hj with rfl | hj
            · refine ⟨o, Φ, ps, ho, hin, fun k hk => List.mem_cons_of_mem _ hk, hpprop, ?_⟩
              rw [puts_upd hnps, upd_same]
              rcases hrun with ⟨hg, hr⟩ | ⟨hg, hv⟩
              · refine .inl ⟨gv_sound S.frm hg, fun w' hw' => hr _ w' S.frm hw'⟩
              · exact .inr ⟨gv_sound S.frm hg, hv⟩
            · exact (S.pend j hj hjx).turn (fun k hk => (upd_other _ _ (hpps k hk)).symm) (upd_other _ _ (hpps j hj)).symm hin fun k hk => List.mem_cons_of_mem _ hk
          frm := by
            rw [puts, upd_same, puts_upd hnps, dstAt_eq ho]
            exact S.frm.putd hdo })
    · exact hK _ _ _ _ _ _ _ S fun h r' e => by
        injection e with e1 e2
        subst e1
        refine ⟨fun hx => ?_, by rw [h1]; decide⟩
        rcases S.xps i hx with h | ⟨_, hA⟩
        · exact hnps h
        · have := (S.early _ hA).2.2
          rw [h1] at this
          cases this
    · by_cases hx : i ∈ ex
      · -- what was done ahead takes its place
        have hA : i ∈ el := by
          rcases S.xps i hx with h | ⟨_, h⟩
          · exact absurd h hnps
          · exact h
        obtain ⟨e1, e2, hel⟩ := List.append_of_mem hA
        have hnd2 := S.elnd
        rw [hel] at hnd2
        have hni : ∀ p ∈ e1 ++ e2, p ≠ i := fun p hp e => by
          rw [List.nodup_append] at hnd2
          obtain ⟨_, h2, h3⟩ := hnd2
          rcases List.mem_append.1 hp with hp | hp
          · exact h3 p hp i List.mem_cons_self e
          · exact (List.nodup_cons.1 h2).1 (e ▸ hp)
        have hback : ∀ p ∈ e1 ++ e2, p ∈ el := fun p hp => by
          rw [hel]
          rcases List.mem_append.1 hp with h | h
          · exact List.mem_append.2 (.inl h)
          · exact List.mem_append.2 (.inr (List.mem_cons_of_mem _ h))
        have hin : AllIn Φ (F i (val i) ++ Φ) := allR _ _
        refine ih (i :: ps) val (putFr o.dst (val i) fr) (G i (val i) ++ Γ) (F i (val i) ++ Φ) (e1 ++ e2)
          { plan := by rw [S.plan]; simp
            lsz := S.lsz, lex := S.lex, xlt := S.xlt, fu := S.fu, xdep := S.xdep, walk := hpl (val i)
            base := S.base
            sps := fun j hj => List.mem_cons_of_mem _ (S.sps j hj)
            fct := S.fct.trans hin
            pfct := fun j hj hj2 => by
              rcases List.mem_cons.1 hj with rfl | hj
              · exact allL _ _
              · exact (S.pfct j hj hj2).trans hin
            sub := by
              obtain ⟨X, hX⟩ := S.sub.resolve_right fun h => by cases h.1
              refine .inl ⟨G i (val i) ++ X, (List.Perm.append_left _ hX).trans ?_⟩
              rw [← List.append_assoc, ← List.append_assoc]
              exact List.Perm.append_right _ List.perm_append_comm
            elnd := by
              rw [List.nodup_append] at hnd2 ⊢
              obtain ⟨h1, h2, h3⟩ := hnd2
              exact ⟨h1, (List.nodup_cons.1 h2).2, fun a ha b hb => h3 a ha b (List.mem_cons_of_mem _ hb)⟩
            hol := by
              have hh := S.hol
              rw [hel, fsOn_app, gsOn_app, fsOn, gsOn] at hh
              rw [fsOn_app, gsOn_app]
              have h1 := hh.sub (Ψ := fsOn F val e1 ++ fsOn F val e2 ++ (F i (val i) ++ Φ)) fun ψ hψ => by
                simp only [List.mem_append] at hψ ⊢
                rcases hψ with (h | h) | h | h
                · exact .inl (.inl h)
                · exact .inl (.inr (.inr h))
                · exact .inl (.inr (.inl h))
                · exact .inr h
              refine h1.perm ?_
              generalize gsOn G val e1 = A1
              generalize gsOn G val e2 = A2
              generalize G i (val i) = B
              have p1 : (A1 ++ (B ++ A2)).Perm (B ++ (A1 ++ A2)) := by
                rw [← List.append_assoc, ← List.append_assoc]
                exact List.Perm.append_right _ List.perm_append_comm
              refine (List.Perm.append_left Γ p1).trans ?_
              rw [← List.append_assoc]
              exact List.Perm.append_right _ List.perm_append_comm
            xps := fun k hk => by
              rcases S.xps k hk with h | ⟨h, hA'⟩
              · exact .inl (List.mem_cons_of_mem _ h)
              · by_cases e : k = i
                · exact .inl (e ▸ List.mem_cons_self)
                · refine .inr ⟨(List.mem_cons.1 h).resolve_left e, ?_⟩
                  rw [hel] at hA'
                  rcases List.mem_append.1 hA' with h | h
                  · exact List.mem_append.2 (.inl h)
                  · rcases List.mem_cons.1 h with h | h
                    · exact absurd h e
                    · exact List.mem_append.2 (.inr h)
            early := fun p hp => by
              obtain ⟨h1, h2, h3⟩ := S.early p (hback p hp)
              exact ⟨h1, (List.mem_cons.1 h2).resolve_left (hni p hp), h3⟩
            pend := fun j hj hjx => by
              rcases List.mem_cons.1 hj with rfl | hj
              · exact absurd hx hjx
              · exact (S.pend j hj hjx).turn (fun _ _ => rfl) rfl hin fun k hk => List.mem_cons_of_mem _ hk
            frm := by
              rw [puts, dstAt_eq ho]
              exact S.frm.putd hdo }
      · exact hK _ _ _ _ _ _ _ S fun h r' e => by
          injection e with e1 e2
          subst e1
          exact ⟨hx, by rw [h2]; decide⟩

/-- the settled beginning; what is known behind it serves the free operations. -/
def PS (C : Ctx) (ops : Array Oper) (Γs : List OA) (es us : List Nat) (Γ : List OA) (K : Fr → List SP → Prop) : List Nat → Fr → List SP → Prop
  | [], fr, Φ => K fr Φ
  | i :: s, fr, Φ => ∃ o, ops[i]? = some o ∧ dstOk o.dst C.n = true ∧ clsOf es us i = 0 ∧ ∃ v N, (∀ ψ ∈ N, Ent Φ ψ) ∧ ((gv ops fr o.guard = some true ∧ Runs C fr Γs Φ o v) ∨ (gv ops fr o.guard = some false ∧ v = undef)) ∧ PS C ops Γs es us Γ K s (putFr o.dst v fr) (N ++ Φ)

/-- behind the settled beginning. -/
theorem PS.go (T : Fit ops es us π0) {a0 : Act} {w : World} {Γ : List OA} {K : Fr → List SP → Prop} {R : Prop} :
    ∀ (s2 : List Nat) (ps : List Nat) (val : Nat → Value) (fr : Fr) (Φ : List SP) (π1 : List Nat), π0 = ps.reverse ++ (s2 ++ π1) → (∀ j ∈ ps, clsOf es us j = 0) → fok C fr (puts ops a0 val ps) → Holds C Γ Φ w → (∀ j ∈ ps, Pend C ops Γs a0 val Φ ps j) → PS C ops Γs es us Γ K s2 fr Φ →
      (∀ (val' : Nat → Value) (fr' : Fr) (Φ' : List SP), fok C fr' (puts ops a0 val' (s2.reverse ++ ps)) → Holds C Γ Φ' w → (∀ j ∈ s2.reverse ++ ps, Pend C ops Γs a0 val' Φ' (s2.reverse ++ ps) j) → (∀ j ∈ s2.reverse ++ ps, clsOf es us j = 0) → K fr' Φ' → R) → R := by
  intro s2
  induction s2 with
  | nil => exact fun ps val fr Φ π1 _ hc hf hh hp hs hR => hR val fr Φ hf hh hp hc hs
  | cons i r ih =>
    intro ps val fr Φ π1 hpl hc hf hh hp ⟨o, ho, hdo, h0, v, N, hN, hrun, hs⟩ hR
    have hnd := T.nodup
    rw [hpl] at hnd
    have hnps : i ∉ ps := fun h => (List.nodup_append.1 hnd).2.2 i (List.mem_reverse.2 h) i (by simp) rfl
    have hpps : ∀ k ∈ ps, k ≠ i := fun k hk e => hnps (e ▸ hk)
    have hpprop : Proper ops i o ps := ⟨fun j hj => by simpa using T.ord ps.reverse i (r ++ π1) hpl j hj, fun k hk => behind T hpl ho hnps hk⟩
    have hin : AllIn Φ (N ++ Φ) := fun ψ hψ => List.mem_append.2 (.inr hψ)
    refine ih (i :: ps) (upd val i v) (putFr o.dst v fr) (N ++ Φ) π1 (by rw [hpl]; simp) (fun j hj => ?_) ?_ ?_ (fun j hj => ?_) hs fun val' fr' Φ' h1 h2 h3 h4 h5 => hR val' fr' Φ' (by simpa using h1) h2 (by simpa using h3) (by simpa using h4) h5
    · rcases List.mem_cons.1 hj with rfl | hj
      · exact h0
      · exact hc j hj
    · rw [puts, upd_same, puts_upd hnps, dstAt_eq ho]
      exact hf.putd hdo
    · exact ⟨hh.mod, hh.own, hh.ofp, hh.o0, fun ψ hψ => (List.mem_append.1 hψ).elim (fun h => hN ψ h _ _ hh.sp) (hh.sp ψ)⟩
    · rcases List.mem_cons.1 hj with rfl | hj
      · refine ⟨o, Φ, ps, ho, hin, fun k hk => List.mem_cons_of_mem _ hk, hpprop, ?_⟩
        rw [puts_upd hnps, upd_same]
        rcases hrun with ⟨hg, hr⟩ | ⟨hg, hv⟩
        · exact .inl ⟨gv_sound hf hg, fun w' hw' => hr _ w' hf hw'⟩
        · exact .inr ⟨gv_sound hf hg, hv⟩
      · exact (hp j hj).turn (fun k hk => (upd_other _ _ (hpps k hk)).symm) (upd_other _ _ (hpps j hj)).symm hin fun k hk => List.mem_cons_of_mem _ hk

/-- the free operations' leanings, by reckoning: nf names those of which nothing is told. -/
def chkF (ops : Array Oper) (es us s nf : List Nat) (dl : Nat → List Nat) (n : Nat) : Bool :=
  let D := Region.before ops
  D.size == ops.size && (us.all fun u => ((dl u).all fun j => us.contains j && clsOf es us j == 2 && (D.getD u 0).testBit j && dstOk (dstAt ops j) n) && ((List.range ops.size).all fun j => !((D.getD u 0).testBit j) || s.contains j || (dl u).contains j)) &&
  ((List.range ops.size).all fun i => clsOf es us i != 1 || us.all fun j => (D.getD i 0).testBit j || nf.contains j)

theorem fitF_of_chk {nf : List Nat} {n : Nat} (T : Fit ops es us π0) (hc : chkF ops es us s nf dl n = true) (hnf : ∀ j ∈ nf, ∀ v, F j v = []) : FitF ops es us s dl F n := by
  simp only [chkF, Bool.and_eq_true, List.all_eq_true, List.mem_range] at hc
  obtain ⟨⟨h0, h1⟩, h2⟩ := hc
  refine ⟨fun u hu j hj => ?_, fun u hu j hj => ?_, fun i hi hc1 j hj => ?_⟩
  · have := (h1 u hu).1 j hj
    obtain ⟨⟨⟨a, b⟩, c⟩, d⟩ := this
    exact ⟨by simpa using a, by simpa using b, c, d⟩
  · have hjlt : j < ops.size := by
      by_cases hlt : u < ops.size
      · obtain ⟨l1, l2, hl⟩ := List.append_of_mem (T.all u hlt)
        have := T.ord l1 u l2 hl j hj
        exact T.lt j (by rw [hl]; simp [this])
      · exfalso
        unfold depOn at hj
        have hs : (Region.before ops).size = ops.size := by simpa using h0
        have : (Region.before ops)[u]? = none := Array.getElem?_eq_none (by rw [hs]; omega)
        simp [Array.getD_eq_getD_getElem?, this] at hj
    have := (h1 u hu).2 j hjlt
    unfold depOn at hj
    rw [hj] at this
    simpa using this
  · have := h2 i hi
    rw [hc1] at this
    simp only [bne_self_eq_false, Bool.false_or, List.all_eq_true] at this
    rcases Bool.or_eq_true .. |>.mp (this j hj) with h | h
    · exact .inl h
    · exact .inr (hnf j (by simpa using h))

end
end Go.Hs

/-
  The steps of a walk through a region with free operations. No program is named here.
-/
namespace Go.Hs
open Go Go.RowKit
section
variable {C : Ctx} {ops : Array Oper} {o : Oper} {d : Nat} {v : Value} {fr fr0 fr1 : Fr} {Γ Γs : List OA} {Φ : List SP} {Q : Exit → Act → World → Prop} {ψ : SP}
  {X : Type} {pf : X → Prop} {vx : X → Value} {Γ' : X → List OA} {Φ' : X → List SP} {es us π s : List Nat} {i : Nat} {F : Nat → Value → List SP} {G : Nat → Value → List OA} {K : Fr → List SP → Prop}

theorem PS_nil (h : K fr Φ) : PS C ops Γs es us Γ K [] fr Φ := h
theorem PS_runs (he : clsOf es us i = 0) (ho : lget ops.toList i = some o) (hg : gv ops fr o.guard = some true) (hd : o.dst = some d) (hn : Nat.blt d C.n = true) (h : Runs C fr Γs Φ o v) (k : PS C ops Γs es us Γ K s ((d, v) :: fr) Φ) : PS C ops Γs es us Γ K (i :: s) fr Φ :=
  ⟨o, lget_ops ho, by rw [hd]; exact hn, he, v, [], (fun _ h => by cases h), .inl ⟨hg, h⟩, by rw [hd]; exact k⟩
theorem PS_runsF (he : clsOf es us i = 0) (ho : lget ops.toList i = some o) (hg : gv ops fr o.guard = some true) (hd : o.dst = some d) (hn : Nat.blt d C.n = true) (h : Runs C fr Γs Φ o v ∧ Ent Φ ψ) (k : PS C ops Γs es us Γ K s ((d, v) :: fr) (ψ :: Φ)) : PS C ops Γs es us Γ K (i :: s) fr Φ :=
  ⟨o, lget_ops ho, by rw [hd]; exact hn, he, v, [ψ], (fun χ hχ => by rcases List.mem_cons.1 hχ with rfl | hχ; exact h.2; cases hχ), .inl ⟨hg, h.1⟩, by rw [hd]; exact k⟩
theorem PS_pass (he : clsOf es us i = 0) (ho : lget ops.toList i = some o) (hg : gv ops fr o.guard = some false) (hd : o.dst = some d) (hn : Nat.blt d C.n = true) (k : PS C ops Γs es us Γ K s ((d, undef) :: fr) Φ) : PS C ops Γs es us Γ K (i :: s) fr Φ :=
  ⟨o, lget_ops ho, by rw [hd]; exact hn, he, undef, [], (fun _ h => by cases h), .inr ⟨hg, rfl⟩, by rw [hd]; exact k⟩

theorem PF_nil (h : WQ C .normal fr Γ Φ Q) : PF C ops Γs es us F G Q [] fr Γ Φ := h
theorem PF_runs (he : clsOf es us i = 0) (ho : lget ops.toList i = some o) (hg : gv ops fr o.guard = some true) (hd : o.dst = some d) (hn : Nat.blt d C.n = true) (h : Runs C fr Γs Φ o v)
    (k : PF C ops Γs es us F G Q π ((d, v) :: fr) Γ Φ) : PF C ops Γs es us F G Q (i :: π) fr Γ Φ :=
  ⟨o, lget_ops ho, by rw [hd]; exact hn, .inl ⟨he, v, [], (fun _ h => by cases h), .inl ⟨hg, h⟩, by rw [hd]; exact k⟩⟩
theorem PF_runsF (he : clsOf es us i = 0) (ho : lget ops.toList i = some o) (hg : gv ops fr o.guard = some true) (hd : o.dst = some d) (hn : Nat.blt d C.n = true) (h : Runs C fr Γs Φ o v ∧ Ent Φ ψ)
    (k : PF C ops Γs es us F G Q π ((d, v) :: fr) Γ (ψ :: Φ)) : PF C ops Γs es us F G Q (i :: π) fr Γ Φ :=
  ⟨o, lget_ops ho, by rw [hd]; exact hn, .inl ⟨he, v, [ψ], (fun χ hχ => by rcases List.mem_cons.1 hχ with rfl | hχ; exact h.2; cases hχ), .inl ⟨hg, h.1⟩, by rw [hd]; exact k⟩⟩
theorem PF_pass (he : clsOf es us i = 0) (ho : lget ops.toList i = some o) (hg : gv ops fr o.guard = some false) (hd : o.dst = some d) (hn : Nat.blt d C.n = true)
    (k : PF C ops Γs es us F G Q π ((d, undef) :: fr) Γ Φ) : PF C ops Γs es us F G Q (i :: π) fr Γ Φ :=
  ⟨o, lget_ops ho, by rw [hd]; exact hn, .inl ⟨he, undef, [], (fun _ h => by cases h), .inr ⟨hg, rfl⟩, by rw [hd]; exact k⟩⟩
theorem PF_effs (he : clsOf es us i = 1) (ho : lget ops.toList i = some o) (hg : gv ops fr o.guard = some true) (hd : o.dst = some d) (hn : Nat.blt d C.n = true)
    (h : Effs C fr Γ Φ o pf vx Γ' Φ') (hs : ∀ x, SubO (Γ' x) Γs) (k : ∀ x, pf x → PF C ops Γs es us F G Q π ((d, vx x) :: fr) (Γ' x) (Φ' x)) : PF C ops Γs es us F G Q (i :: π) fr Γ Φ :=
  ⟨o, lget_ops ho, by rw [hd]; exact hn, .inr (.inl ⟨he, hg, X, pf, vx, Γ', Φ', h, fun x hx => ⟨.inl (hs x), by rw [hd]; exact k x hx⟩⟩)⟩
theorem PF_do (he : clsOf es us i = 1) (ho : lget ops.toList i = some o) (hg : gv ops fr o.guard = some true) (hd : o.dst = none)
    (h : Effs C fr Γ Φ o pf vx Γ' Φ') (hs : ∀ x, SubO (Γ' x) Γs) (k : ∀ x, pf x → PF C ops Γs es us F G Q π fr (Γ' x) (Φ' x)) : PF C ops Γs es us F G Q (i :: π) fr Γ Φ :=
  ⟨o, lget_ops ho, by rw [hd]; rfl, .inr (.inl ⟨he, hg, X, pf, vx, Γ', Φ', h, fun x hx => ⟨.inl (hs x), by rw [hd]; exact k x hx⟩⟩)⟩
/-- a free operation in its place. -/
theorem PF_free {Γ1 : Value → List OA} {Φ1 : Value → List SP} (he : clsOf es us i = 2) (ho : lget ops.toList i = some o) (hd : o.dst = some d) (hn : Nat.blt d C.n = true)
    (hG : ∀ v, appO (G i v) Γ = some (Γ1 v)) (hF : ∀ v, appO (F i v) Φ = some (Φ1 v)) (k : ∀ v, PF C ops Γs es us F G Q π ((d, v) :: fr) (Γ1 v) (Φ1 v)) : PF C ops Γs es us F G Q (i :: π) fr Γ Φ :=
  ⟨o, lget_ops ho, by rw [hd]; exact hn, .inr (.inr ⟨he, fun v => by rw [hd, appO_eq (hG v), appO_eq (hF v)]; exact k v⟩)⟩

/-- the frame of a free operation, reckoned to the end. -/
def frOnO (ops : Array Oper) (val : Nat → Value) (fr0 : Fr) : List Nat → Option Fr
  | [] => some fr0
  | j :: r => match lget ops.toList j with
    | some o => match o.dst with
      | some d => match frOnO ops val fr0 r with
        | some f => some ((d, val j) :: f)
        | none => none
      | none => frOnO ops val fr0 r
    | none => none
theorem frOnO_eq {val : Nat → Value} : ∀ {l : List Nat} {f : Fr}, frOnO ops val fr0 l = some f → frOn ops val fr0 l = f
  | [], f, h => by injection h
  | j :: r, f, h => by
    rw [frOn]
    rw [frOnO] at h
    cases ho : lget ops.toList j with
    | none => rw [ho] at h; cases h
    | some o =>
      rw [ho] at h
      rw [dstAt_eq (lget_ops ho)]
      simp only at h
      cases hd : o.dst with
      | none => rw [hd] at h; exact frOnO_eq h
      | some d =>
        rw [hd] at h
        simp only at h
        cases hr : frOnO ops val fr0 r with
        | none => rw [hr] at h; cases h
        | some g =>
          rw [hr] at h
          injection h with h
          rw [← h, frOnO_eq hr]
          rfl

theorem FSpec.nil {dl : Nat → List Nat} {Φ0 : List SP} : FSpec C ops [] dl F G fr0 Φ0 := fun _ h => by cases h
theorem FSpec.cons {u : Nat} {dl : Nat → List Nat} {Φ0 : List SP} {frv : (Nat → Value) → Fr} {Φv : (Nat → Value) → List SP → List SP} {Φw : List SP → List SP} (ho : lget ops.toList u = some o) (hg : o.guard = none)
    (hf : ∀ val, frOnO ops val fr0 (dl u) = some (frv val)) (hw : ∀ Ψ, appO Φ0 Ψ = some (Φw Ψ)) (hv : ∀ val Ψ, appO (fsOn F val (dl u)) (Φw Ψ) = some (Φv val Ψ))
    (h : ∀ val Ψ, Effs C (frv val) [] (Φv val Ψ) o (X := Value) (fun _ => True) (fun v => v) (G u) (fun v => F u v ++ Φv val Ψ)) (k : FSpec C ops us dl F G fr0 Φ0) : FSpec C ops (u :: us) dl F G fr0 Φ0 := fun j hj => by
  rcases List.mem_cons.1 hj with rfl | hj
  · refine ⟨o, lget_ops ho, hg, fun val Ψ => ?_⟩
    rw [frOnO_eq (hf val), List.append_assoc, appO_eq (hw Ψ), appO_eq (hv val Ψ)]
    exact h val Ψ
  · exact k j hj

theorem Effs.tellB {o : Oper} {Γ1 : List OA} {pf : Value → Prop} {vx : Value → Value} {t : TypeId} {n : Nat} {xs : List Value} {bs : List UInt8} (h : Effs C fr Γ Φ o (X := Value) pf vx (fun v => .row (vx v) t 1 n xs :: Γ1) (fun _ => Φ)) (hb : xs = bs.map bcell) : Effs C fr Γ Φ o (X := Value) pf vx (fun _ => Γ1) (fun v => By (vx v) bs :: Φ) :=
  ⟨fun _ ψ hψ => List.mem_cons_of_mem _ hψ, fun R a w ha hw => (h.2 R a w ha hw).mono fun _ _ ⟨x, hp, hv, hw'⟩ => ⟨x, hp, hv, Holds.letgoB hw' hb⟩⟩
end
end Go.Hs

/-
  Rules for walks: what 'make' lays.
-/
namespace Go.Hs
open Go Go.RowKit
theorem made_one (c : Value) (k : Nat) : (madeCells #[c] k).toList = List.replicate k c := by
  unfold madeCells
  rw [Array.toList_map, Array.toList_range, List.eq_replicate_iff]
  refine ⟨by rw [List.length_map, List.length_range], fun b hb => ?_⟩
  obtain ⟨i, _, rfl⟩ := List.mem_map.1 hb
  show (#[c])[i % 1]! = c
  rw [Nat.mod_one]
  rfl
theorem made_u8 (k : Nat) : (madeCells (Value.int .u8 0).cells (k * 1)).toList.take (k * 1) = (List.replicate k (0 : UInt8)).map bcell := by
  rw [Nat.mul_one, show (Value.int .u8 0).cells = #[.int .u8 0] from rfl, made_one, List.take_of_length_le (by rw [List.length_replicate]; exact Nat.le_refl _), List.map_replicate]
  rfl
end Go.Hs

/-
  Rules for walks: an operation with a settled value, taken as an effect.
-/
namespace Go.Hs
open Go Go.RowKit
theorem SubO.self : ∀ Γ : List OA, SubO Γ Γ
  | [] => SubO.nil _
  | _ :: Γ => SubO.cons (Pick.head _ _) (SubO.self Γ)
end Go.Hs

/-
  Rules for walks: elements of lists that are built one by one. No program is named here.
-/
namespace Go.Hs
open Go Go.RowKit
/-- an element: what its cells hold. -/
def ELp (id ext : UInt8) (data : List UInt8) (f : Fo) (v : Value) (w : World) (O : Nat → Prop) : Prop :=
  ∃ (dv sv : Value) (t : T), t.er = f ∧ v = .agg #[bcell id, bcell ext, dv, sv] ∧ (By dv data).p w O ∧ (Rw 4 sv t.len t.at_).p w O ∧ t.tf.p w O
def EL (id ext : UInt8) (data : List UInt8) (f : Fo) (v : Value) : SP :=
  ⟨ELp id ext data f v, fun ⟨dv, sv, t, h1, h2, h3, h4, h5⟩ hm ho => ⟨dv, sv, t, h1, h2, (By dv data).st h3 hm ho, (Rw 4 sv t.len t.at_).st h4 hm ho, t.tf.st h5 hm ho⟩⟩
section
variable {C : Ctx} {fr : Fr} {Γ : List OA} {Φ : List SP}
theorem ent_tfC {id ext : UInt8} {dv : Value} {data : List UInt8} {sv : Value} {subs next : T} (h0 : Ent Φ (By dv data)) (h1 : Ent Φ (Rw 4 sv subs.len subs.at_)) (h2 : Ent Φ subs.tf) (h3 : Ent Φ next.tf) : Ent Φ (T.cons id ext dv data sv subs next).tf :=
  fun w O h => ⟨h0 w O h, h1 w O h, h2 w O h, h3 w O h⟩
/-- the elements of a list that is built, told of one by one. -/
def ELs (Φ : List SP) : Nat → List (Nat × Value) → Fo → Prop
  | _, [], .nil => True
  | k, (i, v) :: r, .cons id ext data subs next => i = k ∧ EL id ext data subs v ∈ Φ ∧ ELs Φ (k + 1) r next
  | _, _, _ => False
theorem ELs.nil {k : Nat} : ELs Φ k [] .nil := trivial
theorem ELs.cons {k : Nat} {i : Nat} {v : Value} {r : List (Nat × Value)} {id ext : UInt8} {data : List UInt8} {subs next : Fo} (hi : i = k) (h : EL id ext data subs v ∈ Φ) (hr : ELs Φ (k + 1) r next) : ELs Φ k ((i, v) :: r) (.cons id ext data subs next) := ⟨hi, h, hr⟩
theorem ELs.open {w : World} {O : Nat → Prop} (hΦ : ∀ χ ∈ Φ, χ.p w O) : ∀ {pv : List (Nat × Value)} {k : Nat} {f : Fo}, ELs Φ k pv f → ∃ t : T, t.er = f ∧ t.len = pv.length ∧ t.tf.p w O ∧ ∀ (C : Ctx) (Γ' : List OA) (Φ' : List SP), SeqE C Γ' Φ' 4 k pv t.cells
  | [], _, .nil, _ => ⟨.nil, rfl, rfl, trivial, fun _ _ _ => SeqE.nil⟩
  | [], _, .cons .., h => h.elim
  | (i, v) :: r, k, .nil, h => h.elim
  | (i, v) :: r, k, .cons id ext data subs next, ⟨hi, h, hr⟩ => by
    obtain ⟨dv, sv, t, h1, h2, h3, h4, h5⟩ := hΦ _ h
    obtain ⟨u, g1, g2, g3, g4⟩ := ELs.open hΦ hr
    subst h2
    refine ⟨.cons id ext dv data sv t u, by rw [T.er, h1, g1], by rw [T.len, g2]; rfl, ⟨h3, h4, h5, g3⟩, fun C Γ' Φ' => ?_⟩
    exact ⟨hi, [bcell id, bcell ext, dv, sv], u.cells, rfl, rfl, CellsE.lit rfl, g4 C Γ' Φ'⟩
end
end Go.Hs

/-
  The steps of a walk through a region with free operations, with the reckoning of each side goal by default. No program is named here.
-/
namespace Go.Hs
open Go Go.RowKit
attribute [local irreducible] WL W WQ PL PS PF Runs Effs AllE Ent SubO FrIn Pick OneC Ones CellsE PartsE SeqE UZ By Sl Pt Ct
section
variable {C : Ctx} {ops : Array Oper} {o : Oper} {d : Nat} {v : Value} {fr : Fr} {Γ Γs : List OA} {Φ : List SP} {Q : Exit → Act → World → Prop} {ψ : SP}
  {X : Type} {pf : X → Prop} {vx : X → Value} {Γ' : X → List OA} {Φ' : X → List SP} {es us π s : List Nat} {i : Nat} {F : Nat → Value → List SP} {G : Nat → Value → List OA} {K : Fr → List SP → Prop}

theorem fs1 (k : PS C ops Γs es us Γ K s ((d, v) :: fr) Φ) (he : clsOf es us i = 0 := by exact rfl) (ho : lget ops.toList i = some o := by exact rfl) (hg : gv ops fr o.guard = some true := by exact rfl) (hd : o.dst = some d := by exact rfl) (hn : Nat.blt d C.n = true := by exact rfl)
    (h : Runs C fr Γs Φ o v := by (first | (apply Go.Hs.R_move; exact rfl) | (apply Go.Hs.R_assign; exact rfl) | (apply Go.Hs.R_extract; exact rfl; exact rfl) | (apply Go.Hs.R_pick_t; exact rfl; exact rfl) | (apply Go.Hs.R_pick_f; exact rfl; exact rfl) | (apply Go.Hs.G_bin; (first | (apply Go.Hs.R_cmp; exact rfl; exact rfl; exact rfl; (first | exact decide_eq_true (by omega) | exact decide_eq_false (by omega) | exact rfl)) | (apply Go.Hs.R_ari; exact rfl; exact rfl; exact rfl; (first | exact Go.Hs.wx_i64 (by omega) | exact Go.Hs.wx_u8 (by omega) | exact Go.Hs.wx_u64 (by omega) | exact Go.Hs.wx_u32 (by omega) | exact Go.Hs.wx_u16 (by omega) | exact Go.Hs.wx_b8 _ | exact rfl)) | (apply Go.Hs.R_eqB; exact rfl; exact rfl; exact rfl; exact rfl) | (apply Go.Hs.R_neB; exact rfl; exact rfl; exact rfl; exact rfl) | (apply Go.Hs.R_eqS; exact rfl; exact rfl; (first | exact decide_eq_true rfl | exact decide_eq_true (by assumption) | exact decide_eq_false (by assumption) | exact rfl)) | (apply Go.Hs.R_neS; exact rfl; exact rfl; (first | exact Go.Hs.neS_f rfl | exact Go.Hs.neS_f (by assumption) | exact Go.Hs.neS_t (by assumption) | exact rfl)) | (apply Go.Hs.R_addS; exact rfl; exact rfl; (first | omega | (simp only [List.length_take, List.length_drop, List.length_append, List.length_cons, List.length_nil, List.length_map, List.length_replicate]; omega))) | (apply Go.Hs.R_eqA; exact rfl; exact rfl; exact rfl; exact rfl; (first | exact rfl | kernel_rfl); (first | exact rfl | kernel_rfl); (first | exact rfl | kernel_rfl); (first | exact Go.Hs.Bc.self _ | exact Go.Hs.Bc.zero | exact Go.Hs.Bc.lit _ rfl); (first | exact Go.Hs.Bc.self _ | exact Go.Hs.Bc.zero | exact Go.Hs.Bc.lit _ rfl); (first | exact Go.Hs.Bc.self _ | exact Go.Hs.Bc.zero | exact Go.Hs.Bc.lit _ rfl); (first | exact Go.Hs.Bc.self _ | exact Go.Hs.Bc.zero | exact Go.Hs.Bc.lit _ rfl); (first | exact Go.Hs.Bc.self _ | exact Go.Hs.Bc.zero | exact Go.Hs.Bc.lit _ rfl); (first | exact Go.Hs.Bc.self _ | exact Go.Hs.Bc.zero | exact Go.Hs.Bc.lit _ rfl); (first | exact Go.Hs.Bc.self _ | exact Go.Hs.Bc.zero | exact Go.Hs.Bc.lit _ rfl); (first | exact Go.Hs.Bc.self _ | exact Go.Hs.Bc.zero | exact Go.Hs.Bc.lit _ rfl); (first | exact Go.Hs.Bc.self _ | exact Go.Hs.Bc.zero | exact Go.Hs.Bc.lit _ rfl); (first | exact Go.Hs.Bc.self _ | exact Go.Hs.Bc.zero | exact Go.Hs.Bc.lit _ rfl); (first | exact Go.Hs.Bc.self _ | exact Go.Hs.Bc.zero | exact Go.Hs.Bc.lit _ rfl); (first | exact Go.Hs.Bc.self _ | exact Go.Hs.Bc.zero | exact Go.Hs.Bc.lit _ rfl); (first | exact decide_eq_true (by assumption) | exact decide_eq_false (by assumption) | exact decide_eq_true rfl | exact decide_eq_false (by decide) | exact rfl)) | (apply Go.Hs.R_neA; exact rfl; exact rfl; exact rfl; exact rfl; (first | exact rfl | kernel_rfl); (first | exact rfl | kernel_rfl); (first | exact rfl | kernel_rfl); (first | exact Go.Hs.Bc.self _ | exact Go.Hs.Bc.zero | exact Go.Hs.Bc.lit _ rfl); (first | exact Go.Hs.Bc.self _ | exact Go.Hs.Bc.zero | exact Go.Hs.Bc.lit _ rfl); (first | exact Go.Hs.Bc.self _ | exact Go.Hs.Bc.zero | exact Go.Hs.Bc.lit _ rfl); (first | exact Go.Hs.Bc.self _ | exact Go.Hs.Bc.zero | exact Go.Hs.Bc.lit _ rfl); (first | exact Go.Hs.Bc.self _ | exact Go.Hs.Bc.zero | exact Go.Hs.Bc.lit _ rfl); (first | exact Go.Hs.Bc.self _ | exact Go.Hs.Bc.zero | exact Go.Hs.Bc.lit _ rfl); (first | exact Go.Hs.Bc.self _ | exact Go.Hs.Bc.zero | exact Go.Hs.Bc.lit _ rfl); (first | exact Go.Hs.Bc.self _ | exact Go.Hs.Bc.zero | exact Go.Hs.Bc.lit _ rfl); (first | exact Go.Hs.Bc.self _ | exact Go.Hs.Bc.zero | exact Go.Hs.Bc.lit _ rfl); (first | exact Go.Hs.Bc.self _ | exact Go.Hs.Bc.zero | exact Go.Hs.Bc.lit _ rfl); (first | exact Go.Hs.Bc.self _ | exact Go.Hs.Bc.zero | exact Go.Hs.Bc.lit _ rfl); (first | exact Go.Hs.Bc.self _ | exact Go.Hs.Bc.zero | exact Go.Hs.Bc.lit _ rfl); (first | exact Go.Hs.neS_f' (by assumption) | exact Go.Hs.neS_t' (by assumption) | exact Go.Hs.neS_f' rfl | exact Go.Hs.neS_t' (by decide) | exact rfl)))) | (apply Go.Hs.G_load; (first | (apply Go.Hs.R_load1; exact rfl; (repeat' (first | exact Go.Hs.Pick.head _ _ | apply Go.Hs.Pick.tail)); (intro _; exact rfl); exact rfl) | (apply Go.Hs.R_loadN; exact rfl; (repeat' (first | exact Go.Hs.Pick.head _ _ | apply Go.Hs.Pick.tail)); (intro _; exact rfl); (intro _; exact rfl); exact rfl) | (apply Go.Hs.R_loadP; exact rfl; (repeat' (first | exact Go.Hs.mcs | apply Go.Hs.mct)); (intro _; exact rfl); exact rfl) | (apply Go.Hs.R_loadPN; exact rfl; (repeat' (first | exact Go.Hs.mcs | apply Go.Hs.mct)); (intro _; exact rfl); (intro _; exact rfl)) | (apply Go.Hs.R_loadPT; exact rfl; (repeat' (first | exact Go.Hs.mcs | apply Go.Hs.mct)); (intro _; exact rfl); (intro _; exact rfl); exact rfl) | (apply Go.Hs.R_loadPO; exact rfl; (repeat' (first | exact Go.Hs.mcs | apply Go.Hs.mct)); (intro _; exact rfl); exact rfl) | (apply Go.Hs.R_loadPON; exact rfl; (repeat' (first | exact Go.Hs.mcs | apply Go.Hs.mct)); (intro _; exact rfl); (intro _; exact rfl); exact rfl) | (apply Go.Hs.R_loadRow; exact rfl; (repeat' (first | exact Go.Hs.Pick.head _ _ | apply Go.Hs.Pick.tail)); (intro _; exact rfl); (first | omega | (simp only [List.length_take, List.length_drop, List.length_append, List.length_cons, List.length_nil, List.length_map, List.length_replicate]; omega)); (assumption)) | (apply Go.Hs.R_loadRowF; exact rfl; (repeat' (first | exact Go.Hs.Pick.head _ _ | apply Go.Hs.Pick.tail)); (intro _; exact rfl); (assumption)))) | (apply Go.Hs.R_fieldO0; exact rfl; exact rfl; exact rfl; (intro _; exact rfl); exact rfl) | (apply Go.Hs.R_fieldO; exact rfl; exact rfl; exact rfl; (intro _; exact rfl); exact rfl) | (apply Go.Hs.R_not; exact rfl; exact rfl) | (apply Go.Hs.G_call; (first | (apply Go.Hs.R_lenBy; exact rfl; (repeat' (first | exact Go.Hs.mcs | apply Go.Hs.mct)); exact rfl) | (apply Go.Hs.R_lenRow; exact rfl; (repeat' (first | exact Go.Hs.Pick.head _ _ | apply Go.Hs.Pick.tail)); exact rfl) | (apply Go.Hs.R_lenSl; exact rfl; (repeat' (first | exact Go.Hs.mcs | apply Go.Hs.mct)); exact rfl) | (apply Go.Hs.R_lenRw; exact rfl; (repeat' (first | exact Go.Hs.mcs | apply Go.Hs.mct)); exact rfl) | (apply Go.Hs.R_lenNil; exact rfl; exact rfl) | (apply Go.Hs.R_max2; exact rfl; exact rfl; (first | exact if_pos (by omega) | exact if_neg (by omega))) | (apply Go.Hs.R_min2; exact rfl; exact rfl; (first | exact if_pos (by omega) | exact if_neg (by omega))))) | (apply Go.Hs.R_convi; exact rfl; exact rfl; exact rfl; (first | exact Go.Hs.wx_i64 (by omega) | exact Go.Hs.wx_u8 (by omega) | exact Go.Hs.wx_u64 (by omega) | exact Go.Hs.wx_u32 (by omega) | exact Go.Hs.wx_u16 (by omega) | exact Go.Hs.wx_b8 _ | exact rfl)) | (apply Go.Hs.R_toStr; exact rfl; (repeat' (first | exact Go.Hs.mcs | apply Go.Hs.mct)); exact rfl; exact rfl; exact rfl) | (apply Go.Hs.R_toStrRow; exact rfl; (repeat' (first | exact Go.Hs.Pick.head _ _ | apply Go.Hs.Pick.tail)); (first | exact Go.Hs.nil_map | exact Go.Hs.one_map _ | exact Go.Hs.two_map _ _ | exact rfl); exact rfl; exact rfl; exact rfl) | (apply Go.Hs.R_build; exact rfl; (focus (repeat (first | apply Go.Hs.PartsE.nil | (apply Go.Hs.PartsE.cons; (focus (first | (apply Go.Hs.CellsE.lit; exact rfl) | (apply Go.Hs.CellsE.one; (first | (apply Go.Hs.OneC.lit; exact rfl) | (apply Go.Hs.OneC.by_; (repeat' (first | exact Go.Hs.mcs | apply Go.Hs.mct)); done) | (apply Go.Hs.OneC.sl; (repeat' (first | exact Go.Hs.mcs | apply Go.Hs.mct)); done) | (apply Go.Hs.OneC.rw; (repeat' (first | exact Go.Hs.mcs | apply Go.Hs.mct)); done) | (apply Go.Hs.OneC.row; (repeat' (first | exact Go.Hs.Pick.head _ _ | apply Go.Hs.Pick.tail))))))))))); (intro _; exact rfl); exact rfl; exact rfl; (intro _; go_simp; exact rfl); exact rfl) | (apply Go.Hs.R_buildArr; exact rfl; (focus (repeat (first | apply Go.Hs.SeqE.nil | (apply Go.Hs.SeqE.cons; exact rfl; (focus (first | (apply Go.Hs.CellsE.lit; exact rfl) | (apply Go.Hs.CellsE.one; (first | (apply Go.Hs.OneC.lit; exact rfl) | (apply Go.Hs.OneC.by_; (repeat' (first | exact Go.Hs.mcs | apply Go.Hs.mct)); done) | (apply Go.Hs.OneC.sl; (repeat' (first | exact Go.Hs.mcs | apply Go.Hs.mct)); done) | (apply Go.Hs.OneC.rw; (repeat' (first | exact Go.Hs.mcs | apply Go.Hs.mct)); done) | (apply Go.Hs.OneC.row; (repeat' (first | exact Go.Hs.Pick.head _ _ | apply Go.Hs.Pick.tail))))))); exact rfl) | exact rfl))); (intro _; exact rfl); exact rfl; exact rfl; (intro _; exact rfl); exact rfl; exact rfl) | (apply Go.Hs.R_field1; exact rfl; exact rfl; exact rfl; (intro _; exact rfl); exact rfl) | (apply Go.Hs.R_fieldN; exact rfl; exact rfl; exact rfl; (intro _; exact rfl); (intro _; exact rfl); exact rfl) | (apply Go.Hs.R_nilCheck; exact rfl) | (apply Go.Hs.R_makeFunc; exact rfl) | (apply Go.Hs.R_makeFunc1; exact rfl) | (apply Go.Hs.R_idxRow; exact rfl; exact rfl; (repeat' (first | exact Go.Hs.Pick.head _ _ | apply Go.Hs.Pick.tail)); exact rfl; (intro _; exact rfl); (focus (first | exact Go.Hs.lit0 | exact Go.Hs.lit1 | exact Go.Hs.lit2 | exact Go.Hs.lit3 | exact Go.Hs.lit4 | exact Go.Hs.lit5 | exact Go.Hs.lit6 | exact Go.Hs.lit7 | exact Go.Hs.lit8 | exact rfl | (simp; done) | omega)); (first | omega | (simp only [List.length_take, List.length_drop, List.length_append, List.length_cons, List.length_nil, List.length_map, List.length_replicate]; omega))) | (apply Go.Hs.R_fieldRow; exact rfl; (repeat' (first | exact Go.Hs.Pick.head _ _ | apply Go.Hs.Pick.tail)); (first | omega | (simp only [List.length_take, List.length_drop, List.length_append, List.length_cons, List.length_nil, List.length_map, List.length_replicate]; omega)); exact rfl; exact rfl; (intro _; exact rfl); exact rfl) | (apply Go.Hs.R_idxArr; exact rfl; exact rfl; exact rfl; (intro _; exact rfl); (focus (first | exact Go.Hs.lit0 | exact Go.Hs.lit1 | exact Go.Hs.lit2 | exact Go.Hs.lit3 | exact Go.Hs.lit4 | exact Go.Hs.lit5 | exact Go.Hs.lit6 | exact Go.Hs.lit7 | exact Go.Hs.lit8 | exact rfl | (simp; done) | omega)); (first | omega | (simp only [List.length_take, List.length_drop, List.length_append, List.length_cons, List.length_nil, List.length_map, List.length_replicate]; omega))) | (apply Go.Hs.R_sliceArr; exact rfl; exact rfl; (intro _; exact rfl); exact rfl))) : PS C ops Γs es us Γ K (i :: s) fr Φ := PS_runs he ho hg hd hn h k
theorem fs4 (k : PS C ops Γs es us Γ K s ((d, v) :: fr) (ψ :: Φ)) (he : clsOf es us i = 0 := by exact rfl) (ho : lget ops.toList i = some o := by exact rfl) (hg : gv ops fr o.guard = some true := by exact rfl) (hd : o.dst = some d := by exact rfl) (hn : Nat.blt d C.n = true := by exact rfl)
    (h : Runs C fr Γs Φ o v ∧ Ent Φ ψ := by (first | (apply Go.Hs.R_idxBy; exact rfl; exact rfl; (repeat' (first | exact Go.Hs.mcs | apply Go.Hs.mct)); exact rfl; (intro _; exact rfl); (focus (first | exact Go.Hs.lit0 | exact Go.Hs.lit1 | exact Go.Hs.lit2 | exact Go.Hs.lit3 | exact Go.Hs.lit4 | exact Go.Hs.lit5 | exact Go.Hs.lit6 | exact Go.Hs.lit7 | exact Go.Hs.lit8 | exact rfl | (simp; done) | omega)); (first | omega | (simp only [List.length_take, List.length_drop, List.length_append, List.length_cons, List.length_nil, List.length_map, List.length_replicate]; omega))) | (apply Go.Hs.R_idxRw; exact rfl; exact rfl; (repeat' (first | exact Go.Hs.mcs | apply Go.Hs.mct)); exact rfl; (intro _; exact rfl); (focus (first | exact Go.Hs.lit0 | exact Go.Hs.lit1 | exact Go.Hs.lit2 | exact Go.Hs.lit3 | exact Go.Hs.lit4 | exact Go.Hs.lit5 | exact Go.Hs.lit6 | exact Go.Hs.lit7 | exact Go.Hs.lit8 | exact rfl | (simp; done) | omega)); (first | omega | (simp only [List.length_take, List.length_drop, List.length_append, List.length_cons, List.length_nil, List.length_map, List.length_replicate]; omega)); (first | assumption | exact rfl)) | (apply Go.Hs.R_cutBy; exact rfl; (repeat' (first | exact Go.Hs.mcs | apply Go.Hs.mct)); exact rfl; (intro _; exact rfl); exact rfl; exact rfl; (focus (first | exact Go.Hs.lit0 | exact Go.Hs.lit1 | exact Go.Hs.lit2 | exact Go.Hs.lit3 | exact Go.Hs.lit4 | exact Go.Hs.lit5 | exact Go.Hs.lit6 | exact Go.Hs.lit7 | exact Go.Hs.lit8 | exact rfl | (simp; done) | omega)); (focus (first | exact Go.Hs.lit0 | exact Go.Hs.lit1 | exact Go.Hs.lit2 | exact Go.Hs.lit3 | exact Go.Hs.lit4 | exact Go.Hs.lit5 | exact Go.Hs.lit6 | exact Go.Hs.lit7 | exact Go.Hs.lit8 | exact rfl | (simp; done) | omega)); (first | omega | (simp only [List.length_take, List.length_drop, List.length_append, List.length_cons, List.length_nil, List.length_map, List.length_replicate]; omega)); (first | omega | (simp only [List.length_take, List.length_drop, List.length_append, List.length_cons, List.length_nil, List.length_map, List.length_replicate]; omega)); (focus ((try (conv => lhs; simp only [Nat.add_sub_cancel_left, Nat.sub_zero, List.drop_zero, List.nil_append])); (first | done | exact rfl)))) | (apply Go.Hs.R_fieldP; exact rfl; (repeat' (first | exact Go.Hs.mcs | apply Go.Hs.mct)); exact rfl; exact rfl; (intro _; exact rfl); exact rfl; exact rfl))) : PS C ops Γs es us Γ K (i :: s) fr Φ := PS_runsF he ho hg hd hn h k
theorem fs5 (k : PS C ops Γs es us Γ K s ((d, undef) :: fr) Φ) (he : clsOf es us i = 0 := by exact rfl) (ho : lget ops.toList i = some o := by exact rfl) (hg : gv ops fr o.guard = some false := by exact rfl) (hd : o.dst = some d := by exact rfl) (hn : Nat.blt d C.n = true := by exact rfl) :
    PS C ops Γs es us Γ K (i :: s) fr Φ := PS_pass he ho hg hd hn k
theorem ff1 (k : PF C ops Γs es us F G Q π ((d, v) :: fr) Γ Φ) (he : clsOf es us i = 0 := by exact rfl) (ho : lget ops.toList i = some o := by exact rfl) (hg : gv ops fr o.guard = some true := by exact rfl) (hd : o.dst = some d := by exact rfl) (hn : Nat.blt d C.n = true := by exact rfl)
    (h : Runs C fr Γs Φ o v := by (first | (apply Go.Hs.R_move; exact rfl) | (apply Go.Hs.R_assign; exact rfl) | (apply Go.Hs.R_extract; exact rfl; exact rfl) | (apply Go.Hs.R_pick_t; exact rfl; exact rfl) | (apply Go.Hs.R_pick_f; exact rfl; exact rfl) | (apply Go.Hs.G_bin; (first | (apply Go.Hs.R_cmp; exact rfl; exact rfl; exact rfl; (first | exact decide_eq_true (by omega) | exact decide_eq_false (by omega) | exact rfl)) | (apply Go.Hs.R_ari; exact rfl; exact rfl; exact rfl; (first | exact Go.Hs.wx_i64 (by omega) | exact Go.Hs.wx_u8 (by omega) | exact Go.Hs.wx_u64 (by omega) | exact Go.Hs.wx_u32 (by omega) | exact Go.Hs.wx_u16 (by omega) | exact Go.Hs.wx_b8 _ | exact rfl)) | (apply Go.Hs.R_eqB; exact rfl; exact rfl; exact rfl; exact rfl) | (apply Go.Hs.R_neB; exact rfl; exact rfl; exact rfl; exact rfl) | (apply Go.Hs.R_eqS; exact rfl; exact rfl; (first | exact decide_eq_true rfl | exact decide_eq_true (by assumption) | exact decide_eq_false (by assumption) | exact rfl)) | (apply Go.Hs.R_neS; exact rfl; exact rfl; (first | exact Go.Hs.neS_f rfl | exact Go.Hs.neS_f (by assumption) | exact Go.Hs.neS_t (by assumption) | exact rfl)) | (apply Go.Hs.R_addS; exact rfl; exact rfl; (first | omega | (simp only [List.length_take, List.length_drop, List.length_append, List.length_cons, List.length_nil, List.length_map, List.length_replicate]; omega))) | (apply Go.Hs.R_eqA; exact rfl; exact rfl; exact rfl; exact rfl; (first | exact rfl | kernel_rfl); (first | exact rfl | kernel_rfl); (first | exact rfl | kernel_rfl); (first | exact Go.Hs.Bc.self _ | exact Go.Hs.Bc.zero | exact Go.Hs.Bc.lit _ rfl); (first | exact Go.Hs.Bc.self _ | exact Go.Hs.Bc.zero | exact Go.Hs.Bc.lit _ rfl); (first | exact Go.Hs.Bc.self _ | exact Go.Hs.Bc.zero | exact Go.Hs.Bc.lit _ rfl); (first | exact Go.Hs.Bc.self _ | exact Go.Hs.Bc.zero | exact Go.Hs.Bc.lit _ rfl); (first | exact Go.Hs.Bc.self _ | exact Go.Hs.Bc.zero | exact Go.Hs.Bc.lit _ rfl); (first | exact Go.Hs.Bc.self _ | exact Go.Hs.Bc.zero | exact Go.Hs.Bc.lit _ rfl); (first | exact Go.Hs.Bc.self _ | exact Go.Hs.Bc.zero | exact Go.Hs.Bc.lit _ rfl); (first | exact Go.Hs.Bc.self _ | exact Go.Hs.Bc.zero | exact Go.Hs.Bc.lit _ rfl); (first | exact Go.Hs.Bc.self _ | exact Go.Hs.Bc.zero | exact Go.Hs.Bc.lit _ rfl); (first | exact Go.Hs.Bc.self _ | exact Go.Hs.Bc.zero | exact Go.Hs.Bc.lit _ rfl); (first | exact Go.Hs.Bc.self _ | exact Go.Hs.Bc.zero | exact Go.Hs.Bc.lit _ rfl); (first | exact Go.Hs.Bc.self _ | exact Go.Hs.Bc.zero | exact Go.Hs.Bc.lit _ rfl); (first | exact decide_eq_true (by assumption) | exact decide_eq_false (by assumption) | exact decide_eq_true rfl | exact decide_eq_false (by decide) | exact rfl)) | (apply Go.Hs.R_neA; exact rfl; exact rfl; exact rfl; exact rfl; (first | exact rfl | kernel_rfl); (first | exact rfl | kernel_rfl); (first | exact rfl | kernel_rfl); (first | exact Go.Hs.Bc.self _ | exact Go.Hs.Bc.zero | exact Go.Hs.Bc.lit _ rfl); (first | exact Go.Hs.Bc.self _ | exact Go.Hs.Bc.zero | exact Go.Hs.Bc.lit _ rfl); (first | exact Go.Hs.Bc.self _ | exact Go.Hs.Bc.zero | exact Go.Hs.Bc.lit _ rfl); (first | exact Go.Hs.Bc.self _ | exact Go.Hs.Bc.zero | exact Go.Hs.Bc.lit _ rfl); (first | exact Go.Hs.Bc.self _ | exact Go.Hs.Bc.zero | exact Go.Hs.Bc.lit _ rfl); (first | exact Go.Hs.Bc.self _ | exact Go.Hs.Bc.zero | exact Go.Hs.Bc.lit _ rfl); (first | exact Go.Hs.Bc.self _ | exact Go.Hs.Bc.zero | exact Go.Hs.Bc.lit _ rfl); (first | exact Go.Hs.Bc.self _ | exact Go.Hs.Bc.zero | exact Go.Hs.Bc.lit _ rfl); (first | exact Go.Hs.Bc.self _ | exact Go.Hs.Bc.zero | exact Go.Hs.Bc.lit _ rfl); (first | exact Go.Hs.Bc.self _ | exact Go.Hs.Bc.zero | exact Go.Hs.Bc.lit _ rfl); (first | exact Go.Hs.Bc.self _ | exact Go.Hs.Bc.zero | exact Go.Hs.Bc.lit _ rfl); (first | exact Go.Hs.Bc.self _ | exact Go.Hs.Bc.zero | exact Go.Hs.Bc.lit _ rfl); (first | exact Go.Hs.neS_f' (by assumption) | exact Go.Hs.neS_t' (by assumption) | exact Go.Hs.neS_f' rfl | exact Go.Hs.neS_t' (by decide) | exact rfl)))) | (apply Go.Hs.G_load; (first | (apply Go.Hs.R_load1; exact rfl; (repeat' (first | exact Go.Hs.Pick.head _ _ | apply Go.Hs.Pick.tail)); (intro _; exact rfl); exact rfl) | (apply Go.Hs.R_loadN; exact rfl; (repeat' (first | exact Go.Hs.Pick.head _ _ | apply Go.Hs.Pick.tail)); (intro _; exact rfl); (intro _; exact rfl); exact rfl) | (apply Go.Hs.R_loadP; exact rfl; (repeat' (first | exact Go.Hs.mcs | apply Go.Hs.mct)); (intro _; exact rfl); exact rfl) | (apply Go.Hs.R_loadPN; exact rfl; (repeat' (first | exact Go.Hs.mcs | apply Go.Hs.mct)); (intro _; exact rfl); (intro _; exact rfl)) | (apply Go.Hs.R_loadPT; exact rfl; (repeat' (first | exact Go.Hs.mcs | apply Go.Hs.mct)); (intro _; exact rfl); (intro _; exact rfl); exact rfl) | (apply Go.Hs.R_loadPO; exact rfl; (repeat' (first | exact Go.Hs.mcs | apply Go.Hs.mct)); (intro _; exact rfl); exact rfl) | (apply Go.Hs.R_loadPON; exact rfl; (repeat' (first | exact Go.Hs.mcs | apply Go.Hs.mct)); (intro _; exact rfl); (intro _; exact rfl); exact rfl) | (apply Go.Hs.R_loadRow; exact rfl; (repeat' (first | exact Go.Hs.Pick.head _ _ | apply Go.Hs.Pick.tail)); (intro _; exact rfl); (first | omega | (simp only [List.length_take, List.length_drop, List.length_append, List.length_cons, List.length_nil, List.length_map, List.length_replicate]; omega)); (assumption)) | (apply Go.Hs.R_loadRowF; exact rfl; (repeat' (first | exact Go.Hs.Pick.head _ _ | apply Go.Hs.Pick.tail)); (intro _; exact rfl); (assumption)))) | (apply Go.Hs.R_fieldO0; exact rfl; exact rfl; exact rfl; (intro _; exact rfl); exact rfl) | (apply Go.Hs.R_fieldO; exact rfl; exact rfl; exact rfl; (intro _; exact rfl); exact rfl) | (apply Go.Hs.R_not; exact rfl; exact rfl) | (apply Go.Hs.G_call; (first | (apply Go.Hs.R_lenBy; exact rfl; (repeat' (first | exact Go.Hs.mcs | apply Go.Hs.mct)); exact rfl) | (apply Go.Hs.R_lenRow; exact rfl; (repeat' (first | exact Go.Hs.Pick.head _ _ | apply Go.Hs.Pick.tail)); exact rfl) | (apply Go.Hs.R_lenSl; exact rfl; (repeat' (first | exact Go.Hs.mcs | apply Go.Hs.mct)); exact rfl) | (apply Go.Hs.R_lenRw; exact rfl; (repeat' (first | exact Go.Hs.mcs | apply Go.Hs.mct)); exact rfl) | (apply Go.Hs.R_lenNil; exact rfl; exact rfl) | (apply Go.Hs.R_max2; exact rfl; exact rfl; (first | exact if_pos (by omega) | exact if_neg (by omega))) | (apply Go.Hs.R_min2; exact rfl; exact rfl; (first | exact if_pos (by omega) | exact if_neg (by omega))))) | (apply Go.Hs.R_convi; exact rfl; exact rfl; exact rfl; (first | exact Go.Hs.wx_i64 (by omega) | exact Go.Hs.wx_u8 (by omega) | exact Go.Hs.wx_u64 (by omega) | exact Go.Hs.wx_u32 (by omega) | exact Go.Hs.wx_u16 (by omega) | exact Go.Hs.wx_b8 _ | exact rfl)) | (apply Go.Hs.R_toStr; exact rfl; (repeat' (first | exact Go.Hs.mcs | apply Go.Hs.mct)); exact rfl; exact rfl; exact rfl) | (apply Go.Hs.R_toStrRow; exact rfl; (repeat' (first | exact Go.Hs.Pick.head _ _ | apply Go.Hs.Pick.tail)); (first | exact Go.Hs.nil_map | exact Go.Hs.one_map _ | exact Go.Hs.two_map _ _ | exact rfl); exact rfl; exact rfl; exact rfl) | (apply Go.Hs.R_build; exact rfl; (focus (repeat (first | apply Go.Hs.PartsE.nil | (apply Go.Hs.PartsE.cons; (focus (first | (apply Go.Hs.CellsE.lit; exact rfl) | (apply Go.Hs.CellsE.one; (first | (apply Go.Hs.OneC.lit; exact rfl) | (apply Go.Hs.OneC.by_; (repeat' (first | exact Go.Hs.mcs | apply Go.Hs.mct)); done) | (apply Go.Hs.OneC.sl; (repeat' (first | exact Go.Hs.mcs | apply Go.Hs.mct)); done) | (apply Go.Hs.OneC.rw; (repeat' (first | exact Go.Hs.mcs | apply Go.Hs.mct)); done) | (apply Go.Hs.OneC.row; (repeat' (first | exact Go.Hs.Pick.head _ _ | apply Go.Hs.Pick.tail))))))))))); (intro _; exact rfl); exact rfl; exact rfl; (intro _; go_simp; exact rfl); exact rfl) | (apply Go.Hs.R_buildArr; exact rfl; (focus (repeat (first | apply Go.Hs.SeqE.nil | (apply Go.Hs.SeqE.cons; exact rfl; (focus (first | (apply Go.Hs.CellsE.lit; exact rfl) | (apply Go.Hs.CellsE.one; (first | (apply Go.Hs.OneC.lit; exact rfl) | (apply Go.Hs.OneC.by_; (repeat' (first | exact Go.Hs.mcs | apply Go.Hs.mct)); done) | (apply Go.Hs.OneC.sl; (repeat' (first | exact Go.Hs.mcs | apply Go.Hs.mct)); done) | (apply Go.Hs.OneC.rw; (repeat' (first | exact Go.Hs.mcs | apply Go.Hs.mct)); done) | (apply Go.Hs.OneC.row; (repeat' (first | exact Go.Hs.Pick.head _ _ | apply Go.Hs.Pick.tail))))))); exact rfl) | exact rfl))); (intro _; exact rfl); exact rfl; exact rfl; (intro _; exact rfl); exact rfl; exact rfl) | (apply Go.Hs.R_field1; exact rfl; exact rfl; exact rfl; (intro _; exact rfl); exact rfl) | (apply Go.Hs.R_fieldN; exact rfl; exact rfl; exact rfl; (intro _; exact rfl); (intro _; exact rfl); exact rfl) | (apply Go.Hs.R_nilCheck; exact rfl) | (apply Go.Hs.R_makeFunc; exact rfl) | (apply Go.Hs.R_makeFunc1; exact rfl) | (apply Go.Hs.R_idxRow; exact rfl; exact rfl; (repeat' (first | exact Go.Hs.Pick.head _ _ | apply Go.Hs.Pick.tail)); exact rfl; (intro _; exact rfl); (focus (first | exact Go.Hs.lit0 | exact Go.Hs.lit1 | exact Go.Hs.lit2 | exact Go.Hs.lit3 | exact Go.Hs.lit4 | exact Go.Hs.lit5 | exact Go.Hs.lit6 | exact Go.Hs.lit7 | exact Go.Hs.lit8 | exact rfl | (simp; done) | omega)); (first | omega | (simp only [List.length_take, List.length_drop, List.length_append, List.length_cons, List.length_nil, List.length_map, List.length_replicate]; omega))) | (apply Go.Hs.R_fieldRow; exact rfl; (repeat' (first | exact Go.Hs.Pick.head _ _ | apply Go.Hs.Pick.tail)); (first | omega | (simp only [List.length_take, List.length_drop, List.length_append, List.length_cons, List.length_nil, List.length_map, List.length_replicate]; omega)); exact rfl; exact rfl; (intro _; exact rfl); exact rfl) | (apply Go.Hs.R_idxArr; exact rfl; exact rfl; exact rfl; (intro _; exact rfl); (focus (first | exact Go.Hs.lit0 | exact Go.Hs.lit1 | exact Go.Hs.lit2 | exact Go.Hs.lit3 | exact Go.Hs.lit4 | exact Go.Hs.lit5 | exact Go.Hs.lit6 | exact Go.Hs.lit7 | exact Go.Hs.lit8 | exact rfl | (simp; done) | omega)); (first | omega | (simp only [List.length_take, List.length_drop, List.length_append, List.length_cons, List.length_nil, List.length_map, List.length_replicate]; omega))) | (apply Go.Hs.R_sliceArr; exact rfl; exact rfl; (intro _; exact rfl); exact rfl))) : PF C ops Γs es us F G Q (i :: π) fr Γ Φ := PF_runs he ho hg hd hn h k
theorem ff2 (k : ∀ x, pf x → PF C ops Γs es us F G Q π ((d, vx x) :: fr) (Γ' x) (Φ' x)) (he : clsOf es us i = 1 := by exact rfl) (ho : lget ops.toList i = some o := by exact rfl) (hg : gv ops fr o.guard = some true := by exact rfl) (hd : o.dst = some d := by exact rfl) (hn : Nat.blt d C.n = true := by exact rfl)
    (h : Effs C fr Γ Φ o pf vx Γ' Φ' := by (first | (apply Go.Hs.E_alloc; (intro _; exact rfl); exact rfl) | (apply Go.Hs.E_box; exact rfl; (focus (first | (apply Go.Hs.CellsE.lit; exact rfl) | (apply Go.Hs.CellsE.one; (first | (apply Go.Hs.OneC.lit; exact rfl) | (apply Go.Hs.OneC.by_; (repeat' (first | exact Go.Hs.mcs | apply Go.Hs.mct)); done) | (apply Go.Hs.OneC.sl; (repeat' (first | exact Go.Hs.mcs | apply Go.Hs.mct)); done) | (apply Go.Hs.OneC.rw; (repeat' (first | exact Go.Hs.mcs | apply Go.Hs.mct)); done) | (apply Go.Hs.OneC.row; (repeat' (first | exact Go.Hs.Pick.head _ _ | apply Go.Hs.Pick.tail)))))))))) (hs : ∀ x, SubO (Γ' x) Γs := by (intro _; (first | ((repeat (first | exact Go.Hs.SubO.nil _ | (apply Go.Hs.SubO.cons; (focus (repeat' (first | exact Go.Hs.Pick.head _ _ | apply Go.Hs.Pick.tail)))))); done) | fail))) : PF C ops Γs es us F G Q (i :: π) fr Γ Φ := PF_effs he ho hg hd hn h hs k
theorem ff3 (k : ∀ x, pf x → PF C ops Γs es us F G Q π fr (Γ' x) (Φ' x)) (he : clsOf es us i = 1 := by exact rfl) (ho : lget ops.toList i = some o := by exact rfl) (hg : gv ops fr o.guard = some true := by exact rfl) (hd : o.dst = none := by exact rfl)
    (h : Effs C fr Γ Φ o pf vx Γ' Φ' := by (first | (apply Go.Hs.E_store; exact rfl; exact rfl; (repeat' (first | exact Go.Hs.Pick.head _ _ | apply Go.Hs.Pick.tail)); (focus (first | (apply Go.Hs.CellsE.lit; exact rfl) | (apply Go.Hs.CellsE.one; (first | (apply Go.Hs.OneC.lit; exact rfl) | (apply Go.Hs.OneC.by_; (repeat' (first | exact Go.Hs.mcs | apply Go.Hs.mct)); done) | (apply Go.Hs.OneC.sl; (repeat' (first | exact Go.Hs.mcs | apply Go.Hs.mct)); done) | (apply Go.Hs.OneC.rw; (repeat' (first | exact Go.Hs.mcs | apply Go.Hs.mct)); done) | (apply Go.Hs.OneC.row; (repeat' (first | exact Go.Hs.Pick.head _ _ | apply Go.Hs.Pick.tail))))))); (intro _; exact rfl); (focus (repeat (first | apply Go.Hs.Ones.nil | exact Go.Hs.Ones.bytes | (apply Go.Hs.Ones.cons; (focus (first | (apply Go.Hs.OneC.lit; exact rfl) | (apply Go.Hs.OneC.by_; (repeat' (first | exact Go.Hs.mcs | apply Go.Hs.mct)); done) | (apply Go.Hs.OneC.sl; (repeat' (first | exact Go.Hs.mcs | apply Go.Hs.mct)); done) | (apply Go.Hs.OneC.rw; (repeat' (first | exact Go.Hs.mcs | apply Go.Hs.mct)); done) | (apply Go.Hs.OneC.row; (repeat' (first | exact Go.Hs.Pick.head _ _ | apply Go.Hs.Pick.tail))))))))); exact rfl))) (hs : ∀ x, SubO (Γ' x) Γs := by (intro _; (first | ((repeat (first | exact Go.Hs.SubO.nil _ | (apply Go.Hs.SubO.cons; (focus (repeat' (first | exact Go.Hs.Pick.head _ _ | apply Go.Hs.Pick.tail)))))); done) | fail))) : PF C ops Γs es us F G Q (i :: π) fr Γ Φ := PF_do he ho hg hd h hs k
theorem ff4 (k : PF C ops Γs es us F G Q π ((d, v) :: fr) Γ (ψ :: Φ)) (he : clsOf es us i = 0 := by exact rfl) (ho : lget ops.toList i = some o := by exact rfl) (hg : gv ops fr o.guard = some true := by exact rfl) (hd : o.dst = some d := by exact rfl) (hn : Nat.blt d C.n = true := by exact rfl)
    (h : Runs C fr Γs Φ o v ∧ Ent Φ ψ := by (first | (apply Go.Hs.R_idxBy; exact rfl; exact rfl; (repeat' (first | exact Go.Hs.mcs | apply Go.Hs.mct)); exact rfl; (intro _; exact rfl); (focus (first | exact Go.Hs.lit0 | exact Go.Hs.lit1 | exact Go.Hs.lit2 | exact Go.Hs.lit3 | exact Go.Hs.lit4 | exact Go.Hs.lit5 | exact Go.Hs.lit6 | exact Go.Hs.lit7 | exact Go.Hs.lit8 | exact rfl | (simp; done) | omega)); (first | omega | (simp only [List.length_take, List.length_drop, List.length_append, List.length_cons, List.length_nil, List.length_map, List.length_replicate]; omega))) | (apply Go.Hs.R_idxRw; exact rfl; exact rfl; (repeat' (first | exact Go.Hs.mcs | apply Go.Hs.mct)); exact rfl; (intro _; exact rfl); (focus (first | exact Go.Hs.lit0 | exact Go.Hs.lit1 | exact Go.Hs.lit2 | exact Go.Hs.lit3 | exact Go.Hs.lit4 | exact Go.Hs.lit5 | exact Go.Hs.lit6 | exact Go.Hs.lit7 | exact Go.Hs.lit8 | exact rfl | (simp; done) | omega)); (first | omega | (simp only [List.length_take, List.length_drop, List.length_append, List.length_cons, List.length_nil, List.length_map, List.length_replicate]; omega)); (first | assumption | exact rfl)) | (apply Go.Hs.R_cutBy; exact rfl; (repeat' (first | exact Go.Hs.mcs | apply Go.Hs.mct)); exact rfl; (intro _; exact rfl); exact rfl; exact rfl; (focus (first | exact Go.Hs.lit0 | exact Go.Hs.lit1 | exact Go.Hs.lit2 | exact Go.Hs.lit3 | exact Go.Hs.lit4 | exact Go.Hs.lit5 | exact Go.Hs.lit6 | exact Go.Hs.lit7 | exact Go.Hs.lit8 | exact rfl | (simp; done) | omega)); (focus (first | exact Go.Hs.lit0 | exact Go.Hs.lit1 | exact Go.Hs.lit2 | exact Go.Hs.lit3 | exact Go.Hs.lit4 | exact Go.Hs.lit5 | exact Go.Hs.lit6 | exact Go.Hs.lit7 | exact Go.Hs.lit8 | exact rfl | (simp; done) | omega)); (first | omega | (simp only [List.length_take, List.length_drop, List.length_append, List.length_cons, List.length_nil, List.length_map, List.length_replicate]; omega)); (first | omega | (simp only [List.length_take, List.length_drop, List.length_append, List.length_cons, List.length_nil, List.length_map, List.length_replicate]; omega)); (focus ((try (conv => lhs; simp only [Nat.add_sub_cancel_left, Nat.sub_zero, List.drop_zero, List.nil_append])); (first | done | exact rfl)))) | (apply Go.Hs.R_fieldP; exact rfl; (repeat' (first | exact Go.Hs.mcs | apply Go.Hs.mct)); exact rfl; exact rfl; (intro _; exact rfl); exact rfl; exact rfl))) : PF C ops Γs es us F G Q (i :: π) fr Γ Φ := PF_runsF he ho hg hd hn h k
theorem ff5 (k : PF C ops Γs es us F G Q π ((d, undef) :: fr) Γ Φ) (he : clsOf es us i = 0 := by exact rfl) (ho : lget ops.toList i = some o := by exact rfl) (hg : gv ops fr o.guard = some false := by exact rfl) (hd : o.dst = some d := by exact rfl) (hn : Nat.blt d C.n = true := by exact rfl) :
    PF C ops Γs es us F G Q (i :: π) fr Γ Φ := PF_pass he ho hg hd hn k
theorem ff7 {Γ1 : Value → List OA} {Φ1 : Value → List SP} (k : ∀ v, PF C ops Γs es us F G Q π ((d, v) :: fr) (Γ1 v) (Φ1 v)) (he : clsOf es us i = 2 := by exact rfl) (ho : lget ops.toList i = some o := by exact rfl) (hd : o.dst = some d := by exact rfl) (hn : Nat.blt d C.n = true := by exact rfl)
    (hG : ∀ v, appO (G i v) Γ = some (Γ1 v) := by (intro _; exact rfl)) (hF : ∀ v, appO (F i v) Φ = some (Φ1 v) := by (intro _; exact rfl)) : PF C ops Γs es us F G Q (i :: π) fr Γ Φ := PF_free he ho hd hn hG hF k
end
end Go.Hs

/-
  A region that draws its order, with free operations, some of which take over what an earlier free operation has made. No program is named here.
-/
namespace Go.Hs
open Go Go.RowKit

/-- the free operations: cs names those whose things are taken over, H what is kept for a later one. -/
def FSpecC (C : Ctx) (ops : Array Oper) (us : List Nat) (dl cs : Nat → List Nat) (F : Nat → Value → List SP) (G H : Nat → Value → List OA) (fr0 : Fr) (Φ0 : List SP) : Prop :=
  ∀ u ∈ us, ∃ o, ops[u]? = some o ∧ o.guard = none ∧ ∀ val Ψ, Effs C (frOn ops val fr0 (dl u)) (gsOn H val (cs u)) (fsOn F val (dl u) ++ Φ0 ++ Ψ) o (X := Value) (fun _ => True) (fun v => v) (fun v => G u v ++ H u v) (fun v => F u v ++ (fsOn F val (dl u) ++ Φ0 ++ Ψ))

structure FitC (es us : List Nat) (dl cs : Nat → List Nat) (nh : List Nat) : Prop where
  csub : ∀ u ∈ us, ∀ j ∈ cs u, j ∈ dl u
  nod : ∀ u ∈ us, (cs u).Nodup
  uniq : ∀ u ∈ us, ∀ u' ∈ us, ∀ j ∈ cs u, j ∈ cs u' → u = u'
  dj : ∀ u ∈ us, clsOf es us u = 2
  con : ∀ u ∈ us, (∃ u' ∈ us, u ∈ cs u') ∨ u ∈ nh

theorem gsOn_perm {G : Nat → Value → List OA} {val : Nat → Value} {l m : List Nat} (h : l.Perm m) : (gsOn G val l).Perm (gsOn G val m) := by
  induction h with
  | nil => exact List.Perm.refl _
  | cons x _ ih => exact List.Perm.append_left _ ih
  | swap x y l =>
    show (G y (val y) ++ (G x (val x) ++ gsOn G val l)).Perm (G x (val x) ++ (G y (val y) ++ gsOn G val l))
    rw [← List.append_assoc, ← List.append_assoc]
    exact List.Perm.append_right _ List.perm_append_comm
  | trans _ _ h1 h2 => exact h1.trans h2
theorem perm_sub {l : List Nat} : ∀ {c : List Nat}, c.Nodup → l.Nodup → (∀ j ∈ c, j ∈ l) → ∃ r, l.Perm (c ++ r) ∧ r.Nodup ∧ ∀ j, j ∈ r ↔ j ∈ l ∧ j ∉ c := by
  intro c
  induction c generalizing l with
  | nil => exact fun _ h2 _ => ⟨l, List.Perm.refl _, h2, fun j => by simp⟩
  | cons x c ih =>
    intro h1 h2 h3
    obtain ⟨h4, h5⟩ := List.nodup_cons.1 h1
    obtain ⟨l1, l2, rfl⟩ := List.append_of_mem (h3 x List.mem_cons_self)
    have hp : (l1 ++ x :: l2).Perm (x :: (l1 ++ l2)) := List.perm_middle
    have hn := hp.nodup_iff.1 h2
    obtain ⟨h6, h7⟩ := List.nodup_cons.1 hn
    obtain ⟨r, p1, p2, p3⟩ := ih (l := l1 ++ l2) h5 h7 fun j hj => by
      have := hp.mem_iff.1 (h3 j (List.mem_cons_of_mem _ hj))
      exact (List.mem_cons.1 this).resolve_left fun e => h4 (e ▸ hj)
    refine ⟨r, hp.trans (List.Perm.cons _ p1), p2, fun j => ?_⟩
    rw [p3, hp.mem_iff, List.mem_cons, List.mem_cons]
    constructor
    · rintro ⟨a, b⟩
      exact ⟨.inr a, fun h => h.elim (fun e => h6 (e ▸ a)) b⟩
    · rintro ⟨a, b⟩
      exact ⟨a.resolve_left fun e => b (.inl e), fun h => b (.inr h)⟩

section
variable {C : Ctx} {ops : Array Oper} {es us π0 s nh : List Nat} {dl cs : Nat → List Nat} {F : Nat → Value → List SP} {G H : Nat → Value → List OA} {fr0 : Fr} {Φ0 : List SP} {Γs : List OA} {Q : Exit → Act → World → Prop}

theorem pin_same {pool ex : List Nat} {i : Nat} (hp : ∀ j, j ∈ pool ↔ j ∈ ex ∧ j ∈ us ∧ ∃ u ∈ us, j ∈ cs u ∧ u ∉ ex) (hi : i ∉ us) : ∀ j, j ∈ pool ↔ j ∈ i :: ex ∧ j ∈ us ∧ ∃ u ∈ us, j ∈ cs u ∧ u ∉ i :: ex := fun j => by
  rw [hp j]
  constructor
  · rintro ⟨h1, h2, u, h3, h4, h5⟩
    exact ⟨List.mem_cons_of_mem _ h1, h2, u, h3, h4, fun h => (List.mem_cons.1 h).elim (fun e => hi (e ▸ h3)) h5⟩
  · rintro ⟨h1, h2, u, h3, h4, h5⟩
    exact ⟨(List.mem_cons.1 h1).resolve_left fun e => hi (e ▸ h2), h2, u, h3, h4, fun h => h5 (List.mem_cons_of_mem _ h)⟩

/-- the state of a drawn region, held against our walk. -/
structure SFc (C : Ctx) (ops : Array Oper) (es us π0 s : List Nat) (cs : Nat → List Nat) (F : Nat → Value → List SP) (G H : Nat → Value → List OA) (fr0 : Fr) (Φ0 : List SP) (Γs : List OA) (Q : Exit → Act → World → Prop) (a0 : Act) (fuel : Nat) (π ps ex : List Nat) (val : Nat → Value) (fr : Fr) (Γ : List OA) (Φ : List SP)
    (el pool : List Nat) (listed : Array Bool) (w : World) : Prop where
  plan : π0 = ps.reverse ++ π
  lsz : listed.size = ops.size
  lex : ∀ i, i < ops.size → (listed.getD i false = true ↔ i ∈ ex)
  xlt : ∀ i ∈ ex, i < ops.size
  fu : (π0.filter fun k => !ex.contains k).length ≤ fuel
  xdep : ∀ i ∈ ex, ∀ j, depOn ops i j = true → j ∈ ex
  xps : ∀ i ∈ ex, i ∈ ps ∨ (i ∈ π ∧ i ∈ el)
  early : ∀ i ∈ el, i ∈ ex ∧ i ∈ π ∧ clsOf es us i = 2
  elnd : el.Nodup
  pend : ∀ j ∈ ps, j ∉ ex → Pend C ops Γs a0 val Φ ps j
  frm : fok C fr (puts ops a0 val ps)
  hol : Holds C (Γ ++ (gsOn G val el ++ gsOn H val pool)) (fsOn F val el ++ Φ) w
  p0 : ∀ j ∈ ps, j ∉ ex → clsOf es us j = 0
  pnd : pool.Nodup
  pin : ∀ i, i ∈ pool ↔ i ∈ ex ∧ i ∈ us ∧ ∃ u ∈ us, i ∈ cs u ∧ u ∉ ex
  sub : SubO Γ Γs ∨ (π = [] ∧ ∀ j ∈ ps, j ∈ ex)
  walk : PF C ops Γs es us F G Q π fr Γ Φ
  base : fok C fr0 (puts ops a0 val s)
  sps : ∀ j ∈ s, j ∈ ps
  fct : AllIn Φ0 Φ
  pfct : ∀ j ∈ ps, clsOf es us j = 2 → AllIn (F j (val j)) Φ

theorem SFc.proper {a0 : Act} {fuel : Nat} {π ps ex : List Nat} {val : Nat → Value} {fr : Fr} {Γ : List OA} {Φ : List SP} {el pool : List Nat} {listed : Array Bool} {w : World}
    (T : Fit ops es us π0) (S : SFc C ops es us π0 s cs F G H fr0 Φ0 Γs Q a0 fuel π ps ex val fr Γ Φ el pool listed w) {i : Nat} {o : Oper} (ho : ops[i]? = some o) (hx : i ∉ ex) (hdep : ∀ j, depOn ops i j = true → j ∈ ex) : Proper ops i o ex := by
  refine ⟨hdep, fun k hk => ?_⟩
  obtain ⟨ok, hok⟩ : ∃ ok, ops[k]? = some ok := ⟨_, Array.getElem?_eq_getElem (S.xlt k hk)⟩
  have hne : k ≠ i := fun e => hx (e ▸ hk)
  rcases T.apart k i ok o hne hok ho with h | h | h
  · exact absurd (S.xdep k hk i h) hx
  · exact .inl h
  · exact .inr fun t ht => h t (by rw [← dstAt_eq hok]; exact ht)

/-- one operation is done. -/
theorem SFc.step (T : Fit ops es us π0) (TF : FitF ops es us s dl F C.n) (TC : FitC es us dl cs nh) (hnh : ∀ j ∈ nh, ∀ v, H j v = []) (hU : FSpecC C ops us dl cs F G H fr0 Φ0) {a0 : Act} {fuel : Nat}
    (ih : ∀ (π ps ex : List Nat) (val : Nat → Value) (fr : Fr) (Γ : List OA) (Φ : List SP) (el pool : List Nat) (listed : Array Bool) (w : World), SFc C ops es us π0 s cs F G H fr0 Φ0 Γs Q a0 fuel π ps ex val fr Γ Φ el pool listed w → wpAnyIn (fenceOf C.rd) 0 C.P .any ops Q fuel listed (puts ops a0 val ex) w)
    {π ps ex : List Nat} {val : Nat → Value} {fr : Fr} {Γ : List OA} {Φ : List SP} {el pool : List Nat} {listed : Array Bool} {w : World}
    (S : SFc C ops es us π0 s cs F G H fr0 Φ0 Γs Q a0 (fuel + 1) π ps ex val fr Γ Φ el pool listed w)
    (hst : ∀ h r, π = h :: r → h ∉ ex ∧ clsOf es us h ≠ 0) {i : Nat} (hlt : i < ops.size) (hx : i ∉ ex) (hdep : ∀ j, depOn ops i j = true → j ∈ ex) :
    wpOpIn (fenceOf C.rd) 0 C.P ops Q i (wpAnyIn (fenceOf C.rd) 0 C.P .any ops Q fuel (listed.setIfInBounds i true)) (puts ops a0 val ex) w := by
  obtain ⟨o, ho⟩ : ∃ o, ops[i]? = some o := ⟨_, Array.getElem?_eq_getElem hlt⟩
  have hprop := S.proper T ho hx hdep
  have hi0 := T.all i hlt
  have lsz' : (listed.setIfInBounds i true).size = ops.size := by simp [S.lsz]
  have lex' : ∀ j, j < ops.size → ((listed.setIfInBounds i true).getD j false = true ↔ j ∈ i :: ex) := fun j hj => by
    rw [getD_set_iff S.lsz hlt, S.lex j hj]
    simp
  have xlt' : ∀ j ∈ i :: ex, j < ops.size := fun j hj => by
    rcases List.mem_cons.1 hj with rfl | hj
    · exact hlt
    · exact S.xlt j hj
  have fu' : (π0.filter fun k => !(i :: ex).contains k).length ≤ fuel := by
    have := filter_lt (p := fun k => !ex.contains k) (q := fun k => !(i :: ex).contains k) (fun x hq => by simp at hq ⊢; exact hq.2) hi0 (by simpa using hx) (by simp)
    have := S.fu
    omega
  have xdep' : ∀ k ∈ i :: ex, ∀ j, depOn ops k j = true → j ∈ i :: ex := fun k hk j hj => by
    rcases List.mem_cons.1 hk with rfl | hk
    · exact List.mem_cons_of_mem _ (hdep j hj)
    · exact List.mem_cons_of_mem _ (S.xdep k hk j hj)
  have hmem : i ∈ ps ∨ i ∈ π := by
    rw [S.plan] at hi0
    simpa using hi0
  unfold wpOpIn
  rw [ho]
  show if Region.wanted o (yielded ops (puts ops a0 val ex).tmps) = true then _ else _
  rcases hmem with hmem | hmem
  · -- it waited
    obtain ⟨o', Φj, X, ho', hin, hT, hTp, h⟩ := S.pend i hmem hx
    obtain rfl : o = o' := by rw [ho] at ho'; injection ho' with e
    obtain ⟨e1, e2⟩ := exec_same T (a0 := a0) (val := val) ho hTp hprop
    have hc0 : i ∉ us := fun h => by have h1 := S.p0 i hmem hx; rw [TC.dj i h] at h1; cases h1
    have next : ∀ w', Holds C (Γ ++ (gsOn G val el ++ gsOn H val pool)) (fsOn F val el ++ Φ) w' → SFc C ops es us π0 s cs F G H fr0 Φ0 Γs Q a0 fuel π ps (i :: ex) val fr Γ Φ el pool (listed.setIfInBounds i true) w' := fun w' hw' =>
      { plan := S.plan, lsz := lsz', lex := lex', xlt := xlt', fu := fu', xdep := xdep', elnd := S.elnd, frm := S.frm, hol := hw', pnd := S.pnd, pin := pin_same S.pin hc0, p0 := fun j hj hjx => S.p0 j hj fun hk => hjx (List.mem_cons_of_mem _ hk), sub := S.sub.imp_right (fun h => ⟨h.1, fun j hj => List.mem_cons_of_mem _ (h.2 j hj)⟩), walk := S.walk
        base := S.base, sps := S.sps, fct := S.fct, pfct := S.pfct
        xps := fun k hk => by
          rcases List.mem_cons.1 hk with rfl | hk
          · exact .inl hmem
          · exact S.xps k hk
        early := fun p hp => ⟨List.mem_cons_of_mem _ (S.early p hp).1, (S.early p hp).2⟩
        pend := fun j hj hjx => S.pend j hj fun hk => hjx (List.mem_cons_of_mem _ hk) }
    rcases h with ⟨hw1, hg⟩ | ⟨hw1, hv⟩
    · rw [if_pos (by rw [← e2]; exact hw1)]
      have hG := hg w (sub_holds S.hol (S.sub.resolve_right fun h => hx (h.2 i hmem)) (hin.trans (allR _ _)))
      rw [e1] at hG
      refine hG.wp fun v' w' ⟨hv, hm⟩ => ?_
      subst hv
      have := ih _ _ _ _ _ _ _ _ _ _ _ (next w' (S.hol.ext hm))
      rw [puts, dstAt_eq ho] at this
      exact this
    · rw [if_neg (by rw [← e2, hw1]; simp)]
      have := ih _ _ _ _ _ _ _ _ _ _ _ (next w S.hol)
      rw [puts, dstAt_eq ho, hv] at this
      exact ⟨fun f _ => fenceOf_fn _ f, this⟩
  · have hnps : i ∉ ps := fun h => by
      have := T.nodup
      rw [S.plan] at this
      exact (List.nodup_append.1 this).2.2 i (List.mem_reverse.2 h) i hmem rfl
    have hpps : ∀ k ∈ ps, k ≠ i := fun k hk e => hnps (e ▸ hk)
    have hns : i ∉ s := fun h => hnps (S.sps i h)
    by_cases hc : clsOf es us i = 2
    · -- a free operation
      have hius := cls_us hc
      obtain ⟨o', ho', hgd, hsp⟩ := hU i hius
      obtain rfl : o = o' := by rw [ho] at ho'; injection ho' with e
      have hdl := TF.dus i hius
      have hPr : Proper ops i o (dl i ++ s) := by
        refine ⟨fun j hj => List.mem_append.2 ((TF.dep i hius j hj).symm), fun k hk => ?_⟩
        rcases List.mem_append.1 hk with hk | hk
        · exact .inl (hdl k hk).2.2.1
        · exact behind T S.plan ho hnps (S.sps k hk)
      obtain ⟨e1, _⟩ := exec_same T (a0 := a0) (val := val) ho hPr hprop
      rw [if_pos (by simp [Region.wanted, hgd])]
      have hfk := frOn_fok S.base (l := dl i) fun j hj => (hdl j hj).2.2.2
      have hall : AllIn (fsOn F val (dl i) ++ Φ0) (fsOn F val el ++ Φ) := by
        refine AllIn.app (fsOn_all fun j hj => ?_) (S.fct.trans (allR _ _))
        rcases S.xps j (hdep j (hdl j hj).2.2.1) with h | ⟨_, h⟩
        · exact (S.pfct j h (hdl j hj).2.1).trans (allR _ _)
        · exact (fsOn_mem h).trans (allL _ _)
      have hcin : ∀ j ∈ cs i, j ∈ pool := fun j hj => (S.pin j).2 ⟨hdep j (hdl j (TC.csub i hius j hj)).2.2.1, (hdl j (TC.csub i hius j hj)).1, i, hius, hj, hx⟩
      obtain ⟨rest, pp1, pp2, pp3⟩ := perm_sub (TC.nod i hius) S.pnd hcin
      have hhol : Holds C (gsOn H val (cs i) ++ (Γ ++ (gsOn G val el ++ gsOn H val rest))) (fsOn F val el ++ Φ) w := by
        refine S.hol.perm ?_
        have q1 := gsOn_perm (G := H) (val := val) pp1
        rw [gsOn_app] at q1
        refine (List.Perm.append_left Γ (List.Perm.append_left _ q1)).trans ?_
        generalize gsOn H val (cs i) = A
        generalize gsOn H val rest = B
        generalize gsOn G val el = E
        have p1 : (E ++ (A ++ B)).Perm (A ++ (E ++ B)) := by
          rw [← List.append_assoc, ← List.append_assoc]
          exact List.Perm.append_right _ List.perm_append_comm
        refine (List.Perm.append_left Γ p1).trans ?_
        rw [← List.append_assoc Γ A, ← List.append_assoc A Γ]
        exact List.Perm.append_right _ List.perm_append_comm
      have hG := (hsp val (fsOn F val el ++ Φ)).2 (Γ ++ (gsOn G val el ++ gsOn H val rest)) _ w hfk ⟨hhol.mod, hhol.own, hhol.ofp, hhol.o0, fun ψ hψ => hhol.sp ψ ((hall.app (AllIn.refl _)) ψ hψ)⟩
      rw [e1] at hG
      refine hG.wp fun v' w' ⟨x, _, hv, hw'⟩ => ?_
      subst hv
      have hnel : i ∉ el := fun h => hx (S.early i h).1
      have hnr : i ∉ rest := fun h => hx ((S.pin i).1 ((pp3 i).1 h).1).1
      have hused : ∀ u ∈ us, i ∈ cs u → u ∉ i :: ex := fun u hu hiu h => by
        have hd := ((TF.dus u hu) i (TC.csub u hu i hiu)).2.2.1
        rcases List.mem_cons.1 h with e | h
        · subst e
          exact hx (hdep u hd)
        · exact hx (S.xdep u h i hd)
      have pinR : ∀ j, j ∈ rest ↔ j ≠ i ∧ j ∈ i :: ex ∧ j ∈ us ∧ ∃ u ∈ us, j ∈ cs u ∧ u ∉ i :: ex := fun j => by
        rw [pp3 j, S.pin j]
        constructor
        · rintro ⟨⟨h1, h2, u, h3, h4, h5⟩, h6⟩
          exact ⟨fun e => hx (e ▸ h1), List.mem_cons_of_mem _ h1, h2, u, h3, h4, fun h => (List.mem_cons.1 h).elim (fun e => h6 (e ▸ h4)) h5⟩
        · rintro ⟨h0, h1, h2, u, h3, h4, h5⟩
          exact ⟨⟨(List.mem_cons.1 h1).resolve_left h0, h2, u, h3, h4, fun h => h5 (List.mem_cons_of_mem _ h)⟩, fun h6 => h5 (TC.uniq u h3 i hius j h4 h6 ▸ List.mem_cons_self)⟩
      obtain ⟨pool', hp1, hp2, hp3⟩ : ∃ pool', (gsOn H (upd val i v') pool').Perm (H i v' ++ gsOn H val rest) ∧ pool'.Nodup ∧ ∀ j, j ∈ pool' ↔ j ∈ i :: ex ∧ j ∈ us ∧ ∃ u ∈ us, j ∈ cs u ∧ u ∉ i :: ex := by
        rcases TC.con i hius with ⟨u, hu, hiu⟩ | hn
        · refine ⟨i :: rest, ?_, List.nodup_cons.2 ⟨hnr, pp2⟩, fun j => ?_⟩
          · rw [gsOn, gsOn_upd hnr, upd_same]
          · rw [List.mem_cons, pinR j]
            constructor
            · rintro (e | h)
              · subst e
                exact ⟨List.mem_cons_self, hius, u, hu, hiu, hused u hu hiu⟩
              · exact h.2
            · intro h
              by_cases e : j = i
              · exact .inl e
              · exact .inr ⟨e, h⟩
        · by_cases hu : ∃ u ∈ us, i ∈ cs u
          · obtain ⟨u, hu, hiu⟩ := hu
            refine ⟨i :: rest, ?_, List.nodup_cons.2 ⟨hnr, pp2⟩, fun j => ?_⟩
            · rw [gsOn, gsOn_upd hnr, upd_same]
            · rw [List.mem_cons, pinR j]
              constructor
              · rintro (e | h)
                · subst e
                  exact ⟨List.mem_cons_self, hius, u, hu, hiu, hused u hu hiu⟩
                · exact h.2
              · intro h
                by_cases e : j = i
                · exact .inl e
                · exact .inr ⟨e, h⟩
          · refine ⟨rest, ?_, pp2, fun j => ?_⟩
            · rw [gsOn_upd hnr, hnh i hn v']
              exact List.Perm.refl _
            · rw [pinR j]
              constructor
              · exact fun h => h.2
              · intro h
                refine ⟨fun e => ?_, h⟩
                subst e
                obtain ⟨_, _, u, h3, h4, _⟩ := h
                exact hu ⟨u, h3, h4⟩
      have S' : SFc C ops es us π0 s cs F G H fr0 Φ0 Γs Q a0 fuel π ps (i :: ex) (upd val i v') fr Γ Φ (i :: el) pool' (listed.setIfInBounds i true) w' :=
        { plan := S.plan, lsz := lsz', lex := lex', xlt := xlt', fu := fu', xdep := xdep', sub := S.sub.imp_right (fun h => ⟨h.1, fun j hj => List.mem_cons_of_mem _ (h.2 j hj)⟩), walk := S.walk
          base := by rw [puts_upd hns]; exact S.base
          sps := S.sps, fct := S.fct
          pfct := fun j hj hj2 => by rw [upd_other _ _ (hpps j hj)]; exact S.pfct j hj hj2
          xps := fun k hk => by
            rcases List.mem_cons.1 hk with rfl | hk
            · exact .inr ⟨hmem, List.mem_cons_self⟩
            · rcases S.xps k hk with h | ⟨h, hA⟩
              · exact .inl h
              · exact .inr ⟨h, List.mem_cons_of_mem _ hA⟩
          early := fun p hp => by
            rcases List.mem_cons.1 hp with rfl | hp
            · exact ⟨List.mem_cons_self, hmem, hc⟩
            · exact ⟨List.mem_cons_of_mem _ (S.early p hp).1, (S.early p hp).2⟩
          elnd := List.nodup_cons.2 ⟨hnel, S.elnd⟩
          pend := fun j hj hjx => (S.pend j hj fun hk => hjx (List.mem_cons_of_mem _ hk)).turn (fun k hk => (upd_other _ _ (hpps k hk)).symm) (upd_other _ _ (hpps j hj)).symm (AllIn.refl _) fun k hk => hk
          frm := by rw [puts_upd hnps]; exact S.frm
          hol := by
            rw [fsOn, gsOn, fsOn_upd hnel, gsOn_upd hnel, upd_same]
            have h1 : Holds C (G i v' ++ H i v' ++ (Γ ++ (gsOn G val el ++ gsOn H val rest))) (F i v' ++ fsOn F val el ++ Φ) w' := hw'.sub fun ψ hψ => by
              rw [List.append_assoc] at hψ
              rcases List.mem_append.1 hψ with h | h
              · exact List.mem_append.2 (.inl h)
              · exact List.mem_append.2 (.inr (List.mem_append.2 (.inr h)))
            refine h1.perm (List.Perm.symm ?_)
            refine (List.Perm.append_left Γ (List.Perm.append_left _ hp1)).trans ?_
            generalize gsOn H val rest = B
            generalize gsOn G val el = E
            generalize G i v' = X
            generalize H i v' = Y
            have p1 : ((X ++ E) ++ (Y ++ B)).Perm ((X ++ Y) ++ (E ++ B)) := by
              rw [List.append_assoc, List.append_assoc, ← List.append_assoc E, ← List.append_assoc Y]
              exact List.Perm.append_left _ (List.Perm.append_right _ List.perm_append_comm)
            refine (List.Perm.append_left Γ p1).trans ?_
            rw [← List.append_assoc Γ (X ++ Y), ← List.append_assoc (X ++ Y) Γ]
            exact List.Perm.append_right _ List.perm_append_comm
          pnd := hp2, pin := hp3, p0 := fun j hj hjx => S.p0 j hj fun hk => hjx (List.mem_cons_of_mem _ hk) }
      have := ih _ _ _ _ _ _ _ _ _ _ _ S'
      rw [puts, dstAt_eq ho, upd_same, puts_upd hx] at this
      exact this
    · -- the walk's next
      cases hπ : π with
      | nil => rw [hπ] at hmem; cases hmem
      | cons h r =>
        obtain ⟨hhx, hh0⟩ := hst h r hπ
        have hih : i = h := by
          rw [hπ] at hmem
          rcases List.mem_cons.1 hmem with e | hr
          · exact e
          · exact absurd (hdep h (T.eff ps.reverse h r (by rw [S.plan, hπ]) hh0 i hr hc)) hhx
        subst hih
        have hpl := S.walk
        rw [hπ] at hpl
        obtain ⟨o', ho', hdo, hnode⟩ := hpl
        obtain rfl : o = o' := by rw [ho] at ho'; injection ho' with e
        rcases hnode with ⟨h0, _⟩ | ⟨hc1, hgv, X, pf, vx, Γ', Φ', heff, hk⟩ | ⟨h2, _⟩
        · exact absurd h0 hh0
        · have hpprop : Proper ops i o ps := ⟨fun j hj => by simpa using T.ord ps.reverse i r (by rw [S.plan, hπ]) j hj, fun k hk => behind T S.plan ho hnps hk⟩
          obtain ⟨e1, e2⟩ := exec_same T (a0 := a0) (val := val) ho hpprop hprop
          have hnone : fsOn F val el = [] := fsOn_nil fun j hj v => by
            obtain ⟨_, hjπ, hj2⟩ := S.early j hj
            rcases TF.per i hlt hc1 j (cls_us hj2) with h | h
            · have := T.ord ps.reverse i r (by rw [S.plan, hπ]) j h
              have hjp := List.mem_reverse.1 this
              have hnd := T.nodup
              rw [S.plan] at hnd
              exact absurd rfl ((List.nodup_append.1 hnd).2.2 j (List.mem_reverse.2 hjp) j hjπ)
            · exact h v
          rw [if_pos (by rw [← e2]; exact gv_sound S.frm hgv)]
          have hhol := S.hol
          rw [hnone, List.nil_append] at hhol
          have hG := heff.2 _ _ w S.frm hhol
          rw [e1] at hG
          refine hG.wp fun v' w' ⟨x, hpf, hv, hw'⟩ => ?_
          subst hv
          obtain ⟨hsub, hpl'⟩ := hk x hpf
          have hnel : i ∉ el := fun h => hx (S.early i h).1
          have hius : i ∉ us := fun h => hc (TC.dj i h)
          have hnpl : i ∉ pool := fun h => hx ((S.pin i).1 h).1
          have S' : SFc C ops es us π0 s cs F G H fr0 Φ0 Γs Q a0 fuel r (i :: ps) (i :: ex) (upd val i (vx x)) (putFr o.dst (vx x) fr) (Γ' x) (Φ' x) el pool (listed.setIfInBounds i true) w' :=
            { plan := by rw [S.plan, hπ]; simp
              lsz := lsz', lex := lex', xlt := xlt', fu := fu', xdep := xdep', walk := hpl'
              sub := hsub.imp_right (fun h => ⟨h.1, fun j hj => by
                by_cases e : j = i
                · rw [e]; exact List.mem_cons_self
                · rcases List.mem_cons.1 hj with h' | h'
                  · exact absurd h' e
                  · exact List.mem_cons_of_mem _ (hdep j (h.2 j (T.lt j (by rw [S.plan]; simp [h'])) e))⟩)
              elnd := S.elnd
              hol := by rw [fsOn_upd hnel, gsOn_upd hnel, gsOn_upd hnpl, hnone, List.nil_append]; exact hw'
              pnd := S.pnd, pin := pin_same S.pin hius
              p0 := fun j hj hjx => by
                rcases List.mem_cons.1 hj with rfl | hj
                · exact absurd List.mem_cons_self hjx
                · exact S.p0 j hj fun hk => hjx (List.mem_cons_of_mem _ hk)
              base := by rw [puts_upd hns]; exact S.base
              sps := fun j hj => List.mem_cons_of_mem _ (S.sps j hj)
              fct := S.fct.trans (heff.1 x)
              pfct := fun j hj hj2 => by
                rcases List.mem_cons.1 hj with rfl | hj
                · exact absurd hj2 hc
                · rw [upd_other _ _ (hpps j hj)]; exact (S.pfct j hj hj2).trans (heff.1 x)
              xps := fun k hk => by
                rcases List.mem_cons.1 hk with rfl | hk
                · exact .inl List.mem_cons_self
                · rcases S.xps k hk with h | ⟨h, hA⟩
                  · exact .inl (List.mem_cons_of_mem _ h)
                  · rw [hπ] at h
                    rcases List.mem_cons.1 h with h | h
                    · exact absurd (h ▸ hk) hx
                    · exact .inr ⟨h, hA⟩
              early := fun p hp => by
                obtain ⟨h1, h2, h3⟩ := S.early p hp
                refine ⟨List.mem_cons_of_mem _ h1, ?_, h3⟩
                rw [hπ] at h2
                exact (List.mem_cons.1 h2).resolve_left fun e => hx (e ▸ h1)
              pend := fun j hj hjx => by
                rcases List.mem_cons.1 hj with rfl | hj
                · exact absurd List.mem_cons_self hjx
                · exact (S.pend j hj fun hk => hjx (List.mem_cons_of_mem _ hk)).turn (fun k hk => (upd_other _ _ (hpps k hk)).symm) (upd_other _ _ (hpps j hj)).symm (heff.1 x) fun k hk => List.mem_cons_of_mem _ hk
              frm := by
                rw [puts, upd_same, puts_upd hnps, dstAt_eq ho]
                exact S.frm.putd hdo }
          have := ih _ _ _ _ _ _ _ _ _ _ _ S'
          rw [puts, dstAt_eq ho, upd_same, puts_upd hx] at this
          exact this
        · exact absurd h2 hc
theorem SFc.ready {a0 : Act} {fuel : Nat} {π ps ex : List Nat} {val : Nat → Value} {fr : Fr} {Γ : List OA} {Φ : List SP} {el pool : List Nat} {listed : Array Bool} {w : World}
    (T : Fit ops es us π0) (S : SFc C ops es us π0 s cs F G H fr0 Φ0 Γs Q a0 fuel π ps ex val fr Γ Φ el pool listed w) {i : Nat} (h : i ∈ Region.ready .any ops listed) : i < ops.size ∧ i ∉ ex ∧ ∀ j, depOn ops i j = true → j ∈ ex := by
  obtain ⟨hlt, hl, o, ho, hall⟩ := ready_mem h
  refine ⟨hlt, fun hx => ?_, fun j hj => ?_⟩
  · have := (S.lex i hlt).2 hx
    have hlt' : i < listed.size := by rw [S.lsz]; exact hlt
    simp [Array.getD_eq_getD_getElem?, hlt'] at this hl
    rw [this] at hl
    cases hl
  · obtain ⟨o', e, ho', he, hb, hor⟩ := T.clos i j hlt hj
    obtain rfl : o = o' := by rw [ho] at ho'; injection ho' with e
    have hle := hall e he hb
    have helt : e.on < ops.size := by
      rcases Nat.lt_or_ge e.on ops.size with h | h
      · exact h
      · have : listed[e.on]? = none := Array.getElem?_eq_none (by rw [S.lsz]; exact h)
        simp [Array.getD_eq_getD_getElem?, this] at hle
    have hex := (S.lex e.on helt).1 hle
    rcases hor with rfl | hor
    · exact hex
    · exact S.xdep _ hex j hor

/-- nothing is ready: all is done. -/
theorem SFc.done {a0 : Act} {fuel : Nat} {π ps ex : List Nat} {val : Nat → Value} {fr : Fr} {Γ : List OA} {Φ : List SP} {el pool : List Nat} {listed : Array Bool} {w : World}
    (T : Fit ops es us π0) (S : SFc C ops es us π0 s cs F G H fr0 Φ0 Γs Q a0 fuel π ps ex val fr Γ Φ el pool listed w) (hr : Region.ready .any ops listed = []) : ∀ i ∈ π0, i ∈ ex := by
  have key : ∀ n l1 i l2, l1.length = n → π0 = l1 ++ i :: l2 → i ∈ ex := by
    intro n
    induction n using Nat.strongRecOn with
    | _ n ih =>
      intro l1 i l2 hn hl
      have hlt := T.lt i (by rw [hl]; simp)
      obtain ⟨o, ho⟩ : ∃ o, ops[i]? = some o := ⟨_, Array.getElem?_eq_getElem hlt⟩
      rcases Classical.em (i ∈ ex) with hx | hx
      · exact hx
      · exfalso
        have : i ∈ Region.ready .any ops listed := by
          refine mem_ready.2 ⟨?_, o, ho, fun e he hb => ?_⟩
          · have hlt' : i < listed.size := by rw [S.lsz]; exact hlt
            have h2 : ¬ listed.getD i false = true := fun h => hx ((S.lex i hlt).1 h)
            simp [Array.getD_eq_getD_getElem?, hlt'] at h2 ⊢
            exact h2
          · have hd := T.edge i o e ho he hb
            have hm := T.ord l1 i l2 hl e.on hd
            obtain ⟨m1, m2, hm2⟩ := List.append_of_mem hm
            have helt := T.lt e.on (by rw [hl, hm2]; simp)
            refine (S.lex e.on helt).2 (ih m1.length (by rw [← hn, hm2]; simp) m1 e.on (m2 ++ i :: l2) rfl (by rw [hl, hm2]; simp))
        rw [hr] at this
        cases this
  intro i hi
  obtain ⟨l1, l2, hl⟩ := List.append_of_mem hi
  exact key _ l1 i l2 rfl hl

theorem SFc.fin {a0 : Act} {fuel : Nat} {π ps ex : List Nat} {val : Nat → Value} {fr : Fr} {Γ : List OA} {Φ : List SP} {el pool : List Nat} {listed : Array Bool} {w : World}
    (T : Fit ops es us π0) (S : SFc C ops es us π0 s cs F G H fr0 Φ0 Γs Q a0 fuel π ps ex val fr Γ Φ el pool listed w) (hst : ∀ h r, π = h :: r → h ∉ ex ∧ clsOf es us h ≠ 0) (hin : ∀ u ∈ us, u ∈ π0) (hall : ∀ i ∈ π0, i ∈ ex) : Q .normal (puts ops a0 val ex) w := by
  have hπ : π = [] := by
    cases hπ : π with
    | nil => rfl
    | cons h r => exact absurd (hall h (by rw [S.plan, hπ]; simp)) (hst h r hπ).1
  subst hπ
  have hel : el = [] := by
    cases el with
    | nil => rfl
    | cons p r => have := (S.early p List.mem_cons_self).2.1; cases this
  subst hel
  have hpl : pool = [] := by
    cases pool with
    | nil => rfl
    | cons p r =>
      obtain ⟨_, _, u, hu, _, h5⟩ := (S.pin p).1 List.mem_cons_self
      exact absurd (hall u (hin u hu)) h5
  subst hpl
  have hw := S.walk
  refine hw _ w (fok_same T (fun j => ⟨fun h => hall j (by rw [S.plan]; simp [h]), fun h => ?_⟩) S.frm) (by simpa [gsOn, fsOn] using S.hol)
  rcases S.xps j h with h | ⟨h, _⟩
  · exact h
  · cases h

/-- what can be settled is settled, ahead of the next step. -/
theorem SFc.settle (T : Fit ops es us π0) {a0 : Act} {fuel : Nat} {listed : Array Bool} {w : World} {ex : List Nat} {K : (Nat → Value) → Prop}
    (hK : ∀ (π ps : List Nat) (val : Nat → Value) (fr : Fr) (Γ : List OA) (Φ : List SP) (el pool : List Nat), SFc C ops es us π0 s cs F G H fr0 Φ0 Γs Q a0 fuel π ps ex val fr Γ Φ el pool listed w → (∀ h r, π = h :: r → h ∉ ex ∧ clsOf es us h ≠ 0) → K val)
    (hKc : ∀ val val', (∀ k ∈ ex, val k = val' k) → K val' → K val) :
    ∀ (π ps : List Nat) (val : Nat → Value) (fr : Fr) (Γ : List OA) (Φ : List SP) (el pool : List Nat), SFc C ops es us π0 s cs F G H fr0 Φ0 Γs Q a0 fuel π ps ex val fr Γ Φ el pool listed w → K val := by
  intro π
  induction π with
  | nil => exact fun ps val fr Γ Φ el pool S => hK _ _ _ _ _ _ _ _ S fun h r e => by cases e
  | cons i r ih =>
    intro ps val fr Γ Φ el pool S
    have hnd := T.nodup
    rw [S.plan] at hnd
    have hnps : i ∉ ps := fun h => (List.nodup_append.1 hnd).2.2 i (List.mem_reverse.2 h) i List.mem_cons_self rfl
    have hpps : ∀ k ∈ ps, k ≠ i := fun k hk e => hnps (e ▸ hk)
    have hns : i ∉ s := fun h => hnps (S.sps i h)
    obtain ⟨o, ho, hdo, hnode⟩ := S.walk
    have hpprop : Proper ops i o ps := ⟨fun j hj => by simpa using T.ord ps.reverse i r S.plan j hj, fun k hk => behind T S.plan ho hnps hk⟩
    rcases hnode with ⟨h0, v, N, hN, hrun, hpl⟩ | ⟨h1, _⟩ | ⟨h2, hpl⟩
    · -- settled by what is known
      have hix : i ∉ ex := fun h => by
        rcases S.xps i h with h | ⟨_, hA⟩
        · exact hnps h
        · have := (S.early _ hA).2.2
          rw [h0] at this
          cases this
      have hnel : i ∉ el := fun h => hix (S.early i h).1
      have hin : AllIn Φ (N ++ Φ) := fun ψ hψ => List.mem_append.2 (.inr hψ)
      refine hKc val (upd val i v) (fun k hk => (upd_other _ _ (fun (e : k = i) => hix (e ▸ hk))).symm) (ih (i :: ps) (upd val i v) (putFr o.dst v fr) Γ (N ++ Φ) el pool
        { plan := by rw [S.plan]; simp
          lsz := S.lsz, lex := S.lex, xlt := S.xlt, fu := S.fu, xdep := S.xdep, elnd := S.elnd, sub := .inl (S.sub.resolve_right fun h => by cases h.1), walk := hpl
          base := by rw [puts_upd hns]; exact S.base
          sps := fun j hj => List.mem_cons_of_mem _ (S.sps j hj)
          fct := S.fct.trans hin
          pfct := fun j hj hj2 => by
            rcases List.mem_cons.1 hj with rfl | hj
            · rw [h0] at hj2; cases hj2
            · rw [upd_other _ _ (hpps j hj)]; exact (S.pfct j hj hj2).trans hin
          hol := by
            rw [fsOn_upd hnel, gsOn_upd hnel, gsOn_upd fun h => hix ((S.pin i).1 h).1]
            exact ⟨S.hol.mod, S.hol.own, S.hol.ofp, S.hol.o0, fun ψ hψ => by
              rcases List.mem_append.1 hψ with hψ | hψ
              · exact S.hol.sp ψ (List.mem_append.2 (.inl hψ))
              · rcases List.mem_append.1 hψ with hψ | hψ
                · exact hN ψ hψ _ _ fun χ hχ => S.hol.sp χ (List.mem_append.2 (.inr hχ))
                · exact S.hol.sp ψ (List.mem_append.2 (.inr hψ))⟩
          pnd := S.pnd, pin := S.pin
          p0 := fun j hj hjx => by
            rcases List.mem_cons.1 hj with rfl | hj
            · exact h0
            · exact S.p0 j hj hjx
          xps := fun k hk => by
            rcases S.xps k hk with h | ⟨h, A⟩
            · exact .inl (List.mem_cons_of_mem _ h)
            · exact .inr ⟨(List.mem_cons.1 h).resolve_left (fun (e : k = i) => hix (by rw [← e]; exact hk)), A⟩
          early := fun p hp => by
            obtain ⟨h1, h2, h3⟩ := S.early p hp
            exact ⟨h1, (List.mem_cons.1 h2).resolve_left fun e => hix (e ▸ h1), h3⟩
          pend := fun j hj hjx => by
            rcases List.mem_cons.1 hj with rfl | hj
            · refine ⟨o, Φ, ps, ho, hin, fun k hk => List.mem_cons_of_mem _ hk, hpprop, ?_⟩
              rw [puts_upd hnps, upd_same]
              rcases hrun with ⟨hg, hr⟩ | ⟨hg, hv⟩
              · refine .inl ⟨gv_sound S.frm hg, fun w' hw' => hr _ w' S.frm hw'⟩
              · exact .inr ⟨gv_sound S.frm hg, hv⟩
            · exact (S.pend j hj hjx).turn (fun k hk => (upd_other _ _ (hpps k hk)).symm) (upd_other _ _ (hpps j hj)).symm hin fun k hk => List.mem_cons_of_mem _ hk
          frm := by
            rw [puts, upd_same, puts_upd hnps, dstAt_eq ho]
            exact S.frm.putd hdo })
    · exact hK _ _ _ _ _ _ _ _ S fun h r' e => by
        injection e with e1 e2
        subst e1
        refine ⟨fun hx => ?_, by rw [h1]; decide⟩
        rcases S.xps i hx with h | ⟨_, hA⟩
        · exact hnps h
        · have := (S.early _ hA).2.2
          rw [h1] at this
          cases this
    · by_cases hx : i ∈ ex
      · -- what was done ahead takes its place
        have hA : i ∈ el := by
          rcases S.xps i hx with h | ⟨_, h⟩
          · exact absurd h hnps
          · exact h
        obtain ⟨e1, e2, hel⟩ := List.append_of_mem hA
        have hnd2 := S.elnd
        rw [hel] at hnd2
        have hni : ∀ p ∈ e1 ++ e2, p ≠ i := fun p hp e => by
          rw [List.nodup_append] at hnd2
          obtain ⟨_, h2, h3⟩ := hnd2
          rcases List.mem_append.1 hp with hp | hp
          · exact h3 p hp i List.mem_cons_self e
          · exact (List.nodup_cons.1 h2).1 (e ▸ hp)
        have hback : ∀ p ∈ e1 ++ e2, p ∈ el := fun p hp => by
          rw [hel]
          rcases List.mem_append.1 hp with h | h
          · exact List.mem_append.2 (.inl h)
          · exact List.mem_append.2 (.inr (List.mem_cons_of_mem _ h))
        have hin : AllIn Φ (F i (val i) ++ Φ) := allR _ _
        refine ih (i :: ps) val (putFr o.dst (val i) fr) (G i (val i) ++ Γ) (F i (val i) ++ Φ) (e1 ++ e2) pool
          { plan := by rw [S.plan]; simp
            lsz := S.lsz, lex := S.lex, xlt := S.xlt, fu := S.fu, xdep := S.xdep, walk := hpl (val i)
            base := S.base
            sps := fun j hj => List.mem_cons_of_mem _ (S.sps j hj)
            fct := S.fct.trans hin
            pfct := fun j hj hj2 => by
              rcases List.mem_cons.1 hj with rfl | hj
              · exact allL _ _
              · exact (S.pfct j hj hj2).trans hin
            sub := by
              obtain ⟨X, hX⟩ := S.sub.resolve_right fun h => by cases h.1
              refine .inl ⟨G i (val i) ++ X, (List.Perm.append_left _ hX).trans ?_⟩
              rw [← List.append_assoc, ← List.append_assoc]
              exact List.Perm.append_right _ List.perm_append_comm
            elnd := by
              rw [List.nodup_append] at hnd2 ⊢
              obtain ⟨h1, h2, h3⟩ := hnd2
              exact ⟨h1, (List.nodup_cons.1 h2).2, fun a ha b hb => h3 a ha b (List.mem_cons_of_mem _ hb)⟩
            hol := by
              have hh := S.hol
              rw [hel, fsOn_app, gsOn_app, fsOn, gsOn] at hh
              rw [fsOn_app, gsOn_app]
              have h1 := hh.sub (Ψ := fsOn F val e1 ++ fsOn F val e2 ++ (F i (val i) ++ Φ)) fun ψ hψ => by
                simp only [List.mem_append] at hψ ⊢
                rcases hψ with (h | h) | h | h
                · exact .inl (.inl h)
                · exact .inl (.inr (.inr h))
                · exact .inl (.inr (.inl h))
                · exact .inr h
              refine h1.perm ?_
              generalize gsOn H val pool = Z
              generalize gsOn G val e1 = A1
              generalize gsOn G val e2 = A2
              generalize G i (val i) = B
              have p1 : (A1 ++ (B ++ A2)).Perm (B ++ (A1 ++ A2)) := by
                rw [← List.append_assoc, ← List.append_assoc]
                exact List.Perm.append_right _ List.perm_append_comm
              refine (List.Perm.append_left Γ (List.Perm.append_right Z p1)).trans ?_
              rw [List.append_assoc B, ← List.append_assoc]
              exact List.Perm.append_right _ List.perm_append_comm
            pnd := S.pnd, pin := S.pin
            p0 := fun j hj hjx => by
              rcases List.mem_cons.1 hj with rfl | hj
              · exact absurd hx hjx
              · exact S.p0 j hj hjx
            xps := fun k hk => by
              rcases S.xps k hk with h | ⟨h, hA'⟩
              · exact .inl (List.mem_cons_of_mem _ h)
              · by_cases e : k = i
                · exact .inl (e ▸ List.mem_cons_self)
                · refine .inr ⟨(List.mem_cons.1 h).resolve_left e, ?_⟩
                  rw [hel] at hA'
                  rcases List.mem_append.1 hA' with h | h
                  · exact List.mem_append.2 (.inl h)
                  · rcases List.mem_cons.1 h with h | h
                    · exact absurd h e
                    · exact List.mem_append.2 (.inr h)
            early := fun p hp => by
              obtain ⟨h1, h2, h3⟩ := S.early p (hback p hp)
              exact ⟨h1, (List.mem_cons.1 h2).resolve_left (hni p hp), h3⟩
            pend := fun j hj hjx => by
              rcases List.mem_cons.1 hj with rfl | hj
              · exact absurd hx hjx
              · exact (S.pend j hj hjx).turn (fun _ _ => rfl) rfl hin fun k hk => List.mem_cons_of_mem _ hk
            frm := by
              rw [puts, dstAt_eq ho]
              exact S.frm.putd hdo }
      · exact hK _ _ _ _ _ _ _ _ S fun h r' e => by
          injection e with e1 e2
          subst e1
          exact ⟨hx, by rw [h2]; decide⟩

theorem PFc_main (T : Fit ops es us π0) (TF : FitF ops es us s dl F C.n) (TC : FitC es us dl cs nh) (hnh : ∀ j ∈ nh, ∀ v, H j v = []) (hU : FSpecC C ops us dl cs F G H fr0 Φ0) (hinn : ∀ u ∈ us, u ∈ π0) (a0 : Act) : ∀ (fuel : Nat) (π ps ex : List Nat) (val : Nat → Value) (fr : Fr) (Γ : List OA) (Φ : List SP) (el pool : List Nat) (listed : Array Bool) (w : World),
    SFc C ops es us π0 s cs F G H fr0 Φ0 Γs Q a0 fuel π ps ex val fr Γ Φ el pool listed w → wpAnyIn (fenceOf C.rd) 0 C.P .any ops Q fuel listed (puts ops a0 val ex) w := by
  intro fuel
  induction fuel with
  | zero =>
    intro π ps ex val fr Γ Φ el pool listed w S
    refine SFc.settle T (K := fun val => wpAnyIn (fenceOf C.rd) 0 C.P .any ops Q 0 listed (puts ops a0 val ex) w) ?_ (fun v v' h hk => by rw [puts_congr ex h]; exact hk) π ps val fr Γ Φ el pool S
    intro π ps val fr Γ Φ el pool S hst
    have hall : ∀ i ∈ π0, i ∈ ex := fun i hi => by
      rcases Classical.em (i ∈ ex) with h | h
      · exact h
      · have : i ∈ π0.filter fun k => !ex.contains k := List.mem_filter.2 ⟨hi, by simpa using h⟩
        have h0 := List.length_pos_of_mem this
        have := S.fu
        omega
    refine ⟨?_, S.fin T hst hinn hall⟩
    cases hr : Region.ready .any ops listed with
    | nil => rfl
    | cons i r =>
      obtain ⟨h1, h2, _⟩ := S.ready T (i := i) (by rw [hr]; exact List.mem_cons_self)
      exact absurd (hall i (T.all i h1)) h2
  | succ fuel ih =>
    intro π ps ex val fr Γ Φ el pool listed w S
    refine SFc.settle T (K := fun val => wpAnyIn (fenceOf C.rd) 0 C.P .any ops Q (fuel + 1) listed (puts ops a0 val ex) w) ?_ (fun v v' h hk => by rw [puts_congr ex h]; exact hk) π ps val fr Γ Φ el pool S
    intro π ps val fr Γ Φ el pool S hst
    refine ⟨fun hr => S.fin T hst hinn (S.done T hr), fun i hi => ?_⟩
    obtain ⟨h1, h2, h3⟩ := S.ready T hi
    exact SFc.step T TF TC hnh hU ih S hst h1 h2 h3

theorem W_regionC {id : Nat} {l : List Oper} {fr : Fr} {Γ : List OA} {Φ : List SP} (es us s π1 nf : List Nat) (dl cs : Nat → List Nat) (nh : List Nat) (F : Nat → Value → List SP) (G H : Nat → Value → List OA) (Γs : List OA) (hm : C.P.follows .mixedOrders = true) (hc : chk l.toArray es us (s ++ π1) = true) (hcf : chkF l.toArray es us s nf dl C.n = true) (hnf : ∀ j ∈ nf, ∀ v, F j v = []) (TC : FitC es us dl cs nh) (hinn : ∀ u ∈ us, u ∈ s ++ π1) (hnh : ∀ j ∈ nh, ∀ v, H j v = []) (hs : SubO Γ Γs)
    (h : PS C l.toArray Γs es us Γ (fun fr0 Φ0 => FSpecC C l.toArray us dl cs F G H fr0 Φ0 ∧ PF C l.toArray Γs es us F G Q π1 fr0 Γ Φ0) s fr Φ) : W C (.region id l.toArray true) fr Γ Φ Q := by
  intro a w ha hw
  have T := fit_of_chk hc
  refine wpIn_region_any hm ?_
  have hw1 : Holds C Γ Φ { w with drawn := w.drawn + 1 } := hw.ext (w' := { w with drawn := w.drawn + 1 }) ⟨rfl, rfl, rfl, Nat.le_refl _, fun _ _ _ => rfl⟩
  refine PS.go T (a0 := a) (w := { w with drawn := w.drawn + 1 }) s [] (fun _ => undef) fr Φ π1 rfl (fun _ h => by cases h) ha hw1 (fun _ h => by cases h) h fun val fr0 Φ0 hf hh hp hcl ⟨hU, hP⟩ => ?_
  rw [List.append_nil] at hf hp hcl
  have TF := fitF_of_chk (F := F) (s := s) (n := C.n) T hcf hnf
  have TF' : FitF l.toArray es us s.reverse dl F C.n := ⟨TF.dus, fun u hu j hj => (TF.dep u hu j hj).imp_left List.mem_reverse.2, TF.per⟩
  refine PFc_main (Γs := Γs) (Q := Q) T TF' TC hnh hU hinn a _ π1 s.reverse [] val fr0 Γ Φ0 [] [] _ _ { p0 := (fun j hj _ => hcl j hj), pnd := List.nodup_nil, pin := (fun j => ⟨(fun h => by cases h), fun h => by cases h.1⟩), plan := (by simp), lsz := (by simp), lex := ?_, xlt := (fun _ h => by cases h), fu := ?_, xdep := (fun _ h => by cases h), xps := (fun _ h => by cases h), early := (fun _ h => by cases h), elnd := List.nodup_nil, pend := (fun j hj _ => hp j hj), frm := hf, hol := (by simpa [gsOn, fsOn] using hh), sub := .inl hs, walk := hP, base := hf, sps := (fun _ h => h), fct := AllIn.refl _, pfct := (fun j hj h2 => by have := hcl j hj; rw [this] at h2; cases h2) }
  · intro i hi
    have hi' : i < l.length := by simpa using hi
    simp [Array.getD_eq_getD_getElem?, hi']
  · have := T.len
    refine Nat.le_trans (List.length_filter_le _ _) ?_
    simpa using this

theorem FSpecC.nil : FSpecC C ops [] dl cs F G H fr0 Φ0 := fun _ h => by cases h
theorem FSpecC.cons {o : Oper} {u : Nat} {us : List Nat} {frv : (Nat → Value) → Fr} {Φv : (Nat → Value) → List SP → List SP} {Φw : List SP → List SP} {Γv : (Nat → Value) → List OA} {Γx : Value → List OA} (ho : lget ops.toList u = some o) (hg : o.guard = none)
    (hf : ∀ val, frOnO ops val fr0 (dl u) = some (frv val)) (hw : ∀ Ψ, appO Φ0 Ψ = some (Φw Ψ)) (hv : ∀ val Ψ, appO (fsOn F val (dl u)) (Φw Ψ) = some (Φv val Ψ)) (hG : ∀ val, appO (gsOn H val (cs u)) [] = some (Γv val)) (hX : ∀ v, appO (G u v) (H u v) = some (Γx v))
    (h : ∀ val Ψ, Effs C (frv val) (Γv val) (Φv val Ψ) o (X := Value) (fun _ => True) (fun v => v) Γx (fun v => F u v ++ Φv val Ψ)) (k : FSpecC C ops us dl cs F G H fr0 Φ0) : FSpecC C ops (u :: us) dl cs F G H fr0 Φ0 := fun j hj => by
  rcases List.mem_cons.1 hj with rfl | hj
  · refine ⟨o, lget_ops ho, hg, fun val Ψ => ?_⟩
    have e1 : gsOn H val (cs j) = Γv val := by rw [← appO_eq (hG val), List.append_nil]
    have e2 : (fun v => G j v ++ H j v) = Γx := funext fun v => appO_eq (hX v)
    rw [frOnO_eq (hf val), List.append_assoc, appO_eq (hw Ψ), appO_eq (hv val Ψ), e1, e2]
    exact h val Ψ
  · exact k j hj

end
end Go.Hs

/-
  The rules of the small logic for arrays of six bytes, for slices of arrays, and for comparing things of several cells. No program is named here.
-/
namespace Go.Hs
open Go Go.RowKit

/-- six bytes. -/
structure A6 where
  a0 : UInt8
  a1 : UInt8
  a2 : UInt8
  a3 : UInt8
  a4 : UInt8
  a5 : UInt8
deriving DecidableEq
def A6.bytes (a : A6) : List UInt8 := [a.a0, a.a1, a.a2, a.a3, a.a4, a.a5]
def A6.cells (a : A6) : List Value := [bcell a.a0, bcell a.a1, bcell a.a2, bcell a.a3, bcell a.a4, bcell a.a5]
theorem A6.bytes_inj {a b : A6} (h : a.bytes = b.bytes) : a = b := by
  obtain ⟨a0, a1, a2, a3, a4, a5⟩ := a
  obtain ⟨b0, b1, b2, b3, b4, b5⟩ := b
  simp only [A6.bytes, List.cons.injEq, and_true] at h
  obtain ⟨rfl, rfl, rfl, rfl, rfl, rfl⟩ := h
  rfl
def A6.of (l : List UInt8) : A6 := ⟨l.getD 0 0, l.getD 1 0, l.getD 2 0, l.getD 3 0, l.getD 4 0, l.getD 5 0⟩
def zA6 : A6 := ⟨0, 0, 0, 0, 0, 0⟩
/-- a cell that holds a byte. -/
def Bc (v : Value) (b : UInt8) : Prop := v = bcell b
theorem Bc.self (b : UInt8) : Bc (bcell b) b := rfl
theorem Bc.zero : Bc (.int .u8 0) 0 := rfl
theorem Bc.lit (n : Nat) (h : Nat.blt n 256 = true) : Bc (.int .u8 (Int.ofNat n)) (UInt8.ofNat n) := by
  have h : n < 256 := Nat.le_of_ble_eq_true h
  show Value.int .u8 (Int.ofNat n) = .int .u8 ((UInt8.ofNat n).toNat : Int)
  rw [UInt8.toNat_ofNat', Nat.mod_eq_of_lt h]
  rfl

/-- a cell and what it tells when compared. -/
def Kc (P : Program) (t : TypeId) (cs : List Value) (ls : List Lit) : Prop := ∃ D, P.keyLits D t cs = some ls

section
variable {P : Program}
theorem keyLits_mono_u8 {e : TypeId} (he : P.underlying e = some (.int .u8)) (b : UInt8) : P.keyLits 1 e [bcell b] = some [.int .u8 (b.toNat : Int)] := by
  have h : (Lit.int .u8 (b.toNat : Int)).wf = true := by
    have := b.toNat_lt
    simp [Lit.wf, IntKind.min, IntKind.max, IntKind.signed, IntKind.bits] <;> omega
  simp [Program.keyLits, he, bcell, h]
theorem keyLits_a6 {t e : TypeId} (ht : P.underlying t = some (.array 6 e)) (he : P.underlying e = some (.int .u8)) (hce : P.cellsOf e = 1) (hct : P.cellsOf t = 6) (a : A6) :
    P.keyLits 2 t a.cells = some (a.bytes.map fun b => .int .u8 (b.toNat : Int)) := by
  have h := fun b => keyLits_mono_u8 he b
  have hr : List.range 6 = [0, 1, 2, 3, 4, 5] := rfl
  rw [show (2 : Nat) = 1 + 1 from rfl]
  unfold Program.keyLits
  simp only [ht, hct, hce, A6.cells, List.length_cons, List.length_nil, if_true, hr, List.mapM_cons, List.mapM_nil, Nat.zero_mul, Nat.one_mul, Nat.mul_one, List.drop_zero, List.drop_succ_cons, List.take_succ_cons, List.take_zero, h,
    Option.pure_def, Option.bind_eq_bind, Option.bind_some, Option.map_some]
  rfl
theorem a6_lits_inj {a b : A6} : (a.bytes.map fun b => Lit.int .u8 (b.toNat : Int)) = (b.bytes.map fun b => Lit.int .u8 (b.toNat : Int)) ↔ a = b := by
  constructor
  · intro h
    apply A6.bytes_inj
    refine List.map_inj_right (fun x y hxy => ?_) |>.1 h
    injection hxy with _ hxy
    exact UInt8.toNat_inj.1 (by omega)
  · rintro rfl; rfl
end

section
variable {C : Ctx} {ops : Array Oper} {l : List Oper} {fr : Fr} {Γ Γ' Γ1 : List OA} {Φ : List SP} {Q : Exit → Act → World → Prop}
  {d : Nat} {ty : TypeId} {pos : String} {aft : Array Edge} {g : Option (Nat × Bool)}

theorem neS_t' {α : Type} {a b : α} [Decidable (a = b)] (h : ¬ a = b) : (!decide (a = b)) = true := by rw [decide_eq_false h]; rfl
theorem neS_f' {α : Type} {a b : α} [Decidable (a = b)] (h : a = b) : (!decide (a = b)) = false := by rw [decide_eq_true h]; rfl
/-- two things of several cells compared. -/
theorem R_eqG {x y : Operand} {t t' : TypeId} {cs ds : List Value} {D D' : Nat} {la lb : List Lit} {c : Bool} {m : Nat} (hx : evO fr x = some (.agg cs.toArray)) (hy : evO fr y = some (.agg ds.toArray))
    (hk : C.P.keyTypeAt m t = true) (hm : Nat.ble m 10000 = true) (hg : C.P.eqGuardType C.P.depth t = false)
    (fx : (Value.agg cs.toArray).formed C.P t = true) (fy : (Value.agg ds.toArray).formed C.P t = true) {p : Prop} [Decidable p] (ka : C.P.keyLits D t cs = some la) (kb : C.P.keyLits D' t ds = some lb) (hp : la = lb ↔ p) (hr : decide p = c) :
    Runs C fr Γ Φ ⟨some d, .binOp .eql t x y t', ty, pos, aft, g⟩ (.bool c) :=
  Runs.pure fun a w ha hw => by
    subst hr
    obtain ⟨r, hr, hi⟩ := run_equalIn_deep (P := C.P) (10000 - m) m t hk w D D' (.agg cs.toArray) (.agg ds.toArray) la lb fx fy (by simpa [Value.cells] using ka) (by simpa [Value.cells] using kb)
    rw [show 10000 - m + m = 10000 from Nat.sub_add_cancel (Nat.le_of_ble_eq_true hm)] at hr
    have hd : r = decide p := by
      cases r
      · exact (decide_eq_false fun e => by simpa using hi.2 (hp.2 e)).symm
      · exact (decide_eq_true (hp.1 (hi.1 rfl))).symm
    subst hd
    simp only [execOp, evO_sound ha hx, evO_sound ha hy, Sem.run_bind, run_eqGuard_agg w .eql t x y _ _ hg, Result.andThen_ok, run_eql_struct, hr, Sem.run_pure]
theorem R_neG {x y : Operand} {t t' : TypeId} {cs ds : List Value} {D D' : Nat} {la lb : List Lit} {c : Bool} {m : Nat} (hx : evO fr x = some (.agg cs.toArray)) (hy : evO fr y = some (.agg ds.toArray))
    (hk : C.P.keyTypeAt m t = true) (hm : Nat.ble m 10000 = true) (hg : C.P.eqGuardType C.P.depth t = false)
    (fx : (Value.agg cs.toArray).formed C.P t = true) (fy : (Value.agg ds.toArray).formed C.P t = true) {p : Prop} [Decidable p] (ka : C.P.keyLits D t cs = some la) (kb : C.P.keyLits D' t ds = some lb) (hp : la = lb ↔ p) (hr : (!decide p) = c) :
    Runs C fr Γ Φ ⟨some d, .binOp .neq t x y t', ty, pos, aft, g⟩ (.bool c) :=
  Runs.pure fun a w ha hw => by
    subst hr
    obtain ⟨r, hr, hi⟩ := run_equalIn_deep (P := C.P) (10000 - m) m t hk w D D' (.agg cs.toArray) (.agg ds.toArray) la lb fx fy (by simpa [Value.cells] using ka) (by simpa [Value.cells] using kb)
    rw [show 10000 - m + m = 10000 from Nat.sub_add_cancel (Nat.le_of_ble_eq_true hm)] at hr
    have hd : r = decide p := by
      cases r
      · exact (decide_eq_false fun e => by simpa using hi.2 (hp.2 e)).symm
      · exact (decide_eq_true (hp.1 (hi.1 rfl))).symm
    subst hd
    simp only [execOp, evO_sound ha hx, evO_sound ha hy, Sem.run_bind, run_eqGuard_agg w .neq t x y _ _ hg, Result.andThen_ok, run_neq_struct, hr, Sem.run_pure]
/-- two addresses compared. -/
theorem R_eqA {x y : Operand} {t t' e : TypeId} {v0 v1 v2 v3 v4 v5 u0 u1 u2 u3 u4 u5 : Value} {a0 a1 a2 a3 a4 a5 b0 b1 b2 b3 b4 b5 : UInt8} {c : Bool} (hx : evO fr x = some (.agg #[v0, v1, v2, v3, v4, v5])) (hy : evO fr y = some (.agg #[u0, u1, u2, u3, u4, u5]))
    (ht : C.P.underlying t = some (.array 6 e)) (he : C.P.underlying e = some (.int .u8)) (hce : C.P.cellsOf e = 1) (hct : C.P.cellsOf t = 6) (hg : C.P.eqGuardType C.P.depth t = false)
    (p0 : Bc v0 a0) (p1 : Bc v1 a1) (p2 : Bc v2 a2) (p3 : Bc v3 a3) (p4 : Bc v4 a4) (p5 : Bc v5 a5) (q0 : Bc u0 b0) (q1 : Bc u1 b1) (q2 : Bc u2 b2) (q3 : Bc u3 b3) (q4 : Bc u4 b4) (q5 : Bc u5 b5)
    (hr : decide ((⟨a0, a1, a2, a3, a4, a5⟩ : A6) = ⟨b0, b1, b2, b3, b4, b5⟩) = c) : Runs C fr Γ Φ ⟨some d, .binOp .eql t x y t', ty, pos, aft, g⟩ (.bool c) := by
  subst p0; subst p1; subst p2; subst p3; subst p4; subst p5; subst q0; subst q1; subst q2; subst q3; subst q4; subst q5
  have hk : C.P.keyTypeAt 2 t = true := by simp [Program.keyTypeAt, ht, he]
  refine R_eqG (cs := A6.cells ⟨a0, a1, a2, a3, a4, a5⟩) (ds := A6.cells ⟨b0, b1, b2, b3, b4, b5⟩) hx hy hk rfl hg (by simp [Value.formed, ht, hct, A6.cells]) (by simp [Value.formed, ht, hct, A6.cells]) (keyLits_a6 ht he hce hct _) (keyLits_a6 ht he hce hct _) a6_lits_inj hr
theorem R_neA {x y : Operand} {t t' e : TypeId} {v0 v1 v2 v3 v4 v5 u0 u1 u2 u3 u4 u5 : Value} {a0 a1 a2 a3 a4 a5 b0 b1 b2 b3 b4 b5 : UInt8} {c : Bool} (hx : evO fr x = some (.agg #[v0, v1, v2, v3, v4, v5])) (hy : evO fr y = some (.agg #[u0, u1, u2, u3, u4, u5]))
    (ht : C.P.underlying t = some (.array 6 e)) (he : C.P.underlying e = some (.int .u8)) (hce : C.P.cellsOf e = 1) (hct : C.P.cellsOf t = 6) (hg : C.P.eqGuardType C.P.depth t = false)
    (p0 : Bc v0 a0) (p1 : Bc v1 a1) (p2 : Bc v2 a2) (p3 : Bc v3 a3) (p4 : Bc v4 a4) (p5 : Bc v5 a5) (q0 : Bc u0 b0) (q1 : Bc u1 b1) (q2 : Bc u2 b2) (q3 : Bc u3 b3) (q4 : Bc u4 b4) (q5 : Bc u5 b5)
    (hr : (!decide ((⟨a0, a1, a2, a3, a4, a5⟩ : A6) = ⟨b0, b1, b2, b3, b4, b5⟩)) = c) : Runs C fr Γ Φ ⟨some d, .binOp .neq t x y t', ty, pos, aft, g⟩ (.bool c) := by
  subst p0; subst p1; subst p2; subst p3; subst p4; subst p5; subst q0; subst q1; subst q2; subst q3; subst q4; subst q5
  have hk : C.P.keyTypeAt 2 t = true := by simp [Program.keyTypeAt, ht, he]
  refine R_neG (cs := A6.cells ⟨a0, a1, a2, a3, a4, a5⟩) (ds := A6.cells ⟨b0, b1, b2, b3, b4, b5⟩) hx hy hk rfl hg (by simp [Value.formed, ht, hct, A6.cells]) (by simp [Value.formed, ht, hct, A6.cells]) (keyLits_a6 ht he hce hct _) (keyLits_a6 ht he hce hct _) a6_lits_inj hr

/-- the front of what a pointer leads to is loaded. -/
theorem R_loadPT {t : TypeId} {x : Operand} {p : Value} {us us' : List Value} {n : Nat} (hx : evO fr x = some p)
    (hm : Pt p us ∈ Φ) (hagg : ∀ w, (isAgg t).run C.P w = .ok true w) (hs : ∀ w, (sizeOf t).run C.P w = .ok n w) (ht : takeN 0 n us = some us') : Runs C fr Γ Φ ⟨some d, .load t x, ty, pos, aft, g⟩ (.agg us'.toArray) :=
  Runs.pure fun a w ha hw => by
    obtain ⟨ad, hv, _, _, hcell⟩ := hw.sp _ hm
    obtain ⟨h1, h2⟩ := takeN_at ht
    simp [execOp, evO_sound ha hx, hv, Instr.loadAt, Instr.sureAddr, run_loadVar_agg (w := w) (a := ad) (us := us') hagg (fun w => by rw [h1]; exact hs w) (fun j u hu => hcell j u (by have := h2 j u hu; rwa [Nat.zero_add] at this))]
/-- a part of a lasting block is loaded. -/
theorem R_loadPO {t : TypeId} {x : Operand} {b off : Nat} {us : List Value} {v : Value} (hx : evO fr x = some (.pointer (some ⟨b, off, none⟩)))
    (hm : Pt (.pointer (some ⟨b, 0, none⟩)) us ∈ Φ) (hagg : ∀ w, (isAgg t).run C.P w = .ok false w) (hc : us[off]? = some v) : Runs C fr Γ Φ ⟨some d, .load t x, ty, pos, aft, g⟩ v :=
  Runs.pure fun a w ha hw => by
    obtain ⟨ad, hv, _, _, hcell⟩ := hw.sp _ hm
    injection hv with hv
    injection hv with hv
    subst hv
    have h0 := hcell off v hc
    rw [Addr.add_lit, Nat.zero_add] at h0
    simp [execOp, evO_sound ha hx, Instr.loadAt, Instr.sureAddr, run_loadVar_one hagg h0]
theorem R_loadPON {t : TypeId} {x : Operand} {b off n : Nat} {us us' : List Value} (hx : evO fr x = some (.pointer (some ⟨b, off, none⟩)))
    (hm : Pt (.pointer (some ⟨b, 0, none⟩)) us ∈ Φ) (hagg : ∀ w, (isAgg t).run C.P w = .ok true w) (hs : ∀ w, (sizeOf t).run C.P w = .ok n w) (ht : takeN off n us = some us') : Runs C fr Γ Φ ⟨some d, .load t x, ty, pos, aft, g⟩ (.agg us'.toArray) :=
  Runs.pure fun a w ha hw => by
    obtain ⟨ad, hv, _, _, hcell⟩ := hw.sp _ hm
    injection hv with hv
    injection hv with hv
    subst hv
    obtain ⟨h1, h2⟩ := takeN_at ht
    simp [execOp, evO_sound ha hx, Instr.loadAt, Instr.sureAddr, run_loadVar_agg (w := w) (a := ⟨b, off, none⟩) (us := us') hagg (fun w => by rw [h1]; exact hs w) (fun j u hu => by
      have h3 := hcell _ u (h2 j u hu)
      rw [Addr.add_lit, Nat.zero_add] at h3
      rw [Addr.add_lit]
      exact h3)]
/-- a slice of an array, whole: the slice's value. -/
theorem R_sliceArr {t e : TypeId} {x : Operand} {b off n : Nat} (hx : evO fr x = some (.pointer (some ⟨b, off, none⟩))) (ht : C.P.underlying t = some (.array n e))
    (hs : ∀ w, (sizeOf e).run C.P w = .ok 1 w) (hn : Nat.beq n 0 = false) : Runs C fr Γ Φ ⟨some d, .slice t x none none none, ty, pos, aft, g⟩ (.slice (some ⟨b, off, none⟩) n n) :=
  Runs.pure fun a w ha hw => by
    have h0 : ¬ n = 0 := fun e => by rw [e] at hn; cases hn
    simp [execOp, evO_sound ha hx, Instr.sliceAt, Instr.sliceBounds, run_underlying ht, hs, h0, Instr.sureAddr, Addr.add]

end
end Go.Hs
