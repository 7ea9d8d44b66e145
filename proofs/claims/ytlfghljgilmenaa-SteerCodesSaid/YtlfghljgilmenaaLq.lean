/-
  Loops whose rounds hold a range over a function: the marks that such a statement leaves. No program is named here.
-/
import Derived.Test.YtlfghljgilmenaaLu
namespace Go.Hs
open Go Go.RowKit

theorem perm4 {x y z u : OA} {Γ Γ1 Γ2 Γ3 Γr : List OA} (h : Pick x Γ Γ1) (k : Pick y Γ1 Γ2) (l : Pick z Γ2 Γ3) (m : Pick u Γ3 Γr) : Γ.Perm ([x, y, z, u] ++ Γr) := h.trans (List.Perm.cons x (k.trans (List.Perm.cons y (l.trans (List.Perm.cons z m)))))

/-- the marks of ranges over functions, and their blocks. -/
def Mk (Ds : List Nat) : List Deferred := Ds.map fun D => ⟨.collected D, #[]⟩
def mkO (Ds : List Nat) : List OA := Ds.map fun D => ob D (.deferred (some []))

section
variable {P : Program} {n : Nat} {w0 : World} {O0 M : Nat → Prop} {fr : Fr} {Γ Γ1 : List OA} {Φ : List SP} {Q : Exit → Act → World → Prop}

theorem Holds.consPk {C : Ctx} {x : OA} {Δ Γ : List OA} {Φ : List SP} {w : World} (h : Holds C (x :: pk Δ :: Γ) Φ w) : Holds C (pk (x :: Δ) :: Γ) Φ w := by
  have h1 := (h.perm (.swap _ _ _)).unpack
  exact (h1.perm (List.perm_middle)).pack
theorem WQ_mark {C : Ctx} {e : Exit} {x : OA} {Δ Γ2 : List OA} (hp : Pick x Γ Γ1) (hp' : Pick (pk Δ) Γ1 Γ2) (h : WQ C e fr (pk (x :: Δ) :: Γ2) Φ Q) : WQ C e fr Γ Φ Q :=
  fun a w ha hw => h a w ha (((pick_holds hp hw).perm (List.Perm.cons _ hp')).consPk)

theorem W_mark0 {C : Ctx} {c : Code} (h : W C c fr (pk (mkO []) :: Γ) Φ Q) : W C c fr Γ Φ Q := fun a w ha hw => h a w ha (Holds.pack (by exact hw))

theorem W_loopM {c : Code} {X : Type} {ds : List Deferred} (D : X → List Nat) (I : X → Prop) (F : X → Fr) (G : X → List OA) (H : X → List SP) (μ : X → Nat) (x0 : X) (hI : I x0) (hd : Mk (D x0) = ds)
    (h0 : WQ ⟨P, n, w0, O0, M, none, ds⟩ .normal fr Γ Φ (fun _ a w => fok ⟨P, n, w0, O0, M, none, ds⟩ (F x0) a ∧ Holds ⟨P, n, w0, O0, M, none, ds⟩ (G x0) (H x0) w))
    (round : ∀ x, I x → W ⟨P, n, w0, O0, M, none, Mk (D x)⟩ c (F x) (G x) (H x) (Exit.then (fun a w => ∃ x', I x' ∧ μ x' < μ x ∧ fok ⟨P, n, w0, O0, M, none, Mk (D x')⟩ (F x') a ∧ Holds ⟨P, n, w0, O0, M, none, Mk (D x')⟩ (G x') (H x') w) Q)) :
    W ⟨P, n, w0, O0, M, none, ds⟩ (.loop c) fr Γ Φ Q := by
  subst hd
  intro a w ha hw b k cs hro hb hr
  have key : ∀ m x a w, I x → μ x = m → fok ⟨P, n, w0, O0, M, none, Mk (D x)⟩ (F x) a → Holds ⟨P, n, w0, O0, M, none, Mk (D x)⟩ (G x) (H x) w →
      ∃ e a' w', Q e a' w' ∧ ArrivesIn (Machine.fenced P (fenceOf none)) P (lone (b.atR a (.code c :: .inLoop c :: k)) cs w) b k cs e a' w' := by
    intro m
    induction m using Nat.strongRecOn with
    | _ m ih =>
      intro x a w hi hn hfa hh
      obtain ⟨e, a₁, w₁, hq, harr⟩ := round x hi a w hfa hh b (.inLoop c :: k) cs hro hb hr
      cases e with
      | normal =>
        obtain ⟨x', hi', hlt, hfa', hh'⟩ := hq
        obtain ⟨e₂, a₂, w₂, hq₂, harr₂⟩ := ih (μ x') (hn ▸ hlt) x' a₁ w₁ hi' rfl hfa' hh'
        exact ⟨e₂, a₂, w₂, hq₂, .of_steps (StepsIn.trans harr (.one (fenced_calm hb hr rfl) stepR_inLoop)) harr₂⟩
      | exit id => exact ⟨_, a₁, w₁, hq, .pass (x := .inLoop c) rfl (fun _ _ => .inl (by simp)) harr⟩
      | goto l => exact ⟨_, a₁, w₁, hq, .pass (x := .inLoop c) rfl (fun _ _ => .inl (by simp)) harr⟩
      | ret => exact ⟨_, a₁, w₁, hq, .pass (x := .inLoop c) rfl (fun _ _ => .inl (by simp)) harr⟩
      | panic ch => exact ⟨_, a₁, w₁, hq, .pass (x := .inLoop c) rfl (fun _ _ => .inl (by simp)) harr⟩
      | outgrown => exact ⟨_, a₁, w₁, hq, .pass (x := .inLoop c) rfl (fun _ _ => .inl (by simp)) harr⟩
  obtain ⟨hfa, hh⟩ := h0 a w ha hw
  obtain ⟨e, a', w', hq, harr⟩ := key _ x0 a w hI rfl hfa hh
  exact ⟨e, a', w', hq, .of_steps (.one (fenced_calm hb hr rfl) stepR_loop) harr⟩

theorem W_loopKM {c : Code} {X : Type} {dv : List Deferred} (D : X → List Nat) (ds ps : List Nat) (I : X → Prop) (ch : X → Fr) (gn : X → List OA) (hn : X → List SP) (μ : X → Nat) (x0 : X) (hd : Mk (D x0) = dv) (hI : I x0) {fr1 : Fr} {Γ1 : List OA} {F : X → Fr} {G : X → List OA} {H : X → List SP}
    (hf : keepO ds fr = some fr1) (hg : dropO ps 0 Γ = some Γ1) (hF : ∀ x, appO (ch x) fr1 = some (F x)) (hG : ∀ x, appO (gn x) Γ1 = some (G x)) (hH : ∀ x, appO (hn x) Φ = some (H x))
    (h1 : FrIn fr (ch x0)) (h2 : SubO Γ (G x0)) (h3 : AllE (hn x0) Φ)
    (round : ∀ x, I x → W ⟨P, n, w0, O0, M, none, Mk (D x)⟩ c (F x) (G x) (H x) (Exit.then (fun a w => ∃ x', I x' ∧ μ x' < μ x ∧ fok ⟨P, n, w0, O0, M, none, Mk (D x')⟩ (F x') a ∧ Holds ⟨P, n, w0, O0, M, none, Mk (D x')⟩ (G x') (H x') w) Q)) :
    W ⟨P, n, w0, O0, M, none, dv⟩ (.loop c) fr Γ Φ Q := by
  refine W_loopM D I F G H μ x0 hI hd (WQ_fit ?_ h2 ?_) round
  · rw [← appO_eq (hF x0)]
    exact FrIn.append h1 (keepO_in hf)
  · rw [← appO_eq (hH x0)]
    exact AllE.append h3 fun ψ hψ => Ent.mem hψ

theorem WQ_againM {X : Type} {D : X → List Nat} {I : X → Prop} {F : X → Fr} {G : X → List OA} {H : X → List SP} {μ : X → Nat} {m : Nat} {dv : List Deferred} (x : X) (hd : Mk (D x) = dv) (hi : I x) (hμ : μ x < m) (h1 : FrIn fr (F x)) (h2 : SubO Γ (G x)) (h3 : AllE (H x) Φ) :
    WQ ⟨P, n, w0, O0, M, none, dv⟩ .normal fr Γ Φ (Exit.then (fun a w => ∃ x', I x' ∧ μ x' < m ∧ fok ⟨P, n, w0, O0, M, none, Mk (D x')⟩ (F x') a ∧ Holds ⟨P, n, w0, O0, M, none, Mk (D x')⟩ (G x') (H x') w) Q) := by
  subst hd
  exact fun _ _ ha hw => ⟨x, hi, hμ, ha.sub h1, (hw.subOwn h2).allE h3⟩

theorem ret_endMs {fn : Func} {X : Type} {pf : X → Prop} {ret : X → Value} {Γ' : X → List OA} {Φ' : X → List SP} {e : Exit} (he : e = .ret ∨ e = .normal) (Ds : List Nat) (x : X) (hp : pf x)
    (hD : Pick (pk (mkO Ds)) Γ Γ1)
    (hr : ∀ a w, fok ⟨P, n, w0, O0, M, none, Mk Ds⟩ fr a → Holds ⟨P, n, w0, O0, M, none, Mk Ds⟩ Γ1 Φ w → (results fn a.tmps).run P w = .ok (ret x) w) (h2 : SubO Γ1 (Γ' x)) (h3 : AllE (Φ' x) Φ) :
    WQ ⟨P, n, w0, O0, M, none, Mk Ds⟩ e fr Γ Φ (bodyPostM Fence.wide 0 P fn (FnPost w0 O0 M pf ret Γ' Φ')) := by
  intro a w ha hw
  have key : ∀ (Es : List Nat) (w : World), Holds ⟨P, n, w0, O0, M, none, Mk Ds⟩ (mkO Es ++ Γ1) Φ w → LeavesInM Fence.wide 0 P fn a.tmps (FnPost w0 O0 M pf ret Γ' Φ') (Mk Es) .returning w := by
    intro Es
    induction Es with
    | nil =>
      intro w hw
      have hw3 := (Holds.subOwn hw h2).allE h3
      exact ⟨_, hr a w ha hw, x, hp, rfl, hw3.mod, hw3.own, hw3.ofp, hw3.sp⟩
    | cons D Es ih =>
      intro w hw
      have hat := ob_at hw
      have hw2 := (hw.putO (.deferred none)).drop
      exact ⟨(fun h => by cases h), .inl ⟨D, _, rfl, run_takeDeferred hat, ih _ hw2⟩⟩
  have hw1 := (pick_holds hD hw).unpack
  have hl := key Ds w hw1
  rw [← show a.defers = Mk Ds from ha.1] at hl
  rcases he with rfl | rfl
  · exact hl
  · exact hl
end

section
variable {P : Program} {n : Nat} {w0 : World} {O0 M : Nat → Prop} {fn : Func} {fr : Fr} {Γ Γ1 : List OA} {Φ : List SP} {X : Type} {pf : X → Prop} {ret : X → Value} {Γ' : X → List OA} {Φ' : X → List SP}
theorem ret2Ms {r1 r2 : ResultVar} {v1 v2 : Value} (Ds : List Nat) (hres : fn.results = #[r1, r2]) (x : X) (hp : pf x) (hD : Pick (pk (mkO Ds)) Γ Γ1)
    (h1 : RV ⟨P, n, w0, O0, M, none, Mk Ds⟩ fr Γ1 Φ r1 v1) (h1' : RV ⟨P, n, w0, O0, M, none, Mk Ds⟩ fr Γ1 Φ r2 v2) (hv : .tuple #[v1, v2] = ret x) (h2 : SubO Γ1 (Γ' x)) (h3 : AllE (Φ' x) Φ) :
    WQ ⟨P, n, w0, O0, M, none, Mk Ds⟩ .ret fr Γ Φ (bodyPostM Fence.wide 0 P fn (FnPost w0 O0 M pf ret Γ' Φ')) :=
  ret_endMs (.inl rfl) Ds x hp hD (fun a w ha hw => by rw [← hv, results_run, hres]; simp [h1 a w ha hw, h1' a w ha hw]) h2 h3
end
end Go.Hs
