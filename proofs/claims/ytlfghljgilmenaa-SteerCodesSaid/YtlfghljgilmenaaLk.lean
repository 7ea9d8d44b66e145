/-
  Loops and joins that keep what stands in the frame. No program is named here.
-/
import Derived.Test.YtlfghljgilmenaaLp
namespace Go.Hs
open Go Go.RowKit

def memN (t : Nat) : List Nat → Bool
  | [] => false
  | s :: r => bif Nat.beq s t then true else memN t r

/-- the frame without the slots named, each slot once. -/
def keepO : List Nat → Fr → Option Fr
  | _, [] => some []
  | seen, (t, v) :: r => bif memN t seen then keepO seen r else match keepO (t :: seen) r with
    | some q => some ((t, v) :: q)
    | none => none

theorem memN_eq : ∀ {l : List Nat} {t : Nat}, memN t l = true ↔ t ∈ l
  | [], t => by simp [memN]
  | s :: r, t => by
    simp only [memN, List.mem_cons]
    cases h : Nat.beq s t with
    | true => simp [Nat.eq_of_beq_eq_true h]
    | false =>
      have : ¬ t = s := fun e => by subst e; simp at h
      simp only [cond_false, this, false_or]
      exact memN_eq

theorem keepO_get : ∀ {fr q : Fr} {seen : List Nat}, keepO seen fr = some q → ∀ t v, fget q t = some v → fget fr t = some v ∧ ¬ t ∈ seen
  | [], q, seen, h, t, v, hv => by
    simp only [keepO, Option.some.injEq] at h
    subst h
    cases hv
  | (s, u) :: r, q, seen, h, t, v, hv => by
    simp only [keepO] at h
    cases hm : memN s seen with
    | true =>
      rw [hm] at h
      obtain ⟨h1, h2⟩ := keepO_get h t v hv
      have : ¬ s = t := fun e => h2 (e ▸ memN_eq.1 hm)
      exact ⟨by rw [fget_cons, if_neg this]; exact h1, h2⟩
    | false =>
      rw [hm] at h
      simp only [cond_false] at h
      cases hk : keepO (s :: seen) r with
      | none => rw [hk] at h; cases h
      | some p =>
        rw [hk] at h
        injection h with h
        subst h
        rw [fget_cons] at hv
        by_cases e : s = t
        · subst e
          rw [if_pos rfl] at hv
          refine ⟨by rw [fget_cons, if_pos rfl]; exact hv, fun hs => ?_⟩
          rw [memN_eq.2 hs] at hm
          cases hm
        · rw [if_neg e] at hv
          obtain ⟨h1, h2⟩ := keepO_get hk t v hv
          exact ⟨by rw [fget_cons, if_neg e]; exact h1, fun hs => h2 (List.mem_cons_of_mem _ hs)⟩

theorem keepO_in {fr q : Fr} {seen : List Nat} (h : keepO seen fr = some q) : FrIn fr q := fun t v hv => (keepO_get h t v hv).1

theorem fget_append : ∀ (l r : Fr) (t : Nat), fget (l ++ r) t = (fget l t).or (fget r t)
  | [], r, t => by simp [fget]
  | (s, v) :: l, r, t => by
    rw [List.cons_append, fget_cons, fget_cons, fget_append l r t]
    by_cases e : s = t <;> simp [e]

theorem FrIn.append {fr l r : Fr} (h : FrIn fr l) (k : FrIn fr r) : FrIn fr (l ++ r) := fun t v hv => by
  rw [fget_append] at hv
  cases hl : fget l t with
  | none =>
    rw [hl] at hv
    exact k t v (by simpa using hv)
  | some u =>
    rw [hl] at hv
    exact h t v (by simpa [hl] using hv)

theorem AllE.append {Ψ Ψ' Φ : List SP} (h : AllE Ψ Φ) (k : AllE Ψ' Φ) : AllE (Ψ ++ Ψ') Φ := fun ψ hψ => (List.mem_append.1 hψ).elim (h ψ) (k ψ)

section
variable {C : Ctx} {fr : Fr} {Γ : List OA} {Φ : List SP} {Q : Exit → Act → World → Prop}

/-- a loop: what it turns is told by ch, gn and hn; all else stands. -/
theorem W_loopK {c : Code} {X : Type} (ds ps : List Nat) (I : X → Prop) (ch : X → Fr) (gn : X → List OA) (hn : X → List SP) (μ : X → Nat) (x0 : X) (hI : I x0) {fr1 : Fr} {Γ1 : List OA} {F : X → Fr} {G : X → List OA} {H : X → List SP}
    (hf : keepO ds fr = some fr1) (hg : dropO ps 0 Γ = some Γ1) (hF : ∀ x, appO (ch x) fr1 = some (F x)) (hG : ∀ x, appO (gn x) Γ1 = some (G x)) (hH : ∀ x, appO (hn x) Φ = some (H x))
    (h1 : FrIn fr (ch x0)) (h2 : SubO Γ (G x0)) (h3 : AllE (hn x0) Φ)
    (round : ∀ x, I x → W C c (F x) (G x) (H x) (Exit.then (fun a w => ∃ x', I x' ∧ μ x' < μ x ∧ fok C (F x') a ∧ Holds C (G x') (H x') w) Q)) : W C (.loop c) fr Γ Φ Q := by
  refine W_loop I F G H μ x0 hI (WQ_fit ?_ h2 ?_) round
  · rw [← appO_eq (hF x0)]
    exact FrIn.append h1 (keepO_in hf)
  · rw [← appO_eq (hH x0)]
    exact AllE.append h3 fun ψ hψ => Ent.mem hψ

/-- where ways meet again: what was turned is told by ch, gn and hn; all else stands. -/
theorem W_cutK {x y : Code} {X : Type} (ds ps : List Nat) (I : X → Prop) (ch : X → Fr) (gn : X → List OA) (hn : X → List SP) {fr1 : Fr} {Γ1 : List OA} {F : X → Fr} {G : X → List OA} {H : X → List SP}
    (hf : keepO ds fr = some fr1) (hg : dropO ps 0 Γ = some Γ1) (hF : ∀ x, appO (ch x) fr1 = some (F x)) (hG : ∀ x, appO (gn x) Γ1 = some (G x)) (hH : ∀ x, appO (hn x) Φ = some (H x))
    (h : W C x fr Γ Φ (Exit.then (fun a w => ∃ z, I z ∧ fok C (F z) a ∧ Holds C (G z) (H z) w) Q)) (k : ∀ z, I z → W C y (F z) (G z) (H z) Q) : W C (.seq x y) fr Γ Φ Q :=
  W_cut I F G H h k
end

/-- what is made and handed back as one's own may be told as lasting. -/
theorem Ct.letB {P : Program} {f : FuncId} {args : List Value} {Γ : List OA} {Φ : List SP} {X : Type} {pf : X → Prop} {ret : X → Value} {t : TypeId} {n : X → Nat} {cs : X → List Value} {v : X → Value} {bs : X → List UInt8}
    (h : Ct P f args Γ Φ pf ret (fun x => [.row (v x) t 1 (n x) (cs x)]) (fun _ => [])) (hc : ∀ x, cs x = (bs x).map bcell) : Ct P f args Γ Φ pf ret (fun _ => []) (fun x => [By (v x) (bs x)]) := by
  intro w O0 h0 ho hs
  refine (h w O0 h0 ho hs).mono fun e w' ⟨x, hp, he, hm, ho', hf, hs'⟩ => ⟨x, hp, he, hm, trivial, fun k hk => ?_, ?_⟩
  · obtain ⟨y, hy, _⟩ := hk
    cases hy
  · have hh : Holds { P := P, n := 0, w0 := w, O0 := O0, M := fpL Γ, rd := none, ds := [] } [.row (v x) t 1 (n x) (cs x)] [] w' := ⟨hm, ho', hf, h0, hs'⟩
    exact (hh.letgoB (hc x)).sp
end Go.Hs
