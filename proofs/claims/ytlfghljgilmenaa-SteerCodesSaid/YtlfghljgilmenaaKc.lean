/-
  A call that is handed some own things and reads others. No program is named here.
-/
import Derived.Test.YtlfghljgilmenaaLt
namespace Go.Hs
open Go Go.RowKit
section
variable {C : Ctx} {fr : Fr} {Γ : List OA} {Φ : List SP}
  {ty : TypeId} {pos : String} {aft : Array Edge} {g : Option (Nat × Bool)}
theorem E_callOB {dst : Option Tmp} {f : FuncId} {args : List Operand} {argTypes : Array TypeId} {vs : List Value}
    {Γp Γb Γr : List OA} {Φp : List SP} {X : Type} {pf : X → Prop} {ret : X → Value} {Γ' : X → List OA} {Γ'' : X → List OA}
    (ha : evOs fr args = some vs)
    (hrun : ∀ (as : Array Value) (w : World), (callFunc f as).run C.P w = .ok (.enter f as) w)
    (hfn : Ct C.P f vs Γp Φp pf ret Γ' (fun _ => [])) (hp : Γ.Perm (Γp ++ (Γb ++ Γr))) (hb : Bor Γb Φ Φp) (hΓ : ∀ x, appO (Γ' x) (Γb ++ Γr) = some (Γ'' x)) :
    Effs C fr Γ Φ ⟨dst, .call { callee := .value (.func f), args := args.toArray, argTypes := argTypes }, ty, pos, aft, g⟩ pf ret Γ'' (fun _ => Φ) := by
  refine ⟨fun x => AllIn.refl _, fun R a w hfa hw => ?_⟩
  have hw' := hw.perm (hp.append_right R)
  rw [List.append_assoc] at hw'
  obtain ⟨ho1, ho2, ho3⟩ := Own.append.1 hw'.own
  have ho2' := ho2
  rw [List.append_assoc] at ho2'
  obtain ⟨hb1, hb2, hb3⟩ := Own.append.1 ho2'
  have hin : ∀ k, fpL (Γr ++ R) k → fpL ((Γb ++ Γr) ++ R) k := fun k hk => by
    rw [List.append_assoc]
    exact fpL_append.2 (.inr hk)
  have hO : ∀ k, avo C.O0 (Γr ++ R) k → k < w.heap.size ∧ ¬ fpL Γp k := fun k hk => by
    rcases hk with hk | hk
    · have h1 := hw'.o0 k hk
      refine ⟨Nat.lt_of_lt_of_le h1.1 hw'.mod.size, fun hn => ?_⟩
      rcases hw'.ofp k (fpL_append.2 (.inl hn)) with h2 | h2
      · exact h1.2 h2
      · omega
    · exact ⟨Own.lt hb2 hk, fun hn => ho3 k hn (hin k hk)⟩
  have hd : ∀ k, fpL Γb k → ¬ avo (avo C.O0 (Γr ++ R)) Γp k := fun k hk hn => by
    have hk' : fpL ((Γb ++ Γr) ++ R) k := fpL_append.2 (.inl (fpL_append.2 (.inl hk)))
    rcases hn with (hn | hn) | hn
    · have h1 := hw'.o0 k hn
      rcases hw'.ofp k (fpL_append.2 (.inr hk')) with h2 | h2
      · exact h1.2 h2
      · omega
    · exact hb3 k hk hn
    · exact ho3 k hn hk'
  have hΦ : ∀ ψ ∈ Φ, ψ.p w (avo (avo C.O0 (Γr ++ R)) Γp) := fun ψ hψ => ψ.st (hw'.sp ψ hψ) (Mod.refl _ _) fun k _ hk => by
    rcases hk with (hk | hk) | hk
    · exact .inl hk
    · exact .inr (fpL_append.2 (.inr (hin k hk)))
    · exact .inr (fpL_append.2 (.inl hk))
  have hcall := hfn w (avo C.O0 (Γr ++ R)) hO ho1 (fun ψ hψ => hb w _ hb1 hd hΦ ψ hψ)
  have hrun' : (execOp a.eval ⟨dst, .call { callee := .value (.func f), args := args.toArray, argTypes := argTypes }, ty, pos, aft, g⟩).run C.P w = .ok (.enter f vs.toArray) w := by
    have e2 := evOs_sound hfa ha
    simp only [execOp, resolve, Act.eval, Deferred.ofValue, List.map_toArray, e2, Sem.run_bind, Sem.run_pure, Result.andThen_ok, invoke]
    rw [hrun]
    congr 2
    apply Array.ext'
    simp
  rw [hrun']
  show Calls _ _ _ _ _
  refine hcall.mono fun e w1 ⟨x, hx, he, hm, ho, hf, _⟩ => ⟨_, he, x, hx, rfl, ?_⟩
  have hdis : ∀ k, fpL (Γ' x) k → ¬ fpL ((Γb ++ Γr) ++ R) k := fun k hk hn => by
    rcases hf k hk with h1 | h1
    · exact ho3 k h1 hn
    · have := Own.lt ho2 hn
      omega
  have hmove : Holds C (Γ' x ++ ((Γb ++ Γr) ++ R)) Φ w1 := by
    refine hw'.move (hm.mono fun k _ hk => fpL_append.2 (.inl hk)) (Own.append.2 ⟨ho, ho2.keep fun k hlt hk => hm.block k hlt fun hn => ho3 k hn hk, hdis⟩) fun k hlt hk => ?_
    rcases fpL_append.1 hk with hk | hk
    · rcases hf k hk with h1 | h1
      · exact fpL_append.2 (.inl h1)
      · omega
    · exact fpL_append.2 (.inr hk)
  rw [← appO_eq (hΓ x), List.append_assoc (Γ' x)]
  exact hmove
/-- own blocks lent: what they hold. -/
theorem Bor.blks {Φ : List SP} {bs : List (Nat × TypeId × List Value)} : Bor (bs.map fun b => .blk b.1 b.2.1 b.2.2) Φ ((bs.map fun b => Pt (.pointer (some ⟨b.1, 0, none⟩)) b.2.2) ++ Φ) := fun w O ho hd hΦ ψ hψ => by
  rcases List.mem_append.1 hψ with hψ | hψ
  · obtain ⟨q, hq, rfl⟩ := List.mem_map.1 hψ
    have key : ∀ (l : List (Nat × TypeId × List Value)), Own (l.map fun b => .blk b.1 b.2.1 b.2.2) w → q ∈ l → w.heap[q.1]? = some (.cells q.2.2.toArray q.2.1 (0, 0)) := by
      intro l
      induction l with
      | nil => intro _ h; cases h
      | cons p r ih =>
        intro h1 h2
        rcases List.mem_cons.1 h2 with rfl | h2
        · exact h1.1
        · exact ih h1.2.2 h2
    have hh := key bs ho hq
    refine ⟨⟨q.1, 0, none⟩, rfl, (Array.getElem?_eq_some_iff.1 hh).1, hd q.1 ⟨.blk q.1 q.2.1 q.2.2, List.mem_map.2 ⟨q, hq, rfl⟩, rfl⟩, fun j u hu => ?_⟩
    rw [Addr.add_lit, Nat.zero_add]
    simp only [World.cell?, hh]
    simpa using hu
  · exact hΦ ψ hψ
theorem Bor.ent {Γb : List OA} {Φb Φc : List SP} (h : Bor Γb Φ Φb) (hs : AllE Φc Φb) : Bor Γb Φ Φc := fun w O ho hd hΦ ψ hψ => hs ψ hψ w O (h w O ho hd hΦ)
end
end Go.Hs
