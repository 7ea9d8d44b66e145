/-
  A list of elements that is handed in: what is read off its reading.
-/
import Derived.Test.YtahkcidnmdcaaaaEw
import Derived.Test.YtahkcidnmdcaaaaLy
namespace Go.Proofs.Ytahkcidnmdcaaaa
open Go Go.RowKit Go.Hs Go.ChangeShapes Go.WideShapes Go.ChangeAt

theorem tree_build {w : World} {O : Nat → Prop} : ∀ (n : Nat) (f : Nat → List Value), (∀ i, i < n → ∃ (id ext : UInt8) (dv : Value) (data : List UInt8) (sv : Value) (subs : T), f i = [bcell id, bcell ext, dv, sv] ∧ (By dv data).p w O ∧ (Rw 4 sv subs.len subs.at_).p w O ∧ subs.tf.p w O) →
    ∃ t : T, t.len = n ∧ (∀ i, i < n → t.at_ i = f i) ∧ t.tf.p w O
  | 0, f, _ => ⟨.nil, rfl, fun i hi => absurd hi (by omega), trivial⟩
  | n + 1, f, h => by
    obtain ⟨id, ext, dv, data, sv, subs, h1, h2, h3, h4⟩ := h 0 (by omega)
    obtain ⟨t, t1, t2, t3⟩ := tree_build n (fun i => f (i + 1)) fun i hi => h (i + 1) (by omega)
    refine ⟨.cons id ext dv data sv subs t, by simp [T.len, t1], fun i hi => ?_, h2, h3, h4, t3⟩
    cases i with
    | zero => exact h1.symm
    | succ i => exact t2 i (by omega)

theorem op_tree {H : Type} {enc : TypeId × Value → H} {w : World} {held : Bool} : ∀ (fuel : Nat) (cs : List Value) (x : DataW H × List MemPlace), DataW.trod enc Try.prog w 0 (fun _ => true) held fuel 23 cs = some x →
    ∃ (v : Value) (t : T), cs = [v] ∧ (Rw 4 v t.len t.at_).p w (fun _ => False) ∧ t.tf.p w (fun _ => False) := by
  intro fuel
  induction fuel using Nat.strongRecOn with
  | _ fuel ih =>
    intro cs x hx
    obtain ⟨v, n, f, h1, h2, _, h4⟩ := opf_things (size := 4) Try.underlying23 (by kernel_rfl) (by decide) hx
    obtain ⟨t, t1, t2, t3⟩ := tree_build (w := w) (O := fun _ => False) n f fun i hi => by
      obtain ⟨hl, fu, y, hfu, hy⟩ := h4 i hi
      obtain ⟨_, fu2, hfu2, hf⟩ := opf_struct Try.underlying31 hy
      generalize f i = cs at *
      match cs, hl with
      | [c0, c1, c2, c3], _ =>
      obtain ⟨y0, f0⟩ := fld hf 0 5 0 1 rfl rfl rfl (by kernel_rfl) rfl
      obtain ⟨y1, f1⟩ := fld hf 1 5 1 1 rfl rfl rfl (by kernel_rfl) rfl
      obtain ⟨y2, f2⟩ := fld hf 2 22 2 1 rfl rfl rfl (by kernel_rfl) rfl
      obtain ⟨y3, f3⟩ := fld hf 3 23 3 1 rfl rfl rfl (by kernel_rfl) rfl
      obtain ⟨a, e0, w0⟩ := op_int Try.underlying5 f0
      obtain ⟨b, e1, w1⟩ := op_int Try.underlying5 f1
      obtain ⟨dv, data, e2, hb, _⟩ := op_bytes Try.underlying22 Try.underlying5 (by kernel_rfl) f2
      obtain ⟨sv, subs, e3, hr, ht⟩ := ih fu2 (by omega) _ _ f3
      obtain ⟨a', rfl⟩ := wf_u8 w0
      obtain ⟨b', rfl⟩ := wf_u8 w1
      injection e0 with e0
      injection e1 with e1
      injection e2 with e2
      injection e3 with e3
      subst e0; subst e1; subst e2; subst e3
      exact ⟨a', b', _, data, _, subs, rfl, hb, hr, ht⟩
    refine ⟨v, t, h1, ?_, t3⟩
    rw [t1]
    have h2' : rwP 4 v n f w (fun _ => False) := h2
    exact rwP_congr h2' fun i hi => (t2 i hi).symm

theorem open_tree {H : Type} {enc : TypeId × Value → H} {w : World} {held : Bool} {r : Reach} {base : Nat} {v : Value} {d : DataW H} {ps : List MemPlace} (hval : Value.okWide Try.prog w r base 23 v)
    (h : DataW.Trod enc Try.prog w 0 (fun _ => true) held 23 v d ps) : ∃ t : T, (Rw 4 v t.len t.at_).p w (fun _ => False) ∧ t.tf.p w (fun _ => False) := by
  obtain ⟨a, len, cap, rfl⟩ := okWide_slice Try.underlying23 hval
  obtain ⟨fuel, hf⟩ := h
  obtain ⟨v, t, e0, h1, h2⟩ := op_tree fuel _ _ hf
  have e0 : [Value.slice a len cap] = [v] := e0
  injection e0 with e0
  subst e0
  exact ⟨t, h1, h2⟩
end Go.Proofs.Ytahkcidnmdcaaaa
