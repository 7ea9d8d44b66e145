/-
  This text proves that the law 'hotspotlaw07.FragmentTrue' answers true at every input and leaves what it was handed as it was.
-/
import Derived.Test.YtglmcnjkcmbefaaVIx
import Derived.Test.YtglmcnjkcmbefaaVJa
namespace Go.Proofs.Ytglmcnjkcmbefaa.fragmentTrue
open Go Go.ChangeShapes Go.WideShapes Go.ChangeAt Go.RowKit Go.Hs C05

section
variable {H : Type} {enc : TypeId × Value → H} {w : World} {held : Bool}
def mv0 : Mv := ⟨0, 0, 0, false⟩
set_option maxRecDepth 100000 in
theorem op_mv {fuel : Nat} {cs : List Value} {x : DataW H × List MemPlace} (h : DataW.trod enc Try.prog w 0 (fun _ => true) held fuel 55 cs = some x) : ∃ m : Mv, cs = m.cells := by
  obtain ⟨hl, fu, hf⟩ := op_struct Try.underlying55 h
  have hl : cs.length = 4 := hl.trans (by kernel_rfl)
  match cs, hl with
  | [c0, c1, c2, c3], _ =>
  obtain ⟨y0, f0⟩ := fld hf 0 3 0 1 rfl rfl rfl (by kernel_rfl) rfl
  obtain ⟨y1, f1⟩ := fld hf 1 3 1 1 rfl rfl rfl (by kernel_rfl) rfl
  obtain ⟨y2, f2⟩ := fld hf 2 3 2 1 rfl rfl rfl (by kernel_rfl) rfl
  obtain ⟨y3, f3⟩ := fld hf 3 4 3 1 rfl rfl rfl (by kernel_rfl) rfl
  obtain ⟨n, e0, _⟩ := op_int Try.underlying3 f0
  obtain ⟨m, e1, _⟩ := op_int Try.underlying3 f1
  obtain ⟨k, e2, _⟩ := op_int Try.underlying3 f2
  obtain ⟨b, e3⟩ := op_bool Try.underlying4 f3
  injection e0 with e0
  injection e1 with e1
  injection e2 with e2
  injection e3 with e3
  subst e0; subst e1; subst e2; subst e3
  exact ⟨⟨n, m, k, b⟩, rfl⟩
theorem fun_mv {n : Nat} {v : Value} {f : Nat → List Value} (hr : (Rw 4 v n f).p w (fun _ => False)) (hel : ∀ i, i < n → ∃ u : Mv, f i = u.cells) : ∃ g : Nat → Mv, (Rw 4 v n (fun i => (g i).cells)).p w (fun _ => False) := by
  have hch : ∀ i, ∃ u : Mv, i < n → f i = u.cells := fun i => by
    by_cases hi : i < n
    · obtain ⟨u, h1⟩ := hel i hi
      exact ⟨u, fun _ => h1⟩
    · exact ⟨mv0, fun h => absurd h hi⟩
  obtain ⟨g, hg⟩ := Classical.axiomOfChoice hch
  have hr' : rwP 4 v n f w (fun _ => False) := hr
  exact ⟨g, rwP_congr hr' fun i hi => hg i hi⟩
end

theorem own : ownKnob Try.prog.godebug = none := by kernel_rfl
theorem laidOut : laidOutB Try.prog = true := by kernel_rfl

set_option maxRecDepth 100000 in
theorem lifted (os : Os) (started : os.Started) (H : Type) (enc : TypeId × Value → H) :
    ReturnsInHanded {} Try.checked os 6 .any (Rows.fragmentTrueSpec.pre6 enc Try.prog Try.f6 Rows.fragmentTrueRow.domain false) (Rows.fragmentTrueSpec.post enc Try.prog Try.f6 false true false false) := by
  refine law_lift (C := Try.checked) (tb := 4) own started (by kernel_rfl) Try.func6
    (ChangeSpec.witness6 (enc := enc) (C := Try.checked) false ⟨#[], #[ .slice none 0 0, .slice none 0 0, .slice none 0 0], []⟩ 8 (by kernel_rfl) (by kernel_rfl) (by kernel_rfl) (by kernel_rfl))
    laidOut (by kernel_rfl) rfl (by kernel_rfl) Try.underlying4 (fun ds h => ?_) ?_
  · rw [Try.params6] at h
    match ds, h with
    | [_, _, _], _ => rfl
  intro W base args ds p hval hA hz
  rw [Try.params6] at hA hval hz
  obtain ⟨v0, vs0, d0, ds0, p0, q0, hargs, rfl, rfl, h0, r0⟩ := trodAll_cons hA
  obtain ⟨v1, vs1, d1, ds1, p1, q1, rfl, rfl, rfl, h1, r1⟩ := trodAll_cons r0
  obtain ⟨v2, vs2, d2, ds2, p2, q2, rfl, rfl, rfl, h2, r2⟩ := trodAll_cons r1
  obtain ⟨rfl, rfl, rfl⟩ := trodAll_nil r2
  obtain rfl : args = #[v0, v1, v2] := by cases args; simp_all
  obtain ⟨D, hD1, hD2, hD3⟩ := open_fms (hval 0 31 v0 rfl rfl) h0
  obtain ⟨n, g, hg, _⟩ := open_nums Try.underlying50 Try.underlying3 (by kernel_rfl) (hval 1 50 v1 rfl rfl) h1
  obtain ⟨q, f, fuel, hr, _, hel⟩ := open_things (size := 4) Try.underlying51 (by kernel_rfl) (by decide) (hval 2 51 v2 rfl rfl) h2
  obtain ⟨mv, hm⟩ := fun_mv hr fun i hi => by
    obtain ⟨_, y, hy⟩ := hel i hi
    exact op_mv hy
  refine (trueLaw_fn D v0 n g v1 q mv v2 hD3).below (fun ψ hψ => ?_)
  simp only [List.mem_cons, List.not_mem_nil, or_false] at hψ
  rcases hψ with rfl | rfl | rfl | rfl
  · exact hD1
  · exact hD2
  · exact hg
  · exact hm

theorem over : Rows.fragmentTrueRow.holds Try.pinned (OpenSpec.ofChange Rows.fragmentTrueSpec) :=
  OpenClaim.holds_of_wide 6 Try.f6 rfl rfl rfl rfl rfl rfl rfl ⟨rfl, rfl, rfl, rfl, rfl⟩ rfl rfl rfl rfl rfl (by kernel_rfl) Try.func6 (by kernel_rfl)
    (of_decide_eq_true (by kernel_rfl)) (by unfold Func.isWrapper; first | (rw [if_pos (by decide +kernel)]; kernel_rfl) | (rw [if_neg (by decide +kernel)]; exact ⟨rfl, rfl⟩))
    (fun os started H enc _ => lifted os started H enc)

theorem proved : Rows.FragmentTrueSaid := over
#print axioms proved
end Go.Proofs.Ytglmcnjkcmbefaa.fragmentTrue
