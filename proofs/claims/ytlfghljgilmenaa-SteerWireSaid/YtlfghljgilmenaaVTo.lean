/-
  This text proves that the law 'hotspotlaw32.SteerWire' answers true at every input and leaves what it was handed as it was.
-/
import Derived.Test.YtlfghljgilmenaaVTk
import Derived.Test.YtlfghljgilmenaaVSs
namespace Go.Proofs.Ytlfghljgilmenaa.steerWire
open Go Go.ChangeShapes Go.WideShapes Go.ChangeAt Go.RowKit Go.Hs

theorem own : ownKnob Try.prog.godebug = none := by kernel_rfl
theorem laidOut : laidOutB Try.prog = true := by kernel_rfl

set_option maxRecDepth 100000 in
theorem lifted (os : Os) (started : os.Started) (H : Type) (enc : TypeId × Value → H) :
    ReturnsInHanded {} Try.checked os 9 .any (Rows.steerWireSpec.pre6 enc Try.prog Try.f9 Rows.steerWireRow.domain false) (Rows.steerWireSpec.post enc Try.prog Try.f9 false true false false) := by
  refine law_lift (C := Try.checked) (tb := 4) own started (by kernel_rfl) Try.func9
    (ChangeSpec.witness6 (enc := enc) (C := Try.checked) false ⟨#[], #[ .slice none 0 0, .slice none 0 0], []⟩ 8 (by kernel_rfl) (by kernel_rfl) (by kernel_rfl) (by kernel_rfl))
    laidOut (by kernel_rfl) rfl (by kernel_rfl) Try.underlying4 (fun ds h => ?_) ?_
  · rw [Try.params9] at h
    match ds, h with
    | [_, _], _ => rfl
  intro W base args ds p hval hA hz
  rw [Try.params9] at hA hval hz
  obtain ⟨v0, vs0, d0, ds0, p0, q0, hargs, rfl, rfl, h0, r0⟩ := trodAll_cons hA
  obtain ⟨v1, vs1, d1, ds1, p1, q1, rfl, rfl, rfl, h1, r1⟩ := trodAll_cons r0
  obtain ⟨rfl, rfl, rfl⟩ := trodAll_nil r1
  obtain rfl : args = #[v0, v1] := by cases args; simp_all
  obtain ⟨n, f, fuel, hr, _, hel⟩ := open_things (size := 9) Try.underlying42 (by kernel_rfl) (by decide) (hval 0 42 v0 rfl rfl) h0
  obtain ⟨l, _, hlr, hlw⟩ := list_nea hr fun i hi => by
    obtain ⟨_, y, hy⟩ := hel i hi
    exact op_nea hy
  obtain ⟨b1, hb1, hl1⟩ := open_bytes Try.underlying43 Try.underlying5 (by kernel_rfl) (hval 1 43 v1 rfl rfl) h1
  refine (wireLaw_fn v0 v1 l b1 hlw).below (fun ψ hψ => ?_)
  simp only [List.mem_cons, List.not_mem_nil, or_false] at hψ
  rcases hψ with rfl | rfl
  · exact hlr
  · exact hb1

theorem over : Rows.steerWireRow.holds Try.pinned (OpenSpec.ofChange Rows.steerWireSpec) :=
  OpenClaim.holds_of_wide 9 Try.f9 rfl rfl rfl rfl rfl rfl rfl ⟨rfl, rfl, rfl, rfl, rfl⟩ rfl rfl rfl rfl rfl (by kernel_rfl) Try.func9 (by kernel_rfl)
    (of_decide_eq_true (by kernel_rfl)) (by unfold Func.isWrapper; first | (rw [if_pos (by decide +kernel)]; kernel_rfl) | (rw [if_neg (by decide +kernel)]; exact ⟨rfl, rfl⟩))
    (fun os started H enc _ => lifted os started H enc)

theorem proved : Rows.SteerWireSaid := over
#print axioms proved
end Go.Proofs.Ytlfghljgilmenaa.steerWire
