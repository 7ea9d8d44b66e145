/-
  This text proves that the law 'hotspotlaw05.HeaderDamage' answers true at every input and leaves what it was handed as it was.
-/
import Derived.Test.YtbdcpahifcbcfaaVHa
import Derived.Test.YtbdcpahifcbcfaaVGk
namespace Go.Proofs.Ytbdcpahifcbcfaa.headerDamage
open Go Go.ChangeShapes Go.WideShapes Go.ChangeAt Go.RowKit Go.Hs

theorem own : ownKnob Try.prog.godebug = none := by kernel_rfl
theorem laidOut : laidOutB Try.prog = true := by kernel_rfl

set_option maxRecDepth 100000 in
theorem lifted (os : Os) (started : os.Started) (H : Type) (enc : TypeId × Value → H) :
    ReturnsInHanded {} Try.checked os 6 .any (Rows.headerDamageSpec.pre6 enc Try.prog Try.f6 Rows.headerDamageRow.domain false) (Rows.headerDamageSpec.post enc Try.prog Try.f6 false true false false) := by
  refine law_lift (C := Try.checked) (tb := 4) own started (by kernel_rfl) Try.func6
    (ChangeSpec.witness6 (enc := enc) (C := Try.checked) false ⟨#[], #[ .agg #[.int .u8 0, .int .u8 0, .bool false, .bool false, .bool false, .bool false, .bool false, .bool false, .bool false, .int .i64 0, .int .u8 0, .int .u8 0, .int .u8 0, .int .u8 0, .int .u8 0, .int .u8 0, .int .u8 0, .int .u8 0, .int .u8 0, .int .u8 0, .int .u8 0, .int .u8 0, .int .u8 0, .int .u8 0, .int .u8 0, .int .u8 0, .int .u8 0, .int .u8 0, .int .u8 0, .int .u8 0, .int .u8 0, .int .u8 0, .int .u8 0, .int .u8 0, .int .i64 0, .int .i64 0, .int .i64 0, .int .u8 0, .bool false, .bool false, .slice none 0 0], .int .u16 0, .int .u32 0, .slice none 0 0], []⟩ 8 (by kernel_rfl) (by kernel_rfl) (by kernel_rfl) (by kernel_rfl))
    laidOut (by kernel_rfl) rfl (by kernel_rfl) Try.underlying4 (fun ds h => ?_) ?_
  · rw [Try.params6] at h
    match ds, h with
    | [_, _, _, _], _ => rfl
  intro W base args ds p hval hA hz
  rw [Try.params6] at hA hval hz
  obtain ⟨v0, vs0, d0, ds0, p0, q0, hargs, rfl, rfl, h0, r0⟩ := trodAll_cons hA
  obtain ⟨v1, vs1, d1, ds1, p1, q1, rfl, rfl, rfl, h1, r1⟩ := trodAll_cons r0
  obtain ⟨v2, vs2, d2, ds2, p2, q2, rfl, rfl, rfl, h2, r2⟩ := trodAll_cons r1
  obtain ⟨v3, vs3, d3, ds3, p3, q3, rfl, rfl, rfl, h3, r3⟩ := trodAll_cons r2
  obtain ⟨rfl, rfl, rfl⟩ := trodAll_nil r3
  obtain rfl : args = #[v0, v1, v2, v3] := by cases args; simp_all
  obtain ⟨f, rfl, hf, hff⟩ := open_fm (hval 0 28 v0 rfl rfl) h0
  obtain ⟨a1, rfl, rfl, rfl, w1⟩ := open_int Try.underlying59 (hval 1 59 v1 rfl rfl) h1
  obtain ⟨a2, rfl, rfl, rfl, w2⟩ := open_int Try.underlying60 (hval 2 60 v2 rfl rfl) h2
  obtain ⟨k, rfl, hk⟩ := wf_u16 w1
  obtain ⟨s, rfl⟩ := wf_u32 w2
  obtain ⟨n, g, hr, _, hw⟩ := open_nums Try.underlying61 Try.underlying59 (by kernel_rfl) (hval 3 61 v3 rfl rfl) h3
  have hg : ∀ i, g i = (((g i).toNat : Nat) : Int) := fun i => by obtain ⟨k, e, _⟩ := wf_u16 (hw i); omega
  have hfe : (fun i => [Value.int .u16 (g i)]) = fun i => [.int .u16 (((g i).toNat : Nat) : Int)] := by
    funext i
    rw [← hg i]
  rw [hfe] at hr
  refine (damageLaw_fn f k hk s v3 n (fun i => (g i).toNat) (fun i => by obtain ⟨k, e, _⟩ := wf_u16 (hw i); omega) hf).below (fun ψ hψ => ?_)
  simp only [List.mem_cons, List.not_mem_nil, or_false] at hψ
  rcases hψ with rfl | rfl
  · exact hff
  · exact hr

theorem over : Rows.headerDamageRow.holds Try.pinned (OpenSpec.ofChange Rows.headerDamageSpec) :=
  OpenClaim.holds_of_wide 6 Try.f6 rfl rfl rfl rfl rfl rfl rfl ⟨rfl, rfl, rfl, rfl, rfl⟩ rfl rfl rfl rfl rfl (by kernel_rfl) Try.func6 (by kernel_rfl)
    (of_decide_eq_true (by kernel_rfl)) (by unfold Func.isWrapper; first | (rw [if_pos (by decide +kernel)]; kernel_rfl) | (rw [if_neg (by decide +kernel)]; exact ⟨rfl, rfl⟩))
    (fun os started H enc _ => lifted os started H enc)

theorem proved : Rows.HeaderDamageSaid := over
#print axioms proved
end Go.Proofs.Ytbdcpahifcbcfaa.headerDamage
