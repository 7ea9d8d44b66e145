/-
  Rules for walks, merged.
-/
import Derived.Test.YtglmcnjkcmbefaaXc
import Derived.Test.YtglmcnjkcmbefaaXd
/-
  Headers and frames that are handed in, opened.
-/
namespace Go.Proofs.Ytglmcnjkcmbefaa.C05
open Go Go.ChangeShapes Go.WideShapes Go.ChangeAt Go.RowKit Go.Hs
theorem op_u8 {H : Type} {enc : TypeId × Value → H} {w : World} {held : Bool} {fuel : Nat} {cs : List Value} {x : DataW H × List MemPlace} (h : DataW.trod enc Try.prog w 0 (fun _ => true) held fuel 5 cs = some x) : ∃ b : UInt8, cs = [bcell b] := by
  obtain ⟨n, h1, h2⟩ := op_int Try.underlying5 h
  obtain ⟨k, hk⟩ := wf_u8 h2
  exact ⟨k, by rw [h1, hk]; rfl⟩
section
variable {H : Type} {enc : TypeId × Value → H} {w : World} {held : Bool}
set_option maxRecDepth 100000 in
set_option maxHeartbeats 4000000 in
theorem op_hd {fuel : Nat} {cs : List Value} {x : DataW H × List MemPlace} (h : DataW.trod enc Try.prog w 0 (fun _ => true) held fuel 25 cs = some x) : ∃ h : Hd, cs = h.cells ∧ h.w := by
  obtain ⟨hl, fu, hf⟩ := op_struct Try.underlying25 h
  have hl : cs.length = 40 := hl.trans (by kernel_rfl)
  match cs, hl with
  | k :: s :: t0 :: t1 :: t2 :: t3 :: t4 :: t5 :: t6 :: du :: p0 :: p1 :: p2 :: p3 :: p4 :: p5 :: q0 :: q1 :: q2 :: q3 :: q4 :: q5 :: r0 :: r1 :: r2 :: r3 :: r4 :: r5 :: u0 :: u1 :: u2 :: u3 :: u4 :: u5 :: sq :: fg :: td :: ak :: am :: eo :: [], _ =>
  obtain ⟨y0, f0⟩ := fld hf 0 5 0 1 rfl rfl rfl (by kernel_rfl) rfl
  obtain ⟨y1, f1⟩ := fld hf 1 5 1 1 rfl rfl rfl (by kernel_rfl) rfl
  obtain ⟨y2, f2⟩ := fld hf 2 4 2 1 rfl rfl rfl (by kernel_rfl) rfl
  obtain ⟨y3, f3⟩ := fld hf 3 4 3 1 rfl rfl rfl (by kernel_rfl) rfl
  obtain ⟨y4, f4⟩ := fld hf 4 4 4 1 rfl rfl rfl (by kernel_rfl) rfl
  obtain ⟨y5, f5⟩ := fld hf 5 4 5 1 rfl rfl rfl (by kernel_rfl) rfl
  obtain ⟨y6, f6⟩ := fld hf 6 4 6 1 rfl rfl rfl (by kernel_rfl) rfl
  obtain ⟨y7, f7⟩ := fld hf 7 4 7 1 rfl rfl rfl (by kernel_rfl) rfl
  obtain ⟨y8, f8⟩ := fld hf 8 4 8 1 rfl rfl rfl (by kernel_rfl) rfl
  obtain ⟨y9, f9⟩ := fld hf 9 3 9 1 rfl rfl rfl (by kernel_rfl) rfl
  obtain ⟨y10, f10⟩ := fld hf 10 23 10 6 rfl rfl rfl (by kernel_rfl) rfl
  obtain ⟨y11, f11⟩ := fld hf 11 23 16 6 rfl rfl rfl (by kernel_rfl) rfl
  obtain ⟨y12, f12⟩ := fld hf 12 23 22 6 rfl rfl rfl (by kernel_rfl) rfl
  obtain ⟨y13, f13⟩ := fld hf 13 23 28 6 rfl rfl rfl (by kernel_rfl) rfl
  obtain ⟨y14, f14⟩ := fld hf 14 3 34 1 rfl rfl rfl (by kernel_rfl) rfl
  obtain ⟨y15, f15⟩ := fld hf 15 3 35 1 rfl rfl rfl (by kernel_rfl) rfl
  obtain ⟨y16, f16⟩ := fld hf 16 3 36 1 rfl rfl rfl (by kernel_rfl) rfl
  obtain ⟨y17, f17⟩ := fld hf 17 5 37 1 rfl rfl rfl (by kernel_rfl) rfl
  obtain ⟨y18, f18⟩ := fld hf 18 4 38 1 rfl rfl rfl (by kernel_rfl) rfl
  obtain ⟨y19, f19⟩ := fld hf 19 4 39 1 rfl rfl rfl (by kernel_rfl) rfl
  obtain ⟨n0', e0⟩ := op_u8 f0
  obtain ⟨n1', e1⟩ := op_u8 f1
  obtain ⟨n2', e2⟩ := op_bool Try.underlying4 f2
  obtain ⟨n3', e3⟩ := op_bool Try.underlying4 f3
  obtain ⟨n4', e4⟩ := op_bool Try.underlying4 f4
  obtain ⟨n5', e5⟩ := op_bool Try.underlying4 f5
  obtain ⟨n6', e6⟩ := op_bool Try.underlying4 f6
  obtain ⟨n7', e7⟩ := op_bool Try.underlying4 f7
  obtain ⟨n8', e8⟩ := op_bool Try.underlying4 f8
  obtain ⟨n9', e9, w9⟩ := op_int Try.underlying3 f9
  obtain ⟨n10', e10⟩ := op_a6 Try.underlying23 Try.underlying5 (by kernel_rfl) (by kernel_rfl) f10
  obtain ⟨n11', e11⟩ := op_a6 Try.underlying23 Try.underlying5 (by kernel_rfl) (by kernel_rfl) f11
  obtain ⟨n12', e12⟩ := op_a6 Try.underlying23 Try.underlying5 (by kernel_rfl) (by kernel_rfl) f12
  obtain ⟨n13', e13⟩ := op_a6 Try.underlying23 Try.underlying5 (by kernel_rfl) (by kernel_rfl) f13
  obtain ⟨n14', e14, w14⟩ := op_int Try.underlying3 f14
  obtain ⟨n15', e15, w15⟩ := op_int Try.underlying3 f15
  obtain ⟨n16', e16, w16⟩ := op_int Try.underlying3 f16
  obtain ⟨n17', e17⟩ := op_u8 f17
  obtain ⟨n18', e18⟩ := op_bool Try.underlying4 f18
  obtain ⟨n19', e19⟩ := op_bool Try.underlying4 f19
  injection e0 with z0_0 e0
  injection e1 with z1_0 e1
  injection e2 with z2_0 e2
  injection e3 with z3_0 e3
  injection e4 with z4_0 e4
  injection e5 with z5_0 e5
  injection e6 with z6_0 e6
  injection e7 with z7_0 e7
  injection e8 with z8_0 e8
  injection e9 with z9_0 e9
  injection e10 with z10_0 e10
  injection e10 with z10_1 e10
  injection e10 with z10_2 e10
  injection e10 with z10_3 e10
  injection e10 with z10_4 e10
  injection e10 with z10_5 e10
  injection e11 with z11_0 e11
  injection e11 with z11_1 e11
  injection e11 with z11_2 e11
  injection e11 with z11_3 e11
  injection e11 with z11_4 e11
  injection e11 with z11_5 e11
  injection e12 with z12_0 e12
  injection e12 with z12_1 e12
  injection e12 with z12_2 e12
  injection e12 with z12_3 e12
  injection e12 with z12_4 e12
  injection e12 with z12_5 e12
  injection e13 with z13_0 e13
  injection e13 with z13_1 e13
  injection e13 with z13_2 e13
  injection e13 with z13_3 e13
  injection e13 with z13_4 e13
  injection e13 with z13_5 e13
  injection e14 with z14_0 e14
  injection e15 with z15_0 e15
  injection e16 with z16_0 e16
  injection e17 with z17_0 e17
  injection e18 with z18_0 e18
  injection e19 with z19_0 e19
  subst z0_0
  subst z1_0
  subst z2_0
  subst z3_0
  subst z4_0
  subst z5_0
  subst z6_0
  subst z7_0
  subst z8_0
  subst z9_0
  subst z10_0
  subst z10_1
  subst z10_2
  subst z10_3
  subst z10_4
  subst z10_5
  subst z11_0
  subst z11_1
  subst z11_2
  subst z11_3
  subst z11_4
  subst z11_5
  subst z12_0
  subst z12_1
  subst z12_2
  subst z12_3
  subst z12_4
  subst z12_5
  subst z13_0
  subst z13_1
  subst z13_2
  subst z13_3
  subst z13_4
  subst z13_5
  subst z14_0
  subst z15_0
  subst z16_0
  subst z17_0
  subst z18_0
  subst z19_0
  exact ⟨⟨n0', n1', n2', n3', n4', n5', n6', n7', n8', n9', n10', n11', n12', n13', n14', n15', n16', n17', n18', n19'⟩, rfl, w9, w14, w15, w16⟩
set_option maxRecDepth 100000 in
set_option maxHeartbeats 4000000 in
theorem op_fm {fuel : Nat} {cs : List Value} {x : DataW H × List MemPlace} (h : DataW.trod enc Try.prog w 0 (fun _ => true) held fuel 28 cs = some x) : ∃ f : Fm, cs = f.cells ∧ f.head.w ∧ f.fact.p w (fun _ => False) := by
  obtain ⟨hl, fu, hf⟩ := op_struct Try.underlying28 h
  have hl : cs.length = 41 := hl.trans (by kernel_rfl)
  match cs, hl with
  | c0 :: c1 :: c2 :: c3 :: c4 :: c5 :: c6 :: c7 :: c8 :: c9 :: c10 :: c11 :: c12 :: c13 :: c14 :: c15 :: c16 :: c17 :: c18 :: c19 :: c20 :: c21 :: c22 :: c23 :: c24 :: c25 :: c26 :: c27 :: c28 :: c29 :: c30 :: c31 :: c32 :: c33 :: c34 :: c35 :: c36 :: c37 :: c38 :: c39 :: c40 :: [], _ =>
  obtain ⟨y0, f0⟩ := fld hf 0 25 0 40 rfl rfl rfl (by kernel_rfl) rfl
  obtain ⟨y1, f1⟩ := fld hf 1 26 40 1 rfl rfl rfl (by kernel_rfl) rfl
  obtain ⟨hd, e0, hw⟩ := op_hd f0
  obtain ⟨v, bs, e1, hb, _⟩ := op_bytes Try.underlying26 Try.underlying5 (by kernel_rfl) f1
  injection e0 with z0 e0
  injection e0 with z1 e0
  injection e0 with z2 e0
  injection e0 with z3 e0
  injection e0 with z4 e0
  injection e0 with z5 e0
  injection e0 with z6 e0
  injection e0 with z7 e0
  injection e0 with z8 e0
  injection e0 with z9 e0
  injection e0 with z10 e0
  injection e0 with z11 e0
  injection e0 with z12 e0
  injection e0 with z13 e0
  injection e0 with z14 e0
  injection e0 with z15 e0
  injection e0 with z16 e0
  injection e0 with z17 e0
  injection e0 with z18 e0
  injection e0 with z19 e0
  injection e0 with z20 e0
  injection e0 with z21 e0
  injection e0 with z22 e0
  injection e0 with z23 e0
  injection e0 with z24 e0
  injection e0 with z25 e0
  injection e0 with z26 e0
  injection e0 with z27 e0
  injection e0 with z28 e0
  injection e0 with z29 e0
  injection e0 with z30 e0
  injection e0 with z31 e0
  injection e0 with z32 e0
  injection e0 with z33 e0
  injection e0 with z34 e0
  injection e0 with z35 e0
  injection e0 with z36 e0
  injection e0 with z37 e0
  injection e0 with z38 e0
  injection e0 with z39 e0
  injection e1 with zz e1
  subst z0
  subst z1
  subst z2
  subst z3
  subst z4
  subst z5
  subst z6
  subst z7
  subst z8
  subst z9
  subst z10
  subst z11
  subst z12
  subst z13
  subst z14
  subst z15
  subst z16
  subst z17
  subst z18
  subst z19
  subst z20
  subst z21
  subst z22
  subst z23
  subst z24
  subst z25
  subst z26
  subst z27
  subst z28
  subst z29
  subst z30
  subst z31
  subst z32
  subst z33
  subst z34
  subst z35
  subst z36
  subst z37
  subst z38
  subst z39
  subst zz
  exact ⟨⟨hd, c40, bs⟩, rfl, hw, hb⟩
set_option maxRecDepth 100000 in
theorem open_fm {r : Reach} {base : Nat} {v : Value} {d : DataW H} {ps : List MemPlace} (hval : Value.okWide Try.prog w r base 28 v) (h : DataW.Trod enc Try.prog w 0 (fun _ => true) held 28 v d ps) : ∃ f : Fm, v = f.val ∧ f.head.w ∧ f.fact.p w (fun _ => False) := by
  simp only [Value.okWide, Try.underlying28] at hval
  obtain ⟨cs, rfl, _, _⟩ := hval
  obtain ⟨fuel, hf⟩ := h
  obtain ⟨s, h1, h2, h3⟩ := op_fm hf
  refine ⟨s, ?_, h2, h3⟩
  have h1 : cs.toList = s.cells := h1
  have : cs = s.cells.toArray := by rw [← h1]
  rw [this]
end
end Go.Proofs.Ytglmcnjkcmbefaa.C05
