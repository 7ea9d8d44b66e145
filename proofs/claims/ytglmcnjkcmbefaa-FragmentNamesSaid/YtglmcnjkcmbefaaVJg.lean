/-
  The law 'FragmentNames' walked.
-/
import Derived.Test.YtglmcnjkcmbefaaVIr
import Derived.Test.YtglmcnjkcmbefaaVJc
import Derived.Test.YtglmcnjkcmbefaaXd
namespace Go.Proofs.Ytglmcnjkcmbefaa
open Go Go.RowKit Go.Hs C05
def z7 (n : Nat) : List UInt8 := List.replicate n 0
theorem z7_length (n : Nat) : (z7 n).length = n := List.length_replicate
theorem z7_take (n : Nat) : (madeCells (Value.int .u8 0).cells (n * 1)).toList.take (n * 1) = (z7 n).map bcell := made_u8 n
def gpH : Hd := ⟨2, 0, false, false, false, false, false, false, false, 0, ⟨1, 0, 0, 0, 0, 0⟩, ⟨2, 2, 0, 0, 0, 0⟩, ⟨2, 3, 0, 0, 0, 0⟩, zA6, 9, 0, 0, 0, false, false⟩
def akH : Hd := ⟨1, 13, false, false, false, false, false, false, false, 0, zA6, zA6, zA6, zA6, 0, 0, 0, 0, false, false⟩
theorem gpH_w : gpH.w := ⟨w64_zero, w64_nat 9 (by decide), w64_zero, w64_zero⟩
theorem akH_w : akH.w := ⟨w64_zero, w64_zero, w64_zero, w64_zero⟩
@[reducible] def pA7 (v : Value) : Pa := ⟨fvH 0 true, 1, v, [1, 2], 0⟩
@[reducible] def pB7 (v : Value) : Pa := ⟨fvH 0 true, 2, v, [1, 2, 3, 4], 0⟩
theorem pA7_w (v : Value) : ∀ p ∈ [pA7 v], p.w := fun p hp => by
  rcases List.mem_singleton.1 hp with rfl
  exact ⟨fvH_w 0 true (by decide), w64_nat 1 (by decide), w64_zero⟩
theorem pB7_w (v : Value) : ∀ p ∈ [pB7 v], p.w := fun p hp => by
  rcases List.mem_singleton.1 hp with rfl
  exact ⟨fvH_w 0 true (by decide), w64_nat 2 (by decide), w64_zero⟩
theorem pBB7_w (v : Value) : ∀ p ∈ [pB7 v, pB7 v], p.w := fun p hp => by
  rcases List.mem_cons.1 hp with rfl | hp
  · exact pB7_w v _ List.mem_cons_self
  · exact pB7_w v _ hp
theorem fn_cut0 : cutL (fvH 0 false) fvB 0 = [] ∧ cutE (fvH 0 false) fvB 0 = 2 := ⟨by kernel_rfl, by kernel_rfl⟩
theorem fn_cutA : cutE (fvH 0 false) (z7 17) 1 = 4 := by kernel_rfl
theorem fn_cutB : cutE (fvH 0 false) (z7 17) 2 = 0 ∧ (cutL (fvH 0 false) (z7 17) 2).length = 9 := ⟨by kernel_rfl, by kernel_rfl⟩
theorem fn_cutG : cutE gpH fvB 2 = 8 := by kernel_rfl
theorem fn_cutL : cutE (fvH 0 false) (z7 2305) 200 = 11 := by
  unfold cutE
  rw [if_neg ?_, if_pos (by rw [z7_length]; decide)]
  unfold cutP sndB
  rw [z7_length]
  intro h
  have h1 : (hdB (fvH 0 false) && !(barB (fvH 0 false) && decide (0 < 2305))) = true := by kernel_rfl
  rw [h1] at h
  rcases h with h | h | h | h | h | h
  · cases h
  · exact absurd h (by decide)
  · exact absurd h (by decide)
  · exact absurd h (by decide)
  · exact absurd h (by decide)
  · exact h rfl
theorem fn_c1 : colR [] (fvH 1 true) [3, 4] 0 = badR 6 := by kernel_rfl
theorem fn_c2 : colR [] (fvH 0 true) [1, 2] 0 = ⟨0, false, h0_, [], [⟨fvH 0 true, 1, [1, 2], 0⟩]⟩ := by kernel_rfl
theorem fn_c3 : colR [⟨fvH 0 true, 1, [1, 2], 0⟩] (fvH 1 true) [3, 4] 500000 = ⟨0, false, h0_, [], [⟨fvH 0 true, 2, [1, 2, 3, 4], 0⟩]⟩ := by kernel_rfl
theorem fn_c4 : colR [⟨fvH 0 true, 2, [1, 2, 3, 4], 0⟩] (fvH 1 true) [3, 4] 500000 = badR 21 := by kernel_rfl
theorem fn_c5 : colR [⟨fvH 0 true, 2, [1, 2, 3, 4], 0⟩] (fvH 2 false) [5] 500001 = badR 6 := by kernel_rfl
theorem fn_c6 : colR [⟨fvH 0 true, 2, [1, 2, 3, 4], 0⟩] akH [] 0 = badR 2 := by kernel_rfl
theorem fn_c7 : colR [⟨fvH 0 true, 2, [1, 2, 3, 4], 0⟩] (fvH 0 false) fvB (-1) = badR 2 := by kernel_rfl
theorem fn_x1 : exE [⟨fvH 0 true, 2, [1, 2, 3, 4], 0⟩] 500001 = 0 ∧ exN [⟨fvH 0 true, 2, [1, 2, 3, 4], 0⟩] 500001 = 1 ∧ exL [⟨fvH 0 true, 2, [1, 2, 3, 4], 0⟩] 500001 = [] := ⟨by kernel_rfl, by kernel_rfl, by kernel_rfl⟩
theorem fn_x2 : exE [⟨fvH 0 true, 2, [1, 2, 3, 4], 0⟩] 500000 = 0 ∧ exN [⟨fvH 0 true, 2, [1, 2, 3, 4], 0⟩] 500000 = 0 ∧ exL [⟨fvH 0 true, 2, [1, 2, 3, 4], 0⟩] 500000 = [⟨fvH 0 true, 2, [1, 2, 3, 4], 0⟩] := ⟨by kernel_rfl, by kernel_rfl, by kernel_rfl⟩
theorem fn_ch : chkC [⟨fvH 0 true, 2, [1, 2, 3, 4], 0⟩, ⟨fvH 0 true, 2, [1, 2, 3, 4], 0⟩] = 8 := by kernel_rfl
theorem Effs.tellP {C : Ctx} {fr : Fr} {Γ Γ1 : List OA} {Φ : List SP} {o : Oper} {pf : Value → Prop} {vx : Value → Value} {t : TypeId} (k : List Pa) (h : Effs C fr Γ Φ o (X := Value) pf vx (fun v => .row (vx v) t 43 k.length (fcP k) :: Γ1) (fun _ => Φ)) : Effs C fr Γ Φ o (X := Value) pf vx (fun _ => Γ1) (fun v => Rw 43 (vx v) k.length (fun i => (k.getD i p0_).cells) :: Φ) :=
  ⟨fun _ ψ hψ => List.mem_cons_of_mem _ hψ, fun R a w ha hw => (h.2 R a w ha hw).mono fun _ _ ⟨x, hp, hv, hw'⟩ => ⟨x, hp, hv, by
    have h1 := Holds.letgo hw'
    have h2 := h1.ent (ent_slP (v := vx x) (k := k) List.mem_cons_self)
    exact h2.sub fun ψ hψ => by
      rcases List.mem_cons.1 hψ with rfl | hψ
      · exact List.mem_cons_self
      · exact List.mem_cons_of_mem _ (List.mem_cons_of_mem _ hψ)⟩⟩
attribute [local irreducible] WL W WQ PL Runs Effs AllE Ent SubO FrIn Pick OneC Ones CellsE PartsE SeqE UZ By Sl Pt Ct

set_option maxRecDepth 100000 in
set_option maxHeartbeats 32000000 in
theorem namesLaw_fn : CtD Try.prog 4 [] [] (.bool true) := by
  have hal := alive_fn
  have hv0 := fvH_w 0 false (by decide)
  have hv1 := fvH_w 0 true (by decide)
  have hv2 := fvH_w 1 true (by decide)
  have hv3 := fvH_w 2 false (by decide)
  have ct := fun y => cutS_fn ⟨fvH 0 false, y, fvB⟩ 2 hv0 (Nat.le_of_ble_eq_true rfl)
  dsimp only at ct
  rw [fv_cut, fv_cutE] at ct
  have ct0 := fun y => cutS_fn ⟨fvH 0 false, y, fvB⟩ 0 hv0 (Nat.le_of_ble_eq_true rfl)
  dsimp only at ct0
  rw [fn_cut0.1, fn_cut0.2] at ct0
  have ctA := fun y => cutS_fn ⟨fvH 0 false, y, z7 17⟩ 1 hv0 (by show (z7 17).length ≤ 100000; rw [z7_length]; decide)
  dsimp only at ctA
  rw [fn_cutA] at ctA
  have ctB := fun y => cutS_fn ⟨fvH 0 false, y, z7 17⟩ 2 hv0 (by show (z7 17).length ≤ 100000; rw [z7_length]; decide)
  dsimp only at ctB
  rw [fn_cutB.1] at ctB
  have ctG := fun y => cutS_fn ⟨gpH, y, fvB⟩ 2 gpH_w (Nat.le_of_ble_eq_true rfl)
  dsimp only at ctG
  rw [fn_cutG] at ctG
  have ctL := fun y => cutS_fn ⟨fvH 0 false, y, z7 2305⟩ 200 hv0 (by show (z7 2305).length ≤ 100000; rw [z7_length]; decide)
  dsimp only at ctL
  rw [fn_cutL] at ctL
  have k1 := fun v => colK (.slice none 0 0) [] (fv1 v) 0 _ fn_c1 (fun p hp => by cases hp) hv2 (Nat.le_of_ble_eq_true rfl)
  have k2 := fun v => colK (.slice none 0 0) [] (fv0 v) 0 _ fn_c2 (fun p hp => by cases hp) hv1 (Nat.le_of_ble_eq_true rfl)
  have k3 := fun u w v => colK u [pA7 w] (fv1 v) 500000 _ fn_c3 (pA7_w w) hv2 (Nat.le_of_ble_eq_true rfl)
  have k4 := fun u w v => colK u [pB7 w] (fv1 v) 500000 _ fn_c4 (pB7_w w) hv2 (Nat.le_of_ble_eq_true rfl)
  have k5 := fun u w v => colK u [pB7 w] (fv2 v) 500001 _ fn_c5 (pB7_w w) hv3 (Nat.le_of_ble_eq_true rfl)
  have k6 := fun u w => colK u [pB7 w] ⟨akH, .slice none 0 0, []⟩ 0 _ fn_c6 (pB7_w w) akH_w (Nat.le_of_ble_eq_true rfl)
  have k7 := fun u w v => colK u [pB7 w] ⟨fvH 0 false, v, fvB⟩ (-1) _ fn_c7 (pB7_w w) hv0 (Nat.le_of_ble_eq_true rfl)
  dsimp only [badR] at k1 k2 k3 k4 k5 k6 k7
  have x1 := fun u w => expS_fn u [pB7 w] 500001 0 1 [] fn_x1.1 fn_x1.2.1 fn_x1.2.2 (pB7_w w)
  have x2 := fun u w => expS_fn u [pB7 w] 500000 0 0 [⟨fvH 0 true, 2, [1, 2, 3, 4], 0⟩] fn_x2.1 fn_x2.2.1 fn_x2.2.2 (pB7_w w)
  have cc := fun v w => ccheck_fn v [pB7 w, pB7 w] (pBB7_w w)
  dsimp only [List.map, Pa.z] at cc
  rw [fn_ch] at cc
  refine Ct_intro Try.func4 rfl Try.ntmps4 (by simp) _ rfl (fun w0 O0 => ?_)
  refine W_ent (ψ := Rw 43 (.slice none 0 0) ([] : List Pa).length (fun i => (([] : List Pa).getD i p0_).cells)) ent_nilRw ?_
  refine W_ent ent_bd0 ?_
  repeat (first | refine n1 ?_ | refine n2 (fun b _ => ?_) | refine n3 (fun _ _ => ?_) | refine n4 ?_ | refine n5 ?_ | refine WL_nil ?_ | refine W_seq ?_ | refine W_region ?_ | refine n7 ?_ | refine n8 ?_ | refine W_block ?_ | refine W_skip ?_ | refine W_ret ?_ | refine W_exit ?_ | refine WQ_then ?_ | refine WQ_then_ret ?_ | refine WQ_then_exit ?_ | refine WQ_block_normal ?_ | refine WQ_block_ret ?_ | refine WQ_block_exit ?_ | refine n9 ?_)
  (apply WL_effs; exact rfl; exact rfl; exact rfl; apply E_call; exact rfl; (intro _ _; simp); exact five_fn; (repeat (first | exact AllE.nil _ | (apply AllE.cons; (focus (first | exact ent_nilBy | exact ent_nilSl | (apply Ent.mem; repeat' (first | exact mcs | apply mct))))))); (intro _; exact rfl); (intro _; exact rfl))
  intro y _
  repeat (first | refine n1 ?_ | refine n2 (fun b _ => ?_) | refine n3 (fun _ _ => ?_) | refine n4 ?_ | refine n5 ?_ | refine WL_nil ?_ | refine W_seq ?_ | refine W_region ?_ | refine n7 ?_ | refine n8 ?_ | refine W_block ?_ | refine W_skip ?_ | refine W_ret ?_ | refine W_exit ?_ | refine WQ_then ?_ | refine WQ_then_ret ?_ | refine WQ_then_exit ?_ | refine WQ_block_normal ?_ | refine WQ_block_ret ?_ | refine WQ_block_exit ?_ | refine n9 ?_)
  (apply WL_effs; exact rfl; exact rfl; exact rfl; apply E_call; exact rfl; (intro _ _; simp); exact ct0 y; (repeat (first | exact AllE.nil _ | (apply AllE.cons; (focus (first | exact ent_nilBy | exact ent_nilSl | (apply Ent.mem; repeat' (first | exact mcs | apply mct))))))); (intro _; exact rfl); (intro _; exact rfl))
  rintro ⟨o0, D0⟩ _
  dsimp only
  repeat (first | refine n1 ?_ | refine n2 (fun b _ => ?_) | refine n3 (fun _ _ => ?_) | refine n4 ?_ | refine n5 ?_ | refine WL_nil ?_ | refine W_seq ?_ | refine W_region ?_ | refine n7 ?_ | refine n8 ?_ | refine W_block ?_ | refine W_skip ?_ | refine W_ret ?_ | refine W_exit ?_ | refine WQ_then ?_ | refine WQ_then_ret ?_ | refine WQ_then_exit ?_ | refine WQ_block_normal ?_ | refine WQ_block_ret ?_ | refine WQ_block_exit ?_ | refine n9 ?_)
  refine WL_effs rfl rfl rfl (Effs.tellB (bs := z7 17) (E_make (n := 17) (c := 17) (us := (z7 17).map bcell) rfl rfl rfl rfl (Nat.le_refl _) rfl rfl rfl rfl (Nat.le_of_ble_eq_true rfl) (by omega) (z7_take 17)) rfl) (fun vA _ => ?_)
  repeat (first | refine n1 ?_ | refine n2 (fun b _ => ?_) | refine n3 (fun _ _ => ?_) | refine n4 ?_ | refine n5 ?_ | refine WL_nil ?_ | refine W_seq ?_ | refine W_region ?_ | refine n7 ?_ | refine n8 ?_ | refine W_block ?_ | refine W_skip ?_ | refine W_ret ?_ | refine W_exit ?_ | refine WQ_then ?_ | refine WQ_then_ret ?_ | refine WQ_then_exit ?_ | refine WQ_block_normal ?_ | refine WQ_block_ret ?_ | refine WQ_block_exit ?_ | refine n9 ?_)
  (apply WL_effs; exact rfl; exact rfl; exact rfl; apply E_call; exact rfl; (intro _ _; simp); exact ctA vA; (repeat (first | exact AllE.nil _ | (apply AllE.cons; (focus (first | exact ent_nilBy | exact ent_nilSl | (apply Ent.mem; repeat' (first | exact mcs | apply mct))))))); (intro _; exact rfl); (intro _; exact rfl))
  rintro ⟨o1, D1⟩ _
  dsimp only
  repeat (first | refine n1 ?_ | refine n2 (fun b _ => ?_) | refine n3 (fun _ _ => ?_) | refine n4 ?_ | refine n5 ?_ | refine WL_nil ?_ | refine W_seq ?_ | refine W_region ?_ | refine n7 ?_ | refine n8 ?_ | refine W_block ?_ | refine W_skip ?_ | refine W_ret ?_ | refine W_exit ?_ | refine WQ_then ?_ | refine WQ_then_ret ?_ | refine WQ_then_exit ?_ | refine WQ_block_normal ?_ | refine WQ_block_ret ?_ | refine WQ_block_exit ?_ | refine n9 ?_)
  (apply WL_effs; exact rfl; exact rfl; exact rfl; apply E_call; exact rfl; (intro _ _; simp); exact ctB vA; (repeat (first | exact AllE.nil _ | (apply AllE.cons; (focus (first | exact ent_nilBy | exact ent_nilSl | (apply Ent.mem; repeat' (first | exact mcs | apply mct))))))); (intro _; exact rfl); (intro _; exact rfl))
  rintro ⟨o2, D2⟩ hD2
  replace hD2 : D2.length = 9 := by
    have h : D2.map Fmz = cutL (fvH 0 false) (z7 17) 2 := hD2
    rw [← fn_cutB.2, ← h, List.length_map]
  dsimp only
  repeat (first | refine n1 ?_ | refine n2 (fun b _ => ?_) | refine n3 (fun _ _ => ?_) | refine n4 ?_ | refine n5 ?_ | refine WL_nil ?_ | refine W_seq ?_ | refine W_region ?_ | refine n7 ?_ | refine n8 ?_ | refine W_block ?_ | refine W_skip ?_ | refine W_ret ?_ | refine W_exit ?_ | refine WQ_then ?_ | refine WQ_then_ret ?_ | refine WQ_then_exit ?_ | refine WQ_block_normal ?_ | refine WQ_block_ret ?_ | refine WQ_block_exit ?_ | refine n9 ?_)
  (apply WL_effs; exact rfl; exact rfl; exact rfl; apply E_call; exact rfl; (intro _ _; simp); exact ctG y; (repeat (first | exact AllE.nil _ | (apply AllE.cons; (focus (first | exact ent_nilBy | exact ent_nilSl | (apply Ent.mem; repeat' (first | exact mcs | apply mct))))))); (intro _; exact rfl); (intro _; exact rfl))
  rintro ⟨o3, D3⟩ _
  dsimp only
  repeat (first | refine n1 ?_ | refine n2 (fun b _ => ?_) | refine n3 (fun _ _ => ?_) | refine n4 ?_ | refine n5 ?_ | refine WL_nil ?_ | refine W_seq ?_ | refine W_region ?_ | refine n7 ?_ | refine n8 ?_ | refine W_block ?_ | refine W_skip ?_ | refine W_ret ?_ | refine W_exit ?_ | refine WQ_then ?_ | refine WQ_then_ret ?_ | refine WQ_then_exit ?_ | refine WQ_block_normal ?_ | refine WQ_block_ret ?_ | refine WQ_block_exit ?_ | refine n9 ?_)
  refine WL_effs rfl rfl rfl (Effs.tellB (bs := z7 2305) (E_make (n := 2305) (c := 2305) (us := (z7 2305).map bcell) rfl rfl rfl rfl (Nat.le_refl _) rfl rfl rfl rfl (Nat.le_of_ble_eq_true rfl) (by omega) (z7_take 2305)) rfl) (fun vL _ => ?_)
  repeat (first | refine n1 ?_ | refine n2 (fun b _ => ?_) | refine n3 (fun _ _ => ?_) | refine n4 ?_ | refine n5 ?_ | refine WL_nil ?_ | refine W_seq ?_ | refine W_region ?_ | refine n7 ?_ | refine n8 ?_ | refine W_block ?_ | refine W_skip ?_ | refine W_ret ?_ | refine W_exit ?_ | refine WQ_then ?_ | refine WQ_then_ret ?_ | refine WQ_then_exit ?_ | refine WQ_block_normal ?_ | refine WQ_block_ret ?_ | refine WQ_block_exit ?_ | refine n9 ?_)
  (apply WL_effs; exact rfl; exact rfl; exact rfl; apply E_call; exact rfl; (intro _ _; simp); exact ctL vL; (repeat (first | exact AllE.nil _ | (apply AllE.cons; (focus (first | exact ent_nilBy | exact ent_nilSl | (apply Ent.mem; repeat' (first | exact mcs | apply mct))))))); (intro _; exact rfl); (intro _; exact rfl))
  rintro ⟨o4, D4⟩ _
  dsimp only
  repeat (first | refine n1 ?_ | refine n2 (fun b _ => ?_) | refine n3 (fun _ _ => ?_) | refine n4 ?_ | refine n5 ?_ | refine WL_nil ?_ | refine W_seq ?_ | refine W_region ?_ | refine n7 ?_ | refine n8 ?_ | refine W_block ?_ | refine W_skip ?_ | refine W_ret ?_ | refine W_exit ?_ | refine WQ_then ?_ | refine WQ_then_ret ?_ | refine WQ_then_exit ?_ | refine WQ_block_normal ?_ | refine WQ_block_ret ?_ | refine WQ_block_exit ?_ | refine n9 ?_)
  (apply WL_effs; exact rfl; exact rfl; exact rfl; apply E_call; exact rfl; (intro _ _; simp); exact ct y; (repeat (first | exact AllE.nil _ | (apply AllE.cons; (focus (first | exact ent_nilBy | exact ent_nilSl | (apply Ent.mem; repeat' (first | exact mcs | apply mct))))))); (intro _; exact rfl); (intro _; exact rfl))
  rintro ⟨o, D⟩ hD
  replace hD : D.map Fmz = [(fvH 0 true, [1, 2]), (fvH 1 true, [3, 4]), (fvH 2 false, [5])] := hD
  obtain ⟨v0, v1, v2, rfl⟩ := map3 hD
  dsimp only
  refine WL_ent (ent_rw3 (a := fv0 v0) (b := fv1 v1) (c := fv2 v2) (by (focus (repeat' (first | exact mcs | apply mct))))) ?_
  refine WL_ent (ent_bf (p := fv0 v0) (by (focus (repeat' (first | exact mcs | apply mct)))) (by simp [fv0])) ?_
  refine WL_ent (ent_bf (p := fv1 v1) (by (focus (repeat' (first | exact mcs | apply mct)))) (by simp [fv1])) ?_
  refine WL_ent (ent_bf (p := fv2 v2) (by (focus (repeat' (first | exact mcs | apply mct)))) (by simp [fv2])) ?_
  repeat (first | refine n1 ?_ | refine n2 (fun b _ => ?_) | refine n3 (fun _ _ => ?_) | refine n4 ?_ | refine n5 ?_ | refine WL_nil ?_ | refine W_seq ?_ | refine W_region ?_ | refine n7 ?_ | refine n8 ?_ | refine W_block ?_ | refine W_skip ?_ | refine W_ret ?_ | refine W_exit ?_ | refine WQ_then ?_ | refine WQ_then_ret ?_ | refine WQ_then_exit ?_ | refine WQ_block_normal ?_ | refine WQ_block_ret ?_ | refine WQ_block_exit ?_ | refine n9 ?_)
  (apply WL_effs; exact rfl; exact rfl; exact rfl; apply E_call; exact rfl; (intro _ _; simp); exact k1 v1; (repeat (first | exact AllE.nil _ | (apply AllE.cons; (focus (first | exact ent_nilBy | exact ent_nilSl | (apply Ent.mem; repeat' (first | exact mcs | apply mct))))))); (intro _; exact rfl); (intro _; exact rfl))
  rintro ⟨_, _, _⟩ _
  dsimp only
  repeat (first | refine n1 ?_ | refine n2 (fun b _ => ?_) | refine n3 (fun _ _ => ?_) | refine n4 ?_ | refine n5 ?_ | refine WL_nil ?_ | refine W_seq ?_ | refine W_region ?_ | refine n7 ?_ | refine n8 ?_ | refine W_block ?_ | refine W_skip ?_ | refine W_ret ?_ | refine W_exit ?_ | refine WQ_then ?_ | refine WQ_then_ret ?_ | refine WQ_then_exit ?_ | refine WQ_block_normal ?_ | refine WQ_block_ret ?_ | refine WQ_block_exit ?_ | refine n9 ?_)
  (apply WL_effs; exact rfl; exact rfl; exact rfl; apply E_call; exact rfl; (intro _ _; simp); exact k2 v0; (repeat (first | exact AllE.nil _ | (apply AllE.cons; (focus (first | exact ent_nilBy | exact ent_nilSl | (apply Ent.mem; repeat' (first | exact mcs | apply mct))))))); (intro _; exact rfl); (intro _; exact rfl))
  rintro ⟨x0, u1, L1⟩ hL
  obtain ⟨w1, rfl⟩ := map1P hL
  dsimp only
  repeat (first | refine n1 ?_ | refine n2 (fun b _ => ?_) | refine n3 (fun _ _ => ?_) | refine n4 ?_ | refine n5 ?_ | refine WL_nil ?_ | refine W_seq ?_ | refine W_region ?_ | refine n7 ?_ | refine n8 ?_ | refine W_block ?_ | refine W_skip ?_ | refine W_ret ?_ | refine W_exit ?_ | refine WQ_then ?_ | refine WQ_then_ret ?_ | refine WQ_then_exit ?_ | refine WQ_block_normal ?_ | refine WQ_block_ret ?_ | refine WQ_block_exit ?_ | refine n9 ?_)
  (refine W_regionP' [4, 12, 14] [10, 11] [0, 1, 2, 3, 4, 5, 6, 7, 8, 9, 10, 11, 12, 13, 14, 15] [] (by kernel_rfl) (by kernel_rfl) (by repeat (first | exact UZ.nil _ _ | (apply UZ.cons; exact rfl; (intro _; exact rfl)))) (by exact rfl) (by (repeat (first | exact SubO.nil _ | (apply SubO.cons; (focus (repeat' (first | exact Pick.head _ _ | apply Pick.tail))))))) ?_)
  repeat (first | refine p1 ?_ | refine p2 (fun b _ => ?_) | refine p3 (fun _ _ => ?_) | refine p4 ?_ | refine p5 ?_ | refine p7 (fun b => ?_) | refine PL_nil ?_)
  (apply PL_effs; exact rfl; exact rfl; exact rfl; exact rfl; exact rfl; apply E_call; exact rfl; (intro _ _; simp); exact k3 u1 w1 v1; (repeat (first | exact AllE.nil _ | (apply AllE.cons; (focus (first | exact ent_nilBy | exact ent_nilSl | (apply Ent.mem; repeat' (first | exact mcs | apply mct))))))); (intro _; exact rfl); (intro _; exact rfl); (intro _; (repeat (first | exact SubO.nil _ | (apply SubO.cons; (focus (repeat' (first | exact Pick.head _ _ | apply Pick.tail))))))))
  rintro ⟨x3, u2, L2⟩ hL2
  obtain ⟨w2, rfl⟩ := map1P hL2
  dsimp only
  repeat (first | refine p1 ?_ | refine p2 (fun b _ => ?_) | refine p3 (fun _ _ => ?_) | refine p4 ?_ | refine p5 ?_ | refine p7 (fun b => ?_) | refine PL_nil ?_)
  repeat (first | refine n1 ?_ | refine n2 (fun b _ => ?_) | refine n3 (fun _ _ => ?_) | refine n4 ?_ | refine n5 ?_ | refine WL_nil ?_ | refine W_seq ?_ | refine W_region ?_ | refine n7 ?_ | refine n8 ?_ | refine W_block ?_ | refine W_skip ?_ | refine W_ret ?_ | refine W_exit ?_ | refine WQ_then ?_ | refine WQ_then_ret ?_ | refine WQ_then_exit ?_ | refine WQ_block_normal ?_ | refine WQ_block_ret ?_ | refine WQ_block_exit ?_ | refine n9 ?_)
  (refine W_regionP' [4, 12, 14] [10, 11] [0, 1, 2, 3, 4, 5, 6, 7, 8, 9, 10, 11, 12, 13, 14, 15] [] (by kernel_rfl) (by kernel_rfl) (by repeat (first | exact UZ.nil _ _ | (apply UZ.cons; exact rfl; (intro _; exact rfl)))) (by exact rfl) (by (repeat (first | exact SubO.nil _ | (apply SubO.cons; (focus (repeat' (first | exact Pick.head _ _ | apply Pick.tail))))))) ?_)
  repeat (first | refine p1 ?_ | refine p2 (fun b _ => ?_) | refine p3 (fun _ _ => ?_) | refine p4 ?_ | refine p5 ?_ | refine p7 (fun b => ?_) | refine PL_nil ?_)
  (apply PL_effs; exact rfl; exact rfl; exact rfl; exact rfl; exact rfl; apply E_call; exact rfl; (intro _ _; simp); exact k4 u2 w2 v1; (repeat (first | exact AllE.nil _ | (apply AllE.cons; (focus (first | exact ent_nilBy | exact ent_nilSl | (apply Ent.mem; repeat' (first | exact mcs | apply mct))))))); (intro _; exact rfl); (intro _; exact rfl); (intro _; (repeat (first | exact SubO.nil _ | (apply SubO.cons; (focus (repeat' (first | exact Pick.head _ _ | apply Pick.tail))))))))
  rintro ⟨_, _, _⟩ _
  dsimp only
  repeat (first | refine p1 ?_ | refine p2 (fun b _ => ?_) | refine p3 (fun _ _ => ?_) | refine p4 ?_ | refine p5 ?_ | refine p7 (fun b => ?_) | refine PL_nil ?_)
  repeat (first | refine n1 ?_ | refine n2 (fun b _ => ?_) | refine n3 (fun _ _ => ?_) | refine n4 ?_ | refine n5 ?_ | refine WL_nil ?_ | refine W_seq ?_ | refine W_region ?_ | refine n7 ?_ | refine n8 ?_ | refine W_block ?_ | refine W_skip ?_ | refine W_ret ?_ | refine W_exit ?_ | refine WQ_then ?_ | refine WQ_then_ret ?_ | refine WQ_then_exit ?_ | refine WQ_block_normal ?_ | refine WQ_block_ret ?_ | refine WQ_block_exit ?_ | refine n9 ?_)
  (refine W_regionP' [4, 12, 14] [10, 11] [0, 1, 2, 3, 4, 5, 6, 7, 8, 9, 10, 11, 12, 13, 14, 15] [] (by kernel_rfl) (by kernel_rfl) (by repeat (first | exact UZ.nil _ _ | (apply UZ.cons; exact rfl; (intro _; exact rfl)))) (by exact rfl) (by (repeat (first | exact SubO.nil _ | (apply SubO.cons; (focus (repeat' (first | exact Pick.head _ _ | apply Pick.tail))))))) ?_)
  repeat (first | refine p1 ?_ | refine p2 (fun b _ => ?_) | refine p3 (fun _ _ => ?_) | refine p4 ?_ | refine p5 ?_ | refine p7 (fun b => ?_) | refine PL_nil ?_)
  (apply PL_effs; exact rfl; exact rfl; exact rfl; exact rfl; exact rfl; apply E_call; exact rfl; (intro _ _; simp); exact k5 u2 w2 v2; (repeat (first | exact AllE.nil _ | (apply AllE.cons; (focus (first | exact ent_nilBy | exact ent_nilSl | (apply Ent.mem; repeat' (first | exact mcs | apply mct))))))); (intro _; exact rfl); (intro _; exact rfl); (intro _; (repeat (first | exact SubO.nil _ | (apply SubO.cons; (focus (repeat' (first | exact Pick.head _ _ | apply Pick.tail))))))))
  rintro ⟨_, _, _⟩ _
  dsimp only
  repeat (first | refine p1 ?_ | refine p2 (fun b _ => ?_) | refine p3 (fun _ _ => ?_) | refine p4 ?_ | refine p5 ?_ | refine p7 (fun b => ?_) | refine PL_nil ?_)
  repeat (first | refine n1 ?_ | refine n2 (fun b _ => ?_) | refine n3 (fun _ _ => ?_) | refine n4 ?_ | refine n5 ?_ | refine WL_nil ?_ | refine W_seq ?_ | refine W_region ?_ | refine n7 ?_ | refine n8 ?_ | refine W_block ?_ | refine W_skip ?_ | refine W_ret ?_ | refine W_exit ?_ | refine WQ_then ?_ | refine WQ_then_ret ?_ | refine WQ_then_exit ?_ | refine WQ_block_normal ?_ | refine WQ_block_ret ?_ | refine WQ_block_exit ?_ | refine n9 ?_)
  (apply WL_effs; exact rfl; exact rfl; exact rfl; apply E_call; exact rfl; (intro _ _; simp); exact x1 u2 w2; (repeat (first | exact AllE.nil _ | (apply AllE.cons; (focus (first | exact ent_nilBy | exact ent_nilSl | (apply Ent.mem; repeat' (first | exact mcs | apply mct))))))); (intro _; exact rfl); (intro _; exact rfl))
  rintro ⟨_, _⟩ _
  dsimp only
  repeat (first | refine n1 ?_ | refine n2 (fun b _ => ?_) | refine n3 (fun _ _ => ?_) | refine n4 ?_ | refine n5 ?_ | refine WL_nil ?_ | refine W_seq ?_ | refine W_region ?_ | refine n7 ?_ | refine n8 ?_ | refine W_block ?_ | refine W_skip ?_ | refine W_ret ?_ | refine W_exit ?_ | refine WQ_then ?_ | refine WQ_then_ret ?_ | refine WQ_then_exit ?_ | refine WQ_block_normal ?_ | refine WQ_block_ret ?_ | refine WQ_block_exit ?_ | refine n9 ?_)
  (apply WL_effs; exact rfl; exact rfl; exact rfl; apply E_call; exact rfl; (intro _ _; simp); exact x2 u2 w2; (repeat (first | exact AllE.nil _ | (apply AllE.cons; (focus (first | exact ent_nilBy | exact ent_nilSl | (apply Ent.mem; repeat' (first | exact mcs | apply mct))))))); (intro _; exact rfl); (intro _; exact rfl))
  rintro ⟨_, _⟩ _
  dsimp only
  refine WL_ent (ψ := By (.slice none 0 0) []) ent_nilBy ?_
  repeat (first | refine n1 ?_ | refine n2 (fun b _ => ?_) | refine n3 (fun _ _ => ?_) | refine n4 ?_ | refine n5 ?_ | refine WL_nil ?_ | refine W_seq ?_ | refine W_region ?_ | refine n7 ?_ | refine n8 ?_ | refine W_block ?_ | refine W_skip ?_ | refine W_ret ?_ | refine W_exit ?_ | refine WQ_then ?_ | refine WQ_then_ret ?_ | refine WQ_then_exit ?_ | refine WQ_block_normal ?_ | refine WQ_block_ret ?_ | refine WQ_block_exit ?_ | refine n9 ?_)
  (apply WL_effs; exact rfl; exact rfl; exact rfl; apply E_call; exact rfl; (intro _ _; simp); exact k6 u2 w2; (repeat (first | exact AllE.nil _ | (apply AllE.cons; (focus (first | exact ent_nilBy | exact ent_nilSl | (apply Ent.mem; repeat' (first | exact mcs | apply mct))))))); (intro _; exact rfl); (intro _; exact rfl))
  rintro ⟨_, _, _⟩ _
  dsimp only
  repeat (first | refine n1 ?_ | refine n2 (fun b _ => ?_) | refine n3 (fun _ _ => ?_) | refine n4 ?_ | refine n5 ?_ | refine WL_nil ?_ | refine W_seq ?_ | refine W_region ?_ | refine n7 ?_ | refine n8 ?_ | refine W_block ?_ | refine W_skip ?_ | refine W_ret ?_ | refine W_exit ?_ | refine WQ_then ?_ | refine WQ_then_ret ?_ | refine WQ_then_exit ?_ | refine WQ_block_normal ?_ | refine WQ_block_ret ?_ | refine WQ_block_exit ?_ | refine n9 ?_)
  (apply WL_effs; exact rfl; exact rfl; exact rfl; apply E_call; exact rfl; (intro _ _; simp); exact k7 u2 w2 y; (repeat (first | exact AllE.nil _ | (apply AllE.cons; (focus (first | exact ent_nilBy | exact ent_nilSl | (apply Ent.mem; repeat' (first | exact mcs | apply mct))))))); (intro _; exact rfl); (intro _; exact rfl))
  rintro ⟨_, _, _⟩ _
  dsimp only
  repeat (first | refine n1 ?_ | refine n2 (fun b _ => ?_) | refine n3 (fun _ _ => ?_) | refine n4 ?_ | refine n5 ?_ | refine WL_nil ?_ | refine W_seq ?_ | refine W_region ?_ | refine n7 ?_ | refine n8 ?_ | refine W_block ?_ | refine W_skip ?_ | refine W_ret ?_ | refine W_exit ?_ | refine WQ_then ?_ | refine WQ_then_ret ?_ | refine WQ_then_exit ?_ | refine WQ_block_normal ?_ | refine WQ_block_ret ?_ | refine WQ_block_exit ?_ | refine n9 ?_)
  refine W_pure (bd_one (l := [pB7 w2]) (by repeat' (first | exact mcs | apply mct))) fun ho => ?_
  refine W_ent (ent_rwG (S := 43) (l := [pB7 w2]) (cf := Pa.cells) pa_len (by decide) p0_ (by (focus (repeat' (first | exact mcs | apply mct))))) ?_
  refine W_ent (ent_bdSub (l := [pB7 w2]) (m := [pB7 w2, pB7 w2]) (by (focus (repeat' (first | exact mcs | apply mct)))) (fun p hp => by
    rcases List.mem_cons.1 hp with rfl | hp
    · exact List.mem_cons_self
    · exact hp)) ?_
  have cc2 := fun v => cc v w2
  (refine W_regionP' [0, 3, 6] [] [1, 2, 4, 5, 0, 3, 6, 7, 8, 9] [] (by kernel_rfl) (by kernel_rfl) (by repeat (first | exact UZ.nil _ _ | (apply UZ.cons; exact rfl; (intro _; exact rfl)))) (by exact rfl) (by (repeat (first | exact SubO.nil _ | (apply SubO.cons; (focus (repeat' (first | exact Pick.head _ _ | apply Pick.tail))))))) ?_)
  repeat (first | refine p1 ?_ | refine p2 (fun b _ => ?_) | refine p3 (fun _ _ => ?_) | refine p4 ?_ | refine p5 ?_ | refine p7 (fun b => ?_) | refine PL_nil ?_)
  (apply PL_effs; exact rfl; exact rfl; exact rfl; exact rfl; exact rfl; (apply E_buildSlice; exact rfl; (focus (repeat (first | apply SeqE.nil | (apply SeqE.cons; exact rfl; (focus (first | (apply CellsE.lit; exact rfl) | (apply CellsE.one; (first | (apply OneC.lit; exact rfl) | (apply OneC.by_; (repeat' (first | exact mcs | apply mct)); done) | (apply OneC.sl; (repeat' (first | exact mcs | apply mct)); done) | (apply OneC.rw; (repeat' (first | exact mcs | apply mct)); done) | (apply OneC.row; (repeat' (first | exact Pick.head _ _ | apply Pick.tail))))))); exact rfl) | exact rfl))); exact rfl; (first | (intro _; exact (rfl : _ = Result.ok 1 _)) | (intro _; exact (rfl : _ = Result.ok 2 _)) | (intro _; exact (rfl : _ = Result.ok 3 _)) | (intro _; exact (rfl : _ = Result.ok 4 _)) | (intro _; exact (rfl : _ = Result.ok 5 _)) | (intro _; exact (rfl : _ = Result.ok 6 _)) | (intro _; exact (rfl : _ = Result.ok 7 _)) | (intro _; exact (rfl : _ = Result.ok 8 _)) | (intro _; exact (rfl : _ = Result.ok 9 _)) | (intro _; exact (rfl : _ = Result.ok 13 _)) | (intro _; exact (rfl : _ = Result.ok 14 _)) | (intro _; exact (rfl : _ = Result.ok 26 _)) | (intro _; exact (rfl : _ = Result.ok 40 _)) | (intro _; exact (rfl : _ = Result.ok 41 _)) | (intro _; exact (rfl : _ = Result.ok 42 _)) | (intro _; exact (rfl : _ = Result.ok 43 _)) | (intro _; exact (rfl : _ = Result.ok 44 _)) | (intro _; exact (rfl : _ = Result.ok 45 _)) | (intro _; exact (rfl : _ = Result.ok 46 _))); (intro _; exact rfl); exact rfl; exact Nat.le_of_ble_eq_true rfl; exact Nat.le_of_ble_eq_true rfl); (intro _; (repeat (first | exact SubO.nil _ | (apply SubO.cons; (focus (repeat' (first | exact Pick.head _ _ | apply Pick.tail))))))); skip)
  intro e1 _
  refine PL_effs rfl rfl rfl rfl rfl (E_append (size := 43) (n := 0) (m := [pB7 w2].length) (nm := [pB7 w2].length) (xs := []) (news := fcP [pB7 w2]) (all := fcP [pB7 w2]) rfl rfl (by repeat' (first | exact Pick.head _ _ | apply Pick.tail)) (by (focus (repeat' (first | exact mcs | apply mct)))) rfl rfl rfl rfl rfl (Nat.le_of_ble_eq_true rfl) (fcP_one ho) (Nat.le_of_ble_eq_true rfl) (Nat.le_of_ble_eq_true rfl) rfl rfl) (fun _ => by (first | ((repeat (first | exact SubO.nil _ | (apply SubO.cons; (focus (repeat' (first | exact Pick.head _ _ | apply Pick.tail)))))); done) | fail)) ?_
  intro e2 _
  refine PL_effs rfl rfl rfl rfl rfl (Effs.tellP [pB7 w2, pB7 w2] (E_append (size := 43) (n := [pB7 w2].length) (m := [pB7 w2].length) (nm := [pB7 w2, pB7 w2].length) (xs := fcP [pB7 w2]) (news := fcP [pB7 w2]) (all := fcP [pB7 w2, pB7 w2]) rfl rfl (by repeat' (first | exact Pick.head _ _ | apply Pick.tail)) (by (focus (repeat' (first | exact mcs | apply mct)))) rfl rfl rfl rfl rfl (Nat.le_of_ble_eq_true rfl) (fcP_one ho) (Nat.le_of_ble_eq_true rfl) (Nat.le_of_ble_eq_true rfl) rfl rfl)) (fun _ => by (first | ((repeat (first | exact SubO.nil _ | (apply SubO.cons; (focus (repeat' (first | exact Pick.head _ _ | apply Pick.tail)))))); done) | fail)) ?_
  intro e3 _
  repeat (first | refine p1 ?_ | refine p2 (fun b _ => ?_) | refine p3 (fun _ _ => ?_) | refine p4 ?_ | refine p5 ?_ | refine p6 (cc2 e3) ?_ | refine p6v (cc2 e3) ?_ | refine p7 (fun b => ?_) | refine PL_nil ?_)
  repeat (first | refine n1 ?_ | refine n2 (fun b _ => ?_) | refine n3 (fun _ _ => ?_) | refine n4 ?_ | refine n5 ?_ | refine n6 (hal) ?_ | refine n6v (hal) ?_ | refine WL_nil ?_ | refine W_seq ?_ | refine W_region ?_ | refine n7 ?_ | refine n8 ?_ | refine W_block ?_ | refine W_skip ?_ | refine W_ret ?_ | refine W_exit ?_ | refine WQ_then ?_ | refine WQ_then_ret ?_ | refine WQ_then_exit ?_ | refine WQ_block_normal ?_ | refine WQ_block_ret ?_ | refine WQ_block_exit ?_ | refine n9 ?_)
  ((apply ret1 Try.results4 ( ())); (focus (first | trivial | assumption | omega)); (focus (first | exact RV_tmp rfl | (apply RV_cellN; exact rfl; (repeat' (first | exact Pick.head _ _ | apply Pick.tail)); (intro _; exact rfl); (intro _; exact rfl); exact rfl) | (apply RV_cell1; exact rfl; (repeat' (first | exact Pick.head _ _ | apply Pick.tail)); (intro _; exact rfl); exact rfl)));  (focus (first | exact rfl | (simp; done))); (focus (repeat (first | exact SubO.nil _ | (apply SubO.cons; (focus (repeat' (first | exact Pick.head _ _ | apply Pick.tail))))))); (focus (repeat (first | exact AllE.nil _ | (apply AllE.cons; (focus (first | exact ent_nilBy | exact ent_nilSl | (apply Ent.mem; repeat' (first | exact mcs | apply mct)))))))))
end Go.Proofs.Ytglmcnjkcmbefaa
