/-
  Packets packed by the reference; lists that are too large.
-/
import Derived.Test.YtdhbgolbfkejcaaDoorVMe
namespace Go.Proofs.YtdhbgolbfkejcaaDoor
open Go Go.RowKit Go.Hs C01 C08
theorem pj_snoc (e : List UInt8) : ∀ (es : List (List UInt8)), pj (es ++ [e]) = pj es ++ (e ++ zer (pad4 e.length))
  | [] => by simp [pj]
  | x :: es => by rw [List.cons_append, pj, pj_snoc e es, pj]; simp only [List.append_assoc]
theorem take_nextB {fs : List (List UInt8)} {x : Nat} (h : x < fs.length) : fs.take (x + 1) = fs.take x ++ [fs.getD x []] := by
  rw [List.take_succ_eq_append_getElem h, List.getD_eq_getElem?_getD, List.getElem?_eq_getElem h]; rfl
/-- what stands when i entries are written. -/
def pdx (fs : List (List UInt8)) (i : Nat) : List UInt8 := if i < fs.length then pj (fs.take i) else jg fs
theorem pdx_last {fs : List (List UInt8)} {i : Nat} (h : i + 1 = fs.length) : pj (fs.take i) ++ fs.getD i [] = jg fs := by
  have e : fs = fs.take i ++ [fs.getD i []] := by
    rw [← take_nextB (by omega), h, List.take_length]
  conv => rhs; rw [e]
  rw [jg_split, jg_one]
theorem pj_le {fs : List (List UInt8)} (h : ∀ i, i < fs.length → (fs.getD i []).length ≤ 100000) : ∀ i, i ≤ fs.length → (pj (fs.take i)).length ≤ 100003 * i
  | 0, _ => by simp [pj]
  | i + 1, hi => by
    rw [take_nextB (by omega), pj_snoc, List.length_append, List.length_append, zer_length]
    have := pj_le h i (by omega)
    have := h i (by omega)
    have := pad4_lt (fs.getD i []).length
    omega
attribute [local irreducible] WL W WQ PL Runs Effs AllE Ent SubO FrIn Pick OneC Ones CellsE PartsE SeqE UZ By Sl Pt Ct

set_option maxRecDepth 100000 in
set_option maxHeartbeats 4000000 in
theorem greatK_fn (v : Value) (ps : List PK) : Ct Tryd.prog 6 [v] [] [Rw 13 v ps.length (fun i => (ps.getD i pk0).cells), Al ps.length (fun i => By (ps.getD i pk0).dv (ps.getD i pk0).data)]
    (X := Bool) (fun _ => True) (fun x => .bool x) (fun _ => []) (fun _ => []) := by
  refine Ct_intro Tryd.func6 rfl Tryd.ntmps6 (by simp) _ rfl (fun w0 O0 => ?_)
  refine W_pure (rw_le (n := ps.length) (by repeat' (first | exact mcs | apply mct))) fun hnl => ?_
  repeat (first | refine n1 ?_ | refine n2 (fun b _ => ?_) | refine n3 (fun _ _ => ?_) | refine n4 ?_ | refine n5 ?_ | refine WL_nil ?_ | refine W_seq ?_ | refine W_region ?_ | refine n7 ?_ | refine n8 ?_ | refine W_block ?_ | refine W_skip ?_ | refine W_ret ?_ | refine W_exit ?_ | refine WQ_then ?_ | refine WQ_then_ret ?_ | refine WQ_then_exit ?_ | refine WQ_block_normal ?_ | refine WQ_block_ret ?_ | refine WQ_block_exit ?_ | refine n9 ?_)
  ((apply W_loopK (X := Nat × Int) [3, 4] [] (fun x => x.1 ≤ ps.length) (fun x => [(3, .int .i64 x.2), (4, .int .i64 (x.1 : Int))]) (fun _ => []) (fun _ => []) (fun x => ps.length - x.1) ((0, 0))); (focus exact Nat.zero_le _); exact rfl; exact rfl; (intro _; exact rfl); (intro _; exact rfl); (intro _; exact rfl); (focus (repeat (first | exact FrIn.nil _ | (apply FrIn.cons; exact rfl; (first | exact rfl | (congr 1; first | omega | (dsimp only; omega)) | (simp; done)))))); (focus (repeat (first | exact SubO.nil _ | (apply SubO.cons; (focus (repeat' (first | exact Pick.head _ _ | apply Pick.tail))))))); (focus (repeat (first | exact AllE.nil _ | (apply AllE.cons; (focus (first | exact ent_nilBy | exact ent_nilSl | (apply Ent.mem; repeat' (first | exact mcs | apply mct)))))))); intro x hx)
  obtain ⟨x, n⟩ := x
  replace hx : x ≤ ps.length := hx
  dsimp only
  by_cases c1 : x < ps.length
  · refine W_ent (ent_al (i := x) (ψ := fun i => By (ps.getD i pk0).dv (ps.getD i pk0).data) (by (focus (repeat' (first | exact mcs | apply mct)))) c1) ?_
    by_cases c2 : n ≤ 8000
    · repeat (first | refine n1 ?_ | refine n2 (fun b _ => ?_) | refine n3 (fun _ _ => ?_) | refine n4 ?_ | refine n5 ?_ | refine WL_nil ?_ | refine W_seq ?_ | refine W_region ?_ | refine n7 ?_ | refine n8 ?_ | refine W_block ?_ | refine W_skip ?_ | refine W_ret ?_ | refine W_exit ?_ | refine WQ_then ?_ | refine WQ_then_ret ?_ | refine WQ_then_exit ?_ | refine WQ_block_normal ?_ | refine WQ_block_ret ?_ | refine WQ_block_exit ?_ | refine n9 ?_)
      ((apply WQ_again ((x + 1, _))); (focus exact c1); (focus (exact (show ps.length - (x + 1) < ps.length - x by omega))); (focus (repeat (first | exact FrIn.nil _ | (apply FrIn.cons; exact rfl; (first | exact rfl | (congr 1; first | omega | (dsimp only; omega)) | (simp; done)))))); (focus (repeat (first | exact SubO.nil _ | (apply SubO.cons; (focus (repeat' (first | exact Pick.head _ _ | apply Pick.tail))))))); (focus (repeat (first | exact AllE.nil _ | (apply AllE.cons; (focus (first | exact ent_nilBy | exact ent_nilSl | (apply Ent.mem; repeat' (first | exact mcs | apply mct)))))))))
    · repeat (first | refine n1 ?_ | refine n2 (fun b _ => ?_) | refine n3 (fun _ _ => ?_) | refine n4 ?_ | refine n5 ?_ | refine WL_nil ?_ | refine W_seq ?_ | refine W_region ?_ | refine n7 ?_ | refine n8 ?_ | refine W_block ?_ | refine W_skip ?_ | refine W_ret ?_ | refine W_exit ?_ | refine WQ_then ?_ | refine WQ_then_ret ?_ | refine WQ_then_exit ?_ | refine WQ_block_normal ?_ | refine WQ_block_ret ?_ | refine WQ_block_exit ?_ | refine n9 ?_)
      ((apply ret1 Tryd.results6 ( true)); (focus (first | trivial | assumption | omega)); (focus (first | exact RV_tmp rfl | (apply RV_cellN; exact rfl; (repeat' (first | exact Pick.head _ _ | apply Pick.tail)); (intro _; exact rfl); (intro _; exact rfl); exact rfl) | (apply RV_cell1; exact rfl; (repeat' (first | exact Pick.head _ _ | apply Pick.tail)); (intro _; exact rfl); exact rfl)));  (focus (first | exact rfl | (simp; done))); (focus (repeat (first | exact SubO.nil _ | (apply SubO.cons; (focus (repeat' (first | exact Pick.head _ _ | apply Pick.tail))))))); (focus (repeat (first | exact AllE.nil _ | (apply AllE.cons; (focus (first | exact ent_nilBy | exact ent_nilSl | (apply Ent.mem; repeat' (first | exact mcs | apply mct)))))))))
  · by_cases c2 : n ≤ 8000
    · repeat (first | refine n1 ?_ | refine n2 (fun b _ => ?_) | refine n3 (fun _ _ => ?_) | refine n4 ?_ | refine n5 ?_ | refine WL_nil ?_ | refine W_seq ?_ | refine W_region ?_ | refine n7 ?_ | refine n8 ?_ | refine W_block ?_ | refine W_skip ?_ | refine W_ret ?_ | refine W_exit ?_ | refine WQ_then ?_ | refine WQ_then_ret ?_ | refine WQ_then_exit ?_ | refine WQ_block_normal ?_ | refine WQ_block_ret ?_ | refine WQ_block_exit ?_ | refine n9 ?_)
      ((apply ret1 Tryd.results6 ( false)); (focus (first | trivial | assumption | omega)); (focus (first | exact RV_tmp rfl | (apply RV_cellN; exact rfl; (repeat' (first | exact Pick.head _ _ | apply Pick.tail)); (intro _; exact rfl); (intro _; exact rfl); exact rfl) | (apply RV_cell1; exact rfl; (repeat' (first | exact Pick.head _ _ | apply Pick.tail)); (intro _; exact rfl); exact rfl)));  (focus (first | exact rfl | (simp; done))); (focus (repeat (first | exact SubO.nil _ | (apply SubO.cons; (focus (repeat' (first | exact Pick.head _ _ | apply Pick.tail))))))); (focus (repeat (first | exact AllE.nil _ | (apply AllE.cons; (focus (first | exact ent_nilBy | exact ent_nilSl | (apply Ent.mem; repeat' (first | exact mcs | apply mct)))))))))
    · repeat (first | refine n1 ?_ | refine n2 (fun b _ => ?_) | refine n3 (fun _ _ => ?_) | refine n4 ?_ | refine n5 ?_ | refine WL_nil ?_ | refine W_seq ?_ | refine W_region ?_ | refine n7 ?_ | refine n8 ?_ | refine W_block ?_ | refine W_skip ?_ | refine W_ret ?_ | refine W_exit ?_ | refine WQ_then ?_ | refine WQ_then_ret ?_ | refine WQ_then_exit ?_ | refine WQ_block_normal ?_ | refine WQ_block_ret ?_ | refine WQ_block_exit ?_ | refine n9 ?_)
      ((apply ret1 Tryd.results6 ( true)); (focus (first | trivial | assumption | omega)); (focus (first | exact RV_tmp rfl | (apply RV_cellN; exact rfl; (repeat' (first | exact Pick.head _ _ | apply Pick.tail)); (intro _; exact rfl); (intro _; exact rfl); exact rfl) | (apply RV_cell1; exact rfl; (repeat' (first | exact Pick.head _ _ | apply Pick.tail)); (intro _; exact rfl); exact rfl)));  (focus (first | exact rfl | (simp; done))); (focus (repeat (first | exact SubO.nil _ | (apply SubO.cons; (focus (repeat' (first | exact Pick.head _ _ | apply Pick.tail))))))); (focus (repeat (first | exact AllE.nil _ | (apply AllE.cons; (focus (first | exact ent_nilBy | exact ent_nilSl | (apply Ent.mem; repeat' (first | exact mcs | apply mct)))))))))

set_option maxRecDepth 100000 in
set_option maxHeartbeats 4000000 in
theorem padded_fn (v : Value) (fs : List (List UInt8)) (vs : Nat → Value) (hl : fs.length ≤ 64) (hb : ∀ i, i < fs.length → (fs.getD i []).length ≤ 100000) : Ct Tryd.prog 24 [v] [] [Rw 1 v fs.length (fun i => [vs i]), Al fs.length (fun i => By (vs i) (fs.getD i []))]
    (X := Value) (fun _ => True) (fun x => x) (fun x => [.row x 5 1 (jg fs).length ((jg fs).map bcell)]) (fun _ => []) := by
  refine Ct_intro Tryd.func24 rfl Tryd.ntmps24 (by simp) _ rfl (fun w0 O0 => ?_)
  have hp0 : pdx fs 0 = [] := by
    unfold pdx
    split
    · rfl
    · rw [List.length_eq_zero_iff.1 (by omega : fs.length = 0)]; rfl
  repeat (first | refine n1 ?_ | refine n2 (fun b _ => ?_) | refine n3 (fun _ _ => ?_) | refine n4 ?_ | refine n5 ?_ | refine WL_nil ?_ | refine W_seq ?_ | refine W_region ?_ | refine n7 ?_ | refine n8 ?_ | refine W_block ?_ | refine W_skip ?_ | refine W_ret ?_ | refine W_exit ?_ | refine WQ_then ?_ | refine WQ_then_ret ?_ | refine WQ_then_exit ?_ | refine WQ_block_normal ?_ | refine WQ_block_ret ?_ | refine WQ_block_exit ?_ | refine n9 ?_)
  apply W_nilRow 5 1
  ((apply W_loopK (X := Nat × Value × List UInt8) [3, 4] [0] (fun x => x.1 ≤ fs.length ∧ x.2.2 = pdx fs x.1) (fun x => [(3, x.2.1), (4, .int .i64 (x.1 : Int))]) (fun x => [.row x.2.1 5 1 x.2.2.length (x.2.2.map bcell)]) (fun _ => []) (fun x => fs.length - x.1) ((0, .slice none 0 0, []))); (focus exact ⟨Nat.zero_le _, hp0.symm⟩); exact rfl; exact rfl; (intro _; exact rfl); (intro _; exact rfl); (intro _; exact rfl); (focus (repeat (first | exact FrIn.nil _ | (apply FrIn.cons; exact rfl; (first | exact rfl | (congr 1; first | omega | (dsimp only; omega)) | (simp; done)))))); (focus (repeat (first | exact SubO.nil _ | (apply SubO.cons; (focus (repeat' (first | exact Pick.head _ _ | apply Pick.tail))))))); (focus (repeat (first | exact AllE.nil _ | (apply AllE.cons; (focus (first | exact ent_nilBy | exact ent_nilSl | (apply Ent.mem; repeat' (first | exact mcs | apply mct)))))))); intro x hx)
  obtain ⟨i, o, xs⟩ := x
  obtain ⟨hi, hxs⟩ := hx
  replace hi : i ≤ fs.length := hi
  replace hxs : xs = pdx fs i := hxs
  dsimp only
  by_cases c1 : i < fs.length
  · have hpx : xs = pj (fs.take i) := by rw [hxs]; unfold pdx; rw [if_pos c1]
    have hle := pj_le hb i hi
    have hbi := hb i c1
    rw [← hpx] at hle
    refine W_ent (ent_al (i := i) (ψ := fun i => By (vs i) (fs.getD i [])) (by (focus (repeat' (first | exact mcs | apply mct)))) c1) ?_
    have hpa := rpadding_fn (fs.getD i []).length (by omega)
    have hpl := pad4_lt (fs.getD i []).length
    repeat (first | refine n1 ?_ | refine n2 (fun b _ => ?_) | refine n3 (fun _ _ => ?_) | refine n4 ?_ | refine n5 ?_ | refine WL_nil ?_ | refine W_seq ?_ | refine W_region ?_ | refine n7 ?_ | refine n8 ?_ | refine W_block ?_ | refine W_skip ?_ | refine W_ret ?_ | refine W_exit ?_ | refine WQ_then ?_ | refine WQ_then_ret ?_ | refine WQ_then_exit ?_ | refine WQ_block_normal ?_ | refine WQ_block_ret ?_ | refine WQ_block_exit ?_ | refine n9 ?_)
    refine WL_effs rfl rfl rfl (E_appendBy (bs := xs) (news := fs.getD i []) (nm := (xs ++ fs.getD i []).length) (all := xs ++ fs.getD i []) rfl rfl (by repeat' (first | exact Pick.head _ _ | apply Pick.tail)) (by repeat' (first | exact mcs | apply mct)) rfl rfl rfl rfl rfl rfl (Nat.le_of_ble_eq_true rfl) (by omega) (List.length_append ..).symm rfl) ?_
    intro o2 _
    by_cases c2 : i + 1 < fs.length
    · have hn : i + 1 ≤ fs.length ∧ xs ++ fs.getD i [] ++ zer (pad4 (fs.getD i []).length) = pdx fs (i + 1) := ⟨c1, by
        unfold pdx
        rw [if_pos c2, take_nextB c1, pj_snoc, ← hpx, List.append_assoc]⟩
      have e1 : (xs ++ fs.getD i [] ++ zer (pad4 (fs.getD i []).length)).length = (xs ++ fs.getD i []).length + pad4 (fs.getD i []).length := by rw [List.length_append, zer_length]
      have hb1 : (xs ++ fs.getD i []).length + pad4 (fs.getD i []).length ≤ 549755813888 := by rw [List.length_append]; omega
      repeat (first | refine n1 ?_ | refine n2 (fun b _ => ?_) | refine n3 (fun _ _ => ?_) | refine n4 ?_ | refine n5 ?_ | refine n6 (hpa) ?_ | refine n6v (hpa) ?_ | refine WL_nil ?_ | refine W_seq ?_ | refine W_region ?_ | refine n7 ?_ | refine n8 ?_ | refine W_block ?_ | refine W_skip ?_ | refine W_ret ?_ | refine W_exit ?_ | refine WQ_then ?_ | refine WQ_then_ret ?_ | refine WQ_then_exit ?_ | refine WQ_block_normal ?_ | refine WQ_block_ret ?_ | refine WQ_block_exit ?_ | refine n9 ?_)
      refine WL_effs rfl rfl rfl (E_appendZ (bs := xs ++ fs.getD i []) (k := pad4 (fs.getD i []).length) (nm := (xs ++ fs.getD i [] ++ zer (pad4 (fs.getD i []).length)).length) (all := xs ++ fs.getD i [] ++ zer (pad4 (fs.getD i []).length)) rfl rfl rfl (by repeat' (first | exact Pick.head _ _ | apply Pick.tail)) rfl rfl rfl rfl rfl rfl (Nat.le_of_ble_eq_true rfl) hb1 e1.symm rfl) ?_
      intro o3 _
      repeat (first | refine n1 ?_ | refine n2 (fun b _ => ?_) | refine n3 (fun _ _ => ?_) | refine n4 ?_ | refine n5 ?_ | refine WL_nil ?_ | refine W_seq ?_ | refine W_region ?_ | refine n7 ?_ | refine n8 ?_ | refine W_block ?_ | refine W_skip ?_ | refine W_ret ?_ | refine W_exit ?_ | refine WQ_then ?_ | refine WQ_then_ret ?_ | refine WQ_then_exit ?_ | refine WQ_block_normal ?_ | refine WQ_block_ret ?_ | refine WQ_block_exit ?_ | refine n9 ?_)
      ((apply WQ_again ((i + 1, o3, xs ++ fs.getD i [] ++ zer (pad4 (fs.getD i []).length)))); (focus exact hn); (focus (exact (show fs.length - (i + 1) < fs.length - i by omega))); (focus (repeat (first | exact FrIn.nil _ | (apply FrIn.cons; exact rfl; (first | exact rfl | (congr 1; first | omega | (dsimp only; omega)) | (simp; done)))))); (focus (repeat (first | exact SubO.nil _ | (apply SubO.cons; (focus (repeat' (first | exact Pick.head _ _ | apply Pick.tail))))))); (focus (repeat (first | exact AllE.nil _ | (apply AllE.cons; (focus (first | exact ent_nilBy | exact ent_nilSl | (apply Ent.mem; repeat' (first | exact mcs | apply mct)))))))))
    · have hn : i + 1 ≤ fs.length ∧ xs ++ fs.getD i [] = pdx fs (i + 1) := ⟨c1, by
        unfold pdx
        rw [if_neg c2, hpx, pdx_last (by omega)]⟩
      repeat (first | refine n1 ?_ | refine n2 (fun b _ => ?_) | refine n3 (fun _ _ => ?_) | refine n4 ?_ | refine n5 ?_ | refine WL_nil ?_ | refine W_seq ?_ | refine W_region ?_ | refine n7 ?_ | refine n8 ?_ | refine W_block ?_ | refine W_skip ?_ | refine W_ret ?_ | refine W_exit ?_ | refine WQ_then ?_ | refine WQ_then_ret ?_ | refine WQ_then_exit ?_ | refine WQ_block_normal ?_ | refine WQ_block_ret ?_ | refine WQ_block_exit ?_ | refine n9 ?_)
      ((apply WQ_again ((i + 1, o2, xs ++ fs.getD i []))); (focus exact hn); (focus (exact (show fs.length - (i + 1) < fs.length - i by omega))); (focus (repeat (first | exact FrIn.nil _ | (apply FrIn.cons; exact rfl; (first | exact rfl | (congr 1; first | omega | (dsimp only; omega)) | (simp; done)))))); (focus (repeat (first | exact SubO.nil _ | (apply SubO.cons; (focus (repeat' (first | exact Pick.head _ _ | apply Pick.tail))))))); (focus (repeat (first | exact AllE.nil _ | (apply AllE.cons; (focus (first | exact ent_nilBy | exact ent_nilSl | (apply Ent.mem; repeat' (first | exact mcs | apply mct)))))))))
  · have hpx : xs = jg fs := by rw [hxs]; unfold pdx; rw [if_neg c1]
    subst hpx
    repeat (first | refine n1 ?_ | refine n2 (fun b _ => ?_) | refine n3 (fun _ _ => ?_) | refine n4 ?_ | refine n5 ?_ | refine WL_nil ?_ | refine W_seq ?_ | refine W_region ?_ | refine n7 ?_ | refine n8 ?_ | refine W_block ?_ | refine W_skip ?_ | refine W_ret ?_ | refine W_exit ?_ | refine WQ_then ?_ | refine WQ_then_ret ?_ | refine WQ_then_exit ?_ | refine WQ_block_normal ?_ | refine WQ_block_ret ?_ | refine WQ_block_exit ?_ | refine n9 ?_)
    ((apply ret1 Tryd.results24 ( o)); (focus (first | trivial | assumption | omega)); (focus (first | exact RV_tmp rfl | (apply RV_cellN; exact rfl; (repeat' (first | exact Pick.head _ _ | apply Pick.tail)); (intro _; exact rfl); (intro _; exact rfl); exact rfl) | (apply RV_cell1; exact rfl; (repeat' (first | exact Pick.head _ _ | apply Pick.tail)); (intro _; exact rfl); exact rfl)));  (focus (first | exact rfl | (simp; done))); (focus (repeat (first | exact SubO.nil _ | (apply SubO.cons; (focus (repeat' (first | exact Pick.head _ _ | apply Pick.tail))))))); (focus (repeat (first | exact AllE.nil _ | (apply AllE.cons; (focus (first | exact ent_nilBy | exact ent_nilSl | (apply Ent.mem; repeat' (first | exact mcs | apply mct)))))))))
end Go.Proofs.YtdhbgolbfkejcaaDoor
