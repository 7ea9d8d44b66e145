/-
  The program's Remove.
-/
import Derived.Test.YtahkcidnmdcaaaaVFi
import Derived.Test.YtahkcidnmdcaaaaXb
namespace Go.Proofs.Ytahkcidnmdcaaaa
open Go Go.RowKit Go.Hs

def rmT : T → UInt8 → UInt8 → T
  | .nil, _, _ => .nil
  | .cons a b dv d sv s n, id, ext => if isB a b id ext then rmT n id ext else .cons a b dv d sv s (rmT n id ext)
def rmF : Fo → UInt8 → UInt8 → Fo
  | .nil, _, _ => .nil
  | .cons a b d s n, id, ext => if isB a b id ext then rmF n id ext else .cons a b d s (rmF n id ext)
theorem rmT_er : ∀ (t : T) (id ext : UInt8), (rmT t id ext).er = rmF t.er id ext
  | .nil, _, _ => rfl
  | .cons a b dv d sv s n, id, ext => by
    simp only [rmT, rmF, T.er]
    split
    · exact rmT_er n id ext
    · simp only [T.er, rmT_er n id ext]
theorem rmT_dls : ∀ (t : T) (id ext : UInt8), ∃ K, t.dls.Perm ((rmT t id ext).dls ++ K)
  | .nil, _, _ => ⟨[], .refl _⟩
  | .cons a b dv d sv s n, id, ext => by
    obtain ⟨K, hK⟩ := rmT_dls n id ext
    simp only [rmT, T.dls]
    split
    · exact ⟨(dv, d) :: K, (List.Perm.cons _ hK).trans List.perm_middle.symm⟩
    · exact ⟨K, List.Perm.cons _ hK⟩
theorem rmT_ts : ∀ {t : T} {id ext : UInt8} {w : World} {O : Nat → Prop}, t.tsP w O → (rmT t id ext).tsP w O
  | .nil, _, _, _, _, h => h
  | .cons a b dv d sv s n, id, ext, w, O, h => by
    simp only [rmT]
    split
    · exact rmT_ts h.2.2
    · exact ⟨h.1, h.2.1, rmT_ts h.2.2⟩
theorem ent_rmts {Φ : List SP} {t : T} (id ext : UInt8) (h : t.ts ∈ Φ) : Ent Φ (rmT t id ext).ts := fun _ _ hw => rmT_ts (hw _ h)
attribute [local irreducible] WL W WQ PL Runs Effs AllE Ent SubO FrIn Pick OneC Ones CellsE PartsE SeqE UZ By Sl Pt Ct
theorem rmT_none : ∀ {t : T} {id ext : UInt8}, fidx t.er id ext = none → rmT t id ext = t
  | .nil, _, _, _ => rfl
  | .cons a b dv d sv s n, id, ext, h => by
    simp only [T.er, fidx] at h
    split at h
    · cases h
    · next h0 =>
      cases hn : fidx n.er id ext with
      | some i => rw [hn] at h; cases h
      | none => simp only [rmT, if_neg h0, rmT_none hn]
theorem cells_drop : ∀ (t : T) (k : Nat), k ≤ t.len → t.cells.drop (k * 4) = (t.drop k).cells
  | _, 0, _ => by rw [Nat.zero_mul]; rfl
  | .nil, k + 1, h => by simp [T.len] at h
  | .cons _ _ _ _ _ _ n, k + 1, h => by
    rw [show (k + 1) * 4 = k * 4 + 1 + 1 + 1 + 1 by omega]
    exact cells_drop n k (by simp only [T.len] at h; omega)
theorem fidx_split : ∀ {t : T} {k : Nat} {id ext : UInt8}, fidx t.er id ext = some k → ∃ w : T, w.len = k ∧ k < t.len ∧ t.cells.take (k * 4) = w.cells ∧ w.app (rmT (t.drop (k + 1)) id ext) = rmT t id ext
  | .nil, _, _, _, h => by cases h
  | .cons a b dv d sv s n, k, id, ext, h => by
    simp only [T.er, fidx] at h
    split at h
    · next h0 =>
      injection h with h
      subst h
      exact ⟨.nil, rfl, by simp [T.len], by simp [T.cells], by simp only [rmT, if_pos h0, T.app]; rfl⟩
    · next h0 =>
      cases hn : fidx n.er id ext with
      | none => rw [hn] at h; cases h
      | some i =>
        rw [hn] at h
        injection h with h
        subst h
        obtain ⟨w, h1, h2, h3, h4⟩ := fidx_split (t := n) hn
        refine ⟨.cons a b dv d sv s w, by simp only [T.len, h1], by simp only [T.len]; omega, ?_, ?_⟩
        · rw [show (i + 1) * 4 = i * 4 + 1 + 1 + 1 + 1 by omega]
          simp only [T.cells, List.take_succ_cons, h3]
        · simp only [rmT, if_neg h0, T.app, T.drop, h4]

set_option maxRecDepth 100000 in
set_option maxHeartbeats 8000000 in
theorem delete_fn (t : T) (o : Value) (id ext : UInt8) (b1 b2 : Nat) (hone : ∀ u ∈ t.cells, u.oneCell' = true) : Ct Try.prog 40 [o, .func (.func 56) #[] #[.pointer (some ⟨b1, 0, none⟩), .pointer (some ⟨b2, 0, none⟩)]]
    [.row o 31 4 t.len t.cells] [Pt (.pointer (some ⟨b1, 0, none⟩)) [bcell id], Pt (.pointer (some ⟨b2, 0, none⟩)) [bcell ext]]
    (X := Value) (fun _ => True) (fun x => x) (fun x => [.row x 31 4 (rmT t id ext).len (rmT t id ext).cells]) (fun _ => []) := by
  have hix := index_fn t o id ext b1 b2
  refine Ct_intro Try.func40 rfl Try.ntmps40 (by simp) _ rfl (fun w0 O0 => ?_)
  refine W_pure (row_le (v := o) (n := t.len) (by repeat' (first | exact Pick.head _ _ | apply Pick.tail))) fun hle => ?_
  repeat (first | refine n1 ?_ | refine n2 (fun b _ => ?_) | refine n3 (fun _ _ => ?_) | refine n4 ?_ | refine n5 ?_ | refine WL_nil ?_ | refine W_seq ?_ | refine W_region ?_ | refine n7 ?_ | refine n8 ?_ | refine W_block ?_ | refine W_skip ?_ | refine W_ret ?_ | refine W_exit ?_ | refine WQ_then ?_ | refine WQ_then_ret ?_ | refine WQ_then_exit ?_ | refine WQ_block_normal ?_ | refine WQ_block_ret ?_ | refine WQ_block_exit ?_ | refine n9 ?_)
  apply WL_runs
  · exact rfl
  · exact rfl
  · exact rfl
  · apply R_callB (Γb := [.row o 31 4 t.len t.cells])
    · exact rfl
    · intro _ _
      simp
    · exact hix
    · exact perm1 (by repeat' (first | exact Pick.head _ _ | apply Pick.tail))
    · exact Bor.sub (Bor.rowT (t := t)) (AllIn.cons (by repeat' (first | exact mcs | apply mct)) (AllIn.cons (by repeat' (first | exact mcs | apply mct)) (AllIn.cons (by repeat' (first | exact mcs | apply mct)) (AllIn.nil _))))
  cases hf : fidx t.er id ext with
  | none =>
    rw [rmT_none hf]
    repeat (first | refine n1 ?_ | refine n2 (fun b _ => ?_) | refine n3 (fun _ _ => ?_) | refine n4 ?_ | refine n5 ?_ | refine WL_nil ?_ | refine W_seq ?_ | refine W_region ?_ | refine n7 ?_ | refine n8 ?_ | refine W_block ?_ | refine W_skip ?_ | refine W_ret ?_ | refine W_exit ?_ | refine WQ_then ?_ | refine WQ_then_ret ?_ | refine WQ_then_exit ?_ | refine WQ_block_normal ?_ | refine WQ_block_ret ?_ | refine WQ_block_exit ?_ | refine n9 ?_)
    ((apply ret1 Try.results40 ( o)); (focus (first | trivial | assumption | omega)); (focus (first | exact RV_tmp rfl | (apply RV_cellN; exact rfl; (repeat' (first | exact Pick.head _ _ | apply Pick.tail)); (intro _; exact rfl); (intro _; exact rfl); exact rfl) | (apply RV_cell1; exact rfl; (repeat' (first | exact Pick.head _ _ | apply Pick.tail)); (intro _; exact rfl); exact rfl)));  (focus (first | exact rfl | (simp; done))); (focus (repeat (first | exact SubO.nil _ | (apply SubO.cons; (focus (repeat' (first | exact Pick.head _ _ | apply Pick.tail))))))); (focus (repeat (first | exact AllE.nil _ | (apply AllE.cons; (focus (first | exact ent_nilBy | exact ent_nilSl | (apply Ent.mem; repeat' (first | exact mcs | apply mct)))))))))
  | some k =>
    obtain ⟨w0, h1, h2, h3, h4⟩ := fidx_split hf
    have h5 : t.cells.length = t.len * 4 := T.cells_length t
    rw [show idxI (some k) = (k : Int) from rfl]
    repeat (first | refine n1 ?_ | refine n2 (fun b _ => ?_) | refine n3 (fun _ _ => ?_) | refine n4 ?_ | refine n5 ?_ | refine WL_nil ?_ | refine W_seq ?_ | refine W_region ?_ | refine n7 ?_ | refine n8 ?_ | refine W_block ?_ | refine W_skip ?_ | refine W_ret ?_ | refine W_exit ?_ | refine WQ_then ?_ | refine WQ_then_ret ?_ | refine WQ_then_exit ?_ | refine WQ_block_normal ?_ | refine WQ_block_ret ?_ | refine WQ_block_exit ?_ | refine n9 ?_)
    ((apply W_loopK (X := Nat × Nat × List Value × T) [5, 6] [0] (fun x => x.1 < x.2.1 ∧ x.2.1 ≤ t.len ∧ x.2.2.1.length = t.len * 4 ∧ x.2.2.2.len = x.1 ∧ x.2.2.1.take (x.1 * 4) = x.2.2.2.cells ∧ x.2.2.1.drop (x.2.1 * 4) = (t.drop x.2.1).cells ∧ x.2.2.2.app (rmT (t.drop x.2.1) id ext) = rmT t id ext) (fun x => [(5, .int .i64 (x.1 : Int)), (6, .int .i64 (x.2.1 : Int))]) (fun x => [.row o 31 4 t.len x.2.2.1]) (fun _ => []) (fun x => t.len - x.2.1) ((k, k + 1, t.cells, w0))); (focus (exact ⟨Nat.lt_succ_self k, h2, h5, h1, h3, cells_drop t (k + 1) h2, h4⟩)); exact rfl; exact rfl; (intro _; exact rfl); (intro _; exact rfl); (intro _; exact rfl); (focus (repeat (first | exact FrIn.nil _ | (apply FrIn.cons; exact rfl; (first | exact rfl | (congr 1; first | omega | (dsimp only; omega)) | (simp; done)))))); (focus (repeat (first | exact SubO.nil _ | (apply SubO.cons; (focus (repeat' (first | exact Pick.head _ _ | apply Pick.tail))))))); (focus (repeat (first | exact AllE.nil _ | (apply AllE.cons; (focus (first | exact ent_nilBy | exact ent_nilSl | (apply Ent.mem; repeat' (first | exact mcs | apply mct)))))))); intro x hx)
    obtain ⟨i, j, L, w⟩ := x
    obtain ⟨i1, i2, i3, i4, i5, i6, i7⟩ := hx
    replace i1 : i < j := i1
    replace i2 : j ≤ t.len := i2
    replace i3 : L.length = t.len * 4 := i3
    replace i4 : w.len = i := i4
    replace i5 : L.take (i * 4) = w.cells := i5
    replace i6 : L.drop (j * 4) = (t.drop j).cells := i6
    replace i7 : w.app (rmT (t.drop j) id ext) = rmT t id ext := i7
    dsimp only
    by_cases c1 : j < t.len
    · obtain ⟨a, bx, dv, data, sv, subs, next, e1⟩ := T.get c1
      have hs := is1_fn a bx id ext dv sv b1 b2
      rw [e1] at i6 i7
      have hu4 : ∀ u ∈ [bcell a, bcell bx, dv, sv], u.oneCell' = true := fun u hu => hone u (by
        have h6 : t.cells.drop (j * 4) = _ := cells_drop t j i2
        rw [e1] at h6
        exact List.mem_of_mem_drop (i := j * 4) (by
          rw [h6]
          simp only [T.cells, List.mem_cons, List.not_mem_nil, or_false] at hu ⊢
          rcases hu with h | h | h | h
          · exact .inl h
          · exact .inr (.inl h)
          · exact .inr (.inr (.inl h))
          · exact .inr (.inr (.inr (.inl h)))))
      have hcell : ∀ q u, [bcell a, bcell bx, dv, sv][q]? = some u → L[j * 4 + q]? = some u := fun q u hq => by
        rw [← List.getElem?_drop, i6]
        simp only [T.cells]
        match q, hq with
        | 0, h => exact h
        | 1, h => exact h
        | 2, h => exact h
        | 3, h => exact h
      have hnx : L.drop ((j + 1) * 4) = (t.drop (j + 1)).cells := by
        rw [T.drop_next e1, show (j + 1) * 4 = j * 4 + 4 by omega, ← List.drop_drop, i6]
        rfl
      repeat (first | refine n1 ?_ | refine n2 (fun b _ => ?_) | refine n3 (fun _ _ => ?_) | refine n4 ?_ | refine n5 ?_ | refine WL_nil ?_ | refine W_seq ?_ | refine W_region ?_ | refine n7 ?_ | refine n8 ?_ | refine W_block ?_ | refine W_skip ?_ | refine W_ret ?_ | refine W_exit ?_ | refine WQ_then ?_ | refine WQ_then_ret ?_ | refine WQ_then_exit ?_ | refine WQ_block_normal ?_ | refine WQ_block_ret ?_ | refine WQ_block_exit ?_ | refine n9 ?_)
      refine WL_runs rfl rfl rfl (R_loadRowN (us := [bcell a, bcell bx, dv, sv]) rfl (by repeat' (first | exact Pick.head _ _ | apply Pick.tail)) (by intro _; rfl) (by intro _; rfl) c1 hcell) ?_
      repeat (first | refine n1 ?_ | refine n2 (fun b _ => ?_) | refine n3 (fun _ _ => ?_) | refine n4 ?_ | refine n5 ?_ | refine WL_nil ?_ | refine W_seq ?_ | refine W_region ?_ | refine n7 ?_ | refine n8 ?_ | refine W_block ?_ | refine W_skip ?_ | refine W_ret ?_ | refine W_exit ?_ | refine WQ_then ?_ | refine WQ_then_ret ?_ | refine WQ_then_exit ?_ | refine WQ_block_normal ?_ | refine WQ_block_ret ?_ | refine WQ_block_exit ?_ | refine n9 ?_)
      refine WL_do rfl rfl (E_store (us := [bcell a, bcell bx, dv, sv]) rfl rfl (by repeat' (first | exact Pick.head _ _ | apply Pick.tail)) (CellsE.lit rfl) (by intro _; rfl) (Ones.lits hu4) rfl) ?_
      intro _ _
      cases c2 : isB a bx id ext with
      | true =>
        rw [c2] at hs
        rw [rmT, if_pos c2] at i7
        repeat (first | refine n1 ?_ | refine n2 (fun b _ => ?_) | refine n3 (fun _ _ => ?_) | refine n4 ?_ | refine n5 ?_ | refine n6 (hs) ?_ | refine n6v (hs) ?_ | refine WL_nil ?_ | refine W_seq ?_ | refine W_region ?_ | refine n7 ?_ | refine n8 ?_ | refine W_block ?_ | refine W_skip ?_ | refine W_ret ?_ | refine W_exit ?_ | refine WQ_then ?_ | refine WQ_then_ret ?_ | refine WQ_then_exit ?_ | refine WQ_block_normal ?_ | refine WQ_block_ret ?_ | refine WQ_block_exit ?_ | refine n9 ?_)
        have hn : i < j + 1 ∧ j + 1 ≤ t.len ∧ L.length = t.len * 4 ∧ w.len = i ∧ L.take (i * 4) = w.cells ∧ L.drop ((j + 1) * 4) = (t.drop (j + 1)).cells ∧ w.app (rmT (t.drop (j + 1)) id ext) = rmT t id ext :=
          ⟨by omega, c1, i3, i4, i5, hnx, by rw [T.drop_next e1]; exact i7⟩
        ((apply WQ_again ((i, j + 1, L, w))); (focus exact hn); (focus (exact (show t.len - (j + 1) < t.len - j by omega))); (focus (repeat (first | exact FrIn.nil _ | (apply FrIn.cons; exact rfl; (first | exact rfl | (congr 1; first | omega | (dsimp only; omega)) | (simp; done)))))); (focus (repeat (first | exact SubO.nil _ | (apply SubO.cons; (focus (repeat' (first | exact Pick.head _ _ | apply Pick.tail))))))); (focus (repeat (first | exact AllE.nil _ | (apply AllE.cons; (focus (first | exact ent_nilBy | exact ent_nilSl | (apply Ent.mem; repeat' (first | exact mcs | apply mct)))))))))
      | false =>
        rw [c2] at hs
        rw [rmT, if_neg (by rw [c2]; exact Bool.noConfusion)] at i7
        repeat (first | refine n1 ?_ | refine n2 (fun b _ => ?_) | refine n3 (fun _ _ => ?_) | refine n4 ?_ | refine n5 ?_ | refine n6 (hs) ?_ | refine n6v (hs) ?_ | refine WL_nil ?_ | refine W_seq ?_ | refine W_region ?_ | refine n7 ?_ | refine n8 ?_ | refine W_block ?_ | refine W_skip ?_ | refine W_ret ?_ | refine W_exit ?_ | refine WQ_then ?_ | refine WQ_then_ret ?_ | refine WQ_then_exit ?_ | refine WQ_block_normal ?_ | refine WQ_block_ret ?_ | refine WQ_block_exit ?_ | refine n9 ?_)
        refine WL_do rfl rfl (E_storeRowN (us := [bcell a, bcell bx, dv, sv]) rfl rfl (by repeat' (first | exact Pick.head _ _ | apply Pick.tail)) (CellsE.lit rfl) (Ones.lits hu4) (by intro _; rfl) (show i < t.len by omega) rfl (putN_mk (i * 4) [bcell a, bcell bx, dv, sv] L (by rw [i3, List.length_cons, List.length_cons, List.length_cons, List.length_cons, List.length_nil]; omega))) ?_
        intro _ _
        repeat (first | refine n1 ?_ | refine n2 (fun b _ => ?_) | refine n3 (fun _ _ => ?_) | refine n4 ?_ | refine n5 ?_ | refine WL_nil ?_ | refine W_seq ?_ | refine W_region ?_ | refine n7 ?_ | refine n8 ?_ | refine W_block ?_ | refine W_skip ?_ | refine W_ret ?_ | refine W_exit ?_ | refine WQ_then ?_ | refine WQ_then_ret ?_ | refine WQ_then_exit ?_ | refine WQ_block_normal ?_ | refine WQ_block_ret ?_ | refine WQ_block_exit ?_ | refine n9 ?_)
        have hl4 : ([bcell a, bcell bx, dv, sv] : List Value).length = 4 := rfl
        have hwl : w.cells.length = i * 4 := by rw [T.cells_length, i4]
        have hn : i + 1 < j + 1 ∧ j + 1 ≤ t.len ∧ (L.take (i * 4) ++ [bcell a, bcell bx, dv, sv] ++ L.drop (i * 4 + 4)).length = t.len * 4 ∧ (w.app (.cons a bx dv data sv subs .nil)).len = i + 1 ∧
            (L.take (i * 4) ++ [bcell a, bcell bx, dv, sv] ++ L.drop (i * 4 + 4)).take ((i + 1) * 4) = (w.app (.cons a bx dv data sv subs .nil)).cells ∧
            (L.take (i * 4) ++ [bcell a, bcell bx, dv, sv] ++ L.drop (i * 4 + 4)).drop ((j + 1) * 4) = (t.drop (j + 1)).cells ∧ (w.app (.cons a bx dv data sv subs .nil)).app (rmT (t.drop (j + 1)) id ext) = rmT t id ext := by
          refine ⟨by omega, c1, ?_, by rw [T.len_app, i4]; rfl, ?_, ?_, ?_⟩
          · simp only [List.length_append, List.length_take, List.length_drop, hl4, i3]
            omega
          · rw [i5, List.take_left' (by rw [List.length_append, hwl, hl4]; omega), T.cells_app]
            rfl
          · rw [i5, List.drop_append, List.drop_of_length_le (by rw [List.length_append, hwl, hl4]; omega), List.nil_append, List.drop_drop, List.length_append, hwl, hl4, show i * 4 + 4 + ((j + 1) * 4 - (i * 4 + 4)) = (j + 1) * 4 by omega]
            exact hnx
          · rw [app_assoc, T.drop_next e1]
            exact i7
        ((apply WQ_again ((i + 1, j + 1, L.take (i * 4) ++ [bcell a, bcell bx, dv, sv] ++ L.drop (i * 4 + 4), w.app (.cons a bx dv data sv subs .nil)))); (focus exact hn); (focus (exact (show t.len - (j + 1) < t.len - j by omega))); (focus (repeat (first | exact FrIn.nil _ | (apply FrIn.cons; exact rfl; (first | exact rfl | (congr 1; first | omega | (dsimp only; omega)) | (simp; done)))))); (focus (repeat (first | exact SubO.nil _ | (apply SubO.cons; (focus (repeat' (first | exact Pick.head _ _ | apply Pick.tail))))))); (focus (repeat (first | exact AllE.nil _ | (apply AllE.cons; (focus (first | exact ent_nilBy | exact ent_nilSl | (apply Ent.mem; repeat' (first | exact mcs | apply mct)))))))))
    · have hj : j = t.len := by omega
      rw [drop_end hj] at i7
      have i8 : w = rmT t id ext := by
        rw [← i7]
        clear i7 i4 i5 hix
        induction w with
        | nil => rfl
        | cons _ _ _ _ _ _ _ _ ih => simp only [T.app, rmT] at ih ⊢; rw [← ih]
      subst i8
      have hwl : (rmT t id ext).cells.length = i * 4 := by rw [T.cells_length, i4]
      repeat (first | refine n1 ?_ | refine n2 (fun b _ => ?_) | refine n3 (fun _ _ => ?_) | refine n4 ?_ | refine n5 ?_ | refine WL_nil ?_ | refine W_seq ?_ | refine W_region ?_ | refine n7 ?_ | refine n8 ?_ | refine W_block ?_ | refine W_skip ?_ | refine W_ret ?_ | refine W_exit ?_ | refine WQ_then ?_ | refine WQ_then_ret ?_ | refine WQ_then_exit ?_ | refine WQ_block_normal ?_ | refine WQ_block_ret ?_ | refine WQ_block_exit ?_ | refine n9 ?_)
      refine WL_runs rfl rfl rfl (R_sliceRow (j := i) rfl rfl (by repeat' (first | exact Pick.head _ _ | apply Pick.tail)) rfl (by intro _; rfl) rfl (show i ≤ t.len by omega)) ?_
      refine WL_do rfl rfl (E_clearRow (j := i) rfl (by repeat' (first | exact Pick.head _ _ | apply Pick.tail)) rfl (by intro _; rfl) rfl rfl (show i ≤ t.len by omega)) ?_
      intro zs _
      repeat (first | refine n1 ?_ | refine n2 (fun b _ => ?_) | refine n3 (fun _ _ => ?_) | refine n4 ?_ | refine n5 ?_ | refine WL_nil ?_ | refine W_seq ?_ | refine W_region ?_ | refine n7 ?_ | refine n8 ?_ | refine W_block ?_ | refine W_skip ?_ | refine W_ret ?_ | refine W_exit ?_ | refine WQ_then ?_ | refine WQ_then_ret ?_ | refine WQ_then_exit ?_ | refine WQ_block_normal ?_ | refine WQ_block_ret ?_ | refine WQ_block_exit ?_ | refine n9 ?_)
      refine WL_effs rfl rfl rfl (E_cutRow (j := i) (us := (rmT t id ext).cells) rfl rfl (by repeat' (first | exact Pick.head _ _ | apply Pick.tail)) rfl (by intro _; rfl) rfl (show i ≤ t.len by omega) (by rw [i5]; exact List.take_left' hwl)) ?_
      intro _ _
      rw [← i4]
      repeat (first | refine n1 ?_ | refine n2 (fun b _ => ?_) | refine n3 (fun _ _ => ?_) | refine n4 ?_ | refine n5 ?_ | refine WL_nil ?_ | refine W_seq ?_ | refine W_region ?_ | refine n7 ?_ | refine n8 ?_ | refine W_block ?_ | refine W_skip ?_ | refine W_ret ?_ | refine W_exit ?_ | refine WQ_then ?_ | refine WQ_then_ret ?_ | refine WQ_then_exit ?_ | refine WQ_block_normal ?_ | refine WQ_block_ret ?_ | refine WQ_block_exit ?_ | refine n9 ?_)
      ((apply ret1 Try.results40 ( cutV 4 0 (rmT t id ext).len o)); (focus (first | trivial | assumption | omega)); (focus (first | exact RV_tmp rfl | (apply RV_cellN; exact rfl; (repeat' (first | exact Pick.head _ _ | apply Pick.tail)); (intro _; exact rfl); (intro _; exact rfl); exact rfl) | (apply RV_cell1; exact rfl; (repeat' (first | exact Pick.head _ _ | apply Pick.tail)); (intro _; exact rfl); exact rfl)));  (focus (first | exact rfl | (simp; done))); (focus (repeat (first | exact SubO.nil _ | (apply SubO.cons; (focus (repeat' (first | exact Pick.head _ _ | apply Pick.tail))))))); (focus (repeat (first | exact AllE.nil _ | (apply AllE.cons; (focus (first | exact ent_nilBy | exact ent_nilSl | (apply Ent.mem; repeat' (first | exact mcs | apply mct)))))))))

set_option maxRecDepth 100000 in
set_option maxHeartbeats 8000000 in
theorem remove_fn (t : T) (v : Value) (id ext : UInt8) (hmd : Md t.er) : Ct Try.prog 24 [v, bcell id, bcell ext] [] [Rw 4 v t.len t.at_, t.tf]
    (X := Value × T) (fun x => x.2.er = rmF t.er id ext) (fun x => x.1) (fun x => [.row x.1 31 4 x.2.len x.2.cells, pk (rowsL 5 x.2.dls)]) (fun x => [x.2.ts]) := by
  refine Ct_intro Try.func24 rfl Try.ntmps24 (by simp) _ rfl (fun w0 O0 => ?_)
  repeat (first | refine n1 ?_ | refine n2 (fun b _ => ?_) | refine n3 (fun _ _ => ?_) | refine n4 ?_ | refine n5 ?_ | refine WL_nil ?_ | refine W_seq ?_ | refine W_region ?_ | refine n7 ?_ | refine n8 ?_ | refine W_block ?_ | refine W_skip ?_ | refine W_ret ?_ | refine W_exit ?_ | refine WQ_then ?_ | refine WQ_then_ret ?_ | refine WQ_then_exit ?_ | refine WQ_block_normal ?_ | refine WQ_block_ret ?_ | refine WQ_block_exit ?_ | refine n9 ?_)
  (apply WL_effs; exact rfl; exact rfl; exact rfl; apply E_call; exact rfl; (intro _ _; simp); (exact twin_fn (t.size + 1) t v (Nat.lt_succ_self _) hmd); (repeat (first | exact AllE.nil _ | (apply AllE.cons; (focus (first | exact ent_nilBy | exact ent_nilSl | (apply Ent.mem; repeat' (first | exact mcs | apply mct))))))); (intro _; exact rfl); (intro _; exact rfl))
  rintro ⟨o, u⟩ hu
  replace hu : u.er = t.er := hu
  dsimp only
  refine WL_pure (tree_ones (t := u) (by repeat' (first | exact Pick.head _ _ | apply Pick.tail)) (by repeat' (first | exact mcs | apply mct))) fun hone => ?_
  repeat (first | refine n1 ?_ | refine n2 (fun b _ => ?_) | refine n3 (fun _ _ => ?_) | refine n4 ?_ | refine n5 ?_ | refine WL_nil ?_ | refine W_seq ?_ | refine W_region ?_ | refine n7 ?_ | refine n8 ?_ | refine W_block ?_ | refine W_skip ?_ | refine W_ret ?_ | refine W_exit ?_ | refine WQ_then ?_ | refine WQ_then_ret ?_ | refine WQ_then_exit ?_ | refine WQ_block_normal ?_ | refine WQ_block_ret ?_ | refine WQ_block_exit ?_ | refine n9 ?_)
  (apply WL_effs; exact rfl; exact rfl; exact rfl; apply E_call; exact rfl; (intro _ _; simp); exact is_fn id ext; (repeat (first | exact AllE.nil _ | (apply AllE.cons; (focus (first | exact ent_nilBy | exact ent_nilSl | (apply Ent.mem; repeat' (first | exact mcs | apply mct))))))); (intro _; exact rfl); (intro _; exact rfl))
  rintro ⟨b1, b2⟩ _
  dsimp only
  (apply WL_effs; exact rfl; exact rfl; exact rfl; apply E_callO; exact rfl; (intro _ _; simp); exact delete_fn u o id ext b1 b2 hone; (first | (apply perm1; (focus (repeat' (first | exact Pick.head _ _ | apply Pick.tail)))) | (apply perm2; (focus (repeat' (first | exact Pick.head _ _ | apply Pick.tail))); (focus (repeat' (first | exact Pick.head _ _ | apply Pick.tail)))) | (apply perm3; (focus (repeat' (first | exact Pick.head _ _ | apply Pick.tail))); (focus (repeat' (first | exact Pick.head _ _ | apply Pick.tail))); (focus (repeat' (first | exact Pick.head _ _ | apply Pick.tail))))); (repeat (first | exact AllE.nil _ | (apply AllE.cons; (focus (first | exact ent_nilBy | exact ent_nilSl | (apply Ent.mem; repeat' (first | exact mcs | apply mct))))))); (intro _; exact rfl); (intro _; exact rfl))
  intro x _
  obtain ⟨K, hK⟩ := rmT_dls u id ext
  refine WL_subL (L := u.dls) (L' := (rmT u id ext).dls) (K := K) (by repeat' (first | exact Pick.head _ _ | apply Pick.tail)) hK ?_
  refine WL_ent (ent_rmts (t := u) id ext (by repeat' (first | exact mcs | apply mct))) ?_
  repeat (first | refine n1 ?_ | refine n2 (fun b _ => ?_) | refine n3 (fun _ _ => ?_) | refine n4 ?_ | refine n5 ?_ | refine WL_nil ?_ | refine W_seq ?_ | refine W_region ?_ | refine n7 ?_ | refine n8 ?_ | refine W_block ?_ | refine W_skip ?_ | refine W_ret ?_ | refine W_exit ?_ | refine WQ_then ?_ | refine WQ_then_ret ?_ | refine WQ_then_exit ?_ | refine WQ_block_normal ?_ | refine WQ_block_ret ?_ | refine WQ_block_exit ?_ | refine n9 ?_)
  have hr : (rmT u id ext).er = rmF t.er id ext := by rw [rmT_er, hu]
  ((apply ret1 Try.results24 ( (x, rmT u id ext))); (focus (first | trivial | assumption | omega)); (focus (first | exact RV_tmp rfl | (apply RV_cellN; exact rfl; (repeat' (first | exact Pick.head _ _ | apply Pick.tail)); (intro _; exact rfl); (intro _; exact rfl); exact rfl) | (apply RV_cell1; exact rfl; (repeat' (first | exact Pick.head _ _ | apply Pick.tail)); (intro _; exact rfl); exact rfl)));  (focus (first | exact rfl | (simp; done))); (focus (repeat (first | exact SubO.nil _ | (apply SubO.cons; (focus (repeat' (first | exact Pick.head _ _ | apply Pick.tail))))))); (focus (repeat (first | exact AllE.nil _ | (apply AllE.cons; (focus (first | exact ent_nilBy | exact ent_nilSl | (apply Ent.mem; repeat' (first | exact mcs | apply mct)))))))))
end Go.Proofs.Ytahkcidnmdcaaaa
