/-
  The law 'FragmentTrue' walked.
-/
import Derived.Test.YtglmcnjkcmbefaaVIv
namespace Go.Proofs.Ytglmcnjkcmbefaa
open Go Go.RowKit Go.Hs C05
/-- an event. -/
structure Mv where
  wait : Int
  frame : Int
  piece : Int
  retry : Bool
@[reducible] def Mv.cells (v : Mv) : List Value := [.int .i64 v.wait, .int .i64 v.frame, .int .i64 v.piece, .bool v.retry]
/-- lists of frames last. -/
def Cs (C : List (Value × List Fm)) : SP := ⟨fun w O => ∀ x ∈ C, (Rw 41 x.1 x.2.length (fun i => (x.2.getD i f0_).cells)).p w O ∧ (Bf x.2).p w O, fun h hm ho x hx => ⟨(Rw 41 x.1 x.2.length (fun i => (x.2.getD i f0_).cells)).st (h x hx).1 hm ho, (Bf x.2).st (h x hx).2 hm ho⟩⟩
theorem ent_cs0 {Φ : List SP} : Ent Φ (Cs []) := fun _ _ _ _ h => by cases h
theorem ent_csS {Φ : List SP} {C : List (Value × List Fm)} {o : Value} {E : List Fm} (h : Cs C ∈ Φ) (h1 : Rw 41 o E.length (fun i => (E.getD i f0_).cells) ∈ Φ) (h2 : Bf E ∈ Φ) : Ent Φ (Cs (C ++ [(o, E)])) := fun w O hw x hx => by
  rcases List.mem_append.1 hx with hx | hx
  · exact hw _ h x hx
  · rcases List.mem_singleton.1 hx with rfl
    exact ⟨hw _ h1, hw _ h2⟩
def c0_ : Value × List Fm := (.slice none 0 0, [])
theorem getC {C : List (Value × List Fm)} {k : Nat} (h : k < C.length) : C.getD k c0_ ∈ C := by
  rw [List.getD_eq_getElem?_getD, List.getElem?_eq_getElem h]
  exact List.getElem_mem h
theorem ent_csR {Φ : List SP} {C : List (Value × List Fm)} {k : Nat} (h : Cs C ∈ Φ) (hk : k < C.length) : Ent Φ (Rw 41 (C.getD k c0_).1 (C.getD k c0_).2.length (fun i => ((C.getD k c0_).2.getD i f0_).cells)) := fun _ _ hw => (hw _ h _ (getC hk)).1
theorem ent_csB {Φ : List SP} {C : List (Value × List Fm)} {k : Nat} (h : Cs C ∈ Φ) (hk : k < C.length) : Ent Φ (Bf (C.getD k c0_).2) := fun _ _ hw => (hw _ h _ (getC hk)).2
theorem getD_snoc {α : Type} {l : List α} {a d : α} {k : Nat} : (l ++ [a]).getD k d = if k < l.length then l.getD k d else if k = l.length then a else d := by
  rw [List.getD_eq_getElem?_getD, List.getD_eq_getElem?_getD]
  by_cases h : k < l.length
  · rw [if_pos h, List.getElem?_append_left h]
  · rw [if_neg h, List.getElem?_append_right (by omega)]
    by_cases h2 : k = l.length
    · rw [if_pos h2, h2, Nat.sub_self]; rfl
    · rw [if_neg h2, List.getElem?_eq_none (by simp; omega)]; rfl
def cutI (D : List Fm) (n : Nat) (g : Nat → Int) (C : List (Value × List Fm)) (k : Nat) : Prop :=
  cutE (D.getD k f0_).head (D.getD k f0_).body (g (k % n)) = 0 ∧ (C.getD k c0_).2.map Fmz = cutL (D.getD k f0_).head (D.getD k f0_).body (g (k % n))
theorem cut_n {h : Hd} {b : List UInt8} {size : Int} {E : List Fm} (hE : E.map Fmz = cutL h b size) (he : cutE h b size = 0) : 1 ≤ E.length ∧ E.length ≤ 16 := by
  have h1 := (cut_l hE he).1
  have h2 := (cut_ok he).2.2.2
  have h3 := many_pos b.length size.toNat
  omega
theorem cutI_snoc {D : List Fm} {n : Nat} {g : Nat → Int} {C : List (Value × List Fm)} {i : Nat} {t : Value} {E : List Fm} (hl : C.length = i) (hC : ∀ k, k < i → cutI D n g C k) (h : cutE (D.getD i f0_).head (D.getD i f0_).body (g (i % n)) = 0 ∧ E.map Fmz = cutL (D.getD i f0_).head (D.getD i f0_).body (g (i % n))) :
    ∀ k, k < i + 1 → cutI D n g (C ++ [(t, E)]) k := fun k hk => by
  unfold cutI
  rw [getD_snoc, hl]
  rcases Nat.lt_succ_iff_lt_or_eq.1 hk with h1 | rfl
  · rw [if_pos h1]
    exact hC k h1
  · rw [if_neg (Nat.lt_irrefl _), if_pos rfl]
    exact h
theorem ent_slC {Φ : List SP} {C : List (Value × List Fm)} {v : Value} {n : Nat} (hn : C.length = n) (h : Sl 1 v n (C.map Prod.fst) ∈ Φ) : Ent Φ (Rw 1 v n (fun i => [(C.getD i c0_).1])) := by
  subst hn
  have e : C.map Prod.fst = C.flatMap fun x => [x.1] := by
    clear h
    induction C with
    | nil => rfl
    | cons a r ih => rw [List.map_cons, List.flatMap_cons, ih]; rfl
  exact ent_slG (cf := fun x : Value × List Fm => [x.1]) (fun _ => rfl) c0_ h rfl e
def cx (D : List Fm) (n : Nat) (g : Nat → Int) (k : Nat) : Cx := ⟨(D.getD k f0_).head, (D.getD k f0_).body, (g (k % n)).toNat⟩
theorem cx_facts {D : List Fm} {n : Nat} {g : Nat → Int} {C : List (Value × List Fm)} (hC : ∀ k, k < D.length → cutI D n g C k) (hdn : difN D) :
    (∀ c ∈ (List.range D.length).map (cx D n g), c.ok) ∧ difF ((List.range D.length).map (cx D n g)) ∧
    (∀ k, k < D.length → cx D n g k ∈ (List.range D.length).map (cx D n g) ∧ (C.getD k c0_).2.length = (cx D n g k).n ∧ ∀ j, j < (cx D n g k).n → (C.getD k c0_).2.getD j f0_ = ⟨pcH (cx D n g k).h (cx D n g k).n j, ((C.getD k c0_).2.getD j f0_).bv, pcB (cx D n g k).b (cx D n g k).s j⟩) := by
  refine ⟨fun c hc => ?_, fun c hc d hd h1 h2 => ?_, fun k hk => ⟨List.mem_map_of_mem (List.mem_range.2 hk), ?_⟩⟩
  · obtain ⟨k, hk, rfl⟩ := List.mem_map.1 hc
    obtain ⟨⟨_, _, _, k4, _, k6⟩, k7, k8, k9⟩ := cut_ok (hC k (List.mem_range.1 hk)).1
    exact ⟨k4, k6, (by omega : 1 ≤ (g (k % n)).toNat), k9⟩
  · obtain ⟨k, hk, rfl⟩ := List.mem_map.1 hc
    obtain ⟨i, hi, rfl⟩ := List.mem_map.1 hd
    have hk := List.mem_range.1 hk
    have hi := List.mem_range.1 hi
    have s1 := snd_hd (cut_ok (hC k hk).1).1.1
    have s2 := snd_hd (cut_ok (hC i hi).1).1.1
    have h1' : stO (D.getD k f0_).head = stO (D.getD i f0_).head := h1
    have h2' : (D.getD k f0_).head.seq = (D.getD i f0_).head.seq := h2
    rcases Nat.lt_trichotomy k i with h | h | h
    · exact absurd ⟨(sameQ_st s2 s1).2 h1'.symm, h2'.symm⟩ (hdn i k h hi)
    · rw [h]
    · exact absurd ⟨(sameQ_st s1 s2).2 h1', h2'⟩ (hdn k i h hk)
  · obtain ⟨h1, h2⟩ := cut_l (hC k hk).2 (hC k hk).1
    exact ⟨h1, fun j hj => h2 j (by rw [h1]; exact hj)⟩
theorem col_true' {F : List Cx} (hok : ∀ c ∈ F, c.ok) (hdf : difF F) {L : List Pz} (hI : ∀ p ∈ L, InvP F p) {c : Cx} (hc : c ∈ F) {j : Nat} (hj : j < c.n) (r : Bool) (now : Int) :
    (∃ e, e ≠ 0 ∧ colR L (c.pc j r) (pcB c.b c.s j) now = ⟨e, false, h0_, [], []⟩) ∨
    ∃ nl, validC nl = true ∧ (∀ p ∈ nl, InvP F p) ∧
      ((j + 1 < c.n ∧ colR L (c.pc j r) (pcB c.b c.s j) now = ⟨0, false, h0_, [], nl⟩) ∨ (¬ j + 1 < c.n ∧ colR L (c.pc j r) (pcB c.b c.s j) now = ⟨0, true, { c.h with retry := false }, c.b, nl⟩)) := by
  rcases col_true hok hdf hI hc hj r now with ⟨h1, h2⟩ | h
  · exact .inl ⟨_, h2, h1⟩
  · exact .inr h
attribute [local irreducible] WL W WQ PL Runs Effs AllE Ent SubO FrIn Pick OneC Ones CellsE PartsE SeqE UZ By Sl Pt Ct

set_option maxRecDepth 100000 in
set_option maxHeartbeats 32000000 in
theorem trueLaw_fn (D : List Fm) (o : Value) (n : Nat) (g : Nat → Int) (z : Value) (q : Nat) (mv : Nat → Mv) (m : Value) (hw : ∀ p ∈ D, p.head.w) : CtD Try.prog 6 [o, z, m]
    [Rw 41 o D.length (fun i => (D.getD i f0_).cells), Bf D, Rw 1 z n (fun i => [.int .i64 (g i)]), Rw 4 m q (fun i => (mv i).cells)] (.bool true) := by
  have hal := alive_fn
  obtain ⟨bd, hbd⟩ : ∃ b : Bool, b = true ↔ difN D := by
    classical exact ⟨decide (difN D), decide_eq_true_iff⟩
  have hdi := different_fn D o bd hbd
  refine Ct_intro Try.func6 rfl Try.ntmps6 (by simp) _ rfl (fun w0 O0 => ?_)
  refine W_pure (rw_le (n := D.length) (by repeat' (first | exact mcs | apply mct))) fun hle => ?_
  refine W_pure (rw_le (v := z) (n := n) (by repeat' (first | exact mcs | apply mct))) fun hle2 => ?_
  refine W_pure (rw_le (v := m) (n := q) (by repeat' (first | exact mcs | apply mct))) fun hle3 => ?_
  by_cases a1 : 12 < D.length
  · repeat (first | refine n1 ?_ | refine n2 (fun b _ => ?_) | refine n3 (fun _ _ => ?_) | refine n4 ?_ | refine n5 ?_ | refine n6 (hal) ?_ | refine n6 (hdi) ?_ | refine n6v (hal) ?_ | refine n6v (hdi) ?_ | refine WL_nil ?_ | refine W_seq ?_ | refine W_region ?_ | refine n7 ?_ | refine n8 ?_ | refine W_block ?_ | refine W_skip ?_ | refine W_ret ?_ | refine W_exit ?_ | refine WQ_then ?_ | refine WQ_then_ret ?_ | refine WQ_then_exit ?_ | refine WQ_block_normal ?_ | refine WQ_block_ret ?_ | refine WQ_block_exit ?_ | refine n9 ?_)
    ((apply ret1 Try.results6 ( ())); (focus (first | trivial | assumption | omega)); (focus (first | exact RV_tmp rfl | (apply RV_cellN; exact rfl; (repeat' (first | exact Pick.head _ _ | apply Pick.tail)); (intro _; exact rfl); (intro _; exact rfl); exact rfl) | (apply RV_cell1; exact rfl; (repeat' (first | exact Pick.head _ _ | apply Pick.tail)); (intro _; exact rfl); exact rfl)));  (focus (first | exact rfl | (simp; done))); (focus (repeat (first | exact SubO.nil _ | (apply SubO.cons; (focus (repeat' (first | exact Pick.head _ _ | apply Pick.tail))))))); (focus (repeat (first | exact AllE.nil _ | (apply AllE.cons; (focus (first | exact ent_nilBy | exact ent_nilSl | (apply Ent.mem; repeat' (first | exact mcs | apply mct)))))))))
  by_cases a2 : 200 < q
  · repeat (first | refine n1 ?_ | refine n2 (fun b _ => ?_) | refine n3 (fun _ _ => ?_) | refine n4 ?_ | refine n5 ?_ | refine n6 (hal) ?_ | refine n6 (hdi) ?_ | refine n6v (hal) ?_ | refine n6v (hdi) ?_ | refine WL_nil ?_ | refine W_seq ?_ | refine W_region ?_ | refine n7 ?_ | refine n8 ?_ | refine W_block ?_ | refine W_skip ?_ | refine W_ret ?_ | refine W_exit ?_ | refine WQ_then ?_ | refine WQ_then_ret ?_ | refine WQ_then_exit ?_ | refine WQ_block_normal ?_ | refine WQ_block_ret ?_ | refine WQ_block_exit ?_ | refine n9 ?_)
    ((apply ret1 Try.results6 ( ())); (focus (first | trivial | assumption | omega)); (focus (first | exact RV_tmp rfl | (apply RV_cellN; exact rfl; (repeat' (first | exact Pick.head _ _ | apply Pick.tail)); (intro _; exact rfl); (intro _; exact rfl); exact rfl) | (apply RV_cell1; exact rfl; (repeat' (first | exact Pick.head _ _ | apply Pick.tail)); (intro _; exact rfl); exact rfl)));  (focus (first | exact rfl | (simp; done))); (focus (repeat (first | exact SubO.nil _ | (apply SubO.cons; (focus (repeat' (first | exact Pick.head _ _ | apply Pick.tail))))))); (focus (repeat (first | exact AllE.nil _ | (apply AllE.cons; (focus (first | exact ent_nilBy | exact ent_nilSl | (apply Ent.mem; repeat' (first | exact mcs | apply mct)))))))))
  by_cases a3 : n = 0
  · repeat (first | refine n1 ?_ | refine n2 (fun b _ => ?_) | refine n3 (fun _ _ => ?_) | refine n4 ?_ | refine n5 ?_ | refine n6 (hal) ?_ | refine n6 (hdi) ?_ | refine n6v (hal) ?_ | refine n6v (hdi) ?_ | refine WL_nil ?_ | refine W_seq ?_ | refine W_region ?_ | refine n7 ?_ | refine n8 ?_ | refine W_block ?_ | refine W_skip ?_ | refine W_ret ?_ | refine W_exit ?_ | refine WQ_then ?_ | refine WQ_then_ret ?_ | refine WQ_then_exit ?_ | refine WQ_block_normal ?_ | refine WQ_block_ret ?_ | refine WQ_block_exit ?_ | refine n9 ?_)
    ((apply ret1 Try.results6 ( ())); (focus (first | trivial | assumption | omega)); (focus (first | exact RV_tmp rfl | (apply RV_cellN; exact rfl; (repeat' (first | exact Pick.head _ _ | apply Pick.tail)); (intro _; exact rfl); (intro _; exact rfl); exact rfl) | (apply RV_cell1; exact rfl; (repeat' (first | exact Pick.head _ _ | apply Pick.tail)); (intro _; exact rfl); exact rfl)));  (focus (first | exact rfl | (simp; done))); (focus (repeat (first | exact SubO.nil _ | (apply SubO.cons; (focus (repeat' (first | exact Pick.head _ _ | apply Pick.tail))))))); (focus (repeat (first | exact AllE.nil _ | (apply AllE.cons; (focus (first | exact ent_nilBy | exact ent_nilSl | (apply Ent.mem; repeat' (first | exact mcs | apply mct)))))))))
  cases bd with
  | false =>
    repeat (first | refine n1 ?_ | refine n2 (fun b _ => ?_) | refine n3 (fun _ _ => ?_) | refine n4 ?_ | refine n5 ?_ | refine n6 (hal) ?_ | refine n6 (hdi) ?_ | refine n6v (hal) ?_ | refine n6v (hdi) ?_ | refine WL_nil ?_ | refine W_seq ?_ | refine W_region ?_ | refine n7 ?_ | refine n8 ?_ | refine W_block ?_ | refine W_skip ?_ | refine W_ret ?_ | refine W_exit ?_ | refine WQ_then ?_ | refine WQ_then_ret ?_ | refine WQ_then_exit ?_ | refine WQ_block_normal ?_ | refine WQ_block_ret ?_ | refine WQ_block_exit ?_ | refine n9 ?_)
    ((apply ret1 Try.results6 ( ())); (focus (first | trivial | assumption | omega)); (focus (first | exact RV_tmp rfl | (apply RV_cellN; exact rfl; (repeat' (first | exact Pick.head _ _ | apply Pick.tail)); (intro _; exact rfl); (intro _; exact rfl); exact rfl) | (apply RV_cell1; exact rfl; (repeat' (first | exact Pick.head _ _ | apply Pick.tail)); (intro _; exact rfl); exact rfl)));  (focus (first | exact rfl | (simp; done))); (focus (repeat (first | exact SubO.nil _ | (apply SubO.cons; (focus (repeat' (first | exact Pick.head _ _ | apply Pick.tail))))))); (focus (repeat (first | exact AllE.nil _ | (apply AllE.cons; (focus (first | exact ent_nilBy | exact ent_nilSl | (apply Ent.mem; repeat' (first | exact mcs | apply mct)))))))))
  | true =>
  have hdn : difN D := hbd.1 rfl
  repeat (first | refine n1 ?_ | refine n2 (fun b _ => ?_) | refine n3 (fun _ _ => ?_) | refine n4 ?_ | refine n5 ?_ | refine n6 (hal) ?_ | refine n6 (hdi) ?_ | refine n6v (hal) ?_ | refine n6v (hdi) ?_ | refine WL_nil ?_ | refine W_seq ?_ | refine W_region ?_ | refine n7 ?_ | refine n8 ?_ | refine W_block ?_ | refine W_skip ?_ | refine W_ret ?_ | refine W_exit ?_ | refine WQ_then ?_ | refine WQ_then_ret ?_ | refine WQ_then_exit ?_ | refine WQ_block_normal ?_ | refine WQ_block_ret ?_ | refine WQ_block_exit ?_ | refine n9 ?_)
  apply W_nilRow 31 1
  refine W_ent ent_cs0 ?_
  ((apply W_loopK (X := Nat × Value × List (Value × List Fm)) [8, 9, 10, 11] [0] (fun x => x.1 ≤ D.length ∧ x.2.2.length = x.1 ∧ ∀ k, k < x.1 → cutI D n g x.2.2 k) (fun x => [(8, x.2.1), (9, .int .i64 (x.1 : Int))]) (fun x => [.row x.2.1 31 1 x.1 (x.2.2.map Prod.fst)]) (fun x => [Cs x.2.2]) (fun x => D.length - x.1) ((0, .slice none 0 0, []))); (focus (exact ⟨Nat.zero_le _, rfl, fun k h => absurd h (Nat.not_lt_zero _)⟩)); exact rfl; exact rfl; (intro _; exact rfl); (intro _; exact rfl); (intro _; exact rfl); (focus (repeat (first | exact FrIn.nil _ | (apply FrIn.cons; exact rfl; (first | exact rfl | (congr 1; first | omega | (dsimp only; omega)) | (simp; done)))))); (focus (repeat (first | exact SubO.nil _ | (apply SubO.cons; (focus (repeat' (first | exact Pick.head _ _ | apply Pick.tail))))))); (focus (repeat (first | exact AllE.nil _ | (apply AllE.cons; (focus (first | exact ent_nilBy | exact ent_nilSl | (apply Ent.mem; repeat' (first | exact mcs | apply mct)))))))); intro x hx)
  obtain ⟨i, t, C⟩ := x
  obtain ⟨hi, hCl, hC⟩ := hx
  replace hi : i ≤ D.length := hi
  replace hCl : C.length = i := hCl
  replace hC : ∀ k, k < i → cutI D n g C k := hC
  dsimp only
  by_cases d1 : i < D.length
  · refine W_ent (ent_bf (by (focus (repeat' (first | exact mcs | apply mct)))) (getF d1)) ?_
    have hgr := great_fn (D.getD i f0_)
    by_cases d2 : 2400 < (D.getD i f0_).body.length
    · rw [decide_eq_true d2] at hgr
      repeat (first | refine n1 ?_ | refine n2 (fun b _ => ?_) | refine n3 (fun _ _ => ?_) | refine n4 ?_ | refine n5 ?_ | refine n6 (hgr) ?_ | refine n6v (hgr) ?_ | refine WL_nil ?_ | refine W_seq ?_ | refine W_region ?_ | refine n7 ?_ | refine n8 ?_ | refine W_block ?_ | refine W_skip ?_ | refine W_ret ?_ | refine W_exit ?_ | refine WQ_then ?_ | refine WQ_then_ret ?_ | refine WQ_then_exit ?_ | refine WQ_block_normal ?_ | refine WQ_block_ret ?_ | refine WQ_block_exit ?_ | refine n9 ?_)
      ((apply ret1 Try.results6 ( ())); (focus (first | trivial | assumption | omega)); (focus (first | exact RV_tmp rfl | (apply RV_cellN; exact rfl; (repeat' (first | exact Pick.head _ _ | apply Pick.tail)); (intro _; exact rfl); (intro _; exact rfl); exact rfl) | (apply RV_cell1; exact rfl; (repeat' (first | exact Pick.head _ _ | apply Pick.tail)); (intro _; exact rfl); exact rfl)));  (focus (first | exact rfl | (simp; done))); (focus (repeat (first | exact SubO.nil _ | (apply SubO.cons; (focus (repeat' (first | exact Pick.head _ _ | apply Pick.tail))))))); (focus (repeat (first | exact AllE.nil _ | (apply AllE.cons; (focus (first | exact ent_nilBy | exact ent_nilSl | (apply Ent.mem; repeat' (first | exact mcs | apply mct)))))))))
    · rw [decide_eq_false d2] at hgr
      repeat (first | refine n1 ?_ | refine n2 (fun b _ => ?_) | refine n3 (fun _ _ => ?_) | refine n4 ?_ | refine n5 ?_ | refine n6 (hgr) ?_ | refine n6v (hgr) ?_ | refine WL_nil ?_ | refine W_seq ?_ | refine W_region ?_ | refine n7 ?_ | refine n8 ?_ | refine W_block ?_ | refine W_skip ?_ | refine W_ret ?_ | refine W_exit ?_ | refine WQ_then ?_ | refine WQ_then_ret ?_ | refine WQ_then_exit ?_ | refine WQ_block_normal ?_ | refine WQ_block_ret ?_ | refine WQ_block_exit ?_ | refine n9 ?_)
      (refine W_regionP' [11] [] [0, 1, 2, 3, 4, 5, 6, 7, 8, 9, 10, 11, 12, 13, 14, 15, 16] [] (by kernel_rfl) (by kernel_rfl) (by repeat (first | exact UZ.nil _ _ | (apply UZ.cons; exact rfl; (intro _; exact rfl)))) (by exact rfl) (by (repeat (first | exact SubO.nil _ | (apply SubO.cons; (focus (repeat' (first | exact Pick.head _ _ | apply Pick.tail))))))) ?_)
      repeat (first | refine p1 ?_ | refine p2 (fun b _ => ?_) | refine p3 (fun _ _ => ?_) | refine p4 ?_ | refine p5 ?_ | refine p7 (fun b => ?_) | refine PL_nil ?_)
      refine PL_runs rfl rfl rfl rfl rfl (R_rem (c := ((i % n : Nat) : Int)) rfl rfl (by omega) rfl) ?_
      have hmod : i % n < n := Nat.mod_lt _ (by omega)
      repeat (first | refine p1 ?_ | refine p2 (fun b _ => ?_) | refine p3 (fun _ _ => ?_) | refine p4 ?_ | refine p5 ?_ | refine p7 (fun b => ?_) | refine PL_nil ?_)
      (apply PL_effs; exact rfl; exact rfl; exact rfl; exact rfl; exact rfl; apply E_call; exact rfl; (intro _ _; simp); (exact cutS_fn (D.getD i f0_) (g (i % n)) (hw _ (getF d1)) (by omega)); (repeat (first | exact AllE.nil _ | (apply AllE.cons; (focus (first | exact ent_nilBy | exact ent_nilSl | (apply Ent.mem; repeat' (first | exact mcs | apply mct))))))); (intro _; exact rfl); (intro _; exact rfl); (intro _; (repeat (first | exact SubO.nil _ | (apply SubO.cons; (focus (repeat' (first | exact Pick.head _ _ | apply Pick.tail))))))))
      rintro ⟨t2, E⟩ hE
      replace hE : E.map Fmz = cutL (D.getD i f0_).head (D.getD i f0_).body (g (i % n)) := hE
      dsimp only
      repeat (first | refine p1 ?_ | refine p2 (fun b _ => ?_) | refine p3 (fun _ _ => ?_) | refine p4 ?_ | refine p5 ?_ | refine p7 (fun b => ?_) | refine PL_nil ?_)
      by_cases d3 : cutE (D.getD i f0_).head (D.getD i f0_).body (g (i % n)) = 0
      case neg =>
        repeat (first | refine n1 ?_ | refine n2 (fun b _ => ?_) | refine n3 (fun _ _ => ?_) | refine n4 ?_ | refine n5 ?_ | refine WL_nil ?_ | refine W_seq ?_ | refine W_region ?_ | refine n7 ?_ | refine n8 ?_ | refine W_block ?_ | refine W_skip ?_ | refine W_ret ?_ | refine W_exit ?_ | refine WQ_then ?_ | refine WQ_then_ret ?_ | refine WQ_then_exit ?_ | refine WQ_block_normal ?_ | refine WQ_block_ret ?_ | refine WQ_block_exit ?_ | refine n9 ?_)
        ((apply ret1 Try.results6 ( ())); (focus (first | trivial | assumption | omega)); (focus (first | exact RV_tmp rfl | (apply RV_cellN; exact rfl; (repeat' (first | exact Pick.head _ _ | apply Pick.tail)); (intro _; exact rfl); (intro _; exact rfl); exact rfl) | (apply RV_cell1; exact rfl; (repeat' (first | exact Pick.head _ _ | apply Pick.tail)); (intro _; exact rfl); exact rfl)));  (focus (first | exact rfl | (simp; done))); (focus (repeat (first | exact SubO.nil _ | (apply SubO.cons; (focus (repeat' (first | exact Pick.head _ _ | apply Pick.tail))))))); (focus (repeat (first | exact AllE.nil _ | (apply AllE.cons; (focus (first | exact ent_nilBy | exact ent_nilSl | (apply Ent.mem; repeat' (first | exact mcs | apply mct)))))))))
      have hEl := cut_n hE d3
      repeat (first | refine n1 ?_ | refine n2 (fun b _ => ?_) | refine n3 (fun _ _ => ?_) | refine n4 ?_ | refine n5 ?_ | refine WL_nil ?_ | refine W_seq ?_ | refine W_region ?_ | refine n7 ?_ | refine n8 ?_ | refine W_block ?_ | refine W_skip ?_ | refine W_ret ?_ | refine W_exit ?_ | refine WQ_then ?_ | refine WQ_then_ret ?_ | refine WQ_then_exit ?_ | refine WQ_block_normal ?_ | refine WQ_block_ret ?_ | refine WQ_block_exit ?_ | refine n9 ?_)
      refine WL_effs rfl rfl rfl (Effs.tell (by (apply E_buildSlice; exact rfl; (focus (repeat (first | apply SeqE.nil | (apply SeqE.cons; exact rfl; (focus (first | (apply CellsE.lit; exact rfl) | (apply CellsE.one; (first | (apply OneC.lit; exact rfl) | (apply OneC.by_; (repeat' (first | exact mcs | apply mct)); done) | (apply OneC.sl; (repeat' (first | exact mcs | apply mct)); done) | (apply OneC.rw; (repeat' (first | exact mcs | apply mct)); done) | (apply OneC.row; (repeat' (first | exact Pick.head _ _ | apply Pick.tail))))))); exact rfl) | exact rfl))); exact rfl; (first | (intro _; exact (rfl : _ = Result.ok 1 _)) | (intro _; exact (rfl : _ = Result.ok 2 _)) | (intro _; exact (rfl : _ = Result.ok 3 _)) | (intro _; exact (rfl : _ = Result.ok 4 _)) | (intro _; exact (rfl : _ = Result.ok 5 _)) | (intro _; exact (rfl : _ = Result.ok 6 _)) | (intro _; exact (rfl : _ = Result.ok 7 _)) | (intro _; exact (rfl : _ = Result.ok 8 _)) | (intro _; exact (rfl : _ = Result.ok 9 _)) | (intro _; exact (rfl : _ = Result.ok 13 _)) | (intro _; exact (rfl : _ = Result.ok 14 _)) | (intro _; exact (rfl : _ = Result.ok 26 _)) | (intro _; exact (rfl : _ = Result.ok 40 _)) | (intro _; exact (rfl : _ = Result.ok 41 _)) | (intro _; exact (rfl : _ = Result.ok 42 _)) | (intro _; exact (rfl : _ = Result.ok 43 _)) | (intro _; exact (rfl : _ = Result.ok 44 _)) | (intro _; exact (rfl : _ = Result.ok 45 _)) | (intro _; exact (rfl : _ = Result.ok 46 _))); (intro _; exact rfl); exact rfl; exact Nat.le_of_ble_eq_true rfl; exact Nat.le_of_ble_eq_true rfl))) (fun q5 _ => ?_)
      have hap : C.map Prod.fst ++ [t2] = (C ++ [(t2, E)]).map Prod.fst := by rw [List.map_append]; rfl
      refine WL_effs rfl rfl rfl (E_appendO (size := 1) (xs := C.map Prod.fst) (news := [t2]) (nm := i + 1) (all := (C ++ [(t2, E)]).map Prod.fst) (m := 1) rfl rfl (by repeat' (first | exact Pick.head _ _ | apply Pick.tail)) (by repeat' (first | exact mcs | apply mct)) rfl rfl rfl rfl rfl (Nat.le_of_ble_eq_true rfl) (Ones.cons (OneC.rw (by (focus (repeat' (first | exact mcs | apply mct))))) Ones.nil) (Nat.le_of_ble_eq_true rfl) (by omega) rfl hap) ?_
      intro o2 _
      refine WL_ent (ent_csS (C := C) (o := t2) (E := E) (by (focus (repeat' (first | exact mcs | apply mct)))) (by (focus (repeat' (first | exact mcs | apply mct)))) (by (focus (repeat' (first | exact mcs | apply mct))))) ?_
      repeat (first | refine n1 ?_ | refine n2 (fun b _ => ?_) | refine n3 (fun _ _ => ?_) | refine n4 ?_ | refine n5 ?_ | refine WL_nil ?_ | refine W_seq ?_ | refine W_region ?_ | refine n7 ?_ | refine n8 ?_ | refine W_block ?_ | refine W_skip ?_ | refine W_ret ?_ | refine W_exit ?_ | refine WQ_then ?_ | refine WQ_then_ret ?_ | refine WQ_then_exit ?_ | refine WQ_block_normal ?_ | refine WQ_block_ret ?_ | refine WQ_block_exit ?_ | refine n9 ?_)
      have hn : i + 1 ≤ D.length ∧ (C ++ [(t2, E)]).length = i + 1 ∧ ∀ k, k < i + 1 → cutI D n g (C ++ [(t2, E)]) k := ⟨d1, by rw [List.length_append, hCl]; rfl, cutI_snoc hCl hC ⟨d3, hE⟩⟩
      ((apply WQ_again ((i + 1, o2, C ++ [(t2, E)]))); (focus exact hn); (focus (exact (show D.length - (i + 1) < D.length - i by omega))); (focus (repeat (first | exact FrIn.nil _ | (apply FrIn.cons; exact rfl; (first | exact rfl | (congr 1; first | omega | (dsimp only; omega)) | (simp; done)))))); (focus (repeat (first | exact SubO.nil _ | (apply SubO.cons; (focus (repeat' (first | exact Pick.head _ _ | apply Pick.tail))))))); (focus (repeat (first | exact AllE.nil _ | (apply AllE.cons; (focus (first | exact ent_nilBy | exact ent_nilSl | (apply Ent.mem; repeat' (first | exact mcs | apply mct)))))))))
  · obtain rfl : i = D.length := by omega
    obtain ⟨hok, hdf, hpc⟩ := cx_facts hC hdn
    have hCn := hCl
    refine W_letgo (v := t) (by repeat' (first | exact Pick.head _ _ | apply Pick.tail)) ?_
    refine W_ent (ent_slC (C := C) (v := t) hCl (by (focus (repeat' (first | exact mcs | apply mct))))) ?_
    generalize hF : (List.range D.length).map (cx D n g) = F at *
    repeat (first | refine n1 ?_ | refine n2 (fun b _ => ?_) | refine n3 (fun _ _ => ?_) | refine n4 ?_ | refine n5 ?_ | refine WL_nil ?_ | refine W_seq ?_ | refine W_region ?_ | refine n7 ?_ | refine n8 ?_ | refine W_block ?_ | refine W_skip ?_ | refine W_ret ?_ | refine W_exit ?_ | refine WQ_then ?_ | refine WQ_then_ret ?_ | refine WQ_then_exit ?_ | refine WQ_block_normal ?_ | refine WQ_block_ret ?_ | refine WQ_block_exit ?_ | refine n9 ?_)
    rename Nat => b
    refine W_ent (ψ := Rw 43 (.slice none 0 0) ([] : List Pa).length (fun i => (([] : List Pa).getD i p0_).cells)) ent_nilRw ?_
    refine W_ent ent_bd0 ?_
    ((apply W_loopK (X := Nat × Int × Value × List Pa) [13, 14, 15, 16, 17, 18, 19, 20, 21, 22] [0] (fun x => x.1 ≤ q ∧ (0 ≤ x.2.1 ∧ x.2.1 ≤ (x.1 : Int) * 1048576) ∧ validC (x.2.2.2.map Pa.z) = true ∧ ∀ p ∈ x.2.2.2.map Pa.z, InvP F p) (fun x => [(13, .int .i64 x.2.1), (14, .int .i64 (x.1 : Int))]) (fun x => [.blk b 43 [x.2.2.1]]) (fun x => [Rw 43 x.2.2.1 x.2.2.2.length (fun i => (x.2.2.2.getD i p0_).cells), Bd x.2.2.2]) (fun x => q - x.1) ((0, 0, .slice none 0 0, []))); (focus exact ⟨Nat.zero_le _, ⟨Int.le_refl 0, Int.le_refl 0⟩, rfl, fun p h => by cases h⟩); exact rfl; exact rfl; (intro _; exact rfl); (intro _; exact rfl); (intro _; exact rfl); (focus (repeat (first | exact FrIn.nil _ | (apply FrIn.cons; exact rfl; (first | exact rfl | (congr 1; first | omega | (dsimp only; omega)) | (simp; done)))))); (focus (repeat (first | exact SubO.nil _ | (apply SubO.cons; (focus (repeat' (first | exact Pick.head _ _ | apply Pick.tail))))))); (focus (repeat (first | exact AllE.nil _ | (apply AllE.cons; (focus (first | exact ent_nilBy | exact ent_nilSl | (apply Ent.mem; repeat' (first | exact mcs | apply mct)))))))); intro x hx)
    obtain ⟨i, now, cv, L⟩ := x
    obtain ⟨hi2, ⟨hn0, hn1⟩, hV, hI⟩ := hx
    replace hi2 : i ≤ q := hi2
    replace hn0 : 0 ≤ now := hn0
    replace hn1 : now ≤ (i : Int) * 1048576 := hn1
    replace hV : validC (L.map Pa.z) = true := hV
    replace hI : ∀ p ∈ L.map Pa.z, InvP F p := hI
    dsimp only
    have hcc := ccheck_fn cv L (valid_w hV)
    rw [chk_valid.2 hV] at hcc
    by_cases f1 : i < q
    case neg =>
      repeat (first | refine n1 ?_ | refine n2 (fun b _ => ?_) | refine n3 (fun _ _ => ?_) | refine n4 ?_ | refine n5 ?_ | refine n6 (hcc) ?_ | refine n6v (hcc) ?_ | refine WL_nil ?_ | refine W_seq ?_ | refine W_region ?_ | refine n7 ?_ | refine n8 ?_ | refine W_block ?_ | refine W_skip ?_ | refine W_ret ?_ | refine W_exit ?_ | refine WQ_then ?_ | refine WQ_then_ret ?_ | refine WQ_then_exit ?_ | refine WQ_block_normal ?_ | refine WQ_block_ret ?_ | refine WQ_block_exit ?_ | refine n9 ?_)
      ((apply ret1 Try.results6 ( ())); (focus (first | trivial | assumption | omega)); (focus (first | exact RV_tmp rfl | (apply RV_cellN; exact rfl; (repeat' (first | exact Pick.head _ _ | apply Pick.tail)); (intro _; exact rfl); (intro _; exact rfl); exact rfl) | (apply RV_cell1; exact rfl; (repeat' (first | exact Pick.head _ _ | apply Pick.tail)); (intro _; exact rfl); exact rfl)));  (focus (first | exact rfl | (simp; done))); (focus (repeat (first | exact SubO.nil _ | (apply SubO.cons; (focus (repeat' (first | exact Pick.head _ _ | apply Pick.tail))))))); (focus (repeat (first | exact AllE.nil _ | (apply AllE.cons; (focus (first | exact ent_nilBy | exact ent_nilSl | (apply Ent.mem; repeat' (first | exact mcs | apply mct)))))))))
    by_cases f2 : D.length = 0
    · repeat (first | refine n1 ?_ | refine n2 (fun b _ => ?_) | refine n3 (fun _ _ => ?_) | refine n4 ?_ | refine n5 ?_ | refine n6 (hcc) ?_ | refine n6v (hcc) ?_ | refine WL_nil ?_ | refine W_seq ?_ | refine W_region ?_ | refine n7 ?_ | refine n8 ?_ | refine W_block ?_ | refine W_skip ?_ | refine W_ret ?_ | refine W_exit ?_ | refine WQ_then ?_ | refine WQ_then_ret ?_ | refine WQ_then_exit ?_ | refine WQ_block_normal ?_ | refine WQ_block_ret ?_ | refine WQ_block_exit ?_ | refine n9 ?_)
      ((apply ret1 Try.results6 ( ())); (focus (first | trivial | assumption | omega)); (focus (first | exact RV_tmp rfl | (apply RV_cellN; exact rfl; (repeat' (first | exact Pick.head _ _ | apply Pick.tail)); (intro _; exact rfl); (intro _; exact rfl); exact rfl) | (apply RV_cell1; exact rfl; (repeat' (first | exact Pick.head _ _ | apply Pick.tail)); (intro _; exact rfl); exact rfl)));  (focus (first | exact rfl | (simp; done))); (focus (repeat (first | exact SubO.nil _ | (apply SubO.cons; (focus (repeat' (first | exact Pick.head _ _ | apply Pick.tail))))))); (focus (repeat (first | exact AllE.nil _ | (apply AllE.cons; (focus (first | exact ent_nilBy | exact ent_nilSl | (apply Ent.mem; repeat' (first | exact mcs | apply mct)))))))))
    by_cases g1 : (mv i).wait < 0
    · repeat (first | refine n1 ?_ | refine n2 (fun b _ => ?_) | refine n3 (fun _ _ => ?_) | refine n4 ?_ | refine n5 ?_ | refine WL_nil ?_ | refine W_seq ?_ | refine W_region ?_ | refine n7 ?_ | refine n8 ?_ | refine W_block ?_ | refine W_skip ?_ | refine W_ret ?_ | refine W_exit ?_ | refine WQ_then ?_ | refine WQ_then_ret ?_ | refine WQ_then_exit ?_ | refine WQ_block_normal ?_ | refine WQ_block_ret ?_ | refine WQ_block_exit ?_ | refine n9 ?_)
      ((apply ret1 Try.results6 ( ())); (focus (first | trivial | assumption | omega)); (focus (first | exact RV_tmp rfl | (apply RV_cellN; exact rfl; (repeat' (first | exact Pick.head _ _ | apply Pick.tail)); (intro _; exact rfl); (intro _; exact rfl); exact rfl) | (apply RV_cell1; exact rfl; (repeat' (first | exact Pick.head _ _ | apply Pick.tail)); (intro _; exact rfl); exact rfl)));  (focus (first | exact rfl | (simp; done))); (focus (repeat (first | exact SubO.nil _ | (apply SubO.cons; (focus (repeat' (first | exact Pick.head _ _ | apply Pick.tail))))))); (focus (repeat (first | exact AllE.nil _ | (apply AllE.cons; (focus (first | exact ent_nilBy | exact ent_nilSl | (apply Ent.mem; repeat' (first | exact mcs | apply mct)))))))))
    by_cases g2 : 1048576 < (mv i).wait
    · repeat (first | refine n1 ?_ | refine n2 (fun b _ => ?_) | refine n3 (fun _ _ => ?_) | refine n4 ?_ | refine n5 ?_ | refine WL_nil ?_ | refine W_seq ?_ | refine W_region ?_ | refine n7 ?_ | refine n8 ?_ | refine W_block ?_ | refine W_skip ?_ | refine W_ret ?_ | refine W_exit ?_ | refine WQ_then ?_ | refine WQ_then_ret ?_ | refine WQ_then_exit ?_ | refine WQ_block_normal ?_ | refine WQ_block_ret ?_ | refine WQ_block_exit ?_ | refine n9 ?_)
      ((apply ret1 Try.results6 ( ())); (focus (first | trivial | assumption | omega)); (focus (first | exact RV_tmp rfl | (apply RV_cellN; exact rfl; (repeat' (first | exact Pick.head _ _ | apply Pick.tail)); (intro _; exact rfl); (intro _; exact rfl); exact rfl) | (apply RV_cell1; exact rfl; (repeat' (first | exact Pick.head _ _ | apply Pick.tail)); (intro _; exact rfl); exact rfl)));  (focus (first | exact rfl | (simp; done))); (focus (repeat (first | exact SubO.nil _ | (apply SubO.cons; (focus (repeat' (first | exact Pick.head _ _ | apply Pick.tail))))))); (focus (repeat (first | exact AllE.nil _ | (apply AllE.cons; (focus (first | exact ent_nilBy | exact ent_nilSl | (apply Ent.mem; repeat' (first | exact mcs | apply mct)))))))))
    by_cases g3 : (mv i).frame < 0
    · repeat (first | refine n1 ?_ | refine n2 (fun b _ => ?_) | refine n3 (fun _ _ => ?_) | refine n4 ?_ | refine n5 ?_ | refine WL_nil ?_ | refine W_seq ?_ | refine W_region ?_ | refine n7 ?_ | refine n8 ?_ | refine W_block ?_ | refine W_skip ?_ | refine W_ret ?_ | refine W_exit ?_ | refine WQ_then ?_ | refine WQ_then_ret ?_ | refine WQ_then_exit ?_ | refine WQ_block_normal ?_ | refine WQ_block_ret ?_ | refine WQ_block_exit ?_ | refine n9 ?_)
      ((apply ret1 Try.results6 ( ())); (focus (first | trivial | assumption | omega)); (focus (first | exact RV_tmp rfl | (apply RV_cellN; exact rfl; (repeat' (first | exact Pick.head _ _ | apply Pick.tail)); (intro _; exact rfl); (intro _; exact rfl); exact rfl) | (apply RV_cell1; exact rfl; (repeat' (first | exact Pick.head _ _ | apply Pick.tail)); (intro _; exact rfl); exact rfl)));  (focus (first | exact rfl | (simp; done))); (focus (repeat (first | exact SubO.nil _ | (apply SubO.cons; (focus (repeat' (first | exact Pick.head _ _ | apply Pick.tail))))))); (focus (repeat (first | exact AllE.nil _ | (apply AllE.cons; (focus (first | exact ent_nilBy | exact ent_nilSl | (apply Ent.mem; repeat' (first | exact mcs | apply mct)))))))))
    by_cases g4 : (mv i).piece < 0
    · repeat (first | refine n1 ?_ | refine n2 (fun b _ => ?_) | refine n3 (fun _ _ => ?_) | refine n4 ?_ | refine n5 ?_ | refine WL_nil ?_ | refine W_seq ?_ | refine W_region ?_ | refine n7 ?_ | refine n8 ?_ | refine W_block ?_ | refine W_skip ?_ | refine W_ret ?_ | refine W_exit ?_ | refine WQ_then ?_ | refine WQ_then_ret ?_ | refine WQ_then_exit ?_ | refine WQ_block_normal ?_ | refine WQ_block_ret ?_ | refine WQ_block_exit ?_ | refine n9 ?_)
      ((apply ret1 Try.results6 ( ())); (focus (first | trivial | assumption | omega)); (focus (first | exact RV_tmp rfl | (apply RV_cellN; exact rfl; (repeat' (first | exact Pick.head _ _ | apply Pick.tail)); (intro _; exact rfl); (intro _; exact rfl); exact rfl) | (apply RV_cell1; exact rfl; (repeat' (first | exact Pick.head _ _ | apply Pick.tail)); (intro _; exact rfl); exact rfl)));  (focus (first | exact rfl | (simp; done))); (focus (repeat (first | exact SubO.nil _ | (apply SubO.cons; (focus (repeat' (first | exact Pick.head _ _ | apply Pick.tail))))))); (focus (repeat (first | exact AllE.nil _ | (apply AllE.cons; (focus (first | exact ent_nilBy | exact ent_nilSl | (apply Ent.mem; repeat' (first | exact mcs | apply mct)))))))))
    have hfr : (mv i).frame = ((mv i).frame.toNat : Int) := by omega
    have hpi : (mv i).piece = ((mv i).piece.toNat : Int) := by omega
    obtain ⟨fn, hfn⟩ : ∃ fn : Nat, (mv i).frame = fn := ⟨_, hfr⟩
    obtain ⟨pn, hpn⟩ : ∃ pn : Nat, (mv i).piece = pn := ⟨_, hpi⟩
    obtain ⟨k, hk⟩ : ∃ k, k = fn % D.length := ⟨_, rfl⟩
    have hkD : k < D.length := by rw [hk]; exact Nat.mod_lt _ (by omega)
    have hkm : (mv i).frame.tmod (D.length : Int) = (k : Int) := by rw [hfn, hk]; rfl
    obtain ⟨hcF, hEl, hEg⟩ := hpc k hkD
    have hcok := hok _ hcF
    have hB : (D.getD k f0_).body.length ≤ 2304 := (cut_ok (hC k hkD).1).2.1
    have hHw := hw _ (getF hkD)
    refine W_ent (ent_csR (C := C) (k := k) (by (focus (repeat' (first | exact mcs | apply mct)))) (by omega)) ?_
    refine W_ent (ent_csB (C := C) (k := k) (by (focus (repeat' (first | exact mcs | apply mct)))) (by omega)) ?_
    refine W_ent (ent_bf (by (focus (repeat' (first | exact mcs | apply mct)))) (getF hkD)) ?_
    generalize hc : cx D n g k = c at *
    have hch : c.h = (D.getD k f0_).head := by rw [← hc]; rfl
    have hcb : c.b = (D.getD k f0_).body := by rw [← hc]; rfl
    refine W_ent (ent_rwExt (g := fun j => (⟨pcH c.h c.n j, ((C.getD k c0_).2.getD j f0_).bv, pcB c.b c.s j⟩ : Fm).cells) (f := fun j => ((C.getD k c0_).2.getD j f0_).cells) (v := (C.getD k c0_).1) (n := (C.getD k c0_).2.length) (size := 41) (by (focus (repeat' (first | exact mcs | apply mct)))) fun j hj => by rw [hEg j (by omega)]) ?_
    obtain ⟨j, hj⟩ : ∃ j, j = pn % (C.getD k c0_).2.length := ⟨_, rfl⟩
    have hcn : 1 ≤ c.n := many_pos _ _
    have hjE : j < (C.getD k c0_).2.length := by rw [hj]; exact Nat.mod_lt _ (by omega)
    have hjm : (mv i).piece.tmod ((C.getD k c0_).2.length : Int) = (j : Int) := by rw [hpn, hj]; rfl
    have hjc : j < c.n := by omega
    have hpb : (pcB c.b c.s j).length ≤ 2304 := by
      unfold pcB
      rw [List.length_take, List.length_drop, hcb]
      omega
    refine W_ent (ent_bfAt (by (focus (repeat' (first | exact mcs | apply mct)))) hjE (hEg j hjc)) ?_
    have hcw : (c.pc j (mv i).retry).w := by
      have h1 : c.h.w := by rw [hch]; exact hHw
      exact ⟨h1.1, h1.2.1, w64_nat j (by have := hcok.2.2.2; omega), h1.2.2.2⟩
    repeat (first | refine n1 ?_ | refine n2 (fun b _ => ?_) | refine n3 (fun _ _ => ?_) | refine n4 ?_ | refine n5 ?_ | refine WL_nil ?_ | refine W_seq ?_ | refine W_region ?_ | refine n7 ?_ | refine n8 ?_ | refine W_block ?_ | refine W_skip ?_ | refine W_ret ?_ | refine W_exit ?_ | refine WQ_then ?_ | refine WQ_then_ret ?_ | refine WQ_then_exit ?_ | refine WQ_block_normal ?_ | refine WQ_block_ret ?_ | refine WQ_block_exit ?_ | refine n9 ?_)
    refine WL_runs rfl rfl rfl (R_rem rfl rfl (by omega) hkm) ?_
    repeat (first | refine n1 ?_ | refine n2 (fun b _ => ?_) | refine n3 (fun _ _ => ?_) | refine n4 ?_ | refine n5 ?_ | refine WL_nil ?_ | refine W_seq ?_ | refine W_region ?_ | refine n7 ?_ | refine n8 ?_ | refine W_block ?_ | refine W_skip ?_ | refine W_ret ?_ | refine W_exit ?_ | refine WQ_then ?_ | refine WQ_then_ret ?_ | refine WQ_then_exit ?_ | refine WQ_block_normal ?_ | refine WQ_block_ret ?_ | refine WQ_block_exit ?_ | refine n9 ?_)
    (refine W_regionP' [15] [14] [0, 1, 2, 3, 4, 5, 6, 7, 8, 9, 10, 11, 12, 13, 14, 15] [] (by kernel_rfl) (by kernel_rfl) (by repeat (first | exact UZ.nil _ _ | (apply UZ.cons; exact rfl; (intro _; exact rfl)))) (by exact rfl) (by (repeat (first | exact SubO.nil _ | (apply SubO.cons; (focus (repeat' (first | exact Pick.head _ _ | apply Pick.tail))))))) ?_)
    repeat (first | refine p1 ?_ | refine p2 (fun b _ => ?_) | refine p3 (fun _ _ => ?_) | refine p4 ?_ | refine p5 ?_ | refine p7 (fun b => ?_) | refine PL_nil ?_)
    refine PL_runs rfl rfl rfl rfl rfl (R_rem rfl rfl (by omega) hjm) ?_
    repeat (first | refine p1 ?_ | refine p2 (fun b _ => ?_) | refine p3 (fun _ _ => ?_) | refine p4 ?_ | refine p5 ?_ | refine p7 (fun b => ?_) | refine PL_nil ?_)
    repeat (first | refine n1 ?_ | refine n2 (fun b _ => ?_) | refine n3 (fun _ _ => ?_) | refine n4 ?_ | refine n5 ?_ | refine WL_nil ?_ | refine W_seq ?_ | refine W_region ?_ | refine n7 ?_ | refine n8 ?_ | refine W_block ?_ | refine W_skip ?_ | refine W_ret ?_ | refine W_exit ?_ | refine WQ_then ?_ | refine WQ_then_ret ?_ | refine WQ_then_exit ?_ | refine WQ_block_normal ?_ | refine WQ_block_ret ?_ | refine WQ_block_exit ?_ | refine n9 ?_)
    change WL _ _ _ _ (OA.blk _ _ (Fm.cells ⟨c.pc j (mv i).retry, ((C.getD k c0_).2.getD j f0_).bv, pcB c.b c.s j⟩) :: _) _ _
    have hmo : (c.pc j (mv i).retry).more = decide (j + 1 < c.n) := rfl
    have htw := rtwin_fn (D.getD k f0_) (by omega)
    have hvw := valid_w hV
    refine WL_ent (ψ := f0_.fact) ent_nilBy ?_
    rcases col_true' hok hdf hI hcF hjc (mv i).retry (now + (mv i).wait) with ⟨e, he, hR⟩ | ⟨nl, hnv, hnI, ⟨hm, hR⟩ | ⟨hm, hR⟩⟩
    · have kc := colK cv L ⟨c.pc j (mv i).retry, ((C.getD k c0_).2.getD j f0_).bv, pcB c.b c.s j⟩ (now + (mv i).wait) _ hR hvw hcw (by show (pcB c.b c.s j).length ≤ 100000; omega)
      dsimp only at kc
      (apply WL_effs; exact rfl; exact rfl; exact rfl; apply E_call; exact rfl; (intro _ _; simp); exact kc; (repeat (first | exact AllE.nil _ | (apply AllE.cons; (focus (first | exact ent_nilBy | exact ent_nilSl | (apply Ent.mem; repeat' (first | exact mcs | apply mct))))))); (intro _; exact rfl); (intro _; exact rfl))
      rintro ⟨x0, x1, L1⟩ _
      dsimp only
      have hq0 := rsame_fn ⟨h0_, x0, []⟩ f0_ h0_w h0_w
      rw [show sameB (⟨h0_, x0, []⟩ : Fm).head f0_.head (⟨h0_, x0, []⟩ : Fm).body f0_.body = true by kernel_rfl] at hq0
      repeat (first | refine n1 ?_ | refine n2 (fun b _ => ?_) | refine n3 (fun _ _ => ?_) | refine n4 ?_ | refine n5 ?_ | refine WL_nil ?_ | refine W_seq ?_ | refine W_region ?_ | refine n7 ?_ | refine n8 ?_ | refine W_block ?_ | refine W_skip ?_ | refine W_ret ?_ | refine W_exit ?_ | refine WQ_then ?_ | refine WQ_then_ret ?_ | refine WQ_then_exit ?_ | refine WQ_block_normal ?_ | refine WQ_block_ret ?_ | refine WQ_block_exit ?_ | refine n9 ?_)
      (apply WL_effs; exact rfl; exact rfl; exact rfl; apply E_call; exact rfl; (intro _ _; simp); exact htw; (repeat (first | exact AllE.nil _ | (apply AllE.cons; (focus (first | exact ent_nilBy | exact ent_nilSl | (apply Ent.mem; repeat' (first | exact mcs | apply mct))))))); (intro _; exact rfl); (intro _; exact rfl))
      intro y _
      repeat (first | refine n1 ?_ | refine n2 (fun b _ => ?_) | refine n3 (fun _ _ => ?_) | refine n4 ?_ | refine n5 ?_ | refine n6 (hq0) ?_ | refine n6v (hq0) ?_ | refine WL_nil ?_ | refine W_seq ?_ | refine W_region ?_ | refine n7 ?_ | refine n8 ?_ | refine W_block ?_ | refine W_skip ?_ | refine W_ret ?_ | refine W_exit ?_ | refine WQ_then ?_ | refine WQ_then_ret ?_ | refine WQ_then_exit ?_ | refine WQ_block_normal ?_ | refine WQ_block_ret ?_ | refine WQ_block_exit ?_ | refine n9 ?_)
      have hn : i + 1 ≤ q ∧ (0 ≤ now + (mv i).wait ∧ now + (mv i).wait ≤ ((i + 1 : Nat) : Int) * 1048576) ∧ validC (L.map Pa.z) = true ∧ ∀ p ∈ L.map Pa.z, InvP F p := ⟨f1, ⟨by omega, by omega⟩, hV, hI⟩
      ((apply WQ_again ((i + 1, now + (mv i).wait, cv, L))); (focus exact hn); (focus (exact (show q - (i + 1) < q - i by omega))); (focus (repeat (first | exact FrIn.nil _ | (apply FrIn.cons; exact rfl; (first | exact rfl | (congr 1; first | omega | (dsimp only; omega)) | (simp; done)))))); (focus (repeat (first | exact SubO.nil _ | (apply SubO.cons; (focus (repeat' (first | exact Pick.head _ _ | apply Pick.tail))))))); (focus (repeat (first | exact AllE.nil _ | (apply AllE.cons; (focus (first | exact ent_nilBy | exact ent_nilSl | (apply Ent.mem; repeat' (first | exact mcs | apply mct)))))))))
    · have kc := colK cv L ⟨c.pc j (mv i).retry, ((C.getD k c0_).2.getD j f0_).bv, pcB c.b c.s j⟩ (now + (mv i).wait) _ hR hvw hcw (by show (pcB c.b c.s j).length ≤ 100000; omega)
      dsimp only at kc
      have hmt : (c.pc j (mv i).retry).more = true := decide_eq_true hm
      (apply WL_effs; exact rfl; exact rfl; exact rfl; apply E_call; exact rfl; (intro _ _; simp); exact kc; (repeat (first | exact AllE.nil _ | (apply AllE.cons; (focus (first | exact ent_nilBy | exact ent_nilSl | (apply Ent.mem; repeat' (first | exact mcs | apply mct))))))); (intro _; exact rfl); (intro _; exact rfl))
      rintro ⟨x0, x1, L1⟩ hL1
      replace hL1 : L1.map Pa.z = nl := hL1
      dsimp only
      have hq0 := rsame_fn ⟨h0_, x0, []⟩ f0_ h0_w h0_w
      rw [show sameB (⟨h0_, x0, []⟩ : Fm).head f0_.head (⟨h0_, x0, []⟩ : Fm).body f0_.body = true by kernel_rfl] at hq0
      repeat (first | refine n1 ?_ | refine n2 (fun b _ => ?_) | refine n3 (fun _ _ => ?_) | refine n4 ?_ | refine n5 ?_ | refine WL_nil ?_ | refine W_seq ?_ | refine W_region ?_ | refine n7 ?_ | refine n8 ?_ | refine W_block ?_ | refine W_skip ?_ | refine W_ret ?_ | refine W_exit ?_ | refine WQ_then ?_ | refine WQ_then_ret ?_ | refine WQ_then_exit ?_ | refine WQ_block_normal ?_ | refine WQ_block_ret ?_ | refine WQ_block_exit ?_ | refine n9 ?_)
      (apply WL_effs; exact rfl; exact rfl; exact rfl; apply E_call; exact rfl; (intro _ _; simp); exact htw; (repeat (first | exact AllE.nil _ | (apply AllE.cons; (focus (first | exact ent_nilBy | exact ent_nilSl | (apply Ent.mem; repeat' (first | exact mcs | apply mct))))))); (intro _; exact rfl); (intro _; exact rfl))
      intro y _
      repeat (first | refine n1 ?_ | refine n2 (fun b _ => ?_) | refine n3 (fun _ _ => ?_) | refine n4 ?_ | refine n5 ?_ | refine n6 (hq0) ?_ | refine n6v (hq0) ?_ | refine WL_nil ?_ | refine W_seq ?_ | refine W_region ?_ | refine n7 ?_ | refine n8 ?_ | refine W_block ?_ | refine W_skip ?_ | refine W_ret ?_ | refine W_exit ?_ | refine WQ_then ?_ | refine WQ_then_ret ?_ | refine WQ_then_exit ?_ | refine WQ_block_normal ?_ | refine WQ_block_ret ?_ | refine WQ_block_exit ?_ | refine n9 ?_)
      conv => arg 3; rw [show (!(false == !(⟨c.pc j (mv i).retry, ((C.getD k c0_).2.getD j f0_).bv, pcB c.b c.s j⟩ : Fm).head.more)) = false by rw [show (⟨c.pc j (mv i).retry, ((C.getD k c0_).2.getD j f0_).bv, pcB c.b c.s j⟩ : Fm).head.more = true from hmt]; rfl]
      repeat (first | refine n1 ?_ | refine n2 (fun b _ => ?_) | refine n3 (fun _ _ => ?_) | refine n4 ?_ | refine n5 ?_ | refine WL_nil ?_ | refine W_seq ?_ | refine W_region ?_ | refine n7 ?_ | refine n8 ?_ | refine W_block ?_ | refine W_skip ?_ | refine W_ret ?_ | refine W_exit ?_ | refine WQ_then ?_ | refine WQ_then_ret ?_ | refine WQ_then_exit ?_ | refine WQ_block_normal ?_ | refine WQ_block_ret ?_ | refine WQ_block_exit ?_ | refine n9 ?_)
      have hn : i + 1 ≤ q ∧ (0 ≤ now + (mv i).wait ∧ now + (mv i).wait ≤ ((i + 1 : Nat) : Int) * 1048576) ∧ validC (L1.map Pa.z) = true ∧ ∀ p ∈ L1.map Pa.z, InvP F p := ⟨f1, ⟨by omega, by omega⟩, by rw [hL1]; exact hnv, by rw [hL1]; exact hnI⟩
      ((apply WQ_again ((i + 1, now + (mv i).wait, x1, L1))); (focus exact hn); (focus (exact (show q - (i + 1) < q - i by omega))); (focus (repeat (first | exact FrIn.nil _ | (apply FrIn.cons; exact rfl; (first | exact rfl | (congr 1; first | omega | (dsimp only; omega)) | (simp; done)))))); (focus (repeat (first | exact SubO.nil _ | (apply SubO.cons; (focus (repeat' (first | exact Pick.head _ _ | apply Pick.tail))))))); (focus (repeat (first | exact AllE.nil _ | (apply AllE.cons; (focus (first | exact ent_nilBy | exact ent_nilSl | (apply Ent.mem; repeat' (first | exact mcs | apply mct)))))))))
    · have kc := colK cv L ⟨c.pc j (mv i).retry, ((C.getD k c0_).2.getD j f0_).bv, pcB c.b c.s j⟩ (now + (mv i).wait) _ hR hvw hcw (by show (pcB c.b c.s j).length ≤ 100000; omega)
      dsimp only at kc
      have hmt : (c.pc j (mv i).retry).more = false := decide_eq_false hm
      have hrw : ({ c.h with retry := false } : Hd).w := by
        have h1 : c.h.w := by rw [hch]; exact hHw
        exact h1
      have hrw2 : ({ (D.getD k f0_).head with retry := false } : Hd).w := hHw
      (apply WL_effs; exact rfl; exact rfl; exact rfl; apply E_call; exact rfl; (intro _ _; simp); exact kc; (repeat (first | exact AllE.nil _ | (apply AllE.cons; (focus (first | exact ent_nilBy | exact ent_nilSl | (apply Ent.mem; repeat' (first | exact mcs | apply mct))))))); (intro _; exact rfl); (intro _; exact rfl))
      rintro ⟨x0, x1, L1⟩ hL1
      replace hL1 : L1.map Pa.z = nl := hL1
      dsimp only
      repeat (first | refine n1 ?_ | refine n2 (fun b _ => ?_) | refine n3 (fun _ _ => ?_) | refine n4 ?_ | refine n5 ?_ | refine WL_nil ?_ | refine W_seq ?_ | refine W_region ?_ | refine n7 ?_ | refine n8 ?_ | refine W_block ?_ | refine W_skip ?_ | refine W_ret ?_ | refine W_exit ?_ | refine WQ_then ?_ | refine WQ_then_ret ?_ | refine WQ_then_exit ?_ | refine WQ_block_normal ?_ | refine WQ_block_ret ?_ | refine WQ_block_exit ?_ | refine n9 ?_)
      (apply WL_effs; exact rfl; exact rfl; exact rfl; apply E_call; exact rfl; (intro _ _; simp); exact htw; (repeat (first | exact AllE.nil _ | (apply AllE.cons; (focus (first | exact ent_nilBy | exact ent_nilSl | (apply Ent.mem; repeat' (first | exact mcs | apply mct))))))); (intro _; exact rfl); (intro _; exact rfl))
      intro y _
      have hq0 := rsame_fn ⟨{ c.h with retry := false }, x0, c.b⟩ ⟨{ (D.getD k f0_).head with retry := false }, y, (D.getD k f0_).body⟩ hrw hrw2
      rw [show sameB (⟨{ c.h with retry := false }, x0, c.b⟩ : Fm).head (⟨{ (D.getD k f0_).head with retry := false }, y, (D.getD k f0_).body⟩ : Fm).head (⟨{ c.h with retry := false }, x0, c.b⟩ : Fm).body (⟨{ (D.getD k f0_).head with retry := false }, y, (D.getD k f0_).body⟩ : Fm).body = true by
        show sameB { c.h with retry := false } { (D.getD k f0_).head with retry := false } c.b (D.getD k f0_).body = true
        rw [hch, hcb]; unfold sameB; simp] at hq0
      repeat (first | refine n1 ?_ | refine n2 (fun b _ => ?_) | refine n3 (fun _ _ => ?_) | refine n4 ?_ | refine n5 ?_ | refine n6 (hq0) ?_ | refine n6v (hq0) ?_ | refine WL_nil ?_ | refine W_seq ?_ | refine W_region ?_ | refine n7 ?_ | refine n8 ?_ | refine W_block ?_ | refine W_skip ?_ | refine W_ret ?_ | refine W_exit ?_ | refine WQ_then ?_ | refine WQ_then_ret ?_ | refine WQ_then_exit ?_ | refine WQ_block_normal ?_ | refine WQ_block_ret ?_ | refine WQ_block_exit ?_ | refine n9 ?_)
      conv => arg 3; rw [show (!(true == !(⟨c.pc j (mv i).retry, ((C.getD k c0_).2.getD j f0_).bv, pcB c.b c.s j⟩ : Fm).head.more)) = false by rw [show (⟨c.pc j (mv i).retry, ((C.getD k c0_).2.getD j f0_).bv, pcB c.b c.s j⟩ : Fm).head.more = false from hmt]; rfl]
      repeat (first | refine n1 ?_ | refine n2 (fun b _ => ?_) | refine n3 (fun _ _ => ?_) | refine n4 ?_ | refine n5 ?_ | refine WL_nil ?_ | refine W_seq ?_ | refine W_region ?_ | refine n7 ?_ | refine n8 ?_ | refine W_block ?_ | refine W_skip ?_ | refine W_ret ?_ | refine W_exit ?_ | refine WQ_then ?_ | refine WQ_then_ret ?_ | refine WQ_then_exit ?_ | refine WQ_block_normal ?_ | refine WQ_block_ret ?_ | refine WQ_block_exit ?_ | refine n9 ?_)
      have hn : i + 1 ≤ q ∧ (0 ≤ now + (mv i).wait ∧ now + (mv i).wait ≤ ((i + 1 : Nat) : Int) * 1048576) ∧ validC (L1.map Pa.z) = true ∧ ∀ p ∈ L1.map Pa.z, InvP F p := ⟨f1, ⟨by omega, by omega⟩, by rw [hL1]; exact hnv, by rw [hL1]; exact hnI⟩
      ((apply WQ_again ((i + 1, now + (mv i).wait, x1, L1))); (focus exact hn); (focus (exact (show q - (i + 1) < q - i by omega))); (focus (repeat (first | exact FrIn.nil _ | (apply FrIn.cons; exact rfl; (first | exact rfl | (congr 1; first | omega | (dsimp only; omega)) | (simp; done)))))); (focus (repeat (first | exact SubO.nil _ | (apply SubO.cons; (focus (repeat' (first | exact Pick.head _ _ | apply Pick.tail))))))); (focus (repeat (first | exact AllE.nil _ | (apply AllE.cons; (focus (first | exact ent_nilBy | exact ent_nilSl | (apply Ent.mem; repeat' (first | exact mcs | apply mct)))))))))
end Go.Proofs.Ytglmcnjkcmbefaa
