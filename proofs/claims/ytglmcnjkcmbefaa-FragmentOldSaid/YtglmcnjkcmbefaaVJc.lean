/-
  The law 'FragmentOld' walked.
-/
import Derived.Test.YtglmcnjkcmbefaaVJb
namespace Go.Proofs.Ytglmcnjkcmbefaa
open Go Go.RowKit Go.Hs C05
/-- what is made of partial frames, told as lasting. -/
theorem Ct.letP {P : Program} {f : FuncId} {args : List Value} {Γ : List OA} {Φ : List SP} {X : Type} {pf : X → Prop} {ret : X → Value} {t bt : TypeId} {o : X → Value} {D : X → List Pa}
    (h : Ct P f args Γ Φ pf ret (fun x => [.row (o x) t 43 (D x).length (fcP (D x)), pk (rowsL bt (dlP (D x)))]) (fun _ => [])) :
    Ct P f args Γ Φ pf ret (fun _ => []) (fun x => [Rw 43 (o x) (D x).length (fun i => ((D x).getD i p0_).cells), Bd (D x)]) := by
  intro w O0 h0 ho hs
  refine (h w O0 h0 ho hs).mono fun e w' ⟨x, hp, he, hm, ho', hf, hs'⟩ => ⟨x, hp, he, hm, trivial, fun k hk => ?_, ?_⟩
  · obtain ⟨y, hy, _⟩ := hk
    cases hy
  · have hh : Holds { P := P, n := 0, w0 := w, O0 := O0, M := fpL Γ, rd := none, ds := [] } [.row (o x) t 43 (D x).length (fcP (D x)), pk (rowsL bt (dlP (D x)))] [] w' := ⟨hm, ho', hf, h0, hs'⟩
    have h1 := (Holds.letgo hh)
    have h3 : Holds { P := P, n := 0, w0 := w, O0 := O0, M := fpL Γ, rd := none, ds := [] } [] (Bd (D x) :: [Sl 43 (o x) (D x).length (fcP (D x))]) w' := Holds.bd h1
    intro ψ hψ
    rcases List.mem_cons.1 hψ with rfl | hψ
    · exact ent_slP (Φ := Bd (D x) :: [Sl 43 (o x) (D x).length (fcP (D x))]) (List.mem_cons_of_mem _ List.mem_cons_self) w' _ h3.sp
    · rcases List.mem_singleton.1 hψ with rfl
      exact h3.sp _ List.mem_cons_self
theorem expS_fn (v : Value) (l : List Pa) (now : Int) (e n : Int) (L : List Pz) (he : exE (l.map Pa.z) now = e) (hn : exN (l.map Pa.z) now = n) (hL : exL (l.map Pa.z) now = L) (hw : ∀ p ∈ l, p.w) : Ct Try.prog 17 [.agg #[v], .int .i64 now] [] [Rw 43 v l.length (fun i => (l.getD i p0_).cells), Bd l]
    (X := Value × List Pa) (fun x => x.2.map Pa.z = L) (fun x => .tuple #[.agg #[x.1], .int .i64 n, .int .i64 e]) (fun _ => []) (fun x => [Rw 43 x.1 x.2.length (fun i => (x.2.getD i p0_).cells), Bd x.2]) := by
  subst he; subst hn; subst hL
  exact Ct.letP (expire_fn v l now hw)
/-- partial frames that are fresh, counted. -/
def cntF (now : Int) (L : List Pz) (k : Nat) : Nat := ((L.take k).filter (freshP now)).length
theorem cntF_next {now : Int} {L : List Pz} {k : Nat} {p : Pz} (h : L[k]? = some p) : cntF now L (k + 1) = cntF now L k + (if freshP now p = true then 1 else 0) := by
  unfold cntF
  rw [List.take_add_one, h, List.filter_append, List.length_append]
  congr 1
  simp only [Option.toList_some, List.filter_cons, List.filter_nil]
  by_cases c : freshP now p = true
  · rw [if_pos c, if_pos c]; rfl
  · rw [if_neg c, if_neg c]; rfl
theorem cntF_all (now : Int) (L : List Pz) : cntF now L L.length = (L.filter (freshP now)).length := by
  unfold cntF
  rw [List.take_length]
theorem cntF_le (now : Int) (L : List Pz) (k : Nat) : cntF now L k ≤ k := by
  unfold cntF
  exact Nat.le_trans (List.length_filter_le _ _) (List.length_take_le _ _)
theorem exE_valid {L : List Pz} (v : validC L = true) (t : Int) : exE L t = if lateB t = true then 2 else 0 := by
  unfold exE
  rw [if_pos (chk_valid.2 v)]
theorem fresh_later {now later : Int} (h : now ≤ later) (L : List Pz) : (L.filter (freshP now)).filter (freshP later) = L.filter (freshP later) := by
  rw [List.filter_filter]
  refine List.filter_congr fun p _ => ?_
  unfold freshP
  by_cases c : later - p.since ≤ 500000
  · rw [decide_eq_true c, decide_eq_true (by omega)]; rfl
  · rw [decide_eq_false c]; rfl
/-- what expires twice. -/
theorem old_facts {L : List Pz} {now later : Int} (e : exE L now = 0) (h : now ≤ later) : validC L = true ∧ 0 ≤ now ∧ now ≤ maxT ∧ exL L now = L.filter (freshP now) ∧ validC (L.filter (freshP now)) = true ∧ exE (L.filter (freshP now)) later = exE L later ∧
    exL (L.filter (freshP now)) later = exL L later ∧ exN L now = (L.length : Int) - ((L.filter (freshP now)).length : Int) ∧ (exE L later = 0 → exN L now + exN (L.filter (freshP now)) later = exN L later) := by
  obtain ⟨h1, v, n0, n1⟩ := ex_z e
  have v2 := valid_filter (freshP now) v
  have e1 : exE (L.filter (freshP now)) later = exE L later := by rw [exE_valid v, exE_valid v2]
  have e2 : exL (L.filter (freshP now)) later = exL L later := by
    unfold exL
    rw [e1, fresh_later h]
  have e3 : exN L now = (L.length : Int) - ((L.filter (freshP now)).length : Int) := by
    unfold exN
    rw [if_pos e, h1]
  refine ⟨v, n0, n1, h1, v2, e1, e2, e3, fun e0 => ?_⟩
  rw [e3]
  unfold exN
  rw [e1, if_pos e0, if_pos e0, e2]
  omega
theorem old_col {L : List Pz} {now : Int} (e : exE L now = 0) (h : Hd) (b : List UInt8) : colR (L.filter (freshP now)) h b now = colR L h b now := by
  obtain ⟨_, n0, n1, h1, v2, e1, e2, _⟩ := old_facts e (Int.le_refl now)
  unfold colR
  rw [e1, e2]
theorem exL_valid {L : List Pz} (v : validC L = true) (t : Int) : validC (exL L t) = true := by
  unfold exL
  split
  · exact valid_filter _ v
  · rfl
theorem exN_rng (L : List Pz) (now : Int) : 0 ≤ exN L now ∧ exN L now ≤ L.length := by
  unfold exN exL
  split
  · have := List.length_filter_le (freshP now) L
    omega
  · omega
theorem wh_w {h : Hd} (hw : h.w) : (whH h).w := hw
theorem col_ww {L : List Pz} {h : Hd} {b : List UInt8} {now : Int} (hw : h.w) : (colR L h b now).wh.w := by
  rcases col_cases (L := L) (h := h) (b := b) (now := now) with ⟨h1, _⟩ | ⟨h1, v, n1, n2, hs, hb, hk⟩
  · rw [h1]; exact h0_w
  · rw [h1]
    have v2 := valid_filter (freshP now) v
    generalize L.filter (freshP now) = K at *
    rcases colG_cases K h b now with ⟨e, _, h2⟩ | ⟨_, _, h2⟩ | ⟨_, _, h2⟩ | ⟨_, p, hp, _, _, _, _, h2⟩
    · rw [h2]; exact h0_w
    · rw [h2]; exact h0_w
    · rw [h2]; exact wh_w hw
    · rcases h2 with ⟨_, h2⟩ | ⟨_, h2⟩
      · rw [h2]; exact h0_w
      · rw [h2]
        have h3 := okP_iff.1 ((valid_nd v2).1 p hp)
        exact wh_w (hd_w_of h3.1)
theorem col_nw {L : List Pz} {h : Hd} {b : List UInt8} {now : Int} {l : List Pa} (hl : l.map Pa.z = (colR L h b now).nl) : ∀ p ∈ l, p.w := by
  rcases col_cases (L := L) (h := h) (b := b) (now := now) with ⟨h1, _⟩ | _
  · rw [h1] at hl
    obtain rfl : l = [] := List.map_eq_nil_iff.1 hl
    intro p hp
    cases hp
  · by_cases he : (colR L h b now).e = 0
    · exact valid_w (by rw [hl]; exact col_valid he)
    · rcases col_cases (L := L) (h := h) (b := b) (now := now) with ⟨h1, _⟩ | ⟨h1, v, n1, n2, hs, hb, hk⟩
      · rw [h1] at hl
        obtain rfl : l = [] := List.map_eq_nil_iff.1 hl
        intro p hp
        cases hp
      · rw [h1] at hl he
        generalize L.filter (freshP now) = K at *
        rcases colG_cases K h b now with ⟨e, _, h2⟩ | ⟨_, _, h2⟩ | ⟨_, _, h2⟩ | ⟨_, p, hp, _, _, _, _, h2⟩
        · rw [h2] at hl
          obtain rfl : l = [] := List.map_eq_nil_iff.1 hl
          intro p hp
          cases hp
        · rw [h2] at he; exact absurd rfl he
        · rw [h2] at he; exact absurd rfl he
        · rcases h2 with ⟨_, h2⟩ | ⟨_, h2⟩
          · rw [h2] at he; exact absurd rfl he
          · rw [h2] at he; exact absurd rfl he
attribute [local irreducible] WL W WQ PL Runs Effs AllE Ent SubO FrIn Pick OneC Ones CellsE PartsE SeqE UZ By Sl Pt Ct

set_option maxRecDepth 100000 in
set_option maxHeartbeats 32000000 in
theorem oldLaw_fn (v : Value) (l : List Pa) (f : Fm) (now later : Int) (hlw : ∀ p ∈ l, p.w) (hw : f.head.w) : CtD Try.prog 8 [.agg #[v], f.val, .int .i64 now, .int .i64 later]
    [Rw 43 v l.length (fun i => (l.getD i p0_).cells), Bd l, f.fact] (.bool true) := by
  have hal := alive_fn
  have hgr := great_fn f
  obtain ⟨gb, hgb⟩ : ∃ b : Bool, b = true ↔ (∃ i, i < l.length ∧ i ≤ 12 ∧ 2400 < (l.getD i p0_).body.length) ∨ 12 < l.length := by
    classical exact ⟨decide _, decide_eq_true_iff⟩
  have hgc := greatC_fn v l gb hgb
  cases gb with
  | true =>
    refine Ct_intro Try.func8 rfl Try.ntmps8 (by simp) _ rfl (fun w0 O0 => ?_)
    repeat (first | refine n1 ?_ | refine n2 (fun b _ => ?_) | refine n3 (fun _ _ => ?_) | refine n4 ?_ | refine n5 ?_ | refine n6 (hal) ?_ | refine n6 (hgc) ?_ | refine n6v (hal) ?_ | refine n6v (hgc) ?_ | refine WL_nil ?_ | refine W_seq ?_ | refine W_region ?_ | refine n7 ?_ | refine n8 ?_ | refine W_block ?_ | refine W_skip ?_ | refine W_ret ?_ | refine W_exit ?_ | refine WQ_then ?_ | refine WQ_then_ret ?_ | refine WQ_then_exit ?_ | refine WQ_block_normal ?_ | refine WQ_block_ret ?_ | refine WQ_block_exit ?_ | refine n9 ?_)
    ((apply ret1 Try.results8 ( ())); (focus (first | trivial | assumption | omega)); (focus (first | exact RV_tmp rfl | (apply RV_cellN; exact rfl; (repeat' (first | exact Pick.head _ _ | apply Pick.tail)); (intro _; exact rfl); (intro _; exact rfl); exact rfl) | (apply RV_cell1; exact rfl; (repeat' (first | exact Pick.head _ _ | apply Pick.tail)); (intro _; exact rfl); exact rfl)));  (focus (first | exact rfl | (simp; done))); (focus (repeat (first | exact SubO.nil _ | (apply SubO.cons; (focus (repeat' (first | exact Pick.head _ _ | apply Pick.tail))))))); (focus (repeat (first | exact AllE.nil _ | (apply AllE.cons; (focus (first | exact ent_nilBy | exact ent_nilSl | (apply Ent.mem; repeat' (first | exact mcs | apply mct)))))))))
  | false =>
  by_cases c1 : 2400 < f.body.length
  · rw [decide_eq_true c1] at hgr
    refine Ct_intro Try.func8 rfl Try.ntmps8 (by simp) _ rfl (fun w0 O0 => ?_)
    repeat (first | refine n1 ?_ | refine n2 (fun b _ => ?_) | refine n3 (fun _ _ => ?_) | refine n4 ?_ | refine n5 ?_ | refine n6 (hal) ?_ | refine n6 (hgc) ?_ | refine n6 (hgr) ?_ | refine n6v (hal) ?_ | refine n6v (hgc) ?_ | refine n6v (hgr) ?_ | refine WL_nil ?_ | refine W_seq ?_ | refine W_region ?_ | refine n7 ?_ | refine n8 ?_ | refine W_block ?_ | refine W_skip ?_ | refine W_ret ?_ | refine W_exit ?_ | refine WQ_then ?_ | refine WQ_then_ret ?_ | refine WQ_then_exit ?_ | refine WQ_block_normal ?_ | refine WQ_block_ret ?_ | refine WQ_block_exit ?_ | refine n9 ?_)
    ((apply ret1 Try.results8 ( ())); (focus (first | trivial | assumption | omega)); (focus (first | exact RV_tmp rfl | (apply RV_cellN; exact rfl; (repeat' (first | exact Pick.head _ _ | apply Pick.tail)); (intro _; exact rfl); (intro _; exact rfl); exact rfl) | (apply RV_cell1; exact rfl; (repeat' (first | exact Pick.head _ _ | apply Pick.tail)); (intro _; exact rfl); exact rfl)));  (focus (first | exact rfl | (simp; done))); (focus (repeat (first | exact SubO.nil _ | (apply SubO.cons; (focus (repeat' (first | exact Pick.head _ _ | apply Pick.tail))))))); (focus (repeat (first | exact AllE.nil _ | (apply AllE.cons; (focus (first | exact ent_nilBy | exact ent_nilSl | (apply Ent.mem; repeat' (first | exact mcs | apply mct)))))))))
  rw [decide_eq_false c1] at hgr
  obtain ⟨L, hLz⟩ : ∃ L, L = l.map Pa.z := ⟨_, rfl⟩
  by_cases c2 : exE L now = 0
  case neg =>
    have hx := expS_fn v l now (exE L now) (exN L now) (exL L now) (by rw [hLz]) (by rw [hLz]) (by rw [hLz]) hlw
    refine Ct_intro Try.func8 rfl Try.ntmps8 (by simp) _ rfl (fun w0 O0 => ?_)
    repeat (first | refine n1 ?_ | refine n2 (fun b _ => ?_) | refine n3 (fun _ _ => ?_) | refine n4 ?_ | refine n5 ?_ | refine n6 (hal) ?_ | refine n6 (hgc) ?_ | refine n6 (hgr) ?_ | refine n6v (hal) ?_ | refine n6v (hgc) ?_ | refine n6v (hgr) ?_ | refine WL_nil ?_ | refine W_seq ?_ | refine W_region ?_ | refine n7 ?_ | refine n8 ?_ | refine W_block ?_ | refine W_skip ?_ | refine W_ret ?_ | refine W_exit ?_ | refine WQ_then ?_ | refine WQ_then_ret ?_ | refine WQ_then_exit ?_ | refine WQ_block_normal ?_ | refine WQ_block_ret ?_ | refine WQ_block_exit ?_ | refine n9 ?_)
    (apply WL_effs; exact rfl; exact rfl; exact rfl; apply E_call; exact rfl; (intro _ _; simp); exact hx; (repeat (first | exact AllE.nil _ | (apply AllE.cons; (focus (first | exact ent_nilBy | exact ent_nilSl | (apply Ent.mem; repeat' (first | exact mcs | apply mct))))))); (intro _; exact rfl); (intro _; exact rfl))
    rintro ⟨u1, l1⟩ _
    dsimp only
    repeat (first | refine n1 ?_ | refine n2 (fun b _ => ?_) | refine n3 (fun _ _ => ?_) | refine n4 ?_ | refine n5 ?_ | refine WL_nil ?_ | refine W_seq ?_ | refine W_region ?_ | refine n7 ?_ | refine n8 ?_ | refine W_block ?_ | refine W_skip ?_ | refine W_ret ?_ | refine W_exit ?_ | refine WQ_then ?_ | refine WQ_then_ret ?_ | refine WQ_then_exit ?_ | refine WQ_block_normal ?_ | refine WQ_block_ret ?_ | refine WQ_block_exit ?_ | refine n9 ?_)
    ((apply ret1 Try.results8 ( ())); (focus (first | trivial | assumption | omega)); (focus (first | exact RV_tmp rfl | (apply RV_cellN; exact rfl; (repeat' (first | exact Pick.head _ _ | apply Pick.tail)); (intro _; exact rfl); (intro _; exact rfl); exact rfl) | (apply RV_cell1; exact rfl; (repeat' (first | exact Pick.head _ _ | apply Pick.tail)); (intro _; exact rfl); exact rfl)));  (focus (first | exact rfl | (simp; done))); (focus (repeat (first | exact SubO.nil _ | (apply SubO.cons; (focus (repeat' (first | exact Pick.head _ _ | apply Pick.tail))))))); (focus (repeat (first | exact AllE.nil _ | (apply AllE.cons; (focus (first | exact ent_nilBy | exact ent_nilSl | (apply Ent.mem; repeat' (first | exact mcs | apply mct)))))))))
  by_cases c3 : later < now
  · have hx := expS_fn v l now (exE L now) (exN L now) (exL L now) (by rw [hLz]) (by rw [hLz]) (by rw [hLz]) hlw
    rw [c2] at hx
    refine Ct_intro Try.func8 rfl Try.ntmps8 (by simp) _ rfl (fun w0 O0 => ?_)
    repeat (first | refine n1 ?_ | refine n2 (fun b _ => ?_) | refine n3 (fun _ _ => ?_) | refine n4 ?_ | refine n5 ?_ | refine n6 (hal) ?_ | refine n6 (hgc) ?_ | refine n6 (hgr) ?_ | refine n6v (hal) ?_ | refine n6v (hgc) ?_ | refine n6v (hgr) ?_ | refine WL_nil ?_ | refine W_seq ?_ | refine W_region ?_ | refine n7 ?_ | refine n8 ?_ | refine W_block ?_ | refine W_skip ?_ | refine W_ret ?_ | refine W_exit ?_ | refine WQ_then ?_ | refine WQ_then_ret ?_ | refine WQ_then_exit ?_ | refine WQ_block_normal ?_ | refine WQ_block_ret ?_ | refine WQ_block_exit ?_ | refine n9 ?_)
    (apply WL_effs; exact rfl; exact rfl; exact rfl; apply E_call; exact rfl; (intro _ _; simp); exact hx; (repeat (first | exact AllE.nil _ | (apply AllE.cons; (focus (first | exact ent_nilBy | exact ent_nilSl | (apply Ent.mem; repeat' (first | exact mcs | apply mct))))))); (intro _; exact rfl); (intro _; exact rfl))
    rintro ⟨u1, l1⟩ _
    dsimp only
    repeat (first | refine n1 ?_ | refine n2 (fun b _ => ?_) | refine n3 (fun _ _ => ?_) | refine n4 ?_ | refine n5 ?_ | refine WL_nil ?_ | refine W_seq ?_ | refine W_region ?_ | refine n7 ?_ | refine n8 ?_ | refine W_block ?_ | refine W_skip ?_ | refine W_ret ?_ | refine W_exit ?_ | refine WQ_then ?_ | refine WQ_then_ret ?_ | refine WQ_then_exit ?_ | refine WQ_block_normal ?_ | refine WQ_block_ret ?_ | refine WQ_block_exit ?_ | refine n9 ?_)
    ((apply ret1 Try.results8 ( ())); (focus (first | trivial | assumption | omega)); (focus (first | exact RV_tmp rfl | (apply RV_cellN; exact rfl; (repeat' (first | exact Pick.head _ _ | apply Pick.tail)); (intro _; exact rfl); (intro _; exact rfl); exact rfl) | (apply RV_cell1; exact rfl; (repeat' (first | exact Pick.head _ _ | apply Pick.tail)); (intro _; exact rfl); exact rfl)));  (focus (first | exact rfl | (simp; done))); (focus (repeat (first | exact SubO.nil _ | (apply SubO.cons; (focus (repeat' (first | exact Pick.head _ _ | apply Pick.tail))))))); (focus (repeat (first | exact AllE.nil _ | (apply AllE.cons; (focus (first | exact ent_nilBy | exact ent_nilSl | (apply Ent.mem; repeat' (first | exact mcs | apply mct)))))))))
  obtain ⟨hv, hn0, hn1, o1, o2, o3, o4, o5, o6⟩ := old_facts c2 (by omega : now ≤ later)
  have hx := expS_fn v l now 0 (exN L now) (L.filter (freshP now)) (by rw [← hLz, c2]) (by rw [hLz]) (by rw [← hLz, o1]) hlw
  have hL8 := (valid_nd hv).2.2
  have hll : L.length = l.length := by rw [hLz, List.length_map]
  have hy := expS_fn v l later (exE L later) (exN L later) (exL L later) (by rw [hLz]) (by rw [hLz]) (by rw [hLz]) hlw
  have r1 := exN_rng L now
  have r2 := exN_rng (L.filter (freshP now)) later
  have r3 := exN_rng L later
  refine Ct_intro Try.func8 rfl Try.ntmps8 (by simp) _ rfl (fun w0 O0 => ?_)
  repeat (first | refine n1 ?_ | refine n2 (fun b _ => ?_) | refine n3 (fun _ _ => ?_) | refine n4 ?_ | refine n5 ?_ | refine n6 (hal) ?_ | refine n6 (hgc) ?_ | refine n6 (hgr) ?_ | refine n6v (hal) ?_ | refine n6v (hgc) ?_ | refine n6v (hgr) ?_ | refine WL_nil ?_ | refine W_seq ?_ | refine W_region ?_ | refine n7 ?_ | refine n8 ?_ | refine W_block ?_ | refine W_skip ?_ | refine W_ret ?_ | refine W_exit ?_ | refine WQ_then ?_ | refine WQ_then_ret ?_ | refine WQ_then_exit ?_ | refine WQ_block_normal ?_ | refine WQ_block_ret ?_ | refine WQ_block_exit ?_ | refine n9 ?_)
  (apply WL_effs; exact rfl; exact rfl; exact rfl; apply E_call; exact rfl; (intro _ _; simp); exact hx; (repeat (first | exact AllE.nil _ | (apply AllE.cons; (focus (first | exact ent_nilBy | exact ent_nilSl | (apply Ent.mem; repeat' (first | exact mcs | apply mct))))))); (intro _; exact rfl); (intro _; exact rfl))
  rintro ⟨u1, l1⟩ hl1
  replace hl1 : l1.map Pa.z = L.filter (freshP now) := hl1
  have hK : (L.filter (freshP now)).length = l1.length := by rw [← hl1, List.length_map]
  have hK8 := (valid_nd o2).2.2
  have hw1 : ∀ p ∈ l1, p.w := valid_w (by rw [hl1]; exact o2)
  have hz := expS_fn u1 l1 later (exE L later) (exN (L.filter (freshP now)) later) (exL L later) (by rw [hl1, o3]) (by rw [hl1]) (by rw [hl1, o4]) hw1
  dsimp only
  repeat (first | refine n1 ?_ | refine n2 (fun b _ => ?_) | refine n3 (fun _ _ => ?_) | refine n4 ?_ | refine n5 ?_ | refine WL_nil ?_ | refine W_seq ?_ | refine W_region ?_ | refine n7 ?_ | refine n8 ?_ | refine W_block ?_ | refine W_skip ?_ | refine W_ret ?_ | refine W_exit ?_ | refine WQ_then ?_ | refine WQ_then_ret ?_ | refine WQ_then_exit ?_ | refine WQ_block_normal ?_ | refine WQ_block_ret ?_ | refine WQ_block_exit ?_ | refine n9 ?_)
  (apply WL_effs; exact rfl; exact rfl; exact rfl; apply E_call; exact rfl; (intro _ _; simp); exact hz; (repeat (first | exact AllE.nil _ | (apply AllE.cons; (focus (first | exact ent_nilBy | exact ent_nilSl | (apply Ent.mem; repeat' (first | exact mcs | apply mct))))))); (intro _; exact rfl); (intro _; exact rfl))
  rintro ⟨u2, l2⟩ hl2
  replace hl2 : l2.map Pa.z = exL L later := hl2
  dsimp only
  repeat (first | refine n1 ?_ | refine n2 (fun b _ => ?_) | refine n3 (fun _ _ => ?_) | refine n4 ?_ | refine n5 ?_ | refine WL_nil ?_ | refine W_seq ?_ | refine W_region ?_ | refine n7 ?_ | refine n8 ?_ | refine W_block ?_ | refine W_skip ?_ | refine W_ret ?_ | refine W_exit ?_ | refine WQ_then ?_ | refine WQ_then_ret ?_ | refine WQ_then_exit ?_ | refine WQ_block_normal ?_ | refine WQ_block_ret ?_ | refine WQ_block_exit ?_ | refine n9 ?_)
  (apply WL_effs; exact rfl; exact rfl; exact rfl; apply E_call; exact rfl; (intro _ _; simp); exact hy; (repeat (first | exact AllE.nil _ | (apply AllE.cons; (focus (first | exact ent_nilBy | exact ent_nilSl | (apply Ent.mem; repeat' (first | exact mcs | apply mct))))))); (intro _; exact rfl); (intro _; exact rfl))
  rintro ⟨u3, l3⟩ hl3
  replace hl3 : l3.map Pa.z = exL L later := hl3
  dsimp only
  repeat (first | refine n1 ?_ | refine n2 (fun b _ => ?_) | refine n3 (fun _ _ => ?_) | refine n4 ?_ | refine n5 ?_ | refine WL_nil ?_ | refine W_seq ?_ | refine W_region ?_ | refine n7 ?_ | refine n8 ?_ | refine W_block ?_ | refine W_skip ?_ | refine W_ret ?_ | refine W_exit ?_ | refine WQ_then ?_ | refine WQ_then_ret ?_ | refine WQ_then_exit ?_ | refine WQ_block_normal ?_ | refine WQ_block_ret ?_ | refine WQ_block_exit ?_ | refine n9 ?_)
  ((apply W_loopK (X := Nat × Unit) [19, 20] [] (fun x => x.1 ≤ l.length) (fun x => [(19, .int .i64 (cntF now L x.1 : Int)), (20, .int .i64 (x.1 : Int))]) (fun _ => []) (fun _ => []) (fun x => l.length - x.1) ((0, ()))); (focus exact Nat.zero_le _); exact rfl; exact rfl; (intro _; exact rfl); (intro _; exact rfl); (intro _; exact rfl); (focus (repeat (first | exact FrIn.nil _ | (apply FrIn.cons; exact rfl; (first | exact rfl | (congr 1; first | omega | (dsimp only; omega)) | (simp; done)))))); (focus (repeat (first | exact SubO.nil _ | (apply SubO.cons; (focus (repeat' (first | exact Pick.head _ _ | apply Pick.tail))))))); (focus (repeat (first | exact AllE.nil _ | (apply AllE.cons; (focus (first | exact ent_nilBy | exact ent_nilSl | (apply Ent.mem; repeat' (first | exact mcs | apply mct)))))))); intro x hx)
  obtain ⟨i, _⟩ := x
  replace hx : i ≤ l.length := hx
  dsimp only
  have hcl := cntF_le now L i
  by_cases d1 : i < l.length
  · have hz1 : L[i]? = some (l.getD i p0_).z := by rw [hLz]; exact getz d1
    have hnx := cntF_next (now := now) hz1
    have hsi := (okP_iff.1 ((valid_nd hv).1 _ (List.mem_of_getElem? hz1))).2.2.2.2.2.2.2
    replace hsi : 0 ≤ (l.getD i p0_).since ∧ (l.getD i p0_).since ≤ maxT := hsi
    have hmx : maxT = 1099511627776 := rfl
    by_cases d2 : now - (l.getD i p0_).since ≤ 500000
    · rw [if_pos (show freshP now (l.getD i p0_).z = true from decide_eq_true d2)] at hnx
      repeat (first | refine n1 ?_ | refine n2 (fun b _ => ?_) | refine n3 (fun _ _ => ?_) | refine n4 ?_ | refine n5 ?_ | refine WL_nil ?_ | refine W_seq ?_ | refine W_region ?_ | refine n7 ?_ | refine n8 ?_ | refine W_block ?_ | refine W_skip ?_ | refine W_ret ?_ | refine W_exit ?_ | refine WQ_then ?_ | refine WQ_then_ret ?_ | refine WQ_then_exit ?_ | refine WQ_block_normal ?_ | refine WQ_block_ret ?_ | refine WQ_block_exit ?_ | refine n9 ?_)
      ((apply WQ_again ((i + 1, ()))); (focus exact d1); (focus (exact (show l.length - (i + 1) < l.length - i by omega))); (focus (repeat (first | exact FrIn.nil _ | (apply FrIn.cons; exact rfl; (first | exact rfl | (congr 1; first | omega | (dsimp only; omega)) | (simp; done)))))); (focus (repeat (first | exact SubO.nil _ | (apply SubO.cons; (focus (repeat' (first | exact Pick.head _ _ | apply Pick.tail))))))); (focus (repeat (first | exact AllE.nil _ | (apply AllE.cons; (focus (first | exact ent_nilBy | exact ent_nilSl | (apply Ent.mem; repeat' (first | exact mcs | apply mct)))))))))
    · rw [if_neg (show ¬ freshP now (l.getD i p0_).z = true from fun h => d2 (of_decide_eq_true h))] at hnx
      repeat (first | refine n1 ?_ | refine n2 (fun b _ => ?_) | refine n3 (fun _ _ => ?_) | refine n4 ?_ | refine n5 ?_ | refine WL_nil ?_ | refine W_seq ?_ | refine W_region ?_ | refine n7 ?_ | refine n8 ?_ | refine W_block ?_ | refine W_skip ?_ | refine W_ret ?_ | refine W_exit ?_ | refine WQ_then ?_ | refine WQ_then_ret ?_ | refine WQ_then_exit ?_ | refine WQ_block_normal ?_ | refine WQ_block_ret ?_ | refine WQ_block_exit ?_ | refine n9 ?_)
      ((apply WQ_again ((i + 1, ()))); (focus exact d1); (focus (exact (show l.length - (i + 1) < l.length - i by omega))); (focus (repeat (first | exact FrIn.nil _ | (apply FrIn.cons; exact rfl; (first | exact rfl | (congr 1; first | omega | (dsimp only; omega)) | (simp; done)))))); (focus (repeat (first | exact SubO.nil _ | (apply SubO.cons; (focus (repeat' (first | exact Pick.head _ _ | apply Pick.tail))))))); (focus (repeat (first | exact AllE.nil _ | (apply AllE.cons; (focus (first | exact ent_nilBy | exact ent_nilSl | (apply Ent.mem; repeat' (first | exact mcs | apply mct)))))))))
  · obtain rfl : i = l.length := by omega
    have hal2 : cntF now L l.length = l1.length := by rw [← hll, cntF_all, hK]
    rw [hal2]
    have hsm := sameC_fn u2 l2 u3 l3 (hl2.trans hl3.symm) (valid_w (by rw [hl2]; exact exL_valid hv later))
    obtain ⟨R, hR⟩ : ∃ R, colR L f.head f.body now = R := ⟨_, rfl⟩
    have kc1 := colK v l f now R (by rw [← hLz]; exact hR) hlw hw (by omega)
    have kc2 := colK u1 l1 f now R (by rw [hl1]; exact (old_col c2 _ _).trans hR) hw1 hw (by omega)
    have hRw : R.wh.w := by rw [← hR]; exact col_ww hw
    have hRn : ∀ m : List Pa, m.map Pa.z = R.nl → ∀ p ∈ m, p.w := fun m hm => by rw [← hR] at hm; exact col_nw hm
    clear hR
    obtain ⟨re, rd, rh, rb, rn⟩ := R
    dsimp only at kc1 kc2 hRw hRn
    have hsf : ∀ x y : Value, CtD Try.prog 14 [(⟨rh, x, rb⟩ : Fm).val, (⟨rh, y, rb⟩ : Fm).val] [(⟨rh, x, rb⟩ : Fm).fact, (⟨rh, y, rb⟩ : Fm).fact] (.bool true) := fun x y => by
      have h := rsame_fn ⟨rh, x, rb⟩ ⟨rh, y, rb⟩ hRw hRw
      rwa [show sameB (⟨rh, x, rb⟩ : Fm).head (⟨rh, y, rb⟩ : Fm).head (⟨rh, x, rb⟩ : Fm).body (⟨rh, y, rb⟩ : Fm).body = true by
        show sameB rh rh rb rb = true
        unfold sameB; simp] at h
    have hsc : ∀ (x : Value) (m : List Pa) (y : Value) (k : List Pa), m.map Pa.z = rn → k.map Pa.z = rn → CtD Try.prog 23 [.agg #[x], .agg #[y]] [Rw 43 x m.length (fun i => (m.getD i p0_).cells), Bd m, Rw 43 y k.length (fun i => (k.getD i p0_).cells), Bd k] (.bool true) := fun x m y k e1 e2 =>
      sameC_fn x m y k (e1.trans e2.symm) (hRn m e1)
    by_cases g0 : exE L later = 0
    · repeat (first | refine n1 ?_ | refine n2 (fun b _ => ?_) | refine n3 (fun _ _ => ?_) | refine n4 ?_ | refine n5 ?_ | refine n6 (hsm) ?_ | refine n6v (hsm) ?_ | refine WL_nil ?_ | refine W_seq ?_ | refine W_region ?_ | refine n7 ?_ | refine n8 ?_ | refine W_block ?_ | refine W_skip ?_ | refine W_ret ?_ | refine W_exit ?_ | refine WQ_then ?_ | refine WQ_then_ret ?_ | refine WQ_then_exit ?_ | refine WQ_block_normal ?_ | refine WQ_block_ret ?_ | refine WQ_block_exit ?_ | refine n9 ?_)
      (apply WL_effs; exact rfl; exact rfl; exact rfl; apply E_call; exact rfl; (intro _ _; simp); exact kc1; (repeat (first | exact AllE.nil _ | (apply AllE.cons; (focus (first | exact ent_nilBy | exact ent_nilSl | (apply Ent.mem; repeat' (first | exact mcs | apply mct))))))); (intro _; exact rfl); (intro _; exact rfl))
      rintro ⟨x0, x1, L1⟩ hL1
      replace hL1 : L1.map Pa.z = rn := hL1
      dsimp only
      repeat (first | refine n1 ?_ | refine n2 (fun b _ => ?_) | refine n3 (fun _ _ => ?_) | refine n4 ?_ | refine n5 ?_ | refine WL_nil ?_ | refine W_seq ?_ | refine W_region ?_ | refine n7 ?_ | refine n8 ?_ | refine W_block ?_ | refine W_skip ?_ | refine W_ret ?_ | refine W_exit ?_ | refine WQ_then ?_ | refine WQ_then_ret ?_ | refine WQ_then_exit ?_ | refine WQ_block_normal ?_ | refine WQ_block_ret ?_ | refine WQ_block_exit ?_ | refine n9 ?_)
      (apply WL_effs; exact rfl; exact rfl; exact rfl; apply E_call; exact rfl; (intro _ _; simp); exact kc2; (repeat (first | exact AllE.nil _ | (apply AllE.cons; (focus (first | exact ent_nilBy | exact ent_nilSl | (apply Ent.mem; repeat' (first | exact mcs | apply mct))))))); (intro _; exact rfl); (intro _; exact rfl))
      rintro ⟨y0, y1, L2⟩ hL2
      replace hL2 : L2.map Pa.z = rn := hL2
      dsimp only
      have q1 := hsf x0 y0
      have q2 := hsc x1 L1 y1 L2 hL1 hL2
      cases rd
      all_goals
        repeat (first | refine n1 ?_ | refine n2 (fun b _ => ?_) | refine n3 (fun _ _ => ?_) | refine n4 ?_ | refine n5 ?_ | refine n6 (q1) ?_ | refine n6 (q2) ?_ | refine n6v (q1) ?_ | refine n6v (q2) ?_ | refine WL_nil ?_ | refine W_seq ?_ | refine W_region ?_ | refine n7 ?_ | refine n8 ?_ | refine W_block ?_ | refine W_skip ?_ | refine W_ret ?_ | refine W_exit ?_ | refine WQ_then ?_ | refine WQ_then_ret ?_ | refine WQ_then_exit ?_ | refine WQ_block_normal ?_ | refine WQ_block_ret ?_ | refine WQ_block_exit ?_ | refine n9 ?_)
        ((apply ret1 Try.results8 ( ())); (focus (first | trivial | assumption | omega)); (focus (first | exact RV_tmp rfl | (apply RV_cellN; exact rfl; (repeat' (first | exact Pick.head _ _ | apply Pick.tail)); (intro _; exact rfl); (intro _; exact rfl); exact rfl) | (apply RV_cell1; exact rfl; (repeat' (first | exact Pick.head _ _ | apply Pick.tail)); (intro _; exact rfl); exact rfl)));  (focus (first | exact rfl | (simp; done))); (focus (repeat (first | exact SubO.nil _ | (apply SubO.cons; (focus (repeat' (first | exact Pick.head _ _ | apply Pick.tail))))))); (focus (repeat (first | exact AllE.nil _ | (apply AllE.cons; (focus (first | exact ent_nilBy | exact ent_nilSl | (apply Ent.mem; repeat' (first | exact mcs | apply mct)))))))))
    · repeat (first | refine n1 ?_ | refine n2 (fun b _ => ?_) | refine n3 (fun _ _ => ?_) | refine n4 ?_ | refine n5 ?_ | refine n6 (hsm) ?_ | refine n6v (hsm) ?_ | refine WL_nil ?_ | refine W_seq ?_ | refine W_region ?_ | refine n7 ?_ | refine n8 ?_ | refine W_block ?_ | refine W_skip ?_ | refine W_ret ?_ | refine W_exit ?_ | refine WQ_then ?_ | refine WQ_then_ret ?_ | refine WQ_then_exit ?_ | refine WQ_block_normal ?_ | refine WQ_block_ret ?_ | refine WQ_block_exit ?_ | refine n9 ?_)
      (apply WL_effs; exact rfl; exact rfl; exact rfl; apply E_call; exact rfl; (intro _ _; simp); exact kc1; (repeat (first | exact AllE.nil _ | (apply AllE.cons; (focus (first | exact ent_nilBy | exact ent_nilSl | (apply Ent.mem; repeat' (first | exact mcs | apply mct))))))); (intro _; exact rfl); (intro _; exact rfl))
      rintro ⟨x0, x1, L1⟩ hL1
      replace hL1 : L1.map Pa.z = rn := hL1
      dsimp only
      repeat (first | refine n1 ?_ | refine n2 (fun b _ => ?_) | refine n3 (fun _ _ => ?_) | refine n4 ?_ | refine n5 ?_ | refine WL_nil ?_ | refine W_seq ?_ | refine W_region ?_ | refine n7 ?_ | refine n8 ?_ | refine W_block ?_ | refine W_skip ?_ | refine W_ret ?_ | refine W_exit ?_ | refine WQ_then ?_ | refine WQ_then_ret ?_ | refine WQ_then_exit ?_ | refine WQ_block_normal ?_ | refine WQ_block_ret ?_ | refine WQ_block_exit ?_ | refine n9 ?_)
      (apply WL_effs; exact rfl; exact rfl; exact rfl; apply E_call; exact rfl; (intro _ _; simp); exact kc2; (repeat (first | exact AllE.nil _ | (apply AllE.cons; (focus (first | exact ent_nilBy | exact ent_nilSl | (apply Ent.mem; repeat' (first | exact mcs | apply mct))))))); (intro _; exact rfl); (intro _; exact rfl))
      rintro ⟨y0, y1, L2⟩ hL2
      replace hL2 : L2.map Pa.z = rn := hL2
      dsimp only
      have q1 := hsf x0 y0
      have q2 := hsc x1 L1 y1 L2 hL1 hL2
      cases rd
      all_goals
        repeat (first | refine n1 ?_ | refine n2 (fun b _ => ?_) | refine n3 (fun _ _ => ?_) | refine n4 ?_ | refine n5 ?_ | refine n6 (q1) ?_ | refine n6 (q2) ?_ | refine n6v (q1) ?_ | refine n6v (q2) ?_ | refine WL_nil ?_ | refine W_seq ?_ | refine W_region ?_ | refine n7 ?_ | refine n8 ?_ | refine W_block ?_ | refine W_skip ?_ | refine W_ret ?_ | refine W_exit ?_ | refine WQ_then ?_ | refine WQ_then_ret ?_ | refine WQ_then_exit ?_ | refine WQ_block_normal ?_ | refine WQ_block_ret ?_ | refine WQ_block_exit ?_ | refine n9 ?_)
        ((apply ret1 Try.results8 ( ())); (focus (first | trivial | assumption | omega)); (focus (first | exact RV_tmp rfl | (apply RV_cellN; exact rfl; (repeat' (first | exact Pick.head _ _ | apply Pick.tail)); (intro _; exact rfl); (intro _; exact rfl); exact rfl) | (apply RV_cell1; exact rfl; (repeat' (first | exact Pick.head _ _ | apply Pick.tail)); (intro _; exact rfl); exact rfl)));  (focus (first | exact rfl | (simp; done))); (focus (repeat (first | exact SubO.nil _ | (apply SubO.cons; (focus (repeat' (first | exact Pick.head _ _ | apply Pick.tail))))))); (focus (repeat (first | exact AllE.nil _ | (apply AllE.cons; (focus (first | exact ent_nilBy | exact ent_nilSl | (apply Ent.mem; repeat' (first | exact mcs | apply mct)))))))))
end Go.Proofs.Ytglmcnjkcmbefaa
