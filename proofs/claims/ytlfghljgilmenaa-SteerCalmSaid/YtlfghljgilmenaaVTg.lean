/-
  'SteerCalm'.
-/
import Derived.Test.YtlfghljgilmenaaVTe
import Derived.Test.YtlfghljgilmenaaVTd
namespace Go.Proofs.Ytlfghljgilmenaa
open Go Go.RowKit Go.Hs
section
variable {t : Stt} {l : List Nea} {now : Int}
theorem cho_cand {n : Nea} (h : choO t l now = some n) : stopE t l now = 0 ∧ barredB t n.pt now = false ∧ ¬ now < t.since + t.plan.stay := by
  by_cases c : stopE t l now = 0
  · obtain ⟨_, _, _, _, _, _, h2, h3, _⟩ := law_some c h
    exact ⟨c, h2, h3⟩
  · rw [show choO t l now = none from if_neg c] at h
    cases h
theorem ask_cand {n : Nea} (h : askO t l now = some n) : stopE t l now = 0 ∧ barredB t n.pt now = false ∧ ¬ now < t.since + t.plan.stay := by
  by_cases c : stopE t l now = 0
  · have e : askO t l now = (candL t l now).find? (fun n => decide (t.plan.low ≤ n.lv)) := if_pos c
    rw [e] at h
    have hm := List.mem_of_find?_eq_some h
    unfold candL at hm
    by_cases c2 : now < t.since + t.plan.stay
    · rw [if_pos c2] at hm; cases hm
    · rw [if_neg c2] at hm
      have := (List.mem_filter.1 hm).2
      unfold candB at this
      rw [Bool.and_eq_true, Bool.not_eq_true', Bool.not_eq_true'] at this
      exact ⟨c, this.2, c2⟩
  · rw [show askO t l now = none from if_neg c] at h
    cases h
end
/-- what the law asks of a later choice. -/
theorem calm_end {s : Stt} {now wait : Int} {x : Value} {o : Option Nea} {e_ : A6} (L : List Vis) (hw : wait < s.plan.back)
    (hb : ∀ n, o = some n → vStB ⟨s.plan, e_, now, x, L ++ [⟨s.pt, now⟩]⟩ = true ∧ barredB ⟨s.plan, e_, now, x, L ++ [⟨s.pt, now⟩]⟩ n.pt (now + wait) = false) : o.isSome = true → ¬ ptO o = s.pt := by
  intro ho h
  cases o with
  | none => cases ho
  | some n =>
    obtain ⟨h1, h2⟩ := hb n rfl
    have h : n.pt = s.pt := h
    unfold barredB at h2
    rw [h1, Bool.true_and] at h2
    have : anyQ (L ++ [(⟨s.pt, now⟩ : Vis)]).length (barI ⟨s.plan, e_, now, x, L ++ [⟨s.pt, now⟩]⟩ n.pt (now + wait)) = true := anyQ_iff.2 ⟨L.length, by simp, by
      have e1 : (L ++ [(⟨s.pt, now⟩ : Vis)]).getD L.length v0_ = ⟨s.pt, now⟩ := by
        rw [List.getD_eq_getElem?_getD, List.getElem?_append_right (Nat.le_refl _), Nat.sub_self]; rfl
      unfold barI barB
      show (decide (((L ++ [(⟨s.pt, now⟩ : Vis)]).getD L.length v0_).pt = n.pt) && decide (now + wait < ((L ++ [(⟨s.pt, now⟩ : Vis)]).getD L.length v0_).left + s.plan.back)) = true
      rw [e1, Bool.and_eq_true, decide_eq_true_eq, decide_eq_true_eq]
      exact ⟨h.symm, by show now + wait < now + s.plan.back; omega⟩⟩
    exact absurd (this.symm.trans h2) (by decide)
attribute [local irreducible] WL W WQ PL Runs Effs AllE Ent SubO FrIn Pick OneC Ones CellsE PartsE SeqE UZ By Sl Pt Ct

set_option maxRecDepth 100000 in
set_option maxHeartbeats 16000000 in
theorem calmLaw_fn (s : Stt) (v u : Value) (l later : List Nea) (now wait : Int) : CtD Try.prog 8 [s.val, v, u, .int .i64 now, .int .i64 wait] [s.fact, Rw 9 v l.length (fun i => (l.getD i n0_).cells), Rw 9 u later.length (fun i => (later.getD i n0_).cells)] (.bool true) := by
  have ha := alive_fn
  by_cases b1 : 50 < s.past.length
  · refine Ct_intro Try.func8 rfl Try.ntmps8 (by simp) _ rfl (fun w0 O0 => ?_)
    repeat (first | refine n1 ?_ | refine n2 (fun b _ => ?_) | refine n3 (fun _ _ => ?_) | refine n4 ?_ | refine n5 ?_ | refine n6 (ha) ?_ | refine n6v (ha) ?_ | refine WL_nil ?_ | refine W_seq ?_ | refine W_region ?_ | refine n7 ?_ | refine n8 ?_ | refine W_block ?_ | refine W_skip ?_ | refine W_ret ?_ | refine W_exit ?_ | refine WQ_then ?_ | refine WQ_then_ret ?_ | refine WQ_then_exit ?_ | refine WQ_block_normal ?_ | refine WQ_block_ret ?_ | refine WQ_block_exit ?_ | refine n9 ?_)
    ((apply ret1 Try.results8 ( ())); (focus (first | trivial | assumption | omega)); (focus (first | exact RV_tmp rfl | (apply RV_cellN; exact rfl; (repeat' (first | exact Pick.head _ _ | apply Pick.tail)); (intro _; exact rfl); (intro _; exact rfl); exact rfl) | (apply RV_cell1; exact rfl; (repeat' (first | exact Pick.head _ _ | apply Pick.tail)); (intro _; exact rfl); exact rfl)));  (focus (first | exact rfl | (simp; done))); (focus (repeat (first | exact SubO.nil _ | (apply SubO.cons; (focus (repeat' (first | exact Pick.head _ _ | apply Pick.tail))))))); (focus (repeat (first | exact AllE.nil _ | (apply AllE.cons; (focus (first | exact ent_nilBy | exact ent_nilSl | (apply Ent.mem; repeat' (first | exact mcs | apply mct)))))))))
  · by_cases b2 : 50 < l.length
    · refine Ct_intro Try.func8 rfl Try.ntmps8 (by simp) _ rfl (fun w0 O0 => ?_)
      repeat (first | refine n1 ?_ | refine n2 (fun b _ => ?_) | refine n3 (fun _ _ => ?_) | refine n4 ?_ | refine n5 ?_ | refine n6 (ha) ?_ | refine n6v (ha) ?_ | refine WL_nil ?_ | refine W_seq ?_ | refine W_region ?_ | refine n7 ?_ | refine n8 ?_ | refine W_block ?_ | refine W_skip ?_ | refine W_ret ?_ | refine W_exit ?_ | refine WQ_then ?_ | refine WQ_then_ret ?_ | refine WQ_then_exit ?_ | refine WQ_block_normal ?_ | refine WQ_block_ret ?_ | refine WQ_block_exit ?_ | refine n9 ?_)
      ((apply ret1 Try.results8 ( ())); (focus (first | trivial | assumption | omega)); (focus (first | exact RV_tmp rfl | (apply RV_cellN; exact rfl; (repeat' (first | exact Pick.head _ _ | apply Pick.tail)); (intro _; exact rfl); (intro _; exact rfl); exact rfl) | (apply RV_cell1; exact rfl; (repeat' (first | exact Pick.head _ _ | apply Pick.tail)); (intro _; exact rfl); exact rfl)));  (focus (first | exact rfl | (simp; done))); (focus (repeat (first | exact SubO.nil _ | (apply SubO.cons; (focus (repeat' (first | exact Pick.head _ _ | apply Pick.tail))))))); (focus (repeat (first | exact AllE.nil _ | (apply AllE.cons; (focus (first | exact ent_nilBy | exact ent_nilSl | (apply Ent.mem; repeat' (first | exact mcs | apply mct)))))))))
    · by_cases b3 : 50 < later.length
      · refine Ct_intro Try.func8 rfl Try.ntmps8 (by simp) _ rfl (fun w0 O0 => ?_)
        repeat (first | refine n1 ?_ | refine n2 (fun b _ => ?_) | refine n3 (fun _ _ => ?_) | refine n4 ?_ | refine n5 ?_ | refine n6 (ha) ?_ | refine n6v (ha) ?_ | refine WL_nil ?_ | refine W_seq ?_ | refine W_region ?_ | refine n7 ?_ | refine n8 ?_ | refine W_block ?_ | refine W_skip ?_ | refine W_ret ?_ | refine W_exit ?_ | refine WQ_then ?_ | refine WQ_then_ret ?_ | refine WQ_then_exit ?_ | refine WQ_block_normal ?_ | refine WQ_block_ret ?_ | refine WQ_block_exit ?_ | refine n9 ?_)
        ((apply ret1 Try.results8 ( ())); (focus (first | trivial | assumption | omega)); (focus (first | exact RV_tmp rfl | (apply RV_cellN; exact rfl; (repeat' (first | exact Pick.head _ _ | apply Pick.tail)); (intro _; exact rfl); (intro _; exact rfl); exact rfl) | (apply RV_cell1; exact rfl; (repeat' (first | exact Pick.head _ _ | apply Pick.tail)); (intro _; exact rfl); exact rfl)));  (focus (first | exact rfl | (simp; done))); (focus (repeat (first | exact SubO.nil _ | (apply SubO.cons; (focus (repeat' (first | exact Pick.head _ _ | apply Pick.tail))))))); (focus (repeat (first | exact AllE.nil _ | (apply AllE.cons; (focus (first | exact ent_nilBy | exact ent_nilSl | (apply Ent.mem; repeat' (first | exact mcs | apply mct)))))))))
      · by_cases b4 : wait < 0
        · refine Ct_intro Try.func8 rfl Try.ntmps8 (by simp) _ rfl (fun w0 O0 => ?_)
          repeat (first | refine n1 ?_ | refine n2 (fun b _ => ?_) | refine n3 (fun _ _ => ?_) | refine n4 ?_ | refine n5 ?_ | refine n6 (ha) ?_ | refine n6v (ha) ?_ | refine WL_nil ?_ | refine W_seq ?_ | refine W_region ?_ | refine n7 ?_ | refine n8 ?_ | refine W_block ?_ | refine W_skip ?_ | refine W_ret ?_ | refine W_exit ?_ | refine WQ_then ?_ | refine WQ_then_ret ?_ | refine WQ_then_exit ?_ | refine WQ_block_normal ?_ | refine WQ_block_ret ?_ | refine WQ_block_exit ?_ | refine n9 ?_)
          ((apply ret1 Try.results8 ( ())); (focus (first | trivial | assumption | omega)); (focus (first | exact RV_tmp rfl | (apply RV_cellN; exact rfl; (repeat' (first | exact Pick.head _ _ | apply Pick.tail)); (intro _; exact rfl); (intro _; exact rfl); exact rfl) | (apply RV_cell1; exact rfl; (repeat' (first | exact Pick.head _ _ | apply Pick.tail)); (intro _; exact rfl); exact rfl)));  (focus (first | exact rfl | (simp; done))); (focus (repeat (first | exact SubO.nil _ | (apply SubO.cons; (focus (repeat' (first | exact Pick.head _ _ | apply Pick.tail))))))); (focus (repeat (first | exact AllE.nil _ | (apply AllE.cons; (focus (first | exact ent_nilBy | exact ent_nilSl | (apply Ent.mem; repeat' (first | exact mcs | apply mct)))))))))
        · by_cases b5 : 1073741824 < wait
          · refine Ct_intro Try.func8 rfl Try.ntmps8 (by simp) _ rfl (fun w0 O0 => ?_)
            repeat (first | refine n1 ?_ | refine n2 (fun b _ => ?_) | refine n3 (fun _ _ => ?_) | refine n4 ?_ | refine n5 ?_ | refine n6 (ha) ?_ | refine n6v (ha) ?_ | refine WL_nil ?_ | refine W_seq ?_ | refine W_region ?_ | refine n7 ?_ | refine n8 ?_ | refine W_block ?_ | refine W_skip ?_ | refine W_ret ?_ | refine W_exit ?_ | refine WQ_then ?_ | refine WQ_then_ret ?_ | refine WQ_then_exit ?_ | refine WQ_block_normal ?_ | refine WQ_block_ret ?_ | refine WQ_block_exit ?_ | refine n9 ?_)
            ((apply ret1 Try.results8 ( ())); (focus (first | trivial | assumption | omega)); (focus (first | exact RV_tmp rfl | (apply RV_cellN; exact rfl; (repeat' (first | exact Pick.head _ _ | apply Pick.tail)); (intro _; exact rfl); (intro _; exact rfl); exact rfl) | (apply RV_cell1; exact rfl; (repeat' (first | exact Pick.head _ _ | apply Pick.tail)); (intro _; exact rfl); exact rfl)));  (focus (first | exact rfl | (simp; done))); (focus (repeat (first | exact SubO.nil _ | (apply SubO.cons; (focus (repeat' (first | exact Pick.head _ _ | apply Pick.tail))))))); (focus (repeat (first | exact AllE.nil _ | (apply AllE.cons; (focus (first | exact ent_nilBy | exact ent_nilSl | (apply Ent.mem; repeat' (first | exact mcs | apply mct)))))))))
          · have h1 := choose_fn s v l now
            by_cases c0 : stopE s l now = 0
            · obtain ⟨hv, hlv, hi⟩ := stop0 c0
              obtain ⟨m1, ⟨m3, m3'⟩, m2, m4, m4', m5⟩ := vSt_mid hv
              have hn1 : s.since ≤ now ∧ now ≤ 1099511627776 := by unfold inB at hi; exact of_decide_eq_true hi
              rw [c0] at h1
              cases hch : choO s l now with
              | none =>
                rw [hch] at h1
                refine Ct_intro Try.func8 rfl Try.ntmps8 (by simp) _ rfl (fun w0 O0 => ?_)
                repeat (first | refine n1 ?_ | refine n2 (fun b _ => ?_) | refine n3 (fun _ _ => ?_) | refine n4 ?_ | refine n5 ?_ | refine n6 (ha) ?_ | refine n6 (h1) ?_ | refine n6v (ha) ?_ | refine n6v (h1) ?_ | refine WL_nil ?_ | refine W_seq ?_ | refine W_region ?_ | refine n7 ?_ | refine n8 ?_ | refine W_block ?_ | refine W_skip ?_ | refine W_ret ?_ | refine W_exit ?_ | refine WQ_then ?_ | refine WQ_then_ret ?_ | refine WQ_then_exit ?_ | refine WQ_block_normal ?_ | refine WQ_block_ret ?_ | refine WQ_block_exit ?_ | refine n9 ?_)
                ((apply ret1 Try.results8 ( ())); (focus (first | trivial | assumption | omega)); (focus (first | exact RV_tmp rfl | (apply RV_cellN; exact rfl; (repeat' (first | exact Pick.head _ _ | apply Pick.tail)); (intro _; exact rfl); (intro _; exact rfl); exact rfl) | (apply RV_cell1; exact rfl; (repeat' (first | exact Pick.head _ _ | apply Pick.tail)); (intro _; exact rfl); exact rfl)));  (focus (first | exact rfl | (simp; done))); (focus (repeat (first | exact SubO.nil _ | (apply SubO.cons; (focus (repeat' (first | exact Pick.head _ _ | apply Pick.tail))))))); (focus (repeat (first | exact AllE.nil _ | (apply AllE.cons; (focus (first | exact ent_nilBy | exact ent_nilSl | (apply Ent.mem; repeat' (first | exact mcs | apply mct)))))))))
              | some n =>
                rw [hch, show ptO (some n) = n.pt from rfl, show (some n).isSome = true from rfl] at h1
                have hmv := move_fn s n.pt now
                rcases law_move c0 hch with hme | hme
                · rw [hme] at hmv
                  refine Ct_intro Try.func8 rfl Try.ntmps8 (by simp) _ rfl (fun w0 O0 => ?_)
                  repeat (first | refine n1 ?_ | refine n2 (fun b _ => ?_) | refine n3 (fun _ _ => ?_) | refine n4 ?_ | refine n5 ?_ | refine n6 (ha) ?_ | refine n6 (h1) ?_ | refine n6v (ha) ?_ | refine n6v (h1) ?_ | refine WL_nil ?_ | refine W_seq ?_ | refine W_region ?_ | refine n7 ?_ | refine n8 ?_ | refine W_block ?_ | refine W_skip ?_ | refine W_ret ?_ | refine W_exit ?_ | refine WQ_then ?_ | refine WQ_then_ret ?_ | refine WQ_then_exit ?_ | refine WQ_block_normal ?_ | refine WQ_block_ret ?_ | refine WQ_block_exit ?_ | refine n9 ?_)
                  (apply WL_effs; exact rfl; exact rfl; exact rfl; apply E_call; exact rfl; (intro _ _; simp); exact hmv; (repeat (first | exact AllE.nil _ | (apply AllE.cons; (focus (first | exact ent_nilBy | exact ent_nilSl | (apply Ent.mem; repeat' (first | exact mcs | apply mct))))))); (intro _; exact rfl); (intro _; exact rfl))
                  intro y _
                  repeat (first | refine n1 ?_ | refine n2 (fun b _ => ?_) | refine n3 (fun _ _ => ?_) | refine n4 ?_ | refine n5 ?_ | refine WL_nil ?_ | refine W_seq ?_ | refine W_region ?_ | refine n7 ?_ | refine n8 ?_ | refine W_block ?_ | refine W_skip ?_ | refine W_ret ?_ | refine W_exit ?_ | refine WQ_then ?_ | refine WQ_then_ret ?_ | refine WQ_then_exit ?_ | refine WQ_block_normal ?_ | refine WQ_block_ret ?_ | refine WQ_block_exit ?_ | refine n9 ?_)
                  ((apply ret1 Try.results8 ( ())); (focus (first | trivial | assumption | omega)); (focus (first | exact RV_tmp rfl | (apply RV_cellN; exact rfl; (repeat' (first | exact Pick.head _ _ | apply Pick.tail)); (intro _; exact rfl); (intro _; exact rfl); exact rfl) | (apply RV_cell1; exact rfl; (repeat' (first | exact Pick.head _ _ | apply Pick.tail)); (intro _; exact rfl); exact rfl)));  (focus (first | exact rfl | (simp; done))); (focus (repeat (first | exact SubO.nil _ | (apply SubO.cons; (focus (repeat' (first | exact Pick.head _ _ | apply Pick.tail))))))); (focus (repeat (first | exact AllE.nil _ | (apply AllE.cons; (focus (first | exact ent_nilBy | exact ent_nilSl | (apply Ent.mem; repeat' (first | exact mcs | apply mct)))))))))
                · rw [hme] at hmv
                  have hmp : ∀ x, movS 0 s n.pt now x = ⟨s.plan, n.pt, now, x, keptL s now ++ [⟨s.pt, now⟩]⟩ := fun x => rfl
                  simp only [hmp] at hmv
                  refine Ct_intro Try.func8 rfl Try.ntmps8 (by simp) _ rfl (fun w0 O0 => ?_)
                  repeat (first | refine n1 ?_ | refine n2 (fun b _ => ?_) | refine n3 (fun _ _ => ?_) | refine n4 ?_ | refine n5 ?_ | refine n6 (ha) ?_ | refine n6 (h1) ?_ | refine n6v (ha) ?_ | refine n6v (h1) ?_ | refine WL_nil ?_ | refine W_seq ?_ | refine W_region ?_ | refine n7 ?_ | refine n8 ?_ | refine W_block ?_ | refine W_skip ?_ | refine W_ret ?_ | refine W_exit ?_ | refine WQ_then ?_ | refine WQ_then_ret ?_ | refine WQ_then_exit ?_ | refine WQ_block_normal ?_ | refine WQ_block_ret ?_ | refine WQ_block_exit ?_ | refine n9 ?_)
                  (apply WL_effs; exact rfl; exact rfl; exact rfl; apply E_call; exact rfl; (intro _ _; simp); exact hmv; (repeat (first | exact AllE.nil _ | (apply AllE.cons; (focus (first | exact ent_nilBy | exact ent_nilSl | (apply Ent.mem; repeat' (first | exact mcs | apply mct))))))); (intro _; exact rfl); (intro _; exact rfl))
                  intro y _
                  refine WL_letgo (v := y) (by repeat' (first | exact Pick.head _ _ | apply Pick.tail)) ?_
                  refine WL_ent (ent_slG vis_len v0_ (l := keptL s now ++ [⟨s.pt, now⟩]) (by repeat' (first | exact mcs | apply mct)) rfl rfl) ?_
                  have h2 := choose_fn ⟨s.plan, n.pt, now, y, keptL s now ++ [⟨s.pt, now⟩]⟩ u later (now + wait)
                  have h3 := asked_fn ⟨s.plan, n.pt, now, y, keptL s now ++ [⟨s.pt, now⟩]⟩ u later (now + wait)
                  have q1 : ∀ n', choO ⟨s.plan, n.pt, now, y, keptL s now ++ [⟨s.pt, now⟩]⟩ later (now + wait) = some n' → _ := fun n' h => cho_cand h
                  have q2 : ∀ n', askO ⟨s.plan, n.pt, now, y, keptL s now ++ [⟨s.pt, now⟩]⟩ later (now + wait) = some n' → _ := fun n' h => ask_cand h
                  have p1 : wait < s.plan.back → (choO ⟨s.plan, n.pt, now, y, keptL s now ++ [⟨s.pt, now⟩]⟩ later (now + wait)).isSome = true → ¬ ptO (choO ⟨s.plan, n.pt, now, y, keptL s now ++ [⟨s.pt, now⟩]⟩ later (now + wait)) = s.pt := fun hw => calm_end (keptL s now) hw (fun n' h => ⟨(stop0 (q1 n' h).1).1, (q1 n' h).2.1⟩)
                  have p2 : wait < s.plan.back → (askO ⟨s.plan, n.pt, now, y, keptL s now ++ [⟨s.pt, now⟩]⟩ later (now + wait)).isSome = true → ¬ ptO (askO ⟨s.plan, n.pt, now, y, keptL s now ++ [⟨s.pt, now⟩]⟩ later (now + wait)) = s.pt := fun hw => calm_end (keptL s now) hw (fun n' h => ⟨(stop0 (q2 n' h).1).1, (q2 n' h).2.1⟩)
                  have z1 : stopE ⟨s.plan, n.pt, now, y, keptL s now ++ [⟨s.pt, now⟩]⟩ later (now + wait) = 0 → wait < s.plan.stay → (choO ⟨s.plan, n.pt, now, y, keptL s now ++ [⟨s.pt, now⟩]⟩ later (now + wait)).isSome = false := fun _ hw => by
                    cases hc : choO ⟨s.plan, n.pt, now, y, keptL s now ++ [⟨s.pt, now⟩]⟩ later (now + wait) with
                    | none => rfl
                    | some n' => exact absurd (show now + wait < now + s.plan.stay by omega) (q1 n' hc).2.2
                  have z2 : stopE ⟨s.plan, n.pt, now, y, keptL s now ++ [⟨s.pt, now⟩]⟩ later (now + wait) = 0 → wait < s.plan.stay → (askO ⟨s.plan, n.pt, now, y, keptL s now ++ [⟨s.pt, now⟩]⟩ later (now + wait)).isSome = false := fun _ hw => by
                    cases hc : askO ⟨s.plan, n.pt, now, y, keptL s now ++ [⟨s.pt, now⟩]⟩ later (now + wait) with
                    | none => rfl
                    | some n' => exact absurd (show now + wait < now + s.plan.stay by omega) (q2 n' hc).2.2
                  have y1 : ¬ stopE ⟨s.plan, n.pt, now, y, keptL s now ++ [⟨s.pt, now⟩]⟩ later (now + wait) = 0 → (choO ⟨s.plan, n.pt, now, y, keptL s now ++ [⟨s.pt, now⟩]⟩ later (now + wait)).isSome = false := fun h => by
                    rw [show choO ⟨s.plan, n.pt, now, y, keptL s now ++ [⟨s.pt, now⟩]⟩ later (now + wait) = none from if_neg h]; rfl
                  have y2 : ¬ stopE ⟨s.plan, n.pt, now, y, keptL s now ++ [⟨s.pt, now⟩]⟩ later (now + wait) = 0 → (askO ⟨s.plan, n.pt, now, y, keptL s now ++ [⟨s.pt, now⟩]⟩ later (now + wait)).isSome = false := fun h => by
                    rw [show askO ⟨s.plan, n.pt, now, y, keptL s now ++ [⟨s.pt, now⟩]⟩ later (now + wait) = none from if_neg h]; rfl
                  clear q1 q2
                  generalize ptO (choO ⟨s.plan, n.pt, now, y, keptL s now ++ [⟨s.pt, now⟩]⟩ later (now + wait)) = a1 at *
                  generalize ptO (askO ⟨s.plan, n.pt, now, y, keptL s now ++ [⟨s.pt, now⟩]⟩ later (now + wait)) = a2 at *
                  generalize (choO ⟨s.plan, n.pt, now, y, keptL s now ++ [⟨s.pt, now⟩]⟩ later (now + wait)).isSome = i1 at *
                  generalize (askO ⟨s.plan, n.pt, now, y, keptL s now ++ [⟨s.pt, now⟩]⟩ later (now + wait)).isSome = i2 at *
                  generalize stopE ⟨s.plan, n.pt, now, y, keptL s now ++ [⟨s.pt, now⟩]⟩ later (now + wait) = g at *
                  by_cases d1 : g = 0
                  · by_cases d2 : wait < s.plan.stay
                    · have z1 := z1 d1 d2
                      have z2 := z2 d1 d2
                      subst z1; subst z2
                      repeat (first | refine n1 ?_ | refine n2 (fun b _ => ?_) | refine n3 (fun _ _ => ?_) | refine n4 ?_ | refine n5 ?_ | refine n6 (h2) ?_ | refine n6 (h3) ?_ | refine n6v (h2) ?_ | refine n6v (h3) ?_ | refine WL_nil ?_ | refine W_seq ?_ | refine W_region ?_ | refine n7 ?_ | refine n8 ?_ | refine W_block ?_ | refine W_skip ?_ | refine W_ret ?_ | refine W_exit ?_ | refine WQ_then ?_ | refine WQ_then_ret ?_ | refine WQ_then_exit ?_ | refine WQ_block_normal ?_ | refine WQ_block_ret ?_ | refine WQ_block_exit ?_ | refine n9 ?_)
                      ((apply ret1 Try.results8 ( ())); (focus (first | trivial | assumption | omega)); (focus (first | exact RV_tmp rfl | (apply RV_cellN; exact rfl; (repeat' (first | exact Pick.head _ _ | apply Pick.tail)); (intro _; exact rfl); (intro _; exact rfl); exact rfl) | (apply RV_cell1; exact rfl; (repeat' (first | exact Pick.head _ _ | apply Pick.tail)); (intro _; exact rfl); exact rfl)));  (focus (first | exact rfl | (simp; done))); (focus (repeat (first | exact SubO.nil _ | (apply SubO.cons; (focus (repeat' (first | exact Pick.head _ _ | apply Pick.tail))))))); (focus (repeat (first | exact AllE.nil _ | (apply AllE.cons; (focus (first | exact ent_nilBy | exact ent_nilSl | (apply Ent.mem; repeat' (first | exact mcs | apply mct)))))))))
                    · by_cases d3 : wait < s.plan.back
                      · have p1 := p1 d3
                        have p2 := p2 d3
                        cases i1 <;> cases i2
                        · repeat (first | refine n1 ?_ | refine n2 (fun b _ => ?_) | refine n3 (fun _ _ => ?_) | refine n4 ?_ | refine n5 ?_ | refine n6 (h2) ?_ | refine n6 (h3) ?_ | refine n6v (h2) ?_ | refine n6v (h3) ?_ | refine WL_nil ?_ | refine W_seq ?_ | refine W_region ?_ | refine n7 ?_ | refine n8 ?_ | refine W_block ?_ | refine W_skip ?_ | refine W_ret ?_ | refine W_exit ?_ | refine WQ_then ?_ | refine WQ_then_ret ?_ | refine WQ_then_exit ?_ | refine WQ_block_normal ?_ | refine WQ_block_ret ?_ | refine WQ_block_exit ?_ | refine n9 ?_)
                          ((apply ret1 Try.results8 ( ())); (focus (first | trivial | assumption | omega)); (focus (first | exact RV_tmp rfl | (apply RV_cellN; exact rfl; (repeat' (first | exact Pick.head _ _ | apply Pick.tail)); (intro _; exact rfl); (intro _; exact rfl); exact rfl) | (apply RV_cell1; exact rfl; (repeat' (first | exact Pick.head _ _ | apply Pick.tail)); (intro _; exact rfl); exact rfl)));  (focus (first | exact rfl | (simp; done))); (focus (repeat (first | exact SubO.nil _ | (apply SubO.cons; (focus (repeat' (first | exact Pick.head _ _ | apply Pick.tail))))))); (focus (repeat (first | exact AllE.nil _ | (apply AllE.cons; (focus (first | exact ent_nilBy | exact ent_nilSl | (apply Ent.mem; repeat' (first | exact mcs | apply mct)))))))))
                        · have p2 := p2 rfl
                          repeat (first | refine n1 ?_ | refine n2 (fun b _ => ?_) | refine n3 (fun _ _ => ?_) | refine n4 ?_ | refine n5 ?_ | refine n6 (h2) ?_ | refine n6 (h3) ?_ | refine n6v (h2) ?_ | refine n6v (h3) ?_ | refine WL_nil ?_ | refine W_seq ?_ | refine W_region ?_ | refine n7 ?_ | refine n8 ?_ | refine W_block ?_ | refine W_skip ?_ | refine W_ret ?_ | refine W_exit ?_ | refine WQ_then ?_ | refine WQ_then_ret ?_ | refine WQ_then_exit ?_ | refine WQ_block_normal ?_ | refine WQ_block_ret ?_ | refine WQ_block_exit ?_ | refine n9 ?_)
                          ((apply ret1 Try.results8 ( ())); (focus (first | trivial | assumption | omega)); (focus (first | exact RV_tmp rfl | (apply RV_cellN; exact rfl; (repeat' (first | exact Pick.head _ _ | apply Pick.tail)); (intro _; exact rfl); (intro _; exact rfl); exact rfl) | (apply RV_cell1; exact rfl; (repeat' (first | exact Pick.head _ _ | apply Pick.tail)); (intro _; exact rfl); exact rfl)));  (focus (first | exact rfl | (simp; done))); (focus (repeat (first | exact SubO.nil _ | (apply SubO.cons; (focus (repeat' (first | exact Pick.head _ _ | apply Pick.tail))))))); (focus (repeat (first | exact AllE.nil _ | (apply AllE.cons; (focus (first | exact ent_nilBy | exact ent_nilSl | (apply Ent.mem; repeat' (first | exact mcs | apply mct)))))))))
                        · have p1 := p1 rfl
                          repeat (first | refine n1 ?_ | refine n2 (fun b _ => ?_) | refine n3 (fun _ _ => ?_) | refine n4 ?_ | refine n5 ?_ | refine n6 (h2) ?_ | refine n6 (h3) ?_ | refine n6v (h2) ?_ | refine n6v (h3) ?_ | refine WL_nil ?_ | refine W_seq ?_ | refine W_region ?_ | refine n7 ?_ | refine n8 ?_ | refine W_block ?_ | refine W_skip ?_ | refine W_ret ?_ | refine W_exit ?_ | refine WQ_then ?_ | refine WQ_then_ret ?_ | refine WQ_then_exit ?_ | refine WQ_block_normal ?_ | refine WQ_block_ret ?_ | refine WQ_block_exit ?_ | refine n9 ?_)
                          ((apply ret1 Try.results8 ( ())); (focus (first | trivial | assumption | omega)); (focus (first | exact RV_tmp rfl | (apply RV_cellN; exact rfl; (repeat' (first | exact Pick.head _ _ | apply Pick.tail)); (intro _; exact rfl); (intro _; exact rfl); exact rfl) | (apply RV_cell1; exact rfl; (repeat' (first | exact Pick.head _ _ | apply Pick.tail)); (intro _; exact rfl); exact rfl)));  (focus (first | exact rfl | (simp; done))); (focus (repeat (first | exact SubO.nil _ | (apply SubO.cons; (focus (repeat' (first | exact Pick.head _ _ | apply Pick.tail))))))); (focus (repeat (first | exact AllE.nil _ | (apply AllE.cons; (focus (first | exact ent_nilBy | exact ent_nilSl | (apply Ent.mem; repeat' (first | exact mcs | apply mct)))))))))
                        · have p1 := p1 rfl
                          have p2 := p2 rfl
                          repeat (first | refine n1 ?_ | refine n2 (fun b _ => ?_) | refine n3 (fun _ _ => ?_) | refine n4 ?_ | refine n5 ?_ | refine n6 (h2) ?_ | refine n6 (h3) ?_ | refine n6v (h2) ?_ | refine n6v (h3) ?_ | refine WL_nil ?_ | refine W_seq ?_ | refine W_region ?_ | refine n7 ?_ | refine n8 ?_ | refine W_block ?_ | refine W_skip ?_ | refine W_ret ?_ | refine W_exit ?_ | refine WQ_then ?_ | refine WQ_then_ret ?_ | refine WQ_then_exit ?_ | refine WQ_block_normal ?_ | refine WQ_block_ret ?_ | refine WQ_block_exit ?_ | refine n9 ?_)
                          ((apply ret1 Try.results8 ( ())); (focus (first | trivial | assumption | omega)); (focus (first | exact RV_tmp rfl | (apply RV_cellN; exact rfl; (repeat' (first | exact Pick.head _ _ | apply Pick.tail)); (intro _; exact rfl); (intro _; exact rfl); exact rfl) | (apply RV_cell1; exact rfl; (repeat' (first | exact Pick.head _ _ | apply Pick.tail)); (intro _; exact rfl); exact rfl)));  (focus (first | exact rfl | (simp; done))); (focus (repeat (first | exact SubO.nil _ | (apply SubO.cons; (focus (repeat' (first | exact Pick.head _ _ | apply Pick.tail))))))); (focus (repeat (first | exact AllE.nil _ | (apply AllE.cons; (focus (first | exact ent_nilBy | exact ent_nilSl | (apply Ent.mem; repeat' (first | exact mcs | apply mct)))))))))
                      · repeat (first | refine n1 ?_ | refine n2 (fun b _ => ?_) | refine n3 (fun _ _ => ?_) | refine n4 ?_ | refine n5 ?_ | refine n6 (h2) ?_ | refine n6 (h3) ?_ | refine n6v (h2) ?_ | refine n6v (h3) ?_ | refine WL_nil ?_ | refine W_seq ?_ | refine W_region ?_ | refine n7 ?_ | refine n8 ?_ | refine W_block ?_ | refine W_skip ?_ | refine W_ret ?_ | refine W_exit ?_ | refine WQ_then ?_ | refine WQ_then_ret ?_ | refine WQ_then_exit ?_ | refine WQ_block_normal ?_ | refine WQ_block_ret ?_ | refine WQ_block_exit ?_ | refine n9 ?_)
                        ((apply ret1 Try.results8 ( ())); (focus (first | trivial | assumption | omega)); (focus (first | exact RV_tmp rfl | (apply RV_cellN; exact rfl; (repeat' (first | exact Pick.head _ _ | apply Pick.tail)); (intro _; exact rfl); (intro _; exact rfl); exact rfl) | (apply RV_cell1; exact rfl; (repeat' (first | exact Pick.head _ _ | apply Pick.tail)); (intro _; exact rfl); exact rfl)));  (focus (first | exact rfl | (simp; done))); (focus (repeat (first | exact SubO.nil _ | (apply SubO.cons; (focus (repeat' (first | exact Pick.head _ _ | apply Pick.tail))))))); (focus (repeat (first | exact AllE.nil _ | (apply AllE.cons; (focus (first | exact ent_nilBy | exact ent_nilSl | (apply Ent.mem; repeat' (first | exact mcs | apply mct)))))))))
                  · have y1 := y1 d1
                    have y2 := y2 d1
                    subst y1; subst y2
                    repeat (first | refine n1 ?_ | refine n2 (fun b _ => ?_) | refine n3 (fun _ _ => ?_) | refine n4 ?_ | refine n5 ?_ | refine n6 (h2) ?_ | refine n6 (h3) ?_ | refine n6v (h2) ?_ | refine n6v (h3) ?_ | refine WL_nil ?_ | refine W_seq ?_ | refine W_region ?_ | refine n7 ?_ | refine n8 ?_ | refine W_block ?_ | refine W_skip ?_ | refine W_ret ?_ | refine W_exit ?_ | refine WQ_then ?_ | refine WQ_then_ret ?_ | refine WQ_then_exit ?_ | refine WQ_block_normal ?_ | refine WQ_block_ret ?_ | refine WQ_block_exit ?_ | refine n9 ?_)
                    ((apply ret1 Try.results8 ( ())); (focus (first | trivial | assumption | omega)); (focus (first | exact RV_tmp rfl | (apply RV_cellN; exact rfl; (repeat' (first | exact Pick.head _ _ | apply Pick.tail)); (intro _; exact rfl); (intro _; exact rfl); exact rfl) | (apply RV_cell1; exact rfl; (repeat' (first | exact Pick.head _ _ | apply Pick.tail)); (intro _; exact rfl); exact rfl)));  (focus (first | exact rfl | (simp; done))); (focus (repeat (first | exact SubO.nil _ | (apply SubO.cons; (focus (repeat' (first | exact Pick.head _ _ | apply Pick.tail))))))); (focus (repeat (first | exact AllE.nil _ | (apply AllE.cons; (focus (first | exact ent_nilBy | exact ent_nilSl | (apply Ent.mem; repeat' (first | exact mcs | apply mct)))))))))
            · have e0 : choO s l now = none := if_neg c0
              rw [e0] at h1
              generalize stopE s l now = e at *
              refine Ct_intro Try.func8 rfl Try.ntmps8 (by simp) _ rfl (fun w0 O0 => ?_)
              repeat (first | refine n1 ?_ | refine n2 (fun b _ => ?_) | refine n3 (fun _ _ => ?_) | refine n4 ?_ | refine n5 ?_ | refine n6 (ha) ?_ | refine n6 (h1) ?_ | refine n6v (ha) ?_ | refine n6v (h1) ?_ | refine WL_nil ?_ | refine W_seq ?_ | refine W_region ?_ | refine n7 ?_ | refine n8 ?_ | refine W_block ?_ | refine W_skip ?_ | refine W_ret ?_ | refine W_exit ?_ | refine WQ_then ?_ | refine WQ_then_ret ?_ | refine WQ_then_exit ?_ | refine WQ_block_normal ?_ | refine WQ_block_ret ?_ | refine WQ_block_exit ?_ | refine n9 ?_)
              ((apply ret1 Try.results8 ( ())); (focus (first | trivial | assumption | omega)); (focus (first | exact RV_tmp rfl | (apply RV_cellN; exact rfl; (repeat' (first | exact Pick.head _ _ | apply Pick.tail)); (intro _; exact rfl); (intro _; exact rfl); exact rfl) | (apply RV_cell1; exact rfl; (repeat' (first | exact Pick.head _ _ | apply Pick.tail)); (intro _; exact rfl); exact rfl)));  (focus (first | exact rfl | (simp; done))); (focus (repeat (first | exact SubO.nil _ | (apply SubO.cons; (focus (repeat' (first | exact Pick.head _ _ | apply Pick.tail))))))); (focus (repeat (first | exact AllE.nil _ | (apply AllE.cons; (focus (first | exact ent_nilBy | exact ent_nilSl | (apply Ent.mem; repeat' (first | exact mcs | apply mct)))))))))
end Go.Proofs.Ytlfghljgilmenaa
