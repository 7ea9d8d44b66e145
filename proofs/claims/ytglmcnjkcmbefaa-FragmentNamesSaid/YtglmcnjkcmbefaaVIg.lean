/-
  Collectors: 'Expire'.
-/
import Derived.Test.YtglmcnjkcmbefaaVIf
namespace Go.Proofs.Ytglmcnjkcmbefaa
open Go Go.RowKit Go.Hs C05
def exE (l : List Pz) (now : Int) : Int := if chkC l = 0 then (if lateB now = true then 2 else 0) else 8
def exL (l : List Pz) (now : Int) : List Pz := if exE l now = 0 then l.filter (freshP now) else []
def exN (l : List Pz) (now : Int) : Int := if exE l now = 0 then (l.length : Int) - ((exL l now).length : Int) else 0
theorem chk_valid {l : List Pz} : chkC l = 0 ↔ validC l = true := by
  unfold chkC
  by_cases h : validC l = true
  · rw [if_pos h]; exact ⟨fun _ => h, fun _ => rfl⟩
  · rw [if_neg h]; exact ⟨fun e => absurd e (by decide), fun e => absurd e h⟩
theorem chk_8 {l : List Pz} (h : ¬ chkC l = 0) : chkC l = 8 := by
  unfold chkC
  rw [if_neg (fun e => h (chk_valid.2 e))]
theorem late_iff {now : Int} : lateB now = false ↔ 0 ≤ now ∧ now ≤ maxT := by
  unfold lateB
  rw [Bool.or_eq_false_iff, decide_eq_false_iff_not, decide_eq_false_iff_not]
  omega
theorem map_filter_z (l : List Pa) (q : Pz → Bool) : (l.filter (fun p => q p.z)).map Pa.z = (l.map Pa.z).filter q := by
  rw [List.filter_map]; rfl
theorem dlP_perm (l : List Pa) (q : Pa → Bool) : (dlP l).Perm (dlP (l.filter q) ++ dlP (l.filter fun p => !q p)) := by
  rw [← dlP_app]
  exact (List.filter_append_perm q l).symm.map _
theorem rows_one {C : Ctx} {Γ Γ' : List OA} {Φ : List SP} {bt : TypeId} {l : List Pa} (hp : Pick (pk (rowsL bt (dlP l))) Γ Γ') : ∀ w, Holds C Γ Φ w → ∀ p ∈ l, p.bv.oneCell' = true := fun w hw => by
  have ho : Own (rowsL bt (dlP l)) w := (pick_holds hp hw).own.1
  have key : ∀ (l : List Pa), Own (rowsL bt (dlP l)) w → ∀ p ∈ l, p.bv.oneCell' = true := by
    intro l
    induction l with
    | nil => intro _ p h; cases h
    | cons q r ih =>
      intro h p hm
      rcases List.mem_cons.1 hm with rfl | hm
      · obtain ⟨A, c, hv, _⟩ := row_nil_or h.1
        have hv : p.bv = .slice A p.body.length c := hv
        rw [hv]
        rfl
      · exact ih h.2.2 p hm
  exact key l ho
attribute [local irreducible] WL W WQ PL Runs Effs AllE Ent SubO FrIn Pick OneC Ones CellsE PartsE SeqE UZ By Sl Pt Ct

set_option maxRecDepth 100000 in
set_option maxHeartbeats 8000000 in
theorem expire_fn (v : Value) (l : List Pa) (now : Int) (hw : ∀ p ∈ l, p.w) : Ct Try.prog 17 [.agg #[v], .int .i64 now] [] [Rw 43 v l.length (fun i => (l.getD i p0_).cells), Bd l]
    (X := Value × List Pa) (fun x => x.2.map Pa.z = exL (l.map Pa.z) now) (fun x => .tuple #[.agg #[x.1], .int .i64 (exN (l.map Pa.z) now), .int .i64 (exE (l.map Pa.z) now)]) (fun x => [.row x.1 61 43 x.2.length (fcP x.2), pk (rowsL 5 (dlP x.2))]) (fun _ => []) := by
  have hc := ccheck_fn v l hw
  have hla := late_fn now
  by_cases c1 : chkC (l.map Pa.z) = 0
  · rw [c1] at hc
    cases c2 : lateB now with
    | true =>
      rw [c2] at hla
      have he : exE (l.map Pa.z) now = 2 := by unfold exE; rw [if_pos c1, c2]; rfl
      have hL : exL (l.map Pa.z) now = [] := by unfold exL; rw [if_neg (by rw [he]; decide)]
      have hN : exN (l.map Pa.z) now = 0 := by unfold exN; rw [if_neg (by rw [he]; decide)]
      rw [he, hN, hL]
      refine Ct_intro Try.func17 rfl Try.ntmps17 (by simp) _ rfl (fun w0 O0 => ?_)
      repeat (first | refine n1 ?_ | refine n2 (fun b _ => ?_) | refine n3 (fun _ _ => ?_) | refine n4 ?_ | refine n5 ?_ | refine n6 (hc) ?_ | refine n6 (hla) ?_ | refine n6v (hc) ?_ | refine n6v (hla) ?_ | refine WL_nil ?_ | refine W_seq ?_ | refine W_region ?_ | refine n7 ?_ | refine n8 ?_ | refine W_block ?_ | refine W_skip ?_ | refine W_ret ?_ | refine W_exit ?_ | refine WQ_then ?_ | refine WQ_then_ret ?_ | refine WQ_then_exit ?_ | refine WQ_block_normal ?_ | refine WQ_block_ret ?_ | refine WQ_block_exit ?_ | refine n9 ?_)
      apply WQ_nilRow 61 43
      apply WQ_nilL 5
      ((apply ret3 Try.results17 ( (Value.slice none 0 0, []))); (focus (first | trivial | assumption | omega)); (focus (first | exact RV_tmp rfl | (apply RV_cellN; exact rfl; (repeat' (first | exact Pick.head _ _ | apply Pick.tail)); (intro _; exact rfl); (intro _; exact rfl); exact rfl) | (apply RV_cell1; exact rfl; (repeat' (first | exact Pick.head _ _ | apply Pick.tail)); (intro _; exact rfl); exact rfl))); (focus (first | exact RV_tmp rfl | (apply RV_cellN; exact rfl; (repeat' (first | exact Pick.head _ _ | apply Pick.tail)); (intro _; exact rfl); (intro _; exact rfl); exact rfl) | (apply RV_cell1; exact rfl; (repeat' (first | exact Pick.head _ _ | apply Pick.tail)); (intro _; exact rfl); exact rfl))); (focus (first | exact RV_tmp rfl | (apply RV_cellN; exact rfl; (repeat' (first | exact Pick.head _ _ | apply Pick.tail)); (intro _; exact rfl); (intro _; exact rfl); exact rfl) | (apply RV_cell1; exact rfl; (repeat' (first | exact Pick.head _ _ | apply Pick.tail)); (intro _; exact rfl); exact rfl)));  (focus (first | exact rfl | (simp; done))); (focus (repeat (first | exact SubO.nil _ | (apply SubO.cons; (focus (repeat' (first | exact Pick.head _ _ | apply Pick.tail))))))); (focus (repeat (first | exact AllE.nil _ | (apply AllE.cons; (focus (first | exact ent_nilBy | exact ent_nilSl | (apply Ent.mem; repeat' (first | exact mcs | apply mct)))))))))
    | false =>
      rw [c2] at hla
      have hv := valid_z.1 (chk_valid.1 c1)
      rw [goodT, List.take_length] at hv
      have hok := fun p hp => okP_iff.1 (hv.1.1 p hp)
      have hnow := late_iff.1 c2
      have he : exE (l.map Pa.z) now = 0 := by unfold exE; rw [if_pos c1, c2]; rfl
      have hL : exL (l.map Pa.z) now = (l.map Pa.z).filter (freshP now) := by unfold exL; rw [if_pos he]
      have hN : exN (l.map Pa.z) now = (l.length : Int) - ((l.map Pa.z).filter (freshP now)).length := by unfold exN; rw [if_pos he, hL, List.length_map]
      have hlen : ((l.map Pa.z).filter (freshP now)).length ≤ l.length := Nat.le_trans (List.length_filter_le _ _) (by rw [List.length_map]; exact Nat.le_refl _)
      rw [he, hL, hN]
      have ht := twin_fn v l (by omega) (fun p hp => by have := (hok p hp).2.2.2.2.2.2.1; rw [show p.z.body = p.body from rfl] at this; omega)
      refine Ct_intro Try.func17 rfl Try.ntmps17 (by simp) _ rfl (fun w0 O0 => ?_)
      (first | refine n1 ?_ | refine n2 (fun b _ => ?_) | refine n3 (fun _ _ => ?_) | refine n4 ?_ | refine n5 ?_ | refine WL_nil ?_ | refine W_seq ?_ | refine W_region ?_ | refine n7 ?_ | refine n8 ?_ | refine W_block ?_ | refine W_skip ?_ | refine W_ret ?_ | refine W_exit ?_ | refine WQ_then ?_ | refine WQ_then_ret ?_ | refine WQ_then_exit ?_ | refine WQ_block_normal ?_ | refine WQ_block_ret ?_ | refine WQ_block_exit ?_ | refine n9 ?_)
      (first | refine n1 ?_ | refine n2 (fun b _ => ?_) | refine n3 (fun _ _ => ?_) | refine n4 ?_ | refine n5 ?_ | refine WL_nil ?_ | refine W_seq ?_ | refine W_region ?_ | refine n7 ?_ | refine n8 ?_ | refine W_block ?_ | refine W_skip ?_ | refine W_ret ?_ | refine W_exit ?_ | refine WQ_then ?_ | refine WQ_then_ret ?_ | refine WQ_then_exit ?_ | refine WQ_block_normal ?_ | refine WQ_block_ret ?_ | refine WQ_block_exit ?_ | refine n9 ?_)
      (first | refine n1 ?_ | refine n2 (fun b _ => ?_) | refine n3 (fun _ _ => ?_) | refine n4 ?_ | refine n5 ?_ | refine WL_nil ?_ | refine W_seq ?_ | refine W_region ?_ | refine n7 ?_ | refine n8 ?_ | refine W_block ?_ | refine W_skip ?_ | refine W_ret ?_ | refine W_exit ?_ | refine WQ_then ?_ | refine WQ_then_ret ?_ | refine WQ_then_exit ?_ | refine WQ_block_normal ?_ | refine WQ_block_ret ?_ | refine WQ_block_exit ?_ | refine n9 ?_)
      (first | refine n1 ?_ | refine n2 (fun b _ => ?_) | refine n3 (fun _ _ => ?_) | refine n4 ?_ | refine n5 ?_ | refine WL_nil ?_ | refine W_seq ?_ | refine W_region ?_ | refine n7 ?_ | refine n8 ?_ | refine W_block ?_ | refine W_skip ?_ | refine W_ret ?_ | refine W_exit ?_ | refine WQ_then ?_ | refine WQ_then_ret ?_ | refine WQ_then_exit ?_ | refine WQ_block_normal ?_ | refine WQ_block_ret ?_ | refine WQ_block_exit ?_ | refine n9 ?_)
      obtain ⟨b_, rfl⟩ : ∃ b_, b_ = b := ⟨b, rfl⟩
      repeat (first | refine n1 ?_ | refine n2 (fun b _ => ?_) | refine n3 (fun _ _ => ?_) | refine n4 ?_ | refine n5 ?_ | refine n6 (hc) ?_ | refine n6 (hla) ?_ | refine n6v (hc) ?_ | refine n6v (hla) ?_ | refine WL_nil ?_ | refine W_seq ?_ | refine W_region ?_ | refine n7 ?_ | refine n8 ?_ | refine W_block ?_ | refine W_skip ?_ | refine W_ret ?_ | refine W_exit ?_ | refine WQ_then ?_ | refine WQ_then_ret ?_ | refine WQ_then_exit ?_ | refine WQ_block_normal ?_ | refine WQ_block_ret ?_ | refine WQ_block_exit ?_ | refine n9 ?_)
      (apply WL_effs; exact rfl; exact rfl; exact rfl; apply E_call; exact rfl; (intro _ _; simp); exact ht; (repeat (first | exact AllE.nil _ | (apply AllE.cons; (focus (first | exact ent_nilBy | exact ent_nilSl | (apply Ent.mem; repeat' (first | exact mcs | apply mct))))))); (intro _; exact rfl); (intro _; exact rfl))
      rintro ⟨o, l'⟩ hz
      replace hz : l'.map Pa.z = l.map Pa.z := hz
      dsimp only
      have hl' : l'.length = l.length := by have := congrArg List.length hz; simpa using this
      have hmz : ∀ p ∈ l', ∃ q ∈ l, q.z = p.z := fun p hp => by
        have h1 : p.z ∈ l'.map Pa.z := List.mem_map_of_mem hp
        rw [hz] at h1
        obtain ⟨q, h2, h3⟩ := List.mem_map.1 h1
        exact ⟨q, h2, h3⟩
      have hsince : ∀ p ∈ l', 0 ≤ p.since ∧ p.since ≤ maxT := fun p hp => by
        obtain ⟨q, h2, h3⟩ := hmz p hp
        have h4 := (hok q h2).2.2.2.2.2.2.2
        rw [h3] at h4
        exact h4
      repeat (first | refine n1 ?_ | refine n2 (fun b _ => ?_) | refine n3 (fun _ _ => ?_) | refine n4 ?_ | refine n5 ?_ | refine WL_nil ?_ | refine W_seq ?_ | refine W_region ?_ | refine n7 ?_ | refine n8 ?_ | refine W_block ?_ | refine W_skip ?_ | refine W_ret ?_ | refine W_exit ?_ | refine WQ_then ?_ | refine WQ_then_ret ?_ | refine WQ_then_exit ?_ | refine WQ_block_normal ?_ | refine WQ_block_ret ?_ | refine WQ_block_exit ?_ | refine n9 ?_)
      refine WL_letgoK (t := 3) (by repeat' (first | exact Pick.head _ _ | apply Pick.tail)) ?_
      refine WL_pure (rows_one (l := l') (by repeat' (first | exact Pick.head _ _ | apply Pick.tail))) fun ho => ?_
      have hd := deleteF_fn l' ho o 40 (by intro _ _; simp) [.pointer (some ⟨b_, 0, none⟩)] (Pt (.pointer (some ⟨b_, 0, none⟩)) [.int .i64 now]) (fun p => !freshP now p.z) (fun p hp => old_fn p now _ (hsince p hp) hnow)
      have hff : l'.filter (fun p => !!freshP now p.z) = l'.filter (fun p => freshP now p.z) := by congr 1; funext p; exact Bool.not_not _
      rw [hff] at hd
      have hfz := map_filter_z l' (freshP now)
      rw [hz] at hfz
      have hfl : (l'.filter (fun p => freshP now p.z)).length = ((l.map Pa.z).filter (freshP now)).length := by rw [← hfz, List.length_map]
      have hpm := dlP_perm l' (fun p => freshP now p.z)
      (apply WL_effs; exact rfl; exact rfl; exact rfl; apply E_callO; exact rfl; (intro _ _; simp); exact hd; (first | (apply perm1; (focus (repeat' (first | exact Pick.head _ _ | apply Pick.tail)))) | (apply perm2; (focus (repeat' (first | exact Pick.head _ _ | apply Pick.tail))); (focus (repeat' (first | exact Pick.head _ _ | apply Pick.tail)))) | (apply perm3; (focus (repeat' (first | exact Pick.head _ _ | apply Pick.tail))); (focus (repeat' (first | exact Pick.head _ _ | apply Pick.tail))); (focus (repeat' (first | exact Pick.head _ _ | apply Pick.tail))))); (repeat (first | exact AllE.nil _ | (apply AllE.cons; (focus (first | exact ent_nilBy | exact ent_nilSl | (apply Ent.mem; repeat' (first | exact mcs | apply mct))))))); (intro _; exact rfl); (intro _; exact rfl))
      intro y _
      refine WL_subL (L' := dlP (l'.filter (fun p => freshP now p.z))) (by repeat' (first | exact Pick.head _ _ | apply Pick.tail)) hpm ?_
      rw [← hfl] at hlen ⊢
      generalize l'.filter (fun p => freshP now p.z) = k at *
      repeat (first | refine n1 ?_ | refine n2 (fun b _ => ?_) | refine n3 (fun _ _ => ?_) | refine n4 ?_ | refine n5 ?_ | refine WL_nil ?_ | refine W_seq ?_ | refine W_region ?_ | refine n7 ?_ | refine n8 ?_ | refine W_block ?_ | refine W_skip ?_ | refine W_ret ?_ | refine W_exit ?_ | refine WQ_then ?_ | refine WQ_then_ret ?_ | refine WQ_then_exit ?_ | refine WQ_block_normal ?_ | refine WQ_block_ret ?_ | refine WQ_block_exit ?_ | refine n9 ?_)
      (refine W_regionP' [8] [] [0, 1, 2, 3, 4, 5, 6, 7, 8, 9, 10] [] (by kernel_rfl) (by kernel_rfl) (by repeat (first | exact UZ.nil _ _ | (apply UZ.cons; exact rfl; (intro _; exact rfl)))) (by exact rfl) (by (repeat (first | exact SubO.nil _ | (apply SubO.cons; (focus (repeat' (first | exact Pick.head _ _ | apply Pick.tail))))))) ?_)
      repeat (first | refine p1 ?_ | refine p2 (fun b _ => ?_) | refine p3 (fun _ _ => ?_) | refine p4 ?_ | refine p5 ?_ | refine p7 (fun b => ?_) | refine PL_nil ?_)
      repeat (first | refine n1 ?_ | refine n2 (fun b _ => ?_) | refine n3 (fun _ _ => ?_) | refine n4 ?_ | refine n5 ?_ | refine WL_nil ?_ | refine W_seq ?_ | refine W_region ?_ | refine n7 ?_ | refine n8 ?_ | refine W_block ?_ | refine W_skip ?_ | refine W_ret ?_ | refine W_exit ?_ | refine WQ_then ?_ | refine WQ_then_ret ?_ | refine WQ_then_exit ?_ | refine WQ_block_normal ?_ | refine WQ_block_ret ?_ | refine WQ_block_exit ?_ | refine n9 ?_)
      ((apply ret3 Try.results17 ( (y, k))); (focus (first | trivial | assumption | omega)); (focus (first | exact RV_tmp rfl | (apply RV_cellN; exact rfl; (repeat' (first | exact Pick.head _ _ | apply Pick.tail)); (intro _; exact rfl); (intro _; exact rfl); exact rfl) | (apply RV_cell1; exact rfl; (repeat' (first | exact Pick.head _ _ | apply Pick.tail)); (intro _; exact rfl); exact rfl))); (focus (first | exact RV_tmp rfl | (apply RV_cellN; exact rfl; (repeat' (first | exact Pick.head _ _ | apply Pick.tail)); (intro _; exact rfl); (intro _; exact rfl); exact rfl) | (apply RV_cell1; exact rfl; (repeat' (first | exact Pick.head _ _ | apply Pick.tail)); (intro _; exact rfl); exact rfl))); (focus (first | exact RV_tmp rfl | (apply RV_cellN; exact rfl; (repeat' (first | exact Pick.head _ _ | apply Pick.tail)); (intro _; exact rfl); (intro _; exact rfl); exact rfl) | (apply RV_cell1; exact rfl; (repeat' (first | exact Pick.head _ _ | apply Pick.tail)); (intro _; exact rfl); exact rfl)));  (focus (first | exact rfl | (simp; done))); (focus (repeat (first | exact SubO.nil _ | (apply SubO.cons; (focus (repeat' (first | exact Pick.head _ _ | apply Pick.tail))))))); (focus (repeat (first | exact AllE.nil _ | (apply AllE.cons; (focus (first | exact ent_nilBy | exact ent_nilSl | (apply Ent.mem; repeat' (first | exact mcs | apply mct)))))))))
  · have he : exE (l.map Pa.z) now = 8 := by unfold exE; rw [if_neg c1]
    have hL : exL (l.map Pa.z) now = [] := by unfold exL; rw [if_neg (by rw [he]; decide)]
    have hN : exN (l.map Pa.z) now = 0 := by unfold exN; rw [if_neg (by rw [he]; decide)]
    rw [he, hN, hL]
    rw [chk_8 c1] at hc
    refine Ct_intro Try.func17 rfl Try.ntmps17 (by simp) _ rfl (fun w0 O0 => ?_)
    repeat (first | refine n1 ?_ | refine n2 (fun b _ => ?_) | refine n3 (fun _ _ => ?_) | refine n4 ?_ | refine n5 ?_ | refine n6 (hc) ?_ | refine n6 (hla) ?_ | refine n6v (hc) ?_ | refine n6v (hla) ?_ | refine WL_nil ?_ | refine W_seq ?_ | refine W_region ?_ | refine n7 ?_ | refine n8 ?_ | refine W_block ?_ | refine W_skip ?_ | refine W_ret ?_ | refine W_exit ?_ | refine WQ_then ?_ | refine WQ_then_ret ?_ | refine WQ_then_exit ?_ | refine WQ_block_normal ?_ | refine WQ_block_ret ?_ | refine WQ_block_exit ?_ | refine n9 ?_)
    apply WQ_nilRow 61 43
    apply WQ_nilL 5
    ((apply ret3 Try.results17 ( (Value.slice none 0 0, []))); (focus (first | trivial | assumption | omega)); (focus (first | exact RV_tmp rfl | (apply RV_cellN; exact rfl; (repeat' (first | exact Pick.head _ _ | apply Pick.tail)); (intro _; exact rfl); (intro _; exact rfl); exact rfl) | (apply RV_cell1; exact rfl; (repeat' (first | exact Pick.head _ _ | apply Pick.tail)); (intro _; exact rfl); exact rfl))); (focus (first | exact RV_tmp rfl | (apply RV_cellN; exact rfl; (repeat' (first | exact Pick.head _ _ | apply Pick.tail)); (intro _; exact rfl); (intro _; exact rfl); exact rfl) | (apply RV_cell1; exact rfl; (repeat' (first | exact Pick.head _ _ | apply Pick.tail)); (intro _; exact rfl); exact rfl))); (focus (first | exact RV_tmp rfl | (apply RV_cellN; exact rfl; (repeat' (first | exact Pick.head _ _ | apply Pick.tail)); (intro _; exact rfl); (intro _; exact rfl); exact rfl) | (apply RV_cell1; exact rfl; (repeat' (first | exact Pick.head _ _ | apply Pick.tail)); (intro _; exact rfl); exact rfl)));  (focus (first | exact rfl | (simp; done))); (focus (repeat (first | exact SubO.nil _ | (apply SubO.cons; (focus (repeat' (first | exact Pick.head _ _ | apply Pick.tail))))))); (focus (repeat (first | exact AllE.nil _ | (apply AllE.cons; (focus (first | exact ent_nilBy | exact ent_nilSl | (apply Ent.mem; repeat' (first | exact mcs | apply mct)))))))))
end Go.Proofs.Ytglmcnjkcmbefaa
