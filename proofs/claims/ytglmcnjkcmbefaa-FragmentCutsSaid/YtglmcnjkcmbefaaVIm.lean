/-
  Lists of frames compared by the reference.
-/
import Derived.Test.YtglmcnjkcmbefaaVIk
namespace Go.Proofs.Ytglmcnjkcmbefaa
open Go Go.RowKit Go.Hs C05
/-- the bodies of a list of frames last. -/
def Bf (l : List Fm) : SP := ⟨fun w O => ∀ p ∈ l, (By p.bv p.body).p w O, fun h hm ho p hp => (By p.bv p.body).st (h p hp) hm ho⟩
theorem ent_bf {Φ : List SP} {l : List Fm} {p : Fm} (hm : Bf l ∈ Φ) (hp : p ∈ l) : Ent Φ (By p.bv p.body) := fun _ _ h => h _ hm p hp
theorem fm_drop {l m : List Fm} {k : Nat} (h1 : k < l.length) (h2 : k < m.length) : ((l.drop k).map Fmz = (m.drop k).map Fmz) ↔ (Fmz (l.getD k f0_) = Fmz (m.getD k f0_) ∧ (l.drop (k + 1)).map Fmz = (m.drop (k + 1)).map Fmz) := by
  rw [drop_cons_getD h1 f0_, drop_cons_getD h2 f0_, List.map_cons, List.map_cons, List.cons.injEq]
theorem fmz_same (p q : Fm) : (Fmz p = Fmz q) ↔ sameB p.head q.head p.body q.body = true := by
  unfold Fmz sameB
  simp
theorem getF {l : List Fm} {k : Nat} (h : k < l.length) : l.getD k f0_ ∈ l := by
  rw [List.getD_eq_getElem?_getD, List.getElem?_eq_getElem h]
  exact List.getElem_mem h
attribute [local irreducible] WL W WQ PL Runs Effs AllE Ent SubO FrIn Pick OneC Ones CellsE PartsE SeqE UZ By Sl Pt Ct

set_option maxRecDepth 100000 in
set_option maxHeartbeats 8000000 in
theorem rsameAll_fn (l m : List Fm) (v u : Value) (hl : ∀ p ∈ l, p.head.w) (hm : ∀ p ∈ m, p.head.w) : CtD Try.prog 13 [v, u]
    [Rw 41 v l.length (fun i => (l.getD i f0_).cells), Bf l, Rw 41 u m.length (fun i => (m.getD i f0_).cells), Bf m] (.bool (decide (l.map Fmz = m.map Fmz))) := by
  by_cases c0 : l.length = m.length
  · refine Ct_intro Try.func13 rfl Try.ntmps13 (by simp) _ rfl (fun w0 O0 => ?_)
    refine W_pure (rw_le (n := l.length) (by repeat' (first | exact mcs | apply mct))) fun hle => ?_
    repeat (first | refine n1 ?_ | refine n2 (fun b _ => ?_) | refine n3 (fun _ _ => ?_) | refine n4 ?_ | refine n5 ?_ | refine WL_nil ?_ | refine W_seq ?_ | refine W_region ?_ | refine n7 ?_ | refine n8 ?_ | refine W_block ?_ | refine W_skip ?_ | refine W_ret ?_ | refine W_exit ?_ | refine WQ_then ?_ | refine WQ_then_ret ?_ | refine WQ_then_exit ?_ | refine WQ_block_normal ?_ | refine WQ_block_ret ?_ | refine WQ_block_exit ?_ | refine n9 ?_)
    ((apply W_loopK (X := Nat) [5] [] (fun x => x ≤ l.length ∧ (l.map Fmz = m.map Fmz ↔ (l.drop x).map Fmz = (m.drop x).map Fmz)) (fun x => [(5, .int .i64 (x : Int))]) (fun _ => []) (fun _ => []) (fun x => l.length - x) (0)); (focus exact ⟨Nat.zero_le _, Iff.rfl⟩); exact rfl; exact rfl; (intro _; exact rfl); (intro _; exact rfl); (intro _; exact rfl); (focus (repeat (first | exact FrIn.nil _ | (apply FrIn.cons; exact rfl; (first | exact rfl | (congr 1; first | omega | (dsimp only; omega)) | (simp; done)))))); (focus (repeat (first | exact SubO.nil _ | (apply SubO.cons; (focus (repeat' (first | exact Pick.head _ _ | apply Pick.tail))))))); (focus (repeat (first | exact AllE.nil _ | (apply AllE.cons; (focus (first | exact ent_nilBy | exact ent_nilSl | (apply Ent.mem; repeat' (first | exact mcs | apply mct)))))))); intro x hx)
    obtain ⟨h1, h2⟩ := hx
    by_cases c1 : x < l.length
    · have c2 : x < m.length := by omega
      have hd := fm_drop c1 c2
      have hrs := rsame_fn (l.getD x f0_) (m.getD x f0_) (hl _ (getF c1)) (hm _ (getF c2))
      have hfs := fmz_same (l.getD x f0_) (m.getD x f0_)
      refine W_ent (ent_bf (l := l) (p := l.getD x f0_) (by (focus (repeat' (first | exact mcs | apply mct)))) (getF c1)) (W_ent (ent_bf (l := m) (p := m.getD x f0_) (by (focus (repeat' (first | exact mcs | apply mct)))) (getF c2)) ?_)
      cases e : sameB (l.getD x f0_).head (m.getD x f0_).head (l.getD x f0_).body (m.getD x f0_).body with
      | true =>
        rw [e] at hrs
        have hn : x + 1 ≤ l.length ∧ (l.map Fmz = m.map Fmz ↔ (l.drop (x + 1)).map Fmz = (m.drop (x + 1)).map Fmz) := ⟨c1, by rw [h2, hd]; exact ⟨fun h => h.2, fun h => ⟨hfs.2 e, h⟩⟩⟩
        repeat (first | refine n1 ?_ | refine n2 (fun b _ => ?_) | refine n3 (fun _ _ => ?_) | refine n4 ?_ | refine n5 ?_ | refine WL_nil ?_ | refine W_seq ?_ | refine W_region ?_ | refine n7 ?_ | refine n8 ?_ | refine W_block ?_ | refine W_skip ?_ | refine W_ret ?_ | refine W_exit ?_ | refine WQ_then ?_ | refine WQ_then_ret ?_ | refine WQ_then_exit ?_ | refine WQ_block_normal ?_ | refine WQ_block_ret ?_ | refine WQ_block_exit ?_ | refine n9 ?_)
        (refine W_regionP' [] [] [0, 1, 2, 3, 4, 5, 6, 7, 8, 9] [] (by kernel_rfl) (by kernel_rfl) (by repeat (first | exact UZ.nil _ _ | (apply UZ.cons; exact rfl; (intro _; exact rfl)))) (by exact rfl) (by (repeat (first | exact SubO.nil _ | (apply SubO.cons; (focus (repeat' (first | exact Pick.head _ _ | apply Pick.tail))))))) ?_)
        repeat (first | refine p1 ?_ | refine p2 (fun b _ => ?_) | refine p3 (fun _ _ => ?_) | refine p4 ?_ | refine p5 ?_ | refine p6 (hrs) ?_ | refine p6v (hrs) ?_ | refine p7 (fun b => ?_) | refine PL_nil ?_)
        repeat (first | refine n1 ?_ | refine n2 (fun b _ => ?_) | refine n3 (fun _ _ => ?_) | refine n4 ?_ | refine n5 ?_ | refine WL_nil ?_ | refine W_seq ?_ | refine W_region ?_ | refine n7 ?_ | refine n8 ?_ | refine W_block ?_ | refine W_skip ?_ | refine W_ret ?_ | refine W_exit ?_ | refine WQ_then ?_ | refine WQ_then_ret ?_ | refine WQ_then_exit ?_ | refine WQ_block_normal ?_ | refine WQ_block_ret ?_ | refine WQ_block_exit ?_ | refine n9 ?_)
        ((apply WQ_again (x + 1)); (focus exact hn); (focus (omega)); (focus (repeat (first | exact FrIn.nil _ | (apply FrIn.cons; exact rfl; (first | exact rfl | (congr 1; first | omega | (dsimp only; omega)) | (simp; done)))))); (focus (repeat (first | exact SubO.nil _ | (apply SubO.cons; (focus (repeat' (first | exact Pick.head _ _ | apply Pick.tail))))))); (focus (repeat (first | exact AllE.nil _ | (apply AllE.cons; (focus (first | exact ent_nilBy | exact ent_nilSl | (apply Ent.mem; repeat' (first | exact mcs | apply mct)))))))))
      | false =>
        rw [e] at hrs
        have hF : ¬ l.map Fmz = m.map Fmz := by
          rw [h2, hd]
          rintro ⟨h, _⟩
          rw [hfs.1 h] at e
          cases e
        rw [decide_eq_false hF]
        repeat (first | refine n1 ?_ | refine n2 (fun b _ => ?_) | refine n3 (fun _ _ => ?_) | refine n4 ?_ | refine n5 ?_ | refine WL_nil ?_ | refine W_seq ?_ | refine W_region ?_ | refine n7 ?_ | refine n8 ?_ | refine W_block ?_ | refine W_skip ?_ | refine W_ret ?_ | refine W_exit ?_ | refine WQ_then ?_ | refine WQ_then_ret ?_ | refine WQ_then_exit ?_ | refine WQ_block_normal ?_ | refine WQ_block_ret ?_ | refine WQ_block_exit ?_ | refine n9 ?_)
        (refine W_regionP' [] [] [0, 1, 2, 3, 4, 5, 6, 7, 8, 9] [] (by kernel_rfl) (by kernel_rfl) (by repeat (first | exact UZ.nil _ _ | (apply UZ.cons; exact rfl; (intro _; exact rfl)))) (by exact rfl) (by (repeat (first | exact SubO.nil _ | (apply SubO.cons; (focus (repeat' (first | exact Pick.head _ _ | apply Pick.tail))))))) ?_)
        repeat (first | refine p1 ?_ | refine p2 (fun b _ => ?_) | refine p3 (fun _ _ => ?_) | refine p4 ?_ | refine p5 ?_ | refine p6 (hrs) ?_ | refine p6v (hrs) ?_ | refine p7 (fun b => ?_) | refine PL_nil ?_)
        repeat (first | refine n1 ?_ | refine n2 (fun b _ => ?_) | refine n3 (fun _ _ => ?_) | refine n4 ?_ | refine n5 ?_ | refine WL_nil ?_ | refine W_seq ?_ | refine W_region ?_ | refine n7 ?_ | refine n8 ?_ | refine W_block ?_ | refine W_skip ?_ | refine W_ret ?_ | refine W_exit ?_ | refine WQ_then ?_ | refine WQ_then_ret ?_ | refine WQ_then_exit ?_ | refine WQ_block_normal ?_ | refine WQ_block_ret ?_ | refine WQ_block_exit ?_ | refine n9 ?_)
        ((apply ret1 Try.results13 ( ())); (focus (first | trivial | assumption | omega)); (focus (first | exact RV_tmp rfl | (apply RV_cellN; exact rfl; (repeat' (first | exact Pick.head _ _ | apply Pick.tail)); (intro _; exact rfl); (intro _; exact rfl); exact rfl) | (apply RV_cell1; exact rfl; (repeat' (first | exact Pick.head _ _ | apply Pick.tail)); (intro _; exact rfl); exact rfl)));  (focus (first | exact rfl | (simp; done))); (focus (repeat (first | exact SubO.nil _ | (apply SubO.cons; (focus (repeat' (first | exact Pick.head _ _ | apply Pick.tail))))))); (focus (repeat (first | exact AllE.nil _ | (apply AllE.cons; (focus (first | exact ent_nilBy | exact ent_nilSl | (apply Ent.mem; repeat' (first | exact mcs | apply mct)))))))))
    · have hT : l.map Fmz = m.map Fmz := by
        rw [h2, List.drop_of_length_le (by omega), List.drop_of_length_le (by omega)]
      rw [decide_eq_true hT]
      repeat (first | refine n1 ?_ | refine n2 (fun b _ => ?_) | refine n3 (fun _ _ => ?_) | refine n4 ?_ | refine n5 ?_ | refine WL_nil ?_ | refine W_seq ?_ | refine W_region ?_ | refine n7 ?_ | refine n8 ?_ | refine W_block ?_ | refine W_skip ?_ | refine W_ret ?_ | refine W_exit ?_ | refine WQ_then ?_ | refine WQ_then_ret ?_ | refine WQ_then_exit ?_ | refine WQ_block_normal ?_ | refine WQ_block_ret ?_ | refine WQ_block_exit ?_ | refine n9 ?_)
      ((apply ret1 Try.results13 ( ())); (focus (first | trivial | assumption | omega)); (focus (first | exact RV_tmp rfl | (apply RV_cellN; exact rfl; (repeat' (first | exact Pick.head _ _ | apply Pick.tail)); (intro _; exact rfl); (intro _; exact rfl); exact rfl) | (apply RV_cell1; exact rfl; (repeat' (first | exact Pick.head _ _ | apply Pick.tail)); (intro _; exact rfl); exact rfl)));  (focus (first | exact rfl | (simp; done))); (focus (repeat (first | exact SubO.nil _ | (apply SubO.cons; (focus (repeat' (first | exact Pick.head _ _ | apply Pick.tail))))))); (focus (repeat (first | exact AllE.nil _ | (apply AllE.cons; (focus (first | exact ent_nilBy | exact ent_nilSl | (apply Ent.mem; repeat' (first | exact mcs | apply mct)))))))))
  · have hF : ¬ l.map Fmz = m.map Fmz := fun h => c0 (by simpa using congrArg List.length h)
    rw [decide_eq_false hF]
    refine Ct_intro Try.func13 rfl Try.ntmps13 (by simp) _ rfl (fun w0 O0 => ?_)
    repeat (first | refine n1 ?_ | refine n2 (fun b _ => ?_) | refine n3 (fun _ _ => ?_) | refine n4 ?_ | refine n5 ?_ | refine WL_nil ?_ | refine W_seq ?_ | refine W_region ?_ | refine n7 ?_ | refine n8 ?_ | refine W_block ?_ | refine W_skip ?_ | refine W_ret ?_ | refine W_exit ?_ | refine WQ_then ?_ | refine WQ_then_ret ?_ | refine WQ_then_exit ?_ | refine WQ_block_normal ?_ | refine WQ_block_ret ?_ | refine WQ_block_exit ?_ | refine n9 ?_)
    ((apply ret1 Try.results13 ( ())); (focus (first | trivial | assumption | omega)); (focus (first | exact RV_tmp rfl | (apply RV_cellN; exact rfl; (repeat' (first | exact Pick.head _ _ | apply Pick.tail)); (intro _; exact rfl); (intro _; exact rfl); exact rfl) | (apply RV_cell1; exact rfl; (repeat' (first | exact Pick.head _ _ | apply Pick.tail)); (intro _; exact rfl); exact rfl)));  (focus (first | exact rfl | (simp; done))); (focus (repeat (first | exact SubO.nil _ | (apply SubO.cons; (focus (repeat' (first | exact Pick.head _ _ | apply Pick.tail))))))); (focus (repeat (first | exact AllE.nil _ | (apply AllE.cons; (focus (first | exact ent_nilBy | exact ent_nilSl | (apply Ent.mem; repeat' (first | exact mcs | apply mct)))))))))
end Go.Proofs.Ytglmcnjkcmbefaa
