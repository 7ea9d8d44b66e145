/-
  'HeaderEnds'.
-/
import Derived.Test.YtbdcpahifcbcfaaVGp
import Derived.Test.YtbdcpahifcbcfaaXc
namespace Go.Proofs.Ytbdcpahifcbcfaa
open Go Go.RowKit Go.Hs
def dat (p q : Bool) (a1 a2 a3 a4 : A6) : Hd := ⟨2, 0, p, q, false, false, false, false, false, 0, a1, a2, a3, a4, 0, 0, 0, 0, false, false⟩
theorem dat_w (p q : Bool) (a1 a2 a3 a4 : A6) : (dat p q a1 a2 a3 a4).w := ⟨w64_zero, w64_zero, w64_zero, w64_zero⟩
theorem hd_len (h : Hd) : h.cells.length = 40 := rfl
theorem ends_in (h : Hd) (e : endE h = 0) : (endT h = h.a1 ∨ (¬ endT h = h.a1 ∧ endT h = h.a3)) ∧ (endF h = h.a2 ∨ (¬ endF h = h.a2 ∧ (endF h = h.a3 ∨ (¬ endF h = h.a3 ∧ endF h = h.a4)))) := by
  have h1 : endT h = h.a1 ∨ endT h = h.a3 := by
    unfold endT
    rw [if_pos e]
    split
    · exact .inr rfl
    · exact .inl rfl
  have h2 : endF h = h.a2 ∨ endF h = h.a3 ∨ endF h = h.a4 := by
    unfold endF
    rw [if_pos e]
    split
    · exact .inr (.inr rfl)
    · split
      · exact .inr (.inl rfl)
      · exact .inl rfl
  refine ⟨?_, ?_⟩
  · by_cases c : endT h = h.a1
    · exact .inl c
    · exact .inr ⟨c, h1.resolve_left c⟩
  · by_cases c : endF h = h.a2
    · exact .inl c
    · refine .inr ⟨c, ?_⟩
      by_cases d : endF h = h.a3
      · exact .inl d
      · exact .inr ⟨d, (h2.resolve_left c).resolve_left d⟩
theorem dat_ends (p q : Bool) (a1 a2 a3 a4 : A6) : (hdB (dat p q a1 a2 a3 a4) = true → endE (dat p q a1 a2 a3 a4) = 0 ∧ endT (dat p q a1 a2 a3 a4) = (if p then a3 else a1) ∧ endF (dat p q a1 a2 a3 a4) = (if p && q then a4 else if q then a3 else a2)) ∧
    (hdB (dat p q a1 a2 a3 a4) = false → endE (dat p q a1 a2 a3 a4) = 8 ∧ endT (dat p q a1 a2 a3 a4) = zA6 ∧ endF (dat p q a1 a2 a3 a4) = zA6) := by
  have hk : ¬ (dat p q a1 a2 a3 a4).kind.toNat = 1 := by show ¬ (2 : UInt8).toNat = 1; decide
  refine ⟨fun h => ?_, fun h => ?_⟩
  · have e : endE (dat p q a1 a2 a3 a4) = 0 := by unfold endE; rw [h, if_pos rfl, if_neg hk]
    refine ⟨e, ?_, ?_⟩
    · unfold endT; rw [if_pos e]; rfl
    · unfold endF; rw [if_pos e]; rfl
  · have e : endE (dat p q a1 a2 a3 a4) = 8 := by unfold endE; rw [h]; rfl
    refine ⟨e, ?_, ?_⟩
    · unfold endT; rw [e]; rfl
    · unfold endF; rw [e]; rfl
def EndsG (a g : A6) (H : Hd) : Prop := H.w ∧ (hdB H = true → endE H = 0 ∧ endT H = a ∧ endF H = g) ∧ (hdB H = false → endE H = 8 ∧ endT H = zA6 ∧ endF H = zA6)
theorem ends_all (a g c d : A6) (j : Nat) (hj : j < 4) : EndsG a g ([dat true false c g a zA6, dat true true d c a g, dat false true a d g zA6, dat false false a g zA6 zA6].getD j h0_) := by
  have h4 : j = 0 ∨ j = 1 ∨ j = 2 ∨ j = 3 := by omega
  rcases h4 with rfl | rfl | rfl | rfl
  · exact ⟨dat_w .., dat_ends true false c g a zA6⟩
  · exact ⟨dat_w .., dat_ends true true d c a g⟩
  · exact ⟨dat_w .., dat_ends false true a d g zA6⟩
  · exact ⟨dat_w .., dat_ends false false a g zA6 zA6⟩
attribute [local irreducible] WL W WQ PL Runs Effs AllE Ent SubO FrIn Pick OneC Ones CellsE PartsE SeqE UZ By Sl Pt Ct

set_option maxRecDepth 100000 in
set_option maxHeartbeats 16000000 in
theorem endsLaw_fn (h : Hd) (hw : h.w) (a g c d : A6) : CtD Try.prog 8 [h.val, aV a, aV g, aV c, aV d] [] (.bool true) := by
  have ha := alive_fn
  have he := ends_fn h hw
  have hin := ends_in h
  generalize endT h = T at *
  generalize endF h = F at *
  generalize endE h = e at *
  refine Ct_intro Try.func8 rfl Try.ntmps8 (by simp) _ rfl (fun w0 O0 => ?_)
  repeat (first | refine n1 ?_ | refine n2 (fun b _ => ?_) | refine n3 (fun _ _ => ?_) | refine n4 ?_ | refine n5 ?_ | refine n6 (ha) ?_ | refine n6v (ha) ?_ | refine WL_nil ?_ | refine W_seq ?_ | refine W_region ?_ | refine n7 ?_ | refine n8 ?_ | refine W_block ?_ | refine W_skip ?_ | refine W_ret ?_ | refine W_exit ?_ | refine WQ_then ?_ | refine WQ_then_ret ?_ | refine WQ_then_exit ?_ | refine WQ_block_normal ?_ | refine WQ_block_ret ?_ | refine WQ_block_exit ?_ | refine n9 ?_)
  repeat ((fail_if_success apply W_isIf); (first | refine n1 ?_ | refine n2 (fun b _ => ?_) | refine n3 (fun _ _ => ?_) | refine n4 ?_ | refine n5 ?_ | refine n6 (he) ?_ | refine n6v (he) ?_ | refine WL_nil ?_ | refine W_seq ?_ | refine W_region ?_ | refine n7 ?_ | refine n8 ?_ | refine W_block ?_ | refine W_skip ?_ | refine W_ret ?_ | refine W_exit ?_ | refine WQ_then ?_ | refine WQ_then_ret ?_ | refine WQ_then_exit ?_ | refine WQ_block_normal ?_ | refine WQ_block_ret ?_ | refine WQ_block_exit ?_ | refine n9 ?_))
  ((apply W_cutK (X := Unit) [] [] (fun _ => True) (fun _ => []) (fun _ => []) (fun _ => [])); exact rfl; exact rfl; (intro _; exact rfl); (intro _; exact rfl); (intro _; exact rfl))
  · by_cases k : e = 0
    · obtain ⟨k1, k2⟩ := hin k
      rcases k1 with t1 | ⟨t1, t2⟩
      · rcases k2 with f1 | ⟨f1, f2 | ⟨f2, f3⟩⟩
        all_goals
          repeat (first | refine n1 ?_ | refine n2 (fun b _ => ?_) | refine n3 (fun _ _ => ?_) | refine n4 ?_ | refine n5 ?_ | refine WL_nil ?_ | refine W_seq ?_ | refine W_region ?_ | refine n7 ?_ | refine n8 ?_ | refine W_block ?_ | refine W_skip ?_ | refine W_ret ?_ | refine W_exit ?_ | refine WQ_then ?_ | refine WQ_then_ret ?_ | refine WQ_then_exit ?_ | refine WQ_block_normal ?_ | refine WQ_block_ret ?_ | refine WQ_block_exit ?_ | refine n9 ?_)
          ((apply WQ_meet (())); (focus (first | trivial | omega | assumption | exact ⟨by omega, by omega⟩ | (simp; done))); (focus (repeat (first | exact FrIn.nil _ | (apply FrIn.cons; exact rfl; (first | exact rfl | (congr 1; first | omega | (dsimp only; omega)) | (simp; done)))))); (focus (repeat (first | exact SubO.nil _ | (apply SubO.cons; (focus (repeat' (first | exact Pick.head _ _ | apply Pick.tail))))))); (focus (repeat (first | exact AllE.nil _ | (apply AllE.cons; (focus (first | exact ent_nilBy | exact ent_nilSl | (apply Ent.mem; repeat' (first | exact mcs | apply mct)))))))))
      · rcases k2 with f1 | ⟨f1, f2 | ⟨f2, f3⟩⟩
        all_goals
          repeat (first | refine n1 ?_ | refine n2 (fun b _ => ?_) | refine n3 (fun _ _ => ?_) | refine n4 ?_ | refine n5 ?_ | refine WL_nil ?_ | refine W_seq ?_ | refine W_region ?_ | refine n7 ?_ | refine n8 ?_ | refine W_block ?_ | refine W_skip ?_ | refine W_ret ?_ | refine W_exit ?_ | refine WQ_then ?_ | refine WQ_then_ret ?_ | refine WQ_then_exit ?_ | refine WQ_block_normal ?_ | refine WQ_block_ret ?_ | refine WQ_block_exit ?_ | refine n9 ?_)
          ((apply WQ_meet (())); (focus (first | trivial | omega | assumption | exact ⟨by omega, by omega⟩ | (simp; done))); (focus (repeat (first | exact FrIn.nil _ | (apply FrIn.cons; exact rfl; (first | exact rfl | (congr 1; first | omega | (dsimp only; omega)) | (simp; done)))))); (focus (repeat (first | exact SubO.nil _ | (apply SubO.cons; (focus (repeat' (first | exact Pick.head _ _ | apply Pick.tail))))))); (focus (repeat (first | exact AllE.nil _ | (apply AllE.cons; (focus (first | exact ent_nilBy | exact ent_nilSl | (apply Ent.mem; repeat' (first | exact mcs | apply mct)))))))))
    · repeat (first | refine n1 ?_ | refine n2 (fun b _ => ?_) | refine n3 (fun _ _ => ?_) | refine n4 ?_ | refine n5 ?_ | refine WL_nil ?_ | refine W_seq ?_ | refine W_region ?_ | refine n7 ?_ | refine n8 ?_ | refine W_block ?_ | refine W_skip ?_ | refine W_ret ?_ | refine W_exit ?_ | refine WQ_then ?_ | refine WQ_then_ret ?_ | refine WQ_then_exit ?_ | refine WQ_block_normal ?_ | refine WQ_block_ret ?_ | refine WQ_block_exit ?_ | refine n9 ?_)
      ((apply WQ_meet (())); (focus (first | trivial | omega | assumption | exact ⟨by omega, by omega⟩ | (simp; done))); (focus (repeat (first | exact FrIn.nil _ | (apply FrIn.cons; exact rfl; (first | exact rfl | (congr 1; first | omega | (dsimp only; omega)) | (simp; done)))))); (focus (repeat (first | exact SubO.nil _ | (apply SubO.cons; (focus (repeat' (first | exact Pick.head _ _ | apply Pick.tail))))))); (focus (repeat (first | exact AllE.nil _ | (apply AllE.cons; (focus (first | exact ent_nilBy | exact ent_nilSl | (apply Ent.mem; repeat' (first | exact mcs | apply mct)))))))))
  · intro _ _
    clear hin he
    repeat (first | refine n1 ?_ | refine n2 (fun b _ => ?_) | refine n3 (fun _ _ => ?_) | refine n4 ?_ | refine n5 ?_ | refine WL_nil ?_ | refine W_seq ?_ | refine W_region ?_ | refine n7 ?_ | refine n8 ?_ | refine W_block ?_ | refine W_skip ?_ | refine W_ret ?_ | refine W_exit ?_ | refine WQ_then ?_ | refine WQ_then_ret ?_ | refine WQ_then_exit ?_ | refine WQ_block_normal ?_ | refine WQ_block_ret ?_ | refine WQ_block_exit ?_ | refine n9 ?_)
    (apply WL_effs; exact rfl; exact rfl; exact rfl; (apply E_buildSlice; exact rfl; (focus (repeat (first | apply SeqE.nil | (apply SeqE.cons; exact rfl; (focus (first | (apply CellsE.lit; exact rfl) | (apply CellsE.one; (first | (apply OneC.lit; exact rfl) | (apply OneC.by_; (repeat' (first | exact mcs | apply mct)); done) | (apply OneC.sl; (repeat' (first | exact mcs | apply mct)); done) | (apply OneC.rw; (repeat' (first | exact mcs | apply mct)); done) | (apply OneC.row; (repeat' (first | exact Pick.head _ _ | apply Pick.tail))))))); exact rfl) | exact rfl))); exact rfl; (first | (intro _; exact (rfl : _ = Result.ok 1 _)) | (intro _; exact (rfl : _ = Result.ok 2 _)) | (intro _; exact (rfl : _ = Result.ok 3 _)) | (intro _; exact (rfl : _ = Result.ok 4 _)) | (intro _; exact (rfl : _ = Result.ok 5 _)) | (intro _; exact (rfl : _ = Result.ok 6 _)) | (intro _; exact (rfl : _ = Result.ok 7 _)) | (intro _; exact (rfl : _ = Result.ok 8 _)) | (intro _; exact (rfl : _ = Result.ok 9 _)) | (intro _; exact (rfl : _ = Result.ok 13 _)) | (intro _; exact (rfl : _ = Result.ok 14 _)) | (intro _; exact (rfl : _ = Result.ok 26 _)) | (intro _; exact (rfl : _ = Result.ok 40 _)) | (intro _; exact (rfl : _ = Result.ok 41 _)) | (intro _; exact (rfl : _ = Result.ok 42 _)) | (intro _; exact (rfl : _ = Result.ok 43 _)) | (intro _; exact (rfl : _ = Result.ok 44 _)) | (intro _; exact (rfl : _ = Result.ok 45 _)) | (intro _; exact (rfl : _ = Result.ok 46 _))); (intro _; exact rfl); exact rfl; exact Nat.le_of_ble_eq_true rfl; exact Nat.le_of_ble_eq_true rfl); skip)
    intro q _
    refine WL_letgo (v := q) (by repeat' (first | exact Pick.head _ _ | apply Pick.tail)) ?_
    have hall := ends_all a g c d
    obtain ⟨l, hl⟩ : ∃ l, [dat true false c g a zA6, dat true true d c a g, dat false true a d g zA6, dat false false a g zA6 zA6] = l := ⟨_, rfl⟩
    have hlen : l.length = 4 := by rw [← hl]; rfl
    refine WL_ent (ent_slG hd_len h0_ (l := l) (by repeat' (first | exact mcs | apply mct)) (by rw [← hl]; rfl) (by rw [← hl]; rfl)) ?_
    rw [hl] at hall
    clear hl
    repeat (first | refine n1 ?_ | refine n2 (fun b _ => ?_) | refine n3 (fun _ _ => ?_) | refine n4 ?_ | refine n5 ?_ | refine WL_nil ?_ | refine W_seq ?_ | refine W_region ?_ | refine n7 ?_ | refine n8 ?_ | refine W_block ?_ | refine W_skip ?_ | refine W_ret ?_ | refine W_exit ?_ | refine WQ_then ?_ | refine WQ_then_ret ?_ | refine WQ_then_exit ?_ | refine WQ_block_normal ?_ | refine WQ_block_ret ?_ | refine WQ_block_exit ?_ | refine n9 ?_)
    ((apply W_loopK (X := Nat) [20] [] (fun x => x ≤ 4) (fun x => [(20, .int .i64 (x : Int))]) (fun _ => []) (fun _ => []) (fun x => 4 - x) (0)); (focus exact Nat.zero_le _); exact rfl; exact rfl; (intro _; exact rfl); (intro _; exact rfl); (intro _; exact rfl); (focus (repeat (first | exact FrIn.nil _ | (apply FrIn.cons; exact rfl; (first | exact rfl | (congr 1; first | omega | (dsimp only; omega)) | (simp; done)))))); (focus (repeat (first | exact SubO.nil _ | (apply SubO.cons; (focus (repeat' (first | exact Pick.head _ _ | apply Pick.tail))))))); (focus (repeat (first | exact AllE.nil _ | (apply AllE.cons; (focus (first | exact ent_nilBy | exact ent_nilSl | (apply Ent.mem; repeat' (first | exact mcs | apply mct)))))))); intro x hx)
    replace hx : x ≤ 4 := hx
    by_cases hj : x < 4
    · obtain ⟨hHw, hy, hn⟩ := hall x hj
      have he := ends_fn (l.getD x h0_) hHw
      have hc := check_fn (l.getD x h0_) hHw
      cases hB : hdB (l.getD x h0_) with
      | true =>
        obtain ⟨e1, e2, e3⟩ := hy hB
        rw [e1, e2, e3] at he
        rw [hB] at hc
        repeat (first | refine n1 ?_ | refine n2 (fun b _ => ?_) | refine n3 (fun _ _ => ?_) | refine n4 ?_ | refine n5 ?_ | refine n6 (he) ?_ | refine n6 (hc) ?_ | refine n6v (he) ?_ | refine n6v (hc) ?_ | refine WL_nil ?_ | refine W_seq ?_ | refine W_region ?_ | refine n7 ?_ | refine n8 ?_ | refine W_block ?_ | refine W_skip ?_ | refine W_ret ?_ | refine W_exit ?_ | refine WQ_then ?_ | refine WQ_then_ret ?_ | refine WQ_then_exit ?_ | refine WQ_block_normal ?_ | refine WQ_block_ret ?_ | refine WQ_block_exit ?_ | refine n9 ?_)
        ((apply WQ_again (x + 1)); (focus exact hj); (focus (exact (show 4 - (x + 1) < 4 - x by omega))); (focus (repeat (first | exact FrIn.nil _ | (apply FrIn.cons; exact rfl; (first | exact rfl | (congr 1; first | omega | (dsimp only; omega)) | (simp; done)))))); (focus (repeat (first | exact SubO.nil _ | (apply SubO.cons; (focus (repeat' (first | exact Pick.head _ _ | apply Pick.tail))))))); (focus (repeat (first | exact AllE.nil _ | (apply AllE.cons; (focus (first | exact ent_nilBy | exact ent_nilSl | (apply Ent.mem; repeat' (first | exact mcs | apply mct)))))))))
      | false =>
        obtain ⟨e1, e2, e3⟩ := hn hB
        rw [e1, e2, e3] at he
        rw [hB] at hc
        repeat (first | refine n1 ?_ | refine n2 (fun b _ => ?_) | refine n3 (fun _ _ => ?_) | refine n4 ?_ | refine n5 ?_ | refine n6 (he) ?_ | refine n6 (hc) ?_ | refine n6v (he) ?_ | refine n6v (hc) ?_ | refine WL_nil ?_ | refine W_seq ?_ | refine W_region ?_ | refine n7 ?_ | refine n8 ?_ | refine W_block ?_ | refine W_skip ?_ | refine W_ret ?_ | refine W_exit ?_ | refine WQ_then ?_ | refine WQ_then_ret ?_ | refine WQ_then_exit ?_ | refine WQ_block_normal ?_ | refine WQ_block_ret ?_ | refine WQ_block_exit ?_ | refine n9 ?_)
        ((apply WQ_again (x + 1)); (focus exact hj); (focus (exact (show 4 - (x + 1) < 4 - x by omega))); (focus (repeat (first | exact FrIn.nil _ | (apply FrIn.cons; exact rfl; (first | exact rfl | (congr 1; first | omega | (dsimp only; omega)) | (simp; done)))))); (focus (repeat (first | exact SubO.nil _ | (apply SubO.cons; (focus (repeat' (first | exact Pick.head _ _ | apply Pick.tail))))))); (focus (repeat (first | exact AllE.nil _ | (apply AllE.cons; (focus (first | exact ent_nilBy | exact ent_nilSl | (apply Ent.mem; repeat' (first | exact mcs | apply mct)))))))))
    · obtain rfl : x = 4 := by omega
      repeat (first | refine n1 ?_ | refine n2 (fun b _ => ?_) | refine n3 (fun _ _ => ?_) | refine n4 ?_ | refine n5 ?_ | refine WL_nil ?_ | refine W_seq ?_ | refine W_region ?_ | refine n7 ?_ | refine n8 ?_ | refine W_block ?_ | refine W_skip ?_ | refine W_ret ?_ | refine W_exit ?_ | refine WQ_then ?_ | refine WQ_then_ret ?_ | refine WQ_then_exit ?_ | refine WQ_block_normal ?_ | refine WQ_block_ret ?_ | refine WQ_block_exit ?_ | refine n9 ?_)
      ((apply ret1 Try.results8 ( ())); (focus (first | trivial | assumption | omega)); (focus (first | exact RV_tmp rfl | (apply RV_cellN; exact rfl; (repeat' (first | exact Pick.head _ _ | apply Pick.tail)); (intro _; exact rfl); (intro _; exact rfl); exact rfl) | (apply RV_cell1; exact rfl; (repeat' (first | exact Pick.head _ _ | apply Pick.tail)); (intro _; exact rfl); exact rfl)));  (focus (first | exact rfl | (simp; done))); (focus (repeat (first | exact SubO.nil _ | (apply SubO.cons; (focus (repeat' (first | exact Pick.head _ _ | apply Pick.tail))))))); (focus (repeat (first | exact AllE.nil _ | (apply AllE.cons; (focus (first | exact ent_nilBy | exact ent_nilSl | (apply Ent.mem; repeat' (first | exact mcs | apply mct)))))))))
end Go.Proofs.Ytbdcpahifcbcfaa
