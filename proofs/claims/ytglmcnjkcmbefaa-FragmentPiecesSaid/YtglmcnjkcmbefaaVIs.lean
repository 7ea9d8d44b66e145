/-
  The law 'FragmentPieces' walked.
-/
import Derived.Test.YtglmcnjkcmbefaaVIr
namespace Go.Proofs.Ytglmcnjkcmbefaa
open Go Go.RowKit Go.Hs C05
theorem ent_rwExt {Φ : List SP} {size n : Nat} {v : Value} {f g : Nat → List Value} (hm : Rw size v n f ∈ Φ) (h : ∀ i, i < n → f i = g i) : Ent Φ (Rw size v n g) := fun w O hw => by
  obtain ⟨A, c, hv, h1, h2, hr⟩ := hw _ hm
  refine ⟨A, c, hv, h1, h2, fun hn => ?_⟩
  obtain ⟨ad, q1, q2, q3, hcell⟩ := hr hn
  exact ⟨ad, q1, q2, q3, fun i hi j u hu => hcell i hi j u (by rw [h i hi]; exact hu)⟩
theorem pc_le (b : List UInt8) (s i : Nat) : (pcB b s i).length ≤ s := by
  unfold pcB
  rw [List.length_take]
  omega
theorem pc_len {b : List UInt8} {s i : Nat} (hs : 1 ≤ s) (h : i + 1 < manyN b.length s) : (pcB b s i).length = s := by
  unfold pcB
  rw [List.length_take, List.length_drop]
  rcases Nat.eq_zero_or_pos b.length with e | e
  · unfold manyN at h
    rw [if_pos e] at h
    omega
  · have := (many_lt hs e).1 h
    rw [Nat.succ_mul] at this
    omega
theorem pc_next (b : List UInt8) (s i : Nat) : b.take (i * s) ++ pcB b s i = b.take ((i + 1) * s) := by
  unfold pcB
  rw [Nat.succ_mul, List.take_add]
theorem pc_all {b : List UInt8} {s : Nat} (hs : 1 ≤ s) : b.take (manyN b.length s * s) = b := by
  apply List.take_of_length_le
  rcases Nat.eq_zero_or_pos b.length with e | e
  · omega
  · apply Nat.le_of_not_lt
    intro h
    exact Nat.lt_irrefl _ ((many_lt hs e).2 h)
/-- what is known of a frame that is cut. -/
theorem cut_ok {h : Hd} {b : List UInt8} {size : Int} (he : cutE h b size = 0) : (sndB h b = true ∧ ¬ h.kind.toNat = 1 ∧ grpB h.a1 = false ∧ h.more = false ∧ h.amsdu = false ∧ h.frag = 0) ∧ b.length ≤ 2304 ∧ 1 ≤ size ∧ manyN b.length size.toNat ≤ 16 := by
  unfold cutE at he
  split at he
  · cases he
  · next hp =>
    split at he
    · cases he
    · split at he
      · cases he
      · split at he
        · cases he
        · refine ⟨⟨?_, ?_, ?_, ?_, ?_, ?_⟩, by omega, by omega, by omega⟩
          · cases e : sndB h b
            · exact absurd (.inl e) hp
            · rfl
          · exact fun e => hp (.inr (.inl e))
          · cases e : grpB h.a1
            · rfl
            · exact absurd (.inr (.inr (.inl e))) hp
          · cases e : h.more
            · rfl
            · exact absurd (.inr (.inr (.inr (.inl e)))) hp
          · cases e : h.amsdu
            · rfl
            · exact absurd (.inr (.inr (.inr (.inr (.inl e))))) hp
          · apply Classical.byContradiction
            exact fun e => hp (.inr (.inr (.inr (.inr (.inr e)))))
theorem cut_l {h : Hd} {b : List UInt8} {size : Int} {D : List Fm} (hD : D.map Fmz = cutL h b size) (he : cutE h b size = 0) : D.length = manyN b.length size.toNat ∧ ∀ i, i < D.length → D.getD i f0_ = ⟨pcH h (manyN b.length size.toNat) i, (D.getD i f0_).bv, pcB b size.toNat i⟩ := by
  unfold cutL at hD
  rw [if_pos he] at hD
  have hl : D.length = manyN b.length size.toNat := by
    have := congrArg List.length hD
    rwa [List.length_map, List.length_map, List.length_range] at this
  refine ⟨hl, fun i hi => ?_⟩
  have h1 : (D.map Fmz)[i]? = some (pcH h (manyN b.length size.toNat) i, pcB b size.toNat i) := by
    rw [hD, List.getElem?_map, List.getElem?_range (by omega)]
    rfl
  rw [List.getElem?_map, List.getElem?_eq_getElem hi] at h1
  have h2 : D.getD i f0_ = D[i] := by rw [List.getD_eq_getElem?_getD, List.getElem?_eq_getElem hi]; rfl
  rw [h2]
  exact fm_of D[i] (Option.some.inj h1)
theorem ent_bfAt {Φ : List SP} {D : List Fm} {x : Nat} {h : Hd} {v : Value} {b : List UInt8} (hm : Bf D ∈ Φ) (hx : x < D.length) (e : D.getD x f0_ = ⟨h, v, b⟩) : Ent Φ (By v b) := fun w O hw => by
  have := hw _ hm _ (getF hx)
  rw [e] at this
  exact this
attribute [local irreducible] WL W WQ PL Runs Effs AllE Ent SubO FrIn Pick OneC Ones CellsE PartsE SeqE UZ By Sl Pt Ct

set_option maxRecDepth 100000 in
set_option maxHeartbeats 16000000 in
theorem piecesLaw_fn (f : Fm) (size : Int) (hw : f.head.w) : CtD Try.prog 5 [f.val, .int .i64 size] [f.fact] (.bool true) := by
  have hal := alive_fn
  have hgr := great_fn f
  by_cases c1 : 2400 < f.body.length
  · rw [decide_eq_true c1] at hgr
    refine Ct_intro Try.func5 rfl Try.ntmps5 (by simp) _ rfl (fun w0 O0 => ?_)
    repeat (first | refine n1 ?_ | refine n2 (fun b _ => ?_) | refine n3 (fun _ _ => ?_) | refine n4 ?_ | refine n5 ?_ | refine n6 (hal) ?_ | refine n6 (hgr) ?_ | refine n6v (hal) ?_ | refine n6v (hgr) ?_ | refine WL_nil ?_ | refine W_seq ?_ | refine W_region ?_ | refine n7 ?_ | refine n8 ?_ | refine W_block ?_ | refine W_skip ?_ | refine W_ret ?_ | refine W_exit ?_ | refine WQ_then ?_ | refine WQ_then_ret ?_ | refine WQ_then_exit ?_ | refine WQ_block_normal ?_ | refine WQ_block_ret ?_ | refine WQ_block_exit ?_ | refine n9 ?_)
    ((apply ret1 Try.results5 ( ())); (focus (first | trivial | assumption | omega)); (focus (first | exact RV_tmp rfl | (apply RV_cellN; exact rfl; (repeat' (first | exact Pick.head _ _ | apply Pick.tail)); (intro _; exact rfl); (intro _; exact rfl); exact rfl) | (apply RV_cell1; exact rfl; (repeat' (first | exact Pick.head _ _ | apply Pick.tail)); (intro _; exact rfl); exact rfl)));  (focus (first | exact rfl | (simp; done))); (focus (repeat (first | exact SubO.nil _ | (apply SubO.cons; (focus (repeat' (first | exact Pick.head _ _ | apply Pick.tail))))))); (focus (repeat (first | exact AllE.nil _ | (apply AllE.cons; (focus (first | exact ent_nilBy | exact ent_nilSl | (apply Ent.mem; repeat' (first | exact mcs | apply mct)))))))))
  rw [decide_eq_false c1] at hgr
  refine Ct_intro Try.func5 rfl Try.ntmps5 (by simp) _ rfl (fun w0 O0 => ?_)
  repeat (first | refine n1 ?_ | refine n2 (fun b _ => ?_) | refine n3 (fun _ _ => ?_) | refine n4 ?_ | refine n5 ?_ | refine n6 (hal) ?_ | refine n6 (hgr) ?_ | refine n6v (hal) ?_ | refine n6v (hgr) ?_ | refine WL_nil ?_ | refine W_seq ?_ | refine W_region ?_ | refine n7 ?_ | refine n8 ?_ | refine W_block ?_ | refine W_skip ?_ | refine W_ret ?_ | refine W_exit ?_ | refine WQ_then ?_ | refine WQ_then_ret ?_ | refine WQ_then_exit ?_ | refine WQ_block_normal ?_ | refine WQ_block_ret ?_ | refine WQ_block_exit ?_ | refine n9 ?_)
  (apply WL_effs; exact rfl; exact rfl; exact rfl; apply E_call; exact rfl; (intro _ _; simp); (exact cutS_fn f size hw (by omega)); (repeat (first | exact AllE.nil _ | (apply AllE.cons; (focus (first | exact ent_nilBy | exact ent_nilSl | (apply Ent.mem; repeat' (first | exact mcs | apply mct))))))); (intro _; exact rfl); (intro _; exact rfl))
  rintro ⟨o, D⟩ hD
  replace hD : D.map Fmz = cutL f.head f.body size := hD
  dsimp only
  by_cases c2 : cutE f.head f.body size = 0
  case neg =>
    have hL : cutL f.head f.body size = [] := by unfold cutL; rw [if_neg c2]
    rw [hL] at hD
    obtain rfl : D = [] := List.map_eq_nil_iff.1 hD
    repeat (first | refine n1 ?_ | refine n2 (fun b _ => ?_) | refine n3 (fun _ _ => ?_) | refine n4 ?_ | refine n5 ?_ | refine WL_nil ?_ | refine W_seq ?_ | refine W_region ?_ | refine n7 ?_ | refine n8 ?_ | refine W_block ?_ | refine W_skip ?_ | refine W_ret ?_ | refine W_exit ?_ | refine WQ_then ?_ | refine WQ_then_ret ?_ | refine WQ_then_exit ?_ | refine WQ_block_normal ?_ | refine WQ_block_ret ?_ | refine WQ_block_exit ?_ | refine n9 ?_)
    ((apply ret1 Try.results5 ( ())); (focus (first | trivial | assumption | omega)); (focus (first | exact RV_tmp rfl | (apply RV_cellN; exact rfl; (repeat' (first | exact Pick.head _ _ | apply Pick.tail)); (intro _; exact rfl); (intro _; exact rfl); exact rfl) | (apply RV_cell1; exact rfl; (repeat' (first | exact Pick.head _ _ | apply Pick.tail)); (intro _; exact rfl); exact rfl)));  (focus (first | exact rfl | (simp; done))); (focus (repeat (first | exact SubO.nil _ | (apply SubO.cons; (focus (repeat' (first | exact Pick.head _ _ | apply Pick.tail))))))); (focus (repeat (first | exact AllE.nil _ | (apply AllE.cons; (focus (first | exact ent_nilBy | exact ent_nilSl | (apply Ent.mem; repeat' (first | exact mcs | apply mct)))))))))
  obtain ⟨⟨_, _, _, k4, _, k6⟩, k7, k8, k9⟩ := cut_ok c2
  obtain ⟨hl, hat⟩ := cut_l hD c2
  obtain ⟨s, rfl⟩ : ∃ s : Nat, size = (s : Int) := ⟨size.toNat, by omega⟩
  have hs : 1 ≤ s := by omega
  rw [show (s : Int).toNat = s from rfl] at hl hat k9
  have hall := pc_all (b := f.body) hs
  have hlen := fun i h => pc_len (b := f.body) (i := i) hs h
  have hnx := pc_next f.body s
  have hle := pc_le f.body s
  have hM1 : 1 ≤ manyN f.body.length s := many_pos _ _
  have hhd : hdC f.head 0 false = f.head := by rw [← k6, ← k4]
  generalize manyN f.body.length s = M at *
  subst hl
  obtain ⟨bv, hbv⟩ : ∃ bv : Nat → Value, ∀ i, (D.getD i f0_).bv = bv i := ⟨_, fun _ => rfl⟩
  simp only [hbv] at hat
  refine WL_ent (ψ := Rw 41 o D.length (fun i => (⟨pcH f.head D.length i, bv i, pcB f.body s i⟩ : Fm).cells)) (ent_rwExt (by (focus (repeat' (first | exact mcs | apply mct)))) fun i hi => by rw [hat i hi]) ?_
  repeat (first | refine n1 ?_ | refine n2 (fun b _ => ?_) | refine n3 (fun _ _ => ?_) | refine n4 ?_ | refine n5 ?_ | refine WL_nil ?_ | refine W_seq ?_ | refine W_region ?_ | refine n7 ?_ | refine n8 ?_ | refine W_block ?_ | refine W_skip ?_ | refine W_ret ?_ | refine W_exit ?_ | refine WQ_then ?_ | refine WQ_then_ret ?_ | refine WQ_then_exit ?_ | refine WQ_block_normal ?_ | refine WQ_block_ret ?_ | refine WQ_block_exit ?_ | refine n9 ?_)
  ((apply W_loopK (X := Nat × List UInt8) [8, 9, 10, 11] [] (fun x => x.1 ≤ D.length ∧ x.2 = f.body.take (x.1 * s)) (fun x => [(8, strV x.2), (9, .int .i64 (x.1 : Int))]) (fun _ => []) (fun _ => []) (fun x => D.length - x.1) ((0, []))); (focus exact ⟨Nat.zero_le _, by simp⟩); exact rfl; exact rfl; (intro _; exact rfl); (intro _; exact rfl); (intro _; exact rfl); (focus (repeat (first | exact FrIn.nil _ | (apply FrIn.cons; exact rfl; (first | exact rfl | (congr 1; first | omega | (dsimp only; omega)) | (simp; done)))))); (focus (repeat (first | exact SubO.nil _ | (apply SubO.cons; (focus (repeat' (first | exact Pick.head _ _ | apply Pick.tail))))))); (focus (repeat (first | exact AllE.nil _ | (apply AllE.cons; (focus (first | exact ent_nilBy | exact ent_nilSl | (apply Ent.mem; repeat' (first | exact mcs | apply mct)))))))); intro x hx)
  obtain ⟨x, ys⟩ := x
  obtain ⟨hx, hys⟩ := hx
  replace hx : x ≤ D.length := hx
  replace hys : ys = f.body.take (x * s) := hys
  dsimp only
  by_cases d1 : x < D.length
  · have hcl : ys ++ pcB f.body s x = f.body.take ((x + 1) * s) := by rw [hys]; exact hnx x
    have hpl : (pcB f.body s x).length ≤ s := hle x
    have hpm : (pcB f.body s x).length ≤ 2304 := by
      unfold pcB
      rw [List.length_take, List.length_drop]
      omega
    have htl : ys.length ≤ 2304 := by rw [hys, List.length_take]; omega
    refine W_ent (ent_bfAt (D := D) (by (focus (repeat' (first | exact mcs | apply mct)))) d1 (hat x d1)) ?_
    by_cases d2 : x + 1 < D.length
    · have hpf : (pcB f.body s x).length = s := hlen x d2
      have hdm : decide (x + 1 < D.length) = true := by simpa using d2
      have hfr : (⟨pcH f.head D.length x, bv x, pcB f.body s x⟩ : Fm).head.frag = (x : Int) := rfl
      have hmo : (⟨pcH f.head D.length x, bv x, pcB f.body s x⟩ : Fm).head.more = true := hdm
      repeat (first | refine n1 ?_ | refine n2 (fun b _ => ?_) | refine n3 (fun _ _ => ?_) | refine n4 ?_ | refine n5 ?_ | refine WL_nil ?_ | refine W_seq ?_ | refine W_region ?_ | refine n7 ?_ | refine n8 ?_ | refine W_block ?_ | refine W_skip ?_ | refine W_ret ?_ | refine W_exit ?_ | refine WQ_then ?_ | refine WQ_then_ret ?_ | refine WQ_then_exit ?_ | refine WQ_block_normal ?_ | refine WQ_block_ret ?_ | refine WQ_block_exit ?_ | refine n9 ?_)
      conv => arg 4; rw [show ((⟨pcH f.head D.length x, bv x, pcB f.body s x⟩ : Fm).head.more == false) = false by rw [hmo]; rfl]
      change WL _ _ _ _ (OA.blk _ _ (Hd.cells (hdC f.head 0 false)) :: _) _ _
      rw [hhd]
      repeat (first | refine n1 ?_ | refine n2 (fun b _ => ?_) | refine n3 (fun _ _ => ?_) | refine n4 ?_ | refine n5 ?_ | refine WL_nil ?_ | refine W_seq ?_ | refine W_region ?_ | refine n7 ?_ | refine n8 ?_ | refine W_block ?_ | refine W_skip ?_ | refine W_ret ?_ | refine W_exit ?_ | refine WQ_then ?_ | refine WQ_then_ret ?_ | refine WQ_then_exit ?_ | refine WQ_block_normal ?_ | refine WQ_block_ret ?_ | refine WQ_block_exit ?_ | refine n9 ?_)
      refine WL_runs rfl rfl rfl (R_neG (cs := f.head.cells) (ds := f.head.cells) (m := 3) (p := f.head = f.head) rfl rfl (by kernel_rfl) rfl (by kernel_rfl) (by kernel_rfl) (by kernel_rfl) (hd_lits _ hw) (hd_lits _ hw) hdL_inj rfl) ?_
      rw [decide_eq_true rfl]
      repeat (first | refine n1 ?_ | refine n2 (fun b _ => ?_) | refine n3 (fun _ _ => ?_) | refine n4 ?_ | refine n5 ?_ | refine WL_nil ?_ | refine W_seq ?_ | refine W_region ?_ | refine n7 ?_ | refine n8 ?_ | refine W_block ?_ | refine W_skip ?_ | refine W_ret ?_ | refine W_exit ?_ | refine WQ_then ?_ | refine WQ_then_ret ?_ | refine WQ_then_exit ?_ | refine WQ_block_normal ?_ | refine WQ_block_ret ?_ | refine WQ_block_exit ?_ | refine n9 ?_)
      have hn : x + 1 ≤ D.length ∧ ys ++ pcB f.body s x = f.body.take ((x + 1) * s) := ⟨d1, hcl⟩
      ((apply WQ_again ((x + 1, ys ++ pcB f.body s x))); (focus exact hn); (focus (exact (show D.length - (x + 1) < D.length - x by omega))); (focus (repeat (first | exact FrIn.nil _ | (apply FrIn.cons; exact rfl; (first | exact rfl | (congr 1; first | omega | (dsimp only; omega)) | (simp; done)))))); (focus (repeat (first | exact SubO.nil _ | (apply SubO.cons; (focus (repeat' (first | exact Pick.head _ _ | apply Pick.tail))))))); (focus (repeat (first | exact AllE.nil _ | (apply AllE.cons; (focus (first | exact ent_nilBy | exact ent_nilSl | (apply Ent.mem; repeat' (first | exact mcs | apply mct)))))))))
    · have hdm : decide (x + 1 < D.length) = false := by simpa using d2
      have hfr : (⟨pcH f.head D.length x, bv x, pcB f.body s x⟩ : Fm).head.frag = (x : Int) := rfl
      have hmo : (⟨pcH f.head D.length x, bv x, pcB f.body s x⟩ : Fm).head.more = false := hdm
      repeat (first | refine n1 ?_ | refine n2 (fun b _ => ?_) | refine n3 (fun _ _ => ?_) | refine n4 ?_ | refine n5 ?_ | refine WL_nil ?_ | refine W_seq ?_ | refine W_region ?_ | refine n7 ?_ | refine n8 ?_ | refine W_block ?_ | refine W_skip ?_ | refine W_ret ?_ | refine W_exit ?_ | refine WQ_then ?_ | refine WQ_then_ret ?_ | refine WQ_then_exit ?_ | refine WQ_block_normal ?_ | refine WQ_block_ret ?_ | refine WQ_block_exit ?_ | refine n9 ?_)
      conv => arg 4; rw [show ((⟨pcH f.head D.length x, bv x, pcB f.body s x⟩ : Fm).head.more == true) = false by rw [hmo]; rfl]
      change WL _ _ _ _ (OA.blk _ _ (Hd.cells (hdC f.head 0 false)) :: _) _ _
      rw [hhd]
      repeat (first | refine n1 ?_ | refine n2 (fun b _ => ?_) | refine n3 (fun _ _ => ?_) | refine n4 ?_ | refine n5 ?_ | refine WL_nil ?_ | refine W_seq ?_ | refine W_region ?_ | refine n7 ?_ | refine n8 ?_ | refine W_block ?_ | refine W_skip ?_ | refine W_ret ?_ | refine W_exit ?_ | refine WQ_then ?_ | refine WQ_then_ret ?_ | refine WQ_then_exit ?_ | refine WQ_block_normal ?_ | refine WQ_block_ret ?_ | refine WQ_block_exit ?_ | refine n9 ?_)
      refine WL_runs rfl rfl rfl (R_neG (cs := f.head.cells) (ds := f.head.cells) (m := 3) (p := f.head = f.head) rfl rfl (by kernel_rfl) rfl (by kernel_rfl) (by kernel_rfl) (by kernel_rfl) (hd_lits _ hw) (hd_lits _ hw) hdL_inj rfl) ?_
      rw [decide_eq_true rfl]
      repeat (first | refine n1 ?_ | refine n2 (fun b _ => ?_) | refine n3 (fun _ _ => ?_) | refine n4 ?_ | refine n5 ?_ | refine WL_nil ?_ | refine W_seq ?_ | refine W_region ?_ | refine n7 ?_ | refine n8 ?_ | refine W_block ?_ | refine W_skip ?_ | refine W_ret ?_ | refine W_exit ?_ | refine WQ_then ?_ | refine WQ_then_ret ?_ | refine WQ_then_exit ?_ | refine WQ_block_normal ?_ | refine WQ_block_ret ?_ | refine WQ_block_exit ?_ | refine n9 ?_)
      have hn : x + 1 ≤ D.length ∧ ys ++ pcB f.body s x = f.body.take ((x + 1) * s) := ⟨d1, hcl⟩
      ((apply WQ_again ((x + 1, ys ++ pcB f.body s x))); (focus exact hn); (focus (exact (show D.length - (x + 1) < D.length - x by omega))); (focus (repeat (first | exact FrIn.nil _ | (apply FrIn.cons; exact rfl; (first | exact rfl | (congr 1; first | omega | (dsimp only; omega)) | (simp; done)))))); (focus (repeat (first | exact SubO.nil _ | (apply SubO.cons; (focus (repeat' (first | exact Pick.head _ _ | apply Pick.tail))))))); (focus (repeat (first | exact AllE.nil _ | (apply AllE.cons; (focus (first | exact ent_nilBy | exact ent_nilSl | (apply Ent.mem; repeat' (first | exact mcs | apply mct)))))))))
  · obtain rfl : x = D.length := by omega
    obtain rfl : ys = f.body := hys.trans hall
    repeat (first | refine n1 ?_ | refine n2 (fun b _ => ?_) | refine n3 (fun _ _ => ?_) | refine n4 ?_ | refine n5 ?_ | refine WL_nil ?_ | refine W_seq ?_ | refine W_region ?_ | refine n7 ?_ | refine n8 ?_ | refine W_block ?_ | refine W_skip ?_ | refine W_ret ?_ | refine W_exit ?_ | refine WQ_then ?_ | refine WQ_then_ret ?_ | refine WQ_then_exit ?_ | refine WQ_block_normal ?_ | refine WQ_block_ret ?_ | refine WQ_block_exit ?_ | refine n9 ?_)
    ((apply ret1 Try.results5 ( ())); (focus (first | trivial | assumption | omega)); (focus (first | exact RV_tmp rfl | (apply RV_cellN; exact rfl; (repeat' (first | exact Pick.head _ _ | apply Pick.tail)); (intro _; exact rfl); (intro _; exact rfl); exact rfl) | (apply RV_cell1; exact rfl; (repeat' (first | exact Pick.head _ _ | apply Pick.tail)); (intro _; exact rfl); exact rfl)));  (focus (first | exact rfl | (simp; done))); (focus (repeat (first | exact SubO.nil _ | (apply SubO.cons; (focus (repeat' (first | exact Pick.head _ _ | apply Pick.tail))))))); (focus (repeat (first | exact AllE.nil _ | (apply AllE.cons; (focus (first | exact ent_nilBy | exact ent_nilSl | (apply Ent.mem; repeat' (first | exact mcs | apply mct)))))))))
end Go.Proofs.Ytglmcnjkcmbefaa
