/-
  The reference's Cut, whole.
-/
import Derived.Test.YtglmcnjkcmbefaaVIl
import Derived.Test.YtglmcnjkcmbefaaVIm
namespace Go.Proofs.Ytglmcnjkcmbefaa
open Go Go.RowKit Go.Hs C05
theorem ent_bf0 {Φ : List SP} : Ent Φ (Bf []) := fun _ _ _ _ h => by cases h
theorem ent_bfS {Φ : List SP} {l : List Fm} {p : Fm} (h : Bf l ∈ Φ) (k : By p.bv p.body ∈ Φ) : Ent Φ (Bf (l ++ [p])) := fun w O hw q hq => by
  rcases List.mem_append.1 hq with hq | hq
  · exact hw _ h q hq
  · rcases List.mem_singleton.1 hq with rfl
    exact hw _ k
theorem ent_slF {Φ : List SP} {v : Value} {l : List Fm} (h : Sl 41 v l.length (fcF l) ∈ Φ) : Ent Φ (Rw 41 v l.length (fun i => (l.getD i f0_).cells)) := ent_slG fm_len f0_ h rfl rfl
theorem take_min (l : List UInt8) (s : Nat) : l.take (min s l.length) = l.take s := by
  rcases Nat.le_total s l.length with h | h
  · rw [Nat.min_eq_left h]
  · rw [Nat.min_eq_right h, List.take_of_length_le (Nat.le_refl _), List.take_of_length_le h]
theorem drop_min (l : List UInt8) (s : Nat) : l.drop (min s l.length) = l.drop s := by
  rcases Nat.le_total s l.length with h | h
  · rw [Nat.min_eq_left h]
  · rw [Nat.min_eq_right h, List.drop_eq_nil_of_le (Nat.le_refl _), List.drop_eq_nil_of_le h]
theorem many_pos (n s : Nat) : 1 ≤ manyN n s := by
  unfold manyN
  split
  · exact Nat.le_refl _
  · exact Nat.succ_le_succ (Nat.zero_le _)
attribute [local irreducible] WL W WQ PL Runs Effs AllE Ent SubO FrIn Pick OneC Ones CellsE PartsE SeqE UZ By Sl Pt Ct

set_option maxRecDepth 100000 in
set_option maxHeartbeats 32000000 in
theorem rcut_fn (f : Fm) (size : Int) (hw : f.head.w) (hb : f.body.length ≤ 100000) : Ct Try.prog 12 [f.val, .int .i64 size] [] [f.fact]
    (X := Value × List Fm) (fun x => x.2.map Fmz = cutL f.head f.body size) (fun x => .tuple #[x.1, .int .i64 (cutE f.head f.body size)]) (fun _ => []) (fun x => [Rw 41 x.1 x.2.length (fun i => (x.2.getD i f0_).cells), Bf x.2]) := by
  have hso := rsound_fn f hw
  have hgr := rgroup_fn f.head.a1
  have hlt : f.head.kind.toNat < 256 := f.head.kind.toNat_lt
  refine Ct_intro Try.func12 rfl Try.ntmps12 (by simp) _ rfl (fun w0 O0 => ?_)
  by_cases c1 : sndB f.head f.body = false
  · rw [c1] at hso
    repeat (first | refine n1 ?_ | refine n2 (fun b _ => ?_) | refine n3 (fun _ _ => ?_) | refine n4 ?_ | refine n5 ?_ | refine n6 (hso) ?_ | refine n6 (hgr) ?_ | refine n6v (hso) ?_ | refine n6v (hgr) ?_ | refine WL_nil ?_ | refine W_seq ?_ | refine W_region ?_ | refine n7 ?_ | refine n8 ?_ | refine W_block ?_ | refine W_skip ?_ | refine W_ret ?_ | refine W_exit ?_ | refine WQ_then ?_ | refine WQ_then_ret ?_ | refine WQ_then_exit ?_ | refine WQ_block_normal ?_ | refine WQ_block_ret ?_ | refine WQ_block_exit ?_ | refine n9 ?_)
    have hE : cutE f.head f.body size = 8 := if_pos (.inl c1)
    have hL : cutL f.head f.body size = [] := by unfold cutL; rw [if_neg (by rw [hE]; decide)]
    rw [hE, hL]
    refine WQ_ent (ψ := Rw 41 (.slice none 0 0) ([] : List Fm).length (fun i => (([] : List Fm).getD i f0_).cells)) ent_nilRw ?_
    refine WQ_ent ent_bf0 ?_
    ((apply ret2 Try.results12 ( (Value.slice none 0 0, []))); (focus (first | trivial | assumption | omega)); (focus (first | exact RV_tmp rfl | (apply RV_cellN; exact rfl; (repeat' (first | exact Pick.head _ _ | apply Pick.tail)); (intro _; exact rfl); (intro _; exact rfl); exact rfl) | (apply RV_cell1; exact rfl; (repeat' (first | exact Pick.head _ _ | apply Pick.tail)); (intro _; exact rfl); exact rfl))); (focus (first | exact RV_tmp rfl | (apply RV_cellN; exact rfl; (repeat' (first | exact Pick.head _ _ | apply Pick.tail)); (intro _; exact rfl); (intro _; exact rfl); exact rfl) | (apply RV_cell1; exact rfl; (repeat' (first | exact Pick.head _ _ | apply Pick.tail)); (intro _; exact rfl); exact rfl)));  (focus (first | exact rfl | (simp; done))); (focus (repeat (first | exact SubO.nil _ | (apply SubO.cons; (focus (repeat' (first | exact Pick.head _ _ | apply Pick.tail))))))); (focus (repeat (first | exact AllE.nil _ | (apply AllE.cons; (focus (first | exact ent_nilBy | exact ent_nilSl | (apply Ent.mem; repeat' (first | exact mcs | apply mct)))))))))
  rw [show sndB f.head f.body = true by simpa using c1] at hso
  by_cases c2 : f.head.kind.toNat = 1
  · repeat (first | refine n1 ?_ | refine n2 (fun b _ => ?_) | refine n3 (fun _ _ => ?_) | refine n4 ?_ | refine n5 ?_ | refine n6 (hso) ?_ | refine n6 (hgr) ?_ | refine n6v (hso) ?_ | refine n6v (hgr) ?_ | refine WL_nil ?_ | refine W_seq ?_ | refine W_region ?_ | refine n7 ?_ | refine n8 ?_ | refine W_block ?_ | refine W_skip ?_ | refine W_ret ?_ | refine W_exit ?_ | refine WQ_then ?_ | refine WQ_then_ret ?_ | refine WQ_then_exit ?_ | refine WQ_block_normal ?_ | refine WQ_block_ret ?_ | refine WQ_block_exit ?_ | refine n9 ?_)
    have hE : cutE f.head f.body size = 8 := if_pos (.inr (.inl c2))
    have hL : cutL f.head f.body size = [] := by unfold cutL; rw [if_neg (by rw [hE]; decide)]
    rw [hE, hL]
    refine WQ_ent (ψ := Rw 41 (.slice none 0 0) ([] : List Fm).length (fun i => (([] : List Fm).getD i f0_).cells)) ent_nilRw ?_
    refine WQ_ent ent_bf0 ?_
    ((apply ret2 Try.results12 ( (Value.slice none 0 0, []))); (focus (first | trivial | assumption | omega)); (focus (first | exact RV_tmp rfl | (apply RV_cellN; exact rfl; (repeat' (first | exact Pick.head _ _ | apply Pick.tail)); (intro _; exact rfl); (intro _; exact rfl); exact rfl) | (apply RV_cell1; exact rfl; (repeat' (first | exact Pick.head _ _ | apply Pick.tail)); (intro _; exact rfl); exact rfl))); (focus (first | exact RV_tmp rfl | (apply RV_cellN; exact rfl; (repeat' (first | exact Pick.head _ _ | apply Pick.tail)); (intro _; exact rfl); (intro _; exact rfl); exact rfl) | (apply RV_cell1; exact rfl; (repeat' (first | exact Pick.head _ _ | apply Pick.tail)); (intro _; exact rfl); exact rfl)));  (focus (first | exact rfl | (simp; done))); (focus (repeat (first | exact SubO.nil _ | (apply SubO.cons; (focus (repeat' (first | exact Pick.head _ _ | apply Pick.tail))))))); (focus (repeat (first | exact AllE.nil _ | (apply AllE.cons; (focus (first | exact ent_nilBy | exact ent_nilSl | (apply Ent.mem; repeat' (first | exact mcs | apply mct)))))))))
  by_cases c3 : grpB f.head.a1 = true
  · rw [c3] at hgr
    repeat (first | refine n1 ?_ | refine n2 (fun b _ => ?_) | refine n3 (fun _ _ => ?_) | refine n4 ?_ | refine n5 ?_ | refine n6 (hso) ?_ | refine n6 (hgr) ?_ | refine n6v (hso) ?_ | refine n6v (hgr) ?_ | refine WL_nil ?_ | refine W_seq ?_ | refine W_region ?_ | refine n7 ?_ | refine n8 ?_ | refine W_block ?_ | refine W_skip ?_ | refine W_ret ?_ | refine W_exit ?_ | refine WQ_then ?_ | refine WQ_then_ret ?_ | refine WQ_then_exit ?_ | refine WQ_block_normal ?_ | refine WQ_block_ret ?_ | refine WQ_block_exit ?_ | refine n9 ?_)
    have hE : cutE f.head f.body size = 8 := if_pos (.inr (.inr (.inl c3)))
    have hL : cutL f.head f.body size = [] := by unfold cutL; rw [if_neg (by rw [hE]; decide)]
    rw [hE, hL]
    refine WQ_ent (ψ := Rw 41 (.slice none 0 0) ([] : List Fm).length (fun i => (([] : List Fm).getD i f0_).cells)) ent_nilRw ?_
    refine WQ_ent ent_bf0 ?_
    ((apply ret2 Try.results12 ( (Value.slice none 0 0, []))); (focus (first | trivial | assumption | omega)); (focus (first | exact RV_tmp rfl | (apply RV_cellN; exact rfl; (repeat' (first | exact Pick.head _ _ | apply Pick.tail)); (intro _; exact rfl); (intro _; exact rfl); exact rfl) | (apply RV_cell1; exact rfl; (repeat' (first | exact Pick.head _ _ | apply Pick.tail)); (intro _; exact rfl); exact rfl))); (focus (first | exact RV_tmp rfl | (apply RV_cellN; exact rfl; (repeat' (first | exact Pick.head _ _ | apply Pick.tail)); (intro _; exact rfl); (intro _; exact rfl); exact rfl) | (apply RV_cell1; exact rfl; (repeat' (first | exact Pick.head _ _ | apply Pick.tail)); (intro _; exact rfl); exact rfl)));  (focus (first | exact rfl | (simp; done))); (focus (repeat (first | exact SubO.nil _ | (apply SubO.cons; (focus (repeat' (first | exact Pick.head _ _ | apply Pick.tail))))))); (focus (repeat (first | exact AllE.nil _ | (apply AllE.cons; (focus (first | exact ent_nilBy | exact ent_nilSl | (apply Ent.mem; repeat' (first | exact mcs | apply mct)))))))))
  rw [(by simpa using c3 : grpB f.head.a1 = false)] at hgr
  repeat (first | refine n1 ?_ | refine n2 (fun b _ => ?_) | refine n3 (fun _ _ => ?_) | refine n4 ?_ | refine n5 ?_ | refine n6 (hso) ?_ | refine n6 (hgr) ?_ | refine n6v (hso) ?_ | refine n6v (hgr) ?_ | refine WL_nil ?_ | refine W_seq ?_ | refine W_region ?_ | refine n7 ?_ | refine n8 ?_ | refine W_block ?_ | refine W_skip ?_ | refine W_ret ?_ | refine W_exit ?_ | refine WQ_then ?_ | refine WQ_then_ret ?_ | refine WQ_then_exit ?_ | refine WQ_block_normal ?_ | refine WQ_block_ret ?_ | refine WQ_block_exit ?_ | refine n9 ?_)
  by_cases c4 : f.head.more = true
  · conv => arg 4; rw [c4]
    repeat (first | refine n1 ?_ | refine n2 (fun b _ => ?_) | refine n3 (fun _ _ => ?_) | refine n4 ?_ | refine n5 ?_ | refine WL_nil ?_ | refine W_seq ?_ | refine W_region ?_ | refine n7 ?_ | refine n8 ?_ | refine W_block ?_ | refine W_skip ?_ | refine W_ret ?_ | refine W_exit ?_ | refine WQ_then ?_ | refine WQ_then_ret ?_ | refine WQ_then_exit ?_ | refine WQ_block_normal ?_ | refine WQ_block_ret ?_ | refine WQ_block_exit ?_ | refine n9 ?_)
    have hE : cutE f.head f.body size = 8 := if_pos (.inr (.inr (.inr (.inl c4))))
    have hL : cutL f.head f.body size = [] := by unfold cutL; rw [if_neg (by rw [hE]; decide)]
    rw [hE, hL]
    refine WQ_ent (ψ := Rw 41 (.slice none 0 0) ([] : List Fm).length (fun i => (([] : List Fm).getD i f0_).cells)) ent_nilRw ?_
    refine WQ_ent ent_bf0 ?_
    ((apply ret2 Try.results12 ( (Value.slice none 0 0, []))); (focus (first | trivial | assumption | omega)); (focus (first | exact RV_tmp rfl | (apply RV_cellN; exact rfl; (repeat' (first | exact Pick.head _ _ | apply Pick.tail)); (intro _; exact rfl); (intro _; exact rfl); exact rfl) | (apply RV_cell1; exact rfl; (repeat' (first | exact Pick.head _ _ | apply Pick.tail)); (intro _; exact rfl); exact rfl))); (focus (first | exact RV_tmp rfl | (apply RV_cellN; exact rfl; (repeat' (first | exact Pick.head _ _ | apply Pick.tail)); (intro _; exact rfl); (intro _; exact rfl); exact rfl) | (apply RV_cell1; exact rfl; (repeat' (first | exact Pick.head _ _ | apply Pick.tail)); (intro _; exact rfl); exact rfl)));  (focus (first | exact rfl | (simp; done))); (focus (repeat (first | exact SubO.nil _ | (apply SubO.cons; (focus (repeat' (first | exact Pick.head _ _ | apply Pick.tail))))))); (focus (repeat (first | exact AllE.nil _ | (apply AllE.cons; (focus (first | exact ent_nilBy | exact ent_nilSl | (apply Ent.mem; repeat' (first | exact mcs | apply mct)))))))))
  conv => arg 4; rw [(by simpa using c4 : f.head.more = false)]
  repeat (first | refine n1 ?_ | refine n2 (fun b _ => ?_) | refine n3 (fun _ _ => ?_) | refine n4 ?_ | refine n5 ?_ | refine WL_nil ?_ | refine W_seq ?_ | refine W_region ?_ | refine n7 ?_ | refine n8 ?_ | refine W_block ?_ | refine W_skip ?_ | refine W_ret ?_ | refine W_exit ?_ | refine WQ_then ?_ | refine WQ_then_ret ?_ | refine WQ_then_exit ?_ | refine WQ_block_normal ?_ | refine WQ_block_ret ?_ | refine WQ_block_exit ?_ | refine n9 ?_)
  by_cases c5 : f.head.amsdu = true
  · conv => arg 4; rw [c5]
    repeat (first | refine n1 ?_ | refine n2 (fun b _ => ?_) | refine n3 (fun _ _ => ?_) | refine n4 ?_ | refine n5 ?_ | refine WL_nil ?_ | refine W_seq ?_ | refine W_region ?_ | refine n7 ?_ | refine n8 ?_ | refine W_block ?_ | refine W_skip ?_ | refine W_ret ?_ | refine W_exit ?_ | refine WQ_then ?_ | refine WQ_then_ret ?_ | refine WQ_then_exit ?_ | refine WQ_block_normal ?_ | refine WQ_block_ret ?_ | refine WQ_block_exit ?_ | refine n9 ?_)
    have hE : cutE f.head f.body size = 8 := if_pos (.inr (.inr (.inr (.inr (.inl c5)))))
    have hL : cutL f.head f.body size = [] := by unfold cutL; rw [if_neg (by rw [hE]; decide)]
    rw [hE, hL]
    refine WQ_ent (ψ := Rw 41 (.slice none 0 0) ([] : List Fm).length (fun i => (([] : List Fm).getD i f0_).cells)) ent_nilRw ?_
    refine WQ_ent ent_bf0 ?_
    ((apply ret2 Try.results12 ( (Value.slice none 0 0, []))); (focus (first | trivial | assumption | omega)); (focus (first | exact RV_tmp rfl | (apply RV_cellN; exact rfl; (repeat' (first | exact Pick.head _ _ | apply Pick.tail)); (intro _; exact rfl); (intro _; exact rfl); exact rfl) | (apply RV_cell1; exact rfl; (repeat' (first | exact Pick.head _ _ | apply Pick.tail)); (intro _; exact rfl); exact rfl))); (focus (first | exact RV_tmp rfl | (apply RV_cellN; exact rfl; (repeat' (first | exact Pick.head _ _ | apply Pick.tail)); (intro _; exact rfl); (intro _; exact rfl); exact rfl) | (apply RV_cell1; exact rfl; (repeat' (first | exact Pick.head _ _ | apply Pick.tail)); (intro _; exact rfl); exact rfl)));  (focus (first | exact rfl | (simp; done))); (focus (repeat (first | exact SubO.nil _ | (apply SubO.cons; (focus (repeat' (first | exact Pick.head _ _ | apply Pick.tail))))))); (focus (repeat (first | exact AllE.nil _ | (apply AllE.cons; (focus (first | exact ent_nilBy | exact ent_nilSl | (apply Ent.mem; repeat' (first | exact mcs | apply mct)))))))))
  conv => arg 4; rw [(by simpa using c5 : f.head.amsdu = false)]
  by_cases c6 : f.head.frag = 0
  case neg =>
    repeat (first | refine n1 ?_ | refine n2 (fun b _ => ?_) | refine n3 (fun _ _ => ?_) | refine n4 ?_ | refine n5 ?_ | refine WL_nil ?_ | refine W_seq ?_ | refine W_region ?_ | refine n7 ?_ | refine n8 ?_ | refine W_block ?_ | refine W_skip ?_ | refine W_ret ?_ | refine W_exit ?_ | refine WQ_then ?_ | refine WQ_then_ret ?_ | refine WQ_then_exit ?_ | refine WQ_block_normal ?_ | refine WQ_block_ret ?_ | refine WQ_block_exit ?_ | refine n9 ?_)
    have hE : cutE f.head f.body size = 8 := if_pos (.inr (.inr (.inr (.inr (.inr c6)))))
    have hL : cutL f.head f.body size = [] := by unfold cutL; rw [if_neg (by rw [hE]; decide)]
    rw [hE, hL]
    refine WQ_ent (ψ := Rw 41 (.slice none 0 0) ([] : List Fm).length (fun i => (([] : List Fm).getD i f0_).cells)) ent_nilRw ?_
    refine WQ_ent ent_bf0 ?_
    ((apply ret2 Try.results12 ( (Value.slice none 0 0, []))); (focus (first | trivial | assumption | omega)); (focus (first | exact RV_tmp rfl | (apply RV_cellN; exact rfl; (repeat' (first | exact Pick.head _ _ | apply Pick.tail)); (intro _; exact rfl); (intro _; exact rfl); exact rfl) | (apply RV_cell1; exact rfl; (repeat' (first | exact Pick.head _ _ | apply Pick.tail)); (intro _; exact rfl); exact rfl))); (focus (first | exact RV_tmp rfl | (apply RV_cellN; exact rfl; (repeat' (first | exact Pick.head _ _ | apply Pick.tail)); (intro _; exact rfl); (intro _; exact rfl); exact rfl) | (apply RV_cell1; exact rfl; (repeat' (first | exact Pick.head _ _ | apply Pick.tail)); (intro _; exact rfl); exact rfl)));  (focus (first | exact rfl | (simp; done))); (focus (repeat (first | exact SubO.nil _ | (apply SubO.cons; (focus (repeat' (first | exact Pick.head _ _ | apply Pick.tail))))))); (focus (repeat (first | exact AllE.nil _ | (apply AllE.cons; (focus (first | exact ent_nilBy | exact ent_nilSl | (apply Ent.mem; repeat' (first | exact mcs | apply mct)))))))))
  have hP : ¬ cutP f.head f.body := by
    unfold cutP
    rintro (h | h | h | h | h | h)
    · exact c1 h
    · exact c2 h
    · exact c3 h
    · exact c4 h
    · exact c5 h
    · exact h c6
  by_cases c7 : 2304 < f.body.length
  · repeat (first | refine n1 ?_ | refine n2 (fun b _ => ?_) | refine n3 (fun _ _ => ?_) | refine n4 ?_ | refine n5 ?_ | refine WL_nil ?_ | refine W_seq ?_ | refine W_region ?_ | refine n7 ?_ | refine n8 ?_ | refine W_block ?_ | refine W_skip ?_ | refine W_ret ?_ | refine W_exit ?_ | refine WQ_then ?_ | refine WQ_then_ret ?_ | refine WQ_then_exit ?_ | refine WQ_block_normal ?_ | refine WQ_block_ret ?_ | refine WQ_block_exit ?_ | refine n9 ?_)
    have hE : cutE f.head f.body size = 11 := by unfold cutE; rw [if_neg hP, if_pos c7]
    have hL : cutL f.head f.body size = [] := by unfold cutL; rw [if_neg (by rw [hE]; decide)]
    rw [hE, hL]
    refine WQ_ent (ψ := Rw 41 (.slice none 0 0) ([] : List Fm).length (fun i => (([] : List Fm).getD i f0_).cells)) ent_nilRw ?_
    refine WQ_ent ent_bf0 ?_
    ((apply ret2 Try.results12 ( (Value.slice none 0 0, []))); (focus (first | trivial | assumption | omega)); (focus (first | exact RV_tmp rfl | (apply RV_cellN; exact rfl; (repeat' (first | exact Pick.head _ _ | apply Pick.tail)); (intro _; exact rfl); (intro _; exact rfl); exact rfl) | (apply RV_cell1; exact rfl; (repeat' (first | exact Pick.head _ _ | apply Pick.tail)); (intro _; exact rfl); exact rfl))); (focus (first | exact RV_tmp rfl | (apply RV_cellN; exact rfl; (repeat' (first | exact Pick.head _ _ | apply Pick.tail)); (intro _; exact rfl); (intro _; exact rfl); exact rfl) | (apply RV_cell1; exact rfl; (repeat' (first | exact Pick.head _ _ | apply Pick.tail)); (intro _; exact rfl); exact rfl)));  (focus (first | exact rfl | (simp; done))); (focus (repeat (first | exact SubO.nil _ | (apply SubO.cons; (focus (repeat' (first | exact Pick.head _ _ | apply Pick.tail))))))); (focus (repeat (first | exact AllE.nil _ | (apply AllE.cons; (focus (first | exact ent_nilBy | exact ent_nilSl | (apply Ent.mem; repeat' (first | exact mcs | apply mct)))))))))
  by_cases c8 : size < 1
  · repeat (first | refine n1 ?_ | refine n2 (fun b _ => ?_) | refine n3 (fun _ _ => ?_) | refine n4 ?_ | refine n5 ?_ | refine WL_nil ?_ | refine W_seq ?_ | refine W_region ?_ | refine n7 ?_ | refine n8 ?_ | refine W_block ?_ | refine W_skip ?_ | refine W_ret ?_ | refine W_exit ?_ | refine WQ_then ?_ | refine WQ_then_ret ?_ | refine WQ_then_exit ?_ | refine WQ_block_normal ?_ | refine WQ_block_ret ?_ | refine WQ_block_exit ?_ | refine n9 ?_)
    have hE : cutE f.head f.body size = 2 := by unfold cutE; rw [if_neg hP, if_neg c7, if_pos c8]
    have hL : cutL f.head f.body size = [] := by unfold cutL; rw [if_neg (by rw [hE]; decide)]
    rw [hE, hL]
    refine WQ_ent (ψ := Rw 41 (.slice none 0 0) ([] : List Fm).length (fun i => (([] : List Fm).getD i f0_).cells)) ent_nilRw ?_
    refine WQ_ent ent_bf0 ?_
    ((apply ret2 Try.results12 ( (Value.slice none 0 0, []))); (focus (first | trivial | assumption | omega)); (focus (first | exact RV_tmp rfl | (apply RV_cellN; exact rfl; (repeat' (first | exact Pick.head _ _ | apply Pick.tail)); (intro _; exact rfl); (intro _; exact rfl); exact rfl) | (apply RV_cell1; exact rfl; (repeat' (first | exact Pick.head _ _ | apply Pick.tail)); (intro _; exact rfl); exact rfl))); (focus (first | exact RV_tmp rfl | (apply RV_cellN; exact rfl; (repeat' (first | exact Pick.head _ _ | apply Pick.tail)); (intro _; exact rfl); (intro _; exact rfl); exact rfl) | (apply RV_cell1; exact rfl; (repeat' (first | exact Pick.head _ _ | apply Pick.tail)); (intro _; exact rfl); exact rfl)));  (focus (first | exact rfl | (simp; done))); (focus (repeat (first | exact SubO.nil _ | (apply SubO.cons; (focus (repeat' (first | exact Pick.head _ _ | apply Pick.tail))))))); (focus (repeat (first | exact AllE.nil _ | (apply AllE.cons; (focus (first | exact ent_nilBy | exact ent_nilSl | (apply Ent.mem; repeat' (first | exact mcs | apply mct)))))))))
  obtain ⟨s, rfl⟩ : ∃ s : Nat, size = (s : Int) := ⟨size.toNat, by omega⟩
  have hmn : cutE f.head f.body s = if 16 < manyN f.body.length s then 4 else 0 := by unfold cutE; rw [if_neg hP, if_neg c7, if_neg c8]; rfl
  have hs1 : 1 ≤ s := by omega
  have hpos : 0 < f.body.length → ∀ i, i < manyN f.body.length s ↔ i * s < f.body.length := fun d i => many_lt hs1 d
  have hz0 : f.body.length = 0 → manyN f.body.length s = 1 := fun d => by unfold manyN; rw [if_pos d]
  have hL : manyN f.body.length s ≤ 16 → cutL f.head f.body s = (List.range (manyN f.body.length s)).map fun i => (pcH f.head (manyN f.body.length s) i, pcB f.body s i) := fun h => by unfold cutL; rw [if_pos (by rw [hmn, if_neg (by omega)])]; rfl
  have hL4 : 16 < manyN f.body.length s → cutL f.head f.body s = [] := fun h => by unfold cutL; rw [if_neg (by rw [hmn, if_pos h]; decide)]
  have hM1 : 1 ≤ manyN f.body.length s := many_pos _ _
  generalize manyN f.body.length s = M at *
  repeat (first | refine n1 ?_ | refine n2 (fun b _ => ?_) | refine n3 (fun _ _ => ?_) | refine n4 ?_ | refine n5 ?_ | refine WL_nil ?_ | refine W_seq ?_ | refine W_region ?_ | refine n7 ?_ | refine n8 ?_ | refine W_block ?_ | refine W_skip ?_ | refine W_ret ?_ | refine W_exit ?_ | refine WQ_then ?_ | refine WQ_then_ret ?_ | refine WQ_then_exit ?_ | refine WQ_block_normal ?_ | refine WQ_block_ret ?_ | refine WQ_block_exit ?_ | refine n9 ?_)
  apply W_nilRow 28 41
  refine W_ent ent_bf0 ?_
  ((apply W_loopK (X := List Fm × Value × Value × List UInt8) [7, 8, 9, 10] [0] (fun x => x.1.length < M ∧ x.1.length ≤ 16 ∧ x.1.map Fmz = (List.range x.1.length).map (fun i => (pcH f.head M i, pcB f.body s i)) ∧ x.2.2.2 = f.body.drop (x.1.length * s)) (fun x => [(7, x.2.1), (8, x.2.2.1)]) (fun x => [.row x.2.1 28 41 x.1.length (fcF x.1)]) (fun x => [By x.2.2.1 x.2.2.2, Bf x.1]) (fun x => 17 - x.1.length) (([], .slice none 0 0, f.bv, f.body))); (focus exact ⟨hM1, Nat.zero_le _, rfl, by simp⟩); exact rfl; exact rfl; (intro _; exact rfl); (intro _; exact rfl); (intro _; exact rfl); (focus (repeat (first | exact FrIn.nil _ | (apply FrIn.cons; exact rfl; (first | exact rfl | (congr 1; first | omega | (dsimp only; omega)) | (simp; done)))))); (focus (repeat (first | exact SubO.nil _ | (apply SubO.cons; (focus (repeat' (first | exact Pick.head _ _ | apply Pick.tail))))))); (focus (repeat (first | exact AllE.nil _ | (apply AllE.cons; (focus (first | exact ent_nilBy | exact ent_nilSl | (apply Ent.mem; repeat' (first | exact mcs | apply mct)))))))); intro x hx)
  obtain ⟨D, o, r, xs⟩ := x
  obtain ⟨hD, hD6, hDm, hxs⟩ := hx
  replace hD : D.length < M := hD
  replace hD6 : D.length ≤ 16 := hD6
  replace hDm : D.map Fmz = (List.range D.length).map (fun i => (pcH f.head M i, pcB f.body s i)) := hDm
  replace hxs : xs = f.body.drop (D.length * s) := hxs
  dsimp only
  by_cases d1 : D.length = 16
  · repeat (first | refine n1 ?_ | refine n2 (fun b _ => ?_) | refine n3 (fun _ _ => ?_) | refine n4 ?_ | refine n5 ?_ | refine WL_nil ?_ | refine W_seq ?_ | refine W_region ?_ | refine n7 ?_ | refine n8 ?_ | refine W_block ?_ | refine W_skip ?_ | refine W_ret ?_ | refine W_exit ?_ | refine WQ_then ?_ | refine WQ_then_ret ?_ | refine WQ_then_exit ?_ | refine WQ_block_normal ?_ | refine WQ_block_ret ?_ | refine WQ_block_exit ?_ | refine n9 ?_)
    rw [hmn, if_pos (by omega), hL4 (by omega)]
    refine WQ_ent (ψ := Rw 41 (.slice none 0 0) ([] : List Fm).length (fun i => (([] : List Fm).getD i f0_).cells)) ent_nilRw ?_
    refine WQ_ent ent_bf0 ?_
    ((apply ret2 Try.results12 ( (Value.slice none 0 0, []))); (focus (first | trivial | assumption | omega)); (focus (first | exact RV_tmp rfl | (apply RV_cellN; exact rfl; (repeat' (first | exact Pick.head _ _ | apply Pick.tail)); (intro _; exact rfl); (intro _; exact rfl); exact rfl) | (apply RV_cell1; exact rfl; (repeat' (first | exact Pick.head _ _ | apply Pick.tail)); (intro _; exact rfl); exact rfl))); (focus (first | exact RV_tmp rfl | (apply RV_cellN; exact rfl; (repeat' (first | exact Pick.head _ _ | apply Pick.tail)); (intro _; exact rfl); (intro _; exact rfl); exact rfl) | (apply RV_cell1; exact rfl; (repeat' (first | exact Pick.head _ _ | apply Pick.tail)); (intro _; exact rfl); exact rfl)));  (focus (first | exact rfl | (simp; done))); (focus (repeat (first | exact SubO.nil _ | (apply SubO.cons; (focus (repeat' (first | exact Pick.head _ _ | apply Pick.tail))))))); (focus (repeat (first | exact AllE.nil _ | (apply AllE.cons; (focus (first | exact ent_nilBy | exact ent_nilSl | (apply Ent.mem; repeat' (first | exact mcs | apply mct)))))))))
  have hxl : xs.length = f.body.length - D.length * s := by rw [hxs, List.length_drop]
  have hnx : xs.drop s = f.body.drop ((D.length + 1) * s) := by rw [hxs, List.drop_drop, Nat.succ_mul]
  have hpc : pcB f.body s D.length = xs.take s := by rw [hxs]; rfl
  have hmore : 0 < (xs.drop s).length ↔ D.length + 1 < M := by
    rw [hnx, List.length_drop]
    rcases Nat.eq_zero_or_pos f.body.length with h | h
    · have := hz0 h
      omega
    · rw [hpos h (D.length + 1)]
      omega
  have hdl : (xs.drop s).length = xs.length - s := List.length_drop
  have htk : List.take (xs.length - s) (List.drop s xs) = List.drop s xs := List.take_of_length_le (by omega)
  have htl : (List.take (xs.length - s) (List.drop s xs)).length = xs.length - s := by rw [htk, hdl]
  have htm := take_min xs s
  have hdm2 := drop_min xs s
  by_cases d2 : D.length + 1 < M
  · have hlen : 0 < (xs.drop s).length := hmore.2 d2
    have hdm : decide (D.length + 1 < M) = true := by simp; omega
    repeat (first | refine n1 ?_ | refine n2 (fun b _ => ?_) | refine n3 (fun _ _ => ?_) | refine n4 ?_ | refine n5 ?_ | refine WL_nil ?_ | refine W_seq ?_ | refine W_region ?_ | refine n7 ?_ | refine n8 ?_ | refine W_block ?_ | refine W_skip ?_ | refine W_ret ?_ | refine W_exit ?_ | refine WQ_then ?_ | refine WQ_then_ret ?_ | refine WQ_then_exit ?_ | refine WQ_block_normal ?_ | refine WQ_block_ret ?_ | refine WQ_block_exit ?_ | refine n9 ?_)
    (refine W_regionP' [1, 5, 8] [7] [0, 2, 3, 4, 1, 5, 6, 7, 8] [] (by kernel_rfl) (by kernel_rfl) (by repeat (first | exact UZ.nil _ _ | (apply UZ.cons; exact rfl; (intro _; exact rfl)))) (by exact rfl) (by (repeat (first | exact SubO.nil _ | (apply SubO.cons; (focus (repeat' (first | exact Pick.head _ _ | apply Pick.tail))))))) ?_)
    repeat (first | refine p1 ?_ | refine p2 (fun b _ => ?_) | refine p3 (fun _ _ => ?_) | refine p4 ?_ | refine p5 ?_ | refine p7 (fun b => ?_) | refine PL_nil ?_)
    (apply PL_effs; exact rfl; exact rfl; exact rfl; exact rfl; exact rfl; (apply E_buildSlice; exact rfl; (focus (repeat (first | apply SeqE.nil | (apply SeqE.cons; exact rfl; (focus (first | (apply CellsE.lit; exact rfl) | (apply CellsE.one; (first | (apply OneC.lit; exact rfl) | (apply OneC.by_; (repeat' (first | exact mcs | apply mct)); done) | (apply OneC.sl; (repeat' (first | exact mcs | apply mct)); done) | (apply OneC.rw; (repeat' (first | exact mcs | apply mct)); done) | (apply OneC.row; (repeat' (first | exact Pick.head _ _ | apply Pick.tail))))))); exact rfl) | exact rfl))); exact rfl; (first | (intro _; exact (rfl : _ = Result.ok 1 _)) | (intro _; exact (rfl : _ = Result.ok 2 _)) | (intro _; exact (rfl : _ = Result.ok 3 _)) | (intro _; exact (rfl : _ = Result.ok 4 _)) | (intro _; exact (rfl : _ = Result.ok 5 _)) | (intro _; exact (rfl : _ = Result.ok 6 _)) | (intro _; exact (rfl : _ = Result.ok 7 _)) | (intro _; exact (rfl : _ = Result.ok 8 _)) | (intro _; exact (rfl : _ = Result.ok 9 _)) | (intro _; exact (rfl : _ = Result.ok 13 _)) | (intro _; exact (rfl : _ = Result.ok 14 _)) | (intro _; exact (rfl : _ = Result.ok 26 _)) | (intro _; exact (rfl : _ = Result.ok 40 _)) | (intro _; exact (rfl : _ = Result.ok 41 _)) | (intro _; exact (rfl : _ = Result.ok 42 _)) | (intro _; exact (rfl : _ = Result.ok 43 _)) | (intro _; exact (rfl : _ = Result.ok 44 _)) | (intro _; exact (rfl : _ = Result.ok 45 _)) | (intro _; exact (rfl : _ = Result.ok 46 _))); (intro _; exact rfl); exact rfl; exact Nat.le_of_ble_eq_true rfl; exact Nat.le_of_ble_eq_true rfl); (intro _; (repeat (first | exact SubO.nil _ | (apply SubO.cons; (focus (repeat' (first | exact Pick.head _ _ | apply Pick.tail))))))); skip)
    intro q0 _
    refine PL_effs rfl rfl rfl rfl rfl (Effs.letB (E_appendBy (bs := []) (news := xs.take s) (nm := (xs.take s).length) (all := xs.take s) rfl rfl (by repeat' (first | exact Pick.head _ _ | apply Pick.tail)) (by repeat' (first | exact mcs | apply mct)) rfl rfl rfl rfl rfl rfl (Nat.le_of_ble_eq_true rfl) (by rw [List.length_take]; omega) (Nat.zero_add _) rfl)) (by intro _; exact (by (repeat (first | exact SubO.nil _ | (apply SubO.cons; (focus (repeat' (first | exact Pick.head _ _ | apply Pick.tail)))))))) ?_
    intro q _
    dsimp only
    repeat (first | refine p1 ?_ | refine p2 (fun b _ => ?_) | refine p3 (fun _ _ => ?_) | refine p4 ?_ | refine p5 ?_ | refine p7 (fun b => ?_) | refine PL_nil ?_)
    repeat (first | refine n1 ?_ | refine n2 (fun b _ => ?_) | refine n3 (fun _ _ => ?_) | refine n4 ?_ | refine n5 ?_ | refine WL_nil ?_ | refine W_seq ?_ | refine W_region ?_ | refine n7 ?_ | refine n8 ?_ | refine W_block ?_ | refine W_skip ?_ | refine W_ret ?_ | refine W_exit ?_ | refine WQ_then ?_ | refine WQ_then_ret ?_ | refine WQ_then_exit ?_ | refine WQ_block_normal ?_ | refine WQ_block_ret ?_ | refine WQ_block_exit ?_ | refine n9 ?_)
    refine WL_effs rfl rfl rfl (Effs.tell (by (apply E_buildSlice; exact rfl; (focus (repeat (first | apply SeqE.nil | (apply SeqE.cons; exact rfl; (focus (first | (apply CellsE.lit; exact rfl) | (apply CellsE.one; (first | (apply OneC.lit; exact rfl) | (apply OneC.by_; (repeat' (first | exact mcs | apply mct)); done) | (apply OneC.sl; (repeat' (first | exact mcs | apply mct)); done) | (apply OneC.rw; (repeat' (first | exact mcs | apply mct)); done) | (apply OneC.row; (repeat' (first | exact Pick.head _ _ | apply Pick.tail))))))); exact rfl) | exact rfl))); exact rfl; (first | (intro _; exact (rfl : _ = Result.ok 1 _)) | (intro _; exact (rfl : _ = Result.ok 2 _)) | (intro _; exact (rfl : _ = Result.ok 3 _)) | (intro _; exact (rfl : _ = Result.ok 4 _)) | (intro _; exact (rfl : _ = Result.ok 5 _)) | (intro _; exact (rfl : _ = Result.ok 6 _)) | (intro _; exact (rfl : _ = Result.ok 7 _)) | (intro _; exact (rfl : _ = Result.ok 8 _)) | (intro _; exact (rfl : _ = Result.ok 9 _)) | (intro _; exact (rfl : _ = Result.ok 13 _)) | (intro _; exact (rfl : _ = Result.ok 14 _)) | (intro _; exact (rfl : _ = Result.ok 26 _)) | (intro _; exact (rfl : _ = Result.ok 40 _)) | (intro _; exact (rfl : _ = Result.ok 41 _)) | (intro _; exact (rfl : _ = Result.ok 42 _)) | (intro _; exact (rfl : _ = Result.ok 43 _)) | (intro _; exact (rfl : _ = Result.ok 44 _)) | (intro _; exact (rfl : _ = Result.ok 45 _)) | (intro _; exact (rfl : _ = Result.ok 46 _))); (intro _; exact rfl); exact rfl; exact Nat.le_of_ble_eq_true rfl; exact Nat.le_of_ble_eq_true rfl))) (fun q5 _ => ?_)
    obtain ⟨D', hD'⟩ : ∃ D', D' = D ++ [(⟨hdC f.head D.length true, q, xs.take s⟩ : Fm)] := ⟨_, rfl⟩
    have hl' : D'.length = D.length + 1 := by rw [hD', List.length_append]; rfl
    have hap : fcF D ++ (⟨hdC f.head D.length true, q, xs.take s⟩ : Fm).cells = fcF D' := by rw [hD', fcF_snoc]
    have hfz : Fmz (⟨hdC f.head D.length true, q, xs.take s⟩ : Fm) = (pcH f.head M D.length, pcB f.body s D.length) := by
      rw [hpc]
      unfold Fmz pcH
      rw [hdm]
    have hn : D'.length < M ∧ D'.length ≤ 16 ∧ D'.map Fmz = (List.range D'.length).map (fun i => (pcH f.head M i, pcB f.body s i)) ∧ xs.drop s = f.body.drop (D'.length * s) := by
      refine ⟨by omega, by omega, ?_, by rw [hl', hnx]⟩
      rw [hl', List.range_succ, List.map_append, ← hDm, hD', List.map_append, List.map_cons, hfz]
      rfl
    refine WL_effs rfl rfl rfl (E_appendO (size := 41) (xs := fcF D) (news := (⟨hdC f.head D.length true, q, xs.take s⟩ : Fm).cells) (nm := D'.length) (all := fcF D') (m := 1) rfl rfl (by repeat' (first | exact Pick.head _ _ | apply Pick.tail)) (by repeat' (first | exact mcs | apply mct)) rfl rfl rfl rfl rfl (Nat.le_of_ble_eq_true rfl) (fm_ones (⟨hdC f.head D.length true, q, xs.take s⟩ : Fm) (OneC.by_ (u := q) (bs := xs.take s) (by (focus (repeat' (first | exact mcs | apply mct)))))) (Nat.le_of_ble_eq_true rfl) (by omega) hl'.symm hap) ?_
    intro o2 _
    repeat (first | refine n1 ?_ | refine n2 (fun b _ => ?_) | refine n3 (fun _ _ => ?_) | refine n4 ?_ | refine n5 ?_ | refine WL_nil ?_ | refine W_seq ?_ | refine W_region ?_ | refine n7 ?_ | refine n8 ?_ | refine W_block ?_ | refine W_skip ?_ | refine W_ret ?_ | refine W_exit ?_ | refine WQ_then ?_ | refine WQ_then_ret ?_ | refine WQ_then_exit ?_ | refine WQ_block_normal ?_ | refine WQ_block_ret ?_ | refine WQ_block_exit ?_ | refine n9 ?_)
    rw [htk]
    refine WQ_ent (ψ := Bf D') (by rw [hD']; exact ent_bfS (by (focus (repeat' (first | exact mcs | apply mct)))) (by (focus (repeat' (first | exact mcs | apply mct))))) ?_
    have hms : 17 - ((D', o2, cutV 1 s xs.length r, xs.drop s) : List Fm × Value × Value × List UInt8).1.length < 17 - D.length := by
      show 17 - D'.length < 17 - D.length
      omega
    ((apply WQ_again ((D', o2, cutV 1 s xs.length r, xs.drop s))); (focus exact hn); (focus (omega)); (focus (repeat (first | exact FrIn.nil _ | (apply FrIn.cons; exact rfl; (first | exact rfl | (congr 1; first | omega | (dsimp only; omega)) | (simp; done)))))); (focus (repeat (first | exact SubO.nil _ | (apply SubO.cons; (focus (repeat' (first | exact Pick.head _ _ | apply Pick.tail))))))); (focus (repeat (first | exact AllE.nil _ | (apply AllE.cons; (focus (first | exact ent_nilBy | exact ent_nilSl | (apply Ent.mem; repeat' (first | exact mcs | apply mct)))))))))
  · have hlen : (xs.drop s).length = 0 := by
      rcases Nat.eq_zero_or_pos (xs.drop s).length with h | h
      · exact h
      · exact absurd (hmore.1 h) d2
    have hxs2 : xs.take s = xs := List.take_of_length_le (by omega)
    have htl2 : (List.take (xs.length - xs.length) (List.drop xs.length xs)).length = 0 := by simp
    have hdm : decide (D.length + 1 < M) = false := by simp; omega
    repeat (first | refine n1 ?_ | refine n2 (fun b _ => ?_) | refine n3 (fun _ _ => ?_) | refine n4 ?_ | refine n5 ?_ | refine WL_nil ?_ | refine W_seq ?_ | refine W_region ?_ | refine n7 ?_ | refine n8 ?_ | refine W_block ?_ | refine W_skip ?_ | refine W_ret ?_ | refine W_exit ?_ | refine WQ_then ?_ | refine WQ_then_ret ?_ | refine WQ_then_exit ?_ | refine WQ_block_normal ?_ | refine WQ_block_ret ?_ | refine WQ_block_exit ?_ | refine n9 ?_)
    refine WL_runs rfl rfl rfl (R_min2 (m := (xs.length : Int)) rfl rfl (by split <;> omega)) ?_
    repeat (first | refine n1 ?_ | refine n2 (fun b _ => ?_) | refine n3 (fun _ _ => ?_) | refine n4 ?_ | refine n5 ?_ | refine WL_nil ?_ | refine W_seq ?_ | refine W_region ?_ | refine n7 ?_ | refine n8 ?_ | refine W_block ?_ | refine W_skip ?_ | refine W_ret ?_ | refine W_exit ?_ | refine WQ_then ?_ | refine WQ_then_ret ?_ | refine WQ_then_exit ?_ | refine WQ_block_normal ?_ | refine WQ_block_ret ?_ | refine WQ_block_exit ?_ | refine n9 ?_)
    (refine W_regionP' [1, 5, 8] [7] [0, 2, 3, 4, 1, 5, 6, 7, 8] [] (by kernel_rfl) (by kernel_rfl) (by repeat (first | exact UZ.nil _ _ | (apply UZ.cons; exact rfl; (intro _; exact rfl)))) (by exact rfl) (by (repeat (first | exact SubO.nil _ | (apply SubO.cons; (focus (repeat' (first | exact Pick.head _ _ | apply Pick.tail))))))) ?_)
    repeat (first | refine p1 ?_ | refine p2 (fun b _ => ?_) | refine p3 (fun _ _ => ?_) | refine p4 ?_ | refine p5 ?_ | refine p7 (fun b => ?_) | refine PL_nil ?_)
    (apply PL_effs; exact rfl; exact rfl; exact rfl; exact rfl; exact rfl; (apply E_buildSlice; exact rfl; (focus (repeat (first | apply SeqE.nil | (apply SeqE.cons; exact rfl; (focus (first | (apply CellsE.lit; exact rfl) | (apply CellsE.one; (first | (apply OneC.lit; exact rfl) | (apply OneC.by_; (repeat' (first | exact mcs | apply mct)); done) | (apply OneC.sl; (repeat' (first | exact mcs | apply mct)); done) | (apply OneC.rw; (repeat' (first | exact mcs | apply mct)); done) | (apply OneC.row; (repeat' (first | exact Pick.head _ _ | apply Pick.tail))))))); exact rfl) | exact rfl))); exact rfl; (first | (intro _; exact (rfl : _ = Result.ok 1 _)) | (intro _; exact (rfl : _ = Result.ok 2 _)) | (intro _; exact (rfl : _ = Result.ok 3 _)) | (intro _; exact (rfl : _ = Result.ok 4 _)) | (intro _; exact (rfl : _ = Result.ok 5 _)) | (intro _; exact (rfl : _ = Result.ok 6 _)) | (intro _; exact (rfl : _ = Result.ok 7 _)) | (intro _; exact (rfl : _ = Result.ok 8 _)) | (intro _; exact (rfl : _ = Result.ok 9 _)) | (intro _; exact (rfl : _ = Result.ok 13 _)) | (intro _; exact (rfl : _ = Result.ok 14 _)) | (intro _; exact (rfl : _ = Result.ok 26 _)) | (intro _; exact (rfl : _ = Result.ok 40 _)) | (intro _; exact (rfl : _ = Result.ok 41 _)) | (intro _; exact (rfl : _ = Result.ok 42 _)) | (intro _; exact (rfl : _ = Result.ok 43 _)) | (intro _; exact (rfl : _ = Result.ok 44 _)) | (intro _; exact (rfl : _ = Result.ok 45 _)) | (intro _; exact (rfl : _ = Result.ok 46 _))); (intro _; exact rfl); exact rfl; exact Nat.le_of_ble_eq_true rfl; exact Nat.le_of_ble_eq_true rfl); (intro _; (repeat (first | exact SubO.nil _ | (apply SubO.cons; (focus (repeat' (first | exact Pick.head _ _ | apply Pick.tail))))))); skip)
    intro q0 _
    refine PL_effs rfl rfl rfl rfl rfl (Effs.letB (E_appendBy (bs := []) (news := xs.take xs.length) (nm := (xs.take s).length) (all := xs.take s) rfl rfl (by repeat' (first | exact Pick.head _ _ | apply Pick.tail)) (by repeat' (first | exact mcs | apply mct)) rfl rfl rfl rfl rfl rfl (Nat.le_of_ble_eq_true rfl) (by rw [List.length_take]; omega) (by rw [List.take_length, hxs2]; exact Nat.zero_add _) (by rw [List.take_length, hxs2]; rfl))) (by intro _; exact (by (repeat (first | exact SubO.nil _ | (apply SubO.cons; (focus (repeat' (first | exact Pick.head _ _ | apply Pick.tail)))))))) ?_
    intro q _
    dsimp only
    repeat (first | refine p1 ?_ | refine p2 (fun b _ => ?_) | refine p3 (fun _ _ => ?_) | refine p4 ?_ | refine p5 ?_ | refine p7 (fun b => ?_) | refine PL_nil ?_)
    repeat (first | refine n1 ?_ | refine n2 (fun b _ => ?_) | refine n3 (fun _ _ => ?_) | refine n4 ?_ | refine n5 ?_ | refine WL_nil ?_ | refine W_seq ?_ | refine W_region ?_ | refine n7 ?_ | refine n8 ?_ | refine W_block ?_ | refine W_skip ?_ | refine W_ret ?_ | refine W_exit ?_ | refine WQ_then ?_ | refine WQ_then_ret ?_ | refine WQ_then_exit ?_ | refine WQ_block_normal ?_ | refine WQ_block_ret ?_ | refine WQ_block_exit ?_ | refine n9 ?_)
    refine WL_effs rfl rfl rfl (Effs.tell (by (apply E_buildSlice; exact rfl; (focus (repeat (first | apply SeqE.nil | (apply SeqE.cons; exact rfl; (focus (first | (apply CellsE.lit; exact rfl) | (apply CellsE.one; (first | (apply OneC.lit; exact rfl) | (apply OneC.by_; (repeat' (first | exact mcs | apply mct)); done) | (apply OneC.sl; (repeat' (first | exact mcs | apply mct)); done) | (apply OneC.rw; (repeat' (first | exact mcs | apply mct)); done) | (apply OneC.row; (repeat' (first | exact Pick.head _ _ | apply Pick.tail))))))); exact rfl) | exact rfl))); exact rfl; (first | (intro _; exact (rfl : _ = Result.ok 1 _)) | (intro _; exact (rfl : _ = Result.ok 2 _)) | (intro _; exact (rfl : _ = Result.ok 3 _)) | (intro _; exact (rfl : _ = Result.ok 4 _)) | (intro _; exact (rfl : _ = Result.ok 5 _)) | (intro _; exact (rfl : _ = Result.ok 6 _)) | (intro _; exact (rfl : _ = Result.ok 7 _)) | (intro _; exact (rfl : _ = Result.ok 8 _)) | (intro _; exact (rfl : _ = Result.ok 9 _)) | (intro _; exact (rfl : _ = Result.ok 13 _)) | (intro _; exact (rfl : _ = Result.ok 14 _)) | (intro _; exact (rfl : _ = Result.ok 26 _)) | (intro _; exact (rfl : _ = Result.ok 40 _)) | (intro _; exact (rfl : _ = Result.ok 41 _)) | (intro _; exact (rfl : _ = Result.ok 42 _)) | (intro _; exact (rfl : _ = Result.ok 43 _)) | (intro _; exact (rfl : _ = Result.ok 44 _)) | (intro _; exact (rfl : _ = Result.ok 45 _)) | (intro _; exact (rfl : _ = Result.ok 46 _))); (intro _; exact rfl); exact rfl; exact Nat.le_of_ble_eq_true rfl; exact Nat.le_of_ble_eq_true rfl))) (fun q5 _ => ?_)
    obtain ⟨D', hD'⟩ : ∃ D', D' = D ++ [(⟨hdC f.head D.length false, q, xs.take s⟩ : Fm)] := ⟨_, rfl⟩
    have hl' : D'.length = D.length + 1 := by rw [hD', List.length_append]; rfl
    have hap : fcF D ++ (⟨hdC f.head D.length false, q, xs.take s⟩ : Fm).cells = fcF D' := by rw [hD', fcF_snoc]
    have hfz : Fmz (⟨hdC f.head D.length false, q, xs.take s⟩ : Fm) = (pcH f.head M D.length, pcB f.body s D.length) := by
      rw [hpc]
      unfold Fmz pcH
      rw [hdm]
    have hn : D'.map Fmz = (List.range M).map (fun i => (pcH f.head M i, pcB f.body s i)) := by
      rw [show M = D.length + 1 by omega] at hDm hfz ⊢
      rw [List.range_succ, List.map_append, ← hDm, hD', List.map_append, List.map_cons, hfz]
      rfl
    refine WL_effs rfl rfl rfl (E_appendO (size := 41) (xs := fcF D) (news := (⟨hdC f.head D.length false, q, xs.take s⟩ : Fm).cells) (nm := D'.length) (all := fcF D') (m := 1) rfl rfl (by repeat' (first | exact Pick.head _ _ | apply Pick.tail)) (by repeat' (first | exact mcs | apply mct)) rfl rfl rfl rfl rfl (Nat.le_of_ble_eq_true rfl) (fm_ones (⟨hdC f.head D.length false, q, xs.take s⟩ : Fm) (OneC.by_ (u := q) (bs := xs.take s) (by (focus (repeat' (first | exact mcs | apply mct)))))) (Nat.le_of_ble_eq_true rfl) (by omega) hl'.symm hap) ?_
    intro o2 _
    repeat (first | refine n1 ?_ | refine n2 (fun b _ => ?_) | refine n3 (fun _ _ => ?_) | refine n4 ?_ | refine n5 ?_ | refine WL_nil ?_ | refine W_seq ?_ | refine W_region ?_ | refine n7 ?_ | refine n8 ?_ | refine W_block ?_ | refine W_skip ?_ | refine W_ret ?_ | refine W_exit ?_ | refine WQ_then ?_ | refine WQ_then_ret ?_ | refine WQ_then_exit ?_ | refine WQ_block_normal ?_ | refine WQ_block_ret ?_ | refine WQ_block_exit ?_ | refine n9 ?_)
    have hM6 : ¬ 16 < M := by omega
    rw [hmn, if_neg hM6, hL (by omega)]
    refine WQ_letgo (v := o2) (by repeat' (first | exact Pick.head _ _ | apply Pick.tail)) ?_
    refine WQ_ent (ent_slF (v := o2) (l := D') (by (focus (repeat' (first | exact mcs | apply mct))))) ?_
    refine WQ_ent (ψ := Bf D') (by rw [hD']; exact ent_bfS (by (focus (repeat' (first | exact mcs | apply mct)))) (by (focus (repeat' (first | exact mcs | apply mct))))) ?_
    ((apply ret2 Try.results12 ( (o2, D'))); (focus (first | trivial | assumption | omega)); (focus (first | exact RV_tmp rfl | (apply RV_cellN; exact rfl; (repeat' (first | exact Pick.head _ _ | apply Pick.tail)); (intro _; exact rfl); (intro _; exact rfl); exact rfl) | (apply RV_cell1; exact rfl; (repeat' (first | exact Pick.head _ _ | apply Pick.tail)); (intro _; exact rfl); exact rfl))); (focus (first | exact RV_tmp rfl | (apply RV_cellN; exact rfl; (repeat' (first | exact Pick.head _ _ | apply Pick.tail)); (intro _; exact rfl); (intro _; exact rfl); exact rfl) | (apply RV_cell1; exact rfl; (repeat' (first | exact Pick.head _ _ | apply Pick.tail)); (intro _; exact rfl); exact rfl)));  (focus (first | exact rfl | (simp; done))); (focus (repeat (first | exact SubO.nil _ | (apply SubO.cons; (focus (repeat' (first | exact Pick.head _ _ | apply Pick.tail))))))); (focus (repeat (first | exact AllE.nil _ | (apply AllE.cons; (focus (first | exact ent_nilBy | exact ent_nilSl | (apply Ent.mem; repeat' (first | exact mcs | apply mct)))))))))
end Go.Proofs.Ytglmcnjkcmbefaa
