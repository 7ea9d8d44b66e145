/-
  Frames cut: what the pieces are; the program's 'Cut'.
-/
import Derived.Test.YtglmcnjkcmbefaaVIj
import Derived.Test.YtglmcnjkcmbefaaXd
namespace Go.Proofs.Ytglmcnjkcmbefaa
open Go Go.RowKit Go.Hs C05
def f0_ : Fm := ⟨h0_, .slice none 0 0, []⟩
@[reducible] def hdC (h : Hd) (a : Int) (b : Bool) : Hd := { h with frag := a, more := b }
def fcF (l : List Fm) : List Value := l.flatMap Fm.cells
theorem fm_len (p : Fm) : p.cells.length = 41 := rfl
theorem fcF_length (l : List Fm) : (fcF l).length = l.length * 41 := fc_length fm_len l
theorem fcF_snoc (l : List Fm) (v : Fm) : fcF (l ++ [v]) = fcF l ++ v.cells := by
  show List.flatMap Fm.cells (l ++ [v]) = _
  rw [List.flatMap_append]
  simp [fcF]
def Fmz (f : Fm) : Hd × List UInt8 := (f.head, f.body)
def dlF (l : List Fm) : List (Value × List UInt8) := l.map fun p => (p.bv, p.body)
theorem dlF_snoc (l : List Fm) (v : Fm) : dlF l ++ [(v.bv, v.body)] = dlF (l ++ [v]) := by unfold dlF; rw [List.map_append]; rfl
theorem fm_ones {C : Ctx} {Γ : List OA} {Φ : List SP} (p : Fm) (h : OneC C Γ Φ p.bv) : Ones C Γ Φ p.cells := fun u hu => by
  simp only [Fm.cells, List.mem_cons, List.not_mem_nil, or_false] at hu
  rcases hu with rfl | rfl | rfl | rfl | rfl | rfl | rfl | rfl | rfl | rfl | rfl | rfl | rfl | rfl | rfl | rfl | rfl | rfl | rfl | rfl | rfl | rfl | rfl | rfl | rfl | rfl | rfl | rfl | rfl | rfl | rfl | rfl | rfl | rfl | rfl | rfl | rfl | rfl | rfl | rfl | rfl
  all_goals first | exact h | exact OneC.lit rfl
/-- how many pieces. -/
def manyN (n s : Nat) : Nat := if n = 0 then 1 else (n - 1) / s + 1
def pcB (body : List UInt8) (s i : Nat) : List UInt8 := (body.drop (i * s)).take s
def pcH (h : Hd) (n i : Nat) : Hd := { h with frag := (i : Int), more := decide (i + 1 < n) }
/-- a frame that is not cut. -/
def cutP (h : Hd) (body : List UInt8) : Prop := sndB h body = false ∨ h.kind.toNat = 1 ∨ grpB h.a1 = true ∨ h.more = true ∨ h.amsdu = true ∨ ¬ h.frag = 0
instance (h : Hd) (body : List UInt8) : Decidable (cutP h body) := by unfold cutP; infer_instance
def cutE (h : Hd) (body : List UInt8) (size : Int) : Int := if cutP h body then 8 else if 2304 < body.length then 11 else if size < 1 then 2 else if 16 < manyN body.length size.toNat then 4 else 0
def cutL (h : Hd) (body : List UInt8) (size : Int) : List (Hd × List UInt8) :=
  if cutE h body size = 0 then (List.range (manyN body.length size.toNat)).map fun i => (pcH h (manyN body.length size.toNat) i, pcB body size.toNat i) else []
theorem putN_next {D : List Fm} {Z : List Value} {n : Nat} (hZ : Z.length = n * 41) (hD : D.length < n) (p : Fm) : putN (D.length * 41) p.cells (fcF D ++ Z.drop (D.length * 41)) = some (fcF (D ++ [p]) ++ Z.drop ((D.length + 1) * 41)) := by
  rw [putN_mk _ _ _ (by rw [List.length_append, fcF_length, List.length_drop, hZ, fm_len]; omega)]
  rw [List.take_left' (by rw [fcF_length]), List.drop_append, List.drop_of_length_le (by rw [fcF_length]; omega), List.nil_append, fcF_length, List.drop_drop, fcF_snoc, fm_len]
  congr 2
  congr 1
  omega
theorem row_len {C : Ctx} {Γ Γ' : List OA} {Φ : List SP} {v : Value} {t : TypeId} {size n : Nat} {xs : List Value} (hp : Pick (.row v t size n xs) Γ Γ') : ∀ w, Holds C Γ Φ w → xs.length = n * size := fun w hw => (pick_holds hp hw).own.1.1
/-- where the pieces lie. -/
theorem many_lt {n s k : Nat} (hs : 1 ≤ s) (hn : 0 < n) : k < manyN n s ↔ k * s < n := by
  unfold manyN
  rw [if_neg (by omega), Nat.lt_succ_iff, Nat.le_div_iff_mul_le (by omega)]
  omega
attribute [local irreducible] WL W WQ PL Runs Effs AllE Ent SubO FrIn Pick OneC Ones CellsE PartsE SeqE UZ By Sl Pt Ct

set_option maxRecDepth 100000 in
set_option maxHeartbeats 32000000 in
theorem cut_fn (f : Fm) (size : Int) (hw : f.head.w) (hb : f.body.length ≤ 100000) : Ct Try.prog 11 [f.val, .int .i64 size] [] [f.fact]
    (X := Value × List Fm) (fun x => x.2.map Fmz = cutL f.head f.body size) (fun x => .tuple #[x.1, .int .i64 (cutE f.head f.body size)]) (fun x => [.row x.1 28 41 x.2.length (fcF x.2), pk (rowsL 5 (dlF x.2))]) (fun _ => []) := by
  have hso := sound_fn f hw hb
  have hgr := group_fn f.head.a1
  have hlt : f.head.kind.toNat < 256 := f.head.kind.toNat_lt
  refine Ct_intro Try.func11 rfl Try.ntmps11 (by simp) _ rfl (fun w0 O0 => ?_)
  by_cases c1 : sndB f.head f.body = false
  · rw [c1] at hso
    repeat (first | refine n1 ?_ | refine n2 (fun b _ => ?_) | refine n3 (fun _ _ => ?_) | refine n4 ?_ | refine n5 ?_ | refine n6 (hso) ?_ | refine n6 (hgr) ?_ | refine n6v (hso) ?_ | refine n6v (hgr) ?_ | refine WL_nil ?_ | refine W_seq ?_ | refine W_region ?_ | refine n7 ?_ | refine n8 ?_ | refine W_block ?_ | refine W_skip ?_ | refine W_ret ?_ | refine W_exit ?_ | refine WQ_then ?_ | refine WQ_then_ret ?_ | refine WQ_then_exit ?_ | refine WQ_block_normal ?_ | refine WQ_block_ret ?_ | refine WQ_block_exit ?_ | refine n9 ?_)
    have hE : cutE f.head f.body size = 8 := if_pos (.inl c1)
    have hL : cutL f.head f.body size = [] := by unfold cutL; rw [if_neg (by rw [hE]; decide)]
    rw [hE, hL]
    apply WQ_nilRow 28 41
    apply WQ_nilL 5
    ((apply ret2 Try.results11 ( (Value.slice none 0 0, []))); (focus (first | trivial | assumption | omega)); (focus (first | exact RV_tmp rfl | (apply RV_cellN; exact rfl; (repeat' (first | exact Pick.head _ _ | apply Pick.tail)); (intro _; exact rfl); (intro _; exact rfl); exact rfl) | (apply RV_cell1; exact rfl; (repeat' (first | exact Pick.head _ _ | apply Pick.tail)); (intro _; exact rfl); exact rfl))); (focus (first | exact RV_tmp rfl | (apply RV_cellN; exact rfl; (repeat' (first | exact Pick.head _ _ | apply Pick.tail)); (intro _; exact rfl); (intro _; exact rfl); exact rfl) | (apply RV_cell1; exact rfl; (repeat' (first | exact Pick.head _ _ | apply Pick.tail)); (intro _; exact rfl); exact rfl)));  (focus (first | exact rfl | (simp; done))); (focus (repeat (first | exact SubO.nil _ | (apply SubO.cons; (focus (repeat' (first | exact Pick.head _ _ | apply Pick.tail))))))); (focus (repeat (first | exact AllE.nil _ | (apply AllE.cons; (focus (first | exact ent_nilBy | exact ent_nilSl | (apply Ent.mem; repeat' (first | exact mcs | apply mct)))))))))
  rw [show sndB f.head f.body = true by simpa using c1] at hso
  by_cases c2 : f.head.kind.toNat = 1
  · repeat (first | refine n1 ?_ | refine n2 (fun b _ => ?_) | refine n3 (fun _ _ => ?_) | refine n4 ?_ | refine n5 ?_ | refine n6 (hso) ?_ | refine n6 (hgr) ?_ | refine n6v (hso) ?_ | refine n6v (hgr) ?_ | refine WL_nil ?_ | refine W_seq ?_ | refine W_region ?_ | refine n7 ?_ | refine n8 ?_ | refine W_block ?_ | refine W_skip ?_ | refine W_ret ?_ | refine W_exit ?_ | refine WQ_then ?_ | refine WQ_then_ret ?_ | refine WQ_then_exit ?_ | refine WQ_block_normal ?_ | refine WQ_block_ret ?_ | refine WQ_block_exit ?_ | refine n9 ?_)
    have hE : cutE f.head f.body size = 8 := if_pos (.inr (.inl c2))
    have hL : cutL f.head f.body size = [] := by unfold cutL; rw [if_neg (by rw [hE]; decide)]
    rw [hE, hL]
    apply WQ_nilRow 28 41
    apply WQ_nilL 5
    ((apply ret2 Try.results11 ( (Value.slice none 0 0, []))); (focus (first | trivial | assumption | omega)); (focus (first | exact RV_tmp rfl | (apply RV_cellN; exact rfl; (repeat' (first | exact Pick.head _ _ | apply Pick.tail)); (intro _; exact rfl); (intro _; exact rfl); exact rfl) | (apply RV_cell1; exact rfl; (repeat' (first | exact Pick.head _ _ | apply Pick.tail)); (intro _; exact rfl); exact rfl))); (focus (first | exact RV_tmp rfl | (apply RV_cellN; exact rfl; (repeat' (first | exact Pick.head _ _ | apply Pick.tail)); (intro _; exact rfl); (intro _; exact rfl); exact rfl) | (apply RV_cell1; exact rfl; (repeat' (first | exact Pick.head _ _ | apply Pick.tail)); (intro _; exact rfl); exact rfl)));  (focus (first | exact rfl | (simp; done))); (focus (repeat (first | exact SubO.nil _ | (apply SubO.cons; (focus (repeat' (first | exact Pick.head _ _ | apply Pick.tail))))))); (focus (repeat (first | exact AllE.nil _ | (apply AllE.cons; (focus (first | exact ent_nilBy | exact ent_nilSl | (apply Ent.mem; repeat' (first | exact mcs | apply mct)))))))))
  by_cases c3 : grpB f.head.a1 = true
  · rw [c3] at hgr
    repeat (first | refine n1 ?_ | refine n2 (fun b _ => ?_) | refine n3 (fun _ _ => ?_) | refine n4 ?_ | refine n5 ?_ | refine n6 (hso) ?_ | refine n6 (hgr) ?_ | refine n6v (hso) ?_ | refine n6v (hgr) ?_ | refine WL_nil ?_ | refine W_seq ?_ | refine W_region ?_ | refine n7 ?_ | refine n8 ?_ | refine W_block ?_ | refine W_skip ?_ | refine W_ret ?_ | refine W_exit ?_ | refine WQ_then ?_ | refine WQ_then_ret ?_ | refine WQ_then_exit ?_ | refine WQ_block_normal ?_ | refine WQ_block_ret ?_ | refine WQ_block_exit ?_ | refine n9 ?_)
    have hE : cutE f.head f.body size = 8 := if_pos (.inr (.inr (.inl c3)))
    have hL : cutL f.head f.body size = [] := by unfold cutL; rw [if_neg (by rw [hE]; decide)]
    rw [hE, hL]
    apply WQ_nilRow 28 41
    apply WQ_nilL 5
    ((apply ret2 Try.results11 ( (Value.slice none 0 0, []))); (focus (first | trivial | assumption | omega)); (focus (first | exact RV_tmp rfl | (apply RV_cellN; exact rfl; (repeat' (first | exact Pick.head _ _ | apply Pick.tail)); (intro _; exact rfl); (intro _; exact rfl); exact rfl) | (apply RV_cell1; exact rfl; (repeat' (first | exact Pick.head _ _ | apply Pick.tail)); (intro _; exact rfl); exact rfl))); (focus (first | exact RV_tmp rfl | (apply RV_cellN; exact rfl; (repeat' (first | exact Pick.head _ _ | apply Pick.tail)); (intro _; exact rfl); (intro _; exact rfl); exact rfl) | (apply RV_cell1; exact rfl; (repeat' (first | exact Pick.head _ _ | apply Pick.tail)); (intro _; exact rfl); exact rfl)));  (focus (first | exact rfl | (simp; done))); (focus (repeat (first | exact SubO.nil _ | (apply SubO.cons; (focus (repeat' (first | exact Pick.head _ _ | apply Pick.tail))))))); (focus (repeat (first | exact AllE.nil _ | (apply AllE.cons; (focus (first | exact ent_nilBy | exact ent_nilSl | (apply Ent.mem; repeat' (first | exact mcs | apply mct)))))))))
  rw [(by simpa using c3 : grpB f.head.a1 = false)] at hgr
  repeat (first | refine n1 ?_ | refine n2 (fun b _ => ?_) | refine n3 (fun _ _ => ?_) | refine n4 ?_ | refine n5 ?_ | refine n6 (hso) ?_ | refine n6 (hgr) ?_ | refine n6v (hso) ?_ | refine n6v (hgr) ?_ | refine WL_nil ?_ | refine W_seq ?_ | refine W_region ?_ | refine n7 ?_ | refine n8 ?_ | refine W_block ?_ | refine W_skip ?_ | refine W_ret ?_ | refine W_exit ?_ | refine WQ_then ?_ | refine WQ_then_ret ?_ | refine WQ_then_exit ?_ | refine WQ_block_normal ?_ | refine WQ_block_ret ?_ | refine WQ_block_exit ?_ | refine n9 ?_)
  by_cases c4 : f.head.more = true
  · conv => arg 4; rw [c4]
    repeat (first | refine n1 ?_ | refine n2 (fun b _ => ?_) | refine n3 (fun _ _ => ?_) | refine n4 ?_ | refine n5 ?_ | refine WL_nil ?_ | refine W_seq ?_ | refine W_region ?_ | refine n7 ?_ | refine n8 ?_ | refine W_block ?_ | refine W_skip ?_ | refine W_ret ?_ | refine W_exit ?_ | refine WQ_then ?_ | refine WQ_then_ret ?_ | refine WQ_then_exit ?_ | refine WQ_block_normal ?_ | refine WQ_block_ret ?_ | refine WQ_block_exit ?_ | refine n9 ?_)
    have hE : cutE f.head f.body size = 8 := if_pos (.inr (.inr (.inr (.inl c4))))
    have hL : cutL f.head f.body size = [] := by unfold cutL; rw [if_neg (by rw [hE]; decide)]
    rw [hE, hL]
    apply WQ_nilRow 28 41
    apply WQ_nilL 5
    ((apply ret2 Try.results11 ( (Value.slice none 0 0, []))); (focus (first | trivial | assumption | omega)); (focus (first | exact RV_tmp rfl | (apply RV_cellN; exact rfl; (repeat' (first | exact Pick.head _ _ | apply Pick.tail)); (intro _; exact rfl); (intro _; exact rfl); exact rfl) | (apply RV_cell1; exact rfl; (repeat' (first | exact Pick.head _ _ | apply Pick.tail)); (intro _; exact rfl); exact rfl))); (focus (first | exact RV_tmp rfl | (apply RV_cellN; exact rfl; (repeat' (first | exact Pick.head _ _ | apply Pick.tail)); (intro _; exact rfl); (intro _; exact rfl); exact rfl) | (apply RV_cell1; exact rfl; (repeat' (first | exact Pick.head _ _ | apply Pick.tail)); (intro _; exact rfl); exact rfl)));  (focus (first | exact rfl | (simp; done))); (focus (repeat (first | exact SubO.nil _ | (apply SubO.cons; (focus (repeat' (first | exact Pick.head _ _ | apply Pick.tail))))))); (focus (repeat (first | exact AllE.nil _ | (apply AllE.cons; (focus (first | exact ent_nilBy | exact ent_nilSl | (apply Ent.mem; repeat' (first | exact mcs | apply mct)))))))))
  conv => arg 4; rw [(by simpa using c4 : f.head.more = false)]
  repeat (first | refine n1 ?_ | refine n2 (fun b _ => ?_) | refine n3 (fun _ _ => ?_) | refine n4 ?_ | refine n5 ?_ | refine WL_nil ?_ | refine W_seq ?_ | refine W_region ?_ | refine n7 ?_ | refine n8 ?_ | refine W_block ?_ | refine W_skip ?_ | refine W_ret ?_ | refine W_exit ?_ | refine WQ_then ?_ | refine WQ_then_ret ?_ | refine WQ_then_exit ?_ | refine WQ_block_normal ?_ | refine WQ_block_ret ?_ | refine WQ_block_exit ?_ | refine n9 ?_)
  by_cases c5 : f.head.amsdu = true
  · conv => arg 4; rw [c5]
    repeat (first | refine n1 ?_ | refine n2 (fun b _ => ?_) | refine n3 (fun _ _ => ?_) | refine n4 ?_ | refine n5 ?_ | refine WL_nil ?_ | refine W_seq ?_ | refine W_region ?_ | refine n7 ?_ | refine n8 ?_ | refine W_block ?_ | refine W_skip ?_ | refine W_ret ?_ | refine W_exit ?_ | refine WQ_then ?_ | refine WQ_then_ret ?_ | refine WQ_then_exit ?_ | refine WQ_block_normal ?_ | refine WQ_block_ret ?_ | refine WQ_block_exit ?_ | refine n9 ?_)
    have hE : cutE f.head f.body size = 8 := if_pos (.inr (.inr (.inr (.inr (.inl c5)))))
    have hL : cutL f.head f.body size = [] := by unfold cutL; rw [if_neg (by rw [hE]; decide)]
    rw [hE, hL]
    apply WQ_nilRow 28 41
    apply WQ_nilL 5
    ((apply ret2 Try.results11 ( (Value.slice none 0 0, []))); (focus (first | trivial | assumption | omega)); (focus (first | exact RV_tmp rfl | (apply RV_cellN; exact rfl; (repeat' (first | exact Pick.head _ _ | apply Pick.tail)); (intro _; exact rfl); (intro _; exact rfl); exact rfl) | (apply RV_cell1; exact rfl; (repeat' (first | exact Pick.head _ _ | apply Pick.tail)); (intro _; exact rfl); exact rfl))); (focus (first | exact RV_tmp rfl | (apply RV_cellN; exact rfl; (repeat' (first | exact Pick.head _ _ | apply Pick.tail)); (intro _; exact rfl); (intro _; exact rfl); exact rfl) | (apply RV_cell1; exact rfl; (repeat' (first | exact Pick.head _ _ | apply Pick.tail)); (intro _; exact rfl); exact rfl)));  (focus (first | exact rfl | (simp; done))); (focus (repeat (first | exact SubO.nil _ | (apply SubO.cons; (focus (repeat' (first | exact Pick.head _ _ | apply Pick.tail))))))); (focus (repeat (first | exact AllE.nil _ | (apply AllE.cons; (focus (first | exact ent_nilBy | exact ent_nilSl | (apply Ent.mem; repeat' (first | exact mcs | apply mct)))))))))
  conv => arg 4; rw [(by simpa using c5 : f.head.amsdu = false)]
  by_cases c6 : f.head.frag = 0
  case neg =>
    repeat (first | refine n1 ?_ | refine n2 (fun b _ => ?_) | refine n3 (fun _ _ => ?_) | refine n4 ?_ | refine n5 ?_ | refine WL_nil ?_ | refine W_seq ?_ | refine W_region ?_ | refine n7 ?_ | refine n8 ?_ | refine W_block ?_ | refine W_skip ?_ | refine W_ret ?_ | refine W_exit ?_ | refine WQ_then ?_ | refine WQ_then_ret ?_ | refine WQ_then_exit ?_ | refine WQ_block_normal ?_ | refine WQ_block_ret ?_ | refine WQ_block_exit ?_ | refine n9 ?_)
    have hE : cutE f.head f.body size = 8 := if_pos (.inr (.inr (.inr (.inr (.inr c6)))))
    have hL : cutL f.head f.body size = [] := by unfold cutL; rw [if_neg (by rw [hE]; decide)]
    rw [hE, hL]
    apply WQ_nilRow 28 41
    apply WQ_nilL 5
    ((apply ret2 Try.results11 ( (Value.slice none 0 0, []))); (focus (first | trivial | assumption | omega)); (focus (first | exact RV_tmp rfl | (apply RV_cellN; exact rfl; (repeat' (first | exact Pick.head _ _ | apply Pick.tail)); (intro _; exact rfl); (intro _; exact rfl); exact rfl) | (apply RV_cell1; exact rfl; (repeat' (first | exact Pick.head _ _ | apply Pick.tail)); (intro _; exact rfl); exact rfl))); (focus (first | exact RV_tmp rfl | (apply RV_cellN; exact rfl; (repeat' (first | exact Pick.head _ _ | apply Pick.tail)); (intro _; exact rfl); (intro _; exact rfl); exact rfl) | (apply RV_cell1; exact rfl; (repeat' (first | exact Pick.head _ _ | apply Pick.tail)); (intro _; exact rfl); exact rfl)));  (focus (first | exact rfl | (simp; done))); (focus (repeat (first | exact SubO.nil _ | (apply SubO.cons; (focus (repeat' (first | exact Pick.head _ _ | apply Pick.tail))))))); (focus (repeat (first | exact AllE.nil _ | (apply AllE.cons; (focus (first | exact ent_nilBy | exact ent_nilSl | (apply Ent.mem; repeat' (first | exact mcs | apply mct)))))))))
  have hP : ¬ cutP f.head f.body := by
    unfold cutP
    rintro (h | h | h | h | h | h)
    · exact c1 h
    · exact c2 h
    · exact c3 h
    · exact c4 h
    · exact c5 h
    · exact h c6
  by_cases c7 : 2304 < f.body.length
  · repeat (first | refine n1 ?_ | refine n2 (fun b _ => ?_) | refine n3 (fun _ _ => ?_) | refine n4 ?_ | refine n5 ?_ | refine WL_nil ?_ | refine W_seq ?_ | refine W_region ?_ | refine n7 ?_ | refine n8 ?_ | refine W_block ?_ | refine W_skip ?_ | refine W_ret ?_ | refine W_exit ?_ | refine WQ_then ?_ | refine WQ_then_ret ?_ | refine WQ_then_exit ?_ | refine WQ_block_normal ?_ | refine WQ_block_ret ?_ | refine WQ_block_exit ?_ | refine n9 ?_)
    have hE : cutE f.head f.body size = 11 := by unfold cutE; rw [if_neg hP, if_pos c7]
    have hL : cutL f.head f.body size = [] := by unfold cutL; rw [if_neg (by rw [hE]; decide)]
    rw [hE, hL]
    apply WQ_nilRow 28 41
    apply WQ_nilL 5
    ((apply ret2 Try.results11 ( (Value.slice none 0 0, []))); (focus (first | trivial | assumption | omega)); (focus (first | exact RV_tmp rfl | (apply RV_cellN; exact rfl; (repeat' (first | exact Pick.head _ _ | apply Pick.tail)); (intro _; exact rfl); (intro _; exact rfl); exact rfl) | (apply RV_cell1; exact rfl; (repeat' (first | exact Pick.head _ _ | apply Pick.tail)); (intro _; exact rfl); exact rfl))); (focus (first | exact RV_tmp rfl | (apply RV_cellN; exact rfl; (repeat' (first | exact Pick.head _ _ | apply Pick.tail)); (intro _; exact rfl); (intro _; exact rfl); exact rfl) | (apply RV_cell1; exact rfl; (repeat' (first | exact Pick.head _ _ | apply Pick.tail)); (intro _; exact rfl); exact rfl)));  (focus (first | exact rfl | (simp; done))); (focus (repeat (first | exact SubO.nil _ | (apply SubO.cons; (focus (repeat' (first | exact Pick.head _ _ | apply Pick.tail))))))); (focus (repeat (first | exact AllE.nil _ | (apply AllE.cons; (focus (first | exact ent_nilBy | exact ent_nilSl | (apply Ent.mem; repeat' (first | exact mcs | apply mct)))))))))
  by_cases c8 : size < 1
  · repeat (first | refine n1 ?_ | refine n2 (fun b _ => ?_) | refine n3 (fun _ _ => ?_) | refine n4 ?_ | refine n5 ?_ | refine WL_nil ?_ | refine W_seq ?_ | refine W_region ?_ | refine n7 ?_ | refine n8 ?_ | refine W_block ?_ | refine W_skip ?_ | refine W_ret ?_ | refine W_exit ?_ | refine WQ_then ?_ | refine WQ_then_ret ?_ | refine WQ_then_exit ?_ | refine WQ_block_normal ?_ | refine WQ_block_ret ?_ | refine WQ_block_exit ?_ | refine n9 ?_)
    have hE : cutE f.head f.body size = 2 := by unfold cutE; rw [if_neg hP, if_neg c7, if_pos c8]
    have hL : cutL f.head f.body size = [] := by unfold cutL; rw [if_neg (by rw [hE]; decide)]
    rw [hE, hL]
    apply WQ_nilRow 28 41
    apply WQ_nilL 5
    ((apply ret2 Try.results11 ( (Value.slice none 0 0, []))); (focus (first | trivial | assumption | omega)); (focus (first | exact RV_tmp rfl | (apply RV_cellN; exact rfl; (repeat' (first | exact Pick.head _ _ | apply Pick.tail)); (intro _; exact rfl); (intro _; exact rfl); exact rfl) | (apply RV_cell1; exact rfl; (repeat' (first | exact Pick.head _ _ | apply Pick.tail)); (intro _; exact rfl); exact rfl))); (focus (first | exact RV_tmp rfl | (apply RV_cellN; exact rfl; (repeat' (first | exact Pick.head _ _ | apply Pick.tail)); (intro _; exact rfl); (intro _; exact rfl); exact rfl) | (apply RV_cell1; exact rfl; (repeat' (first | exact Pick.head _ _ | apply Pick.tail)); (intro _; exact rfl); exact rfl)));  (focus (first | exact rfl | (simp; done))); (focus (repeat (first | exact SubO.nil _ | (apply SubO.cons; (focus (repeat' (first | exact Pick.head _ _ | apply Pick.tail))))))); (focus (repeat (first | exact AllE.nil _ | (apply AllE.cons; (focus (first | exact ent_nilBy | exact ent_nilSl | (apply Ent.mem; repeat' (first | exact mcs | apply mct)))))))))
  obtain ⟨s, rfl⟩ : ∃ s : Nat, size = (s : Int) := ⟨size.toNat, by omega⟩
  repeat (first | refine n1 ?_ | refine n2 (fun b _ => ?_) | refine n3 (fun _ _ => ?_) | refine n4 ?_ | refine n5 ?_ | refine WL_nil ?_ | refine W_seq ?_ | refine W_region ?_ | refine n7 ?_ | refine n8 ?_ | refine W_block ?_ | refine W_skip ?_ | refine W_ret ?_ | refine W_exit ?_ | refine WQ_then ?_ | refine WQ_then_ret ?_ | refine WQ_then_exit ?_ | refine WQ_block_normal ?_ | refine WQ_block_ret ?_ | refine WQ_block_exit ?_ | refine n9 ?_)
  obtain ⟨q, hq, hq1, hq2, hq3⟩ : ∃ q : Int, IntKind.i64.wrap (((f.body.length : Int) - 1).tdiv (s : Int)) = q ∧ -1 ≤ q ∧ q ≤ 100000 ∧ (0 < f.body.length → q = (((f.body.length - 1) / s : Nat) : Int)) := by
    by_cases d : 0 < f.body.length
    · have h1 : (f.body.length - 1) / s ≤ f.body.length - 1 := Nat.div_le_self _ _
      have h0 : (0 : Int) ≤ (((f.body.length - 1) / s : Nat) : Int) := Int.natCast_nonneg _
      refine ⟨(((f.body.length - 1) / s : Nat) : Int), ?_, by omega, by omega, fun _ => rfl⟩
      rw [show ((f.body.length : Int) - 1) = ((f.body.length - 1 : Nat) : Int) by omega, show (((f.body.length - 1 : Nat) : Int).tdiv (s : Int)) = (((f.body.length - 1) / s : Nat) : Int) from rfl]
      exact wx_i64 ⟨by omega, by omega⟩
    · have h1 : 1 / s ≤ 1 := Nat.div_le_self _ _
      have h0 : (0 : Int) ≤ ((1 / s : Nat) : Int) := Int.natCast_nonneg _
      refine ⟨-(((1 / s : Nat)) : Int), ?_, by omega, by omega, fun h => absurd h d⟩
      rw [show ((f.body.length : Int) - 1) = -1 by omega, show ((-1 : Int).tdiv (s : Int)) = -(((1 / s : Nat)) : Int) from rfl]
      exact wx_i64 ⟨by omega, by omega⟩
  refine WL_runs rfl rfl rfl (R_quo rfl rfl (by omega) hq) ?_
  obtain ⟨m, hm, hm1, hm2, hm3⟩ : ∃ m : Int, (if (1 : Int) > q + 1 then 1 else q + 1) = m ∧ 1 ≤ m ∧ m ≤ 100001 ∧ (0 < f.body.length → m = (manyN f.body.length s : Int)) := by
    refine ⟨_, rfl, by split <;> omega, by split <;> omega, fun d => ?_⟩
    have h0 : (0 : Int) ≤ (((f.body.length - 1) / s : Nat) : Int) := Int.natCast_nonneg _
    rw [hq3 d, if_neg (by omega)]
    unfold manyN
    rw [if_neg (by omega)]
    rfl
  (first | refine n1 ?_ | refine n2 (fun b _ => ?_) | refine n3 (fun _ _ => ?_) | refine n4 ?_ | refine n5 ?_ | refine WL_nil ?_ | refine W_seq ?_ | refine W_region ?_ | refine n7 ?_ | refine n8 ?_ | refine W_block ?_ | refine W_skip ?_ | refine W_ret ?_ | refine W_exit ?_ | refine WQ_then ?_ | refine WQ_then_ret ?_ | refine WQ_then_exit ?_ | refine WQ_block_normal ?_ | refine WQ_block_ret ?_ | refine WQ_block_exit ?_ | refine n9 ?_)
  refine WL_runs rfl rfl rfl (R_max2 rfl rfl hm) ?_
  repeat ((fail_if_success apply W_isIf); (first | refine n1 ?_ | refine n2 (fun b _ => ?_) | refine n3 (fun _ _ => ?_) | refine n4 ?_ | refine n5 ?_ | refine n6 (hso) ?_ | refine n6v (hso) ?_ | refine WL_nil ?_ | refine W_seq ?_ | refine W_region ?_ | refine n7 ?_ | refine n8 ?_ | refine W_block ?_ | refine W_skip ?_ | refine W_ret ?_ | refine W_exit ?_ | refine WQ_then ?_ | refine WQ_then_ret ?_ | refine WQ_then_exit ?_ | refine WQ_block_normal ?_ | refine WQ_block_ret ?_ | refine WQ_block_exit ?_ | refine n9 ?_))
  ((apply W_cutK (X := Unit) [7] [] (fun _ => True) (fun _ => [(7, .int .i64 (manyN f.body.length s : Int))]) (fun _ => []) (fun _ => [])); exact rfl; exact rfl; (intro _; exact rfl); (intro _; exact rfl); (intro _; exact rfl))
  · by_cases c9 : f.body.length = 0
    · repeat (first | refine n1 ?_ | refine n2 (fun b _ => ?_) | refine n3 (fun _ _ => ?_) | refine n4 ?_ | refine n5 ?_ | refine WL_nil ?_ | refine W_seq ?_ | refine W_region ?_ | refine n7 ?_ | refine n8 ?_ | refine W_block ?_ | refine W_skip ?_ | refine W_ret ?_ | refine W_exit ?_ | refine WQ_then ?_ | refine WQ_then_ret ?_ | refine WQ_then_exit ?_ | refine WQ_block_normal ?_ | refine WQ_block_ret ?_ | refine WQ_block_exit ?_ | refine n9 ?_)
      have e1 : (1 : Int) = (manyN f.body.length s : Int) := by unfold manyN; rw [if_pos c9]; rfl
      rw [e1]
      ((apply WQ_meet (())); (focus (first | trivial | omega | assumption | exact ⟨by omega, by omega⟩ | (simp; done))); (focus (repeat (first | exact FrIn.nil _ | (apply FrIn.cons; exact rfl; (first | exact rfl | (congr 1; first | omega | (dsimp only; omega)) | (simp; done)))))); (focus (repeat (first | exact SubO.nil _ | (apply SubO.cons; (focus (repeat' (first | exact Pick.head _ _ | apply Pick.tail))))))); (focus (repeat (first | exact AllE.nil _ | (apply AllE.cons; (focus (first | exact ent_nilBy | exact ent_nilSl | (apply Ent.mem; repeat' (first | exact mcs | apply mct)))))))))
    · have e1 := hm3 (by omega)
      subst e1
      repeat (first | refine n1 ?_ | refine n2 (fun b _ => ?_) | refine n3 (fun _ _ => ?_) | refine n4 ?_ | refine n5 ?_ | refine WL_nil ?_ | refine W_seq ?_ | refine W_region ?_ | refine n7 ?_ | refine n8 ?_ | refine W_block ?_ | refine W_skip ?_ | refine W_ret ?_ | refine W_exit ?_ | refine WQ_then ?_ | refine WQ_then_ret ?_ | refine WQ_then_exit ?_ | refine WQ_block_normal ?_ | refine WQ_block_ret ?_ | refine WQ_block_exit ?_ | refine n9 ?_)
      ((apply WQ_meet (())); (focus (first | trivial | omega | assumption | exact ⟨by omega, by omega⟩ | (simp; done))); (focus (repeat (first | exact FrIn.nil _ | (apply FrIn.cons; exact rfl; (first | exact rfl | (congr 1; first | omega | (dsimp only; omega)) | (simp; done)))))); (focus (repeat (first | exact SubO.nil _ | (apply SubO.cons; (focus (repeat' (first | exact Pick.head _ _ | apply Pick.tail))))))); (focus (repeat (first | exact AllE.nil _ | (apply AllE.cons; (focus (first | exact ent_nilBy | exact ent_nilSl | (apply Ent.mem; repeat' (first | exact mcs | apply mct)))))))))
  intro _ _
  have hmn : cutE f.head f.body s = if 16 < manyN f.body.length s then 4 else 0 := by unfold cutE; rw [if_neg hP, if_neg c7, if_neg c8]; rfl
  by_cases c10 : 16 < manyN f.body.length s
  · repeat (first | refine n1 ?_ | refine n2 (fun b _ => ?_) | refine n3 (fun _ _ => ?_) | refine n4 ?_ | refine n5 ?_ | refine WL_nil ?_ | refine W_seq ?_ | refine W_region ?_ | refine n7 ?_ | refine n8 ?_ | refine W_block ?_ | refine W_skip ?_ | refine W_ret ?_ | refine W_exit ?_ | refine WQ_then ?_ | refine WQ_then_ret ?_ | refine WQ_then_exit ?_ | refine WQ_block_normal ?_ | refine WQ_block_ret ?_ | refine WQ_block_exit ?_ | refine n9 ?_)
    have hE : cutE f.head f.body s = 4 := by rw [hmn, if_pos c10]
    have hL : cutL f.head f.body s = [] := by unfold cutL; rw [if_neg (by rw [hE]; decide)]
    rw [hE, hL]
    apply WQ_nilRow 28 41
    apply WQ_nilL 5
    ((apply ret2 Try.results11 ( (Value.slice none 0 0, []))); (focus (first | trivial | assumption | omega)); (focus (first | exact RV_tmp rfl | (apply RV_cellN; exact rfl; (repeat' (first | exact Pick.head _ _ | apply Pick.tail)); (intro _; exact rfl); (intro _; exact rfl); exact rfl) | (apply RV_cell1; exact rfl; (repeat' (first | exact Pick.head _ _ | apply Pick.tail)); (intro _; exact rfl); exact rfl))); (focus (first | exact RV_tmp rfl | (apply RV_cellN; exact rfl; (repeat' (first | exact Pick.head _ _ | apply Pick.tail)); (intro _; exact rfl); (intro _; exact rfl); exact rfl) | (apply RV_cell1; exact rfl; (repeat' (first | exact Pick.head _ _ | apply Pick.tail)); (intro _; exact rfl); exact rfl)));  (focus (first | exact rfl | (simp; done))); (focus (repeat (first | exact SubO.nil _ | (apply SubO.cons; (focus (repeat' (first | exact Pick.head _ _ | apply Pick.tail))))))); (focus (repeat (first | exact AllE.nil _ | (apply AllE.cons; (focus (first | exact ent_nilBy | exact ent_nilSl | (apply Ent.mem; repeat' (first | exact mcs | apply mct)))))))))
  repeat (first | refine n1 ?_ | refine n2 (fun b _ => ?_) | refine n3 (fun _ _ => ?_) | refine n4 ?_ | refine n5 ?_ | refine WL_nil ?_ | refine W_seq ?_ | refine W_region ?_ | refine n7 ?_ | refine n8 ?_ | refine W_block ?_ | refine W_skip ?_ | refine W_ret ?_ | refine W_exit ?_ | refine WQ_then ?_ | refine WQ_then_ret ?_ | refine WQ_then_exit ?_ | refine WQ_block_normal ?_ | refine WQ_block_ret ?_ | refine WQ_block_exit ?_ | refine n9 ?_)
  have hE : cutE f.head f.body s = 0 := by rw [hmn, if_neg c10]
  have hL : cutL f.head f.body s = (List.range (manyN f.body.length s)).map fun i => (pcH f.head (manyN f.body.length s) i, pcB f.body s i) := by unfold cutL; rw [if_pos hE]; rfl
  have hs1 : 1 ≤ s := by omega
  have hpos : 0 < f.body.length → ∀ i, i < manyN f.body.length s ↔ i * s < f.body.length := fun d i => many_lt hs1 d
  have hz0 : f.body.length = 0 → manyN f.body.length s = 1 := fun d => by unfold manyN; rw [if_pos d]
  rw [hE, hL]
  generalize manyN f.body.length s = M at *
  refine WL_effs rfl rfl rfl (E_make (size := 41) (n := M) (c := M) rfl rfl rfl rfl (Nat.le_refl _) rfl rfl rfl rfl (Nat.le_of_ble_eq_true rfl) (by omega) rfl) ?_
  intro o _
  refine WL_pure (row_len (by repeat' (first | exact Pick.head _ _ | apply Pick.tail))) fun hZl => ?_
  generalize List.take (M * 41) _ = Z at hZl ⊢
  apply WL_nilL 5
  repeat (first | refine n1 ?_ | refine n2 (fun b _ => ?_) | refine n3 (fun _ _ => ?_) | refine n4 ?_ | refine n5 ?_ | refine WL_nil ?_ | refine W_seq ?_ | refine W_region ?_ | refine n7 ?_ | refine n8 ?_ | refine W_block ?_ | refine W_skip ?_ | refine W_ret ?_ | refine W_exit ?_ | refine WQ_then ?_ | refine WQ_then_ret ?_ | refine WQ_then_exit ?_ | refine WQ_block_normal ?_ | refine WQ_block_ret ?_ | refine WQ_block_exit ?_ | refine n9 ?_)
  ((apply W_loopK (X := List Fm × Int × Bool) [9, 10, 11, 64] [0, 1, 2] (fun x => x.1.length ≤ M ∧ x.1.map Fmz = (List.range x.1.length).map (fun i => (pcH f.head M i, pcB f.body s i))) (fun x => [(64, .int .i64 (x.1.length : Int))]) (fun x => [pk (rowsL 5 (dlF x.1)), .row o 28 41 M (fcF x.1 ++ Z.drop (x.1.length * 41)), .blk b 25 (Hd.cells (hdC f.head x.2.1 x.2.2))]) (fun _ => []) (fun x => M - x.1.length) (([], f.head.frag, f.head.more))); (focus exact ⟨Nat.zero_le _, rfl⟩); exact rfl; exact rfl; (intro _; exact rfl); (intro _; exact rfl); (intro _; exact rfl); (focus (repeat (first | exact FrIn.nil _ | (apply FrIn.cons; exact rfl; (first | exact rfl | (congr 1; first | omega | (dsimp only; omega)) | (simp; done)))))); (focus (repeat (first | exact SubO.nil _ | (apply SubO.cons; (focus (repeat' (first | exact Pick.head _ _ | apply Pick.tail))))))); (focus (repeat (first | exact AllE.nil _ | (apply AllE.cons; (focus (first | exact ent_nilBy | exact ent_nilSl | (apply Ent.mem; repeat' (first | exact mcs | apply mct)))))))); intro x hx)
  obtain ⟨D, ag, bo⟩ := x
  obtain ⟨hD, hDm⟩ := hx
  replace hD : D.length ≤ M := hD
  replace hDm : D.map Fmz = (List.range D.length).map (fun i => (pcH f.head M i, pcB f.body s i)) := hDm
  dsimp only
  by_cases d1 : D.length < M
  · have hP1 : D.length * s ≤ f.body.length := by
      by_cases d : 0 < f.body.length
      · exact Nat.le_of_lt ((hpos d _).1 d1)
      · have := hz0 (by omega)
        rw [show D.length = 0 by omega]
        omega
    obtain ⟨hi, hh1, hh2, hh3, hh4, hh5⟩ : ∃ hi : Nat, (D.length + 1 < M → hi = D.length * s + s) ∧ (¬ D.length + 1 < M → hi = f.body.length) ∧ D.length * s ≤ hi ∧ hi ≤ f.body.length ∧ pcB f.body s D.length = (f.body.drop (D.length * s)).take (hi - D.length * s) := by
      by_cases c : D.length + 1 < M
      · have h0 : 0 < f.body.length := by
          rcases Nat.eq_zero_or_pos f.body.length with h | h
          · have := hz0 h; omega
          · exact h
        have h1 := (hpos h0 (D.length + 1)).1 c
        rw [Nat.succ_mul] at h1
        exact ⟨D.length * s + s, fun _ => rfl, fun h => absurd c h, Nat.le_add_right _ _, Nat.le_of_lt h1, by rw [Nat.add_sub_cancel_left]; rfl⟩
      · have h1 : f.body.length ≤ D.length * s + s := by
          rcases Nat.eq_zero_or_pos f.body.length with h | h
          · omega
          · have h2 := fun k => c ((hpos h (D.length + 1)).2 k)
            rw [Nat.succ_mul] at h2
            exact Nat.le_of_not_lt h2
        refine ⟨f.body.length, fun h => absurd h c, fun _ => rfl, hP1, Nat.le_refl _, ?_⟩
        unfold pcB
        rw [List.take_of_length_le (by rw [List.length_drop]; omega), List.take_of_length_le (by rw [List.length_drop]; exact Nat.le_refl _)]
    have hPc : (D.length : Int) * (s : Int) = ((D.length * s : Nat) : Int) := (Int.natCast_mul _ _).symm
    repeat (first | refine n1 ?_ | refine n2 (fun b _ => ?_) | refine n3 (fun _ _ => ?_) | refine n4 ?_ | refine n5 ?_ | refine WL_nil ?_ | refine W_seq ?_ | refine W_region ?_ | refine n7 ?_ | refine n8 ?_ | refine W_block ?_ | refine W_skip ?_ | refine W_ret ?_ | refine W_exit ?_ | refine WQ_then ?_ | refine WQ_then_ret ?_ | refine WQ_then_exit ?_ | refine WQ_block_normal ?_ | refine WQ_block_ret ?_ | refine WQ_block_exit ?_ | refine n9 ?_)
    rw [hPc]
    generalize D.length * s = P at *
    ((apply W_cutKT (X := Unit) [11] [] (fun _ => True) (fun _ => [(11, .int .i64 (hi : Int))]) (fun _ => []) (fun _ => [])); exact rfl; exact rfl; (intro _; exact rfl); (intro _; exact rfl); (intro _; exact rfl))
    · refine W_cond_d (p := (D.length : Int) < (M : Int) - 1) rfl (fun h => ?_) (fun h => ?_)
      · repeat (first | refine n1 ?_ | refine n2 (fun b _ => ?_) | refine n3 (fun _ _ => ?_) | refine n4 ?_ | refine n5 ?_ | refine WL_nil ?_ | refine W_seq ?_ | refine W_region ?_ | refine n7 ?_ | refine n8 ?_ | refine W_block ?_ | refine W_skip ?_ | refine W_ret ?_ | refine W_exit ?_ | refine WQ_then ?_ | refine WQ_then_ret ?_ | refine WQ_then_exit ?_ | refine WQ_block_normal ?_ | refine WQ_block_ret ?_ | refine WQ_block_exit ?_ | refine n9 ?_)
        rw [show (P : Int) + (s : Int) = (hi : Int) by rw [hh1 (by omega)]; rfl]
        ((apply WQ_meet (())); (focus (first | trivial | omega | assumption | exact ⟨by omega, by omega⟩ | (simp; done))); (focus (repeat (first | exact FrIn.nil _ | (apply FrIn.cons; exact rfl; (first | exact rfl | (congr 1; first | omega | (dsimp only; omega)) | (simp; done)))))); (focus (repeat (first | exact SubO.nil _ | (apply SubO.cons; (focus (repeat' (first | exact Pick.head _ _ | apply Pick.tail))))))); (focus (repeat (first | exact AllE.nil _ | (apply AllE.cons; (focus (first | exact ent_nilBy | exact ent_nilSl | (apply Ent.mem; repeat' (first | exact mcs | apply mct)))))))))
      · repeat (first | refine n1 ?_ | refine n2 (fun b _ => ?_) | refine n3 (fun _ _ => ?_) | refine n4 ?_ | refine n5 ?_ | refine WL_nil ?_ | refine W_seq ?_ | refine W_region ?_ | refine n7 ?_ | refine n8 ?_ | refine W_block ?_ | refine W_skip ?_ | refine W_ret ?_ | refine W_exit ?_ | refine WQ_then ?_ | refine WQ_then_ret ?_ | refine WQ_then_exit ?_ | refine WQ_block_normal ?_ | refine WQ_block_ret ?_ | refine WQ_block_exit ?_ | refine n9 ?_)
        rw [← hh2 (by omega)]
        ((apply WQ_meet (())); (focus (first | trivial | omega | assumption | exact ⟨by omega, by omega⟩ | (simp; done))); (focus (repeat (first | exact FrIn.nil _ | (apply FrIn.cons; exact rfl; (first | exact rfl | (congr 1; first | omega | (dsimp only; omega)) | (simp; done)))))); (focus (repeat (first | exact SubO.nil _ | (apply SubO.cons; (focus (repeat' (first | exact Pick.head _ _ | apply Pick.tail))))))); (focus (repeat (first | exact AllE.nil _ | (apply AllE.cons; (focus (first | exact ent_nilBy | exact ent_nilSl | (apply Ent.mem; repeat' (first | exact mcs | apply mct)))))))))
    intro _ _
    obtain ⟨h2, hh2e⟩ : ∃ h2, h2 = hdC f.head D.length (decide ((D.length : Int) < (M : Int) - 1)) := ⟨_, rfl⟩
    change W _ _ _ (OA.blk b _ (Hd.cells (hdC f.head D.length (decide ((D.length : Int) < (M : Int) - 1)))) :: _) _ _
    rw [← hh2e]
    (refine W_regionP' [8, 9, 11] [] [0, 1, 2, 3, 4, 5, 6, 7, 8, 9, 10, 11] [] (by kernel_rfl) (by kernel_rfl) (by repeat (first | exact UZ.nil _ _ | (apply UZ.cons; exact rfl; (intro _; exact rfl)))) (by exact rfl) (by (repeat (first | exact SubO.nil _ | (apply SubO.cons; (focus (repeat' (first | exact Pick.head _ _ | apply Pick.tail))))))) ?_)
    repeat (first | refine p1 ?_ | refine p2 (fun b _ => ?_) | refine p3 (fun _ _ => ?_) | refine p4 ?_ | refine p5 ?_ | refine p7 (fun b => ?_) | refine PL_nil ?_)
    (apply PL_effs; exact rfl; exact rfl; exact rfl; exact rfl; exact rfl; apply E_call; exact rfl; (intro _ _; simp); (exact cloneB_fn (cutV 1 P hi f.bv) ((f.body.drop P).take (hi - P)) (by rw [List.length_take, List.length_drop]; omega)); (repeat (first | exact AllE.nil _ | (apply AllE.cons; (focus (first | exact ent_nilBy | exact ent_nilSl | (apply Ent.mem; repeat' (first | exact mcs | apply mct))))))); (intro _; exact rfl); (intro _; exact rfl); (intro _; (repeat (first | exact SubO.nil _ | (apply SubO.cons; (focus (repeat' (first | exact Pick.head _ _ | apply Pick.tail))))))))
    intro w _
    refine PL_effs rfl rfl rfl rfl rfl (Effs.runs (by (first | (apply R_move; exact rfl) | (apply R_assign; exact rfl) | (apply R_extract; exact rfl; exact rfl) | (apply R_pick_t; exact rfl; exact rfl) | (apply R_pick_f; exact rfl; exact rfl) | (apply G_bin; (first | (apply R_cmp; exact rfl; exact rfl; exact rfl; (first | exact decide_eq_true (by omega) | exact decide_eq_false (by omega) | exact rfl)) | (apply R_ari; exact rfl; exact rfl; exact rfl; (first | exact wx_i64 (by omega) | exact wx_u8 (by omega) | exact wx_u64 (by omega) | exact wx_u32 (by omega) | exact wx_u16 (by omega) | exact wx_b8 _ | exact rfl)) | (apply R_eqB; exact rfl; exact rfl; exact rfl; exact rfl) | (apply R_neB; exact rfl; exact rfl; exact rfl; exact rfl) | (apply R_eqS; exact rfl; exact rfl; (first | exact decide_eq_true rfl | exact decide_eq_true (by assumption) | exact decide_eq_false (by assumption) | exact rfl)) | (apply R_neS; exact rfl; exact rfl; (first | exact neS_f rfl | exact neS_f (by assumption) | exact neS_t (by assumption) | exact rfl)) | (apply R_addS; exact rfl; exact rfl; (first | omega | (simp only [List.length_take, List.length_drop, List.length_append, List.length_cons, List.length_nil, List.length_map, List.length_replicate]; omega))) | (apply R_eqA; exact rfl; exact rfl; exact rfl; exact rfl; (first | exact rfl | kernel_rfl); (first | exact rfl | kernel_rfl); (first | exact rfl | kernel_rfl); (first | exact Bc.self _ | exact Bc.zero | exact Bc.lit _ rfl); (first | exact Bc.self _ | exact Bc.zero | exact Bc.lit _ rfl); (first | exact Bc.self _ | exact Bc.zero | exact Bc.lit _ rfl); (first | exact Bc.self _ | exact Bc.zero | exact Bc.lit _ rfl); (first | exact Bc.self _ | exact Bc.zero | exact Bc.lit _ rfl); (first | exact Bc.self _ | exact Bc.zero | exact Bc.lit _ rfl); (first | exact Bc.self _ | exact Bc.zero | exact Bc.lit _ rfl); (first | exact Bc.self _ | exact Bc.zero | exact Bc.lit _ rfl); (first | exact Bc.self _ | exact Bc.zero | exact Bc.lit _ rfl); (first | exact Bc.self _ | exact Bc.zero | exact Bc.lit _ rfl); (first | exact Bc.self _ | exact Bc.zero | exact Bc.lit _ rfl); (first | exact Bc.self _ | exact Bc.zero | exact Bc.lit _ rfl); (first | exact decide_eq_true (by assumption) | exact decide_eq_false (by assumption) | exact decide_eq_true rfl | exact decide_eq_false (by decide) | exact rfl)) | (apply R_neA; exact rfl; exact rfl; exact rfl; exact rfl; (first | exact rfl | kernel_rfl); (first | exact rfl | kernel_rfl); (first | exact rfl | kernel_rfl); (first | exact Bc.self _ | exact Bc.zero | exact Bc.lit _ rfl); (first | exact Bc.self _ | exact Bc.zero | exact Bc.lit _ rfl); (first | exact Bc.self _ | exact Bc.zero | exact Bc.lit _ rfl); (first | exact Bc.self _ | exact Bc.zero | exact Bc.lit _ rfl); (first | exact Bc.self _ | exact Bc.zero | exact Bc.lit _ rfl); (first | exact Bc.self _ | exact Bc.zero | exact Bc.lit _ rfl); (first | exact Bc.self _ | exact Bc.zero | exact Bc.lit _ rfl); (first | exact Bc.self _ | exact Bc.zero | exact Bc.lit _ rfl); (first | exact Bc.self _ | exact Bc.zero | exact Bc.lit _ rfl); (first | exact Bc.self _ | exact Bc.zero | exact Bc.lit _ rfl); (first | exact Bc.self _ | exact Bc.zero | exact Bc.lit _ rfl); (first | exact Bc.self _ | exact Bc.zero | exact Bc.lit _ rfl); (first | exact neS_f' (by assumption) | exact neS_t' (by assumption) | exact neS_f' rfl | exact neS_t' (by decide) | exact rfl)))) | (apply G_load; (first | (apply R_load1; exact rfl; (repeat' (first | exact Pick.head _ _ | apply Pick.tail)); (intro _; exact rfl); exact rfl) | (apply R_loadN; exact rfl; (repeat' (first | exact Pick.head _ _ | apply Pick.tail)); (intro _; exact rfl); (intro _; exact rfl); exact rfl) | (apply R_loadP; exact rfl; (repeat' (first | exact mcs | apply mct)); (intro _; exact rfl); exact rfl) | (apply R_loadPN; exact rfl; (repeat' (first | exact mcs | apply mct)); (intro _; exact rfl); (intro _; exact rfl)) | (apply R_loadPT; exact rfl; (repeat' (first | exact mcs | apply mct)); (intro _; exact rfl); (intro _; exact rfl); exact rfl) | (apply R_loadPO; exact rfl; (repeat' (first | exact mcs | apply mct)); (intro _; exact rfl); exact rfl) | (apply R_loadPON; exact rfl; (repeat' (first | exact mcs | apply mct)); (intro _; exact rfl); (intro _; exact rfl); exact rfl) | (apply R_loadRow; exact rfl; (repeat' (first | exact Pick.head _ _ | apply Pick.tail)); (intro _; exact rfl); (first | omega | (simp only [List.length_take, List.length_drop, List.length_append, List.length_cons, List.length_nil, List.length_map, List.length_replicate]; omega)); (assumption)) | (apply R_loadRowF; exact rfl; (repeat' (first | exact Pick.head _ _ | apply Pick.tail)); (intro _; exact rfl); (assumption)))) | (apply R_fieldO0; exact rfl; exact rfl; exact rfl; (intro _; exact rfl); exact rfl) | (apply R_fieldO; exact rfl; exact rfl; exact rfl; (intro _; exact rfl); exact rfl) | (apply R_not; exact rfl; exact rfl) | (apply G_call; (first | (apply R_lenBy; exact rfl; (repeat' (first | exact mcs | apply mct)); exact rfl) | (apply R_lenRow; exact rfl; (repeat' (first | exact Pick.head _ _ | apply Pick.tail)); exact rfl) | (apply R_lenSl; exact rfl; (repeat' (first | exact mcs | apply mct)); exact rfl) | (apply R_lenRw; exact rfl; (repeat' (first | exact mcs | apply mct)); exact rfl) | (apply R_lenNil; exact rfl; exact rfl) | (apply R_max2; exact rfl; exact rfl; (first | exact if_pos (by omega) | exact if_neg (by omega))) | (apply R_min2; exact rfl; exact rfl; (first | exact if_pos (by omega) | exact if_neg (by omega))))) | (apply R_convi; exact rfl; exact rfl; exact rfl; (first | exact wx_i64 (by omega) | exact wx_u8 (by omega) | exact wx_u64 (by omega) | exact wx_u32 (by omega) | exact wx_u16 (by omega) | exact wx_b8 _ | exact rfl)) | (apply R_toStr; exact rfl; (repeat' (first | exact mcs | apply mct)); exact rfl; exact rfl; exact rfl) | (apply R_toStrRow; exact rfl; (repeat' (first | exact Pick.head _ _ | apply Pick.tail)); (first | exact nil_map | exact one_map _ | exact two_map _ _ | exact rfl); exact rfl; exact rfl; exact rfl) | (apply R_build; exact rfl; (focus (repeat (first | apply PartsE.nil | (apply PartsE.cons; (focus (first | (apply CellsE.lit; exact rfl) | (apply CellsE.one; (first | (apply OneC.lit; exact rfl) | (apply OneC.by_; (repeat' (first | exact mcs | apply mct)); done) | (apply OneC.sl; (repeat' (first | exact mcs | apply mct)); done) | (apply OneC.rw; (repeat' (first | exact mcs | apply mct)); done) | (apply OneC.row; (repeat' (first | exact Pick.head _ _ | apply Pick.tail))))))))))); (intro _; exact rfl); exact rfl; exact rfl; (intro _; go_simp; exact rfl); exact rfl) | (apply R_buildArr; exact rfl; (focus (repeat (first | apply SeqE.nil | (apply SeqE.cons; exact rfl; (focus (first | (apply CellsE.lit; exact rfl) | (apply CellsE.one; (first | (apply OneC.lit; exact rfl) | (apply OneC.by_; (repeat' (first | exact mcs | apply mct)); done) | (apply OneC.sl; (repeat' (first | exact mcs | apply mct)); done) | (apply OneC.rw; (repeat' (first | exact mcs | apply mct)); done) | (apply OneC.row; (repeat' (first | exact Pick.head _ _ | apply Pick.tail))))))); exact rfl) | exact rfl))); (intro _; exact rfl); exact rfl; exact rfl; (intro _; exact rfl); exact rfl; exact rfl) | (apply R_field1; exact rfl; exact rfl; exact rfl; (intro _; exact rfl); exact rfl) | (apply R_fieldN; exact rfl; exact rfl; exact rfl; (intro _; exact rfl); (intro _; exact rfl); exact rfl) | (apply R_nilCheck; exact rfl) | (apply R_makeFunc; exact rfl) | (apply R_makeFunc1; exact rfl) | (apply R_idxRow; exact rfl; exact rfl; (repeat' (first | exact Pick.head _ _ | apply Pick.tail)); exact rfl; (intro _; exact rfl); (focus (first | exact lit0 | exact lit1 | exact lit2 | exact lit3 | exact lit4 | exact lit5 | exact lit6 | exact lit7 | exact lit8 | exact rfl | (simp; done) | omega)); (first | omega | (simp only [List.length_take, List.length_drop, List.length_append, List.length_cons, List.length_nil, List.length_map, List.length_replicate]; omega))) | (apply R_fieldRow; exact rfl; (repeat' (first | exact Pick.head _ _ | apply Pick.tail)); (first | omega | (simp only [List.length_take, List.length_drop, List.length_append, List.length_cons, List.length_nil, List.length_map, List.length_replicate]; omega)); exact rfl; exact rfl; (intro _; exact rfl); exact rfl) | (apply R_idxArr; exact rfl; exact rfl; exact rfl; (intro _; exact rfl); (focus (first | exact lit0 | exact lit1 | exact lit2 | exact lit3 | exact lit4 | exact lit5 | exact lit6 | exact lit7 | exact lit8 | exact rfl | (simp; done) | omega)); (first | omega | (simp only [List.length_take, List.length_drop, List.length_append, List.length_cons, List.length_nil, List.length_map, List.length_replicate]; omega))) | (apply R_sliceArr; exact rfl; exact rfl; (intro _; exact rfl); exact rfl)))) (fun _ => (by (repeat (first | exact SubO.nil _ | (apply SubO.cons; (focus (repeat' (first | exact Pick.head _ _ | apply Pick.tail)))))))) (fun _ _ => ?_)
    repeat (first | refine p1 ?_ | refine p2 (fun b _ => ?_) | refine p3 (fun _ _ => ?_) | refine p4 ?_ | refine p5 ?_ | refine p7 (fun b => ?_) | refine PL_nil ?_)
    have hnx := putN_next hZl d1 (⟨h2, w, (f.body.drop P).take (hi - P)⟩ : Fm)
    refine PL_doL rfl rfl rfl rfl (E_storeRowN (size := 41) (us := (⟨h2, w, (f.body.drop P).take (hi - P)⟩ : Fm).cells) rfl rfl (by repeat' (first | exact Pick.head _ _ | apply Pick.tail)) (CellsE.lit rfl) (fm_ones _ (OneC.row (by repeat' (first | exact Pick.head _ _ | apply Pick.tail)))) (by intro _; exact rfl) d1 rfl hnx) (by kernel_rfl) (fun _ _ => ?_)
    refine WQ_addL ((f.body.drop P).take (hi - P)) rfl (by repeat' (first | exact Pick.head _ _ | apply Pick.tail)) (by repeat' (first | exact Pick.head _ _ | apply Pick.tail)) ?_
    have hdl : dlF D ++ [(w, (f.body.drop P).take (hi - P))] = dlF (D ++ [(⟨h2, w, (f.body.drop P).take (hi - P)⟩ : Fm)]) := dlF_snoc D (⟨h2, w, (f.body.drop P).take (hi - P)⟩ : Fm)
    have hfz : Fmz (⟨h2, w, (f.body.drop P).take (hi - P)⟩ : Fm) = (pcH f.head M D.length, pcB f.body s D.length) := by
      rw [hh5, hh2e]
      unfold Fmz pcH
      rw [show decide ((D.length : Int) < (M : Int) - 1) = decide (D.length + 1 < M) from decide_eq_decide.2 (by omega)]
    rw [hdl]
    obtain ⟨D', hD'⟩ : ∃ D', D' = D ++ [(⟨h2, w, (f.body.drop P).take (hi - P)⟩ : Fm)] := ⟨_, rfl⟩
    have hl' : D'.length = D.length + 1 := by rw [hD', List.length_append]; rfl
    have hn : D'.length ≤ M ∧ D'.map Fmz = (List.range D'.length).map (fun i => (pcH f.head M i, pcB f.body s i)) := by
      refine ⟨by omega, ?_⟩
      rw [hl', List.range_succ, List.map_append, ← hDm, hD', List.map_append, List.map_cons, hfz]
      rfl
    rw [← hD', ← hl']
    repeat (first | refine n1 ?_ | refine n2 (fun b _ => ?_) | refine n3 (fun _ _ => ?_) | refine n4 ?_ | refine n5 ?_ | refine WL_nil ?_ | refine W_seq ?_ | refine W_region ?_ | refine n7 ?_ | refine n8 ?_ | refine W_block ?_ | refine W_skip ?_ | refine W_ret ?_ | refine W_exit ?_ | refine WQ_then ?_ | refine WQ_then_ret ?_ | refine WQ_then_exit ?_ | refine WQ_block_normal ?_ | refine WQ_block_ret ?_ | refine WQ_block_exit ?_ | refine n9 ?_)
    rw [show (D.length : Int) + 1 = (D'.length : Int) by omega]
    subst hh2e
    have hms : M - ((D', (D.length : Int), decide ((D.length : Int) < (M : Int) - 1)) : List Fm × Int × Bool).1.length < M - D.length := by
      show M - D'.length < M - D.length
      omega
    clear hP1 hh1 hh2 hh3 hh4 hPc
    ((apply WQ_again ((D', (D.length : Int), decide ((D.length : Int) < (M : Int) - 1)))); (focus exact hn); (focus (omega)); (focus (repeat (first | exact FrIn.nil _ | (apply FrIn.cons; exact rfl; (first | exact rfl | (congr 1; first | omega | (dsimp only; omega)) | (simp; done)))))); (focus (repeat (first | exact SubO.nil _ | (apply SubO.cons; (focus (repeat' (first | exact Pick.head _ _ | apply Pick.tail))))))); (focus (repeat (first | exact AllE.nil _ | (apply AllE.cons; (focus (first | exact ent_nilBy | exact ent_nilSl | (apply Ent.mem; repeat' (first | exact mcs | apply mct)))))))))
  · obtain rfl : M = D.length := by omega
    repeat (first | refine n1 ?_ | refine n2 (fun b _ => ?_) | refine n3 (fun _ _ => ?_) | refine n4 ?_ | refine n5 ?_ | refine WL_nil ?_ | refine W_seq ?_ | refine W_region ?_ | refine n7 ?_ | refine n8 ?_ | refine W_block ?_ | refine W_skip ?_ | refine W_ret ?_ | refine W_exit ?_ | refine WQ_then ?_ | refine WQ_then_ret ?_ | refine WQ_then_exit ?_ | refine WQ_block_normal ?_ | refine WQ_block_ret ?_ | refine WQ_block_exit ?_ | refine n9 ?_)
    have hzd : Z.drop (D.length * 41) = [] := List.drop_eq_nil_of_le (by rw [hZl]; exact Nat.le_refl _)
    rw [hzd, List.append_nil]
    ((apply ret2 Try.results11 ( (o, D))); (focus (first | trivial | assumption | omega)); (focus (first | exact RV_tmp rfl | (apply RV_cellN; exact rfl; (repeat' (first | exact Pick.head _ _ | apply Pick.tail)); (intro _; exact rfl); (intro _; exact rfl); exact rfl) | (apply RV_cell1; exact rfl; (repeat' (first | exact Pick.head _ _ | apply Pick.tail)); (intro _; exact rfl); exact rfl))); (focus (first | exact RV_tmp rfl | (apply RV_cellN; exact rfl; (repeat' (first | exact Pick.head _ _ | apply Pick.tail)); (intro _; exact rfl); (intro _; exact rfl); exact rfl) | (apply RV_cell1; exact rfl; (repeat' (first | exact Pick.head _ _ | apply Pick.tail)); (intro _; exact rfl); exact rfl)));  (focus (first | exact rfl | (simp; done))); (focus (repeat (first | exact SubO.nil _ | (apply SubO.cons; (focus (repeat' (first | exact Pick.head _ _ | apply Pick.tail))))))); (focus (repeat (first | exact AllE.nil _ | (apply AllE.cons; (focus (first | exact ent_nilBy | exact ent_nilSl | (apply Ent.mem; repeat' (first | exact mcs | apply mct)))))))))
end Go.Proofs.Ytglmcnjkcmbefaa
