/-
  Collectors: 'sound'; what is collected.
-/
import Derived.Test.YtglmcnjkcmbefaaVIg
import Derived.Test.YtglmcnjkcmbefaaXd
namespace Go.Proofs.Ytglmcnjkcmbefaa
open Go Go.RowKit Go.Hs C05
theorem snd_cut (h : Hd) (b : List UInt8) : encE h (b.take 2304) = if sndB h b = true then 0 else 8 := by
  unfold encE sndB
  have e : decide (0 < (b.take 2304).length) = decide (0 < b.length) := by
    rw [List.length_take]
    by_cases c : 0 < b.length
    · rw [decide_eq_true c, decide_eq_true (by omega)]
    · rw [decide_eq_false c, decide_eq_false (by omega)]
  rw [e]
  by_cases c : (hdB h && !(barB h && decide (0 < b.length))) = true
  · rw [if_pos c, if_pos c, if_neg (by rw [List.length_take]; omega)]
  · rw [if_neg c, if_neg c]
/-- what a call comes to. -/
structure CR where
  e : Int
  done : Bool
  wh : Hd
  wb : List UInt8
  nl : List Pz
def badR (e : Int) : CR := ⟨e, false, h0_, [], []⟩
def inS (h : Hd) (p : Pz) : Bool := decide (stP p = stO h)
def whH (h : Hd) : Hd := { h with more := false, retry := false }
/-- the oldest. -/
def mnZ : Int → List Pz → Int
  | m, [] => m
  | m, x :: r => mnZ (if x.since - m < 0 then x.since else m) r
def minZ (k : List Pz) : Int := mnZ (k.getD 0 ⟨h0_, 0, [], 0⟩).since (k.drop 1)
def oldI (k : List Pz) : Nat := (idxQ k.length (fun i => decide ((k.getD i ⟨h0_, 0, [], 0⟩).since = minZ k))).toNat
def roomL (k : List Pz) : List Pz := if k.length = 8 then k.eraseIdx (oldI k) else k
def colF (k : List Pz) (h : Hd) (b : List UInt8) (now : Int) : CR :=
  if h.more = true then ⟨0, false, h0_, [], roomL k ++ [⟨h, 1, b, now⟩]⟩ else ⟨0, true, whH h, b, k⟩
def colN (p : Pz) (k : List Pz) (h : Hd) (b : List UInt8) : CR :=
  if ¬ p.head.seq = h.seq then badR 6
  else if h.frag < p.next then badR 21
  else if p.next < h.frag then badR 20
  else if 2304 < p.body.length + b.length then badR 11
  else if h.more = true then ⟨0, false, h0_, [], k.map fun q => if inS h q = true then ⟨q.head, q.next + 1, q.body ++ b, q.since⟩ else q⟩
  else ⟨0, true, whH p.head, p.body ++ b, k.filter fun q => !inS h q⟩
def colG (k : List Pz) (h : Hd) (b : List UInt8) (now : Int) : CR :=
  if h.frag = 0 then colF (k.filter fun q => !inS h q) h b now
  else match k.find? (inS h) with
    | none => badR 6
    | some p => colN p k h b
def colR (l : List Pz) (h : Hd) (b : List UInt8) (now : Int) : CR :=
  if ¬ exE l now = 0 then badR (exE l now)
  else if sndB h b = false ∨ 2304 < b.length then badR 8
  else if h.kind.toNat = 1 then badR 2
  else colG (exL l now) h b now
attribute [local irreducible] WL W WQ PL Runs Effs AllE Ent SubO FrIn Pick OneC Ones CellsE PartsE SeqE UZ By Sl Pt Ct

set_option maxRecDepth 100000 in
set_option maxHeartbeats 8000000 in
theorem sound_fn (f : Fm) (hw : f.head.w) (hb : f.body.length ≤ 100000) : CtD Try.prog 24 [f.val] [f.fact] (.bool (sndB f.head f.body)) := by
  have he := fun v => encode_fn ⟨f.head, v, f.body.take 2304⟩ hw (by rw [List.length_take]; omega)
  simp only [snd_cut] at he
  by_cases c : 2304 < f.body.length
  · refine Ct_intro Try.func24 rfl Try.ntmps24 (by simp) _ rfl (fun w0 O0 => ?_)
    repeat (first | refine n1 ?_ | refine n2 (fun b _ => ?_) | refine n3 (fun _ _ => ?_) | refine n4 ?_ | refine n5 ?_ | refine WL_nil ?_ | refine W_seq ?_ | refine W_region ?_ | refine n7 ?_ | refine n8 ?_ | refine W_block ?_ | refine W_skip ?_ | refine W_ret ?_ | refine W_exit ?_ | refine WQ_then ?_ | refine WQ_then_ret ?_ | refine WQ_then_exit ?_ | refine WQ_block_normal ?_ | refine WQ_block_ret ?_ | refine WQ_block_exit ?_ | refine n9 ?_)
    cases hs : sndB f.head f.body with
    | true =>
      rw [hs] at he
      (apply WL_effs; exact rfl; exact rfl; exact rfl; apply E_call; exact rfl; (intro _ _; simp); (exact he (cutV 1 0 2304 f.bv)); (repeat (first | exact AllE.nil _ | (apply AllE.cons; (focus (first | exact ent_nilBy | exact ent_nilSl | (apply Ent.mem; repeat' (first | exact mcs | apply mct))))))); (intro _; exact rfl); (intro _; exact rfl))
      intro x _
      repeat (first | refine n1 ?_ | refine n2 (fun b _ => ?_) | refine n3 (fun _ _ => ?_) | refine n4 ?_ | refine n5 ?_ | refine WL_nil ?_ | refine W_seq ?_ | refine W_region ?_ | refine n7 ?_ | refine n8 ?_ | refine W_block ?_ | refine W_skip ?_ | refine W_ret ?_ | refine W_exit ?_ | refine WQ_then ?_ | refine WQ_then_ret ?_ | refine WQ_then_exit ?_ | refine WQ_block_normal ?_ | refine WQ_block_ret ?_ | refine WQ_block_exit ?_ | refine n9 ?_)
      ((apply ret1 Try.results24 ( ())); (focus (first | trivial | assumption | omega)); (focus (first | exact RV_tmp rfl | (apply RV_cellN; exact rfl; (repeat' (first | exact Pick.head _ _ | apply Pick.tail)); (intro _; exact rfl); (intro _; exact rfl); exact rfl) | (apply RV_cell1; exact rfl; (repeat' (first | exact Pick.head _ _ | apply Pick.tail)); (intro _; exact rfl); exact rfl)));  (focus (first | exact rfl | (simp; done))); (focus (repeat (first | exact SubO.nil _ | (apply SubO.cons; (focus (repeat' (first | exact Pick.head _ _ | apply Pick.tail))))))); (focus (repeat (first | exact AllE.nil _ | (apply AllE.cons; (focus (first | exact ent_nilBy | exact ent_nilSl | (apply Ent.mem; repeat' (first | exact mcs | apply mct)))))))))
    | false =>
      rw [hs] at he
      (apply WL_effs; exact rfl; exact rfl; exact rfl; apply E_call; exact rfl; (intro _ _; simp); (exact he (cutV 1 0 2304 f.bv)); (repeat (first | exact AllE.nil _ | (apply AllE.cons; (focus (first | exact ent_nilBy | exact ent_nilSl | (apply Ent.mem; repeat' (first | exact mcs | apply mct))))))); (intro _; exact rfl); (intro _; exact rfl))
      intro x _
      repeat (first | refine n1 ?_ | refine n2 (fun b _ => ?_) | refine n3 (fun _ _ => ?_) | refine n4 ?_ | refine n5 ?_ | refine WL_nil ?_ | refine W_seq ?_ | refine W_region ?_ | refine n7 ?_ | refine n8 ?_ | refine W_block ?_ | refine W_skip ?_ | refine W_ret ?_ | refine W_exit ?_ | refine WQ_then ?_ | refine WQ_then_ret ?_ | refine WQ_then_exit ?_ | refine WQ_block_normal ?_ | refine WQ_block_ret ?_ | refine WQ_block_exit ?_ | refine n9 ?_)
      ((apply ret1 Try.results24 ( ())); (focus (first | trivial | assumption | omega)); (focus (first | exact RV_tmp rfl | (apply RV_cellN; exact rfl; (repeat' (first | exact Pick.head _ _ | apply Pick.tail)); (intro _; exact rfl); (intro _; exact rfl); exact rfl) | (apply RV_cell1; exact rfl; (repeat' (first | exact Pick.head _ _ | apply Pick.tail)); (intro _; exact rfl); exact rfl)));  (focus (first | exact rfl | (simp; done))); (focus (repeat (first | exact SubO.nil _ | (apply SubO.cons; (focus (repeat' (first | exact Pick.head _ _ | apply Pick.tail))))))); (focus (repeat (first | exact AllE.nil _ | (apply AllE.cons; (focus (first | exact ent_nilBy | exact ent_nilSl | (apply Ent.mem; repeat' (first | exact mcs | apply mct)))))))))
  · rw [List.take_of_length_le (by omega)] at he
    cases hs : sndB f.head f.body with
    | true =>
      rw [hs] at he
      refine Ct_intro Try.func24 rfl Try.ntmps24 (by simp) _ rfl (fun w0 O0 => ?_)
      repeat (first | refine n1 ?_ | refine n2 (fun b _ => ?_) | refine n3 (fun _ _ => ?_) | refine n4 ?_ | refine n5 ?_ | refine WL_nil ?_ | refine W_seq ?_ | refine W_region ?_ | refine n7 ?_ | refine n8 ?_ | refine W_block ?_ | refine W_skip ?_ | refine W_ret ?_ | refine W_exit ?_ | refine WQ_then ?_ | refine WQ_then_ret ?_ | refine WQ_then_exit ?_ | refine WQ_block_normal ?_ | refine WQ_block_ret ?_ | refine WQ_block_exit ?_ | refine n9 ?_)
      (apply WL_effs; exact rfl; exact rfl; exact rfl; apply E_call; exact rfl; (intro _ _; simp); exact he f.bv; (repeat (first | exact AllE.nil _ | (apply AllE.cons; (focus (first | exact ent_nilBy | exact ent_nilSl | (apply Ent.mem; repeat' (first | exact mcs | apply mct))))))); (intro _; exact rfl); (intro _; exact rfl))
      intro x _
      repeat (first | refine n1 ?_ | refine n2 (fun b _ => ?_) | refine n3 (fun _ _ => ?_) | refine n4 ?_ | refine n5 ?_ | refine WL_nil ?_ | refine W_seq ?_ | refine W_region ?_ | refine n7 ?_ | refine n8 ?_ | refine W_block ?_ | refine W_skip ?_ | refine W_ret ?_ | refine W_exit ?_ | refine WQ_then ?_ | refine WQ_then_ret ?_ | refine WQ_then_exit ?_ | refine WQ_block_normal ?_ | refine WQ_block_ret ?_ | refine WQ_block_exit ?_ | refine n9 ?_)
      ((apply ret1 Try.results24 ( ())); (focus (first | trivial | assumption | omega)); (focus (first | exact RV_tmp rfl | (apply RV_cellN; exact rfl; (repeat' (first | exact Pick.head _ _ | apply Pick.tail)); (intro _; exact rfl); (intro _; exact rfl); exact rfl) | (apply RV_cell1; exact rfl; (repeat' (first | exact Pick.head _ _ | apply Pick.tail)); (intro _; exact rfl); exact rfl)));  (focus (first | exact rfl | (simp; done))); (focus (repeat (first | exact SubO.nil _ | (apply SubO.cons; (focus (repeat' (first | exact Pick.head _ _ | apply Pick.tail))))))); (focus (repeat (first | exact AllE.nil _ | (apply AllE.cons; (focus (first | exact ent_nilBy | exact ent_nilSl | (apply Ent.mem; repeat' (first | exact mcs | apply mct)))))))))
    | false =>
      rw [hs] at he
      refine Ct_intro Try.func24 rfl Try.ntmps24 (by simp) _ rfl (fun w0 O0 => ?_)
      repeat (first | refine n1 ?_ | refine n2 (fun b _ => ?_) | refine n3 (fun _ _ => ?_) | refine n4 ?_ | refine n5 ?_ | refine WL_nil ?_ | refine W_seq ?_ | refine W_region ?_ | refine n7 ?_ | refine n8 ?_ | refine W_block ?_ | refine W_skip ?_ | refine W_ret ?_ | refine W_exit ?_ | refine WQ_then ?_ | refine WQ_then_ret ?_ | refine WQ_then_exit ?_ | refine WQ_block_normal ?_ | refine WQ_block_ret ?_ | refine WQ_block_exit ?_ | refine n9 ?_)
      (apply WL_effs; exact rfl; exact rfl; exact rfl; apply E_call; exact rfl; (intro _ _; simp); exact he f.bv; (repeat (first | exact AllE.nil _ | (apply AllE.cons; (focus (first | exact ent_nilBy | exact ent_nilSl | (apply Ent.mem; repeat' (first | exact mcs | apply mct))))))); (intro _; exact rfl); (intro _; exact rfl))
      intro x _
      repeat (first | refine n1 ?_ | refine n2 (fun b _ => ?_) | refine n3 (fun _ _ => ?_) | refine n4 ?_ | refine n5 ?_ | refine WL_nil ?_ | refine W_seq ?_ | refine W_region ?_ | refine n7 ?_ | refine n8 ?_ | refine W_block ?_ | refine W_skip ?_ | refine W_ret ?_ | refine W_exit ?_ | refine WQ_then ?_ | refine WQ_then_ret ?_ | refine WQ_then_exit ?_ | refine WQ_block_normal ?_ | refine WQ_block_ret ?_ | refine WQ_block_exit ?_ | refine n9 ?_)
      ((apply ret1 Try.results24 ( ())); (focus (first | trivial | assumption | omega)); (focus (first | exact RV_tmp rfl | (apply RV_cellN; exact rfl; (repeat' (first | exact Pick.head _ _ | apply Pick.tail)); (intro _; exact rfl); (intro _; exact rfl); exact rfl) | (apply RV_cell1; exact rfl; (repeat' (first | exact Pick.head _ _ | apply Pick.tail)); (intro _; exact rfl); exact rfl)));  (focus (first | exact rfl | (simp; done))); (focus (repeat (first | exact SubO.nil _ | (apply SubO.cons; (focus (repeat' (first | exact Pick.head _ _ | apply Pick.tail))))))); (focus (repeat (first | exact AllE.nil _ | (apply AllE.cons; (focus (first | exact ent_nilBy | exact ent_nilSl | (apply Ent.mem; repeat' (first | exact mcs | apply mct)))))))))
end Go.Proofs.Ytglmcnjkcmbefaa
