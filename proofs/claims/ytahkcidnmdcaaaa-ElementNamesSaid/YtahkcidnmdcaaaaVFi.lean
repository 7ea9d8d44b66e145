/-
  The program's Find.
-/
import Derived.Test.YtahkcidnmdcaaaaVFh
import Derived.Test.YtahkcidnmdcaaaaXb
namespace Go.Proofs.Ytahkcidnmdcaaaa
open Go Go.RowKit Go.Hs
attribute [local irreducible] WL W WQ PL Runs Effs AllE Ent SubO FrIn Pick OneC Ones CellsE PartsE SeqE UZ By Sl Pt Ct

def isB (a b id ext : UInt8) : Bool := decide (a = id) && decide (b = ext)
def fidx : Fo → UInt8 → UInt8 → Option Nat
  | .nil, _, _ => none
  | .cons a b _ _ next, id, ext => if isB a b id ext then some 0 else (fidx next id ext).map (· + 1)
def idxI : Option Nat → Int
  | some k => (k : Int)
  | none => -1
/-- the first element with an Id and an Ext, alone in a list. -/
def fE : Fo → UInt8 → UInt8 → Fo
  | .nil, _, _ => .nil
  | .cons a b d s next, id, ext => if isB a b id ext then .cons a b d s .nil else fE next id ext
def fR (t : Fo) (id ext : UInt8) : Fo × Bool := if isN (fE t id ext) then (.cons 0 0 [] .nil .nil, false) else (fE t id ext, true)

theorem fidx_drop : ∀ {t : T} {k : Nat} {id ext : UInt8}, (∀ j a b dv d sv s n, j < k → t.drop j = .cons a b dv d sv s n → isB a b id ext = false) → fidx t.er id ext = (fidx (t.drop k).er id ext).map (· + k)
  | t, 0, id, ext, _ => by
    show fidx t.er id ext = (fidx t.er id ext).map (· + 0)
    cases fidx t.er id ext <;> rfl
  | .nil, k + 1, id, ext, _ => rfl
  | .cons a b dv d sv s n, k + 1, id, ext, h => by
    have h0 := h 0 a b dv d sv s n (by omega) rfl
    have ih := fidx_drop (t := n) (k := k) (id := id) (ext := ext) fun j a b dv d sv s m hj e => h (j + 1) a b dv d sv s m (by omega) e
    simp only [T.er, fidx, T.drop, h0]
    rw [ih]
    cases fidx (T.drop k n).er id ext with
    | none => rfl
    | some i => simp; omega
theorem fidx_some : ∀ {t : T} {k : Nat} {id ext : UInt8}, fidx t.er id ext = some k → ∃ a b dv d sv s n, t.drop k = .cons a b dv d sv s n ∧ fE t.er id ext = .cons a b d s.er .nil
  | .nil, k, id, ext, h => by cases h
  | .cons a b dv d sv s n, k, id, ext, h => by
    simp only [T.er, fidx] at h
    split at h
    · next h0 =>
      injection h with h
      subst h
      exact ⟨a, b, dv, d, sv, s, n, rfl, by simp only [T.er, fE, h0, if_true]⟩
    · next h0 =>
      cases hn : fidx n.er id ext with
      | none => rw [hn] at h; cases h
      | some i =>
        rw [hn] at h
        injection h with h
        subst h
        obtain ⟨a', b', dv', d', sv', s', n', e1, e2⟩ := fidx_some (t := n) hn
        exact ⟨a', b', dv', d', sv', s', n', e1, by simp only [T.er, fE, if_neg h0, e2]⟩
theorem fidx_none : ∀ {t : T} {id ext : UInt8}, fidx t.er id ext = none → fE t.er id ext = .nil
  | .nil, _, _, _ => rfl
  | .cons a b dv d sv s n, id, ext, h => by
    simp only [T.er, fidx] at h
    split at h
    · cases h
    · next h0 =>
      cases hn : fidx n.er id ext with
      | some i => rw [hn] at h; cases h
      | none => simp only [T.er, fE, if_neg h0, fidx_none (t := n) hn]

theorem drop_ge : ∀ (t : T) (k : Nat), t.len ≤ k → t.drop k = .nil
  | .nil, k, _ => T.drop_nil k
  | .cons _ _ _ _ _ _ n, 0, h => by simp [T.len] at h
  | .cons _ _ _ _ _ _ n, k + 1, h => drop_ge n k (by simp only [T.len] at h; omega)

set_option maxRecDepth 100000 in
theorem is_fn (id ext : UInt8) : Ct Try.prog 39 [bcell id, bcell ext] [] [] (X := Nat × Nat) (fun _ => True)
    (fun x => .func (.func 56) #[] #[.pointer (some ⟨x.1, 0, none⟩), .pointer (some ⟨x.2, 0, none⟩)]) (fun _ => []) (fun x => [Pt (.pointer (some ⟨x.1, 0, none⟩)) [bcell id], Pt (.pointer (some ⟨x.2, 0, none⟩)) [bcell ext]]) := by
  refine Ct_intro Try.func39 rfl Try.ntmps39 (by simp) _ rfl (fun w0 O0 => ?_)
  refine W_seq (W_region ?_)
  (first | refine n1 ?_ | refine n2 (fun b _ => ?_) | refine n3 (fun _ _ => ?_) | refine n4 ?_ | refine n5 ?_ | refine WL_nil ?_ | refine W_seq ?_ | refine W_region ?_ | refine n7 ?_ | refine n8 ?_ | refine W_block ?_ | refine W_skip ?_ | refine W_ret ?_ | refine W_exit ?_ | refine WQ_then ?_ | refine WQ_then_ret ?_ | refine WQ_then_exit ?_ | refine WQ_block_normal ?_ | refine WQ_block_ret ?_ | refine WQ_block_exit ?_ | refine n9 ?_)
  obtain ⟨b1, rfl⟩ : ∃ b1, b1 = b := ⟨b, rfl⟩
  (first | refine n1 ?_ | refine n2 (fun b _ => ?_) | refine n3 (fun _ _ => ?_) | refine n4 ?_ | refine n5 ?_ | refine WL_nil ?_ | refine W_seq ?_ | refine W_region ?_ | refine n7 ?_ | refine n8 ?_ | refine W_block ?_ | refine W_skip ?_ | refine W_ret ?_ | refine W_exit ?_ | refine WQ_then ?_ | refine WQ_then_ret ?_ | refine WQ_then_exit ?_ | refine WQ_block_normal ?_ | refine WQ_block_ret ?_ | refine WQ_block_exit ?_ | refine n9 ?_)
  obtain ⟨b2, rfl⟩ : ∃ b2, b2 = b := ⟨b, rfl⟩
  repeat (first | refine n1 ?_ | refine n2 (fun b _ => ?_) | refine n3 (fun _ _ => ?_) | refine n4 ?_ | refine n5 ?_ | refine WL_nil ?_ | refine W_seq ?_ | refine W_region ?_ | refine n7 ?_ | refine n8 ?_ | refine W_block ?_ | refine W_skip ?_ | refine W_ret ?_ | refine W_exit ?_ | refine WQ_then ?_ | refine WQ_then_ret ?_ | refine WQ_then_exit ?_ | refine WQ_block_normal ?_ | refine WQ_block_ret ?_ | refine WQ_block_exit ?_ | refine n9 ?_)
  refine WQ_letgoK (b := b1) (by repeat' (first | exact Pick.head _ _ | apply Pick.tail)) (WQ_letgoK (b := b2) (by repeat' (first | exact Pick.head _ _ | apply Pick.tail)) ?_)
  ((apply ret1 Try.results39 ( (b1, b2))); (focus (first | trivial | assumption | omega)); (focus (first | exact RV_tmp rfl | (apply RV_cellN; exact rfl; (repeat' (first | exact Pick.head _ _ | apply Pick.tail)); (intro _; exact rfl); (intro _; exact rfl); exact rfl) | (apply RV_cell1; exact rfl; (repeat' (first | exact Pick.head _ _ | apply Pick.tail)); (intro _; exact rfl); exact rfl)));  (focus (first | exact rfl | (simp; done))); (focus (repeat (first | exact SubO.nil _ | (apply SubO.cons; (focus (repeat' (first | exact Pick.head _ _ | apply Pick.tail))))))); (focus (repeat (first | exact AllE.nil _ | (apply AllE.cons; (focus (first | exact ent_nilBy | exact ent_nilSl | (apply Ent.mem; repeat' (first | exact mcs | apply mct)))))))))

set_option maxRecDepth 100000 in
theorem is1_fn (a b id ext : UInt8) (dv sv : Value) (b1 b2 : Nat) : CtD Try.prog 56 [.agg #[bcell a, bcell b, dv, sv], .pointer (some ⟨b1, 0, none⟩), .pointer (some ⟨b2, 0, none⟩)] [Pt (.pointer (some ⟨b1, 0, none⟩)) [bcell id], Pt (.pointer (some ⟨b2, 0, none⟩)) [bcell ext]] (.bool (isB a b id ext)) := by
  by_cases h1 : a = id
  · subst h1
    by_cases h2 : b = ext
    · subst h2
      rw [show isB a b a b = true by simp [isB]]
      refine Ct_intro Try.func56 rfl Try.ntmps56 (by simp) _ rfl (fun w0 O0 => ?_)
      repeat (first | refine n1 ?_ | refine n2 (fun b _ => ?_) | refine n3 (fun _ _ => ?_) | refine n4 ?_ | refine n5 ?_ | refine WL_nil ?_ | refine W_seq ?_ | refine W_region ?_ | refine n7 ?_ | refine n8 ?_ | refine W_block ?_ | refine W_skip ?_ | refine W_ret ?_ | refine W_exit ?_ | refine WQ_then ?_ | refine WQ_then_ret ?_ | refine WQ_then_exit ?_ | refine WQ_block_normal ?_ | refine WQ_block_ret ?_ | refine WQ_block_exit ?_ | refine n9 ?_)
      ((apply ret1 Try.results56 ( ())); (focus (first | trivial | assumption | omega)); (focus (first | exact RV_tmp rfl | (apply RV_cellN; exact rfl; (repeat' (first | exact Pick.head _ _ | apply Pick.tail)); (intro _; exact rfl); (intro _; exact rfl); exact rfl) | (apply RV_cell1; exact rfl; (repeat' (first | exact Pick.head _ _ | apply Pick.tail)); (intro _; exact rfl); exact rfl)));  (focus (first | exact rfl | (simp; done))); (focus (repeat (first | exact SubO.nil _ | (apply SubO.cons; (focus (repeat' (first | exact Pick.head _ _ | apply Pick.tail))))))); (focus (repeat (first | exact AllE.nil _ | (apply AllE.cons; (focus (first | exact ent_nilBy | exact ent_nilSl | (apply Ent.mem; repeat' (first | exact mcs | apply mct)))))))))
    · rw [show isB a b a ext = false by simp [isB, h2]]
      have h2' : ¬ b.toNat = ext.toNat := fun h => h2 (UInt8.toNat_inj.1 h)
      refine Ct_intro Try.func56 rfl Try.ntmps56 (by simp) _ rfl (fun w0 O0 => ?_)
      repeat (first | refine n1 ?_ | refine n2 (fun b _ => ?_) | refine n3 (fun _ _ => ?_) | refine n4 ?_ | refine n5 ?_ | refine WL_nil ?_ | refine W_seq ?_ | refine W_region ?_ | refine n7 ?_ | refine n8 ?_ | refine W_block ?_ | refine W_skip ?_ | refine W_ret ?_ | refine W_exit ?_ | refine WQ_then ?_ | refine WQ_then_ret ?_ | refine WQ_then_exit ?_ | refine WQ_block_normal ?_ | refine WQ_block_ret ?_ | refine WQ_block_exit ?_ | refine n9 ?_)
      ((apply ret1 Try.results56 ( ())); (focus (first | trivial | assumption | omega)); (focus (first | exact RV_tmp rfl | (apply RV_cellN; exact rfl; (repeat' (first | exact Pick.head _ _ | apply Pick.tail)); (intro _; exact rfl); (intro _; exact rfl); exact rfl) | (apply RV_cell1; exact rfl; (repeat' (first | exact Pick.head _ _ | apply Pick.tail)); (intro _; exact rfl); exact rfl)));  (focus (first | exact rfl | (simp; done))); (focus (repeat (first | exact SubO.nil _ | (apply SubO.cons; (focus (repeat' (first | exact Pick.head _ _ | apply Pick.tail))))))); (focus (repeat (first | exact AllE.nil _ | (apply AllE.cons; (focus (first | exact ent_nilBy | exact ent_nilSl | (apply Ent.mem; repeat' (first | exact mcs | apply mct)))))))))
  · rw [show isB a b id ext = false by simp [isB, h1]]
    have h1' : ¬ a.toNat = id.toNat := fun h => h1 (UInt8.toNat_inj.1 h)
    refine Ct_intro Try.func56 rfl Try.ntmps56 (by simp) _ rfl (fun w0 O0 => ?_)
    repeat (first | refine n1 ?_ | refine n2 (fun b _ => ?_) | refine n3 (fun _ _ => ?_) | refine n4 ?_ | refine n5 ?_ | refine WL_nil ?_ | refine W_seq ?_ | refine W_region ?_ | refine n7 ?_ | refine n8 ?_ | refine W_block ?_ | refine W_skip ?_ | refine W_ret ?_ | refine W_exit ?_ | refine WQ_then ?_ | refine WQ_then_ret ?_ | refine WQ_then_exit ?_ | refine WQ_block_normal ?_ | refine WQ_block_ret ?_ | refine WQ_block_exit ?_ | refine n9 ?_)
    ((apply ret1 Try.results56 ( ())); (focus (first | trivial | assumption | omega)); (focus (first | exact RV_tmp rfl | (apply RV_cellN; exact rfl; (repeat' (first | exact Pick.head _ _ | apply Pick.tail)); (intro _; exact rfl); (intro _; exact rfl); exact rfl) | (apply RV_cell1; exact rfl; (repeat' (first | exact Pick.head _ _ | apply Pick.tail)); (intro _; exact rfl); exact rfl)));  (focus (first | exact rfl | (simp; done))); (focus (repeat (first | exact SubO.nil _ | (apply SubO.cons; (focus (repeat' (first | exact Pick.head _ _ | apply Pick.tail))))))); (focus (repeat (first | exact AllE.nil _ | (apply AllE.cons; (focus (first | exact ent_nilBy | exact ent_nilSl | (apply Ent.mem; repeat' (first | exact mcs | apply mct)))))))))

set_option maxRecDepth 100000 in
set_option maxHeartbeats 4000000 in
theorem index_fn (t : T) (v : Value) (id ext : UInt8) (b1 b2 : Nat) : CtD Try.prog 38 [v, .func (.func 56) #[] #[.pointer (some ⟨b1, 0, none⟩), .pointer (some ⟨b2, 0, none⟩)]]
    [Rw 4 v t.len t.at_, Pt (.pointer (some ⟨b1, 0, none⟩)) [bcell id], Pt (.pointer (some ⟨b2, 0, none⟩)) [bcell ext]] (.int .i64 (idxI (fidx t.er id ext))) := by
  refine Ct_intro Try.func38 rfl Try.ntmps38 (by simp) _ rfl (fun w0 O0 => ?_)
  refine W_pure (rw_le (n := t.len) (by repeat' (first | exact mcs | apply mct))) fun hle => ?_
  repeat (first | refine n1 ?_ | refine n2 (fun b _ => ?_) | refine n3 (fun _ _ => ?_) | refine n4 ?_ | refine n5 ?_ | refine WL_nil ?_ | refine W_seq ?_ | refine W_region ?_ | refine n7 ?_ | refine n8 ?_ | refine W_block ?_ | refine W_skip ?_ | refine W_ret ?_ | refine W_exit ?_ | refine WQ_then ?_ | refine WQ_then_ret ?_ | refine WQ_then_exit ?_ | refine WQ_block_normal ?_ | refine WQ_block_ret ?_ | refine WQ_block_exit ?_ | refine n9 ?_)
  ((apply W_loopK (X := Nat) [8, 5] [] (fun x => x ≤ t.len ∧ ∀ j a b dv d sv s n, j < x → t.drop j = .cons a b dv d sv s n → isB a b id ext = false) (fun x => [(8, .int .i64 (x : Int))]) (fun _ => []) (fun _ => []) (fun x => t.len - x) (0)); (focus (exact ⟨Nat.zero_le _, fun j a b dv d sv s n hj => absurd hj (by omega)⟩)); exact rfl; exact rfl; (intro _; exact rfl); (intro _; exact rfl); (intro _; exact rfl); (focus (repeat (first | exact FrIn.nil _ | (apply FrIn.cons; exact rfl; (first | exact rfl | (congr 1; first | omega | (dsimp only; omega)) | (simp; done)))))); (focus (repeat (first | exact SubO.nil _ | (apply SubO.cons; (focus (repeat' (first | exact Pick.head _ _ | apply Pick.tail))))))); (focus (repeat (first | exact AllE.nil _ | (apply AllE.cons; (focus (first | exact ent_nilBy | exact ent_nilSl | (apply Ent.mem; repeat' (first | exact mcs | apply mct)))))))); intro x hx)
  obtain ⟨hk, hi⟩ := hx
  have hd := fidx_drop hi
  by_cases c1 : x < t.len
  · obtain ⟨a, b, dv, data, sv, subs, next, e1⟩ := T.get c1
    have a1 := T.at_cons e1
    have hs := is1_fn a b id ext dv sv b1 b2
    cases c2 : isB a b id ext with
    | true =>
      rw [c2] at hs
      rw [e1] at hd
      simp only [T.er, fidx, c2, if_true, Option.map_some, Nat.zero_add] at hd
      rw [hd]
      repeat (first | refine n1 ?_ | refine n2 (fun b _ => ?_) | refine n3 (fun _ _ => ?_) | refine n4 ?_ | refine n5 ?_ | refine n6 (hs) ?_ | refine n6v (hs) ?_ | refine WL_nil ?_ | refine W_seq ?_ | refine W_region ?_ | refine n7 ?_ | refine n8 ?_ | refine W_block ?_ | refine W_skip ?_ | refine W_ret ?_ | refine W_exit ?_ | refine WQ_then ?_ | refine WQ_then_ret ?_ | refine WQ_then_exit ?_ | refine WQ_block_normal ?_ | refine WQ_block_ret ?_ | refine WQ_block_exit ?_ | refine n9 ?_)
      ((apply ret1 Try.results38 ( ())); (focus (first | trivial | assumption | omega)); (focus (first | exact RV_tmp rfl | (apply RV_cellN; exact rfl; (repeat' (first | exact Pick.head _ _ | apply Pick.tail)); (intro _; exact rfl); (intro _; exact rfl); exact rfl) | (apply RV_cell1; exact rfl; (repeat' (first | exact Pick.head _ _ | apply Pick.tail)); (intro _; exact rfl); exact rfl)));  (focus (first | exact rfl | (simp; done))); (focus (repeat (first | exact SubO.nil _ | (apply SubO.cons; (focus (repeat' (first | exact Pick.head _ _ | apply Pick.tail))))))); (focus (repeat (first | exact AllE.nil _ | (apply AllE.cons; (focus (first | exact ent_nilBy | exact ent_nilSl | (apply Ent.mem; repeat' (first | exact mcs | apply mct)))))))))
    | false =>
      rw [c2] at hs
      have hn : x + 1 ≤ t.len ∧ ∀ j a b dv d sv s n, j < x + 1 → t.drop j = .cons a b dv d sv s n → isB a b id ext = false := by
        refine ⟨c1, fun j a' b' dv' d' sv' s' n' hj hj2 => ?_⟩
        rcases Nat.lt_or_ge j x with h | h
        · exact hi j a' b' dv' d' sv' s' n' h hj2
        · obtain rfl : j = x := by omega
          rw [e1] at hj2
          injection hj2 with z1 z2
          subst z1; subst z2
          exact c2
      repeat (first | refine n1 ?_ | refine n2 (fun b _ => ?_) | refine n3 (fun _ _ => ?_) | refine n4 ?_ | refine n5 ?_ | refine n6 (hs) ?_ | refine n6v (hs) ?_ | refine WL_nil ?_ | refine W_seq ?_ | refine W_region ?_ | refine n7 ?_ | refine n8 ?_ | refine W_block ?_ | refine W_skip ?_ | refine W_ret ?_ | refine W_exit ?_ | refine WQ_then ?_ | refine WQ_then_ret ?_ | refine WQ_then_exit ?_ | refine WQ_block_normal ?_ | refine WQ_block_ret ?_ | refine WQ_block_exit ?_ | refine n9 ?_)
      ((apply WQ_again (x + 1)); (focus exact hn); (focus (omega)); (focus (repeat (first | exact FrIn.nil _ | (apply FrIn.cons; exact rfl; (first | exact rfl | (congr 1; first | omega | (dsimp only; omega)) | (simp; done)))))); (focus (repeat (first | exact SubO.nil _ | (apply SubO.cons; (focus (repeat' (first | exact Pick.head _ _ | apply Pick.tail))))))); (focus (repeat (first | exact AllE.nil _ | (apply AllE.cons; (focus (first | exact ent_nilBy | exact ent_nilSl | (apply Ent.mem; repeat' (first | exact mcs | apply mct)))))))))
  · rw [drop_end (by omega)] at hd
    rw [hd]
    repeat (first | refine n1 ?_ | refine n2 (fun b _ => ?_) | refine n3 (fun _ _ => ?_) | refine n4 ?_ | refine n5 ?_ | refine WL_nil ?_ | refine W_seq ?_ | refine W_region ?_ | refine n7 ?_ | refine n8 ?_ | refine W_block ?_ | refine W_skip ?_ | refine W_ret ?_ | refine W_exit ?_ | refine WQ_then ?_ | refine WQ_then_ret ?_ | refine WQ_then_exit ?_ | refine WQ_block_normal ?_ | refine WQ_block_ret ?_ | refine WQ_block_exit ?_ | refine n9 ?_)
    ((apply ret1 Try.results38 ( ())); (focus (first | trivial | assumption | omega)); (focus (first | exact RV_tmp rfl | (apply RV_cellN; exact rfl; (repeat' (first | exact Pick.head _ _ | apply Pick.tail)); (intro _; exact rfl); (intro _; exact rfl); exact rfl) | (apply RV_cell1; exact rfl; (repeat' (first | exact Pick.head _ _ | apply Pick.tail)); (intro _; exact rfl); exact rfl)));  (focus (first | exact rfl | (simp; done))); (focus (repeat (first | exact SubO.nil _ | (apply SubO.cons; (focus (repeat' (first | exact Pick.head _ _ | apply Pick.tail))))))); (focus (repeat (first | exact AllE.nil _ | (apply AllE.cons; (focus (first | exact ent_nilBy | exact ent_nilSl | (apply Ent.mem; repeat' (first | exact mcs | apply mct)))))))))

structure EX where
  id : UInt8
  ext : UInt8
  dv : Value
  data : List UInt8
  sv : Value
  subs : T
  is : Bool
def EX.er (x : EX) : Fo := .cons x.id x.ext x.data x.subs.er .nil

set_option maxRecDepth 100000 in
set_option maxHeartbeats 8000000 in
theorem find_fn (t : T) (v : Value) (id ext : UInt8) (hmd : Md t.er) : Ct Try.prog 22 [v, bcell id, bcell ext] [] [Rw 4 v t.len t.at_, t.tf]
    (X := EX) (fun x => (x.er, x.is) = fR t.er id ext) (fun x => .tuple #[.agg #[bcell x.id, bcell x.ext, x.dv, x.sv], .bool x.is]) (fun x => [.row x.dv 5 1 x.data.length (x.data.map bcell)]) (fun x => [Rw 4 x.sv x.subs.len x.subs.at_, x.subs.tf]) := by
  have hlc := len_cnt t
  have hcn := hmd.1
  refine Ct_intro Try.func22 rfl Try.ntmps22 (by simp) _ rfl (fun w0 O0 => ?_)
  repeat (first | refine n1 ?_ | refine n2 (fun b _ => ?_) | refine n3 (fun _ _ => ?_) | refine n4 ?_ | refine n5 ?_ | refine WL_nil ?_ | refine W_seq ?_ | refine W_region ?_ | refine n7 ?_ | refine n8 ?_ | refine W_block ?_ | refine W_skip ?_ | refine W_ret ?_ | refine W_exit ?_ | refine WQ_then ?_ | refine WQ_then_ret ?_ | refine WQ_then_exit ?_ | refine WQ_block_normal ?_ | refine WQ_block_ret ?_ | refine WQ_block_exit ?_ | refine n9 ?_)
  (apply WL_effs; exact rfl; exact rfl; exact rfl; apply E_call; exact rfl; (intro _ _; simp); exact is_fn id ext; (repeat (first | exact AllE.nil _ | (apply AllE.cons; (focus (first | exact ent_nilBy | exact ent_nilSl | (apply Ent.mem; repeat' (first | exact mcs | apply mct))))))); (intro _; exact rfl); (intro _; exact rfl))
  rintro ⟨b1, b2⟩ _
  dsimp only
  have hix := index_fn t v id ext b1 b2
  cases hf : fidx t.er id ext with
  | none =>
    rw [hf] at hix
    have hR : (EX.er ⟨0, 0, .slice none 0 0, [], .slice none 0 0, .nil, false⟩, false) = fR t.er id ext := by rw [fR, fidx_none hf]; rfl
    repeat (first | refine n1 ?_ | refine n2 (fun b _ => ?_) | refine n3 (fun _ _ => ?_) | refine n4 ?_ | refine n5 ?_ | refine n6 (hix) ?_ | refine n6v (hix) ?_ | refine WL_nil ?_ | refine W_seq ?_ | refine W_region ?_ | refine n7 ?_ | refine n8 ?_ | refine W_block ?_ | refine W_skip ?_ | refine W_ret ?_ | refine W_exit ?_ | refine WQ_then ?_ | refine WQ_then_ret ?_ | refine WQ_then_exit ?_ | refine WQ_block_normal ?_ | refine WQ_block_ret ?_ | refine WQ_block_exit ?_ | refine n9 ?_)
    apply WQ_nilRow 5 1
    apply WQ_none2
    ((apply ret2 Try.results22 ( (⟨0, 0, .slice none 0 0, [], .slice none 0 0, .nil, false⟩ : EX))); (focus (first | trivial | assumption | omega)); (focus (first | exact RV_tmp rfl | (apply RV_cellN; exact rfl; (repeat' (first | exact Pick.head _ _ | apply Pick.tail)); (intro _; exact rfl); (intro _; exact rfl); exact rfl) | (apply RV_cell1; exact rfl; (repeat' (first | exact Pick.head _ _ | apply Pick.tail)); (intro _; exact rfl); exact rfl))); (focus (first | exact RV_tmp rfl | (apply RV_cellN; exact rfl; (repeat' (first | exact Pick.head _ _ | apply Pick.tail)); (intro _; exact rfl); (intro _; exact rfl); exact rfl) | (apply RV_cell1; exact rfl; (repeat' (first | exact Pick.head _ _ | apply Pick.tail)); (intro _; exact rfl); exact rfl)));  (focus (first | exact rfl | (simp; done))); (focus (repeat (first | exact SubO.nil _ | (apply SubO.cons; (focus (repeat' (first | exact Pick.head _ _ | apply Pick.tail))))))); (focus (repeat (first | exact AllE.nil _ | (apply AllE.cons; (focus (first | exact ent_nilBy | exact ent_nilSl | (apply Ent.mem; repeat' (first | exact mcs | apply mct)))))))))
  | some k =>
    obtain ⟨a, b, dv, data, sv, subs, next, e1, e2⟩ := fidx_some hf
    rw [hf] at hix
    have hk : k < t.len := by
      rcases Nat.lt_or_ge k t.len with h | h
      · exact h
      · rw [drop_ge t k h] at e1
        cases e1
    have hsub := at_sub e1
    have hm1 : Md (T.cons a b dv data sv subs .nil).er := by
      obtain ⟨z1, z2⟩ := hmd
      exact ⟨by simp only [T.er, cnt]; omega, by simp only [T.er, dat]; omega⟩
    have hsl : (t.cells.drop (k * 4)).take ((k + 1 - k) * 4) = (T.cons a b dv data sv subs .nil).cells := by
      rw [show (k + 1 - k) * 4 = 4 by omega, T.cells_at t k hk, T.at_cons e1]
      rfl
    refine WL_ent (ent_tree (t := t) (by repeat' (first | exact mcs | apply mct)) e1).1 (WL_ent (ent_tree (t := t) (by repeat' (first | exact mcs | apply mct)) e1).2.1 (WL_ent (ent_tree (t := t) (by repeat' (first | exact mcs | apply mct)) e1).2.2 ?_))
    refine WL_ent (ent_rwT (v := v) (t := t) (by repeat' (first | exact mcs | apply mct))) ?_
    rw [show idxI (some k) = (k : Int) from rfl] at hix
    repeat (first | refine n1 ?_ | refine n2 (fun b _ => ?_) | refine n3 (fun _ _ => ?_) | refine n4 ?_ | refine n5 ?_ | refine n6 (hix) ?_ | refine n6v (hix) ?_ | refine WL_nil ?_ | refine W_seq ?_ | refine W_region ?_ | refine n7 ?_ | refine n8 ?_ | refine W_block ?_ | refine W_skip ?_ | refine W_ret ?_ | refine W_exit ?_ | refine WQ_then ?_ | refine WQ_then_ret ?_ | refine WQ_then_exit ?_ | refine WQ_block_normal ?_ | refine WQ_block_ret ?_ | refine WQ_block_exit ?_ | refine n9 ?_)
    refine WL_runsF rfl rfl rfl (R_cutSl (lo := k) (hi := k + 1) (m := 1) (us := (T.cons a b dv data sv subs .nil).cells) rfl (by repeat' (first | exact mcs | apply mct)) rfl (by intro _; rfl) rfl rfl rfl (by omega) (by omega) (by omega) (by omega) hsl) ?_
    refine WL_ent (ent_slT (v := cutV 4 k (k + 1) v) (t := .cons a b dv data sv subs .nil) (by repeat' (first | exact mcs | apply mct))) ?_
    refine WL_ent (ent_tf1 (id := a) (ext := b) (dv := dv) (data := data) (sv := sv) (subs := subs) (by repeat' (first | exact mcs | apply mct)) (by repeat' (first | exact mcs | apply mct)) (by repeat' (first | exact mcs | apply mct))) ?_
    (apply WL_effs; exact rfl; exact rfl; exact rfl; apply E_call; exact rfl; (intro _ _; simp); (exact twin_fn ((T.cons a b dv data sv subs .nil).size + 1) (.cons a b dv data sv subs .nil) (cutV 4 k (k + 1) v) (Nat.lt_succ_self _) hm1); (repeat (first | exact AllE.nil _ | (apply AllE.cons; (focus (first | exact ent_nilBy | exact ent_nilSl | (apply Ent.mem; repeat' (first | exact mcs | apply mct))))))); (intro _; exact rfl); (intro _; exact rfl))
    rintro ⟨o, u⟩ hu
    replace hu : u.er = .cons a b data subs.er .nil := hu
    dsimp only
    cases u with
    | nil => cases hu
    | cons a2 b2' dv2 data2 sv2 subs2 next2 =>
      simp only [T.er, Fo.cons.injEq] at hu
      obtain ⟨rfl, rfl, rfl, hu4, hu5⟩ := hu
      obtain rfl := er_nil hu5
      refine WL_pure (tree_ones (t := .cons a2 b2' dv2 data2 sv2 subs2 .nil) (by repeat' (first | exact Pick.head _ _ | apply Pick.tail)) (by repeat' (first | exact mcs | apply mct))) fun hone => ?_
      have hu6 : ∀ u ∈ [bcell a2, bcell b2', dv2, sv2], u.oneCell' = true := hone
      have hR : (EX.er ⟨a2, b2', dv2, data2, sv2, subs2, true⟩, true) = fR t.er id ext := by
        rw [fR, e2, EX.er, hu4]
        rfl
      refine WL_runs rfl rfl rfl (R_idxRow (i := 0) rfl rfl (by repeat' (first | exact Pick.head _ _ | apply Pick.tail)) rfl (by intro _; rfl) rfl (Nat.succ_pos _)) ?_
      refine WL_runs rfl rfl rfl (R_loadRowN (i := 0) (us := [bcell a2, bcell b2', dv2, sv2]) rfl (by repeat' (first | exact Pick.head _ _ | apply Pick.tail)) (by intro _; rfl) (by intro _; rfl) (Nat.succ_pos _) (fun j u hj => by rw [Nat.zero_mul, Nat.zero_add]; exact hj)) ?_
      refine WL_do rfl rfl (E_store (us := [bcell a2, bcell b2', dv2, sv2]) rfl rfl (by repeat' (first | exact Pick.head _ _ | apply Pick.tail)) (CellsE.lit rfl) (by intro _; rfl) (Ones.lits hu6) rfl) ?_
      intro _ _
      refine WL_takeL (bt := 5) (L := [(dv2, data2)]) (i := 0) rfl (by repeat' (first | exact Pick.head _ _ | apply Pick.tail)) ?_
      refine WL_ent (ent_trees (t := .cons a2 b2' dv2 data2 sv2 subs2 .nil) (k := 0) (by repeat' (first | exact mcs | apply mct)) rfl).1 (WL_ent (ent_trees (t := .cons a2 b2' dv2 data2 sv2 subs2 .nil) (k := 0) (by repeat' (first | exact mcs | apply mct)) rfl).2 ?_)
      repeat (first | refine n1 ?_ | refine n2 (fun b _ => ?_) | refine n3 (fun _ _ => ?_) | refine n4 ?_ | refine n5 ?_ | refine WL_nil ?_ | refine W_seq ?_ | refine W_region ?_ | refine n7 ?_ | refine n8 ?_ | refine W_block ?_ | refine W_skip ?_ | refine W_ret ?_ | refine W_exit ?_ | refine WQ_then ?_ | refine WQ_then_ret ?_ | refine WQ_then_exit ?_ | refine WQ_block_normal ?_ | refine WQ_block_ret ?_ | refine WQ_block_exit ?_ | refine n9 ?_)
      ((apply ret2 Try.results22 ( (⟨a2, b2', dv2, data2, sv2, subs2, true⟩ : EX))); (focus (first | trivial | assumption | omega)); (focus (first | exact RV_tmp rfl | (apply RV_cellN; exact rfl; (repeat' (first | exact Pick.head _ _ | apply Pick.tail)); (intro _; exact rfl); (intro _; exact rfl); exact rfl) | (apply RV_cell1; exact rfl; (repeat' (first | exact Pick.head _ _ | apply Pick.tail)); (intro _; exact rfl); exact rfl))); (focus (first | exact RV_tmp rfl | (apply RV_cellN; exact rfl; (repeat' (first | exact Pick.head _ _ | apply Pick.tail)); (intro _; exact rfl); (intro _; exact rfl); exact rfl) | (apply RV_cell1; exact rfl; (repeat' (first | exact Pick.head _ _ | apply Pick.tail)); (intro _; exact rfl); exact rfl)));  (focus (first | exact rfl | (simp; done))); (focus (repeat (first | exact SubO.nil _ | (apply SubO.cons; (focus (repeat' (first | exact Pick.head _ _ | apply Pick.tail))))))); (focus (repeat (first | exact AllE.nil _ | (apply AllE.cons; (focus (first | exact ent_nilBy | exact ent_nilSl | (apply Ent.mem; repeat' (first | exact mcs | apply mct)))))))))
end Go.Proofs.Ytahkcidnmdcaaaa
