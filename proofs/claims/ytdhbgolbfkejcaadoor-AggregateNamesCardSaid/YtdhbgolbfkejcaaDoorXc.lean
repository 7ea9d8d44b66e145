/-
  Rules for walks, merged.
-/
import Derived.Test.YtdhbgolbfkejcaaDoorXb
import Derived.Test.YtdhbgolbfkejcaaDoorXa
import Derived.WalkKit
import Derived.ProofKit
import Derived.OpenShut
import Derived.ShutString
import Derived.ChangeOld
import Derived.SizedLaws
import Derived.Below
import Derived.Carry
import Derived.ChangeSlices
import Derived.Deep.Slices
import Derived.LaidLaws
import Derived.Handed
import Derived.Lay
import Derived.LaidOnce
import Derived.SevenTiedAt
/-
  Packets packed: 'write' at packets, 'Pack'; the chapter's examples.
-/
namespace Go.Proofs.YtdhbgolbfkejcaaDoor.C01
end Go.Proofs.YtdhbgolbfkejcaaDoor.C01
namespace Go.Proofs.YtdhbgolbfkejcaaDoor.C03
end Go.Proofs.YtdhbgolbfkejcaaDoor.C03
namespace Go.Proofs.YtdhbgolbfkejcaaDoor.C08
open C01 C03
open Go Go.RowKit Go.Hs

structure PK where
  to_ : A6
  fr_ : A6
  dv : Value
  data : List UInt8
def pk0 : PK := ⟨zA6, zA6, .slice none 0 0, []⟩
@[reducible] def PK.cells (p : PK) : List Value := [bcell p.to_.a0, bcell p.to_.a1, bcell p.to_.a2, bcell p.to_.a3, bcell p.to_.a4, bcell p.to_.a5, bcell p.fr_.a0, bcell p.fr_.a1, bcell p.fr_.a2, bcell p.fr_.a3, bcell p.fr_.a4, bcell p.fr_.a5, p.dv]
@[reducible] def PK.val (p : PK) : Value := .agg #[bcell p.to_.a0, bcell p.to_.a1, bcell p.to_.a2, bcell p.to_.a3, bcell p.to_.a4, bcell p.to_.a5, bcell p.fr_.a0, bcell p.fr_.a1, bcell p.fr_.a2, bcell p.fr_.a3, bcell p.fr_.a4, bcell p.fr_.a5, p.dv]
def grp (b : UInt8) : Bool := decide (b.toNat % 2 = 1)
def entk (p : PK) : List UInt8 := p.to_.bytes ++ (p.fr_.bytes ++ (dl2 p.data.length ++ p.data))
theorem entk_length (p : PK) : (entk p).length = 14 + p.data.length := by simp [entk, A6.bytes, dl2]; omega
def okK (p : PK) : Prop := grp p.fr_.a0 = false ∧ p.data.length ≤ 1500
def jk (l : List PK) : List UInt8 := jg (l.map entk)
def K1 (out : List UInt8) (p : PK) : List UInt8 × Int := if grp p.fr_.a0 then ([], 8) else if 1500 < p.data.length then ([], 11) else (out ++ entk p, 0)
def okKL (l : List PK) : Prop := ∀ p ∈ l, okK p
def pckE : List PK → Int
  | [] => 0
  | p :: r => if grp p.fr_.a0 then 8 else if 1500 < p.data.length then 11 else pckE r
theorem K1_err (out : List UInt8) (p : PK) : (K1 out p).2 = (K1 [] p).2 := by unfold K1; split; rfl; split <;> rfl
theorem K1_ok {out : List UInt8} {p : PK} (h : (K1 out p).2 = 0) : okK p ∧ (K1 out p).1 = out ++ entk p := by
  unfold K1 at h ⊢
  split at h
  · cases h
  · next h1 =>
    split at h
    · cases h
    · next h2 => rw [if_neg h1, if_neg h2]; exact ⟨⟨by simpa using h1, by omega⟩, rfl⟩
theorem pckE_ok : ∀ {l : List PK}, pckE l = 0 ↔ okKL l
  | [] => ⟨fun _ _ h => (by cases h), fun _ => rfl⟩
  | p :: r => by
    unfold pckE
    constructor
    · intro h
      split at h
      · cases h
      · next h1 =>
        split at h
        · cases h
        · next h2 =>
          intro q hq
          rcases List.mem_cons.1 hq with rfl | hq
          · exact ⟨by simpa using h1, by omega⟩
          · exact pckE_ok.1 h q hq
    · intro h
      have h0 := h p List.mem_cons_self
      rw [if_neg (by rw [h0.1]; decide), if_neg (by have := h0.2; omega)]
      exact pckE_ok.2 fun q hq => h q (List.mem_cons_of_mem _ hq)
theorem pckE_at : ∀ {fs : List PK} {x : Nat}, okKL (fs.take x) → x < fs.length → (K1 [] (fs.getD x pk0)).2 ≠ 0 → pckE fs = (K1 [] (fs.getD x pk0)).2
  | [], _, _, h, _ => absurd h (by simp)
  | p :: r, 0, _, _, h => by
    simp only [K1, List.getD_cons_zero] at h ⊢
    unfold pckE
    split
    · rfl
    · next h1 =>
      rw [if_neg h1] at h
      split
      · rfl
      · next h2 => rw [if_neg h2] at h; exact absurd rfl h
  | p :: r, x + 1, hok, hx, h => by
    have h0 := hok p (by simp)
    have ih := pckE_at (fs := r) (x := x) (fun q hq => hok q (by simp [hq])) (by simpa using hx) (by simpa using h)
    unfold pckE
    rw [if_neg (by rw [h0.1]; decide), if_neg (by have := h0.2; omega), ih]
    rfl
theorem okK_snoc {fs : List PK} {x : Nat} (h : x < fs.length) (hk : okKL (fs.take x)) (hp : okK (fs.getD x pk0)) : okKL (fs.take (x + 1)) := by
  intro p hp'
  rw [List.take_succ_eq_append_getElem h, List.mem_append] at hp'
  rcases hp' with hp' | hp'
  · exact hk p hp'
  · rw [List.mem_singleton] at hp'
    subst hp'
    rw [List.getD_eq_getElem?_getD, List.getElem?_eq_getElem h] at hp
    exact hp
theorem jk_snoc {fs : List PK} {x : Nat} (h : x < fs.length) : jk (fs.take (x + 1)) = jk (fs.take x) ++ zer (pad4 (jk (fs.take x)).length) ++ entk (fs.getD x pk0) := by
  unfold jk
  rw [List.take_succ_eq_append_getElem h, List.map_append, List.map_cons, List.map_nil, jg_snoc, List.getD_eq_getElem?_getD, List.getElem?_eq_getElem h]
  rfl
theorem jk_le : ∀ {l : List PK}, okKL l → (jk l).length ≤ 1517 * l.length
  | [], _ => Nat.zero_le _
  | p :: r, h => by
    have h0 := (h p List.mem_cons_self).2
    have h1 := jk_le (l := r) fun q hq => h q (List.mem_cons_of_mem _ hq)
    have h2 := pad4_lt (14 + p.data.length)
    unfold jk at h1 ⊢
    rw [List.map_cons, jg, List.length_append, entk_length]
    split
    · simp only [List.length_nil, List.length_cons]; omega
    · simp only [List.length_append, zer_length, List.length_cons]; omega
def jkE (l : List PK) : List UInt8 × Int :=
  if l.length = 0 then ([], 6) else if 32 < l.length then ([], 4) else if pckE l = 0 then (if 2304 < (jk l).length then ([], 11) else (jk l, 0)) else ([], pckE l)
theorem byte_and1 (b : UInt8) : bits .and .u8 (b.toNat : Int) 1 = ((b.toNat % 2 : Nat) : Int) := by
  have h := u8_and_nat b.toNat 1 b.toNat_lt (by decide)
  rw [Nat.and_one_is_mod] at h
  exact h

section
variable {C : Ctx} {fr : Fr} {Γ Γ' Γ1 : List OA} {Φ : List SP}
/-- a list of byte strings that is made, told as lasting at once. -/
theorem Effs.letL {o : Oper} {X : Type} {pf : X → Prop} {vx : X → Value} {G : X → List OA} {H : X → List SP} {v : X → Value} {et : TypeId} {n : Nat} {vs : List Value} {fs : List (List UInt8)} (hn : n = fs.length)
    (h : Effs C fr Γ Φ o pf vx (fun x => .row (v x) et 1 n vs :: G x) H) (hb : ∀ x, ByL (H x) vs fs) : Effs C fr Γ Φ o pf vx G (fun x => Rw 1 (v x) fs.length (fun i => [vs.getD i undef]) :: Al fs.length (fun i => By (vs.getD i undef) (fs.getD i [])) :: H x) := by
  subst hn
  refine ⟨fun x ψ hψ => List.mem_cons_of_mem _ (List.mem_cons_of_mem _ (h.1 x ψ hψ)), fun R a w ha hw => (h.2 R a w ha hw).mono fun v' w' ⟨x, hp, hv, hw'⟩ => ⟨x, hp, hv, ?_⟩⟩
  have h1 : Holds C (G x ++ R) (Sl 1 (v x) fs.length vs :: H x) w' := Holds.letgo hw'
  refine ⟨h1.mod, h1.own, h1.ofp, h1.o0, fun ψ hψ => ?_⟩
  rcases List.mem_cons.1 hψ with rfl | hψ
  · exact (h1.ent (ent_slRw1 List.mem_cons_self)).sp _ List.mem_cons_self
  · rcases List.mem_cons.1 hψ with rfl | hψ
    · exact fun i hi => h1.sp _ (List.mem_cons_of_mem _ (byL_get (hb x) i hi))
    · exact h1.sp ψ (List.mem_cons_of_mem _ hψ)
end
attribute [local irreducible] WL W WQ PL Runs Effs AllE Ent SubO FrIn Pick OneC Ones CellsE PartsE SeqE UZ By Sl Pt Ct

set_option maxRecDepth 100000 in
theorem group_fn (a : A6) : CtD Tryd.prog 20 [.agg #[bcell a.a0, bcell a.a1, bcell a.a2, bcell a.a3, bcell a.a4, bcell a.a5]] [] (.bool (grp a.a0)) := by
  by_cases h : a.a0.toNat % 2 = 1
  · rw [grp, decide_eq_true h]
    refine Ct_intro Tryd.func20 rfl Tryd.ntmps20 (by simp) _ rfl (fun w0 O0 => ?_)
    repeat (first | refine n1 ?_ | refine n2 (fun b _ => ?_) | refine n3 (fun _ _ => ?_) | refine n4 ?_ | refine n5 ?_ | refine WL_nil ?_ | refine W_seq ?_ | refine W_region ?_ | refine n7 ?_ | refine n8 ?_ | refine W_block ?_ | refine W_skip ?_ | refine W_ret ?_ | refine W_exit ?_ | refine WQ_then ?_ | refine WQ_then_ret ?_ | refine WQ_then_exit ?_ | refine WQ_block_normal ?_ | refine WQ_block_ret ?_ | refine WQ_block_exit ?_ | refine n9 ?_)
    refine WL_runs rfl rfl rfl (R_and rfl rfl (byte_and1 _)) ?_
    repeat (first | refine n1 ?_ | refine n2 (fun b _ => ?_) | refine n3 (fun _ _ => ?_) | refine n4 ?_ | refine n5 ?_ | refine WL_nil ?_ | refine W_seq ?_ | refine W_region ?_ | refine n7 ?_ | refine n8 ?_ | refine W_block ?_ | refine W_skip ?_ | refine W_ret ?_ | refine W_exit ?_ | refine WQ_then ?_ | refine WQ_then_ret ?_ | refine WQ_then_exit ?_ | refine WQ_block_normal ?_ | refine WQ_block_ret ?_ | refine WQ_block_exit ?_ | refine n9 ?_)
    ((apply ret1 Tryd.results20 ( ())); (focus (first | trivial | assumption | omega)); (focus (first | exact RV_tmp rfl | (apply RV_cellN; exact rfl; (repeat' (first | exact Pick.head _ _ | apply Pick.tail)); (intro _; exact rfl); (intro _; exact rfl); exact rfl) | (apply RV_cell1; exact rfl; (repeat' (first | exact Pick.head _ _ | apply Pick.tail)); (intro _; exact rfl); exact rfl)));  (focus (first | exact rfl | (simp; done))); (focus (repeat (first | exact SubO.nil _ | (apply SubO.cons; (focus (repeat' (first | exact Pick.head _ _ | apply Pick.tail))))))); (focus (repeat (first | exact AllE.nil _ | (apply AllE.cons; (focus (first | exact ent_nilBy | exact ent_nilSl | (apply Ent.mem; repeat' (first | exact mcs | apply mct)))))))))
  · rw [grp, decide_eq_false h]
    refine Ct_intro Tryd.func20 rfl Tryd.ntmps20 (by simp) _ rfl (fun w0 O0 => ?_)
    repeat (first | refine n1 ?_ | refine n2 (fun b _ => ?_) | refine n3 (fun _ _ => ?_) | refine n4 ?_ | refine n5 ?_ | refine WL_nil ?_ | refine W_seq ?_ | refine W_region ?_ | refine n7 ?_ | refine n8 ?_ | refine W_block ?_ | refine W_skip ?_ | refine W_ret ?_ | refine W_exit ?_ | refine WQ_then ?_ | refine WQ_then_ret ?_ | refine WQ_then_exit ?_ | refine WQ_block_normal ?_ | refine WQ_block_ret ?_ | refine WQ_block_exit ?_ | refine n9 ?_)
    refine WL_runs rfl rfl rfl (R_and rfl rfl (byte_and1 _)) ?_
    repeat (first | refine n1 ?_ | refine n2 (fun b _ => ?_) | refine n3 (fun _ _ => ?_) | refine n4 ?_ | refine n5 ?_ | refine WL_nil ?_ | refine W_seq ?_ | refine W_region ?_ | refine n7 ?_ | refine n8 ?_ | refine W_block ?_ | refine W_skip ?_ | refine W_ret ?_ | refine W_exit ?_ | refine WQ_then ?_ | refine WQ_then_ret ?_ | refine WQ_then_exit ?_ | refine WQ_block_normal ?_ | refine WQ_block_ret ?_ | refine WQ_block_exit ?_ | refine n9 ?_)
    ((apply ret1 Tryd.results20 ( ())); (focus (first | trivial | assumption | omega)); (focus (first | exact RV_tmp rfl | (apply RV_cellN; exact rfl; (repeat' (first | exact Pick.head _ _ | apply Pick.tail)); (intro _; exact rfl); (intro _; exact rfl); exact rfl) | (apply RV_cell1; exact rfl; (repeat' (first | exact Pick.head _ _ | apply Pick.tail)); (intro _; exact rfl); exact rfl)));  (focus (first | exact rfl | (simp; done))); (focus (repeat (first | exact SubO.nil _ | (apply SubO.cons; (focus (repeat' (first | exact Pick.head _ _ | apply Pick.tail))))))); (focus (repeat (first | exact AllE.nil _ | (apply AllE.cons; (focus (first | exact ent_nilBy | exact ent_nilSl | (apply Ent.mem; repeat' (first | exact mcs | apply mct)))))))))

set_option maxRecDepth 100000 in
set_option maxHeartbeats 4000000 in
theorem pack1_fn (ov : Value) (out : List UInt8) (p : PK) (ho : out.length ≤ 10000000) : Ct Tryd.prog 19 [ov, p.val] [] [By ov out, By p.dv p.data]
    (X := Value) (fun _ => True) (fun x => .tuple #[x, .int .i64 (K1 out p).2]) (fun x => [.row x 5 1 (K1 out p).1.length ((K1 out p).1.map bcell)]) (fun _ => []) := by
  cases h0 : grp p.fr_.a0 with
  | true =>
    have hg := group_fn p.fr_
    rw [h0] at hg
    rw [show K1 out p = ([], 8) by unfold K1; rw [if_pos h0]]
    refine Ct_intro Tryd.func19 rfl Tryd.ntmps19 (by simp) _ rfl (fun w0 O0 => ?_)
    repeat (first | refine n1 ?_ | refine n2 (fun b _ => ?_) | refine n3 (fun _ _ => ?_) | refine n4 ?_ | refine n5 ?_ | refine n6 (hg) ?_ | refine n6v (hg) ?_ | refine WL_nil ?_ | refine W_seq ?_ | refine W_region ?_ | refine n7 ?_ | refine n8 ?_ | refine W_block ?_ | refine W_skip ?_ | refine W_ret ?_ | refine W_exit ?_ | refine WQ_then ?_ | refine WQ_then_ret ?_ | refine WQ_then_exit ?_ | refine WQ_block_normal ?_ | refine WQ_block_ret ?_ | refine WQ_block_exit ?_ | refine n9 ?_)
    apply WQ_nilRow 5 1
    ((apply ret2 Tryd.results19 ( Value.slice none 0 0)); (focus (first | trivial | assumption | omega)); (focus (first | exact RV_tmp rfl | (apply RV_cellN; exact rfl; (repeat' (first | exact Pick.head _ _ | apply Pick.tail)); (intro _; exact rfl); (intro _; exact rfl); exact rfl) | (apply RV_cell1; exact rfl; (repeat' (first | exact Pick.head _ _ | apply Pick.tail)); (intro _; exact rfl); exact rfl))); (focus (first | exact RV_tmp rfl | (apply RV_cellN; exact rfl; (repeat' (first | exact Pick.head _ _ | apply Pick.tail)); (intro _; exact rfl); (intro _; exact rfl); exact rfl) | (apply RV_cell1; exact rfl; (repeat' (first | exact Pick.head _ _ | apply Pick.tail)); (intro _; exact rfl); exact rfl)));  (focus (first | exact rfl | (simp; done))); (focus (repeat (first | exact SubO.nil _ | (apply SubO.cons; (focus (repeat' (first | exact Pick.head _ _ | apply Pick.tail))))))); (focus (repeat (first | exact AllE.nil _ | (apply AllE.cons; (focus (first | exact ent_nilBy | exact ent_nilSl | (apply Ent.mem; repeat' (first | exact mcs | apply mct)))))))))
  | false =>
    have hg := group_fn p.fr_
    rw [h0] at hg
    by_cases h1 : 1500 < p.data.length
    · rw [show K1 out p = ([], 11) by unfold K1; rw [if_neg (by rw [h0]; decide), if_pos h1]]
      refine Ct_intro Tryd.func19 rfl Tryd.ntmps19 (by simp) _ rfl (fun w0 O0 => ?_)
      repeat (first | refine n1 ?_ | refine n2 (fun b _ => ?_) | refine n3 (fun _ _ => ?_) | refine n4 ?_ | refine n5 ?_ | refine n6 (hg) ?_ | refine n6v (hg) ?_ | refine WL_nil ?_ | refine W_seq ?_ | refine W_region ?_ | refine n7 ?_ | refine n8 ?_ | refine W_block ?_ | refine W_skip ?_ | refine W_ret ?_ | refine W_exit ?_ | refine WQ_then ?_ | refine WQ_then_ret ?_ | refine WQ_then_exit ?_ | refine WQ_block_normal ?_ | refine WQ_block_ret ?_ | refine WQ_block_exit ?_ | refine n9 ?_)
      apply WQ_nilRow 5 1
      ((apply ret2 Tryd.results19 ( Value.slice none 0 0)); (focus (first | trivial | assumption | omega)); (focus (first | exact RV_tmp rfl | (apply RV_cellN; exact rfl; (repeat' (first | exact Pick.head _ _ | apply Pick.tail)); (intro _; exact rfl); (intro _; exact rfl); exact rfl) | (apply RV_cell1; exact rfl; (repeat' (first | exact Pick.head _ _ | apply Pick.tail)); (intro _; exact rfl); exact rfl))); (focus (first | exact RV_tmp rfl | (apply RV_cellN; exact rfl; (repeat' (first | exact Pick.head _ _ | apply Pick.tail)); (intro _; exact rfl); (intro _; exact rfl); exact rfl) | (apply RV_cell1; exact rfl; (repeat' (first | exact Pick.head _ _ | apply Pick.tail)); (intro _; exact rfl); exact rfl)));  (focus (first | exact rfl | (simp; done))); (focus (repeat (first | exact SubO.nil _ | (apply SubO.cons; (focus (repeat' (first | exact Pick.head _ _ | apply Pick.tail))))))); (focus (repeat (first | exact AllE.nil _ | (apply AllE.cons; (focus (first | exact ent_nilBy | exact ent_nilSl | (apply Ent.mem; repeat' (first | exact mcs | apply mct)))))))))
    · rw [show K1 out p = (out ++ entk p, 0) by unfold K1; rw [if_neg (by rw [h0]; decide), if_neg h1]]
      refine Ct_intro Tryd.func19 rfl Tryd.ntmps19 (by simp) _ rfl (fun w0 O0 => ?_)
      (first | refine n1 ?_ | refine n2 (fun b _ => ?_) | refine n3 (fun _ _ => ?_) | refine n4 ?_ | refine n5 ?_ | refine WL_nil ?_ | refine W_seq ?_ | refine W_region ?_ | refine n7 ?_ | refine n8 ?_ | refine W_block ?_ | refine W_skip ?_ | refine W_ret ?_ | refine W_exit ?_ | refine WQ_then ?_ | refine WQ_then_ret ?_ | refine WQ_then_exit ?_ | refine WQ_block_normal ?_ | refine WQ_block_ret ?_ | refine WQ_block_exit ?_ | refine n9 ?_)
      (first | refine n1 ?_ | refine n2 (fun b _ => ?_) | refine n3 (fun _ _ => ?_) | refine n4 ?_ | refine n5 ?_ | refine WL_nil ?_ | refine W_seq ?_ | refine W_region ?_ | refine n7 ?_ | refine n8 ?_ | refine W_block ?_ | refine W_skip ?_ | refine W_ret ?_ | refine W_exit ?_ | refine WQ_then ?_ | refine WQ_then_ret ?_ | refine WQ_then_exit ?_ | refine WQ_block_normal ?_ | refine WQ_block_ret ?_ | refine WQ_block_exit ?_ | refine n9 ?_)
      (first | refine n1 ?_ | refine n2 (fun b _ => ?_) | refine n3 (fun _ _ => ?_) | refine n4 ?_ | refine n5 ?_ | refine WL_nil ?_ | refine W_seq ?_ | refine W_region ?_ | refine n7 ?_ | refine n8 ?_ | refine W_block ?_ | refine W_skip ?_ | refine W_ret ?_ | refine W_exit ?_ | refine WQ_then ?_ | refine WQ_then_ret ?_ | refine WQ_then_exit ?_ | refine WQ_block_normal ?_ | refine WQ_block_ret ?_ | refine WQ_block_exit ?_ | refine n9 ?_)
      obtain ⟨b3, rfl⟩ : ∃ b3, b3 = b := ⟨b, rfl⟩
      repeat (first | refine n1 ?_ | refine n2 (fun b _ => ?_) | refine n3 (fun _ _ => ?_) | refine n4 ?_ | refine n5 ?_ | refine n6 (hg) ?_ | refine n6v (hg) ?_ | refine WL_nil ?_ | refine W_seq ?_ | refine W_region ?_ | refine n7 ?_ | refine n8 ?_ | refine W_block ?_ | refine W_skip ?_ | refine W_ret ?_ | refine W_exit ?_ | refine WQ_then ?_ | refine WQ_then_ret ?_ | refine WQ_then_exit ?_ | refine WQ_block_normal ?_ | refine WQ_block_ret ?_ | refine WQ_block_exit ?_ | refine n9 ?_)
      refine W_letgoK (b := b3) (by repeat' (first | exact Pick.head _ _ | apply Pick.tail)) ?_
      refine W_ent (ent_ptBy (b := b3) (off := 0) (n := 6) (xs := p.cells) (bs := p.to_.bytes) (by repeat' (first | exact mcs | apply mct)) rfl rfl (by decide) (by decide)) ?_
      refine W_ent (ψ := Pt (.pointer (some ⟨b3, 6, none⟩)) (p.cells.drop 6)) (ent_fld (p := .pointer (some ⟨b3, 0, none⟩)) (us := p.cells) (off := 6) (by repeat' (first | exact mcs | apply mct))) ?_
      refine W_ent (ent_ptBy (b := b3) (off := 6) (n := 6) (xs := p.cells.drop 6) (bs := p.fr_.bytes) (by repeat' (first | exact mcs | apply mct)) rfl rfl (by decide) (by decide)) ?_
      refine W_ent (ψ := Pt (.pointer (some ⟨b3, 12, none⟩)) (p.cells.drop 12)) (ent_fld (p := .pointer (some ⟨b3, 0, none⟩)) (us := p.cells) (off := 12) (by repeat' (first | exact mcs | apply mct))) ?_
      (refine W_regionP' [10, 13, 14] [] [0, 1, 2, 3, 4, 5, 6, 7, 8, 9, 11, 12, 10, 13, 14, 15, 16] [] (by kernel_rfl) (by kernel_rfl) (by repeat (first | exact UZ.nil _ _ | (apply UZ.cons; exact rfl; (intro _; exact rfl)))) (by exact rfl) (by (repeat (first | exact SubO.nil _ | (apply SubO.cons; (focus (repeat' (first | exact Pick.head _ _ | apply Pick.tail))))))) ?_)
      repeat (first | refine p1 ?_ | refine p2 (fun b _ => ?_) | refine p3 (fun _ _ => ?_) | refine p4 ?_ | refine p5 ?_ | refine p7 (fun b => ?_) | refine PL_nil ?_)
      refine PL_runs rfl rfl rfl rfl rfl (R_shr rfl rfl (by decide) (i64_shr8 _)) ?_
      repeat (first | refine p1 ?_ | refine p2 (fun b _ => ?_) | refine p3 (fun _ _ => ?_) | refine p4 ?_ | refine p5 ?_ | refine p7 (fun b => ?_) | refine PL_nil ?_)
      rw [show ((p.data.length / 256 : Nat) : Int) = ((UInt8.ofNat (p.data.length / 256)).toNat : Int) by rw [UInt8.toNat_ofNat', Nat.mod_eq_of_lt (by omega)]]
      refine PL_effs rfl rfl rfl rfl rfl (Effs.letB (n := fun _ => 2) (bs := fun _ => dl2 p.data.length) (by (apply E_buildSlice; exact rfl; (focus (repeat (first | apply SeqE.nil | (apply SeqE.cons; exact rfl; (focus (first | (apply CellsE.lit; exact rfl) | (apply CellsE.one; (first | (apply OneC.lit; exact rfl) | (apply OneC.by_; (repeat' (first | exact mcs | apply mct)); done) | (apply OneC.sl; (repeat' (first | exact mcs | apply mct)); done) | (apply OneC.rw; (repeat' (first | exact mcs | apply mct)); done) | (apply OneC.row; (repeat' (first | exact Pick.head _ _ | apply Pick.tail))))))); exact rfl) | exact rfl))); exact rfl; (first | (intro _; exact (rfl : _ = Result.ok 1 _)) | (intro _; exact (rfl : _ = Result.ok 2 _)) | (intro _; exact (rfl : _ = Result.ok 3 _)) | (intro _; exact (rfl : _ = Result.ok 4 _)) | (intro _; exact (rfl : _ = Result.ok 5 _)) | (intro _; exact (rfl : _ = Result.ok 6 _)) | (intro _; exact (rfl : _ = Result.ok 7 _)) | (intro _; exact (rfl : _ = Result.ok 8 _)) | (intro _; exact (rfl : _ = Result.ok 9 _)) | (intro _; exact (rfl : _ = Result.ok 13 _)) | (intro _; exact (rfl : _ = Result.ok 14 _)) | (intro _; exact (rfl : _ = Result.ok 26 _)) | (intro _; exact (rfl : _ = Result.ok 40 _)) | (intro _; exact (rfl : _ = Result.ok 41 _)) | (intro _; exact (rfl : _ = Result.ok 42 _)) | (intro _; exact (rfl : _ = Result.ok 43 _)) | (intro _; exact (rfl : _ = Result.ok 44 _)) | (intro _; exact (rfl : _ = Result.ok 45 _)) | (intro _; exact (rfl : _ = Result.ok 46 _))); (intro _; exact rfl); exact rfl; exact Nat.le_of_ble_eq_true rfl; exact Nat.le_of_ble_eq_true rfl))) (fun _ => (by (repeat (first | exact SubO.nil _ | (apply SubO.cons; (focus (repeat' (first | exact Pick.head _ _ | apply Pick.tail)))))))) (fun q _ => ?_)
      repeat (first | refine p1 ?_ | refine p2 (fun b _ => ?_) | refine p3 (fun _ _ => ?_) | refine p4 ?_ | refine p5 ?_ | refine p7 (fun b => ?_) | refine PL_nil ?_)
      refine PL_effs rfl rfl rfl rfl rfl (Effs.letL (vs := [ov, .slice (some ⟨b3, 0, none⟩) 6 6, .slice (some ⟨b3, 6, none⟩) 6 6, q, p.dv]) (fs := [out, p.to_.bytes, p.fr_.bytes, dl2 p.data.length, p.data]) rfl (by (apply E_buildSlice; exact rfl; (focus (repeat (first | apply SeqE.nil | (apply SeqE.cons; exact rfl; (focus (first | (apply CellsE.lit; exact rfl) | (apply CellsE.one; (first | (apply OneC.lit; exact rfl) | (apply OneC.by_; (repeat' (first | exact mcs | apply mct)); done) | (apply OneC.sl; (repeat' (first | exact mcs | apply mct)); done) | (apply OneC.rw; (repeat' (first | exact mcs | apply mct)); done) | (apply OneC.row; (repeat' (first | exact Pick.head _ _ | apply Pick.tail))))))); exact rfl) | exact rfl))); exact rfl; (first | (intro _; exact (rfl : _ = Result.ok 1 _)) | (intro _; exact (rfl : _ = Result.ok 2 _)) | (intro _; exact (rfl : _ = Result.ok 3 _)) | (intro _; exact (rfl : _ = Result.ok 4 _)) | (intro _; exact (rfl : _ = Result.ok 5 _)) | (intro _; exact (rfl : _ = Result.ok 6 _)) | (intro _; exact (rfl : _ = Result.ok 7 _)) | (intro _; exact (rfl : _ = Result.ok 8 _)) | (intro _; exact (rfl : _ = Result.ok 9 _)) | (intro _; exact (rfl : _ = Result.ok 13 _)) | (intro _; exact (rfl : _ = Result.ok 14 _)) | (intro _; exact (rfl : _ = Result.ok 26 _)) | (intro _; exact (rfl : _ = Result.ok 40 _)) | (intro _; exact (rfl : _ = Result.ok 41 _)) | (intro _; exact (rfl : _ = Result.ok 42 _)) | (intro _; exact (rfl : _ = Result.ok 43 _)) | (intro _; exact (rfl : _ = Result.ok 44 _)) | (intro _; exact (rfl : _ = Result.ok 45 _)) | (intro _; exact (rfl : _ = Result.ok 46 _))); (intro _; exact rfl); exact rfl; exact Nat.le_of_ble_eq_true rfl; exact Nat.le_of_ble_eq_true rfl)) (fun _ => ⟨(by repeat' (first | exact mcs | apply mct)), (by repeat' (first | exact mcs | apply mct)), (by repeat' (first | exact mcs | apply mct)), (by repeat' (first | exact mcs | apply mct)), (by repeat' (first | exact mcs | apply mct)), trivial⟩)) (fun _ => (by (repeat (first | exact SubO.nil _ | (apply SubO.cons; (focus (repeat' (first | exact Pick.head _ _ | apply Pick.tail)))))))) (fun q2 _ => ?_)
      repeat (first | refine p1 ?_ | refine p2 (fun b _ => ?_) | refine p3 (fun _ _ => ?_) | refine p4 ?_ | refine p5 ?_ | refine p7 (fun b => ?_) | refine PL_nil ?_)
      have hfl : [out, p.to_.bytes, p.fr_.bytes, dl2 p.data.length, p.data].flatten = out ++ entk p := by simp [entk]
      have hfn : (out ++ entk p).length = out.length + (14 + p.data.length) := by rw [List.length_append, entk_length]
      have hc := concat_fn q2 [out, p.to_.bytes, p.fr_.bytes, dl2 p.data.length, p.data] (fun i => [ov, .slice (some ⟨b3, 0, none⟩) 6 6, .slice (some ⟨b3, 6, none⟩) 6 6, q, p.dv].getD i undef) (by rw [hfl, hfn]; omega) (by show 5 ≤ 1000000; omega)
      rw [hfl] at hc
      (apply PL_effs; exact rfl; exact rfl; exact rfl; exact rfl; exact rfl; apply E_call; exact rfl; (intro _ _; simp); exact hc; (repeat (first | exact AllE.nil _ | (apply AllE.cons; (focus (first | exact ent_nilBy | exact ent_nilSl | (apply Ent.mem; repeat' (first | exact mcs | apply mct))))))); (intro _; exact rfl); (intro _; exact rfl); (intro _; (repeat (first | exact SubO.nil _ | (apply SubO.cons; (focus (repeat' (first | exact Pick.head _ _ | apply Pick.tail))))))))
      intro o _
      repeat (first | refine p1 ?_ | refine p2 (fun b _ => ?_) | refine p3 (fun _ _ => ?_) | refine p4 ?_ | refine p5 ?_ | refine p7 (fun b => ?_) | refine PL_nil ?_)
      repeat (first | refine n1 ?_ | refine n2 (fun b _ => ?_) | refine n3 (fun _ _ => ?_) | refine n4 ?_ | refine n5 ?_ | refine WL_nil ?_ | refine W_seq ?_ | refine W_region ?_ | refine n7 ?_ | refine n8 ?_ | refine W_block ?_ | refine W_skip ?_ | refine W_ret ?_ | refine W_exit ?_ | refine WQ_then ?_ | refine WQ_then_ret ?_ | refine WQ_then_exit ?_ | refine WQ_block_normal ?_ | refine WQ_block_ret ?_ | refine WQ_block_exit ?_ | refine n9 ?_)
      ((apply ret2 Tryd.results19 ( o)); (focus (first | trivial | assumption | omega)); (focus (first | exact RV_tmp rfl | (apply RV_cellN; exact rfl; (repeat' (first | exact Pick.head _ _ | apply Pick.tail)); (intro _; exact rfl); (intro _; exact rfl); exact rfl) | (apply RV_cell1; exact rfl; (repeat' (first | exact Pick.head _ _ | apply Pick.tail)); (intro _; exact rfl); exact rfl))); (focus (first | exact RV_tmp rfl | (apply RV_cellN; exact rfl; (repeat' (first | exact Pick.head _ _ | apply Pick.tail)); (intro _; exact rfl); (intro _; exact rfl); exact rfl) | (apply RV_cell1; exact rfl; (repeat' (first | exact Pick.head _ _ | apply Pick.tail)); (intro _; exact rfl); exact rfl)));  (focus (first | exact rfl | (simp; done))); (focus (repeat (first | exact SubO.nil _ | (apply SubO.cons; (focus (repeat' (first | exact Pick.head _ _ | apply Pick.tail))))))); (focus (repeat (first | exact AllE.nil _ | (apply AllE.cons; (focus (first | exact ent_nilBy | exact ent_nilSl | (apply Ent.mem; repeat' (first | exact mcs | apply mct)))))))))
end Go.Proofs.YtdhbgolbfkejcaaDoor.C08

/-
  From a contract to what a row asks: what was there before the call has not turned. No program is named here.
-/
namespace Go.Hs
open Go Go.RowKit Go.ChangeShapes Go.WideShapes Go.ChangeAt

theorem CtD.below {P : Program} {f : FuncId} {args : List Value} {Φ : List SP} {v : Value} {w : World} (h : CtD P f args Φ v) (hp : ∀ ψ ∈ Φ, ψ.p w (fun _ => False)) :
    Calls P f args.toArray w fun e w' => e = .returned v ∧ Below w.heap.size w w' := by
  have ha : avo (fun _ => False) [] = fun _ => False := by
    funext k
    apply propext
    constructor
    · rintro (h | ⟨x, hx, _⟩)
      · exact h
      · cases hx
    · exact False.elim
  refine (h w (fun _ => False) (fun k hk => hk.elim) trivial (fun ψ hψ => by rw [ha]; exact hp ψ hψ)).mono fun e w' ⟨_, _, he, hm, _⟩ => ?_
  refine ⟨he, hm.os, hm.tape, hm.output, hm.size, fun k hk => hm.block k hk ?_⟩
  rintro ⟨x, hx, _⟩
  cases hx

theorem trodAll_stays {H : Type} {enc : TypeId × Value → H} {P : Program} (hl : laidOutB P = true) {W W' : World} (hb : Below W.heap.size W W') :
    ∀ {ts : List TypeId} {vs : List Value} {ds : List (DataW H)} {ps : List MemPlace}, ts.all (fun t => P.readableRec t && decide (t < P.types.size)) = true →
      DataW.TrodAll enc P W 0 (fun _ => true) true ts vs ds ps → DataW.TrodAll enc P W' 0 (fun b => decide (b < W.heap.size)) true ts vs ds ps
  | [], vs, ds, ps, _, h => by
    cases vs <;> cases ds <;> simp [DataW.TrodAll] at h ⊢
    exact h
  | t :: ts, vs, ds, ps, ha, h => by
    obtain ⟨v, vs', d, ds', p, q, rfl, rfl, rfl, h1, h2⟩ := trodAll_cons h
    simp only [List.all_cons, Bool.and_eq_true, decide_eq_true_eq] at ha
    obtain ⟨⟨ha, hs⟩, hr⟩ := ha
    refine trodAll_cons_mk (Below.trod hl ha hs h1 hb ?_) (trodAll_stays hl hb hr h2)
    obtain ⟨m, hm⟩ := h1
    exact DataW.trod_lt m _ _ _ hm

theorem trodAll_length {H : Type} {enc : TypeId × Value → H} {P : Program} {W : World} {b : Nat} {sp : Nat → Bool} {hd : Bool} :
    ∀ {ts : List TypeId} {vs : List Value} {ds : List (DataW H)} {ps : List MemPlace}, DataW.TrodAll enc P W b sp hd ts vs ds ps → ds.length = ts.length
  | [], vs, ds, ps, h => by cases vs <;> cases ds <;> simp [DataW.TrodAll] at h ⊢
  | t :: ts, vs, ds, ps, h => by
    obtain ⟨v, vs', d, ds', p, q, rfl, rfl, rfl, h1, h2⟩ := trodAll_cons h
    simp [trodAll_length h2]

-- ===== what an argument is, read off its reading =====

section
variable {H : Type} {enc : TypeId × Value → H} {P : Program} {w : World} {held : Bool}

theorem cell_block {w : World} {a : Addr} {v : Value} (h : w.cell? a = some v) : a.block < w.heap.size := by
  rcases Nat.lt_or_ge a.block w.heap.size with h1 | h1
  · exact h1
  · simp [World.cell?, Array.getElem?_eq_none h1] at h

end
end Go.Hs

/-
  Arguments that are slices of things: what is read off their reading. No program is named here.
-/
namespace Go.Hs
open Go Go.RowKit Go.ChangeShapes Go.WideShapes Go.ChangeAt

theorem rwP_congr {size : Nat} {v : Value} {n : Nat} {f g : Nat → List Value} {w : World} {O : Nat → Prop} (h : rwP size v n f w O) (e : ∀ i, i < n → f i = g i) : rwP size v n g w O := by
  obtain ⟨A, c, hv, h1, h2, hr⟩ := h
  refine ⟨A, c, hv, h1, h2, fun hn => ?_⟩
  obtain ⟨ad, hA, hlt, hO, hcell⟩ := hr hn
  exact ⟨ad, hA, hlt, hO, fun i hi j u hu => hcell i hi j u (by rw [e i hi]; exact hu)⟩

section
variable {H : Type} {enc : TypeId × Value → H} {P : Program} {w : World} {held : Bool}

end
end Go.Hs

/-
  Packets packed: 'write' at packets, 'Pack'; the chapter's examples.
-/
namespace Go.Proofs.YtdhbgolbfkejcaaDoor.C01
end Go.Proofs.YtdhbgolbfkejcaaDoor.C01
namespace Go.Proofs.YtdhbgolbfkejcaaDoor.C03
end Go.Proofs.YtdhbgolbfkejcaaDoor.C03
namespace Go.Proofs.YtdhbgolbfkejcaaDoor.C08
open C01 C03
open Go Go.RowKit Go.Hs

theorem flat_cells : ∀ (ps : List PK) (i : Nat), i < ps.length → ((ps.flatMap PK.cells).drop (i * 13)).take 13 = (ps.getD i pk0).cells
  | [], _, h => absurd h (by simp)
  | p :: r, 0, _ => by
    rw [List.flatMap_cons, Nat.zero_mul, List.drop_zero]
    exact List.take_left' (l₁ := p.cells) rfl
  | p :: r, i + 1, h => by
    have e : (i + 1) * 13 = 13 + i * 13 := by omega
    have e2 : (p.cells ++ r.flatMap PK.cells).drop 13 = r.flatMap PK.cells := List.drop_left' (l₁ := p.cells) rfl
    rw [List.flatMap_cons, e, ← List.drop_drop, e2, flat_cells r i (by simpa using h)]
    rfl
theorem ent_slPK {Φ : List SP} {v : Value} {ps : List PK} {n : Nat} {xs : List Value} (hm : Sl 13 v n xs ∈ Φ) (hn : n = ps.length) (hx : xs = ps.flatMap PK.cells) : Ent Φ (Rw 13 v ps.length (fun i => (ps.getD i pk0).cells)) := fun w O h => by
  subst hn; subst hx
  exact rwP_congr (ent_slRw hm w O h) fun i hi => flat_cells ps i hi
def ByP (Φ : List SP) : List PK → Prop
  | [] => True
  | p :: ps => By p.dv p.data ∈ Φ ∧ ByP Φ ps
theorem byP_get {Φ : List SP} : ∀ {ps : List PK}, ByP Φ ps → ∀ i, i < ps.length → By (ps.getD i pk0).dv (ps.getD i pk0).data ∈ Φ
  | [], h, i, hi => absurd hi (by simp)
  | _ :: _, h, 0, _ => h.1
  | _ :: ps, h, i + 1, hi => by
    have := byP_get (ps := ps) h.2 i (by simpa using hi)
    simpa using this
theorem ent_alP {Φ : List SP} {ps : List PK} (h : ByP Φ ps) : Ent Φ (Al ps.length (fun i => By (ps.getD i pk0).dv (ps.getD i pk0).data)) := ent_alI fun i hi => Ent.mem (byP_get h i hi)
theorem row_form {C : Ctx} {Γ Γ' : List OA} {Φ : List SP} {v : Value} {t : TypeId} {size n : Nat} {xs : List Value} (hp : Pick (.row v t size n xs) Γ Γ') : ∀ w, Holds C Γ Φ w → ∃ A c, v = .slice A n c := fun w hw => by
  obtain ⟨A, c, h, _⟩ := row_nil_or (pick_holds hp hw).own.1
  exact ⟨A, c, h⟩
attribute [local irreducible] WL W WQ PL Runs Effs AllE Ent SubO FrIn Pick OneC Ones CellsE PartsE SeqE UZ By Sl Pt Ct

set_option maxRecDepth 100000 in
set_option maxHeartbeats 2000000 in
theorem writeK_fn (v : Value) (ps : List PK) : Ct Tryd.prog 18 [v, .int .i64 32, .int .i64 2304, .func (.func 19) #[] #[]] [] [Rw 13 v ps.length (fun i => (ps.getD i pk0).cells), Al ps.length (fun i => By (ps.getD i pk0).dv (ps.getD i pk0).data)]
    (X := Value) (fun _ => True) (fun x => .tuple #[x, .int .i64 (jkE ps).2]) (fun x => [.row x 5 1 (jkE ps).1.length ((jkE ps).1.map bcell)]) (fun _ => []) := by
  by_cases h0 : ps.length = 0
  · rw [show jkE ps = ([], 6) from if_pos h0]
    refine Ct_intro Tryd.func18 rfl Tryd.ntmps18 (by simp) _ rfl (fun w0 O0 => ?_)
    repeat (first | refine n1 ?_ | refine n2 (fun b _ => ?_) | refine n3 (fun _ _ => ?_) | refine n4 ?_ | refine n5 ?_ | refine WL_nil ?_ | refine W_seq ?_ | refine W_region ?_ | refine n7 ?_ | refine n8 ?_ | refine W_block ?_ | refine W_skip ?_ | refine W_ret ?_ | refine W_exit ?_ | refine WQ_then ?_ | refine WQ_then_ret ?_ | refine WQ_then_exit ?_ | refine WQ_block_normal ?_ | refine WQ_block_ret ?_ | refine WQ_block_exit ?_ | refine n9 ?_)
    apply WQ_nilRow 5 1
    ((apply ret2 Tryd.results18 ( Value.slice none 0 0)); (focus (first | trivial | assumption | omega)); (focus (first | exact RV_tmp rfl | (apply RV_cellN; exact rfl; (repeat' (first | exact Pick.head _ _ | apply Pick.tail)); (intro _; exact rfl); (intro _; exact rfl); exact rfl) | (apply RV_cell1; exact rfl; (repeat' (first | exact Pick.head _ _ | apply Pick.tail)); (intro _; exact rfl); exact rfl))); (focus (first | exact RV_tmp rfl | (apply RV_cellN; exact rfl; (repeat' (first | exact Pick.head _ _ | apply Pick.tail)); (intro _; exact rfl); (intro _; exact rfl); exact rfl) | (apply RV_cell1; exact rfl; (repeat' (first | exact Pick.head _ _ | apply Pick.tail)); (intro _; exact rfl); exact rfl)));  (focus (first | exact rfl | (simp; done))); (focus (repeat (first | exact SubO.nil _ | (apply SubO.cons; (focus (repeat' (first | exact Pick.head _ _ | apply Pick.tail))))))); (focus (repeat (first | exact AllE.nil _ | (apply AllE.cons; (focus (first | exact ent_nilBy | exact ent_nilSl | (apply Ent.mem; repeat' (first | exact mcs | apply mct)))))))))
  · by_cases h1 : 32 < ps.length
    · rw [show jkE ps = ([], 4) by unfold jkE; rw [if_neg h0, if_pos h1]]
      refine Ct_intro Tryd.func18 rfl Tryd.ntmps18 (by simp) _ rfl (fun w0 O0 => ?_)
      repeat (first | refine n1 ?_ | refine n2 (fun b _ => ?_) | refine n3 (fun _ _ => ?_) | refine n4 ?_ | refine n5 ?_ | refine WL_nil ?_ | refine W_seq ?_ | refine W_region ?_ | refine n7 ?_ | refine n8 ?_ | refine W_block ?_ | refine W_skip ?_ | refine W_ret ?_ | refine W_exit ?_ | refine WQ_then ?_ | refine WQ_then_ret ?_ | refine WQ_then_exit ?_ | refine WQ_block_normal ?_ | refine WQ_block_ret ?_ | refine WQ_block_exit ?_ | refine n9 ?_)
      apply WQ_nilRow 5 1
      ((apply ret2 Tryd.results18 ( Value.slice none 0 0)); (focus (first | trivial | assumption | omega)); (focus (first | exact RV_tmp rfl | (apply RV_cellN; exact rfl; (repeat' (first | exact Pick.head _ _ | apply Pick.tail)); (intro _; exact rfl); (intro _; exact rfl); exact rfl) | (apply RV_cell1; exact rfl; (repeat' (first | exact Pick.head _ _ | apply Pick.tail)); (intro _; exact rfl); exact rfl))); (focus (first | exact RV_tmp rfl | (apply RV_cellN; exact rfl; (repeat' (first | exact Pick.head _ _ | apply Pick.tail)); (intro _; exact rfl); (intro _; exact rfl); exact rfl) | (apply RV_cell1; exact rfl; (repeat' (first | exact Pick.head _ _ | apply Pick.tail)); (intro _; exact rfl); exact rfl)));  (focus (first | exact rfl | (simp; done))); (focus (repeat (first | exact SubO.nil _ | (apply SubO.cons; (focus (repeat' (first | exact Pick.head _ _ | apply Pick.tail))))))); (focus (repeat (first | exact AllE.nil _ | (apply AllE.cons; (focus (first | exact ent_nilBy | exact ent_nilSl | (apply Ent.mem; repeat' (first | exact mcs | apply mct)))))))))
    · refine Ct_intro Tryd.func18 rfl Tryd.ntmps18 (by simp) _ rfl (fun w0 O0 => ?_)
      repeat (first | refine n1 ?_ | refine n2 (fun b _ => ?_) | refine n3 (fun _ _ => ?_) | refine n4 ?_ | refine n5 ?_ | refine WL_nil ?_ | refine W_seq ?_ | refine W_region ?_ | refine n7 ?_ | refine n8 ?_ | refine W_block ?_ | refine W_skip ?_ | refine W_ret ?_ | refine W_exit ?_ | refine WQ_then ?_ | refine WQ_then_ret ?_ | refine WQ_then_exit ?_ | refine WQ_block_normal ?_ | refine WQ_block_ret ?_ | refine WQ_block_exit ?_ | refine n9 ?_)
      apply W_nilRow 5 1
      ((apply W_loopK (X := Nat × Value) [10, 12, 13, 14, 24] [0] (fun x => x.1 ≤ ps.length ∧ okKL (ps.take x.1)) (fun x => [(10, x.2), (24, .int .i64 (x.1 : Int))]) (fun x => [.row x.2 5 1 (jk (ps.take x.1)).length ((jk (ps.take x.1)).map bcell)]) (fun _ => []) (fun x => ps.length - x.1) ((0, .slice none 0 0))); (focus (exact ⟨Nat.zero_le _, fun _ h => (by cases h)⟩)); exact rfl; exact rfl; (intro _; exact rfl); (intro _; exact rfl); (intro _; exact rfl); (focus (repeat (first | exact FrIn.nil _ | (apply FrIn.cons; exact rfl; (first | exact rfl | (congr 1; first | omega | (dsimp only; omega)) | (simp; done)))))); (focus (repeat (first | exact SubO.nil _ | (apply SubO.cons; (focus (repeat' (first | exact Pick.head _ _ | apply Pick.tail))))))); (focus (repeat (first | exact AllE.nil _ | (apply AllE.cons; (focus (first | exact ent_nilBy | exact ent_nilSl | (apply Ent.mem; repeat' (first | exact mcs | apply mct)))))))); intro x hx)
      obtain ⟨x, o⟩ := x
      obtain ⟨hx, hok⟩ := hx
      replace hx : x ≤ ps.length := hx
      replace hok : okKL (ps.take x) := hok
      dsimp only
      have hjl := jk_le hok
      rw [List.length_take, Nat.min_eq_left hx] at hjl
      have hpl := pad4_lt (jk (ps.take x)).length
      by_cases c1 : x < ps.length
      · refine W_ent (ent_al (i := x) (ψ := fun i => By (ps.getD i pk0).dv (ps.getD i pk0).data) (by (focus (repeat' (first | exact mcs | apply mct)))) c1) ?_
        refine W_pure (row_form (v := o) (by repeat' (first | exact Pick.head _ _ | apply Pick.tail))) fun hform => ?_
        obtain ⟨oA, oc, rfl⟩ := hform
        repeat (first | refine n1 ?_ | refine n2 (fun b _ => ?_) | refine n3 (fun _ _ => ?_) | refine n4 ?_ | refine n5 ?_ | refine WL_nil ?_ | refine W_seq ?_ | refine W_region ?_ | refine n7 ?_ | refine n8 ?_ | refine W_block ?_ | refine W_skip ?_ | refine W_ret ?_ | refine W_exit ?_ | refine WQ_then ?_ | refine WQ_then_ret ?_ | refine WQ_then_exit ?_ | refine WQ_block_normal ?_ | refine WQ_block_ret ?_ | refine WQ_block_exit ?_ | refine n9 ?_)
        (refine W_regionP' [5, 7] [] [0, 1, 2, 3, 4, 6, 5, 7, 8, 9, 10, 11, 12] [1] (by kernel_rfl) (by kernel_rfl) (by repeat (first | exact UZ.nil _ _ | (apply UZ.cons; exact rfl; (intro _; exact rfl)))) (by exact rfl) (by (repeat (first | exact SubO.nil _ | (apply SubO.cons; (focus (repeat' (first | exact Pick.head _ _ | apply Pick.tail))))))) ?_)
        repeat (first | refine p1 ?_ | refine p2 (fun b _ => ?_) | refine p3 (fun _ _ => ?_) | refine p4 ?_ | refine p5 ?_ | refine p6 (padding_fn (jk (ps.take x)).length (by omega)) ?_ | refine p6v (padding_fn (jk (ps.take x)).length (by omega)) ?_ | refine p7 (fun b => ?_) | refine PL_nil ?_)
        refine PL_effs rfl rfl rfl rfl rfl (Effs.letB (n := fun _ => (jk (ps.take x) ++ zer (pad4 (jk (ps.take x)).length)).length) (bs := fun _ => jk (ps.take x) ++ zer (pad4 (jk (ps.take x)).length)) (E_appendZ (bs := jk (ps.take x)) (k := pad4 (jk (ps.take x)).length) (nm := (jk (ps.take x) ++ zer (pad4 (jk (ps.take x)).length)).length) (all := jk (ps.take x) ++ zer (pad4 (jk (ps.take x)).length)) rfl rfl rfl (by repeat' (first | exact Pick.head _ _ | apply Pick.tail)) rfl rfl rfl rfl rfl rfl (Nat.le_of_ble_eq_true rfl) (by omega) (by rw [List.length_append, zer_length]) rfl)) (fun _ => (by (repeat (first | exact SubO.nil _ | (apply SubO.cons; (focus (repeat' (first | exact Pick.head _ _ | apply Pick.tail)))))))) (fun o2 _ => ?_)
        repeat (first | refine p1 ?_ | refine p2 (fun b _ => ?_) | refine p3 (fun _ _ => ?_) | refine p4 ?_ | refine p5 ?_ | refine p7 (fun b => ?_) | refine PL_nil ?_)
        (apply PL_effs; exact rfl; exact rfl; exact rfl; exact rfl; exact rfl; (apply E_callG (first := #[]) (captured := #[]) (Γp := [])); exact rfl; exact rfl; exact rfl; (intro _ _; simp); (exact pack1_fn o2 (jk (ps.take x) ++ zer (pad4 (jk (ps.take x)).length)) (ps.getD x pk0) (by rw [List.length_append, zer_length]; omega)); exact .refl _; (repeat (first | exact AllE.nil _ | (apply AllE.cons; (focus (first | exact ent_nilBy | exact ent_nilSl | (apply Ent.mem; repeat' (first | exact mcs | apply mct))))))); (intro _; exact rfl); (intro _; exact rfl); (intro _; (repeat (first | exact SubO.nil _ | (apply SubO.cons; (focus (repeat' (first | exact Pick.head _ _ | apply Pick.tail))))))))
        intro o3 _
        by_cases c2 : (K1 (jk (ps.take x) ++ zer (pad4 (jk (ps.take x)).length)) (ps.getD x pk0)).2 = 0
        · obtain ⟨hp1, hp2⟩ := K1_ok c2
          rw [← jk_snoc c1] at hp2
          rw [c2, hp2]
          repeat (first | refine p1 ?_ | refine p2 (fun b _ => ?_) | refine p3 (fun _ _ => ?_) | refine p4 ?_ | refine p5 ?_ | refine p7 (fun b => ?_) | refine PL_nil ?_)
          repeat (first | refine n1 ?_ | refine n2 (fun b _ => ?_) | refine n3 (fun _ _ => ?_) | refine n4 ?_ | refine n5 ?_ | refine WL_nil ?_ | refine W_seq ?_ | refine W_region ?_ | refine n7 ?_ | refine n8 ?_ | refine W_block ?_ | refine W_skip ?_ | refine W_ret ?_ | refine W_exit ?_ | refine WQ_then ?_ | refine WQ_then_ret ?_ | refine WQ_then_exit ?_ | refine WQ_block_normal ?_ | refine WQ_block_ret ?_ | refine WQ_block_exit ?_ | refine n9 ?_)
          have hok2 := okK_snoc c1 hok hp1
          ((apply WQ_again ((x + 1, o3))); (focus exact ⟨c1, hok2⟩); (focus (exact (show ps.length - (x + 1) < ps.length - x by omega))); (focus (repeat (first | exact FrIn.nil _ | (apply FrIn.cons; exact rfl; (first | exact rfl | (congr 1; first | omega | (dsimp only; omega)) | (simp; done)))))); (focus (repeat (first | exact SubO.nil _ | (apply SubO.cons; (focus (repeat' (first | exact Pick.head _ _ | apply Pick.tail))))))); (focus (repeat (first | exact AllE.nil _ | (apply AllE.cons; (focus (first | exact ent_nilBy | exact ent_nilSl | (apply Ent.mem; repeat' (first | exact mcs | apply mct)))))))))
        · have hpe := pckE_at hok c1 (by rw [← K1_err (jk (ps.take x) ++ zer (pad4 (jk (ps.take x)).length))]; exact c2)
          rw [← K1_err (jk (ps.take x) ++ zer (pad4 (jk (ps.take x)).length))] at hpe
          generalize K1 (jk (ps.take x) ++ zer (pad4 (jk (ps.take x)).length)) (ps.getD x pk0) = r at *
          obtain ⟨r1, r2⟩ := r
          replace c2 : ¬ r2 = 0 := c2
          replace hpe : pckE ps = r2 := hpe
          dsimp only
          repeat (first | refine p1 ?_ | refine p2 (fun b _ => ?_) | refine p3 (fun _ _ => ?_) | refine p4 ?_ | refine p5 ?_ | refine p7 (fun b => ?_) | refine PL_nil ?_)
          repeat (first | refine n1 ?_ | refine n2 (fun b _ => ?_) | refine n3 (fun _ _ => ?_) | refine n4 ?_ | refine n5 ?_ | refine WL_nil ?_ | refine W_seq ?_ | refine W_region ?_ | refine n7 ?_ | refine n8 ?_ | refine W_block ?_ | refine W_skip ?_ | refine W_ret ?_ | refine W_exit ?_ | refine WQ_then ?_ | refine WQ_then_ret ?_ | refine WQ_then_exit ?_ | refine WQ_block_normal ?_ | refine WQ_block_ret ?_ | refine WQ_block_exit ?_ | refine n9 ?_)
          apply WQ_nilRow 5 1
          rw [show jkE ps = ([], r2) by unfold jkE; rw [if_neg h0, if_neg h1, if_neg (by rw [hpe]; exact c2), hpe]]
          ((apply ret2 Tryd.results18 ( Value.slice none 0 0)); (focus (first | trivial | assumption | omega)); (focus (first | exact RV_tmp rfl | (apply RV_cellN; exact rfl; (repeat' (first | exact Pick.head _ _ | apply Pick.tail)); (intro _; exact rfl); (intro _; exact rfl); exact rfl) | (apply RV_cell1; exact rfl; (repeat' (first | exact Pick.head _ _ | apply Pick.tail)); (intro _; exact rfl); exact rfl))); (focus (first | exact RV_tmp rfl | (apply RV_cellN; exact rfl; (repeat' (first | exact Pick.head _ _ | apply Pick.tail)); (intro _; exact rfl); (intro _; exact rfl); exact rfl) | (apply RV_cell1; exact rfl; (repeat' (first | exact Pick.head _ _ | apply Pick.tail)); (intro _; exact rfl); exact rfl)));  (focus (first | exact rfl | (simp; done))); (focus (repeat (first | exact SubO.nil _ | (apply SubO.cons; (focus (repeat' (first | exact Pick.head _ _ | apply Pick.tail))))))); (focus (repeat (first | exact AllE.nil _ | (apply AllE.cons; (focus (first | exact ent_nilBy | exact ent_nilSl | (apply Ent.mem; repeat' (first | exact mcs | apply mct)))))))))
      · obtain rfl : x = ps.length := by omega
        rw [List.take_length] at *
        by_cases c2 : 2304 < (jk ps).length
        · rw [show jkE ps = ([], 11) by unfold jkE; rw [if_neg h0, if_neg h1, if_pos (pckE_ok.2 hok), if_pos c2]]
          repeat (first | refine n1 ?_ | refine n2 (fun b _ => ?_) | refine n3 (fun _ _ => ?_) | refine n4 ?_ | refine n5 ?_ | refine WL_nil ?_ | refine W_seq ?_ | refine W_region ?_ | refine n7 ?_ | refine n8 ?_ | refine W_block ?_ | refine W_skip ?_ | refine W_ret ?_ | refine W_exit ?_ | refine WQ_then ?_ | refine WQ_then_ret ?_ | refine WQ_then_exit ?_ | refine WQ_block_normal ?_ | refine WQ_block_ret ?_ | refine WQ_block_exit ?_ | refine n9 ?_)
          apply WQ_nilRow 5 1
          ((apply ret2 Tryd.results18 ( Value.slice none 0 0)); (focus (first | trivial | assumption | omega)); (focus (first | exact RV_tmp rfl | (apply RV_cellN; exact rfl; (repeat' (first | exact Pick.head _ _ | apply Pick.tail)); (intro _; exact rfl); (intro _; exact rfl); exact rfl) | (apply RV_cell1; exact rfl; (repeat' (first | exact Pick.head _ _ | apply Pick.tail)); (intro _; exact rfl); exact rfl))); (focus (first | exact RV_tmp rfl | (apply RV_cellN; exact rfl; (repeat' (first | exact Pick.head _ _ | apply Pick.tail)); (intro _; exact rfl); (intro _; exact rfl); exact rfl) | (apply RV_cell1; exact rfl; (repeat' (first | exact Pick.head _ _ | apply Pick.tail)); (intro _; exact rfl); exact rfl)));  (focus (first | exact rfl | (simp; done))); (focus (repeat (first | exact SubO.nil _ | (apply SubO.cons; (focus (repeat' (first | exact Pick.head _ _ | apply Pick.tail))))))); (focus (repeat (first | exact AllE.nil _ | (apply AllE.cons; (focus (first | exact ent_nilBy | exact ent_nilSl | (apply Ent.mem; repeat' (first | exact mcs | apply mct)))))))))
        · rw [show jkE ps = (jk ps, 0) by unfold jkE; rw [if_neg h0, if_neg h1, if_pos (pckE_ok.2 hok), if_neg c2]]
          repeat (first | refine n1 ?_ | refine n2 (fun b _ => ?_) | refine n3 (fun _ _ => ?_) | refine n4 ?_ | refine n5 ?_ | refine WL_nil ?_ | refine W_seq ?_ | refine W_region ?_ | refine n7 ?_ | refine n8 ?_ | refine W_block ?_ | refine W_skip ?_ | refine W_ret ?_ | refine W_exit ?_ | refine WQ_then ?_ | refine WQ_then_ret ?_ | refine WQ_then_exit ?_ | refine WQ_block_normal ?_ | refine WQ_block_ret ?_ | refine WQ_block_exit ?_ | refine n9 ?_)
          ((apply ret2 Tryd.results18 ( o)); (focus (first | trivial | assumption | omega)); (focus (first | exact RV_tmp rfl | (apply RV_cellN; exact rfl; (repeat' (first | exact Pick.head _ _ | apply Pick.tail)); (intro _; exact rfl); (intro _; exact rfl); exact rfl) | (apply RV_cell1; exact rfl; (repeat' (first | exact Pick.head _ _ | apply Pick.tail)); (intro _; exact rfl); exact rfl))); (focus (first | exact RV_tmp rfl | (apply RV_cellN; exact rfl; (repeat' (first | exact Pick.head _ _ | apply Pick.tail)); (intro _; exact rfl); (intro _; exact rfl); exact rfl) | (apply RV_cell1; exact rfl; (repeat' (first | exact Pick.head _ _ | apply Pick.tail)); (intro _; exact rfl); exact rfl)));  (focus (first | exact rfl | (simp; done))); (focus (repeat (first | exact SubO.nil _ | (apply SubO.cons; (focus (repeat' (first | exact Pick.head _ _ | apply Pick.tail))))))); (focus (repeat (first | exact AllE.nil _ | (apply AllE.cons; (focus (first | exact ent_nilBy | exact ent_nilSl | (apply Ent.mem; repeat' (first | exact mcs | apply mct)))))))))

set_option maxRecDepth 100000 in
theorem pack_fn (v : Value) (ps : List PK) : Ct Tryd.prog 7 [v] [] [Rw 13 v ps.length (fun i => (ps.getD i pk0).cells), Al ps.length (fun i => By (ps.getD i pk0).dv (ps.getD i pk0).data)]
    (X := Value) (fun _ => True) (fun x => .tuple #[x, .int .i64 (jkE ps).2]) (fun x => [.row x 5 1 (jkE ps).1.length ((jkE ps).1.map bcell)]) (fun _ => []) := by
  refine Ct_intro Tryd.func7 rfl Tryd.ntmps7 (by simp) _ rfl (fun w0 O0 => ?_)
  repeat (first | refine n1 ?_ | refine n2 (fun b _ => ?_) | refine n3 (fun _ _ => ?_) | refine n4 ?_ | refine n5 ?_ | refine WL_nil ?_ | refine W_seq ?_ | refine W_region ?_ | refine n7 ?_ | refine n8 ?_ | refine W_block ?_ | refine W_skip ?_ | refine W_ret ?_ | refine W_exit ?_ | refine WQ_then ?_ | refine WQ_then_ret ?_ | refine WQ_then_exit ?_ | refine WQ_block_normal ?_ | refine WQ_block_ret ?_ | refine WQ_block_exit ?_ | refine n9 ?_)
  (apply WL_effs; exact rfl; exact rfl; exact rfl; apply E_call; exact rfl; (intro _ _; simp); exact writeK_fn v ps; (repeat (first | exact AllE.nil _ | (apply AllE.cons; (focus (first | exact ent_nilBy | exact ent_nilSl | (apply Ent.mem; repeat' (first | exact mcs | apply mct))))))); (intro _; exact rfl); (intro _; exact rfl))
  intro o _
  repeat (first | refine n1 ?_ | refine n2 (fun b _ => ?_) | refine n3 (fun _ _ => ?_) | refine n4 ?_ | refine n5 ?_ | refine WL_nil ?_ | refine W_seq ?_ | refine W_region ?_ | refine n7 ?_ | refine n8 ?_ | refine W_block ?_ | refine W_skip ?_ | refine W_ret ?_ | refine W_exit ?_ | refine WQ_then ?_ | refine WQ_then_ret ?_ | refine WQ_then_exit ?_ | refine WQ_block_normal ?_ | refine WQ_block_ret ?_ | refine WQ_block_exit ?_ | refine n9 ?_)
  ((apply ret2 Tryd.results7 ( o)); (focus (first | trivial | assumption | omega)); (focus (first | exact RV_tmp rfl | (apply RV_cellN; exact rfl; (repeat' (first | exact Pick.head _ _ | apply Pick.tail)); (intro _; exact rfl); (intro _; exact rfl); exact rfl) | (apply RV_cell1; exact rfl; (repeat' (first | exact Pick.head _ _ | apply Pick.tail)); (intro _; exact rfl); exact rfl))); (focus (first | exact RV_tmp rfl | (apply RV_cellN; exact rfl; (repeat' (first | exact Pick.head _ _ | apply Pick.tail)); (intro _; exact rfl); (intro _; exact rfl); exact rfl) | (apply RV_cell1; exact rfl; (repeat' (first | exact Pick.head _ _ | apply Pick.tail)); (intro _; exact rfl); exact rfl)));  (focus (first | exact rfl | (simp; done))); (focus (repeat (first | exact SubO.nil _ | (apply SubO.cons; (focus (repeat' (first | exact Pick.head _ _ | apply Pick.tail))))))); (focus (repeat (first | exact AllE.nil _ | (apply AllE.cons; (focus (first | exact ent_nilBy | exact ent_nilSl | (apply Ent.mem; repeat' (first | exact mcs | apply mct)))))))))

def nineP (x : Value) : PK := ⟨⟨2, 0, 0, 0, 0, 1⟩, ⟨2, 0, 0, 0, 0, 2⟩, x, [9]⟩
set_option maxRecDepth 100000 in
theorem nine_fn : Ct Tryd.prog 14 [] [] [] (X := Value) (fun _ => True) (fun x => (nineP x).val) (fun _ => []) (fun x => [By x [9]]) := by
  refine Ct_intro Tryd.func14 rfl Tryd.ntmps14 (by simp) _ rfl (fun w0 O0 => ?_)
  repeat (first | refine n1 ?_ | refine n2 (fun b _ => ?_) | refine n3 (fun _ _ => ?_) | refine n4 ?_ | refine n5 ?_ | refine WL_nil ?_ | refine W_seq ?_ | refine W_region ?_ | refine n7 ?_ | refine n8 ?_ | refine W_block ?_ | refine W_skip ?_ | refine W_ret ?_ | refine W_exit ?_ | refine WQ_then ?_ | refine WQ_then_ret ?_ | refine WQ_then_exit ?_ | refine WQ_block_normal ?_ | refine WQ_block_ret ?_ | refine WQ_block_exit ?_ | refine n9 ?_)
  (apply WL_effs; exact rfl; exact rfl; exact rfl; (apply E_buildSlice; exact rfl; (focus (repeat (first | apply SeqE.nil | (apply SeqE.cons; exact rfl; (focus (first | (apply CellsE.lit; exact rfl) | (apply CellsE.one; (first | (apply OneC.lit; exact rfl) | (apply OneC.by_; (repeat' (first | exact mcs | apply mct)); done) | (apply OneC.sl; (repeat' (first | exact mcs | apply mct)); done) | (apply OneC.rw; (repeat' (first | exact mcs | apply mct)); done) | (apply OneC.row; (repeat' (first | exact Pick.head _ _ | apply Pick.tail))))))); exact rfl) | exact rfl))); exact rfl; (first | (intro _; exact (rfl : _ = Result.ok 1 _)) | (intro _; exact (rfl : _ = Result.ok 2 _)) | (intro _; exact (rfl : _ = Result.ok 3 _)) | (intro _; exact (rfl : _ = Result.ok 4 _)) | (intro _; exact (rfl : _ = Result.ok 5 _)) | (intro _; exact (rfl : _ = Result.ok 6 _)) | (intro _; exact (rfl : _ = Result.ok 7 _)) | (intro _; exact (rfl : _ = Result.ok 8 _)) | (intro _; exact (rfl : _ = Result.ok 9 _)) | (intro _; exact (rfl : _ = Result.ok 13 _)) | (intro _; exact (rfl : _ = Result.ok 14 _)) | (intro _; exact (rfl : _ = Result.ok 26 _)) | (intro _; exact (rfl : _ = Result.ok 40 _)) | (intro _; exact (rfl : _ = Result.ok 41 _)) | (intro _; exact (rfl : _ = Result.ok 42 _)) | (intro _; exact (rfl : _ = Result.ok 43 _)) | (intro _; exact (rfl : _ = Result.ok 44 _)) | (intro _; exact (rfl : _ = Result.ok 45 _)) | (intro _; exact (rfl : _ = Result.ok 46 _))); (intro _; exact rfl); exact rfl; exact Nat.le_of_ble_eq_true rfl; exact Nat.le_of_ble_eq_true rfl); skip)
  intro q _
  refine WL_letgoB (v := q) (bs := [9]) (by repeat' (first | exact Pick.head _ _ | apply Pick.tail)) rfl ?_
  repeat (first | refine n1 ?_ | refine n2 (fun b _ => ?_) | refine n3 (fun _ _ => ?_) | refine n4 ?_ | refine n5 ?_ | refine WL_nil ?_ | refine W_seq ?_ | refine W_region ?_ | refine n7 ?_ | refine n8 ?_ | refine W_block ?_ | refine W_skip ?_ | refine W_ret ?_ | refine W_exit ?_ | refine WQ_then ?_ | refine WQ_then_ret ?_ | refine WQ_then_exit ?_ | refine WQ_block_normal ?_ | refine WQ_block_ret ?_ | refine WQ_block_exit ?_ | refine n9 ?_)
  ((apply ret1 Tryd.results14 ( q)); (focus (first | trivial | assumption | omega)); (focus (first | exact RV_tmp rfl | (apply RV_cellN; exact rfl; (repeat' (first | exact Pick.head _ _ | apply Pick.tail)); (intro _; exact rfl); (intro _; exact rfl); exact rfl) | (apply RV_cell1; exact rfl; (repeat' (first | exact Pick.head _ _ | apply Pick.tail)); (intro _; exact rfl); exact rfl)));  (focus (first | exact rfl | (simp; done))); (focus (repeat (first | exact SubO.nil _ | (apply SubO.cons; (focus (repeat' (first | exact Pick.head _ _ | apply Pick.tail))))))); (focus (repeat (first | exact AllE.nil _ | (apply AllE.cons; (focus (first | exact ent_nilBy | exact ent_nilSl | (apply Ent.mem; repeat' (first | exact mcs | apply mct)))))))))

def one9 : List UInt8 := [2, 0, 0, 0, 0, 1, 2, 0, 0, 0, 0, 2, 1, 0, 9]
theorem jk1 (x : Value) : jkE [nineP x] = (one9, 0) := by kernel_rfl
theorem jk2 (x y : Value) : jkE [nineP x, nineP y] = (one9 ++ [0] ++ one9, 0) := by kernel_rfl
theorem jn2 : jnE [[7], [8, 9]] = ([1, 0, c8 [1, 0], 78, 7, 0, 0, 0, 2, 0, c8 [2, 0], 78, 8, 9], 0) := by rfl

set_option maxRecDepth 100000 in
set_option maxHeartbeats 16000000 in
theorem alive_fn : CtD Tryd.prog 13 [] [] (.bool true) := by
  refine Ct_intro Tryd.func13 rfl Tryd.ntmps13 (by simp) _ rfl (fun w0 O0 => ?_)
  repeat (first | refine n1 ?_ | refine n2 (fun b _ => ?_) | refine n3 (fun _ _ => ?_) | refine n4 ?_ | refine n5 ?_ | refine WL_nil ?_ | refine W_seq ?_ | refine W_region ?_ | refine n7 ?_ | refine n8 ?_ | refine W_block ?_ | refine W_skip ?_ | refine W_ret ?_ | refine W_exit ?_ | refine WQ_then ?_ | refine WQ_then_ret ?_ | refine WQ_then_exit ?_ | refine WQ_block_normal ?_ | refine WQ_block_ret ?_ | refine WQ_block_exit ?_ | refine n9 ?_)
  (apply WL_effs; exact rfl; exact rfl; exact rfl; apply E_call; exact rfl; (intro _ _; simp); exact nine_fn; (repeat (first | exact AllE.nil _ | (apply AllE.cons; (focus (first | exact ent_nilBy | exact ent_nilSl | (apply Ent.mem; repeat' (first | exact mcs | apply mct))))))); (intro _; exact rfl); (intro _; exact rfl))
  intro x1 _
  repeat (first | refine n1 ?_ | refine n2 (fun b _ => ?_) | refine n3 (fun _ _ => ?_) | refine n4 ?_ | refine n5 ?_ | refine WL_nil ?_ | refine W_seq ?_ | refine W_region ?_ | refine n7 ?_ | refine n8 ?_ | refine W_block ?_ | refine W_skip ?_ | refine W_ret ?_ | refine W_exit ?_ | refine WQ_then ?_ | refine WQ_then_ret ?_ | refine WQ_then_exit ?_ | refine WQ_block_normal ?_ | refine WQ_block_ret ?_ | refine WQ_block_exit ?_ | refine n9 ?_)
  (apply WL_effs; exact rfl; exact rfl; exact rfl; (apply E_buildSlice; exact rfl; (focus (repeat (first | apply SeqE.nil | (apply SeqE.cons; exact rfl; (focus (first | (apply CellsE.lit; exact rfl) | (apply CellsE.one; (first | (apply OneC.lit; exact rfl) | (apply OneC.by_; (repeat' (first | exact mcs | apply mct)); done) | (apply OneC.sl; (repeat' (first | exact mcs | apply mct)); done) | (apply OneC.rw; (repeat' (first | exact mcs | apply mct)); done) | (apply OneC.row; (repeat' (first | exact Pick.head _ _ | apply Pick.tail))))))); exact rfl) | exact rfl))); exact rfl; (first | (intro _; exact (rfl : _ = Result.ok 1 _)) | (intro _; exact (rfl : _ = Result.ok 2 _)) | (intro _; exact (rfl : _ = Result.ok 3 _)) | (intro _; exact (rfl : _ = Result.ok 4 _)) | (intro _; exact (rfl : _ = Result.ok 5 _)) | (intro _; exact (rfl : _ = Result.ok 6 _)) | (intro _; exact (rfl : _ = Result.ok 7 _)) | (intro _; exact (rfl : _ = Result.ok 8 _)) | (intro _; exact (rfl : _ = Result.ok 9 _)) | (intro _; exact (rfl : _ = Result.ok 13 _)) | (intro _; exact (rfl : _ = Result.ok 14 _)) | (intro _; exact (rfl : _ = Result.ok 26 _)) | (intro _; exact (rfl : _ = Result.ok 40 _)) | (intro _; exact (rfl : _ = Result.ok 41 _)) | (intro _; exact (rfl : _ = Result.ok 42 _)) | (intro _; exact (rfl : _ = Result.ok 43 _)) | (intro _; exact (rfl : _ = Result.ok 44 _)) | (intro _; exact (rfl : _ = Result.ok 45 _)) | (intro _; exact (rfl : _ = Result.ok 46 _))); (intro _; exact rfl); exact rfl; exact Nat.le_of_ble_eq_true rfl; exact Nat.le_of_ble_eq_true rfl); skip)
  intro q1 _
  refine WL_letgo (v := q1) (by repeat' (first | exact Pick.head _ _ | apply Pick.tail)) ?_
  refine WL_ent (ent_slPK (v := q1) (ps := [nineP x1]) (by repeat' (first | exact mcs | apply mct)) rfl rfl) ?_
  refine WL_ent (ent_alP (ps := [nineP x1]) ⟨(by repeat' (first | exact mcs | apply mct)), trivial⟩) ?_
  have p1 := pack_fn q1 [nineP x1]
  rw [jk1] at p1
  (apply WL_effs; exact rfl; exact rfl; exact rfl; apply E_call; exact rfl; (intro _ _; simp); exact p1; (repeat (first | exact AllE.nil _ | (apply AllE.cons; (focus (first | exact ent_nilBy | exact ent_nilSl | (apply Ent.mem; repeat' (first | exact mcs | apply mct))))))); (intro _; exact rfl); (intro _; exact rfl))
  intro o1 _
  repeat (first | refine n1 ?_ | refine n2 (fun b _ => ?_) | refine n3 (fun _ _ => ?_) | refine n4 ?_ | refine n5 ?_ | refine WL_nil ?_ | refine W_seq ?_ | refine W_region ?_ | refine n7 ?_ | refine n8 ?_ | refine W_block ?_ | refine W_skip ?_ | refine W_ret ?_ | refine W_exit ?_ | refine WQ_then ?_ | refine WQ_then_ret ?_ | refine WQ_then_exit ?_ | refine WQ_block_normal ?_ | refine WQ_block_ret ?_ | refine WQ_block_exit ?_ | refine n9 ?_)
  (apply WL_effs; exact rfl; exact rfl; exact rfl; apply E_call; exact rfl; (intro _ _; simp); exact nine_fn; (repeat (first | exact AllE.nil _ | (apply AllE.cons; (focus (first | exact ent_nilBy | exact ent_nilSl | (apply Ent.mem; repeat' (first | exact mcs | apply mct))))))); (intro _; exact rfl); (intro _; exact rfl))
  intro x2 _
  repeat (first | refine n1 ?_ | refine n2 (fun b _ => ?_) | refine n3 (fun _ _ => ?_) | refine n4 ?_ | refine n5 ?_ | refine WL_nil ?_ | refine W_seq ?_ | refine W_region ?_ | refine n7 ?_ | refine n8 ?_ | refine W_block ?_ | refine W_skip ?_ | refine W_ret ?_ | refine W_exit ?_ | refine WQ_then ?_ | refine WQ_then_ret ?_ | refine WQ_then_exit ?_ | refine WQ_block_normal ?_ | refine WQ_block_ret ?_ | refine WQ_block_exit ?_ | refine n9 ?_)
  (apply WL_effs; exact rfl; exact rfl; exact rfl; apply E_call; exact rfl; (intro _ _; simp); exact nine_fn; (repeat (first | exact AllE.nil _ | (apply AllE.cons; (focus (first | exact ent_nilBy | exact ent_nilSl | (apply Ent.mem; repeat' (first | exact mcs | apply mct))))))); (intro _; exact rfl); (intro _; exact rfl))
  intro x3 _
  repeat (first | refine n1 ?_ | refine n2 (fun b _ => ?_) | refine n3 (fun _ _ => ?_) | refine n4 ?_ | refine n5 ?_ | refine WL_nil ?_ | refine W_seq ?_ | refine W_region ?_ | refine n7 ?_ | refine n8 ?_ | refine W_block ?_ | refine W_skip ?_ | refine W_ret ?_ | refine W_exit ?_ | refine WQ_then ?_ | refine WQ_then_ret ?_ | refine WQ_then_exit ?_ | refine WQ_block_normal ?_ | refine WQ_block_ret ?_ | refine WQ_block_exit ?_ | refine n9 ?_)
  (apply WL_effs; exact rfl; exact rfl; exact rfl; (apply E_buildSlice; exact rfl; (focus (repeat (first | apply SeqE.nil | (apply SeqE.cons; exact rfl; (focus (first | (apply CellsE.lit; exact rfl) | (apply CellsE.one; (first | (apply OneC.lit; exact rfl) | (apply OneC.by_; (repeat' (first | exact mcs | apply mct)); done) | (apply OneC.sl; (repeat' (first | exact mcs | apply mct)); done) | (apply OneC.rw; (repeat' (first | exact mcs | apply mct)); done) | (apply OneC.row; (repeat' (first | exact Pick.head _ _ | apply Pick.tail))))))); exact rfl) | exact rfl))); exact rfl; (first | (intro _; exact (rfl : _ = Result.ok 1 _)) | (intro _; exact (rfl : _ = Result.ok 2 _)) | (intro _; exact (rfl : _ = Result.ok 3 _)) | (intro _; exact (rfl : _ = Result.ok 4 _)) | (intro _; exact (rfl : _ = Result.ok 5 _)) | (intro _; exact (rfl : _ = Result.ok 6 _)) | (intro _; exact (rfl : _ = Result.ok 7 _)) | (intro _; exact (rfl : _ = Result.ok 8 _)) | (intro _; exact (rfl : _ = Result.ok 9 _)) | (intro _; exact (rfl : _ = Result.ok 13 _)) | (intro _; exact (rfl : _ = Result.ok 14 _)) | (intro _; exact (rfl : _ = Result.ok 26 _)) | (intro _; exact (rfl : _ = Result.ok 40 _)) | (intro _; exact (rfl : _ = Result.ok 41 _)) | (intro _; exact (rfl : _ = Result.ok 42 _)) | (intro _; exact (rfl : _ = Result.ok 43 _)) | (intro _; exact (rfl : _ = Result.ok 44 _)) | (intro _; exact (rfl : _ = Result.ok 45 _)) | (intro _; exact (rfl : _ = Result.ok 46 _))); (intro _; exact rfl); exact rfl; exact Nat.le_of_ble_eq_true rfl; exact Nat.le_of_ble_eq_true rfl); skip)
  intro q2 _
  refine WL_letgo (v := q2) (by repeat' (first | exact Pick.head _ _ | apply Pick.tail)) ?_
  refine WL_ent (ent_slPK (v := q2) (ps := [nineP x2, nineP x3]) (by repeat' (first | exact mcs | apply mct)) rfl rfl) ?_
  refine WL_ent (ent_alP (ps := [nineP x2, nineP x3]) ⟨(by repeat' (first | exact mcs | apply mct)), (by repeat' (first | exact mcs | apply mct)), trivial⟩) ?_
  have p2 := pack_fn q2 [nineP x2, nineP x3]
  rw [jk2] at p2
  (apply WL_effs; exact rfl; exact rfl; exact rfl; apply E_call; exact rfl; (intro _ _; simp); exact p2; (repeat (first | exact AllE.nil _ | (apply AllE.cons; (focus (first | exact ent_nilBy | exact ent_nilSl | (apply Ent.mem; repeat' (first | exact mcs | apply mct))))))); (intro _; exact rfl); (intro _; exact rfl))
  intro o2 _
  repeat (first | refine n1 ?_ | refine n2 (fun b _ => ?_) | refine n3 (fun _ _ => ?_) | refine n4 ?_ | refine n5 ?_ | refine WL_nil ?_ | refine W_seq ?_ | refine W_region ?_ | refine n7 ?_ | refine n8 ?_ | refine W_block ?_ | refine W_skip ?_ | refine W_ret ?_ | refine W_exit ?_ | refine WQ_then ?_ | refine WQ_then_ret ?_ | refine WQ_then_exit ?_ | refine WQ_block_normal ?_ | refine WQ_block_ret ?_ | refine WQ_block_exit ?_ | refine n9 ?_)
  (apply WL_effs; exact rfl; exact rfl; exact rfl; (apply E_buildSlice; exact rfl; (focus (repeat (first | apply SeqE.nil | (apply SeqE.cons; exact rfl; (focus (first | (apply CellsE.lit; exact rfl) | (apply CellsE.one; (first | (apply OneC.lit; exact rfl) | (apply OneC.by_; (repeat' (first | exact mcs | apply mct)); done) | (apply OneC.sl; (repeat' (first | exact mcs | apply mct)); done) | (apply OneC.rw; (repeat' (first | exact mcs | apply mct)); done) | (apply OneC.row; (repeat' (first | exact Pick.head _ _ | apply Pick.tail))))))); exact rfl) | exact rfl))); exact rfl; (first | (intro _; exact (rfl : _ = Result.ok 1 _)) | (intro _; exact (rfl : _ = Result.ok 2 _)) | (intro _; exact (rfl : _ = Result.ok 3 _)) | (intro _; exact (rfl : _ = Result.ok 4 _)) | (intro _; exact (rfl : _ = Result.ok 5 _)) | (intro _; exact (rfl : _ = Result.ok 6 _)) | (intro _; exact (rfl : _ = Result.ok 7 _)) | (intro _; exact (rfl : _ = Result.ok 8 _)) | (intro _; exact (rfl : _ = Result.ok 9 _)) | (intro _; exact (rfl : _ = Result.ok 13 _)) | (intro _; exact (rfl : _ = Result.ok 14 _)) | (intro _; exact (rfl : _ = Result.ok 26 _)) | (intro _; exact (rfl : _ = Result.ok 40 _)) | (intro _; exact (rfl : _ = Result.ok 41 _)) | (intro _; exact (rfl : _ = Result.ok 42 _)) | (intro _; exact (rfl : _ = Result.ok 43 _)) | (intro _; exact (rfl : _ = Result.ok 44 _)) | (intro _; exact (rfl : _ = Result.ok 45 _)) | (intro _; exact (rfl : _ = Result.ok 46 _))); (intro _; exact rfl); exact rfl; exact Nat.le_of_ble_eq_true rfl; exact Nat.le_of_ble_eq_true rfl); skip)
  intro q3 _
  refine WL_letgoB (v := q3) (bs := [7]) (by repeat' (first | exact Pick.head _ _ | apply Pick.tail)) rfl ?_
  (apply WL_effs; exact rfl; exact rfl; exact rfl; (apply E_buildSlice; exact rfl; (focus (repeat (first | apply SeqE.nil | (apply SeqE.cons; exact rfl; (focus (first | (apply CellsE.lit; exact rfl) | (apply CellsE.one; (first | (apply OneC.lit; exact rfl) | (apply OneC.by_; (repeat' (first | exact mcs | apply mct)); done) | (apply OneC.sl; (repeat' (first | exact mcs | apply mct)); done) | (apply OneC.rw; (repeat' (first | exact mcs | apply mct)); done) | (apply OneC.row; (repeat' (first | exact Pick.head _ _ | apply Pick.tail))))))); exact rfl) | exact rfl))); exact rfl; (first | (intro _; exact (rfl : _ = Result.ok 1 _)) | (intro _; exact (rfl : _ = Result.ok 2 _)) | (intro _; exact (rfl : _ = Result.ok 3 _)) | (intro _; exact (rfl : _ = Result.ok 4 _)) | (intro _; exact (rfl : _ = Result.ok 5 _)) | (intro _; exact (rfl : _ = Result.ok 6 _)) | (intro _; exact (rfl : _ = Result.ok 7 _)) | (intro _; exact (rfl : _ = Result.ok 8 _)) | (intro _; exact (rfl : _ = Result.ok 9 _)) | (intro _; exact (rfl : _ = Result.ok 13 _)) | (intro _; exact (rfl : _ = Result.ok 14 _)) | (intro _; exact (rfl : _ = Result.ok 26 _)) | (intro _; exact (rfl : _ = Result.ok 40 _)) | (intro _; exact (rfl : _ = Result.ok 41 _)) | (intro _; exact (rfl : _ = Result.ok 42 _)) | (intro _; exact (rfl : _ = Result.ok 43 _)) | (intro _; exact (rfl : _ = Result.ok 44 _)) | (intro _; exact (rfl : _ = Result.ok 45 _)) | (intro _; exact (rfl : _ = Result.ok 46 _))); (intro _; exact rfl); exact rfl; exact Nat.le_of_ble_eq_true rfl; exact Nat.le_of_ble_eq_true rfl); skip)
  intro q4 _
  refine WL_letgoB (v := q4) (bs := [8, 9]) (by repeat' (first | exact Pick.head _ _ | apply Pick.tail)) rfl ?_
  (apply WL_effs; exact rfl; exact rfl; exact rfl; (apply E_buildSlice; exact rfl; (focus (repeat (first | apply SeqE.nil | (apply SeqE.cons; exact rfl; (focus (first | (apply CellsE.lit; exact rfl) | (apply CellsE.one; (first | (apply OneC.lit; exact rfl) | (apply OneC.by_; (repeat' (first | exact mcs | apply mct)); done) | (apply OneC.sl; (repeat' (first | exact mcs | apply mct)); done) | (apply OneC.rw; (repeat' (first | exact mcs | apply mct)); done) | (apply OneC.row; (repeat' (first | exact Pick.head _ _ | apply Pick.tail))))))); exact rfl) | exact rfl))); exact rfl; (first | (intro _; exact (rfl : _ = Result.ok 1 _)) | (intro _; exact (rfl : _ = Result.ok 2 _)) | (intro _; exact (rfl : _ = Result.ok 3 _)) | (intro _; exact (rfl : _ = Result.ok 4 _)) | (intro _; exact (rfl : _ = Result.ok 5 _)) | (intro _; exact (rfl : _ = Result.ok 6 _)) | (intro _; exact (rfl : _ = Result.ok 7 _)) | (intro _; exact (rfl : _ = Result.ok 8 _)) | (intro _; exact (rfl : _ = Result.ok 9 _)) | (intro _; exact (rfl : _ = Result.ok 13 _)) | (intro _; exact (rfl : _ = Result.ok 14 _)) | (intro _; exact (rfl : _ = Result.ok 26 _)) | (intro _; exact (rfl : _ = Result.ok 40 _)) | (intro _; exact (rfl : _ = Result.ok 41 _)) | (intro _; exact (rfl : _ = Result.ok 42 _)) | (intro _; exact (rfl : _ = Result.ok 43 _)) | (intro _; exact (rfl : _ = Result.ok 44 _)) | (intro _; exact (rfl : _ = Result.ok 45 _)) | (intro _; exact (rfl : _ = Result.ok 46 _))); (intro _; exact rfl); exact rfl; exact Nat.le_of_ble_eq_true rfl; exact Nat.le_of_ble_eq_true rfl); skip)
  intro q5 _
  refine WL_letgo (v := q5) (by repeat' (first | exact Pick.head _ _ | apply Pick.tail)) ?_
  refine WL_ent (ent_slRw1 (v := q5) (by repeat' (first | exact mcs | apply mct))) ?_
  refine WL_ent (ent_alL (vs := [q3, q4]) (fs := [[7], [8, 9]]) 2 rfl ⟨(by repeat' (first | exact mcs | apply mct)), (by repeat' (first | exact mcs | apply mct)), trivial⟩) ?_
  have p3 := join_fn q5 [[7], [8, 9]] (fun i => [q3, q4].getD i undef)
  rw [jn2] at p3
  (apply WL_effs; exact rfl; exact rfl; exact rfl; apply E_call; exact rfl; (intro _ _; simp); exact p3; (repeat (first | exact AllE.nil _ | (apply AllE.cons; (focus (first | exact ent_nilBy | exact ent_nilSl | (apply Ent.mem; repeat' (first | exact mcs | apply mct))))))); (intro _; exact rfl); (intro _; exact rfl))
  intro o3 _
  repeat (first | refine n1 ?_ | refine n2 (fun b _ => ?_) | refine n3 (fun _ _ => ?_) | refine n4 ?_ | refine n5 ?_ | refine WL_nil ?_ | refine W_seq ?_ | refine W_region ?_ | refine n7 ?_ | refine n8 ?_ | refine W_block ?_ | refine W_skip ?_ | refine W_ret ?_ | refine W_exit ?_ | refine WQ_then ?_ | refine WQ_then_ret ?_ | refine WQ_then_exit ?_ | refine WQ_block_normal ?_ | refine WQ_block_ret ?_ | refine WQ_block_exit ?_ | refine n9 ?_)
  (apply WL_effs; exact rfl; exact rfl; exact rfl; (apply E_buildSlice; exact rfl; (focus (repeat (first | apply SeqE.nil | (apply SeqE.cons; exact rfl; (focus (first | (apply CellsE.lit; exact rfl) | (apply CellsE.one; (first | (apply OneC.lit; exact rfl) | (apply OneC.by_; (repeat' (first | exact mcs | apply mct)); done) | (apply OneC.sl; (repeat' (first | exact mcs | apply mct)); done) | (apply OneC.rw; (repeat' (first | exact mcs | apply mct)); done) | (apply OneC.row; (repeat' (first | exact Pick.head _ _ | apply Pick.tail))))))); exact rfl) | exact rfl))); exact rfl; (first | (intro _; exact (rfl : _ = Result.ok 1 _)) | (intro _; exact (rfl : _ = Result.ok 2 _)) | (intro _; exact (rfl : _ = Result.ok 3 _)) | (intro _; exact (rfl : _ = Result.ok 4 _)) | (intro _; exact (rfl : _ = Result.ok 5 _)) | (intro _; exact (rfl : _ = Result.ok 6 _)) | (intro _; exact (rfl : _ = Result.ok 7 _)) | (intro _; exact (rfl : _ = Result.ok 8 _)) | (intro _; exact (rfl : _ = Result.ok 9 _)) | (intro _; exact (rfl : _ = Result.ok 13 _)) | (intro _; exact (rfl : _ = Result.ok 14 _)) | (intro _; exact (rfl : _ = Result.ok 26 _)) | (intro _; exact (rfl : _ = Result.ok 40 _)) | (intro _; exact (rfl : _ = Result.ok 41 _)) | (intro _; exact (rfl : _ = Result.ok 42 _)) | (intro _; exact (rfl : _ = Result.ok 43 _)) | (intro _; exact (rfl : _ = Result.ok 44 _)) | (intro _; exact (rfl : _ = Result.ok 45 _)) | (intro _; exact (rfl : _ = Result.ok 46 _))); (intro _; exact rfl); exact rfl; exact Nat.le_of_ble_eq_true rfl; exact Nat.le_of_ble_eq_true rfl); skip)
  intro q6 _
  refine WL_letgoB (v := q6) (bs := [1, 0]) (by repeat' (first | exact Pick.head _ _ | apply Pick.tail)) rfl ?_
  have k1 := crc8_fn q6 [1, 0] (by show 2 ≤ _; omega)
  rw [c8_cell] at k1
  repeat (first | refine n1 ?_ | refine n2 (fun b _ => ?_) | refine n3 (fun _ _ => ?_) | refine n4 ?_ | refine n5 ?_ | refine n6 (k1) ?_ | refine n6v (k1) ?_ | refine WL_nil ?_ | refine W_seq ?_ | refine W_region ?_ | refine n7 ?_ | refine n8 ?_ | refine W_block ?_ | refine W_skip ?_ | refine W_ret ?_ | refine W_exit ?_ | refine WQ_then ?_ | refine WQ_then_ret ?_ | refine WQ_then_exit ?_ | refine WQ_block_normal ?_ | refine WQ_block_ret ?_ | refine WQ_block_exit ?_ | refine n9 ?_)
  (apply WL_effs; exact rfl; exact rfl; exact rfl; (apply E_buildSlice; exact rfl; (focus (repeat (first | apply SeqE.nil | (apply SeqE.cons; exact rfl; (focus (first | (apply CellsE.lit; exact rfl) | (apply CellsE.one; (first | (apply OneC.lit; exact rfl) | (apply OneC.by_; (repeat' (first | exact mcs | apply mct)); done) | (apply OneC.sl; (repeat' (first | exact mcs | apply mct)); done) | (apply OneC.rw; (repeat' (first | exact mcs | apply mct)); done) | (apply OneC.row; (repeat' (first | exact Pick.head _ _ | apply Pick.tail))))))); exact rfl) | exact rfl))); exact rfl; (first | (intro _; exact (rfl : _ = Result.ok 1 _)) | (intro _; exact (rfl : _ = Result.ok 2 _)) | (intro _; exact (rfl : _ = Result.ok 3 _)) | (intro _; exact (rfl : _ = Result.ok 4 _)) | (intro _; exact (rfl : _ = Result.ok 5 _)) | (intro _; exact (rfl : _ = Result.ok 6 _)) | (intro _; exact (rfl : _ = Result.ok 7 _)) | (intro _; exact (rfl : _ = Result.ok 8 _)) | (intro _; exact (rfl : _ = Result.ok 9 _)) | (intro _; exact (rfl : _ = Result.ok 13 _)) | (intro _; exact (rfl : _ = Result.ok 14 _)) | (intro _; exact (rfl : _ = Result.ok 26 _)) | (intro _; exact (rfl : _ = Result.ok 40 _)) | (intro _; exact (rfl : _ = Result.ok 41 _)) | (intro _; exact (rfl : _ = Result.ok 42 _)) | (intro _; exact (rfl : _ = Result.ok 43 _)) | (intro _; exact (rfl : _ = Result.ok 44 _)) | (intro _; exact (rfl : _ = Result.ok 45 _)) | (intro _; exact (rfl : _ = Result.ok 46 _))); (intro _; exact rfl); exact rfl; exact Nat.le_of_ble_eq_true rfl; exact Nat.le_of_ble_eq_true rfl); skip)
  intro q7 _
  refine WL_letgoB (v := q7) (bs := [2, 0]) (by repeat' (first | exact Pick.head _ _ | apply Pick.tail)) rfl ?_
  have k2 := crc8_fn q7 [2, 0] (by show 2 ≤ _; omega)
  rw [c8_cell] at k2
  repeat (first | refine n1 ?_ | refine n2 (fun b _ => ?_) | refine n3 (fun _ _ => ?_) | refine n4 ?_ | refine n5 ?_ | refine n6 (k2) ?_ | refine n6v (k2) ?_ | refine WL_nil ?_ | refine W_seq ?_ | refine W_region ?_ | refine n7 ?_ | refine n8 ?_ | refine W_block ?_ | refine W_skip ?_ | refine W_ret ?_ | refine W_exit ?_ | refine WQ_then ?_ | refine WQ_then_ret ?_ | refine WQ_then_exit ?_ | refine WQ_block_normal ?_ | refine WQ_block_ret ?_ | refine WQ_block_exit ?_ | refine n9 ?_)
  (apply WL_effs; exact rfl; exact rfl; exact rfl; (apply E_buildSlice; exact rfl; (focus (repeat (first | apply SeqE.nil | (apply SeqE.cons; exact rfl; (focus (first | (apply CellsE.lit; exact rfl) | (apply CellsE.one; (first | (apply OneC.lit; exact rfl) | (apply OneC.by_; (repeat' (first | exact mcs | apply mct)); done) | (apply OneC.sl; (repeat' (first | exact mcs | apply mct)); done) | (apply OneC.rw; (repeat' (first | exact mcs | apply mct)); done) | (apply OneC.row; (repeat' (first | exact Pick.head _ _ | apply Pick.tail))))))); exact rfl) | exact rfl))); exact rfl; (first | (intro _; exact (rfl : _ = Result.ok 1 _)) | (intro _; exact (rfl : _ = Result.ok 2 _)) | (intro _; exact (rfl : _ = Result.ok 3 _)) | (intro _; exact (rfl : _ = Result.ok 4 _)) | (intro _; exact (rfl : _ = Result.ok 5 _)) | (intro _; exact (rfl : _ = Result.ok 6 _)) | (intro _; exact (rfl : _ = Result.ok 7 _)) | (intro _; exact (rfl : _ = Result.ok 8 _)) | (intro _; exact (rfl : _ = Result.ok 9 _)) | (intro _; exact (rfl : _ = Result.ok 13 _)) | (intro _; exact (rfl : _ = Result.ok 14 _)) | (intro _; exact (rfl : _ = Result.ok 26 _)) | (intro _; exact (rfl : _ = Result.ok 40 _)) | (intro _; exact (rfl : _ = Result.ok 41 _)) | (intro _; exact (rfl : _ = Result.ok 42 _)) | (intro _; exact (rfl : _ = Result.ok 43 _)) | (intro _; exact (rfl : _ = Result.ok 44 _)) | (intro _; exact (rfl : _ = Result.ok 45 _)) | (intro _; exact (rfl : _ = Result.ok 46 _))); (intro _; exact rfl); exact rfl; exact Nat.le_of_ble_eq_true rfl; exact Nat.le_of_ble_eq_true rfl); skip)
  intro q8 _
  refine WL_letgoB (v := q8) (bs := [1, 0, c8 [1, 0], 78, 7, 0, 0, 0, 2, 0, c8 [2, 0], 78, 8, 9]) (by repeat' (first | exact Pick.head _ _ | apply Pick.tail)) rfl ?_
  repeat (first | refine n1 ?_ | refine n2 (fun b _ => ?_) | refine n3 (fun _ _ => ?_) | refine n4 ?_ | refine n5 ?_ | refine WL_nil ?_ | refine W_seq ?_ | refine W_region ?_ | refine n7 ?_ | refine n8 ?_ | refine W_block ?_ | refine W_skip ?_ | refine W_ret ?_ | refine W_exit ?_ | refine WQ_then ?_ | refine WQ_then_ret ?_ | refine WQ_then_exit ?_ | refine WQ_block_normal ?_ | refine WQ_block_ret ?_ | refine WQ_block_exit ?_ | refine n9 ?_)
  ((apply ret1 Tryd.results13 ( ())); (focus (first | trivial | assumption | omega)); (focus (first | exact RV_tmp rfl | (apply RV_cellN; exact rfl; (repeat' (first | exact Pick.head _ _ | apply Pick.tail)); (intro _; exact rfl); (intro _; exact rfl); exact rfl) | (apply RV_cell1; exact rfl; (repeat' (first | exact Pick.head _ _ | apply Pick.tail)); (intro _; exact rfl); exact rfl)));  (focus (first | exact rfl | (simp; done))); (focus (repeat (first | exact SubO.nil _ | (apply SubO.cons; (focus (repeat' (first | exact Pick.head _ _ | apply Pick.tail))))))); (focus (repeat (first | exact AllE.nil _ | (apply AllE.cons; (focus (first | exact ent_nilBy | exact ent_nilSl | (apply Ent.mem; repeat' (first | exact mcs | apply mct)))))))))
end Go.Proofs.YtdhbgolbfkejcaaDoor.C08

/-
  Parts of arrays in own blocks: slices of them, elements of such slices, appends onto them. No program is named here.
-/
namespace Go.Hs
open Go Go.RowKit
section
variable {C : Ctx} {fr : Fr} {Γ Γ' : List OA} {Φ : List SP} {d : Tmp} {ty : TypeId} {pos : String} {aft : Array Edge} {g : Option (Nat × Bool)}

theorem add_at (b o k : Nat) : (⟨b, o, none⟩ : Addr).add k = ⟨b, o + k, none⟩ := by
  unfold Addr.add
  by_cases h : k = 0
  · subst h; rw [if_pos rfl]; rfl
  · rw [if_neg h]
end
end Go.Hs

/-
  A call that is handed some own things and reads others. No program is named here.
-/
namespace Go.Hs
open Go Go.RowKit
section
variable {C : Ctx} {fr : Fr} {Γ : List OA} {Φ : List SP}
  {ty : TypeId} {pos : String} {aft : Array Edge} {g : Option (Nat × Bool)}
theorem Bor.ent {Γb : List OA} {Φb Φc : List SP} (h : Bor Γb Φ Φb) (hs : AllE Φc Φb) : Bor Γb Φ Φc := fun w O ho hd hΦ ψ hψ => hs ψ hψ w O (h w O ho hd hΦ)
end
end Go.Hs

/-
  Bytes copied into a part of an own block.
-/
namespace Go.Hs
open Go Go.RowKit
section
variable {C : Ctx} {fr : Fr} {Γ Γ' : List OA} {Φ : List SP} {d : Tmp} {ty : TypeId} {pos : String} {aft : Array Edge} {g : Option (Nat × Bool)}
end
end Go.Hs

/-
  Own rows of things of several cells each, told by a list of the things. No program is named here.
-/
namespace Go.Hs
open Go Go.RowKit

section
variable {V : Type} {cf : V → List Value} {S : Nat}
theorem fc_length (h : ∀ v, (cf v).length = S) : ∀ (l : List V), (l.flatMap cf).length = l.length * S
  | [] => by simp
  | v :: r => by rw [List.flatMap_cons, List.length_append, h, fc_length h r, List.length_cons, Nat.add_mul]; omega
theorem fc_drop (h : ∀ v, (cf v).length = S) (l : List V) (k : Nat) (hk : k ≤ l.length) : (l.flatMap cf).drop (k * S) = (l.drop k).flatMap cf := by
  have e := congrArg (List.flatMap cf) (List.take_append_drop k l)
  rw [List.flatMap_append] at e
  rw [← e, List.drop_left' (by rw [fc_length h, List.length_take, Nat.min_eq_left hk])]
theorem drop_cons_getD {l : List V} {k : Nat} (hk : k < l.length) (z : V) : l.drop k = l.getD k z :: l.drop (k + 1) := by
  rw [List.drop_eq_getElem_cons hk, List.getD_eq_getElem?_getD, List.getElem?_eq_getElem hk]; rfl
theorem fc_at (h : ∀ v, (cf v).length = S) (l : List V) (k : Nat) (hk : k < l.length) (z : V) : ((l.flatMap cf).drop (k * S)).take S = cf (l.getD k z) := by
  rw [fc_drop h l k (Nat.le_of_lt hk), drop_cons_getD hk z, List.flatMap_cons, List.take_left' (h _)]
theorem ent_slG {Φ : List SP} {v : Value} {l : List V} {n : Nat} {xs : List Value} (h : ∀ v, (cf v).length = S) (z : V) (hm : Sl S v n xs ∈ Φ) (hn : n = l.length) (hx : xs = l.flatMap cf) : Ent Φ (Rw S v n (fun i => cf (l.getD i z))) := fun w O hw => by
  subst hn; subst hx
  exact rwP_congr (ent_slRw hm w O hw) fun i hi => fc_at h l i hi z
theorem Bor.rowG {Φ : List SP} {v : Value} {et : TypeId} {l : List V} {n : Nat} {xs : List Value} (h : ∀ v, (cf v).length = S) (z : V) (hn : n = l.length) (hx : xs = l.flatMap cf) : Bor [.row v et S n xs] Φ (Rw S v n (fun i => cf (l.getD i z)) :: Φ) := fun w O ho hd hΦ ψ hψ => by
  subst hn; subst hx
  rcases List.mem_cons.1 hψ with rfl | hψ
  · have h1 : slP S v l.length (l.flatMap cf) w O := slP_of_row ho.1 fun k hk => hd k (fpL_cons.2 (.inl hk))
    exact rwP_congr (ent_slRw (Φ := [Sl S v l.length (l.flatMap cf)]) List.mem_cons_self w O (fun χ hχ => by
      rcases List.mem_cons.1 hχ with rfl | hχ
      · exact h1
      · cases hχ)) fun i hi => fc_at h l i hi z
  · exact hΦ ψ hψ
end
end Go.Hs

/-
  A region that draws its order, in which some operations are free: each makes something of its own, or tells lasting facts, in any order; one walk, in an order of our own, serves every order that the edges allow. No program is named here.
-/
namespace Go.Hs
open Go Go.RowKit

/-- the walk behind the settled beginning: settled operations lean on Γs alone; those of es make or write what is owned; those of us are free. -/
def PF (C : Ctx) (ops : Array Oper) (Γs : List OA) (es us : List Nat) (F : Nat → Value → List SP) (G : Nat → Value → List OA) (Q : Exit → Act → World → Prop) : List Nat → Fr → List OA → List SP → Prop
  | [], fr, Γ, Φ => WQ C .normal fr Γ Φ Q
  | i :: π, fr, Γ, Φ => ∃ o, ops[i]? = some o ∧ dstOk o.dst C.n = true ∧
      ((clsOf es us i = 0 ∧ ∃ v N, (∀ ψ ∈ N, Ent Φ ψ) ∧ ((gv ops fr o.guard = some true ∧ Runs C fr Γs Φ o v) ∨ (gv ops fr o.guard = some false ∧ v = undef)) ∧ PF C ops Γs es us F G Q π (putFr o.dst v fr) Γ (N ++ Φ)) ∨
       (clsOf es us i = 1 ∧ gv ops fr o.guard = some true ∧ ∃ (X : Type) (pf : X → Prop) (vx : X → Value) (Γ' : X → List OA) (Φ' : X → List SP), Effs C fr Γ Φ o pf vx Γ' Φ' ∧
          ∀ x, pf x → (SubO (Γ' x) Γs ∨ (π = [] ∧ ∀ j, j < ops.size → j ≠ i → depOn ops i j = true)) ∧ PF C ops Γs es us F G Q π (putFr o.dst (vx x) fr) (Γ' x) (Φ' x)) ∨
       (clsOf es us i = 2 ∧ ∀ v, PF C ops Γs es us F G Q π (putFr o.dst v fr) (G i v ++ Γ) (F i v ++ Φ)))

/-- a free operation: some value; what is told of it, what is its own. -/
def FreeE (C : Ctx) (fr : Fr) (Φ : List SP) (o : Oper) (F : Value → List SP) (G : Value → List OA) : Prop :=
  ∀ Ψ, Effs C fr [] (Φ ++ Ψ) o (X := Value) (fun _ => True) (fun v => v) G (fun v => F v ++ (Φ ++ Ψ))

def frOn (ops : Array Oper) (val : Nat → Value) (fr0 : Fr) : List Nat → Fr
  | [] => fr0
  | j :: r => putFr (dstAt ops j) (val j) (frOn ops val fr0 r)
def fsOn (F : Nat → Value → List SP) (val : Nat → Value) : List Nat → List SP
  | [] => []
  | j :: r => F j (val j) ++ fsOn F val r
def gsOn (G : Nat → Value → List OA) (val : Nat → Value) : List Nat → List OA
  | [] => []
  | j :: r => G j (val j) ++ gsOn G val r

def FSpec (C : Ctx) (ops : Array Oper) (us : List Nat) (dl : Nat → List Nat) (F : Nat → Value → List SP) (G : Nat → Value → List OA) (fr0 : Fr) (Φ0 : List SP) : Prop :=
  ∀ u ∈ us, ∃ o, ops[u]? = some o ∧ o.guard = none ∧ ∀ val, FreeE C (frOn ops val fr0 (dl u)) (fsOn F val (dl u) ++ Φ0) o (F u) (G u)

theorem fsOn_upd {F : Nat → Value → List SP} {val : Nat → Value} {i : Nat} {v : Value} : ∀ {l : List Nat}, i ∉ l → fsOn F (upd val i v) l = fsOn F val l
  | [], _ => rfl
  | j :: r, h => by
    rw [fsOn, fsOn, fsOn_upd fun hk => h (List.mem_cons_of_mem _ hk), upd_other _ _ fun (e : j = i) => h (List.mem_cons.2 (.inl e.symm))]
theorem gsOn_upd {G : Nat → Value → List OA} {val : Nat → Value} {i : Nat} {v : Value} : ∀ {l : List Nat}, i ∉ l → gsOn G (upd val i v) l = gsOn G val l
  | [], _ => rfl
  | j :: r, h => by
    rw [gsOn, gsOn, gsOn_upd fun hk => h (List.mem_cons_of_mem _ hk), upd_other _ _ fun (e : j = i) => h (List.mem_cons.2 (.inl e.symm))]
theorem fsOn_mem {F : Nat → Value → List SP} {val : Nat → Value} : ∀ {l : List Nat} {j : Nat}, j ∈ l → AllIn (F j (val j)) (fsOn F val l)
  | [], _, h => by cases h
  | k :: r, j, h => fun ψ hψ => by
    rw [fsOn]
    rcases List.mem_cons.1 h with rfl | h
    · exact List.mem_append.2 (.inl hψ)
    · exact List.mem_append.2 (.inr (fsOn_mem h ψ hψ))
theorem fsOn_nil {F : Nat → Value → List SP} {val : Nat → Value} : ∀ {l : List Nat}, (∀ j ∈ l, ∀ v, F j v = []) → fsOn F val l = []
  | [], _ => rfl
  | j :: r, h => by rw [fsOn, h j List.mem_cons_self, fsOn_nil fun k hk => h k (List.mem_cons_of_mem _ hk)]; rfl
theorem fsOn_all {F : Nat → Value → List SP} {val : Nat → Value} {Φ : List SP} : ∀ {l : List Nat}, (∀ j ∈ l, AllIn (F j (val j)) Φ) → AllIn (fsOn F val l) Φ
  | [], _ => fun _ h => by cases h
  | j :: r, h => fun ψ hψ => by
    rcases List.mem_append.1 hψ with h1 | h1
    · exact h j List.mem_cons_self ψ h1
    · exact fsOn_all (fun k hk => h k (List.mem_cons_of_mem _ hk)) ψ h1
theorem fsOn_app {F : Nat → Value → List SP} {val : Nat → Value} : ∀ {l m : List Nat}, fsOn F val (l ++ m) = fsOn F val l ++ fsOn F val m
  | [], _ => rfl
  | j :: r, m => by rw [List.cons_append, fsOn, fsOn, fsOn_app, List.append_assoc]
theorem gsOn_app {G : Nat → Value → List OA} {val : Nat → Value} : ∀ {l m : List Nat}, gsOn G val (l ++ m) = gsOn G val l ++ gsOn G val m
  | [], _ => rfl
  | j :: r, m => by rw [List.cons_append, gsOn, gsOn, gsOn_app, List.append_assoc]

/-- what is asked of the free operations' leanings. -/
structure FitF (ops : Array Oper) (es us s : List Nat) (dl : Nat → List Nat) (F : Nat → Value → List SP) (n : Nat) : Prop where
  dus : ∀ u ∈ us, ∀ j ∈ dl u, j ∈ us ∧ clsOf es us j = 2 ∧ depOn ops u j = true ∧ dstOk (dstAt ops j) n = true
  dep : ∀ u ∈ us, ∀ j, depOn ops u j = true → j ∈ s ∨ j ∈ dl u
  per : ∀ i, i < ops.size → clsOf es us i = 1 → ∀ j ∈ us, depOn ops i j = true ∨ ∀ v, F j v = []

section
variable {C : Ctx} {ops : Array Oper} {es us π0 s : List Nat} {dl : Nat → List Nat} {F : Nat → Value → List SP} {G : Nat → Value → List OA} {fr0 : Fr} {Φ0 : List SP} {Γs : List OA} {Q : Exit → Act → World → Prop}

theorem frOn_fok {a0 : Act} {val : Nat → Value} (h : fok C fr0 (puts ops a0 val s)) : ∀ {l : List Nat}, (∀ j ∈ l, dstOk (dstAt ops j) C.n = true) → fok C (frOn ops val fr0 l) (puts ops a0 val (l ++ s))
  | [], _ => h
  | j :: r, hd => by
    rw [List.cons_append, frOn, puts]
    exact (frOn_fok h fun k hk => hd k (List.mem_cons_of_mem _ hk)).putd (hd j List.mem_cons_self)

/-- the state of a drawn region, held against our walk. -/
structure SF (C : Ctx) (ops : Array Oper) (es us π0 s : List Nat) (F : Nat → Value → List SP) (G : Nat → Value → List OA) (fr0 : Fr) (Φ0 : List SP) (Γs : List OA) (Q : Exit → Act → World → Prop) (a0 : Act) (fuel : Nat) (π ps ex : List Nat) (val : Nat → Value) (fr : Fr) (Γ : List OA) (Φ : List SP)
    (el : List Nat) (listed : Array Bool) (w : World) : Prop where
  plan : π0 = ps.reverse ++ π
  lsz : listed.size = ops.size
  lex : ∀ i, i < ops.size → (listed.getD i false = true ↔ i ∈ ex)
  xlt : ∀ i ∈ ex, i < ops.size
  fu : (π0.filter fun k => !ex.contains k).length ≤ fuel
  xdep : ∀ i ∈ ex, ∀ j, depOn ops i j = true → j ∈ ex
  xps : ∀ i ∈ ex, i ∈ ps ∨ (i ∈ π ∧ i ∈ el)
  early : ∀ i ∈ el, i ∈ ex ∧ i ∈ π ∧ clsOf es us i = 2
  elnd : el.Nodup
  pend : ∀ j ∈ ps, j ∉ ex → Pend C ops Γs a0 val Φ ps j
  frm : fok C fr (puts ops a0 val ps)
  hol : Holds C (Γ ++ gsOn G val el) (fsOn F val el ++ Φ) w
  sub : SubO Γ Γs ∨ (π = [] ∧ ∀ j ∈ ps, j ∈ ex)
  walk : PF C ops Γs es us F G Q π fr Γ Φ
  base : fok C fr0 (puts ops a0 val s)
  sps : ∀ j ∈ s, j ∈ ps
  fct : AllIn Φ0 Φ
  pfct : ∀ j ∈ ps, clsOf es us j = 2 → AllIn (F j (val j)) Φ

theorem allR (Ψ Φ : List SP) : AllIn Φ (Ψ ++ Φ) := fun _ h => List.mem_append.2 (.inr h)
theorem allL (Ψ Φ : List SP) : AllIn Ψ (Ψ ++ Φ) := fun _ h => List.mem_append.2 (.inl h)
theorem AllIn.trans {Ψ Φ Θ : List SP} (h : AllIn Ψ Φ) (k : AllIn Φ Θ) : AllIn Ψ Θ := fun ψ hψ => k ψ (h ψ hψ)
theorem AllIn.app {Ψ Φ Θ : List SP} (h : AllIn Ψ Θ) (k : AllIn Φ Θ) : AllIn (Ψ ++ Φ) Θ := fun ψ hψ => (List.mem_append.1 hψ).elim (h ψ) (k ψ)

theorem SF.proper {a0 : Act} {fuel : Nat} {π ps ex : List Nat} {val : Nat → Value} {fr : Fr} {Γ : List OA} {Φ : List SP} {el : List Nat} {listed : Array Bool} {w : World}
    (T : Fit ops es us π0) (S : SF C ops es us π0 s F G fr0 Φ0 Γs Q a0 fuel π ps ex val fr Γ Φ el listed w) {i : Nat} {o : Oper} (ho : ops[i]? = some o) (hx : i ∉ ex) (hdep : ∀ j, depOn ops i j = true → j ∈ ex) : Proper ops i o ex := by
  refine ⟨hdep, fun k hk => ?_⟩
  obtain ⟨ok, hok⟩ : ∃ ok, ops[k]? = some ok := ⟨_, Array.getElem?_eq_getElem (S.xlt k hk)⟩
  have hne : k ≠ i := fun e => hx (e ▸ hk)
  rcases T.apart k i ok o hne hok ho with h | h | h
  · exact absurd (S.xdep k hk i h) hx
  · exact .inl h
  · exact .inr fun t ht => h t (by rw [← dstAt_eq hok]; exact ht)

/-- what is behind an operation in our order it does not look at. -/
theorem behind (T : Fit ops es us π0) {ps π : List Nat} (hp : π0 = ps.reverse ++ π) {i : Nat} {o : Oper} (ho : ops[i]? = some o) (hi : i ∉ ps) {k : Nat} (hk : k ∈ ps) : depOn ops i k = true ∨ ∀ t, dstAt ops k = some t → t ∉ o.looksAt ops := by
  have hklt := T.lt k (by rw [hp]; simp [hk])
  obtain ⟨ok, hok⟩ : ∃ ok, ops[k]? = some ok := ⟨_, Array.getElem?_eq_getElem hklt⟩
  rcases T.apart k i ok o (fun e => hi (e ▸ hk)) hok ho with h | h | h
  · exfalso
    obtain ⟨l1, l2, hl⟩ := List.append_of_mem (List.mem_reverse.2 hk)
    have h1 := T.ord l1 k (l2 ++ π) (by rw [hp, hl]; simp) i h
    exact hi (List.mem_reverse.1 (by rw [hl]; simp [h1]))
  · exact .inl h
  · exact .inr fun t ht => h t (by rw [← dstAt_eq hok]; exact ht)

/-- one operation is done. -/
theorem SF.step (T : Fit ops es us π0) (TF : FitF ops es us s dl F C.n) (hU : FSpec C ops us dl F G fr0 Φ0) {a0 : Act} {fuel : Nat}
    (ih : ∀ (π ps ex : List Nat) (val : Nat → Value) (fr : Fr) (Γ : List OA) (Φ : List SP) (el : List Nat) (listed : Array Bool) (w : World), SF C ops es us π0 s F G fr0 Φ0 Γs Q a0 fuel π ps ex val fr Γ Φ el listed w → wpAnyIn (fenceOf C.rd) 0 C.P .any ops Q fuel listed (puts ops a0 val ex) w)
    {π ps ex : List Nat} {val : Nat → Value} {fr : Fr} {Γ : List OA} {Φ : List SP} {el : List Nat} {listed : Array Bool} {w : World}
    (S : SF C ops es us π0 s F G fr0 Φ0 Γs Q a0 (fuel + 1) π ps ex val fr Γ Φ el listed w)
    (hst : ∀ h r, π = h :: r → h ∉ ex ∧ clsOf es us h ≠ 0) {i : Nat} (hlt : i < ops.size) (hx : i ∉ ex) (hdep : ∀ j, depOn ops i j = true → j ∈ ex) :
    wpOpIn (fenceOf C.rd) 0 C.P ops Q i (wpAnyIn (fenceOf C.rd) 0 C.P .any ops Q fuel (listed.setIfInBounds i true)) (puts ops a0 val ex) w := by
  obtain ⟨o, ho⟩ : ∃ o, ops[i]? = some o := ⟨_, Array.getElem?_eq_getElem hlt⟩
  have hprop := S.proper T ho hx hdep
  have hi0 := T.all i hlt
  have lsz' : (listed.setIfInBounds i true).size = ops.size := by simp [S.lsz]
  have lex' : ∀ j, j < ops.size → ((listed.setIfInBounds i true).getD j false = true ↔ j ∈ i :: ex) := fun j hj => by
    rw [getD_set_iff S.lsz hlt, S.lex j hj]
    simp
  have xlt' : ∀ j ∈ i :: ex, j < ops.size := fun j hj => by
    rcases List.mem_cons.1 hj with rfl | hj
    · exact hlt
    · exact S.xlt j hj
  have fu' : (π0.filter fun k => !(i :: ex).contains k).length ≤ fuel := by
    have := filter_lt (p := fun k => !ex.contains k) (q := fun k => !(i :: ex).contains k) (fun x hq => by simp at hq ⊢; exact hq.2) hi0 (by simpa using hx) (by simp)
    have := S.fu
    omega
  have xdep' : ∀ k ∈ i :: ex, ∀ j, depOn ops k j = true → j ∈ i :: ex := fun k hk j hj => by
    rcases List.mem_cons.1 hk with rfl | hk
    · exact List.mem_cons_of_mem _ (hdep j hj)
    · exact List.mem_cons_of_mem _ (S.xdep k hk j hj)
  have hmem : i ∈ ps ∨ i ∈ π := by
    rw [S.plan] at hi0
    simpa using hi0
  unfold wpOpIn
  rw [ho]
  show if Region.wanted o (yielded ops (puts ops a0 val ex).tmps) = true then _ else _
  rcases hmem with hmem | hmem
  · -- it waited
    obtain ⟨o', Φj, X, ho', hin, hT, hTp, h⟩ := S.pend i hmem hx
    obtain rfl : o = o' := by rw [ho] at ho'; injection ho' with e
    obtain ⟨e1, e2⟩ := exec_same T (a0 := a0) (val := val) ho hTp hprop
    have next : ∀ w', Holds C (Γ ++ gsOn G val el) (fsOn F val el ++ Φ) w' → SF C ops es us π0 s F G fr0 Φ0 Γs Q a0 fuel π ps (i :: ex) val fr Γ Φ el (listed.setIfInBounds i true) w' := fun w' hw' =>
      { plan := S.plan, lsz := lsz', lex := lex', xlt := xlt', fu := fu', xdep := xdep', elnd := S.elnd, frm := S.frm, hol := hw', sub := S.sub.imp_right (fun h => ⟨h.1, fun j hj => List.mem_cons_of_mem _ (h.2 j hj)⟩), walk := S.walk
        base := S.base, sps := S.sps, fct := S.fct, pfct := S.pfct
        xps := fun k hk => by
          rcases List.mem_cons.1 hk with rfl | hk
          · exact .inl hmem
          · exact S.xps k hk
        early := fun p hp => ⟨List.mem_cons_of_mem _ (S.early p hp).1, (S.early p hp).2⟩
        pend := fun j hj hjx => S.pend j hj fun hk => hjx (List.mem_cons_of_mem _ hk) }
    rcases h with ⟨hw1, hg⟩ | ⟨hw1, hv⟩
    · rw [if_pos (by rw [← e2]; exact hw1)]
      have hG := hg w (sub_holds S.hol (S.sub.resolve_right fun h => hx (h.2 i hmem)) (hin.trans (allR _ _)))
      rw [e1] at hG
      refine hG.wp fun v' w' ⟨hv, hm⟩ => ?_
      subst hv
      have := ih _ _ _ _ _ _ _ _ _ _ (next w' (S.hol.ext hm))
      rw [puts, dstAt_eq ho] at this
      exact this
    · rw [if_neg (by rw [← e2, hw1]; simp)]
      have := ih _ _ _ _ _ _ _ _ _ _ (next w S.hol)
      rw [puts, dstAt_eq ho, hv] at this
      exact ⟨fun f _ => fenceOf_fn _ f, this⟩
  · have hnps : i ∉ ps := fun h => by
      have := T.nodup
      rw [S.plan] at this
      exact (List.nodup_append.1 this).2.2 i (List.mem_reverse.2 h) i hmem rfl
    have hpps : ∀ k ∈ ps, k ≠ i := fun k hk e => hnps (e ▸ hk)
    have hns : i ∉ s := fun h => hnps (S.sps i h)
    by_cases hc : clsOf es us i = 2
    · -- a free operation
      have hius := cls_us hc
      obtain ⟨o', ho', hgd, hsp⟩ := hU i hius
      obtain rfl : o = o' := by rw [ho] at ho'; injection ho' with e
      have hdl := TF.dus i hius
      have hPr : Proper ops i o (dl i ++ s) := by
        refine ⟨fun j hj => List.mem_append.2 ((TF.dep i hius j hj).symm), fun k hk => ?_⟩
        rcases List.mem_append.1 hk with hk | hk
        · exact .inl (hdl k hk).2.2.1
        · exact behind T S.plan ho hnps (S.sps k hk)
      obtain ⟨e1, _⟩ := exec_same T (a0 := a0) (val := val) ho hPr hprop
      rw [if_pos (by simp [Region.wanted, hgd])]
      have hfk := frOn_fok S.base (l := dl i) fun j hj => (hdl j hj).2.2.2
      have hall : AllIn (fsOn F val (dl i) ++ Φ0) (fsOn F val el ++ Φ) := by
        refine AllIn.app (fsOn_all fun j hj => ?_) (S.fct.trans (allR _ _))
        rcases S.xps j (hdep j (hdl j hj).2.2.1) with h | ⟨_, h⟩
        · exact (S.pfct j h (hdl j hj).2.1).trans (allR _ _)
        · exact (fsOn_mem h).trans (allL _ _)
      have hG := (hsp val (fsOn F val el ++ Φ)).2 (Γ ++ gsOn G val el) _ w hfk ⟨S.hol.mod, S.hol.own, S.hol.ofp, S.hol.o0, fun ψ hψ => S.hol.sp ψ ((hall.app (AllIn.refl _)) ψ hψ)⟩
      rw [e1] at hG
      refine hG.wp fun v' w' ⟨x, _, hv, hw'⟩ => ?_
      subst hv
      have hnel : i ∉ el := fun h => hx (S.early i h).1
      have S' : SF C ops es us π0 s F G fr0 Φ0 Γs Q a0 fuel π ps (i :: ex) (upd val i v') fr Γ Φ (i :: el) (listed.setIfInBounds i true) w' :=
        { plan := S.plan, lsz := lsz', lex := lex', xlt := xlt', fu := fu', xdep := xdep', sub := S.sub.imp_right (fun h => ⟨h.1, fun j hj => List.mem_cons_of_mem _ (h.2 j hj)⟩), walk := S.walk
          base := by rw [puts_upd hns]; exact S.base
          sps := S.sps, fct := S.fct
          pfct := fun j hj hj2 => by rw [upd_other _ _ (hpps j hj)]; exact S.pfct j hj hj2
          xps := fun k hk => by
            rcases List.mem_cons.1 hk with rfl | hk
            · exact .inr ⟨hmem, List.mem_cons_self⟩
            · rcases S.xps k hk with h | ⟨h, hA⟩
              · exact .inl h
              · exact .inr ⟨h, List.mem_cons_of_mem _ hA⟩
          early := fun p hp => by
            rcases List.mem_cons.1 hp with rfl | hp
            · exact ⟨List.mem_cons_self, hmem, hc⟩
            · exact ⟨List.mem_cons_of_mem _ (S.early p hp).1, (S.early p hp).2⟩
          elnd := List.nodup_cons.2 ⟨hnel, S.elnd⟩
          pend := fun j hj hjx => (S.pend j hj fun hk => hjx (List.mem_cons_of_mem _ hk)).turn (fun k hk => (upd_other _ _ (hpps k hk)).symm) (upd_other _ _ (hpps j hj)).symm (AllIn.refl _) fun k hk => hk
          frm := by rw [puts_upd hnps]; exact S.frm
          hol := by
            rw [fsOn, gsOn, fsOn_upd hnel, gsOn_upd hnel, upd_same]
            have h1 : Holds C (G i v' ++ (Γ ++ gsOn G val el)) (F i v' ++ fsOn F val el ++ Φ) w' := hw'.sub fun ψ hψ => by
              rw [List.append_assoc] at hψ
              rcases List.mem_append.1 hψ with h | h
              · exact List.mem_append.2 (.inl h)
              · exact List.mem_append.2 (.inr (List.mem_append.2 (.inr h)))
            refine h1.perm ?_
            rw [← List.append_assoc, ← List.append_assoc]
            exact List.Perm.append_right _ List.perm_append_comm }
      have := ih _ _ _ _ _ _ _ _ _ _ S'
      rw [puts, dstAt_eq ho, upd_same, puts_upd hx] at this
      exact this
    · -- the walk's next
      cases hπ : π with
      | nil => rw [hπ] at hmem; cases hmem
      | cons h r =>
        obtain ⟨hhx, hh0⟩ := hst h r hπ
        have hih : i = h := by
          rw [hπ] at hmem
          rcases List.mem_cons.1 hmem with e | hr
          · exact e
          · exact absurd (hdep h (T.eff ps.reverse h r (by rw [S.plan, hπ]) hh0 i hr hc)) hhx
        subst hih
        have hpl := S.walk
        rw [hπ] at hpl
        obtain ⟨o', ho', hdo, hnode⟩ := hpl
        obtain rfl : o = o' := by rw [ho] at ho'; injection ho' with e
        rcases hnode with ⟨h0, _⟩ | ⟨hc1, hgv, X, pf, vx, Γ', Φ', heff, hk⟩ | ⟨h2, _⟩
        · exact absurd h0 hh0
        · have hpprop : Proper ops i o ps := ⟨fun j hj => by simpa using T.ord ps.reverse i r (by rw [S.plan, hπ]) j hj, fun k hk => behind T S.plan ho hnps hk⟩
          obtain ⟨e1, e2⟩ := exec_same T (a0 := a0) (val := val) ho hpprop hprop
          have hnone : fsOn F val el = [] := fsOn_nil fun j hj v => by
            obtain ⟨_, hjπ, hj2⟩ := S.early j hj
            rcases TF.per i hlt hc1 j (cls_us hj2) with h | h
            · have := T.ord ps.reverse i r (by rw [S.plan, hπ]) j h
              have hjp := List.mem_reverse.1 this
              have hnd := T.nodup
              rw [S.plan] at hnd
              exact absurd rfl ((List.nodup_append.1 hnd).2.2 j (List.mem_reverse.2 hjp) j hjπ)
            · exact h v
          rw [if_pos (by rw [← e2]; exact gv_sound S.frm hgv)]
          have hhol := S.hol
          rw [hnone, List.nil_append] at hhol
          have hG := heff.2 _ _ w S.frm hhol
          rw [e1] at hG
          refine hG.wp fun v' w' ⟨x, hpf, hv, hw'⟩ => ?_
          subst hv
          obtain ⟨hsub, hpl'⟩ := hk x hpf
          have hnel : i ∉ el := fun h => hx (S.early i h).1
          have S' : SF C ops es us π0 s F G fr0 Φ0 Γs Q a0 fuel r (i :: ps) (i :: ex) (upd val i (vx x)) (putFr o.dst (vx x) fr) (Γ' x) (Φ' x) el (listed.setIfInBounds i true) w' :=
            { plan := by rw [S.plan, hπ]; simp
              lsz := lsz', lex := lex', xlt := xlt', fu := fu', xdep := xdep', walk := hpl'
              sub := hsub.imp_right (fun h => ⟨h.1, fun j hj => by
                by_cases e : j = i
                · rw [e]; exact List.mem_cons_self
                · rcases List.mem_cons.1 hj with h' | h'
                  · exact absurd h' e
                  · exact List.mem_cons_of_mem _ (hdep j (h.2 j (T.lt j (by rw [S.plan]; simp [h'])) e))⟩)
              elnd := S.elnd
              hol := by rw [fsOn_upd hnel, gsOn_upd hnel, hnone, List.nil_append]; exact hw'
              base := by rw [puts_upd hns]; exact S.base
              sps := fun j hj => List.mem_cons_of_mem _ (S.sps j hj)
              fct := S.fct.trans (heff.1 x)
              pfct := fun j hj hj2 => by
                rcases List.mem_cons.1 hj with rfl | hj
                · exact absurd hj2 hc
                · rw [upd_other _ _ (hpps j hj)]; exact (S.pfct j hj hj2).trans (heff.1 x)
              xps := fun k hk => by
                rcases List.mem_cons.1 hk with rfl | hk
                · exact .inl List.mem_cons_self
                · rcases S.xps k hk with h | ⟨h, hA⟩
                  · exact .inl (List.mem_cons_of_mem _ h)
                  · rw [hπ] at h
                    rcases List.mem_cons.1 h with h | h
                    · exact absurd (h ▸ hk) hx
                    · exact .inr ⟨h, hA⟩
              early := fun p hp => by
                obtain ⟨h1, h2, h3⟩ := S.early p hp
                refine ⟨List.mem_cons_of_mem _ h1, ?_, h3⟩
                rw [hπ] at h2
                exact (List.mem_cons.1 h2).resolve_left fun e => hx (e ▸ h1)
              pend := fun j hj hjx => by
                rcases List.mem_cons.1 hj with rfl | hj
                · exact absurd List.mem_cons_self hjx
                · exact (S.pend j hj fun hk => hjx (List.mem_cons_of_mem _ hk)).turn (fun k hk => (upd_other _ _ (hpps k hk)).symm) (upd_other _ _ (hpps j hj)).symm (heff.1 x) fun k hk => List.mem_cons_of_mem _ hk
              frm := by
                rw [puts, upd_same, puts_upd hnps, dstAt_eq ho]
                exact S.frm.putd hdo }
          have := ih _ _ _ _ _ _ _ _ _ _ S'
          rw [puts, dstAt_eq ho, upd_same, puts_upd hx] at this
          exact this
        · exact absurd h2 hc
theorem SF.ready {a0 : Act} {fuel : Nat} {π ps ex : List Nat} {val : Nat → Value} {fr : Fr} {Γ : List OA} {Φ : List SP} {el : List Nat} {listed : Array Bool} {w : World}
    (T : Fit ops es us π0) (S : SF C ops es us π0 s F G fr0 Φ0 Γs Q a0 fuel π ps ex val fr Γ Φ el listed w) {i : Nat} (h : i ∈ Region.ready .any ops listed) : i < ops.size ∧ i ∉ ex ∧ ∀ j, depOn ops i j = true → j ∈ ex := by
  obtain ⟨hlt, hl, o, ho, hall⟩ := ready_mem h
  refine ⟨hlt, fun hx => ?_, fun j hj => ?_⟩
  · have := (S.lex i hlt).2 hx
    have hlt' : i < listed.size := by rw [S.lsz]; exact hlt
    simp [Array.getD_eq_getD_getElem?, hlt'] at this hl
    rw [this] at hl
    cases hl
  · obtain ⟨o', e, ho', he, hb, hor⟩ := T.clos i j hlt hj
    obtain rfl : o = o' := by rw [ho] at ho'; injection ho' with e
    have hle := hall e he hb
    have helt : e.on < ops.size := by
      rcases Nat.lt_or_ge e.on ops.size with h | h
      · exact h
      · have : listed[e.on]? = none := Array.getElem?_eq_none (by rw [S.lsz]; exact h)
        simp [Array.getD_eq_getD_getElem?, this] at hle
    have hex := (S.lex e.on helt).1 hle
    rcases hor with rfl | hor
    · exact hex
    · exact S.xdep _ hex j hor

/-- nothing is ready: all is done. -/
theorem SF.done {a0 : Act} {fuel : Nat} {π ps ex : List Nat} {val : Nat → Value} {fr : Fr} {Γ : List OA} {Φ : List SP} {el : List Nat} {listed : Array Bool} {w : World}
    (T : Fit ops es us π0) (S : SF C ops es us π0 s F G fr0 Φ0 Γs Q a0 fuel π ps ex val fr Γ Φ el listed w) (hr : Region.ready .any ops listed = []) : ∀ i ∈ π0, i ∈ ex := by
  have key : ∀ n l1 i l2, l1.length = n → π0 = l1 ++ i :: l2 → i ∈ ex := by
    intro n
    induction n using Nat.strongRecOn with
    | _ n ih =>
      intro l1 i l2 hn hl
      have hlt := T.lt i (by rw [hl]; simp)
      obtain ⟨o, ho⟩ : ∃ o, ops[i]? = some o := ⟨_, Array.getElem?_eq_getElem hlt⟩
      rcases Classical.em (i ∈ ex) with hx | hx
      · exact hx
      · exfalso
        have : i ∈ Region.ready .any ops listed := by
          refine mem_ready.2 ⟨?_, o, ho, fun e he hb => ?_⟩
          · have hlt' : i < listed.size := by rw [S.lsz]; exact hlt
            have h2 : ¬ listed.getD i false = true := fun h => hx ((S.lex i hlt).1 h)
            simp [Array.getD_eq_getD_getElem?, hlt'] at h2 ⊢
            exact h2
          · have hd := T.edge i o e ho he hb
            have hm := T.ord l1 i l2 hl e.on hd
            obtain ⟨m1, m2, hm2⟩ := List.append_of_mem hm
            have helt := T.lt e.on (by rw [hl, hm2]; simp)
            refine (S.lex e.on helt).2 (ih m1.length (by rw [← hn, hm2]; simp) m1 e.on (m2 ++ i :: l2) rfl (by rw [hl, hm2]; simp))
        rw [hr] at this
        cases this
  intro i hi
  obtain ⟨l1, l2, hl⟩ := List.append_of_mem hi
  exact key _ l1 i l2 rfl hl

theorem SF.fin {a0 : Act} {fuel : Nat} {π ps ex : List Nat} {val : Nat → Value} {fr : Fr} {Γ : List OA} {Φ : List SP} {el : List Nat} {listed : Array Bool} {w : World}
    (T : Fit ops es us π0) (S : SF C ops es us π0 s F G fr0 Φ0 Γs Q a0 fuel π ps ex val fr Γ Φ el listed w) (hst : ∀ h r, π = h :: r → h ∉ ex ∧ clsOf es us h ≠ 0) (hall : ∀ i ∈ π0, i ∈ ex) : Q .normal (puts ops a0 val ex) w := by
  have hπ : π = [] := by
    cases hπ : π with
    | nil => rfl
    | cons h r => exact absurd (hall h (by rw [S.plan, hπ]; simp)) (hst h r hπ).1
  subst hπ
  have hel : el = [] := by
    cases el with
    | nil => rfl
    | cons p r => have := (S.early p List.mem_cons_self).2.1; cases this
  subst hel
  have hw := S.walk
  refine hw _ w (fok_same T (fun j => ⟨fun h => hall j (by rw [S.plan]; simp [h]), fun h => ?_⟩) S.frm) (by simpa [gsOn, fsOn] using S.hol)
  rcases S.xps j h with h | ⟨h, _⟩
  · exact h
  · cases h

/-- what can be settled is settled, ahead of the next step. -/
theorem SF.settle (T : Fit ops es us π0) {a0 : Act} {fuel : Nat} {listed : Array Bool} {w : World} {ex : List Nat} {K : (Nat → Value) → Prop}
    (hK : ∀ (π ps : List Nat) (val : Nat → Value) (fr : Fr) (Γ : List OA) (Φ : List SP) (el : List Nat), SF C ops es us π0 s F G fr0 Φ0 Γs Q a0 fuel π ps ex val fr Γ Φ el listed w → (∀ h r, π = h :: r → h ∉ ex ∧ clsOf es us h ≠ 0) → K val)
    (hKc : ∀ val val', (∀ k ∈ ex, val k = val' k) → K val' → K val) :
    ∀ (π ps : List Nat) (val : Nat → Value) (fr : Fr) (Γ : List OA) (Φ : List SP) (el : List Nat), SF C ops es us π0 s F G fr0 Φ0 Γs Q a0 fuel π ps ex val fr Γ Φ el listed w → K val := by
  intro π
  induction π with
  | nil => exact fun ps val fr Γ Φ el S => hK _ _ _ _ _ _ _ S fun h r e => by cases e
  | cons i r ih =>
    intro ps val fr Γ Φ el S
    have hnd := T.nodup
    rw [S.plan] at hnd
    have hnps : i ∉ ps := fun h => (List.nodup_append.1 hnd).2.2 i (List.mem_reverse.2 h) i List.mem_cons_self rfl
    have hpps : ∀ k ∈ ps, k ≠ i := fun k hk e => hnps (e ▸ hk)
    have hns : i ∉ s := fun h => hnps (S.sps i h)
    obtain ⟨o, ho, hdo, hnode⟩ := S.walk
    have hpprop : Proper ops i o ps := ⟨fun j hj => by simpa using T.ord ps.reverse i r S.plan j hj, fun k hk => behind T S.plan ho hnps hk⟩
    rcases hnode with ⟨h0, v, N, hN, hrun, hpl⟩ | ⟨h1, _⟩ | ⟨h2, hpl⟩
    · -- settled by what is known
      have hix : i ∉ ex := fun h => by
        rcases S.xps i h with h | ⟨_, hA⟩
        · exact hnps h
        · have := (S.early _ hA).2.2
          rw [h0] at this
          cases this
      have hnel : i ∉ el := fun h => hix (S.early i h).1
      have hin : AllIn Φ (N ++ Φ) := fun ψ hψ => List.mem_append.2 (.inr hψ)
      refine hKc val (upd val i v) (fun k hk => (upd_other _ _ (fun (e : k = i) => hix (e ▸ hk))).symm) (ih (i :: ps) (upd val i v) (putFr o.dst v fr) Γ (N ++ Φ) el
        { plan := by rw [S.plan]; simp
          lsz := S.lsz, lex := S.lex, xlt := S.xlt, fu := S.fu, xdep := S.xdep, elnd := S.elnd, sub := .inl (S.sub.resolve_right fun h => by cases h.1), walk := hpl
          base := by rw [puts_upd hns]; exact S.base
          sps := fun j hj => List.mem_cons_of_mem _ (S.sps j hj)
          fct := S.fct.trans hin
          pfct := fun j hj hj2 => by
            rcases List.mem_cons.1 hj with rfl | hj
            · rw [h0] at hj2; cases hj2
            · rw [upd_other _ _ (hpps j hj)]; exact (S.pfct j hj hj2).trans hin
          hol := by
            rw [fsOn_upd hnel, gsOn_upd hnel]
            exact ⟨S.hol.mod, S.hol.own, S.hol.ofp, S.hol.o0, fun ψ hψ => by
              rcases List.mem_append.1 hψ with hψ | hψ
              · exact S.hol.sp ψ (List.mem_append.2 (.inl hψ))
              · rcases List.mem_append.1 hψ with hψ | hψ
                · exact hN ψ hψ _ _ fun χ hχ => S.hol.sp χ (List.mem_append.2 (.inr hχ))
                · exact S.hol.sp ψ (List.mem_append.2 (.inr hψ))⟩
          xps := fun k hk => by
            rcases S.xps k hk with h | ⟨h, A⟩
            · exact .inl (List.mem_cons_of_mem _ h)
            · exact .inr ⟨(List.mem_cons.1 h).resolve_left (fun (e : k = i) => hix (by rw [← e]; exact hk)), A⟩
          early := fun p hp => by
            obtain ⟨h1, h2, h3⟩ := S.early p hp
            exact ⟨h1, (List.mem_cons.1 h2).resolve_left fun e => hix (e ▸ h1), h3⟩
          pend := fun j hj hjx => by
            rcases List.mem_cons.1 hj with rfl | hj
            · refine ⟨o, Φ, ps, ho, hin, fun k hk => List.mem_cons_of_mem _ hk, hpprop, ?_⟩
              rw [puts_upd hnps, upd_same]
              rcases hrun with ⟨hg, hr⟩ | ⟨hg, hv⟩
              · refine .inl ⟨gv_sound S.frm hg, fun w' hw' => hr _ w' S.frm hw'⟩
              · exact .inr ⟨gv_sound S.frm hg, hv⟩
            · exact (S.pend j hj hjx).turn (fun k hk => (upd_other _ _ (hpps k hk)).symm) (upd_other _ _ (hpps j hj)).symm hin fun k hk => List.mem_cons_of_mem _ hk
          frm := by
            rw [puts, upd_same, puts_upd hnps, dstAt_eq ho]
            exact S.frm.putd hdo })
    · exact hK _ _ _ _ _ _ _ S fun h r' e => by
        injection e with e1 e2
        subst e1
        refine ⟨fun hx => ?_, by rw [h1]; decide⟩
        rcases S.xps i hx with h | ⟨_, hA⟩
        · exact hnps h
        · have := (S.early _ hA).2.2
          rw [h1] at this
          cases this
    · by_cases hx : i ∈ ex
      · -- what was done ahead takes its place
        have hA : i ∈ el := by
          rcases S.xps i hx with h | ⟨_, h⟩
          · exact absurd h hnps
          · exact h
        obtain ⟨e1, e2, hel⟩ := List.append_of_mem hA
        have hnd2 := S.elnd
        rw [hel] at hnd2
        have hni : ∀ p ∈ e1 ++ e2, p ≠ i := fun p hp e => by
          rw [List.nodup_append] at hnd2
          obtain ⟨_, h2, h3⟩ := hnd2
          rcases List.mem_append.1 hp with hp | hp
          · exact h3 p hp i List.mem_cons_self e
          · exact (List.nodup_cons.1 h2).1 (e ▸ hp)
        have hback : ∀ p ∈ e1 ++ e2, p ∈ el := fun p hp => by
          rw [hel]
          rcases List.mem_append.1 hp with h | h
          · exact List.mem_append.2 (.inl h)
          · exact List.mem_append.2 (.inr (List.mem_cons_of_mem _ h))
        have hin : AllIn Φ (F i (val i) ++ Φ) := allR _ _
        refine ih (i :: ps) val (putFr o.dst (val i) fr) (G i (val i) ++ Γ) (F i (val i) ++ Φ) (e1 ++ e2)
          { plan := by rw [S.plan]; simp
            lsz := S.lsz, lex := S.lex, xlt := S.xlt, fu := S.fu, xdep := S.xdep, walk := hpl (val i)
            base := S.base
            sps := fun j hj => List.mem_cons_of_mem _ (S.sps j hj)
            fct := S.fct.trans hin
            pfct := fun j hj hj2 => by
              rcases List.mem_cons.1 hj with rfl | hj
              · exact allL _ _
              · exact (S.pfct j hj hj2).trans hin
            sub := by
              obtain ⟨X, hX⟩ := S.sub.resolve_right fun h => by cases h.1
              refine .inl ⟨G i (val i) ++ X, (List.Perm.append_left _ hX).trans ?_⟩
              rw [← List.append_assoc, ← List.append_assoc]
              exact List.Perm.append_right _ List.perm_append_comm
            elnd := by
              rw [List.nodup_append] at hnd2 ⊢
              obtain ⟨h1, h2, h3⟩ := hnd2
              exact ⟨h1, (List.nodup_cons.1 h2).2, fun a ha b hb => h3 a ha b (List.mem_cons_of_mem _ hb)⟩
            hol := by
              have hh := S.hol
              rw [hel, fsOn_app, gsOn_app, fsOn, gsOn] at hh
              rw [fsOn_app, gsOn_app]
              have h1 := hh.sub (Ψ := fsOn F val e1 ++ fsOn F val e2 ++ (F i (val i) ++ Φ)) fun ψ hψ => by
                simp only [List.mem_append] at hψ ⊢
                rcases hψ with (h | h) | h | h
                · exact .inl (.inl h)
                · exact .inl (.inr (.inr h))
                · exact .inl (.inr (.inl h))
                · exact .inr h
              refine h1.perm ?_
              generalize gsOn G val e1 = A1
              generalize gsOn G val e2 = A2
              generalize G i (val i) = B
              have p1 : (A1 ++ (B ++ A2)).Perm (B ++ (A1 ++ A2)) := by
                rw [← List.append_assoc, ← List.append_assoc]
                exact List.Perm.append_right _ List.perm_append_comm
              refine (List.Perm.append_left Γ p1).trans ?_
              rw [← List.append_assoc]
              exact List.Perm.append_right _ List.perm_append_comm
            xps := fun k hk => by
              rcases S.xps k hk with h | ⟨h, hA'⟩
              · exact .inl (List.mem_cons_of_mem _ h)
              · by_cases e : k = i
                · exact .inl (e ▸ List.mem_cons_self)
                · refine .inr ⟨(List.mem_cons.1 h).resolve_left e, ?_⟩
                  rw [hel] at hA'
                  rcases List.mem_append.1 hA' with h | h
                  · exact List.mem_append.2 (.inl h)
                  · rcases List.mem_cons.1 h with h | h
                    · exact absurd h e
                    · exact List.mem_append.2 (.inr h)
            early := fun p hp => by
              obtain ⟨h1, h2, h3⟩ := S.early p (hback p hp)
              exact ⟨h1, (List.mem_cons.1 h2).resolve_left (hni p hp), h3⟩
            pend := fun j hj hjx => by
              rcases List.mem_cons.1 hj with rfl | hj
              · exact absurd hx hjx
              · exact (S.pend j hj hjx).turn (fun _ _ => rfl) rfl hin fun k hk => List.mem_cons_of_mem _ hk
            frm := by
              rw [puts, dstAt_eq ho]
              exact S.frm.putd hdo }
      · exact hK _ _ _ _ _ _ _ S fun h r' e => by
          injection e with e1 e2
          subst e1
          exact ⟨hx, by rw [h2]; decide⟩

theorem PF_main (T : Fit ops es us π0) (TF : FitF ops es us s dl F C.n) (hU : FSpec C ops us dl F G fr0 Φ0) (a0 : Act) : ∀ (fuel : Nat) (π ps ex : List Nat) (val : Nat → Value) (fr : Fr) (Γ : List OA) (Φ : List SP) (el : List Nat) (listed : Array Bool) (w : World),
    SF C ops es us π0 s F G fr0 Φ0 Γs Q a0 fuel π ps ex val fr Γ Φ el listed w → wpAnyIn (fenceOf C.rd) 0 C.P .any ops Q fuel listed (puts ops a0 val ex) w := by
  intro fuel
  induction fuel with
  | zero =>
    intro π ps ex val fr Γ Φ el listed w S
    refine SF.settle T (K := fun val => wpAnyIn (fenceOf C.rd) 0 C.P .any ops Q 0 listed (puts ops a0 val ex) w) ?_ (fun v v' h hk => by rw [puts_congr ex h]; exact hk) π ps val fr Γ Φ el S
    intro π ps val fr Γ Φ el S hst
    have hall : ∀ i ∈ π0, i ∈ ex := fun i hi => by
      rcases Classical.em (i ∈ ex) with h | h
      · exact h
      · have : i ∈ π0.filter fun k => !ex.contains k := List.mem_filter.2 ⟨hi, by simpa using h⟩
        have h0 := List.length_pos_of_mem this
        have := S.fu
        omega
    refine ⟨?_, S.fin T hst hall⟩
    cases hr : Region.ready .any ops listed with
    | nil => rfl
    | cons i r =>
      obtain ⟨h1, h2, _⟩ := S.ready T (i := i) (by rw [hr]; exact List.mem_cons_self)
      exact absurd (hall i (T.all i h1)) h2
  | succ fuel ih =>
    intro π ps ex val fr Γ Φ el listed w S
    refine SF.settle T (K := fun val => wpAnyIn (fenceOf C.rd) 0 C.P .any ops Q (fuel + 1) listed (puts ops a0 val ex) w) ?_ (fun v v' h hk => by rw [puts_congr ex h]; exact hk) π ps val fr Γ Φ el S
    intro π ps val fr Γ Φ el S hst
    refine ⟨fun hr => S.fin T hst (S.done T hr), fun i hi => ?_⟩
    obtain ⟨h1, h2, h3⟩ := S.ready T hi
    exact SF.step T TF hU ih S hst h1 h2 h3

/-- the settled beginning; what is known behind it serves the free operations. -/
def PS (C : Ctx) (ops : Array Oper) (Γs : List OA) (es us : List Nat) (Γ : List OA) (K : Fr → List SP → Prop) : List Nat → Fr → List SP → Prop
  | [], fr, Φ => K fr Φ
  | i :: s, fr, Φ => ∃ o, ops[i]? = some o ∧ dstOk o.dst C.n = true ∧ clsOf es us i = 0 ∧ ∃ v N, (∀ ψ ∈ N, Ent Φ ψ) ∧ ((gv ops fr o.guard = some true ∧ Runs C fr Γs Φ o v) ∨ (gv ops fr o.guard = some false ∧ v = undef)) ∧ PS C ops Γs es us Γ K s (putFr o.dst v fr) (N ++ Φ)

/-- behind the settled beginning. -/
theorem PS.go (T : Fit ops es us π0) {a0 : Act} {w : World} {Γ : List OA} {K : Fr → List SP → Prop} {R : Prop} :
    ∀ (s2 : List Nat) (ps : List Nat) (val : Nat → Value) (fr : Fr) (Φ : List SP) (π1 : List Nat), π0 = ps.reverse ++ (s2 ++ π1) → (∀ j ∈ ps, clsOf es us j = 0) → fok C fr (puts ops a0 val ps) → Holds C Γ Φ w → (∀ j ∈ ps, Pend C ops Γs a0 val Φ ps j) → PS C ops Γs es us Γ K s2 fr Φ →
      (∀ (val' : Nat → Value) (fr' : Fr) (Φ' : List SP), fok C fr' (puts ops a0 val' (s2.reverse ++ ps)) → Holds C Γ Φ' w → (∀ j ∈ s2.reverse ++ ps, Pend C ops Γs a0 val' Φ' (s2.reverse ++ ps) j) → (∀ j ∈ s2.reverse ++ ps, clsOf es us j = 0) → K fr' Φ' → R) → R := by
  intro s2
  induction s2 with
  | nil => exact fun ps val fr Φ π1 _ hc hf hh hp hs hR => hR val fr Φ hf hh hp hc hs
  | cons i r ih =>
    intro ps val fr Φ π1 hpl hc hf hh hp ⟨o, ho, hdo, h0, v, N, hN, hrun, hs⟩ hR
    have hnd := T.nodup
    rw [hpl] at hnd
    have hnps : i ∉ ps := fun h => (List.nodup_append.1 hnd).2.2 i (List.mem_reverse.2 h) i (by simp) rfl
    have hpps : ∀ k ∈ ps, k ≠ i := fun k hk e => hnps (e ▸ hk)
    have hpprop : Proper ops i o ps := ⟨fun j hj => by simpa using T.ord ps.reverse i (r ++ π1) hpl j hj, fun k hk => behind T hpl ho hnps hk⟩
    have hin : AllIn Φ (N ++ Φ) := fun ψ hψ => List.mem_append.2 (.inr hψ)
    refine ih (i :: ps) (upd val i v) (putFr o.dst v fr) (N ++ Φ) π1 (by rw [hpl]; simp) (fun j hj => ?_) ?_ ?_ (fun j hj => ?_) hs fun val' fr' Φ' h1 h2 h3 h4 h5 => hR val' fr' Φ' (by simpa using h1) h2 (by simpa using h3) (by simpa using h4) h5
    · rcases List.mem_cons.1 hj with rfl | hj
      · exact h0
      · exact hc j hj
    · rw [puts, upd_same, puts_upd hnps, dstAt_eq ho]
      exact hf.putd hdo
    · exact ⟨hh.mod, hh.own, hh.ofp, hh.o0, fun ψ hψ => (List.mem_append.1 hψ).elim (fun h => hN ψ h _ _ hh.sp) (hh.sp ψ)⟩
    · rcases List.mem_cons.1 hj with rfl | hj
      · refine ⟨o, Φ, ps, ho, hin, fun k hk => List.mem_cons_of_mem _ hk, hpprop, ?_⟩
        rw [puts_upd hnps, upd_same]
        rcases hrun with ⟨hg, hr⟩ | ⟨hg, hv⟩
        · exact .inl ⟨gv_sound hf hg, fun w' hw' => hr _ w' hf hw'⟩
        · exact .inr ⟨gv_sound hf hg, hv⟩
      · exact (hp j hj).turn (fun k hk => (upd_other _ _ (hpps k hk)).symm) (upd_other _ _ (hpps j hj)).symm hin fun k hk => List.mem_cons_of_mem _ hk

/-- the free operations' leanings, by reckoning: nf names those of which nothing is told. -/
def chkF (ops : Array Oper) (es us s nf : List Nat) (dl : Nat → List Nat) (n : Nat) : Bool :=
  let D := Region.before ops
  D.size == ops.size && (us.all fun u => ((dl u).all fun j => us.contains j && clsOf es us j == 2 && (D.getD u 0).testBit j && dstOk (dstAt ops j) n) && ((List.range ops.size).all fun j => !((D.getD u 0).testBit j) || s.contains j || (dl u).contains j)) &&
  ((List.range ops.size).all fun i => clsOf es us i != 1 || us.all fun j => (D.getD i 0).testBit j || nf.contains j)

theorem fitF_of_chk {nf : List Nat} {n : Nat} (T : Fit ops es us π0) (hc : chkF ops es us s nf dl n = true) (hnf : ∀ j ∈ nf, ∀ v, F j v = []) : FitF ops es us s dl F n := by
  simp only [chkF, Bool.and_eq_true, List.all_eq_true, List.mem_range] at hc
  obtain ⟨⟨h0, h1⟩, h2⟩ := hc
  refine ⟨fun u hu j hj => ?_, fun u hu j hj => ?_, fun i hi hc1 j hj => ?_⟩
  · have := (h1 u hu).1 j hj
    obtain ⟨⟨⟨a, b⟩, c⟩, d⟩ := this
    exact ⟨by simpa using a, by simpa using b, c, d⟩
  · have hjlt : j < ops.size := by
      by_cases hlt : u < ops.size
      · obtain ⟨l1, l2, hl⟩ := List.append_of_mem (T.all u hlt)
        have := T.ord l1 u l2 hl j hj
        exact T.lt j (by rw [hl]; simp [this])
      · exfalso
        unfold depOn at hj
        have hs : (Region.before ops).size = ops.size := by simpa using h0
        have : (Region.before ops)[u]? = none := Array.getElem?_eq_none (by rw [hs]; omega)
        simp [Array.getD_eq_getD_getElem?, this] at hj
    have := (h1 u hu).2 j hjlt
    unfold depOn at hj
    rw [hj] at this
    simpa using this
  · have := h2 i hi
    rw [hc1] at this
    simp only [bne_self_eq_false, Bool.false_or, List.all_eq_true] at this
    rcases Bool.or_eq_true .. |>.mp (this j hj) with h | h
    · exact .inl h
    · exact .inr (hnf j (by simpa using h))

theorem W_regionF {id : Nat} {l : List Oper} {fr : Fr} {Γ : List OA} {Φ : List SP} (es us s π1 nf : List Nat) (dl : Nat → List Nat) (F : Nat → Value → List SP) (G : Nat → Value → List OA) (Γs : List OA) (hm : C.P.follows .mixedOrders = true) (hc : chk l.toArray es us (s ++ π1) = true) (hcf : chkF l.toArray es us s nf dl C.n = true) (hnf : ∀ j ∈ nf, ∀ v, F j v = []) (hs : SubO Γ Γs)
    (h : PS C l.toArray Γs es us Γ (fun fr0 Φ0 => FSpec C l.toArray us dl F G fr0 Φ0 ∧ PF C l.toArray Γs es us F G Q π1 fr0 Γ Φ0) s fr Φ) : W C (.region id l.toArray true) fr Γ Φ Q := by
  intro a w ha hw
  have T := fit_of_chk hc
  refine wpIn_region_any hm ?_
  have hw1 : Holds C Γ Φ { w with drawn := w.drawn + 1 } := hw.ext (w' := { w with drawn := w.drawn + 1 }) ⟨rfl, rfl, rfl, Nat.le_refl _, fun _ _ _ => rfl⟩
  refine PS.go T (a0 := a) (w := { w with drawn := w.drawn + 1 }) s [] (fun _ => undef) fr Φ π1 rfl (fun _ h => by cases h) ha hw1 (fun _ h => by cases h) h fun val fr0 Φ0 hf hh hp hcl ⟨hU, hP⟩ => ?_
  rw [List.append_nil] at hf hp hcl
  have TF := fitF_of_chk (F := F) (s := s) (n := C.n) T hcf hnf
  have TF' : FitF l.toArray es us s.reverse dl F C.n := ⟨TF.dus, fun u hu j hj => (TF.dep u hu j hj).imp_left List.mem_reverse.2, TF.per⟩
  refine PF_main (Γs := Γs) (Q := Q) T TF' hU a _ π1 s.reverse [] val fr0 Γ Φ0 [] _ _ { plan := (by simp), lsz := (by simp), lex := ?_, xlt := (fun _ h => by cases h), fu := ?_, xdep := (fun _ h => by cases h), xps := (fun _ h => by cases h), early := (fun _ h => by cases h), elnd := List.nodup_nil, pend := (fun j hj _ => hp j hj), frm := hf, hol := (by simpa [gsOn, fsOn] using hh), sub := .inl hs, walk := hP, base := hf, sps := (fun _ h => h), fct := AllIn.refl _, pfct := (fun j hj h2 => by have := hcl j hj; rw [this] at h2; cases h2) }
  · intro i hi
    have hi' : i < l.length := by simpa using hi
    simp [Array.getD_eq_getD_getElem?, hi']
  · have := T.len
    refine Nat.le_trans (List.length_filter_le _ _) ?_
    simpa using this

end
end Go.Hs

/-
  The steps of a walk through a region with free operations. No program is named here.
-/
namespace Go.Hs
open Go Go.RowKit
section
variable {C : Ctx} {ops : Array Oper} {o : Oper} {d : Nat} {v : Value} {fr fr0 fr1 : Fr} {Γ Γs : List OA} {Φ : List SP} {Q : Exit → Act → World → Prop} {ψ : SP}
  {X : Type} {pf : X → Prop} {vx : X → Value} {Γ' : X → List OA} {Φ' : X → List SP} {es us π s : List Nat} {i : Nat} {F : Nat → Value → List SP} {G : Nat → Value → List OA} {K : Fr → List SP → Prop}

theorem PS_nil (h : K fr Φ) : PS C ops Γs es us Γ K [] fr Φ := h
theorem PS_runs (he : clsOf es us i = 0) (ho : lget ops.toList i = some o) (hg : gv ops fr o.guard = some true) (hd : o.dst = some d) (hn : Nat.blt d C.n = true) (h : Runs C fr Γs Φ o v) (k : PS C ops Γs es us Γ K s ((d, v) :: fr) Φ) : PS C ops Γs es us Γ K (i :: s) fr Φ :=
  ⟨o, lget_ops ho, by rw [hd]; exact hn, he, v, [], (fun _ h => by cases h), .inl ⟨hg, h⟩, by rw [hd]; exact k⟩
theorem PS_runsF (he : clsOf es us i = 0) (ho : lget ops.toList i = some o) (hg : gv ops fr o.guard = some true) (hd : o.dst = some d) (hn : Nat.blt d C.n = true) (h : Runs C fr Γs Φ o v ∧ Ent Φ ψ) (k : PS C ops Γs es us Γ K s ((d, v) :: fr) (ψ :: Φ)) : PS C ops Γs es us Γ K (i :: s) fr Φ :=
  ⟨o, lget_ops ho, by rw [hd]; exact hn, he, v, [ψ], (fun χ hχ => by rcases List.mem_cons.1 hχ with rfl | hχ; exact h.2; cases hχ), .inl ⟨hg, h.1⟩, by rw [hd]; exact k⟩
theorem PS_pass (he : clsOf es us i = 0) (ho : lget ops.toList i = some o) (hg : gv ops fr o.guard = some false) (hd : o.dst = some d) (hn : Nat.blt d C.n = true) (k : PS C ops Γs es us Γ K s ((d, undef) :: fr) Φ) : PS C ops Γs es us Γ K (i :: s) fr Φ :=
  ⟨o, lget_ops ho, by rw [hd]; exact hn, he, undef, [], (fun _ h => by cases h), .inr ⟨hg, rfl⟩, by rw [hd]; exact k⟩

theorem PF_nil (h : WQ C .normal fr Γ Φ Q) : PF C ops Γs es us F G Q [] fr Γ Φ := h
theorem PF_runs (he : clsOf es us i = 0) (ho : lget ops.toList i = some o) (hg : gv ops fr o.guard = some true) (hd : o.dst = some d) (hn : Nat.blt d C.n = true) (h : Runs C fr Γs Φ o v)
    (k : PF C ops Γs es us F G Q π ((d, v) :: fr) Γ Φ) : PF C ops Γs es us F G Q (i :: π) fr Γ Φ :=
  ⟨o, lget_ops ho, by rw [hd]; exact hn, .inl ⟨he, v, [], (fun _ h => by cases h), .inl ⟨hg, h⟩, by rw [hd]; exact k⟩⟩
theorem PF_runsF (he : clsOf es us i = 0) (ho : lget ops.toList i = some o) (hg : gv ops fr o.guard = some true) (hd : o.dst = some d) (hn : Nat.blt d C.n = true) (h : Runs C fr Γs Φ o v ∧ Ent Φ ψ)
    (k : PF C ops Γs es us F G Q π ((d, v) :: fr) Γ (ψ :: Φ)) : PF C ops Γs es us F G Q (i :: π) fr Γ Φ :=
  ⟨o, lget_ops ho, by rw [hd]; exact hn, .inl ⟨he, v, [ψ], (fun χ hχ => by rcases List.mem_cons.1 hχ with rfl | hχ; exact h.2; cases hχ), .inl ⟨hg, h.1⟩, by rw [hd]; exact k⟩⟩
theorem PF_pass (he : clsOf es us i = 0) (ho : lget ops.toList i = some o) (hg : gv ops fr o.guard = some false) (hd : o.dst = some d) (hn : Nat.blt d C.n = true)
    (k : PF C ops Γs es us F G Q π ((d, undef) :: fr) Γ Φ) : PF C ops Γs es us F G Q (i :: π) fr Γ Φ :=
  ⟨o, lget_ops ho, by rw [hd]; exact hn, .inl ⟨he, undef, [], (fun _ h => by cases h), .inr ⟨hg, rfl⟩, by rw [hd]; exact k⟩⟩
theorem PF_effs (he : clsOf es us i = 1) (ho : lget ops.toList i = some o) (hg : gv ops fr o.guard = some true) (hd : o.dst = some d) (hn : Nat.blt d C.n = true)
    (h : Effs C fr Γ Φ o pf vx Γ' Φ') (hs : ∀ x, SubO (Γ' x) Γs) (k : ∀ x, pf x → PF C ops Γs es us F G Q π ((d, vx x) :: fr) (Γ' x) (Φ' x)) : PF C ops Γs es us F G Q (i :: π) fr Γ Φ :=
  ⟨o, lget_ops ho, by rw [hd]; exact hn, .inr (.inl ⟨he, hg, X, pf, vx, Γ', Φ', h, fun x hx => ⟨.inl (hs x), by rw [hd]; exact k x hx⟩⟩)⟩
theorem PF_do (he : clsOf es us i = 1) (ho : lget ops.toList i = some o) (hg : gv ops fr o.guard = some true) (hd : o.dst = none)
    (h : Effs C fr Γ Φ o pf vx Γ' Φ') (hs : ∀ x, SubO (Γ' x) Γs) (k : ∀ x, pf x → PF C ops Γs es us F G Q π fr (Γ' x) (Φ' x)) : PF C ops Γs es us F G Q (i :: π) fr Γ Φ :=
  ⟨o, lget_ops ho, by rw [hd]; rfl, .inr (.inl ⟨he, hg, X, pf, vx, Γ', Φ', h, fun x hx => ⟨.inl (hs x), by rw [hd]; exact k x hx⟩⟩)⟩
/-- a free operation in its place. -/
theorem PF_free {Γ1 : Value → List OA} {Φ1 : Value → List SP} (he : clsOf es us i = 2) (ho : lget ops.toList i = some o) (hd : o.dst = some d) (hn : Nat.blt d C.n = true)
    (hG : ∀ v, appO (G i v) Γ = some (Γ1 v)) (hF : ∀ v, appO (F i v) Φ = some (Φ1 v)) (k : ∀ v, PF C ops Γs es us F G Q π ((d, v) :: fr) (Γ1 v) (Φ1 v)) : PF C ops Γs es us F G Q (i :: π) fr Γ Φ :=
  ⟨o, lget_ops ho, by rw [hd]; exact hn, .inr (.inr ⟨he, fun v => by rw [hd, appO_eq (hG v), appO_eq (hF v)]; exact k v⟩)⟩

/-- the frame of a free operation, reckoned to the end. -/
def frOnO (ops : Array Oper) (val : Nat → Value) (fr0 : Fr) : List Nat → Option Fr
  | [] => some fr0
  | j :: r => match lget ops.toList j with
    | some o => match o.dst with
      | some d => match frOnO ops val fr0 r with
        | some f => some ((d, val j) :: f)
        | none => none
      | none => frOnO ops val fr0 r
    | none => none
theorem frOnO_eq {val : Nat → Value} : ∀ {l : List Nat} {f : Fr}, frOnO ops val fr0 l = some f → frOn ops val fr0 l = f
  | [], f, h => by injection h
  | j :: r, f, h => by
    rw [frOn]
    rw [frOnO] at h
    cases ho : lget ops.toList j with
    | none => rw [ho] at h; cases h
    | some o =>
      rw [ho] at h
      rw [dstAt_eq (lget_ops ho)]
      simp only at h
      cases hd : o.dst with
      | none => rw [hd] at h; exact frOnO_eq h
      | some d =>
        rw [hd] at h
        simp only at h
        cases hr : frOnO ops val fr0 r with
        | none => rw [hr] at h; cases h
        | some g =>
          rw [hr] at h
          injection h with h
          rw [← h, frOnO_eq hr]
          rfl

theorem FSpec.nil {dl : Nat → List Nat} {Φ0 : List SP} : FSpec C ops [] dl F G fr0 Φ0 := fun _ h => by cases h
theorem FSpec.cons {u : Nat} {dl : Nat → List Nat} {Φ0 : List SP} {frv : (Nat → Value) → Fr} {Φv : (Nat → Value) → List SP → List SP} {Φw : List SP → List SP} (ho : lget ops.toList u = some o) (hg : o.guard = none)
    (hf : ∀ val, frOnO ops val fr0 (dl u) = some (frv val)) (hw : ∀ Ψ, appO Φ0 Ψ = some (Φw Ψ)) (hv : ∀ val Ψ, appO (fsOn F val (dl u)) (Φw Ψ) = some (Φv val Ψ))
    (h : ∀ val Ψ, Effs C (frv val) [] (Φv val Ψ) o (X := Value) (fun _ => True) (fun v => v) (G u) (fun v => F u v ++ Φv val Ψ)) (k : FSpec C ops us dl F G fr0 Φ0) : FSpec C ops (u :: us) dl F G fr0 Φ0 := fun j hj => by
  rcases List.mem_cons.1 hj with rfl | hj
  · refine ⟨o, lget_ops ho, hg, fun val Ψ => ?_⟩
    rw [frOnO_eq (hf val), List.append_assoc, appO_eq (hw Ψ), appO_eq (hv val Ψ)]
    exact h val Ψ
  · exact k j hj

/-- what is made is told as lasting. -/
theorem Effs.tell {o : Oper} {Γ1 : List OA} {pf : Value → Prop} {vx : Value → Value} {t : TypeId} {size n : Nat} {xs : List Value} (h : Effs C fr Γ Φ o (X := Value) pf vx (fun v => .row (vx v) t size n xs :: Γ1) (fun _ => Φ)) : Effs C fr Γ Φ o (X := Value) pf vx (fun _ => Γ1) (fun v => Sl size (vx v) n xs :: Φ) :=
  ⟨fun _ ψ hψ => List.mem_cons_of_mem _ hψ, fun R a w ha hw => (h.2 R a w ha hw).mono fun _ _ ⟨x, hp, hv, hw'⟩ => ⟨x, hp, hv, Holds.letgo hw'⟩⟩
theorem Effs.tellB {o : Oper} {Γ1 : List OA} {pf : Value → Prop} {vx : Value → Value} {t : TypeId} {n : Nat} {xs : List Value} {bs : List UInt8} (h : Effs C fr Γ Φ o (X := Value) pf vx (fun v => .row (vx v) t 1 n xs :: Γ1) (fun _ => Φ)) (hb : xs = bs.map bcell) : Effs C fr Γ Φ o (X := Value) pf vx (fun _ => Γ1) (fun v => By (vx v) bs :: Φ) :=
  ⟨fun _ ψ hψ => List.mem_cons_of_mem _ hψ, fun R a w ha hw => (h.2 R a w ha hw).mono fun _ _ ⟨x, hp, hv, hw'⟩ => ⟨x, hp, hv, Holds.letgoB hw' hb⟩⟩
end
end Go.Hs

/-
  Rules for walks: what 'make' lays.
-/
namespace Go.Hs
open Go Go.RowKit
theorem made_one (c : Value) (k : Nat) : (madeCells #[c] k).toList = List.replicate k c := by
  unfold madeCells
  rw [Array.toList_map, Array.toList_range, List.eq_replicate_iff]
  refine ⟨by rw [List.length_map, List.length_range], fun b hb => ?_⟩
  obtain ⟨i, _, rfl⟩ := List.mem_map.1 hb
  show (#[c])[i % 1]! = c
  rw [Nat.mod_one]
  rfl
theorem made_u8 (k : Nat) : (madeCells (Value.int .u8 0).cells (k * 1)).toList.take (k * 1) = (List.replicate k (0 : UInt8)).map bcell := by
  rw [Nat.mul_one, show (Value.int .u8 0).cells = #[.int .u8 0] from rfl, made_one, List.take_of_length_le (by rw [List.length_replicate]; exact Nat.le_refl _), List.map_replicate]
  rfl
end Go.Hs

/-
  Rules for walks: an operation with a settled value, taken as an effect.
-/
namespace Go.Hs
open Go Go.RowKit
theorem SubO.self : ∀ Γ : List OA, SubO Γ Γ
  | [] => SubO.nil _
  | _ :: Γ => SubO.cons (Pick.head _ _) (SubO.self Γ)
end Go.Hs

/-
  The steps of a walk through a region with free operations, with the reckoning of each side goal by default. No program is named here.
-/
namespace Go.Hs
open Go Go.RowKit
attribute [local irreducible] WL W WQ PL PS PF Runs Effs AllE Ent SubO FrIn Pick OneC Ones CellsE PartsE SeqE UZ By Sl Pt Ct
section
variable {C : Ctx} {ops : Array Oper} {o : Oper} {d : Nat} {v : Value} {fr : Fr} {Γ Γs : List OA} {Φ : List SP} {Q : Exit → Act → World → Prop} {ψ : SP}
  {X : Type} {pf : X → Prop} {vx : X → Value} {Γ' : X → List OA} {Φ' : X → List SP} {es us π s : List Nat} {i : Nat} {F : Nat → Value → List SP} {G : Nat → Value → List OA} {K : Fr → List SP → Prop}

theorem fs1 (k : PS C ops Γs es us Γ K s ((d, v) :: fr) Φ) (he : clsOf es us i = 0 := by exact rfl) (ho : lget ops.toList i = some o := by exact rfl) (hg : gv ops fr o.guard = some true := by exact rfl) (hd : o.dst = some d := by exact rfl) (hn : Nat.blt d C.n = true := by exact rfl)
    (h : Runs C fr Γs Φ o v := by (first | (apply Go.Hs.R_move; exact rfl) | (apply Go.Hs.R_assign; exact rfl) | (apply Go.Hs.R_extract; exact rfl; exact rfl) | (apply Go.Hs.R_pick_t; exact rfl; exact rfl) | (apply Go.Hs.R_pick_f; exact rfl; exact rfl) | (apply Go.Hs.G_bin; (first | (apply Go.Hs.R_cmp; exact rfl; exact rfl; exact rfl; (first | exact decide_eq_true (by omega) | exact decide_eq_false (by omega) | exact rfl)) | (apply Go.Hs.R_ari; exact rfl; exact rfl; exact rfl; (first | exact Go.Hs.wx_i64 (by omega) | exact Go.Hs.wx_u8 (by omega) | exact Go.Hs.wx_u64 (by omega) | exact Go.Hs.wx_u32 (by omega) | exact Go.Hs.wx_u16 (by omega) | exact Go.Hs.wx_b8 _ | exact rfl)) | (apply Go.Hs.R_eqB; exact rfl; exact rfl; exact rfl; exact rfl) | (apply Go.Hs.R_neB; exact rfl; exact rfl; exact rfl; exact rfl) | (apply Go.Hs.R_eqS; exact rfl; exact rfl; (first | exact decide_eq_true rfl | exact decide_eq_true (by assumption) | exact decide_eq_false (by assumption) | exact rfl)) | (apply Go.Hs.R_neS; exact rfl; exact rfl; (first | exact Go.Hs.neS_f rfl | exact Go.Hs.neS_f (by assumption) | exact Go.Hs.neS_t (by assumption) | exact rfl)) | (apply Go.Hs.R_addS; exact rfl; exact rfl; (first | omega | (simp only [List.length_take, List.length_drop, List.length_append, List.length_cons, List.length_nil, List.length_map, List.length_replicate]; omega))) | (apply Go.Hs.R_eqA; exact rfl; exact rfl; exact rfl; exact rfl; (first | exact rfl | kernel_rfl); (first | exact rfl | kernel_rfl); (first | exact rfl | kernel_rfl); (first | exact Go.Hs.Bc.self _ | exact Go.Hs.Bc.zero | exact Go.Hs.Bc.lit _ rfl); (first | exact Go.Hs.Bc.self _ | exact Go.Hs.Bc.zero | exact Go.Hs.Bc.lit _ rfl); (first | exact Go.Hs.Bc.self _ | exact Go.Hs.Bc.zero | exact Go.Hs.Bc.lit _ rfl); (first | exact Go.Hs.Bc.self _ | exact Go.Hs.Bc.zero | exact Go.Hs.Bc.lit _ rfl); (first | exact Go.Hs.Bc.self _ | exact Go.Hs.Bc.zero | exact Go.Hs.Bc.lit _ rfl); (first | exact Go.Hs.Bc.self _ | exact Go.Hs.Bc.zero | exact Go.Hs.Bc.lit _ rfl); (first | exact Go.Hs.Bc.self _ | exact Go.Hs.Bc.zero | exact Go.Hs.Bc.lit _ rfl); (first | exact Go.Hs.Bc.self _ | exact Go.Hs.Bc.zero | exact Go.Hs.Bc.lit _ rfl); (first | exact Go.Hs.Bc.self _ | exact Go.Hs.Bc.zero | exact Go.Hs.Bc.lit _ rfl); (first | exact Go.Hs.Bc.self _ | exact Go.Hs.Bc.zero | exact Go.Hs.Bc.lit _ rfl); (first | exact Go.Hs.Bc.self _ | exact Go.Hs.Bc.zero | exact Go.Hs.Bc.lit _ rfl); (first | exact Go.Hs.Bc.self _ | exact Go.Hs.Bc.zero | exact Go.Hs.Bc.lit _ rfl); (first | exact decide_eq_true (by assumption) | exact decide_eq_false (by assumption) | exact decide_eq_true rfl | exact decide_eq_false (by decide) | exact rfl)) | (apply Go.Hs.R_neA; exact rfl; exact rfl; exact rfl; exact rfl; (first | exact rfl | kernel_rfl); (first | exact rfl | kernel_rfl); (first | exact rfl | kernel_rfl); (first | exact Go.Hs.Bc.self _ | exact Go.Hs.Bc.zero | exact Go.Hs.Bc.lit _ rfl); (first | exact Go.Hs.Bc.self _ | exact Go.Hs.Bc.zero | exact Go.Hs.Bc.lit _ rfl); (first | exact Go.Hs.Bc.self _ | exact Go.Hs.Bc.zero | exact Go.Hs.Bc.lit _ rfl); (first | exact Go.Hs.Bc.self _ | exact Go.Hs.Bc.zero | exact Go.Hs.Bc.lit _ rfl); (first | exact Go.Hs.Bc.self _ | exact Go.Hs.Bc.zero | exact Go.Hs.Bc.lit _ rfl); (first | exact Go.Hs.Bc.self _ | exact Go.Hs.Bc.zero | exact Go.Hs.Bc.lit _ rfl); (first | exact Go.Hs.Bc.self _ | exact Go.Hs.Bc.zero | exact Go.Hs.Bc.lit _ rfl); (first | exact Go.Hs.Bc.self _ | exact Go.Hs.Bc.zero | exact Go.Hs.Bc.lit _ rfl); (first | exact Go.Hs.Bc.self _ | exact Go.Hs.Bc.zero | exact Go.Hs.Bc.lit _ rfl); (first | exact Go.Hs.Bc.self _ | exact Go.Hs.Bc.zero | exact Go.Hs.Bc.lit _ rfl); (first | exact Go.Hs.Bc.self _ | exact Go.Hs.Bc.zero | exact Go.Hs.Bc.lit _ rfl); (first | exact Go.Hs.Bc.self _ | exact Go.Hs.Bc.zero | exact Go.Hs.Bc.lit _ rfl); (first | exact Go.Hs.neS_f' (by assumption) | exact Go.Hs.neS_t' (by assumption) | exact Go.Hs.neS_f' rfl | exact Go.Hs.neS_t' (by decide) | exact rfl)))) | (apply Go.Hs.G_load; (first | (apply Go.Hs.R_load1; exact rfl; (repeat' (first | exact Go.Hs.Pick.head _ _ | apply Go.Hs.Pick.tail)); (intro _; exact rfl); exact rfl) | (apply Go.Hs.R_loadN; exact rfl; (repeat' (first | exact Go.Hs.Pick.head _ _ | apply Go.Hs.Pick.tail)); (intro _; exact rfl); (intro _; exact rfl); exact rfl) | (apply Go.Hs.R_loadP; exact rfl; (repeat' (first | exact Go.Hs.mcs | apply Go.Hs.mct)); (intro _; exact rfl); exact rfl) | (apply Go.Hs.R_loadPN; exact rfl; (repeat' (first | exact Go.Hs.mcs | apply Go.Hs.mct)); (intro _; exact rfl); (intro _; exact rfl)) | (apply Go.Hs.R_loadPT; exact rfl; (repeat' (first | exact Go.Hs.mcs | apply Go.Hs.mct)); (intro _; exact rfl); (intro _; exact rfl); exact rfl) | (apply Go.Hs.R_loadPO; exact rfl; (repeat' (first | exact Go.Hs.mcs | apply Go.Hs.mct)); (intro _; exact rfl); exact rfl) | (apply Go.Hs.R_loadPON; exact rfl; (repeat' (first | exact Go.Hs.mcs | apply Go.Hs.mct)); (intro _; exact rfl); (intro _; exact rfl); exact rfl) | (apply Go.Hs.R_loadRow; exact rfl; (repeat' (first | exact Go.Hs.Pick.head _ _ | apply Go.Hs.Pick.tail)); (intro _; exact rfl); (first | omega | (simp only [List.length_take, List.length_drop, List.length_append, List.length_cons, List.length_nil, List.length_map, List.length_replicate]; omega)); (assumption)) | (apply Go.Hs.R_loadRowF; exact rfl; (repeat' (first | exact Go.Hs.Pick.head _ _ | apply Go.Hs.Pick.tail)); (intro _; exact rfl); (assumption)))) | (apply Go.Hs.R_fieldO0; exact rfl; exact rfl; exact rfl; (intro _; exact rfl); exact rfl) | (apply Go.Hs.R_fieldO; exact rfl; exact rfl; exact rfl; (intro _; exact rfl); exact rfl) | (apply Go.Hs.R_not; exact rfl; exact rfl) | (apply Go.Hs.G_call; (first | (apply Go.Hs.R_lenBy; exact rfl; (repeat' (first | exact Go.Hs.mcs | apply Go.Hs.mct)); exact rfl) | (apply Go.Hs.R_lenRow; exact rfl; (repeat' (first | exact Go.Hs.Pick.head _ _ | apply Go.Hs.Pick.tail)); exact rfl) | (apply Go.Hs.R_lenSl; exact rfl; (repeat' (first | exact Go.Hs.mcs | apply Go.Hs.mct)); exact rfl) | (apply Go.Hs.R_lenRw; exact rfl; (repeat' (first | exact Go.Hs.mcs | apply Go.Hs.mct)); exact rfl) | (apply Go.Hs.R_lenNil; exact rfl; exact rfl) | (apply Go.Hs.R_max2; exact rfl; exact rfl; (first | exact if_pos (by omega) | exact if_neg (by omega))) | (apply Go.Hs.R_min2; exact rfl; exact rfl; (first | exact if_pos (by omega) | exact if_neg (by omega))))) | (apply Go.Hs.R_convi; exact rfl; exact rfl; exact rfl; (first | exact Go.Hs.wx_i64 (by omega) | exact Go.Hs.wx_u8 (by omega) | exact Go.Hs.wx_u64 (by omega) | exact Go.Hs.wx_u32 (by omega) | exact Go.Hs.wx_u16 (by omega) | exact Go.Hs.wx_b8 _ | exact rfl)) | (apply Go.Hs.R_toStr; exact rfl; (repeat' (first | exact Go.Hs.mcs | apply Go.Hs.mct)); exact rfl; exact rfl; exact rfl) | (apply Go.Hs.R_toStrRow; exact rfl; (repeat' (first | exact Go.Hs.Pick.head _ _ | apply Go.Hs.Pick.tail)); (first | exact Go.Hs.nil_map | exact Go.Hs.one_map _ | exact Go.Hs.two_map _ _ | exact rfl); exact rfl; exact rfl; exact rfl) | (apply Go.Hs.R_build; exact rfl; (focus (repeat (first | apply Go.Hs.PartsE.nil | (apply Go.Hs.PartsE.cons; (focus (first | (apply Go.Hs.CellsE.lit; exact rfl) | (apply Go.Hs.CellsE.one; (first | (apply Go.Hs.OneC.lit; exact rfl) | (apply Go.Hs.OneC.by_; (repeat' (first | exact Go.Hs.mcs | apply Go.Hs.mct)); done) | (apply Go.Hs.OneC.sl; (repeat' (first | exact Go.Hs.mcs | apply Go.Hs.mct)); done) | (apply Go.Hs.OneC.rw; (repeat' (first | exact Go.Hs.mcs | apply Go.Hs.mct)); done) | (apply Go.Hs.OneC.row; (repeat' (first | exact Go.Hs.Pick.head _ _ | apply Go.Hs.Pick.tail))))))))))); (intro _; exact rfl); exact rfl; exact rfl; (intro _; go_simp; exact rfl); exact rfl) | (apply Go.Hs.R_buildArr; exact rfl; (focus (repeat (first | apply Go.Hs.SeqE.nil | (apply Go.Hs.SeqE.cons; exact rfl; (focus (first | (apply Go.Hs.CellsE.lit; exact rfl) | (apply Go.Hs.CellsE.one; (first | (apply Go.Hs.OneC.lit; exact rfl) | (apply Go.Hs.OneC.by_; (repeat' (first | exact Go.Hs.mcs | apply Go.Hs.mct)); done) | (apply Go.Hs.OneC.sl; (repeat' (first | exact Go.Hs.mcs | apply Go.Hs.mct)); done) | (apply Go.Hs.OneC.rw; (repeat' (first | exact Go.Hs.mcs | apply Go.Hs.mct)); done) | (apply Go.Hs.OneC.row; (repeat' (first | exact Go.Hs.Pick.head _ _ | apply Go.Hs.Pick.tail))))))); exact rfl) | exact rfl))); (intro _; exact rfl); exact rfl; exact rfl; (intro _; exact rfl); exact rfl; exact rfl) | (apply Go.Hs.R_field1; exact rfl; exact rfl; exact rfl; (intro _; exact rfl); exact rfl) | (apply Go.Hs.R_fieldN; exact rfl; exact rfl; exact rfl; (intro _; exact rfl); (intro _; exact rfl); exact rfl) | (apply Go.Hs.R_nilCheck; exact rfl) | (apply Go.Hs.R_makeFunc; exact rfl) | (apply Go.Hs.R_makeFunc1; exact rfl) | (apply Go.Hs.R_idxRow; exact rfl; exact rfl; (repeat' (first | exact Go.Hs.Pick.head _ _ | apply Go.Hs.Pick.tail)); exact rfl; (intro _; exact rfl); (focus (first | exact Go.Hs.lit0 | exact Go.Hs.lit1 | exact Go.Hs.lit2 | exact Go.Hs.lit3 | exact Go.Hs.lit4 | exact Go.Hs.lit5 | exact Go.Hs.lit6 | exact Go.Hs.lit7 | exact Go.Hs.lit8 | exact rfl | (simp; done) | omega)); (first | omega | (simp only [List.length_take, List.length_drop, List.length_append, List.length_cons, List.length_nil, List.length_map, List.length_replicate]; omega))) | (apply Go.Hs.R_fieldRow; exact rfl; (repeat' (first | exact Go.Hs.Pick.head _ _ | apply Go.Hs.Pick.tail)); (first | omega | (simp only [List.length_take, List.length_drop, List.length_append, List.length_cons, List.length_nil, List.length_map, List.length_replicate]; omega)); exact rfl; exact rfl; (intro _; exact rfl); exact rfl) | (apply Go.Hs.R_idxArr; exact rfl; exact rfl; exact rfl; (intro _; exact rfl); (focus (first | exact Go.Hs.lit0 | exact Go.Hs.lit1 | exact Go.Hs.lit2 | exact Go.Hs.lit3 | exact Go.Hs.lit4 | exact Go.Hs.lit5 | exact Go.Hs.lit6 | exact Go.Hs.lit7 | exact Go.Hs.lit8 | exact rfl | (simp; done) | omega)); (first | omega | (simp only [List.length_take, List.length_drop, List.length_append, List.length_cons, List.length_nil, List.length_map, List.length_replicate]; omega))) | (apply Go.Hs.R_sliceArr; exact rfl; exact rfl; (intro _; exact rfl); exact rfl))) : PS C ops Γs es us Γ K (i :: s) fr Φ := PS_runs he ho hg hd hn h k
theorem fs4 (k : PS C ops Γs es us Γ K s ((d, v) :: fr) (ψ :: Φ)) (he : clsOf es us i = 0 := by exact rfl) (ho : lget ops.toList i = some o := by exact rfl) (hg : gv ops fr o.guard = some true := by exact rfl) (hd : o.dst = some d := by exact rfl) (hn : Nat.blt d C.n = true := by exact rfl)
    (h : Runs C fr Γs Φ o v ∧ Ent Φ ψ := by (first | (apply Go.Hs.R_idxBy; exact rfl; exact rfl; (repeat' (first | exact Go.Hs.mcs | apply Go.Hs.mct)); exact rfl; (intro _; exact rfl); (focus (first | exact Go.Hs.lit0 | exact Go.Hs.lit1 | exact Go.Hs.lit2 | exact Go.Hs.lit3 | exact Go.Hs.lit4 | exact Go.Hs.lit5 | exact Go.Hs.lit6 | exact Go.Hs.lit7 | exact Go.Hs.lit8 | exact rfl | (simp; done) | omega)); (first | omega | (simp only [List.length_take, List.length_drop, List.length_append, List.length_cons, List.length_nil, List.length_map, List.length_replicate]; omega))) | (apply Go.Hs.R_idxRw; exact rfl; exact rfl; (repeat' (first | exact Go.Hs.mcs | apply Go.Hs.mct)); exact rfl; (intro _; exact rfl); (focus (first | exact Go.Hs.lit0 | exact Go.Hs.lit1 | exact Go.Hs.lit2 | exact Go.Hs.lit3 | exact Go.Hs.lit4 | exact Go.Hs.lit5 | exact Go.Hs.lit6 | exact Go.Hs.lit7 | exact Go.Hs.lit8 | exact rfl | (simp; done) | omega)); (first | omega | (simp only [List.length_take, List.length_drop, List.length_append, List.length_cons, List.length_nil, List.length_map, List.length_replicate]; omega)); (first | assumption | exact rfl)) | (apply Go.Hs.R_cutBy; exact rfl; (repeat' (first | exact Go.Hs.mcs | apply Go.Hs.mct)); exact rfl; (intro _; exact rfl); exact rfl; exact rfl; (focus (first | exact Go.Hs.lit0 | exact Go.Hs.lit1 | exact Go.Hs.lit2 | exact Go.Hs.lit3 | exact Go.Hs.lit4 | exact Go.Hs.lit5 | exact Go.Hs.lit6 | exact Go.Hs.lit7 | exact Go.Hs.lit8 | exact rfl | (simp; done) | omega)); (focus (first | exact Go.Hs.lit0 | exact Go.Hs.lit1 | exact Go.Hs.lit2 | exact Go.Hs.lit3 | exact Go.Hs.lit4 | exact Go.Hs.lit5 | exact Go.Hs.lit6 | exact Go.Hs.lit7 | exact Go.Hs.lit8 | exact rfl | (simp; done) | omega)); (first | omega | (simp only [List.length_take, List.length_drop, List.length_append, List.length_cons, List.length_nil, List.length_map, List.length_replicate]; omega)); (first | omega | (simp only [List.length_take, List.length_drop, List.length_append, List.length_cons, List.length_nil, List.length_map, List.length_replicate]; omega)); (focus ((try (conv => lhs; simp only [Nat.add_sub_cancel_left, Nat.sub_zero, List.drop_zero, List.nil_append])); (first | done | exact rfl)))) | (apply Go.Hs.R_fieldP; exact rfl; (repeat' (first | exact Go.Hs.mcs | apply Go.Hs.mct)); exact rfl; exact rfl; (intro _; exact rfl); exact rfl; exact rfl))) : PS C ops Γs es us Γ K (i :: s) fr Φ := PS_runsF he ho hg hd hn h k
theorem fs5 (k : PS C ops Γs es us Γ K s ((d, undef) :: fr) Φ) (he : clsOf es us i = 0 := by exact rfl) (ho : lget ops.toList i = some o := by exact rfl) (hg : gv ops fr o.guard = some false := by exact rfl) (hd : o.dst = some d := by exact rfl) (hn : Nat.blt d C.n = true := by exact rfl) :
    PS C ops Γs es us Γ K (i :: s) fr Φ := PS_pass he ho hg hd hn k
theorem ff1 (k : PF C ops Γs es us F G Q π ((d, v) :: fr) Γ Φ) (he : clsOf es us i = 0 := by exact rfl) (ho : lget ops.toList i = some o := by exact rfl) (hg : gv ops fr o.guard = some true := by exact rfl) (hd : o.dst = some d := by exact rfl) (hn : Nat.blt d C.n = true := by exact rfl)
    (h : Runs C fr Γs Φ o v := by (first | (apply Go.Hs.R_move; exact rfl) | (apply Go.Hs.R_assign; exact rfl) | (apply Go.Hs.R_extract; exact rfl; exact rfl) | (apply Go.Hs.R_pick_t; exact rfl; exact rfl) | (apply Go.Hs.R_pick_f; exact rfl; exact rfl) | (apply Go.Hs.G_bin; (first | (apply Go.Hs.R_cmp; exact rfl; exact rfl; exact rfl; (first | exact decide_eq_true (by omega) | exact decide_eq_false (by omega) | exact rfl)) | (apply Go.Hs.R_ari; exact rfl; exact rfl; exact rfl; (first | exact Go.Hs.wx_i64 (by omega) | exact Go.Hs.wx_u8 (by omega) | exact Go.Hs.wx_u64 (by omega) | exact Go.Hs.wx_u32 (by omega) | exact Go.Hs.wx_u16 (by omega) | exact Go.Hs.wx_b8 _ | exact rfl)) | (apply Go.Hs.R_eqB; exact rfl; exact rfl; exact rfl; exact rfl) | (apply Go.Hs.R_neB; exact rfl; exact rfl; exact rfl; exact rfl) | (apply Go.Hs.R_eqS; exact rfl; exact rfl; (first | exact decide_eq_true rfl | exact decide_eq_true (by assumption) | exact decide_eq_false (by assumption) | exact rfl)) | (apply Go.Hs.R_neS; exact rfl; exact rfl; (first | exact Go.Hs.neS_f rfl | exact Go.Hs.neS_f (by assumption) | exact Go.Hs.neS_t (by assumption) | exact rfl)) | (apply Go.Hs.R_addS; exact rfl; exact rfl; (first | omega | (simp only [List.length_take, List.length_drop, List.length_append, List.length_cons, List.length_nil, List.length_map, List.length_replicate]; omega))) | (apply Go.Hs.R_eqA; exact rfl; exact rfl; exact rfl; exact rfl; (first | exact rfl | kernel_rfl); (first | exact rfl | kernel_rfl); (first | exact rfl | kernel_rfl); (first | exact Go.Hs.Bc.self _ | exact Go.Hs.Bc.zero | exact Go.Hs.Bc.lit _ rfl); (first | exact Go.Hs.Bc.self _ | exact Go.Hs.Bc.zero | exact Go.Hs.Bc.lit _ rfl); (first | exact Go.Hs.Bc.self _ | exact Go.Hs.Bc.zero | exact Go.Hs.Bc.lit _ rfl); (first | exact Go.Hs.Bc.self _ | exact Go.Hs.Bc.zero | exact Go.Hs.Bc.lit _ rfl); (first | exact Go.Hs.Bc.self _ | exact Go.Hs.Bc.zero | exact Go.Hs.Bc.lit _ rfl); (first | exact Go.Hs.Bc.self _ | exact Go.Hs.Bc.zero | exact Go.Hs.Bc.lit _ rfl); (first | exact Go.Hs.Bc.self _ | exact Go.Hs.Bc.zero | exact Go.Hs.Bc.lit _ rfl); (first | exact Go.Hs.Bc.self _ | exact Go.Hs.Bc.zero | exact Go.Hs.Bc.lit _ rfl); (first | exact Go.Hs.Bc.self _ | exact Go.Hs.Bc.zero | exact Go.Hs.Bc.lit _ rfl); (first | exact Go.Hs.Bc.self _ | exact Go.Hs.Bc.zero | exact Go.Hs.Bc.lit _ rfl); (first | exact Go.Hs.Bc.self _ | exact Go.Hs.Bc.zero | exact Go.Hs.Bc.lit _ rfl); (first | exact Go.Hs.Bc.self _ | exact Go.Hs.Bc.zero | exact Go.Hs.Bc.lit _ rfl); (first | exact decide_eq_true (by assumption) | exact decide_eq_false (by assumption) | exact decide_eq_true rfl | exact decide_eq_false (by decide) | exact rfl)) | (apply Go.Hs.R_neA; exact rfl; exact rfl; exact rfl; exact rfl; (first | exact rfl | kernel_rfl); (first | exact rfl | kernel_rfl); (first | exact rfl | kernel_rfl); (first | exact Go.Hs.Bc.self _ | exact Go.Hs.Bc.zero | exact Go.Hs.Bc.lit _ rfl); (first | exact Go.Hs.Bc.self _ | exact Go.Hs.Bc.zero | exact Go.Hs.Bc.lit _ rfl); (first | exact Go.Hs.Bc.self _ | exact Go.Hs.Bc.zero | exact Go.Hs.Bc.lit _ rfl); (first | exact Go.Hs.Bc.self _ | exact Go.Hs.Bc.zero | exact Go.Hs.Bc.lit _ rfl); (first | exact Go.Hs.Bc.self _ | exact Go.Hs.Bc.zero | exact Go.Hs.Bc.lit _ rfl); (first | exact Go.Hs.Bc.self _ | exact Go.Hs.Bc.zero | exact Go.Hs.Bc.lit _ rfl); (first | exact Go.Hs.Bc.self _ | exact Go.Hs.Bc.zero | exact Go.Hs.Bc.lit _ rfl); (first | exact Go.Hs.Bc.self _ | exact Go.Hs.Bc.zero | exact Go.Hs.Bc.lit _ rfl); (first | exact Go.Hs.Bc.self _ | exact Go.Hs.Bc.zero | exact Go.Hs.Bc.lit _ rfl); (first | exact Go.Hs.Bc.self _ | exact Go.Hs.Bc.zero | exact Go.Hs.Bc.lit _ rfl); (first | exact Go.Hs.Bc.self _ | exact Go.Hs.Bc.zero | exact Go.Hs.Bc.lit _ rfl); (first | exact Go.Hs.Bc.self _ | exact Go.Hs.Bc.zero | exact Go.Hs.Bc.lit _ rfl); (first | exact Go.Hs.neS_f' (by assumption) | exact Go.Hs.neS_t' (by assumption) | exact Go.Hs.neS_f' rfl | exact Go.Hs.neS_t' (by decide) | exact rfl)))) | (apply Go.Hs.G_load; (first | (apply Go.Hs.R_load1; exact rfl; (repeat' (first | exact Go.Hs.Pick.head _ _ | apply Go.Hs.Pick.tail)); (intro _; exact rfl); exact rfl) | (apply Go.Hs.R_loadN; exact rfl; (repeat' (first | exact Go.Hs.Pick.head _ _ | apply Go.Hs.Pick.tail)); (intro _; exact rfl); (intro _; exact rfl); exact rfl) | (apply Go.Hs.R_loadP; exact rfl; (repeat' (first | exact Go.Hs.mcs | apply Go.Hs.mct)); (intro _; exact rfl); exact rfl) | (apply Go.Hs.R_loadPN; exact rfl; (repeat' (first | exact Go.Hs.mcs | apply Go.Hs.mct)); (intro _; exact rfl); (intro _; exact rfl)) | (apply Go.Hs.R_loadPT; exact rfl; (repeat' (first | exact Go.Hs.mcs | apply Go.Hs.mct)); (intro _; exact rfl); (intro _; exact rfl); exact rfl) | (apply Go.Hs.R_loadPO; exact rfl; (repeat' (first | exact Go.Hs.mcs | apply Go.Hs.mct)); (intro _; exact rfl); exact rfl) | (apply Go.Hs.R_loadPON; exact rfl; (repeat' (first | exact Go.Hs.mcs | apply Go.Hs.mct)); (intro _; exact rfl); (intro _; exact rfl); exact rfl) | (apply Go.Hs.R_loadRow; exact rfl; (repeat' (first | exact Go.Hs.Pick.head _ _ | apply Go.Hs.Pick.tail)); (intro _; exact rfl); (first | omega | (simp only [List.length_take, List.length_drop, List.length_append, List.length_cons, List.length_nil, List.length_map, List.length_replicate]; omega)); (assumption)) | (apply Go.Hs.R_loadRowF; exact rfl; (repeat' (first | exact Go.Hs.Pick.head _ _ | apply Go.Hs.Pick.tail)); (intro _; exact rfl); (assumption)))) | (apply Go.Hs.R_fieldO0; exact rfl; exact rfl; exact rfl; (intro _; exact rfl); exact rfl) | (apply Go.Hs.R_fieldO; exact rfl; exact rfl; exact rfl; (intro _; exact rfl); exact rfl) | (apply Go.Hs.R_not; exact rfl; exact rfl) | (apply Go.Hs.G_call; (first | (apply Go.Hs.R_lenBy; exact rfl; (repeat' (first | exact Go.Hs.mcs | apply Go.Hs.mct)); exact rfl) | (apply Go.Hs.R_lenRow; exact rfl; (repeat' (first | exact Go.Hs.Pick.head _ _ | apply Go.Hs.Pick.tail)); exact rfl) | (apply Go.Hs.R_lenSl; exact rfl; (repeat' (first | exact Go.Hs.mcs | apply Go.Hs.mct)); exact rfl) | (apply Go.Hs.R_lenRw; exact rfl; (repeat' (first | exact Go.Hs.mcs | apply Go.Hs.mct)); exact rfl) | (apply Go.Hs.R_lenNil; exact rfl; exact rfl) | (apply Go.Hs.R_max2; exact rfl; exact rfl; (first | exact if_pos (by omega) | exact if_neg (by omega))) | (apply Go.Hs.R_min2; exact rfl; exact rfl; (first | exact if_pos (by omega) | exact if_neg (by omega))))) | (apply Go.Hs.R_convi; exact rfl; exact rfl; exact rfl; (first | exact Go.Hs.wx_i64 (by omega) | exact Go.Hs.wx_u8 (by omega) | exact Go.Hs.wx_u64 (by omega) | exact Go.Hs.wx_u32 (by omega) | exact Go.Hs.wx_u16 (by omega) | exact Go.Hs.wx_b8 _ | exact rfl)) | (apply Go.Hs.R_toStr; exact rfl; (repeat' (first | exact Go.Hs.mcs | apply Go.Hs.mct)); exact rfl; exact rfl; exact rfl) | (apply Go.Hs.R_toStrRow; exact rfl; (repeat' (first | exact Go.Hs.Pick.head _ _ | apply Go.Hs.Pick.tail)); (first | exact Go.Hs.nil_map | exact Go.Hs.one_map _ | exact Go.Hs.two_map _ _ | exact rfl); exact rfl; exact rfl; exact rfl) | (apply Go.Hs.R_build; exact rfl; (focus (repeat (first | apply Go.Hs.PartsE.nil | (apply Go.Hs.PartsE.cons; (focus (first | (apply Go.Hs.CellsE.lit; exact rfl) | (apply Go.Hs.CellsE.one; (first | (apply Go.Hs.OneC.lit; exact rfl) | (apply Go.Hs.OneC.by_; (repeat' (first | exact Go.Hs.mcs | apply Go.Hs.mct)); done) | (apply Go.Hs.OneC.sl; (repeat' (first | exact Go.Hs.mcs | apply Go.Hs.mct)); done) | (apply Go.Hs.OneC.rw; (repeat' (first | exact Go.Hs.mcs | apply Go.Hs.mct)); done) | (apply Go.Hs.OneC.row; (repeat' (first | exact Go.Hs.Pick.head _ _ | apply Go.Hs.Pick.tail))))))))))); (intro _; exact rfl); exact rfl; exact rfl; (intro _; go_simp; exact rfl); exact rfl) | (apply Go.Hs.R_buildArr; exact rfl; (focus (repeat (first | apply Go.Hs.SeqE.nil | (apply Go.Hs.SeqE.cons; exact rfl; (focus (first | (apply Go.Hs.CellsE.lit; exact rfl) | (apply Go.Hs.CellsE.one; (first | (apply Go.Hs.OneC.lit; exact rfl) | (apply Go.Hs.OneC.by_; (repeat' (first | exact Go.Hs.mcs | apply Go.Hs.mct)); done) | (apply Go.Hs.OneC.sl; (repeat' (first | exact Go.Hs.mcs | apply Go.Hs.mct)); done) | (apply Go.Hs.OneC.rw; (repeat' (first | exact Go.Hs.mcs | apply Go.Hs.mct)); done) | (apply Go.Hs.OneC.row; (repeat' (first | exact Go.Hs.Pick.head _ _ | apply Go.Hs.Pick.tail))))))); exact rfl) | exact rfl))); (intro _; exact rfl); exact rfl; exact rfl; (intro _; exact rfl); exact rfl; exact rfl) | (apply Go.Hs.R_field1; exact rfl; exact rfl; exact rfl; (intro _; exact rfl); exact rfl) | (apply Go.Hs.R_fieldN; exact rfl; exact rfl; exact rfl; (intro _; exact rfl); (intro _; exact rfl); exact rfl) | (apply Go.Hs.R_nilCheck; exact rfl) | (apply Go.Hs.R_makeFunc; exact rfl) | (apply Go.Hs.R_makeFunc1; exact rfl) | (apply Go.Hs.R_idxRow; exact rfl; exact rfl; (repeat' (first | exact Go.Hs.Pick.head _ _ | apply Go.Hs.Pick.tail)); exact rfl; (intro _; exact rfl); (focus (first | exact Go.Hs.lit0 | exact Go.Hs.lit1 | exact Go.Hs.lit2 | exact Go.Hs.lit3 | exact Go.Hs.lit4 | exact Go.Hs.lit5 | exact Go.Hs.lit6 | exact Go.Hs.lit7 | exact Go.Hs.lit8 | exact rfl | (simp; done) | omega)); (first | omega | (simp only [List.length_take, List.length_drop, List.length_append, List.length_cons, List.length_nil, List.length_map, List.length_replicate]; omega))) | (apply Go.Hs.R_fieldRow; exact rfl; (repeat' (first | exact Go.Hs.Pick.head _ _ | apply Go.Hs.Pick.tail)); (first | omega | (simp only [List.length_take, List.length_drop, List.length_append, List.length_cons, List.length_nil, List.length_map, List.length_replicate]; omega)); exact rfl; exact rfl; (intro _; exact rfl); exact rfl) | (apply Go.Hs.R_idxArr; exact rfl; exact rfl; exact rfl; (intro _; exact rfl); (focus (first | exact Go.Hs.lit0 | exact Go.Hs.lit1 | exact Go.Hs.lit2 | exact Go.Hs.lit3 | exact Go.Hs.lit4 | exact Go.Hs.lit5 | exact Go.Hs.lit6 | exact Go.Hs.lit7 | exact Go.Hs.lit8 | exact rfl | (simp; done) | omega)); (first | omega | (simp only [List.length_take, List.length_drop, List.length_append, List.length_cons, List.length_nil, List.length_map, List.length_replicate]; omega))) | (apply Go.Hs.R_sliceArr; exact rfl; exact rfl; (intro _; exact rfl); exact rfl))) : PF C ops Γs es us F G Q (i :: π) fr Γ Φ := PF_runs he ho hg hd hn h k
theorem ff2 (k : ∀ x, pf x → PF C ops Γs es us F G Q π ((d, vx x) :: fr) (Γ' x) (Φ' x)) (he : clsOf es us i = 1 := by exact rfl) (ho : lget ops.toList i = some o := by exact rfl) (hg : gv ops fr o.guard = some true := by exact rfl) (hd : o.dst = some d := by exact rfl) (hn : Nat.blt d C.n = true := by exact rfl)
    (h : Effs C fr Γ Φ o pf vx Γ' Φ' := by (first | (apply Go.Hs.E_alloc; (intro _; exact rfl); exact rfl) | (apply Go.Hs.E_box; exact rfl; (focus (first | (apply Go.Hs.CellsE.lit; exact rfl) | (apply Go.Hs.CellsE.one; (first | (apply Go.Hs.OneC.lit; exact rfl) | (apply Go.Hs.OneC.by_; (repeat' (first | exact Go.Hs.mcs | apply Go.Hs.mct)); done) | (apply Go.Hs.OneC.sl; (repeat' (first | exact Go.Hs.mcs | apply Go.Hs.mct)); done) | (apply Go.Hs.OneC.rw; (repeat' (first | exact Go.Hs.mcs | apply Go.Hs.mct)); done) | (apply Go.Hs.OneC.row; (repeat' (first | exact Go.Hs.Pick.head _ _ | apply Go.Hs.Pick.tail)))))))))) (hs : ∀ x, SubO (Γ' x) Γs := by (intro _; (first | ((repeat (first | exact Go.Hs.SubO.nil _ | (apply Go.Hs.SubO.cons; (focus (repeat' (first | exact Go.Hs.Pick.head _ _ | apply Go.Hs.Pick.tail)))))); done) | fail))) : PF C ops Γs es us F G Q (i :: π) fr Γ Φ := PF_effs he ho hg hd hn h hs k
theorem ff3 (k : ∀ x, pf x → PF C ops Γs es us F G Q π fr (Γ' x) (Φ' x)) (he : clsOf es us i = 1 := by exact rfl) (ho : lget ops.toList i = some o := by exact rfl) (hg : gv ops fr o.guard = some true := by exact rfl) (hd : o.dst = none := by exact rfl)
    (h : Effs C fr Γ Φ o pf vx Γ' Φ' := by (first | (apply Go.Hs.E_store; exact rfl; exact rfl; (repeat' (first | exact Go.Hs.Pick.head _ _ | apply Go.Hs.Pick.tail)); (focus (first | (apply Go.Hs.CellsE.lit; exact rfl) | (apply Go.Hs.CellsE.one; (first | (apply Go.Hs.OneC.lit; exact rfl) | (apply Go.Hs.OneC.by_; (repeat' (first | exact Go.Hs.mcs | apply Go.Hs.mct)); done) | (apply Go.Hs.OneC.sl; (repeat' (first | exact Go.Hs.mcs | apply Go.Hs.mct)); done) | (apply Go.Hs.OneC.rw; (repeat' (first | exact Go.Hs.mcs | apply Go.Hs.mct)); done) | (apply Go.Hs.OneC.row; (repeat' (first | exact Go.Hs.Pick.head _ _ | apply Go.Hs.Pick.tail))))))); (intro _; exact rfl); (focus (repeat (first | apply Go.Hs.Ones.nil | exact Go.Hs.Ones.bytes | (apply Go.Hs.Ones.cons; (focus (first | (apply Go.Hs.OneC.lit; exact rfl) | (apply Go.Hs.OneC.by_; (repeat' (first | exact Go.Hs.mcs | apply Go.Hs.mct)); done) | (apply Go.Hs.OneC.sl; (repeat' (first | exact Go.Hs.mcs | apply Go.Hs.mct)); done) | (apply Go.Hs.OneC.rw; (repeat' (first | exact Go.Hs.mcs | apply Go.Hs.mct)); done) | (apply Go.Hs.OneC.row; (repeat' (first | exact Go.Hs.Pick.head _ _ | apply Go.Hs.Pick.tail))))))))); exact rfl))) (hs : ∀ x, SubO (Γ' x) Γs := by (intro _; (first | ((repeat (first | exact Go.Hs.SubO.nil _ | (apply Go.Hs.SubO.cons; (focus (repeat' (first | exact Go.Hs.Pick.head _ _ | apply Go.Hs.Pick.tail)))))); done) | fail))) : PF C ops Γs es us F G Q (i :: π) fr Γ Φ := PF_do he ho hg hd h hs k
theorem ff4 (k : PF C ops Γs es us F G Q π ((d, v) :: fr) Γ (ψ :: Φ)) (he : clsOf es us i = 0 := by exact rfl) (ho : lget ops.toList i = some o := by exact rfl) (hg : gv ops fr o.guard = some true := by exact rfl) (hd : o.dst = some d := by exact rfl) (hn : Nat.blt d C.n = true := by exact rfl)
    (h : Runs C fr Γs Φ o v ∧ Ent Φ ψ := by (first | (apply Go.Hs.R_idxBy; exact rfl; exact rfl; (repeat' (first | exact Go.Hs.mcs | apply Go.Hs.mct)); exact rfl; (intro _; exact rfl); (focus (first | exact Go.Hs.lit0 | exact Go.Hs.lit1 | exact Go.Hs.lit2 | exact Go.Hs.lit3 | exact Go.Hs.lit4 | exact Go.Hs.lit5 | exact Go.Hs.lit6 | exact Go.Hs.lit7 | exact Go.Hs.lit8 | exact rfl | (simp; done) | omega)); (first | omega | (simp only [List.length_take, List.length_drop, List.length_append, List.length_cons, List.length_nil, List.length_map, List.length_replicate]; omega))) | (apply Go.Hs.R_idxRw; exact rfl; exact rfl; (repeat' (first | exact Go.Hs.mcs | apply Go.Hs.mct)); exact rfl; (intro _; exact rfl); (focus (first | exact Go.Hs.lit0 | exact Go.Hs.lit1 | exact Go.Hs.lit2 | exact Go.Hs.lit3 | exact Go.Hs.lit4 | exact Go.Hs.lit5 | exact Go.Hs.lit6 | exact Go.Hs.lit7 | exact Go.Hs.lit8 | exact rfl | (simp; done) | omega)); (first | omega | (simp only [List.length_take, List.length_drop, List.length_append, List.length_cons, List.length_nil, List.length_map, List.length_replicate]; omega)); (first | assumption | exact rfl)) | (apply Go.Hs.R_cutBy; exact rfl; (repeat' (first | exact Go.Hs.mcs | apply Go.Hs.mct)); exact rfl; (intro _; exact rfl); exact rfl; exact rfl; (focus (first | exact Go.Hs.lit0 | exact Go.Hs.lit1 | exact Go.Hs.lit2 | exact Go.Hs.lit3 | exact Go.Hs.lit4 | exact Go.Hs.lit5 | exact Go.Hs.lit6 | exact Go.Hs.lit7 | exact Go.Hs.lit8 | exact rfl | (simp; done) | omega)); (focus (first | exact Go.Hs.lit0 | exact Go.Hs.lit1 | exact Go.Hs.lit2 | exact Go.Hs.lit3 | exact Go.Hs.lit4 | exact Go.Hs.lit5 | exact Go.Hs.lit6 | exact Go.Hs.lit7 | exact Go.Hs.lit8 | exact rfl | (simp; done) | omega)); (first | omega | (simp only [List.length_take, List.length_drop, List.length_append, List.length_cons, List.length_nil, List.length_map, List.length_replicate]; omega)); (first | omega | (simp only [List.length_take, List.length_drop, List.length_append, List.length_cons, List.length_nil, List.length_map, List.length_replicate]; omega)); (focus ((try (conv => lhs; simp only [Nat.add_sub_cancel_left, Nat.sub_zero, List.drop_zero, List.nil_append])); (first | done | exact rfl)))) | (apply Go.Hs.R_fieldP; exact rfl; (repeat' (first | exact Go.Hs.mcs | apply Go.Hs.mct)); exact rfl; exact rfl; (intro _; exact rfl); exact rfl; exact rfl))) : PF C ops Γs es us F G Q (i :: π) fr Γ Φ := PF_runsF he ho hg hd hn h k
theorem ff5 (k : PF C ops Γs es us F G Q π ((d, undef) :: fr) Γ Φ) (he : clsOf es us i = 0 := by exact rfl) (ho : lget ops.toList i = some o := by exact rfl) (hg : gv ops fr o.guard = some false := by exact rfl) (hd : o.dst = some d := by exact rfl) (hn : Nat.blt d C.n = true := by exact rfl) :
    PF C ops Γs es us F G Q (i :: π) fr Γ Φ := PF_pass he ho hg hd hn k
theorem ff7 {Γ1 : Value → List OA} {Φ1 : Value → List SP} (k : ∀ v, PF C ops Γs es us F G Q π ((d, v) :: fr) (Γ1 v) (Φ1 v)) (he : clsOf es us i = 2 := by exact rfl) (ho : lget ops.toList i = some o := by exact rfl) (hd : o.dst = some d := by exact rfl) (hn : Nat.blt d C.n = true := by exact rfl)
    (hG : ∀ v, appO (G i v) Γ = some (Γ1 v) := by (intro _; exact rfl)) (hF : ∀ v, appO (F i v) Φ = some (Φ1 v) := by (intro _; exact rfl)) : PF C ops Γs es us F G Q (i :: π) fr Γ Φ := PF_free he ho hd hn hG hF k
end
end Go.Hs

/-
  Rules for walks: elements of lists that are built one by one. No program is named here.
-/
namespace Go.Hs
open Go Go.RowKit
/-- an element: what its cells hold. -/
def ELp (id ext : UInt8) (data : List UInt8) (f : Fo) (v : Value) (w : World) (O : Nat → Prop) : Prop :=
  ∃ (dv sv : Value) (t : T), t.er = f ∧ v = .agg #[bcell id, bcell ext, dv, sv] ∧ (By dv data).p w O ∧ (Rw 4 sv t.len t.at_).p w O ∧ t.tf.p w O
def EL (id ext : UInt8) (data : List UInt8) (f : Fo) (v : Value) : SP :=
  ⟨ELp id ext data f v, fun ⟨dv, sv, t, h1, h2, h3, h4, h5⟩ hm ho => ⟨dv, sv, t, h1, h2, (By dv data).st h3 hm ho, (Rw 4 sv t.len t.at_).st h4 hm ho, t.tf.st h5 hm ho⟩⟩
section
variable {C : Ctx} {fr : Fr} {Γ : List OA} {Φ : List SP}
/-- a settled value, told of. -/
theorem Effs.runsT {o : Oper} {v : Value} {ψ : Value → SP} (h : Runs C fr Γ Φ o v) (he : Ent Φ (ψ v)) : Effs C fr Γ Φ o (X := Value) (fun _ => True) (fun v => v) (fun _ => Γ) (fun v => ψ v :: Φ) := by
  refine ⟨fun _ χ hχ => List.mem_cons_of_mem _ hχ, fun R a w ha hw => ?_⟩
  refine (h a w ha hw.dropR).mono fun v' w' ⟨e, m⟩ => ⟨v, trivial, e, (hw.ext m).ent he⟩
/-- the elements of a list that is built, told of one by one. -/
def ELs (Φ : List SP) : Nat → List (Nat × Value) → Fo → Prop
  | _, [], .nil => True
  | k, (i, v) :: r, .cons id ext data subs next => i = k ∧ EL id ext data subs v ∈ Φ ∧ ELs Φ (k + 1) r next
  | _, _, _ => False
theorem ELs.nil {k : Nat} : ELs Φ k [] .nil := trivial
theorem ELs.cons {k : Nat} {i : Nat} {v : Value} {r : List (Nat × Value)} {id ext : UInt8} {data : List UInt8} {subs next : Fo} (hi : i = k) (h : EL id ext data subs v ∈ Φ) (hr : ELs Φ (k + 1) r next) : ELs Φ k ((i, v) :: r) (.cons id ext data subs next) := ⟨hi, h, hr⟩
theorem ELs.open {w : World} {O : Nat → Prop} (hΦ : ∀ χ ∈ Φ, χ.p w O) : ∀ {pv : List (Nat × Value)} {k : Nat} {f : Fo}, ELs Φ k pv f → ∃ t : T, t.er = f ∧ t.len = pv.length ∧ t.tf.p w O ∧ ∀ (C : Ctx) (Γ' : List OA) (Φ' : List SP), SeqE C Γ' Φ' 4 k pv t.cells
  | [], _, .nil, _ => ⟨.nil, rfl, rfl, trivial, fun _ _ _ => SeqE.nil⟩
  | [], _, .cons .., h => h.elim
  | (i, v) :: r, k, .nil, h => h.elim
  | (i, v) :: r, k, .cons id ext data subs next, ⟨hi, h, hr⟩ => by
    obtain ⟨dv, sv, t, h1, h2, h3, h4, h5⟩ := hΦ _ h
    obtain ⟨u, g1, g2, g3, g4⟩ := ELs.open hΦ hr
    subst h2
    refine ⟨.cons id ext dv data sv t u, by rw [T.er, h1, g1], by rw [T.len, g2]; rfl, ⟨h3, h4, h5, g3⟩, fun C Γ' Φ' => ?_⟩
    exact ⟨hi, [bcell id, bcell ext, dv, sv], u.cells, rfl, rfl, CellsE.lit rfl, g4 C Γ' Φ'⟩
end
end Go.Hs

/-
  The rules of the small logic for parts of slices of things, and for copies into a part of an own row. No program is named here.
-/
namespace Go.Hs
open Go Go.RowKit

theorem ent_cutRw {Φ : List SP} {v : Value} {size n lo hi : Nat} {f : Nat → List Value} (hm : Rw size v n f ∈ Φ) (h1 : lo ≤ hi) (h2 : hi ≤ n) :
    Ent Φ (Rw size (cutV size lo hi v) (hi - lo) (fun i => f (lo + i))) := fun w O h => by
  obtain ⟨A, c, hv, hc, hcm, hr⟩ := h _ hm
  subst hv
  refine ⟨_, _, rfl, by omega, by omega, fun hn => ?_⟩
  obtain ⟨ad, rfl, hlt, hO, hcell⟩ := hr (by omega)
  rw [if_neg (by omega)]
  refine ⟨ad.add (lo * size), rfl, by rw [block_add]; exact hlt, by rw [block_add]; exact hO, fun i hi' j u hu => ?_⟩
  rw [add_add']
  have := hcell (lo + i) (by omega) j u hu
  rw [show lo * size + (i * size + j) = (lo + i) * size + j by rw [Nat.add_mul]; omega]
  exact this
section
variable {C : Ctx} {fr : Fr} {Γ Γ' Γ1 : List OA} {Φ : List SP}
  {d : Nat} {ty : TypeId} {pos : String} {aft : Array Edge} {g : Option (Nat × Bool)}
/-- x[lo:hi] of lasting things. -/
theorem R_cutRw {t e : TypeId} {x : Operand} {lo? hi? : Option Operand} {v : Value} {size n : Nat} {f f' : Nat → List Value} {ilo ihi : Int} {lo hi m : Nat}
    (hx : evO fr x = some v) (hm : Rw size v n f ∈ Φ) (ht : C.P.underlying t = some (.slice e)) (hs : ∀ w, (sizeOf e).run C.P w = .ok size w)
    (hlo : cutLo fr lo? = some ilo) (hhi : cutHi fr n hi? = some ihi) (el : ilo = (lo : Int)) (eh : ihi = (hi : Int)) (h1 : lo ≤ hi) (h2 : hi ≤ n) (hm' : hi - lo = m) (hf : ∀ i, i < m → f (lo + i) = f' i) :
    Runs C fr Γ Φ ⟨some d, .slice t x lo? hi? none, ty, pos, aft, g⟩ (cutV size lo hi v) ∧ Ent Φ (Rw size (cutV size lo hi v) m f') := by
  subst el; subst eh; subst hm'
  refine ⟨Runs.pure fun a w ha hw => ?_, fun w O h => ?_⟩
  · obtain ⟨A, c, hv, hc, _⟩ := hw.sp _ hm
    subst hv
    simp only [execOp, Sem.run_bind, evO_sound ha hx, run_cut ha ht hs hlo hhi h1 h2 hc, Option.map_none, Result.andThen_ok, Sem.run_pure, cutV]
  · obtain ⟨A, c, hv, hc, hcm, hr⟩ := ent_cutRw hm h1 h2 w O h
    refine ⟨A, c, hv, hc, hcm, fun hn => ?_⟩
    obtain ⟨ad, hA, hlt, hO, hcell⟩ := hr hn
    exact ⟨ad, hA, hlt, hO, fun i hi => by rw [← hf i hi]; exact hcell i hi⟩
end
end Go.Hs

/-
  From a contract to the row where package variables are laid. No program is named here.
-/
namespace Go.Hs
open Go Go.ChangeShapes Go.WideShapes Go.ChangeAt Go.RowKit
theorem law_liftL {H : Type} {enc : TypeId × Value → H} {C : Checked} {os : Os} {f : FuncId} {fn : Func} {s : ChangeSpec} {laid : List (String × DataW Unit)} {tb : TypeId}
    (own : ownKnob C.prog.godebug = none) (started : os.Started) (noInit : C.prog.inits.idxOf? f = none) (hfn : C.prog.funcs[f]? = some fn)
    (witness : ∃ (w : World) (tape : Tape) (i : Input), w.os = os ∧ (w.forCall tape i).Shaped C.prog ∧ i.vars = [] ∧ Input.okWide C.prog (w.forCall tape i) .any w.heap.size f i ∧
      ((s.pre enc C.prog fn [] false (w.forCall tape i).memory i.args ∧ laidMetH C.prog laid (w.forCall tape i).memory) ∧ sizedMet enc C.prog fn (OpenSpec.ofChange s) false (w.forCall tape i).memory i.args) ∧ ({} : Assume).holds C.prog (lone (Frame.enter C.prog f i.args .normal) [] (w.forCall tape i)))
    (hl : laidOutB C.prog = true) (hv : s.vars = [])
    (hr : fn.resultTypes = #[tb]) (htb : C.prog.underlying tb = some .bool)
    (hs : ∀ (ds : List (DataW H)), ds.length = fn.params.toList.length → s.fn H ds = { results := [.lit (.bool true)], args := ds })
    (hp : fn.params.toList.all (fun t => C.prog.readableRec t && decide (t < C.prog.types.size)) = true)
    (walk : ∀ (W : World) (base : Nat) (args : Array Value) (ds : List (DataW H)) (p : List MemPlace),
      (∀ (j : Nat) t v, fn.params[j]? = some t → args[j]? = some v → Value.okWide C.prog W .any base t v) →
      DataW.TrodAll enc C.prog W 0 (fun _ => true) true fn.params.toList args.toList ds p →
      laidMetH C.prog laid W →
      Calls C.prog f args W fun e W' => e = .returned (.bool true) ∧ Below W.heap.size W W') :
    ReturnsInHanded {} C os f .any (fun w args => (s.pre enc C.prog fn [] false w args ∧ laidMetH C.prog laid w) ∧ sizedMet enc C.prog fn (OpenSpec.ofChange s) false w args) (s.post enc C.prog fn false true false false) := by
  refine returnsInHanded_of_change_and (C := C) (X := fun w _ => laidMetH C.prog laid w) (fun _ _ _ hh h => h.of_heap hh) own started noInit hfn witness ?_
  intro W base args ds gs before hval hW _ _ hL _
  have hW' := hW
  obtain ⟨p, q, hA, hV, rfl, hfz, hnd⟩ := hW
  rw [hv] at hV
  obtain ⟨rfl, rfl⟩ := trodVars_none hV
  refine (walk W base args ds p hval hA hL).mono fun e W' ⟨he, bel⟩ => ?_
  subst he
  have hf := hs ds (trodAll_length hA)
  refine ⟨_, rfl, ds, [], _, [], p, [], hW', ?_, ?_, ?_, bel.frame _, fun h => by cases h⟩
  · rw [List.append_nil, hf, hr]
    exact trodAll_mk1 (shut_bool htb _)
  · rw [List.append_nil, hf]
    exact trodAll_stays hl bel hp hA
  · rw [List.append_nil, hf, hv]
    rfl
end Go.Hs
