/-
  Packets packed: 'write' at packets, 'Pack'; the chapter's examples.
-/
import Derived.Test.YtdhbgolbfkejcaaAe
namespace Go.Proofs.Ytdhbgolbfkejcaa
open Go Go.RowKit Go.Hs

structure PK where
  to_ : A6
  fr_ : A6
  dv : Value
  data : List UInt8
def pk0 : PK := ⟨zA6, zA6, .slice none 0 0, []⟩
@[reducible] def PK.cells (p : PK) : List Value := [bcell p.to_.a0, bcell p.to_.a1, bcell p.to_.a2, bcell p.to_.a3, bcell p.to_.a4, bcell p.to_.a5, bcell p.fr_.a0, bcell p.fr_.a1, bcell p.fr_.a2, bcell p.fr_.a3, bcell p.fr_.a4, bcell p.fr_.a5, p.dv]
@[reducible] def PK.val (p : PK) : Value := .agg #[bcell p.to_.a0, bcell p.to_.a1, bcell p.to_.a2, bcell p.to_.a3, bcell p.to_.a4, bcell p.to_.a5, bcell p.fr_.a0, bcell p.fr_.a1, bcell p.fr_.a2, bcell p.fr_.a3, bcell p.fr_.a4, bcell p.fr_.a5, p.dv]
def grp (b : UInt8) : Bool := decide (b.toNat % 2 = 1)
def entk (p : PK) : List UInt8 := p.to_.bytes ++ (p.fr_.bytes ++ (dl2 p.data.length ++ p.data))
theorem entk_length (p : PK) : (entk p).length = 14 + p.data.length := by simp [entk, A6.bytes, dl2]; omega
def okK (p : PK) : Prop := grp p.fr_.a0 = false ∧ p.data.length ≤ 1500
def jk (l : List PK) : List UInt8 := jg (l.map entk)
def K1 (out : List UInt8) (p : PK) : List UInt8 × Int := if grp p.fr_.a0 then ([], 8) else if 1500 < p.data.length then ([], 11) else (out ++ entk p, 0)
def okKL (l : List PK) : Prop := ∀ p ∈ l, okK p
def pckE : List PK → Int
  | [] => 0
  | p :: r => if grp p.fr_.a0 then 8 else if 1500 < p.data.length then 11 else pckE r
theorem K1_err (out : List UInt8) (p : PK) : (K1 out p).2 = (K1 [] p).2 := by unfold K1; split; rfl; split <;> rfl
theorem K1_ok {out : List UInt8} {p : PK} (h : (K1 out p).2 = 0) : okK p ∧ (K1 out p).1 = out ++ entk p := by
  unfold K1 at h ⊢
  split at h
  · cases h
  · next h1 =>
    split at h
    · cases h
    · next h2 => rw [if_neg h1, if_neg h2]; exact ⟨⟨by simpa using h1, by omega⟩, rfl⟩
theorem pckE_ok : ∀ {l : List PK}, pckE l = 0 ↔ okKL l
  | [] => ⟨fun _ _ h => (by cases h), fun _ => rfl⟩
  | p :: r => by
    unfold pckE
    constructor
    · intro h
      split at h
      · cases h
      · next h1 =>
        split at h
        · cases h
        · next h2 =>
          intro q hq
          rcases List.mem_cons.1 hq with rfl | hq
          · exact ⟨by simpa using h1, by omega⟩
          · exact pckE_ok.1 h q hq
    · intro h
      have h0 := h p List.mem_cons_self
      rw [if_neg (by rw [h0.1]; decide), if_neg (by have := h0.2; omega)]
      exact pckE_ok.2 fun q hq => h q (List.mem_cons_of_mem _ hq)
theorem pckE_at : ∀ {fs : List PK} {x : Nat}, okKL (fs.take x) → x < fs.length → (K1 [] (fs.getD x pk0)).2 ≠ 0 → pckE fs = (K1 [] (fs.getD x pk0)).2
  | [], _, _, h, _ => absurd h (by simp)
  | p :: r, 0, _, _, h => by
    simp only [K1, List.getD_cons_zero] at h ⊢
    unfold pckE
    split
    · rfl
    · next h1 =>
      rw [if_neg h1] at h
      split
      · rfl
      · next h2 => rw [if_neg h2] at h; exact absurd rfl h
  | p :: r, x + 1, hok, hx, h => by
    have h0 := hok p (by simp)
    have ih := pckE_at (fs := r) (x := x) (fun q hq => hok q (by simp [hq])) (by simpa using hx) (by simpa using h)
    unfold pckE
    rw [if_neg (by rw [h0.1]; decide), if_neg (by have := h0.2; omega), ih]
    rfl
theorem okK_snoc {fs : List PK} {x : Nat} (h : x < fs.length) (hk : okKL (fs.take x)) (hp : okK (fs.getD x pk0)) : okKL (fs.take (x + 1)) := by
  intro p hp'
  rw [List.take_succ_eq_append_getElem h, List.mem_append] at hp'
  rcases hp' with hp' | hp'
  · exact hk p hp'
  · rw [List.mem_singleton] at hp'
    subst hp'
    rw [List.getD_eq_getElem?_getD, List.getElem?_eq_getElem h] at hp
    exact hp
theorem jk_snoc {fs : List PK} {x : Nat} (h : x < fs.length) : jk (fs.take (x + 1)) = jk (fs.take x) ++ zer (pad4 (jk (fs.take x)).length) ++ entk (fs.getD x pk0) := by
  unfold jk
  rw [List.take_succ_eq_append_getElem h, List.map_append, List.map_cons, List.map_nil, jg_snoc, List.getD_eq_getElem?_getD, List.getElem?_eq_getElem h]
  rfl
theorem jk_le : ∀ {l : List PK}, okKL l → (jk l).length ≤ 1517 * l.length
  | [], _ => Nat.zero_le _
  | p :: r, h => by
    have h0 := (h p List.mem_cons_self).2
    have h1 := jk_le (l := r) fun q hq => h q (List.mem_cons_of_mem _ hq)
    have h2 := pad4_lt (14 + p.data.length)
    unfold jk at h1 ⊢
    rw [List.map_cons, jg, List.length_append, entk_length]
    split
    · simp only [List.length_nil, List.length_cons]; omega
    · simp only [List.length_append, zer_length, List.length_cons]; omega
def jkE (l : List PK) : List UInt8 × Int :=
  if l.length = 0 then ([], 6) else if 32 < l.length then ([], 4) else if pckE l = 0 then (if 2304 < (jk l).length then ([], 11) else (jk l, 0)) else ([], pckE l)
theorem byte_and1 (b : UInt8) : bits .and .u8 (b.toNat : Int) 1 = ((b.toNat % 2 : Nat) : Int) := by
  have h := u8_and_nat b.toNat 1 b.toNat_lt (by decide)
  rw [Nat.and_one_is_mod] at h
  exact h

section
variable {C : Ctx} {fr : Fr} {Γ Γ' Γ1 : List OA} {Φ : List SP}
/-- a list of byte strings that is made, told as lasting at once. -/
theorem Effs.letL {o : Oper} {X : Type} {pf : X → Prop} {vx : X → Value} {G : X → List OA} {H : X → List SP} {v : X → Value} {et : TypeId} {n : Nat} {vs : List Value} {fs : List (List UInt8)} (hn : n = fs.length)
    (h : Effs C fr Γ Φ o pf vx (fun x => .row (v x) et 1 n vs :: G x) H) (hb : ∀ x, ByL (H x) vs fs) : Effs C fr Γ Φ o pf vx G (fun x => Rw 1 (v x) fs.length (fun i => [vs.getD i undef]) :: Al fs.length (fun i => By (vs.getD i undef) (fs.getD i [])) :: H x) := by
  subst hn
  refine ⟨fun x ψ hψ => List.mem_cons_of_mem _ (List.mem_cons_of_mem _ (h.1 x ψ hψ)), fun R a w ha hw => (h.2 R a w ha hw).mono fun v' w' ⟨x, hp, hv, hw'⟩ => ⟨x, hp, hv, ?_⟩⟩
  have h1 : Holds C (G x ++ R) (Sl 1 (v x) fs.length vs :: H x) w' := Holds.letgo hw'
  refine ⟨h1.mod, h1.own, h1.ofp, h1.o0, fun ψ hψ => ?_⟩
  rcases List.mem_cons.1 hψ with rfl | hψ
  · exact (h1.ent (ent_slRw1 List.mem_cons_self)).sp _ List.mem_cons_self
  · rcases List.mem_cons.1 hψ with rfl | hψ
    · exact fun i hi => h1.sp _ (List.mem_cons_of_mem _ (byL_get (hb x) i hi))
    · exact h1.sp ψ (List.mem_cons_of_mem _ hψ)
end
attribute [local irreducible] WL W WQ PL Runs Effs AllE Ent SubO FrIn Pick OneC Ones CellsE PartsE SeqE UZ By Sl Pt Ct

set_option maxRecDepth 100000 in
theorem group_fn (a : A6) : CtD Try.prog 29 [.agg #[bcell a.a0, bcell a.a1, bcell a.a2, bcell a.a3, bcell a.a4, bcell a.a5]] [] (.bool (grp a.a0)) := by
  by_cases h : a.a0.toNat % 2 = 1
  · rw [grp, decide_eq_true h]
    refine Ct_intro Try.func29 rfl Try.ntmps29 (by simp) _ rfl (fun w0 O0 => ?_)
    repeat (first | refine n1 ?_ | refine n2 (fun b _ => ?_) | refine n3 (fun _ _ => ?_) | refine n4 ?_ | refine n5 ?_ | refine WL_nil ?_ | refine W_seq ?_ | refine W_region ?_ | refine n7 ?_ | refine n8 ?_ | refine W_block ?_ | refine W_skip ?_ | refine W_ret ?_ | refine W_exit ?_ | refine WQ_then ?_ | refine WQ_then_ret ?_ | refine WQ_then_exit ?_ | refine WQ_block_normal ?_ | refine WQ_block_ret ?_ | refine WQ_block_exit ?_ | refine n9 ?_)
    refine WL_runs rfl rfl rfl (R_and rfl rfl (byte_and1 _)) ?_
    repeat (first | refine n1 ?_ | refine n2 (fun b _ => ?_) | refine n3 (fun _ _ => ?_) | refine n4 ?_ | refine n5 ?_ | refine WL_nil ?_ | refine W_seq ?_ | refine W_region ?_ | refine n7 ?_ | refine n8 ?_ | refine W_block ?_ | refine W_skip ?_ | refine W_ret ?_ | refine W_exit ?_ | refine WQ_then ?_ | refine WQ_then_ret ?_ | refine WQ_then_exit ?_ | refine WQ_block_normal ?_ | refine WQ_block_ret ?_ | refine WQ_block_exit ?_ | refine n9 ?_)
    ((apply ret1 Try.results29 ( ())); (focus (first | trivial | assumption | omega)); (focus (first | exact RV_tmp rfl | (apply RV_cellN; exact rfl; (repeat' (first | exact Pick.head _ _ | apply Pick.tail)); (intro _; exact rfl); (intro _; exact rfl); exact rfl) | (apply RV_cell1; exact rfl; (repeat' (first | exact Pick.head _ _ | apply Pick.tail)); (intro _; exact rfl); exact rfl)));  (focus (first | exact rfl | (simp; done))); (focus (repeat (first | exact SubO.nil _ | (apply SubO.cons; (focus (repeat' (first | exact Pick.head _ _ | apply Pick.tail))))))); (focus (repeat (first | exact AllE.nil _ | (apply AllE.cons; (focus (first | exact ent_nilBy | exact ent_nilSl | (apply Ent.mem; repeat' (first | exact mcs | apply mct)))))))))
  · rw [grp, decide_eq_false h]
    refine Ct_intro Try.func29 rfl Try.ntmps29 (by simp) _ rfl (fun w0 O0 => ?_)
    repeat (first | refine n1 ?_ | refine n2 (fun b _ => ?_) | refine n3 (fun _ _ => ?_) | refine n4 ?_ | refine n5 ?_ | refine WL_nil ?_ | refine W_seq ?_ | refine W_region ?_ | refine n7 ?_ | refine n8 ?_ | refine W_block ?_ | refine W_skip ?_ | refine W_ret ?_ | refine W_exit ?_ | refine WQ_then ?_ | refine WQ_then_ret ?_ | refine WQ_then_exit ?_ | refine WQ_block_normal ?_ | refine WQ_block_ret ?_ | refine WQ_block_exit ?_ | refine n9 ?_)
    refine WL_runs rfl rfl rfl (R_and rfl rfl (byte_and1 _)) ?_
    repeat (first | refine n1 ?_ | refine n2 (fun b _ => ?_) | refine n3 (fun _ _ => ?_) | refine n4 ?_ | refine n5 ?_ | refine WL_nil ?_ | refine W_seq ?_ | refine W_region ?_ | refine n7 ?_ | refine n8 ?_ | refine W_block ?_ | refine W_skip ?_ | refine W_ret ?_ | refine W_exit ?_ | refine WQ_then ?_ | refine WQ_then_ret ?_ | refine WQ_then_exit ?_ | refine WQ_block_normal ?_ | refine WQ_block_ret ?_ | refine WQ_block_exit ?_ | refine n9 ?_)
    ((apply ret1 Try.results29 ( ())); (focus (first | trivial | assumption | omega)); (focus (first | exact RV_tmp rfl | (apply RV_cellN; exact rfl; (repeat' (first | exact Pick.head _ _ | apply Pick.tail)); (intro _; exact rfl); (intro _; exact rfl); exact rfl) | (apply RV_cell1; exact rfl; (repeat' (first | exact Pick.head _ _ | apply Pick.tail)); (intro _; exact rfl); exact rfl)));  (focus (first | exact rfl | (simp; done))); (focus (repeat (first | exact SubO.nil _ | (apply SubO.cons; (focus (repeat' (first | exact Pick.head _ _ | apply Pick.tail))))))); (focus (repeat (first | exact AllE.nil _ | (apply AllE.cons; (focus (first | exact ent_nilBy | exact ent_nilSl | (apply Ent.mem; repeat' (first | exact mcs | apply mct)))))))))

set_option maxRecDepth 100000 in
set_option maxHeartbeats 4000000 in
theorem pack1_fn (ov : Value) (out : List UInt8) (p : PK) (ho : out.length ≤ 10000000) : Ct Try.prog 28 [ov, p.val] [] [By ov out, By p.dv p.data]
    (X := Value) (fun _ => True) (fun x => .tuple #[x, .int .i64 (K1 out p).2]) (fun x => [.row x 5 1 (K1 out p).1.length ((K1 out p).1.map bcell)]) (fun _ => []) := by
  cases h0 : grp p.fr_.a0 with
  | true =>
    have hg := group_fn p.fr_
    rw [h0] at hg
    rw [show K1 out p = ([], 8) by unfold K1; rw [if_pos h0]]
    refine Ct_intro Try.func28 rfl Try.ntmps28 (by simp) _ rfl (fun w0 O0 => ?_)
    repeat (first | refine n1 ?_ | refine n2 (fun b _ => ?_) | refine n3 (fun _ _ => ?_) | refine n4 ?_ | refine n5 ?_ | refine n6 (hg) ?_ | refine n6v (hg) ?_ | refine WL_nil ?_ | refine W_seq ?_ | refine W_region ?_ | refine n7 ?_ | refine n8 ?_ | refine W_block ?_ | refine W_skip ?_ | refine W_ret ?_ | refine W_exit ?_ | refine WQ_then ?_ | refine WQ_then_ret ?_ | refine WQ_then_exit ?_ | refine WQ_block_normal ?_ | refine WQ_block_ret ?_ | refine WQ_block_exit ?_ | refine n9 ?_)
    apply WQ_nilRow 5 1
    ((apply ret2 Try.results28 ( Value.slice none 0 0)); (focus (first | trivial | assumption | omega)); (focus (first | exact RV_tmp rfl | (apply RV_cellN; exact rfl; (repeat' (first | exact Pick.head _ _ | apply Pick.tail)); (intro _; exact rfl); (intro _; exact rfl); exact rfl) | (apply RV_cell1; exact rfl; (repeat' (first | exact Pick.head _ _ | apply Pick.tail)); (intro _; exact rfl); exact rfl))); (focus (first | exact RV_tmp rfl | (apply RV_cellN; exact rfl; (repeat' (first | exact Pick.head _ _ | apply Pick.tail)); (intro _; exact rfl); (intro _; exact rfl); exact rfl) | (apply RV_cell1; exact rfl; (repeat' (first | exact Pick.head _ _ | apply Pick.tail)); (intro _; exact rfl); exact rfl)));  (focus (first | exact rfl | (simp; done))); (focus (repeat (first | exact SubO.nil _ | (apply SubO.cons; (focus (repeat' (first | exact Pick.head _ _ | apply Pick.tail))))))); (focus (repeat (first | exact AllE.nil _ | (apply AllE.cons; (focus (first | exact ent_nilBy | exact ent_nilSl | (apply Ent.mem; repeat' (first | exact mcs | apply mct)))))))))
  | false =>
    have hg := group_fn p.fr_
    rw [h0] at hg
    by_cases h1 : 1500 < p.data.length
    · rw [show K1 out p = ([], 11) by unfold K1; rw [if_neg (by rw [h0]; decide), if_pos h1]]
      refine Ct_intro Try.func28 rfl Try.ntmps28 (by simp) _ rfl (fun w0 O0 => ?_)
      repeat (first | refine n1 ?_ | refine n2 (fun b _ => ?_) | refine n3 (fun _ _ => ?_) | refine n4 ?_ | refine n5 ?_ | refine n6 (hg) ?_ | refine n6v (hg) ?_ | refine WL_nil ?_ | refine W_seq ?_ | refine W_region ?_ | refine n7 ?_ | refine n8 ?_ | refine W_block ?_ | refine W_skip ?_ | refine W_ret ?_ | refine W_exit ?_ | refine WQ_then ?_ | refine WQ_then_ret ?_ | refine WQ_then_exit ?_ | refine WQ_block_normal ?_ | refine WQ_block_ret ?_ | refine WQ_block_exit ?_ | refine n9 ?_)
      apply WQ_nilRow 5 1
      ((apply ret2 Try.results28 ( Value.slice none 0 0)); (focus (first | trivial | assumption | omega)); (focus (first | exact RV_tmp rfl | (apply RV_cellN; exact rfl; (repeat' (first | exact Pick.head _ _ | apply Pick.tail)); (intro _; exact rfl); (intro _; exact rfl); exact rfl) | (apply RV_cell1; exact rfl; (repeat' (first | exact Pick.head _ _ | apply Pick.tail)); (intro _; exact rfl); exact rfl))); (focus (first | exact RV_tmp rfl | (apply RV_cellN; exact rfl; (repeat' (first | exact Pick.head _ _ | apply Pick.tail)); (intro _; exact rfl); (intro _; exact rfl); exact rfl) | (apply RV_cell1; exact rfl; (repeat' (first | exact Pick.head _ _ | apply Pick.tail)); (intro _; exact rfl); exact rfl)));  (focus (first | exact rfl | (simp; done))); (focus (repeat (first | exact SubO.nil _ | (apply SubO.cons; (focus (repeat' (first | exact Pick.head _ _ | apply Pick.tail))))))); (focus (repeat (first | exact AllE.nil _ | (apply AllE.cons; (focus (first | exact ent_nilBy | exact ent_nilSl | (apply Ent.mem; repeat' (first | exact mcs | apply mct)))))))))
    · rw [show K1 out p = (out ++ entk p, 0) by unfold K1; rw [if_neg (by rw [h0]; decide), if_neg h1]]
      refine Ct_intro Try.func28 rfl Try.ntmps28 (by simp) _ rfl (fun w0 O0 => ?_)
      (first | refine n1 ?_ | refine n2 (fun b _ => ?_) | refine n3 (fun _ _ => ?_) | refine n4 ?_ | refine n5 ?_ | refine WL_nil ?_ | refine W_seq ?_ | refine W_region ?_ | refine n7 ?_ | refine n8 ?_ | refine W_block ?_ | refine W_skip ?_ | refine W_ret ?_ | refine W_exit ?_ | refine WQ_then ?_ | refine WQ_then_ret ?_ | refine WQ_then_exit ?_ | refine WQ_block_normal ?_ | refine WQ_block_ret ?_ | refine WQ_block_exit ?_ | refine n9 ?_)
      (first | refine n1 ?_ | refine n2 (fun b _ => ?_) | refine n3 (fun _ _ => ?_) | refine n4 ?_ | refine n5 ?_ | refine WL_nil ?_ | refine W_seq ?_ | refine W_region ?_ | refine n7 ?_ | refine n8 ?_ | refine W_block ?_ | refine W_skip ?_ | refine W_ret ?_ | refine W_exit ?_ | refine WQ_then ?_ | refine WQ_then_ret ?_ | refine WQ_then_exit ?_ | refine WQ_block_normal ?_ | refine WQ_block_ret ?_ | refine WQ_block_exit ?_ | refine n9 ?_)
      (first | refine n1 ?_ | refine n2 (fun b _ => ?_) | refine n3 (fun _ _ => ?_) | refine n4 ?_ | refine n5 ?_ | refine WL_nil ?_ | refine W_seq ?_ | refine W_region ?_ | refine n7 ?_ | refine n8 ?_ | refine W_block ?_ | refine W_skip ?_ | refine W_ret ?_ | refine W_exit ?_ | refine WQ_then ?_ | refine WQ_then_ret ?_ | refine WQ_then_exit ?_ | refine WQ_block_normal ?_ | refine WQ_block_ret ?_ | refine WQ_block_exit ?_ | refine n9 ?_)
      obtain ⟨b3, rfl⟩ : ∃ b3, b3 = b := ⟨b, rfl⟩
      repeat (first | refine n1 ?_ | refine n2 (fun b _ => ?_) | refine n3 (fun _ _ => ?_) | refine n4 ?_ | refine n5 ?_ | refine n6 (hg) ?_ | refine n6v (hg) ?_ | refine WL_nil ?_ | refine W_seq ?_ | refine W_region ?_ | refine n7 ?_ | refine n8 ?_ | refine W_block ?_ | refine W_skip ?_ | refine W_ret ?_ | refine W_exit ?_ | refine WQ_then ?_ | refine WQ_then_ret ?_ | refine WQ_then_exit ?_ | refine WQ_block_normal ?_ | refine WQ_block_ret ?_ | refine WQ_block_exit ?_ | refine n9 ?_)
      refine W_letgoK (b := b3) (by repeat' (first | exact Pick.head _ _ | apply Pick.tail)) ?_
      refine W_ent (ent_ptBy (b := b3) (off := 0) (n := 6) (xs := p.cells) (bs := p.to_.bytes) (by repeat' (first | exact mcs | apply mct)) rfl rfl (by decide) (by decide)) ?_
      refine W_ent (ψ := Pt (.pointer (some ⟨b3, 6, none⟩)) (p.cells.drop 6)) (ent_fld (p := .pointer (some ⟨b3, 0, none⟩)) (us := p.cells) (off := 6) (by repeat' (first | exact mcs | apply mct))) ?_
      refine W_ent (ent_ptBy (b := b3) (off := 6) (n := 6) (xs := p.cells.drop 6) (bs := p.fr_.bytes) (by repeat' (first | exact mcs | apply mct)) rfl rfl (by decide) (by decide)) ?_
      refine W_ent (ψ := Pt (.pointer (some ⟨b3, 12, none⟩)) (p.cells.drop 12)) (ent_fld (p := .pointer (some ⟨b3, 0, none⟩)) (us := p.cells) (off := 12) (by repeat' (first | exact mcs | apply mct))) ?_
      (refine W_regionP' [10, 13, 14] [] [0, 1, 2, 3, 4, 5, 6, 7, 8, 9, 11, 12, 10, 13, 14, 15, 16] [] (by kernel_rfl) (by kernel_rfl) (by repeat (first | exact UZ.nil _ _ | (apply UZ.cons; exact rfl; (intro _; exact rfl)))) (by exact rfl) (by (repeat (first | exact SubO.nil _ | (apply SubO.cons; (focus (repeat' (first | exact Pick.head _ _ | apply Pick.tail))))))) ?_)
      repeat (first | refine p1 ?_ | refine p2 (fun b _ => ?_) | refine p3 (fun _ _ => ?_) | refine p4 ?_ | refine p5 ?_ | refine p7 (fun b => ?_) | refine PL_nil ?_)
      refine PL_runs rfl rfl rfl rfl rfl (R_shr rfl rfl (by decide) (i64_shr8 _)) ?_
      repeat (first | refine p1 ?_ | refine p2 (fun b _ => ?_) | refine p3 (fun _ _ => ?_) | refine p4 ?_ | refine p5 ?_ | refine p7 (fun b => ?_) | refine PL_nil ?_)
      rw [show ((p.data.length / 256 : Nat) : Int) = ((UInt8.ofNat (p.data.length / 256)).toNat : Int) by rw [UInt8.toNat_ofNat', Nat.mod_eq_of_lt (by omega)]]
      refine PL_effs rfl rfl rfl rfl rfl (Effs.letB (n := fun _ => 2) (bs := fun _ => dl2 p.data.length) (by (apply E_buildSlice; exact rfl; (focus (repeat (first | apply SeqE.nil | (apply SeqE.cons; exact rfl; (focus (first | (apply CellsE.lit; exact rfl) | (apply CellsE.one; (first | (apply OneC.lit; exact rfl) | (apply OneC.by_; (repeat' (first | exact mcs | apply mct)); done) | (apply OneC.sl; (repeat' (first | exact mcs | apply mct)); done) | (apply OneC.rw; (repeat' (first | exact mcs | apply mct)); done) | (apply OneC.row; (repeat' (first | exact Pick.head _ _ | apply Pick.tail))))))); exact rfl) | exact rfl))); exact rfl; (first | (intro _; exact (rfl : _ = Result.ok 1 _)) | (intro _; exact (rfl : _ = Result.ok 2 _)) | (intro _; exact (rfl : _ = Result.ok 3 _)) | (intro _; exact (rfl : _ = Result.ok 4 _)) | (intro _; exact (rfl : _ = Result.ok 5 _)) | (intro _; exact (rfl : _ = Result.ok 6 _)) | (intro _; exact (rfl : _ = Result.ok 7 _)) | (intro _; exact (rfl : _ = Result.ok 8 _)) | (intro _; exact (rfl : _ = Result.ok 13 _)) | (intro _; exact (rfl : _ = Result.ok 14 _)) | (intro _; exact (rfl : _ = Result.ok 26 _)) | (intro _; exact (rfl : _ = Result.ok 40 _)) | (intro _; exact (rfl : _ = Result.ok 41 _)) | (intro _; exact (rfl : _ = Result.ok 42 _)) | (intro _; exact (rfl : _ = Result.ok 43 _)) | (intro _; exact (rfl : _ = Result.ok 44 _)) | (intro _; exact (rfl : _ = Result.ok 45 _)) | (intro _; exact (rfl : _ = Result.ok 46 _))); (intro _; exact rfl); exact rfl; exact Nat.le_of_ble_eq_true rfl; exact Nat.le_of_ble_eq_true rfl))) (fun _ => (by (repeat (first | exact SubO.nil _ | (apply SubO.cons; (focus (repeat' (first | exact Pick.head _ _ | apply Pick.tail)))))))) (fun q _ => ?_)
      repeat (first | refine p1 ?_ | refine p2 (fun b _ => ?_) | refine p3 (fun _ _ => ?_) | refine p4 ?_ | refine p5 ?_ | refine p7 (fun b => ?_) | refine PL_nil ?_)
      refine PL_effs rfl rfl rfl rfl rfl (Effs.letL (vs := [ov, .slice (some ⟨b3, 0, none⟩) 6 6, .slice (some ⟨b3, 6, none⟩) 6 6, q, p.dv]) (fs := [out, p.to_.bytes, p.fr_.bytes, dl2 p.data.length, p.data]) rfl (by (apply E_buildSlice; exact rfl; (focus (repeat (first | apply SeqE.nil | (apply SeqE.cons; exact rfl; (focus (first | (apply CellsE.lit; exact rfl) | (apply CellsE.one; (first | (apply OneC.lit; exact rfl) | (apply OneC.by_; (repeat' (first | exact mcs | apply mct)); done) | (apply OneC.sl; (repeat' (first | exact mcs | apply mct)); done) | (apply OneC.rw; (repeat' (first | exact mcs | apply mct)); done) | (apply OneC.row; (repeat' (first | exact Pick.head _ _ | apply Pick.tail))))))); exact rfl) | exact rfl))); exact rfl; (first | (intro _; exact (rfl : _ = Result.ok 1 _)) | (intro _; exact (rfl : _ = Result.ok 2 _)) | (intro _; exact (rfl : _ = Result.ok 3 _)) | (intro _; exact (rfl : _ = Result.ok 4 _)) | (intro _; exact (rfl : _ = Result.ok 5 _)) | (intro _; exact (rfl : _ = Result.ok 6 _)) | (intro _; exact (rfl : _ = Result.ok 7 _)) | (intro _; exact (rfl : _ = Result.ok 8 _)) | (intro _; exact (rfl : _ = Result.ok 13 _)) | (intro _; exact (rfl : _ = Result.ok 14 _)) | (intro _; exact (rfl : _ = Result.ok 26 _)) | (intro _; exact (rfl : _ = Result.ok 40 _)) | (intro _; exact (rfl : _ = Result.ok 41 _)) | (intro _; exact (rfl : _ = Result.ok 42 _)) | (intro _; exact (rfl : _ = Result.ok 43 _)) | (intro _; exact (rfl : _ = Result.ok 44 _)) | (intro _; exact (rfl : _ = Result.ok 45 _)) | (intro _; exact (rfl : _ = Result.ok 46 _))); (intro _; exact rfl); exact rfl; exact Nat.le_of_ble_eq_true rfl; exact Nat.le_of_ble_eq_true rfl)) (fun _ => ⟨(by repeat' (first | exact mcs | apply mct)), (by repeat' (first | exact mcs | apply mct)), (by repeat' (first | exact mcs | apply mct)), (by repeat' (first | exact mcs | apply mct)), (by repeat' (first | exact mcs | apply mct)), trivial⟩)) (fun _ => (by (repeat (first | exact SubO.nil _ | (apply SubO.cons; (focus (repeat' (first | exact Pick.head _ _ | apply Pick.tail)))))))) (fun q2 _ => ?_)
      repeat (first | refine p1 ?_ | refine p2 (fun b _ => ?_) | refine p3 (fun _ _ => ?_) | refine p4 ?_ | refine p5 ?_ | refine p7 (fun b => ?_) | refine PL_nil ?_)
      have hfl : [out, p.to_.bytes, p.fr_.bytes, dl2 p.data.length, p.data].flatten = out ++ entk p := by simp [entk]
      have hfn : (out ++ entk p).length = out.length + (14 + p.data.length) := by rw [List.length_append, entk_length]
      have hc := concat_fn q2 [out, p.to_.bytes, p.fr_.bytes, dl2 p.data.length, p.data] (fun i => [ov, .slice (some ⟨b3, 0, none⟩) 6 6, .slice (some ⟨b3, 6, none⟩) 6 6, q, p.dv].getD i undef) (by rw [hfl, hfn]; omega) (by show 5 ≤ 1000000; omega)
      rw [hfl] at hc
      (apply PL_effs; exact rfl; exact rfl; exact rfl; exact rfl; exact rfl; apply E_call; exact rfl; (intro _ _; simp); exact hc; (repeat (first | exact AllE.nil _ | (apply AllE.cons; (focus (first | exact ent_nilBy | exact ent_nilSl | (apply Ent.mem; repeat' (first | exact mcs | apply mct))))))); (intro _; exact rfl); (intro _; exact rfl); (intro _; (repeat (first | exact SubO.nil _ | (apply SubO.cons; (focus (repeat' (first | exact Pick.head _ _ | apply Pick.tail))))))))
      intro o _
      repeat (first | refine p1 ?_ | refine p2 (fun b _ => ?_) | refine p3 (fun _ _ => ?_) | refine p4 ?_ | refine p5 ?_ | refine p7 (fun b => ?_) | refine PL_nil ?_)
      repeat (first | refine n1 ?_ | refine n2 (fun b _ => ?_) | refine n3 (fun _ _ => ?_) | refine n4 ?_ | refine n5 ?_ | refine WL_nil ?_ | refine W_seq ?_ | refine W_region ?_ | refine n7 ?_ | refine n8 ?_ | refine W_block ?_ | refine W_skip ?_ | refine W_ret ?_ | refine W_exit ?_ | refine WQ_then ?_ | refine WQ_then_ret ?_ | refine WQ_then_exit ?_ | refine WQ_block_normal ?_ | refine WQ_block_ret ?_ | refine WQ_block_exit ?_ | refine n9 ?_)
      ((apply ret2 Try.results28 ( o)); (focus (first | trivial | assumption | omega)); (focus (first | exact RV_tmp rfl | (apply RV_cellN; exact rfl; (repeat' (first | exact Pick.head _ _ | apply Pick.tail)); (intro _; exact rfl); (intro _; exact rfl); exact rfl) | (apply RV_cell1; exact rfl; (repeat' (first | exact Pick.head _ _ | apply Pick.tail)); (intro _; exact rfl); exact rfl))); (focus (first | exact RV_tmp rfl | (apply RV_cellN; exact rfl; (repeat' (first | exact Pick.head _ _ | apply Pick.tail)); (intro _; exact rfl); (intro _; exact rfl); exact rfl) | (apply RV_cell1; exact rfl; (repeat' (first | exact Pick.head _ _ | apply Pick.tail)); (intro _; exact rfl); exact rfl)));  (focus (first | exact rfl | (simp; done))); (focus (repeat (first | exact SubO.nil _ | (apply SubO.cons; (focus (repeat' (first | exact Pick.head _ _ | apply Pick.tail))))))); (focus (repeat (first | exact AllE.nil _ | (apply AllE.cons; (focus (first | exact ent_nilBy | exact ent_nilSl | (apply Ent.mem; repeat' (first | exact mcs | apply mct)))))))))
end Go.Proofs.Ytdhbgolbfkejcaa
