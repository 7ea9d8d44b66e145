/-
  The law 'ElementFinds' walked.
-/
import Derived.Test.YtahkcidnmdcaaaaFk
namespace Go.Proofs.Ytahkcidnmdcaaaa
open Go Go.RowKit Go.Hs

abbrev one_ (id ext : UInt8) (dv : Value) (data : List UInt8) (sv : Value) (subs : T) : T := .cons id ext dv data sv subs .nil
theorem ent_cutT {Φ : List SP} {v : Value} {t : T} {k : Nat} {id ext : UInt8} {dv : Value} {data : List UInt8} {sv : Value} {subs next : T} (h : Sl 4 v t.len t.cells ∈ Φ) (e : t.drop k = .cons id ext dv data sv subs next) (hk : k < t.len) :
    Ent Φ (Rw 4 (cutV 4 k (k + 1) v) (one_ id ext dv data sv subs).len (one_ id ext dv data sv subs).at_) := fun w O hw => by
  have h1 := ent_cut (lo := k) (hi := k + 1) h (by omega) (by omega) w O hw
  have e1 : (t.cells.drop (k * 4)).take ((k + 1 - k) * 4) = (one_ id ext dv data sv subs).cells := by
    rw [show (k + 1 - k) * 4 = 4 by omega, T.cells_at t k hk, T.at_cons e]
    rfl
  rw [e1, show k + 1 - k = 1 by omega] at h1
  exact slT_rw h1

attribute [local irreducible] WL W WQ PL Runs Effs AllE Ent SubO FrIn Pick OneC Ones CellsE PartsE SeqE UZ By Sl Pt Ct
theorem rmF_drop {t : T} {k : Nat} {a b : UInt8} {dv : Value} {d : List UInt8} {sv : Value} {s n : T} {id ext : UInt8} (e : t.drop k = .cons a b dv d sv s n) :
    rmF (t.drop k).er id ext = if isB a b id ext then rmF (t.drop (k + 1)).er id ext else .cons a b d s.er (rmF (t.drop (k + 1)).er id ext) := by
  rw [T.drop_next e, e]
  rfl
theorem fidx_at {t : T} {k : Nat} {a b : UInt8} {dv : Value} {d : List UInt8} {sv : Value} {s n : T} {id ext : UInt8} (e : t.drop k = .cons a b dv d sv s n) (h : isB a b id ext = true)
    (hi : ∀ j a b dv d sv s n, j < k → t.drop j = .cons a b dv d sv s n → isB a b id ext = false) : fidx t.er id ext = some k := by
  rw [fidx_drop hi, e]
  simp [T.er, fidx, h]
theorem fidx_end {t : T} {id ext : UInt8} (hi : ∀ j a b dv d sv s n, j < t.len → t.drop j = .cons a b dv d sv s n → isB a b id ext = false) : fidx t.er id ext = none := by
  rw [fidx_drop hi, drop_end rfl]
  rfl

set_option maxRecDepth 100000 in
set_option maxHeartbeats 16000000 in
theorem findsLaw_fn (t : T) (v : Value) (id ext : UInt8) : CtD Try.prog 10 [v, bcell id, bcell ext] [Rw 4 v t.len t.at_, t.tf] (.bool true) := by
  have hal := alive_fn
  refine Ct_intro Try.func10 rfl Try.ntmps10 (by simp) _ rfl (fun w0 O0 => ?_)
  repeat (first | refine n1 ?_ | refine n2 (fun b _ => ?_) | refine n3 (fun _ _ => ?_) | refine n4 ?_ | refine n5 ?_ | refine n6 (hal) ?_ | refine n6v (hal) ?_ | refine WL_nil ?_ | refine W_seq ?_ | refine W_region ?_ | refine n7 ?_ | refine n8 ?_ | refine W_block ?_ | refine W_skip ?_ | refine W_ret ?_ | refine W_exit ?_ | refine WQ_then ?_ | refine WQ_then_ret ?_ | refine WQ_then_exit ?_ | refine WQ_block_normal ?_ | refine WQ_block_ret ?_ | refine WQ_block_exit ?_ | refine n9 ?_)
  (apply WL_effs; exact rfl; exact rfl; exact rfl; apply E_call; exact rfl; (intro _ _; simp); exact great_fn t v; (repeat (first | exact AllE.nil _ | (apply AllE.cons; (focus (first | exact ent_nilBy | exact ent_nilSl | (apply Ent.mem; repeat' (first | exact mcs | apply mct))))))); (intro _; exact rfl); (intro _; exact rfl))
  intro gr hgr
  cases gr with
  | true =>
    repeat (first | refine n1 ?_ | refine n2 (fun b _ => ?_) | refine n3 (fun _ _ => ?_) | refine n4 ?_ | refine n5 ?_ | refine WL_nil ?_ | refine W_seq ?_ | refine W_region ?_ | refine n7 ?_ | refine n8 ?_ | refine W_block ?_ | refine W_skip ?_ | refine W_ret ?_ | refine W_exit ?_ | refine WQ_then ?_ | refine WQ_then_ret ?_ | refine WQ_then_exit ?_ | refine WQ_block_normal ?_ | refine WQ_block_ret ?_ | refine WQ_block_exit ?_ | refine n9 ?_)
    ((apply ret1 Try.results10 ( ())); (focus (first | trivial | assumption | omega)); (focus (first | exact RV_tmp rfl | (apply RV_cellN; exact rfl; (repeat' (first | exact Pick.head _ _ | apply Pick.tail)); (intro _; exact rfl); (intro _; exact rfl); exact rfl) | (apply RV_cell1; exact rfl; (repeat' (first | exact Pick.head _ _ | apply Pick.tail)); (intro _; exact rfl); exact rfl)));  (focus (first | exact rfl | (simp; done))); (focus (repeat (first | exact SubO.nil _ | (apply SubO.cons; (focus (repeat' (first | exact Pick.head _ _ | apply Pick.tail))))))); (focus (repeat (first | exact AllE.nil _ | (apply AllE.cons; (focus (first | exact ent_nilBy | exact ent_nilSl | (apply Ent.mem; repeat' (first | exact mcs | apply mct)))))))))
  | false =>
    obtain ⟨hs1, hd1⟩ := hgr rfl
    have hlc := len_cnt t
    have hcn := hs1.1
    repeat (first | refine n1 ?_ | refine n2 (fun b _ => ?_) | refine n3 (fun _ _ => ?_) | refine n4 ?_ | refine n5 ?_ | refine WL_nil ?_ | refine W_seq ?_ | refine W_region ?_ | refine n7 ?_ | refine n8 ?_ | refine W_block ?_ | refine W_skip ?_ | refine W_ret ?_ | refine W_exit ?_ | refine WQ_then ?_ | refine WQ_then_ret ?_ | refine WQ_then_exit ?_ | refine WQ_block_normal ?_ | refine WQ_block_ret ?_ | refine WQ_block_exit ?_ | refine n9 ?_)
    (apply WL_effs; exact rfl; exact rfl; exact rfl; apply E_call; exact rfl; (intro _ _; simp); exact find_fn t v id ext hs1.md; (repeat (first | exact AllE.nil _ | (apply AllE.cons; (focus (first | exact ent_nilBy | exact ent_nilSl | (apply Ent.mem; repeat' (first | exact mcs | apply mct))))))); (intro _; exact rfl); (intro _; exact rfl))
    rintro ⟨xi, xe, xdv, xdata, xsv, xsubs, xis⟩ hfx
    replace hfx : (EX.er ⟨xi, xe, xdv, xdata, xsv, xsubs, xis⟩, xis) = fR t.er id ext := hfx
    dsimp only
    refine WL_letgoB (v := xdv) (by repeat' (first | exact Pick.head _ _ | apply Pick.tail)) rfl ?_
    repeat (first | refine n1 ?_ | refine n2 (fun b _ => ?_) | refine n3 (fun _ _ => ?_) | refine n4 ?_ | refine n5 ?_ | refine WL_nil ?_ | refine W_seq ?_ | refine W_region ?_ | refine n7 ?_ | refine n8 ?_ | refine W_block ?_ | refine W_skip ?_ | refine W_ret ?_ | refine W_exit ?_ | refine WQ_then ?_ | refine WQ_then_ret ?_ | refine WQ_then_exit ?_ | refine WQ_block_normal ?_ | refine WQ_block_ret ?_ | refine WQ_block_exit ?_ | refine n9 ?_)
    obtain ⟨b8, rfl⟩ : ∃ b8, b8 = b := ⟨b, rfl⟩
    (apply WL_effs; exact rfl; exact rfl; exact rfl; apply E_call; exact rfl; (intro _ _; simp); exact remove_fn t v id ext hs1.md; (repeat (first | exact AllE.nil _ | (apply AllE.cons; (focus (first | exact ent_nilBy | exact ent_nilSl | (apply Ent.mem; repeat' (first | exact mcs | apply mct))))))); (intro _; exact rfl); (intro _; exact rfl))
    rintro ⟨r, u⟩ hu
    replace hu : u.er = rmF t.er id ext := hu
    dsimp only
    refine WL_letgo (v := r) (by repeat' (first | exact Pick.head _ _ | apply Pick.tail)) ?_
    refine WL_ent (ent_slT (v := r) (t := u) (by repeat' (first | exact mcs | apply mct))) ?_
    refine WL_tree (t := u) (by repeat' (first | exact Pick.head _ _ | apply Pick.tail)) (by repeat' (first | exact mcs | apply mct)) ?_
    refine WL_ent (ent_rwT (v := v) (t := t) (by repeat' (first | exact mcs | apply mct))) ?_
    repeat (first | refine n1 ?_ | refine n2 (fun b _ => ?_) | refine n3 (fun _ _ => ?_) | refine n4 ?_ | refine n5 ?_ | refine WL_nil ?_ | refine W_seq ?_ | refine W_region ?_ | refine n7 ?_ | refine n8 ?_ | refine W_block ?_ | refine W_skip ?_ | refine W_ret ?_ | refine W_exit ?_ | refine WQ_then ?_ | refine WQ_then_ret ?_ | refine WQ_then_exit ?_ | refine WQ_block_normal ?_ | refine WQ_block_ret ?_ | refine WQ_block_exit ?_ | refine n9 ?_)
    ((apply W_loopK (X := Nat × Nat × Int) [13, 11, 12] [] (fun x => x.1 ≤ t.len ∧ x.2.1 ≤ x.1 ∧ x.2.1 ≤ u.len ∧ rmF (t.drop x.1).er id ext = (u.drop x.2.1).er ∧ ((x.2.2 = -1 ∧ ∀ j a b dv d sv s n, j < x.1 → t.drop j = .cons a b dv d sv s n → isB a b id ext = false) ∨ (∃ f : Nat, x.2.2 = (f : Int) ∧ fidx t.er id ext = some f))) (fun x => [(13, .int .i64 (x.1 : Int)), (11, .int .i64 (x.2.1 : Int)), (12, .int .i64 x.2.2)]) (fun _ => []) (fun _ => []) (fun x => t.len - x.1) ((0, 0, -1))); (focus (exact ⟨Nat.zero_le _, Nat.zero_le _, Nat.zero_le _, hu.symm, .inl ⟨rfl, fun j a b dv d sv s n hj => absurd hj (by omega)⟩⟩)); exact rfl; exact rfl; (intro _; exact rfl); (intro _; exact rfl); (intro _; exact rfl); (focus (repeat (first | exact FrIn.nil _ | (apply FrIn.cons; exact rfl; (first | exact rfl | (congr 1; omega) | (simp; done)))))); (focus (repeat (first | exact SubO.nil _ | (apply SubO.cons; (focus (repeat' (first | exact Pick.head _ _ | apply Pick.tail))))))); (focus (repeat (first | exact AllE.nil _ | (apply AllE.cons; (focus (first | exact ent_nilBy | exact ent_nilSl | (apply Ent.mem; repeat' (first | exact mcs | apply mct)))))))); intro x hx)
    obtain ⟨i, at_, first⟩ := x
    obtain ⟨i1, i2, i3, i4, i5⟩ := hx
    replace i1 : i ≤ t.len := i1
    replace i2 : at_ ≤ i := i2
    replace i3 : at_ ≤ u.len := i3
    replace i4 : rmF (t.drop i).er id ext = (u.drop at_).er := i4
    replace i5 : (first = -1 ∧ ∀ j a b dv d sv s n, j < i → t.drop j = .cons a b dv d sv s n → isB a b id ext = false) ∨ (∃ f : Nat, first = (f : Int) ∧ fidx t.er id ext = some f) := i5
    dsimp only
    by_cases c1 : i < t.len
    · obtain ⟨a, b, dv, data, sv, subs, next, e1⟩ := T.get c1
      have a1 := T.at_cons e1
      rw [rmF_drop e1] at i4
      refine W_ent (ent_tree (t := t) (by repeat' (first | exact mcs | apply mct)) e1).1 (W_ent (ent_tree (t := t) (by repeat' (first | exact mcs | apply mct)) e1).2.1 (W_ent (ent_tree (t := t) (by repeat' (first | exact mcs | apply mct)) e1).2.2 ?_))
      by_cases d1 : isB a b id ext = true
      · rw [if_pos d1] at i4
        have d2 : a = id ∧ b = ext := by simpa [isB] using d1
        obtain ⟨rfl, rfl⟩ := d2
        rcases i5 with ⟨f1, f2⟩ | ⟨f, f1, f2⟩
        · have hn : i + 1 ≤ t.len ∧ at_ ≤ i + 1 ∧ at_ ≤ u.len ∧ rmF (t.drop (i + 1)).er a b = (u.drop at_).er ∧ (((i : Int) = -1 ∧ ∀ j a' b' dv d sv s n, j < i + 1 → t.drop j = .cons a' b' dv d sv s n → isB a' b' a b = false) ∨ (∃ f : Nat, (i : Int) = (f : Int) ∧ fidx t.er a b = some f)) :=
            ⟨c1, by omega, i3, i4, .inr ⟨i, rfl, fidx_at e1 d1 f2⟩⟩
          subst f1
          repeat (first | refine n1 ?_ | refine n2 (fun b _ => ?_) | refine n3 (fun _ _ => ?_) | refine n4 ?_ | refine n5 ?_ | refine WL_nil ?_ | refine W_seq ?_ | refine W_region ?_ | refine n7 ?_ | refine n8 ?_ | refine W_block ?_ | refine W_skip ?_ | refine W_ret ?_ | refine W_exit ?_ | refine WQ_then ?_ | refine WQ_then_ret ?_ | refine WQ_then_exit ?_ | refine WQ_block_normal ?_ | refine WQ_block_ret ?_ | refine WQ_block_exit ?_ | refine n9 ?_)
          ((apply WQ_again ((i + 1, at_, (i : Int)))); (focus exact hn); (focus (omega)); (focus (repeat (first | exact FrIn.nil _ | (apply FrIn.cons; exact rfl; (first | exact rfl | (congr 1; omega) | (simp; done)))))); (focus (repeat (first | exact SubO.nil _ | (apply SubO.cons; (focus (repeat' (first | exact Pick.head _ _ | apply Pick.tail))))))); (focus (repeat (first | exact AllE.nil _ | (apply AllE.cons; (focus (first | exact ent_nilBy | exact ent_nilSl | (apply Ent.mem; repeat' (first | exact mcs | apply mct)))))))))
        · have hn : i + 1 ≤ t.len ∧ at_ ≤ i + 1 ∧ at_ ≤ u.len ∧ rmF (t.drop (i + 1)).er a b = (u.drop at_).er ∧ ((first = -1 ∧ ∀ j a' b' dv d sv s n, j < i + 1 → t.drop j = .cons a' b' dv d sv s n → isB a' b' a b = false) ∨ (∃ f : Nat, first = (f : Int) ∧ fidx t.er a b = some f)) :=
            ⟨c1, by omega, i3, i4, .inr ⟨f, f1, f2⟩⟩
          subst f1
          repeat (first | refine n1 ?_ | refine n2 (fun b _ => ?_) | refine n3 (fun _ _ => ?_) | refine n4 ?_ | refine n5 ?_ | refine WL_nil ?_ | refine W_seq ?_ | refine W_region ?_ | refine n7 ?_ | refine n8 ?_ | refine W_block ?_ | refine W_skip ?_ | refine W_ret ?_ | refine W_exit ?_ | refine WQ_then ?_ | refine WQ_then_ret ?_ | refine WQ_then_exit ?_ | refine WQ_block_normal ?_ | refine WQ_block_ret ?_ | refine WQ_block_exit ?_ | refine n9 ?_)
          ((apply WQ_again ((i + 1, at_, (f : Int)))); (focus exact hn); (focus (omega)); (focus (repeat (first | exact FrIn.nil _ | (apply FrIn.cons; exact rfl; (first | exact rfl | (congr 1; omega) | (simp; done)))))); (focus (repeat (first | exact SubO.nil _ | (apply SubO.cons; (focus (repeat' (first | exact Pick.head _ _ | apply Pick.tail))))))); (focus (repeat (first | exact AllE.nil _ | (apply AllE.cons; (focus (first | exact ent_nilBy | exact ent_nilSl | (apply Ent.mem; repeat' (first | exact mcs | apply mct)))))))))
      · have d1 : isB a b id ext = false := by simpa using d1
        rw [if_neg (by rw [d1]; exact Bool.noConfusion)] at i4
        have c2 : at_ < u.len := by
          rcases Nat.lt_or_ge at_ u.len with h | h
          · exact h
          · rw [drop_ge u at_ h] at i4
            cases i4
        obtain ⟨a', b', dv', data', sv', subs', next', e2⟩ := T.get c2
        rw [e2] at i4
        simp only [T.er, Fo.cons.injEq] at i4
        obtain ⟨rfl, rfl, rfl, g4, g5⟩ := i4
        have hs := rsame_fn ((one_ a b dv' data sv' subs').size + 1) (one_ a b dv' data sv' subs') (one_ a b dv data sv subs) (cutV 4 at_ (at_ + 1) r) (cutV 4 i (i + 1) v) (Nat.lt_succ_self _)
        rw [decide_eq_true (show (one_ a b dv' data sv' subs').er = (one_ a b dv data sv subs).er by simp only [T.er, g4])] at hs
        have hn : i + 1 ≤ t.len ∧ at_ + 1 ≤ i + 1 ∧ at_ + 1 ≤ u.len ∧ rmF (t.drop (i + 1)).er id ext = (u.drop (at_ + 1)).er ∧ ((first = -1 ∧ ∀ j a' b' dv d sv s n, j < i + 1 → t.drop j = .cons a' b' dv d sv s n → isB a' b' id ext = false) ∨ (∃ f : Nat, first = (f : Int) ∧ fidx t.er id ext = some f)) := by
          refine ⟨c1, by omega, c2, by rw [g5, T.drop_next e2], ?_⟩
          rcases i5 with ⟨f1, f2⟩ | h
          · refine .inl ⟨f1, fun j a' b' dv' d' sv' s' n' hj hj2 => ?_⟩
            rcases Nat.lt_or_ge j i with h | h
            · exact f2 j a' b' dv' d' sv' s' n' h hj2
            · obtain rfl : j = i := by omega
              rw [e1] at hj2
              injection hj2 with z1 z2
              subst z1; subst z2
              exact d1
          · exact .inr h
        refine W_ent (ent_tree (t := u) (by repeat' (first | exact mcs | apply mct)) e2).1 (W_ent (ent_tree (t := u) (by repeat' (first | exact mcs | apply mct)) e2).2.1 (W_ent (ent_tree (t := u) (by repeat' (first | exact mcs | apply mct)) e2).2.2 ?_))
        refine W_ent (ent_cutT (v := r) (t := u) (by repeat' (first | exact mcs | apply mct)) e2 c2) (W_ent (ent_cutT (v := v) (t := t) (by repeat' (first | exact mcs | apply mct)) e1 c1) ?_)
        refine W_ent (ent_tf1 (id := a) (ext := b) (dv := dv) (data := data) (sv := sv) (subs := subs) (by repeat' (first | exact mcs | apply mct)) (by repeat' (first | exact mcs | apply mct)) (by repeat' (first | exact mcs | apply mct))) ?_
        refine W_ent (ent_tf1 (id := a) (ext := b) (dv := dv') (data := data) (sv := sv') (subs := subs') (by repeat' (first | exact mcs | apply mct)) (by repeat' (first | exact mcs | apply mct)) (by repeat' (first | exact mcs | apply mct))) ?_
        have rest : a.toNat = id.toNat → ¬ b.toNat = ext.toNat := fun h1 h2 => by
          rw [UInt8.toNat_inj.1 h1, UInt8.toNat_inj.1 h2] at d1
          simp [isB] at d1
        by_cases d3 : a.toNat = id.toNat
        · have d4 := rest d3
          repeat (first | refine n1 ?_ | refine n2 (fun b _ => ?_) | refine n3 (fun _ _ => ?_) | refine n4 ?_ | refine n5 ?_ | refine WL_nil ?_ | refine W_seq ?_ | refine W_region ?_ | refine n7 ?_ | refine n8 ?_ | refine W_block ?_ | refine W_skip ?_ | refine W_ret ?_ | refine W_exit ?_ | refine WQ_then ?_ | refine WQ_then_ret ?_ | refine WQ_then_exit ?_ | refine WQ_block_normal ?_ | refine WQ_block_ret ?_ | refine WQ_block_exit ?_ | refine n9 ?_)
          (refine W_regionP' [] [] [0, 1, 2, 3, 4, 5, 6, 7, 8, 9, 10, 11, 12, 13, 14, 15, 16, 17] [] (by kernel_rfl) (by kernel_rfl) (by repeat (first | exact UZ.nil _ _ | (apply UZ.cons; exact rfl; (intro _; exact rfl)))) (by exact rfl) (by (repeat (first | exact SubO.nil _ | (apply SubO.cons; (focus (repeat' (first | exact Pick.head _ _ | apply Pick.tail))))))) ?_)
          repeat (first | refine p1 ?_ | refine p2 (fun b _ => ?_) | refine p3 (fun _ _ => ?_) | refine p4 ?_ | refine p5 ?_ | refine p7 (fun b => ?_) | refine PL_nil ?_)
          refine PL_runs rfl rfl rfl rfl rfl (And.left (R_cutSl (size := 4) (n := u.len) (xs := u.cells) (lo := at_) (hi := at_ + 1) rfl (by repeat' (first | exact mcs | apply mct)) rfl (by intro _; rfl) rfl rfl rfl (by omega) (by omega) (by omega) rfl rfl)) ?_
          repeat (first | refine p1 ?_ | refine p2 (fun b _ => ?_) | refine p3 (fun _ _ => ?_) | refine p4 ?_ | refine p5 ?_ | refine p7 (fun b => ?_) | refine PL_nil ?_)
          refine PL_runs rfl rfl rfl rfl rfl (And.left (R_cutSl (size := 4) (n := t.len) (xs := t.cells) (lo := i) (hi := i + 1) rfl (by repeat' (first | exact mcs | apply mct)) rfl (by intro _; rfl) rfl rfl rfl (by omega) (by omega) (by omega) rfl rfl)) ?_
          repeat (first | refine p1 ?_ | refine p2 (fun b _ => ?_) | refine p3 (fun _ _ => ?_) | refine p4 ?_ | refine p5 ?_ | refine p6 (hs) ?_ | refine p6v (hs) ?_ | refine p7 (fun b => ?_) | refine PL_nil ?_)
          repeat (first | refine n1 ?_ | refine n2 (fun b _ => ?_) | refine n3 (fun _ _ => ?_) | refine n4 ?_ | refine n5 ?_ | refine WL_nil ?_ | refine W_seq ?_ | refine W_region ?_ | refine n7 ?_ | refine n8 ?_ | refine W_block ?_ | refine W_skip ?_ | refine W_ret ?_ | refine W_exit ?_ | refine WQ_then ?_ | refine WQ_then_ret ?_ | refine WQ_then_exit ?_ | refine WQ_block_normal ?_ | refine WQ_block_ret ?_ | refine WQ_block_exit ?_ | refine n9 ?_)
          ((apply WQ_again ((i + 1, at_ + 1, first))); (focus exact hn); (focus (omega)); (focus (repeat (first | exact FrIn.nil _ | (apply FrIn.cons; exact rfl; (first | exact rfl | (congr 1; omega) | (simp; done)))))); (focus (repeat (first | exact SubO.nil _ | (apply SubO.cons; (focus (repeat' (first | exact Pick.head _ _ | apply Pick.tail))))))); (focus (repeat (first | exact AllE.nil _ | (apply AllE.cons; (focus (first | exact ent_nilBy | exact ent_nilSl | (apply Ent.mem; repeat' (first | exact mcs | apply mct)))))))))
        · repeat (first | refine n1 ?_ | refine n2 (fun b _ => ?_) | refine n3 (fun _ _ => ?_) | refine n4 ?_ | refine n5 ?_ | refine WL_nil ?_ | refine W_seq ?_ | refine W_region ?_ | refine n7 ?_ | refine n8 ?_ | refine W_block ?_ | refine W_skip ?_ | refine W_ret ?_ | refine W_exit ?_ | refine WQ_then ?_ | refine WQ_then_ret ?_ | refine WQ_then_exit ?_ | refine WQ_block_normal ?_ | refine WQ_block_ret ?_ | refine WQ_block_exit ?_ | refine n9 ?_)
          (refine W_regionP' [] [] [0, 1, 2, 3, 4, 5, 6, 7, 8, 9, 10, 11, 12, 13, 14, 15, 16, 17] [] (by kernel_rfl) (by kernel_rfl) (by repeat (first | exact UZ.nil _ _ | (apply UZ.cons; exact rfl; (intro _; exact rfl)))) (by exact rfl) (by (repeat (first | exact SubO.nil _ | (apply SubO.cons; (focus (repeat' (first | exact Pick.head _ _ | apply Pick.tail))))))) ?_)
          repeat (first | refine p1 ?_ | refine p2 (fun b _ => ?_) | refine p3 (fun _ _ => ?_) | refine p4 ?_ | refine p5 ?_ | refine p7 (fun b => ?_) | refine PL_nil ?_)
          refine PL_runs rfl rfl rfl rfl rfl (And.left (R_cutSl (size := 4) (n := u.len) (xs := u.cells) (lo := at_) (hi := at_ + 1) rfl (by repeat' (first | exact mcs | apply mct)) rfl (by intro _; rfl) rfl rfl rfl (by omega) (by omega) (by omega) rfl rfl)) ?_
          repeat (first | refine p1 ?_ | refine p2 (fun b _ => ?_) | refine p3 (fun _ _ => ?_) | refine p4 ?_ | refine p5 ?_ | refine p7 (fun b => ?_) | refine PL_nil ?_)
          refine PL_runs rfl rfl rfl rfl rfl (And.left (R_cutSl (size := 4) (n := t.len) (xs := t.cells) (lo := i) (hi := i + 1) rfl (by repeat' (first | exact mcs | apply mct)) rfl (by intro _; rfl) rfl rfl rfl (by omega) (by omega) (by omega) rfl rfl)) ?_
          repeat (first | refine p1 ?_ | refine p2 (fun b _ => ?_) | refine p3 (fun _ _ => ?_) | refine p4 ?_ | refine p5 ?_ | refine p6 (hs) ?_ | refine p6v (hs) ?_ | refine p7 (fun b => ?_) | refine PL_nil ?_)
          repeat (first | refine n1 ?_ | refine n2 (fun b _ => ?_) | refine n3 (fun _ _ => ?_) | refine n4 ?_ | refine n5 ?_ | refine WL_nil ?_ | refine W_seq ?_ | refine W_region ?_ | refine n7 ?_ | refine n8 ?_ | refine W_block ?_ | refine W_skip ?_ | refine W_ret ?_ | refine W_exit ?_ | refine WQ_then ?_ | refine WQ_then_ret ?_ | refine WQ_then_exit ?_ | refine WQ_block_normal ?_ | refine WQ_block_ret ?_ | refine WQ_block_exit ?_ | refine n9 ?_)
          ((apply WQ_again ((i + 1, at_ + 1, first))); (focus exact hn); (focus (omega)); (focus (repeat (first | exact FrIn.nil _ | (apply FrIn.cons; exact rfl; (first | exact rfl | (congr 1; omega) | (simp; done)))))); (focus (repeat (first | exact SubO.nil _ | (apply SubO.cons; (focus (repeat' (first | exact Pick.head _ _ | apply Pick.tail))))))); (focus (repeat (first | exact AllE.nil _ | (apply AllE.cons; (focus (first | exact ent_nilBy | exact ent_nilSl | (apply Ent.mem; repeat' (first | exact mcs | apply mct)))))))))
    · have hi0 : i = t.len := by omega
      subst hi0
      rw [drop_end rfl] at i4
      have c2 : at_ = u.len := by
        rcases Nat.lt_or_ge at_ u.len with h | h
        · obtain ⟨a', b', dv', data', sv', subs', next', e2⟩ := T.get h
          rw [e2] at i4
          cases i4
        · omega
      refine W_ent (ent_tf1 (id := xi) (ext := xe) (dv := xdv) (data := xdata) (sv := xsv) (subs := xsubs) (by repeat' (first | exact mcs | apply mct)) (by repeat' (first | exact mcs | apply mct)) (by repeat' (first | exact mcs | apply mct))) ?_
      rcases i5 with ⟨f1, f2⟩ | ⟨f, f1, f2⟩
      · subst f1
        have f3 := fidx_end f2
        rw [fR, fidx_none f3] at hfx
        injection hfx with h1 h2
        replace h2 : xis = false := h2
        subst h2
        refine W_ent (ent_tf0) (W_ent (ψ := Rw 4 (.slice none 0 0) T.nil.len T.nil.at_) ent_nilRw (W_ent (ψ := By (.slice none 0 0) []) ent_nilBy ?_))
        refine W_ent (ent_tf1 (id := 0) (ext := 0) (dv := .slice none 0 0) (data := []) (sv := .slice none 0 0) (subs := .nil) (by repeat' (first | exact mcs | apply mct)) (by repeat' (first | exact mcs | apply mct)) (by repeat' (first | exact mcs | apply mct))) ?_
        repeat (first | refine n1 ?_ | refine n2 (fun b _ => ?_) | refine n3 (fun _ _ => ?_) | refine n4 ?_ | refine n5 ?_ | refine WL_nil ?_ | refine W_seq ?_ | refine W_region ?_ | refine n7 ?_ | refine n8 ?_ | refine W_block ?_ | refine W_skip ?_ | refine W_ret ?_ | refine W_exit ?_ | refine WQ_then ?_ | refine WQ_then_ret ?_ | refine WQ_then_exit ?_ | refine WQ_block_normal ?_ | refine WQ_block_ret ?_ | refine WQ_block_exit ?_ | refine n9 ?_)
        (apply WL_effs; exact rfl; exact rfl; exact rfl; (apply E_buildSlice; exact rfl; (focus (repeat (first | apply SeqE.nil | (apply SeqE.cons; exact rfl; (focus (first | (apply CellsE.lit; exact rfl) | (apply CellsE.one; (first | (apply OneC.lit; exact rfl) | (apply OneC.by_; (repeat' (first | exact mcs | apply mct)); done) | (apply OneC.sl; (repeat' (first | exact mcs | apply mct)); done) | (apply OneC.rw; (repeat' (first | exact mcs | apply mct)); done) | (apply OneC.row; (repeat' (first | exact Pick.head _ _ | apply Pick.tail))))))); exact rfl) | exact rfl))); exact rfl; (first | (intro _; exact (rfl : _ = Result.ok 1 _)) | (intro _; exact (rfl : _ = Result.ok 2 _)) | (intro _; exact (rfl : _ = Result.ok 3 _)) | (intro _; exact (rfl : _ = Result.ok 4 _)) | (intro _; exact (rfl : _ = Result.ok 5 _)) | (intro _; exact (rfl : _ = Result.ok 6 _)) | (intro _; exact (rfl : _ = Result.ok 7 _)) | (intro _; exact (rfl : _ = Result.ok 8 _)) | (intro _; exact (rfl : _ = Result.ok 13 _)) | (intro _; exact (rfl : _ = Result.ok 14 _)) | (intro _; exact (rfl : _ = Result.ok 26 _)) | (intro _; exact (rfl : _ = Result.ok 40 _)) | (intro _; exact (rfl : _ = Result.ok 41 _)) | (intro _; exact (rfl : _ = Result.ok 42 _)) | (intro _; exact (rfl : _ = Result.ok 43 _)) | (intro _; exact (rfl : _ = Result.ok 44 _)) | (intro _; exact (rfl : _ = Result.ok 45 _)) | (intro _; exact (rfl : _ = Result.ok 46 _))); (intro _; exact rfl); exact rfl; exact Nat.le_of_ble_eq_true rfl; exact Nat.le_of_ble_eq_true rfl); skip)
        intro q1 _
        refine WL_letgo (v := q1) (by repeat' (first | exact Pick.head _ _ | apply Pick.tail)) ?_
        refine WL_ent (ent_slT (v := q1) (t := one_ xi xe xdv xdata xsv xsubs) (by repeat' (first | exact mcs | apply mct))) ?_
        repeat (first | refine n1 ?_ | refine n2 (fun b _ => ?_) | refine n3 (fun _ _ => ?_) | refine n4 ?_ | refine n5 ?_ | refine WL_nil ?_ | refine W_seq ?_ | refine W_region ?_ | refine n7 ?_ | refine n8 ?_ | refine W_block ?_ | refine W_skip ?_ | refine W_ret ?_ | refine W_exit ?_ | refine WQ_then ?_ | refine WQ_then_ret ?_ | refine WQ_then_exit ?_ | refine WQ_block_normal ?_ | refine WQ_block_ret ?_ | refine WQ_block_exit ?_ | refine n9 ?_)
        (apply WL_effs; exact rfl; exact rfl; exact rfl; (apply E_buildSlice; exact rfl; (focus (repeat (first | apply SeqE.nil | (apply SeqE.cons; exact rfl; (focus (first | (apply CellsE.lit; exact rfl) | (apply CellsE.one; (first | (apply OneC.lit; exact rfl) | (apply OneC.by_; (repeat' (first | exact mcs | apply mct)); done) | (apply OneC.sl; (repeat' (first | exact mcs | apply mct)); done) | (apply OneC.rw; (repeat' (first | exact mcs | apply mct)); done) | (apply OneC.row; (repeat' (first | exact Pick.head _ _ | apply Pick.tail))))))); exact rfl) | exact rfl))); exact rfl; (first | (intro _; exact (rfl : _ = Result.ok 1 _)) | (intro _; exact (rfl : _ = Result.ok 2 _)) | (intro _; exact (rfl : _ = Result.ok 3 _)) | (intro _; exact (rfl : _ = Result.ok 4 _)) | (intro _; exact (rfl : _ = Result.ok 5 _)) | (intro _; exact (rfl : _ = Result.ok 6 _)) | (intro _; exact (rfl : _ = Result.ok 7 _)) | (intro _; exact (rfl : _ = Result.ok 8 _)) | (intro _; exact (rfl : _ = Result.ok 13 _)) | (intro _; exact (rfl : _ = Result.ok 14 _)) | (intro _; exact (rfl : _ = Result.ok 26 _)) | (intro _; exact (rfl : _ = Result.ok 40 _)) | (intro _; exact (rfl : _ = Result.ok 41 _)) | (intro _; exact (rfl : _ = Result.ok 42 _)) | (intro _; exact (rfl : _ = Result.ok 43 _)) | (intro _; exact (rfl : _ = Result.ok 44 _)) | (intro _; exact (rfl : _ = Result.ok 45 _)) | (intro _; exact (rfl : _ = Result.ok 46 _))); (intro _; exact rfl); exact rfl; exact Nat.le_of_ble_eq_true rfl; exact Nat.le_of_ble_eq_true rfl); skip)
        intro q2 _
        refine WL_letgo (v := q2) (by repeat' (first | exact Pick.head _ _ | apply Pick.tail)) ?_
        refine WL_ent (ent_slT (v := q2) (t := one_ 0 0 (.slice none 0 0) [] (.slice none 0 0) .nil) (by repeat' (first | exact mcs | apply mct))) ?_
        have hs := rsame_fn ((one_ xi xe xdv xdata xsv xsubs).size + 1) (one_ xi xe xdv xdata xsv xsubs) (one_ 0 0 (.slice none 0 0) [] (.slice none 0 0) .nil) q1 q2 (Nat.lt_succ_self _)
        rw [decide_eq_true (show (one_ xi xe xdv xdata xsv xsubs).er = (one_ 0 0 (.slice none 0 0) [] (.slice none 0 0) .nil).er from h1)] at hs
        repeat (first | refine n1 ?_ | refine n2 (fun b _ => ?_) | refine n3 (fun _ _ => ?_) | refine n4 ?_ | refine n5 ?_ | refine n6 (hs) ?_ | refine n6v (hs) ?_ | refine WL_nil ?_ | refine W_seq ?_ | refine W_region ?_ | refine n7 ?_ | refine n8 ?_ | refine W_block ?_ | refine W_skip ?_ | refine W_ret ?_ | refine W_exit ?_ | refine WQ_then ?_ | refine WQ_then_ret ?_ | refine WQ_then_exit ?_ | refine WQ_block_normal ?_ | refine WQ_block_ret ?_ | refine WQ_block_exit ?_ | refine n9 ?_)
        ((apply ret1 Try.results10 ( ())); (focus (first | trivial | assumption | omega)); (focus (first | exact RV_tmp rfl | (apply RV_cellN; exact rfl; (repeat' (first | exact Pick.head _ _ | apply Pick.tail)); (intro _; exact rfl); (intro _; exact rfl); exact rfl) | (apply RV_cell1; exact rfl; (repeat' (first | exact Pick.head _ _ | apply Pick.tail)); (intro _; exact rfl); exact rfl)));  (focus (first | exact rfl | (simp; done))); (focus (repeat (first | exact SubO.nil _ | (apply SubO.cons; (focus (repeat' (first | exact Pick.head _ _ | apply Pick.tail))))))); (focus (repeat (first | exact AllE.nil _ | (apply AllE.cons; (focus (first | exact ent_nilBy | exact ent_nilSl | (apply Ent.mem; repeat' (first | exact mcs | apply mct)))))))))
      · subst f1
        obtain ⟨a, b, dv, data, sv, subs, next, e1, e2⟩ := fidx_some f2
        have hf : f < t.len := by
          rcases Nat.lt_or_ge f t.len with h | h
          · exact h
          · rw [drop_ge t f h] at e1
            cases e1
        rw [fR, e2] at hfx
        injection hfx with h1 h2
        replace h2 : xis = true := h2
        subst h2
        refine W_ent (ent_tree (t := t) (by repeat' (first | exact mcs | apply mct)) e1).1 (W_ent (ent_tree (t := t) (by repeat' (first | exact mcs | apply mct)) e1).2.1 (W_ent (ent_tree (t := t) (by repeat' (first | exact mcs | apply mct)) e1).2.2 ?_))
        refine W_ent (ent_cutT (v := v) (t := t) (by repeat' (first | exact mcs | apply mct)) e1 hf) (W_ent (ent_tf1 (id := a) (ext := b) (dv := dv) (data := data) (sv := sv) (subs := subs) (by repeat' (first | exact mcs | apply mct)) (by repeat' (first | exact mcs | apply mct)) (by repeat' (first | exact mcs | apply mct))) ?_)
        repeat (first | refine n1 ?_ | refine n2 (fun b _ => ?_) | refine n3 (fun _ _ => ?_) | refine n4 ?_ | refine n5 ?_ | refine WL_nil ?_ | refine W_seq ?_ | refine W_region ?_ | refine n7 ?_ | refine n8 ?_ | refine W_block ?_ | refine W_skip ?_ | refine W_ret ?_ | refine W_exit ?_ | refine WQ_then ?_ | refine WQ_then_ret ?_ | refine WQ_then_exit ?_ | refine WQ_block_normal ?_ | refine WQ_block_ret ?_ | refine WQ_block_exit ?_ | refine n9 ?_)
        (refine W_regionP' [12] [] [0, 1, 2, 3, 4, 5, 6, 7, 8, 9, 10, 11, 13, 14, 15, 16, 17, 12, 18, 19, 20] [] (by kernel_rfl) (by kernel_rfl) (by repeat (first | exact UZ.nil _ _ | (apply UZ.cons; exact rfl; (intro _; exact rfl)))) (by exact rfl) (by (repeat (first | exact SubO.nil _ | (apply SubO.cons; (focus (repeat' (first | exact Pick.head _ _ | apply Pick.tail))))))) ?_)
        repeat (first | refine p1 ?_ | refine p2 (fun b _ => ?_) | refine p3 (fun _ _ => ?_) | refine p4 ?_ | refine p5 ?_ | refine p7 (fun b => ?_) | refine PL_nil ?_)
        refine PL_runs rfl rfl rfl rfl rfl (And.left (R_cutSl (size := 4) (n := t.len) (xs := t.cells) (lo := f) (hi := f + 1) rfl (by repeat' (first | exact mcs | apply mct)) rfl (by intro _; rfl) rfl rfl rfl (by omega) (by omega) (by omega) rfl rfl)) ?_
        refine PL_effs rfl rfl rfl rfl rfl (Effs.letT (one_ xi xe xdv xdata xsv xsubs) rfl rfl (by (apply E_buildSlice; exact rfl; (focus (repeat (first | apply SeqE.nil | (apply SeqE.cons; exact rfl; (focus (first | (apply CellsE.lit; exact rfl) | (apply CellsE.one; (first | (apply OneC.lit; exact rfl) | (apply OneC.by_; (repeat' (first | exact mcs | apply mct)); done) | (apply OneC.sl; (repeat' (first | exact mcs | apply mct)); done) | (apply OneC.rw; (repeat' (first | exact mcs | apply mct)); done) | (apply OneC.row; (repeat' (first | exact Pick.head _ _ | apply Pick.tail))))))); exact rfl) | exact rfl))); exact rfl; (first | (intro _; exact (rfl : _ = Result.ok 1 _)) | (intro _; exact (rfl : _ = Result.ok 2 _)) | (intro _; exact (rfl : _ = Result.ok 3 _)) | (intro _; exact (rfl : _ = Result.ok 4 _)) | (intro _; exact (rfl : _ = Result.ok 5 _)) | (intro _; exact (rfl : _ = Result.ok 6 _)) | (intro _; exact (rfl : _ = Result.ok 7 _)) | (intro _; exact (rfl : _ = Result.ok 8 _)) | (intro _; exact (rfl : _ = Result.ok 13 _)) | (intro _; exact (rfl : _ = Result.ok 14 _)) | (intro _; exact (rfl : _ = Result.ok 26 _)) | (intro _; exact (rfl : _ = Result.ok 40 _)) | (intro _; exact (rfl : _ = Result.ok 41 _)) | (intro _; exact (rfl : _ = Result.ok 42 _)) | (intro _; exact (rfl : _ = Result.ok 43 _)) | (intro _; exact (rfl : _ = Result.ok 44 _)) | (intro _; exact (rfl : _ = Result.ok 45 _)) | (intro _; exact (rfl : _ = Result.ok 46 _))); (intro _; exact rfl); exact rfl; exact Nat.le_of_ble_eq_true rfl; exact Nat.le_of_ble_eq_true rfl))) (by intro _; exact (by (repeat (first | exact SubO.nil _ | (apply SubO.cons; (focus (repeat' (first | exact Pick.head _ _ | apply Pick.tail)))))))) ?_
        intro q1 _
        have hs := rsame_fn ((one_ xi xe xdv xdata xsv xsubs).size + 1) (one_ xi xe xdv xdata xsv xsubs) (one_ a b dv data sv subs) q1 (cutV 4 f (f + 1) v) (Nat.lt_succ_self _)
        rw [decide_eq_true (show (one_ xi xe xdv xdata xsv xsubs).er = (one_ a b dv data sv subs).er from h1)] at hs
        repeat (first | refine p1 ?_ | refine p2 (fun b _ => ?_) | refine p3 (fun _ _ => ?_) | refine p4 ?_ | refine p5 ?_ | refine p6 (hs) ?_ | refine p6v (hs) ?_ | refine p7 (fun b => ?_) | refine PL_nil ?_)
        repeat (first | refine n1 ?_ | refine n2 (fun b _ => ?_) | refine n3 (fun _ _ => ?_) | refine n4 ?_ | refine n5 ?_ | refine WL_nil ?_ | refine W_seq ?_ | refine W_region ?_ | refine n7 ?_ | refine n8 ?_ | refine W_block ?_ | refine W_skip ?_ | refine W_ret ?_ | refine W_exit ?_ | refine WQ_then ?_ | refine WQ_then_ret ?_ | refine WQ_then_exit ?_ | refine WQ_block_normal ?_ | refine WQ_block_ret ?_ | refine WQ_block_exit ?_ | refine n9 ?_)
        ((apply ret1 Try.results10 ( ())); (focus (first | trivial | assumption | omega)); (focus (first | exact RV_tmp rfl | (apply RV_cellN; exact rfl; (repeat' (first | exact Pick.head _ _ | apply Pick.tail)); (intro _; exact rfl); (intro _; exact rfl); exact rfl) | (apply RV_cell1; exact rfl; (repeat' (first | exact Pick.head _ _ | apply Pick.tail)); (intro _; exact rfl); exact rfl)));  (focus (first | exact rfl | (simp; done))); (focus (repeat (first | exact SubO.nil _ | (apply SubO.cons; (focus (repeat' (first | exact Pick.head _ _ | apply Pick.tail))))))); (focus (repeat (first | exact AllE.nil _ | (apply AllE.cons; (focus (first | exact ent_nilBy | exact ent_nilSl | (apply Ent.mem; repeat' (first | exact mcs | apply mct)))))))))
end Go.Proofs.Ytahkcidnmdcaaaa
