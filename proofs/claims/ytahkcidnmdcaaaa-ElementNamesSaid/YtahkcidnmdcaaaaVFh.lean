/-
  The program's Twin.
-/
import Derived.Test.YtahkcidnmdcaaaaVFf
namespace Go.Proofs.Ytahkcidnmdcaaaa
open Go Go.RowKit Go.Hs
attribute [local irreducible] WL W WQ PL Runs Effs AllE Ent SubO FrIn Pick OneC Ones CellsE PartsE SeqE UZ By Sl Pt Ct

def Md (t : Fo) : Prop := cnt t ≤ 1000000 ∧ dat t ≤ 1000000
theorem Md.sub {t : T} {k : Nat} {id ext : UInt8} {dv : Value} {data : List UInt8} {sv : Value} {subs next : T} (h : Md t.er) (e : t.drop k = .cons id ext dv data sv subs next) : Md subs.er ∧ data.length ≤ 1000000 := by
  obtain ⟨h1, h2⟩ := h
  have := at_sub e
  exact ⟨⟨by omega, by omega⟩, by omega⟩

set_option maxRecDepth 100000 in
theorem cloneE_fn (v : Value) (t : T) (hc : Md t.er) : Ct Try.prog 41 [v] [] [Rw 4 v t.len t.at_, t.tf] (X := Value) (fun _ => True) (fun x => x) (fun x => [.row x 31 4 t.len t.cells]) (fun _ => []) := by
  have hlc := len_cnt t
  have hcn := hc.1
  cases h : isNilV v with
  | true =>
    refine Ct_intro Try.func41 rfl Try.ntmps41 (by simp) _ rfl (fun w0 O0 => ?_)
    refine W_pure (rw_nil h (n := t.len) (by repeat' (first | exact mcs | apply mct))) fun e => ?_
    have e2 : t = .nil := by cases t with
      | nil => rfl
      | cons _ _ _ _ _ _ _ => simp [T.len] at e
    subst e2
    repeat (first | refine n1 ?_ | refine n2 (fun b _ => ?_) | refine n3 (fun _ _ => ?_) | refine n4 ?_ | refine n5 ?_ | refine WL_nil ?_ | refine W_seq ?_ | refine W_region ?_ | refine n7 ?_ | refine n8 ?_ | refine W_block ?_ | refine W_skip ?_ | refine W_ret ?_ | refine W_exit ?_ | refine WQ_then ?_ | refine WQ_then_ret ?_ | refine WQ_then_exit ?_ | refine WQ_block_normal ?_ | refine WQ_block_ret ?_ | refine WQ_block_exit ?_ | refine n9 ?_)
    refine WL_runs rfl rfl rfl (R_eqNilR (n := T.nil.len) rfl rfl (by repeat' (first | exact mcs | apply mct)) rfl) ?_
    rw [h]
    repeat (first | refine n1 ?_ | refine n2 (fun b _ => ?_) | refine n3 (fun _ _ => ?_) | refine n4 ?_ | refine n5 ?_ | refine WL_nil ?_ | refine W_seq ?_ | refine W_region ?_ | refine n7 ?_ | refine n8 ?_ | refine W_block ?_ | refine W_skip ?_ | refine W_ret ?_ | refine W_exit ?_ | refine WQ_then ?_ | refine WQ_then_ret ?_ | refine WQ_then_exit ?_ | refine WQ_block_normal ?_ | refine WQ_block_ret ?_ | refine WQ_block_exit ?_ | refine n9 ?_)
    apply WQ_nilRow 31 4
    ((apply ret1 Try.results41 ( Value.slice none 0 0)); (focus (first | trivial | assumption | omega)); (focus (first | exact RV_tmp rfl | (apply RV_cellN; exact rfl; (repeat' (first | exact Pick.head _ _ | apply Pick.tail)); (intro _; exact rfl); (intro _; exact rfl); exact rfl) | (apply RV_cell1; exact rfl; (repeat' (first | exact Pick.head _ _ | apply Pick.tail)); (intro _; exact rfl); exact rfl)));  (focus (first | exact rfl | (simp; done))); (focus (repeat (first | exact SubO.nil _ | (apply SubO.cons; (focus (repeat' (first | exact Pick.head _ _ | apply Pick.tail))))))); (focus (repeat (first | exact AllE.nil _ | (apply AllE.cons; (focus (first | exact ent_nilBy | exact ent_nilSl | (apply Ent.mem; repeat' (first | exact mcs | apply mct)))))))))
  | false =>
    refine Ct_intro Try.func41 rfl Try.ntmps41 (by simp) _ rfl (fun w0 O0 => ?_)
    repeat (first | refine n1 ?_ | refine n2 (fun b _ => ?_) | refine n3 (fun _ _ => ?_) | refine n4 ?_ | refine n5 ?_ | refine WL_nil ?_ | refine W_seq ?_ | refine W_region ?_ | refine n7 ?_ | refine n8 ?_ | refine W_block ?_ | refine W_skip ?_ | refine W_ret ?_ | refine W_exit ?_ | refine WQ_then ?_ | refine WQ_then_ret ?_ | refine WQ_then_exit ?_ | refine WQ_block_normal ?_ | refine WQ_block_ret ?_ | refine WQ_block_exit ?_ | refine n9 ?_)
    refine WL_runs rfl rfl rfl (R_eqNilR (n := t.len) rfl rfl (by repeat' (first | exact mcs | apply mct)) rfl) ?_
    rw [h]
    repeat (first | refine n1 ?_ | refine n2 (fun b _ => ?_) | refine n3 (fun _ _ => ?_) | refine n4 ?_ | refine n5 ?_ | refine WL_nil ?_ | refine W_seq ?_ | refine W_region ?_ | refine n7 ?_ | refine n8 ?_ | refine W_block ?_ | refine W_skip ?_ | refine W_ret ?_ | refine W_exit ?_ | refine WQ_then ?_ | refine WQ_then_ret ?_ | refine WQ_then_exit ?_ | refine WQ_block_normal ?_ | refine WQ_block_ret ?_ | refine WQ_block_exit ?_ | refine n9 ?_)
    (apply WL_effs; exact rfl; exact rfl; exact rfl; (apply E_buildSlice; exact rfl; (focus (repeat (first | apply SeqE.nil | (apply SeqE.cons; exact rfl; (focus (first | (apply CellsE.lit; exact rfl) | (apply CellsE.one; (first | (apply OneC.lit; exact rfl) | (apply OneC.by_; (repeat' (first | exact mcs | apply mct)); done) | (apply OneC.sl; (repeat' (first | exact mcs | apply mct)); done) | (apply OneC.rw; (repeat' (first | exact mcs | apply mct)); done) | (apply OneC.row; (repeat' (first | exact Pick.head _ _ | apply Pick.tail))))))); exact rfl) | exact rfl))); exact rfl; (first | (intro _; exact (rfl : _ = Result.ok 1 _)) | (intro _; exact (rfl : _ = Result.ok 2 _)) | (intro _; exact (rfl : _ = Result.ok 3 _)) | (intro _; exact (rfl : _ = Result.ok 4 _)) | (intro _; exact (rfl : _ = Result.ok 5 _)) | (intro _; exact (rfl : _ = Result.ok 6 _)) | (intro _; exact (rfl : _ = Result.ok 7 _)) | (intro _; exact (rfl : _ = Result.ok 8 _)) | (intro _; exact (rfl : _ = Result.ok 9 _)) | (intro _; exact (rfl : _ = Result.ok 13 _)) | (intro _; exact (rfl : _ = Result.ok 14 _)) | (intro _; exact (rfl : _ = Result.ok 26 _)) | (intro _; exact (rfl : _ = Result.ok 40 _)) | (intro _; exact (rfl : _ = Result.ok 41 _)) | (intro _; exact (rfl : _ = Result.ok 42 _)) | (intro _; exact (rfl : _ = Result.ok 43 _)) | (intro _; exact (rfl : _ = Result.ok 44 _)) | (intro _; exact (rfl : _ = Result.ok 45 _)) | (intro _; exact (rfl : _ = Result.ok 46 _))); (intro _; exact rfl); exact rfl; exact Nat.le_of_ble_eq_true rfl; exact Nat.le_of_ble_eq_true rfl); skip)
    intro q _
    refine WL_ent (ent_rwT (v := v) (t := t) (by repeat' (first | exact mcs | apply mct))) ?_
    repeat (first | refine n1 ?_ | refine n2 (fun b _ => ?_) | refine n3 (fun _ _ => ?_) | refine n4 ?_ | refine n5 ?_ | refine WL_nil ?_ | refine W_seq ?_ | refine W_region ?_ | refine n7 ?_ | refine n8 ?_ | refine W_block ?_ | refine W_skip ?_ | refine W_ret ?_ | refine W_exit ?_ | refine WQ_then ?_ | refine WQ_then_ret ?_ | refine WQ_then_exit ?_ | refine WQ_block_normal ?_ | refine WQ_block_ret ?_ | refine WQ_block_exit ?_ | refine n9 ?_)
    refine WL_effs rfl rfl rfl (E_appendO (nm := t.len) (all := t.cells) rfl rfl (by repeat' (first | exact Pick.head _ _ | apply Pick.tail)) (by repeat' (first | exact mcs | apply mct)) rfl rfl rfl rfl rfl (Nat.le_of_ble_eq_true rfl) (ones_tree (by repeat' (first | exact mcs | apply mct))) (Nat.le_of_ble_eq_true rfl) (by omega) (Nat.zero_add _) rfl) ?_
    intro o _
    repeat (first | refine n1 ?_ | refine n2 (fun b _ => ?_) | refine n3 (fun _ _ => ?_) | refine n4 ?_ | refine n5 ?_ | refine WL_nil ?_ | refine W_seq ?_ | refine W_region ?_ | refine n7 ?_ | refine n8 ?_ | refine W_block ?_ | refine W_skip ?_ | refine W_ret ?_ | refine W_exit ?_ | refine WQ_then ?_ | refine WQ_then_ret ?_ | refine WQ_then_exit ?_ | refine WQ_block_normal ?_ | refine WQ_block_ret ?_ | refine WQ_block_exit ?_ | refine n9 ?_)
    ((apply ret1 Try.results41 ( o)); (focus (first | trivial | assumption | omega)); (focus (first | exact RV_tmp rfl | (apply RV_cellN; exact rfl; (repeat' (first | exact Pick.head _ _ | apply Pick.tail)); (intro _; exact rfl); (intro _; exact rfl); exact rfl) | (apply RV_cell1; exact rfl; (repeat' (first | exact Pick.head _ _ | apply Pick.tail)); (intro _; exact rfl); exact rfl)));  (focus (first | exact rfl | (simp; done))); (focus (repeat (first | exact SubO.nil _ | (apply SubO.cons; (focus (repeat' (first | exact Pick.head _ _ | apply Pick.tail))))))); (focus (repeat (first | exact AllE.nil _ | (apply AllE.cons; (focus (first | exact ent_nilBy | exact ent_nilSl | (apply Ent.mem; repeat' (first | exact mcs | apply mct)))))))))

theorem cells_get : ∀ (u : T) (j : Nat) {id ext : UInt8} {dv : Value} {data : List UInt8} {sv : Value} {subs next : T}, (u.app (.cons id ext dv data sv subs next)).cells[u.len * 4 + j]? = [bcell id, bcell ext, dv, sv][j]? ∨ 4 ≤ j
  | .nil, j, id, ext, dv, data, sv, subs, next => by
    rcases Nat.lt_or_ge j 4 with h | h
    · left
      match j, h with
      | 0, _ => rfl
      | 1, _ => rfl
      | 2, _ => rfl
      | 3, _ => rfl
    · exact .inr h
  | .cons _ _ _ _ _ _ n, j, id, ext, dv, data, sv, subs, next => by
    rcases cells_get n j (id := id) (ext := ext) (dv := dv) (data := data) (sv := sv) (subs := subs) (next := next) with h | h
    · left
      rw [← h]
      simp only [T.app, T.cells, T.len]
      rw [show (n.len + 1) * 4 + j = n.len * 4 + j + 1 + 1 + 1 + 1 by omega]
      rfl
    · exact .inr h
theorem cells_set2 : ∀ (u : T) {id ext : UInt8} {dv : Value} {data : List UInt8} {sv : Value} {subs next : T} (w : Value), (u.app (.cons id ext dv data sv subs next)).cells.set (u.len * 4 + 2) w = (u.app (.cons id ext w data sv subs next)).cells
  | .nil, _, _, _, _, _, _, _, _ => rfl
  | .cons _ _ _ _ _ _ n, id, ext, dv, data, sv, subs, next, w => by
    have h := cells_set2 n (id := id) (ext := ext) (dv := dv) (data := data) (sv := sv) (subs := subs) (next := next) w
    simp only [T.app, T.cells, T.len]
    rw [← h, show (n.len + 1) * 4 + 2 = n.len * 4 + 2 + 1 + 1 + 1 + 1 by omega]
    rfl
theorem cells_set3 : ∀ (u : T) {id ext : UInt8} {dv : Value} {data : List UInt8} {sv : Value} {subs next : T} (w : Value) (s2 : T), (u.app (.cons id ext dv data sv subs next)).cells.set (u.len * 4 + 3) w = (u.app (.cons id ext dv data w s2 next)).cells
  | .nil, _, _, _, _, _, _, _, _, _ => rfl
  | .cons _ _ _ _ _ _ n, id, ext, dv, data, sv, subs, next, w, s2 => by
    have h := cells_set3 n (id := id) (ext := ext) (dv := dv) (data := data) (sv := sv) (subs := subs) (next := next) w s2
    simp only [T.app, T.cells, T.len]
    rw [← h, show (n.len + 1) * 4 + 3 = n.len * 4 + 3 + 1 + 1 + 1 + 1 by omega]
    rfl
theorem app_assoc : ∀ (t u v : T), (t.app u).app v = t.app (u.app v)
  | .nil, _, _ => rfl
  | .cons _ _ _ _ _ _ next, u, v => by simp only [T.app, app_assoc next u v]

set_option maxRecDepth 100000 in
set_option maxHeartbeats 8000000 in
theorem twin_fn : ∀ (N : Nat) (t : T) (v : Value), t.size < N → Md t.er → Ct Try.prog 25 [v] [] [Rw 4 v t.len t.at_, t.tf]
    (X := Value × T) (fun x => x.2.er = t.er) (fun x => x.1) (fun x => [.row x.1 31 4 x.2.len x.2.cells, pk (rowsL 5 x.2.dls)]) (fun x => [x.2.ts]) := by
  intro N
  induction N with
  | zero => intro t v h; omega
  | succ N IH =>
    intro t v hN hmd
    have hlc := len_cnt t
    have hcn := hmd.1
    refine Ct_intro Try.func25 rfl Try.ntmps25 (by simp) _ rfl (fun w0 O0 => ?_)
    repeat (first | refine n1 ?_ | refine n2 (fun b _ => ?_) | refine n3 (fun _ _ => ?_) | refine n4 ?_ | refine n5 ?_ | refine WL_nil ?_ | refine W_seq ?_ | refine W_region ?_ | refine n7 ?_ | refine n8 ?_ | refine W_block ?_ | refine W_skip ?_ | refine W_ret ?_ | refine W_exit ?_ | refine WQ_then ?_ | refine WQ_then_ret ?_ | refine WQ_then_exit ?_ | refine WQ_block_normal ?_ | refine WQ_block_ret ?_ | refine WQ_block_exit ?_ | refine n9 ?_)
    (apply WL_effs; exact rfl; exact rfl; exact rfl; apply E_call; exact rfl; (intro _ _; simp); exact cloneE_fn v t hmd; (repeat (first | exact AllE.nil _ | (apply AllE.cons; (focus (first | exact ent_nilBy | exact ent_nilSl | (apply Ent.mem; repeat' (first | exact mcs | apply mct))))))); (intro _; exact rfl); (intro _; exact rfl))
    intro o _
    repeat (first | refine n1 ?_ | refine n2 (fun b _ => ?_) | refine n3 (fun _ _ => ?_) | refine n4 ?_ | refine n5 ?_ | refine WL_nil ?_ | refine W_seq ?_ | refine W_region ?_ | refine n7 ?_ | refine n8 ?_ | refine W_block ?_ | refine W_skip ?_ | refine W_ret ?_ | refine W_exit ?_ | refine WQ_then ?_ | refine WQ_then_ret ?_ | refine WQ_then_exit ?_ | refine WQ_block_normal ?_ | refine WQ_block_ret ?_ | refine WQ_block_exit ?_ | refine n9 ?_)
    apply W_nilL 5
    refine W_ent ent_ts0 ?_
    ((apply W_loopK (X := Nat × T) [9, 4] [0, 1] (fun x => x.1 ≤ t.len ∧ x.2.len = x.1 ∧ fapp x.2.er (t.drop x.1).er = t.er) (fun x => [(9, .int .i64 (x.1 : Int))]) (fun x => [pk (rowsL 5 x.2.dls), .row o 31 4 t.len (x.2.app (t.drop x.1)).cells]) (fun x => [x.2.ts]) (fun x => t.len - x.1) ((0, .nil))); (focus exact ⟨Nat.zero_le _, rfl, rfl⟩); exact rfl; exact rfl; (intro _; exact rfl); (intro _; exact rfl); (intro _; exact rfl); (focus (repeat (first | exact FrIn.nil _ | (apply FrIn.cons; exact rfl; (first | exact rfl | (congr 1; first | omega | (dsimp only; omega)) | (simp; done)))))); (focus (repeat (first | exact SubO.nil _ | (apply SubO.cons; (focus (repeat' (first | exact Pick.head _ _ | apply Pick.tail))))))); (focus (repeat (first | exact AllE.nil _ | (apply AllE.cons; (focus (first | exact ent_nilBy | exact ent_nilSl | (apply Ent.mem; repeat' (first | exact mcs | apply mct)))))))); intro x hx)
    obtain ⟨k, u⟩ := x
    obtain ⟨hk, hul, hi⟩ := hx
    replace hk : k ≤ t.len := hk
    replace hul : u.len = k := hul
    replace hi : fapp u.er (t.drop k).er = t.er := hi
    dsimp only
    by_cases c1 : k < t.len
    · obtain ⟨id, ext, dv, data, sv, subs, next, e1⟩ := T.get c1
      have hlt := T.drop_size e1
      obtain ⟨m1, m2⟩ := hmd.sub e1
      refine W_ent (ent_tree (t := t) (by repeat' (first | exact mcs | apply mct)) e1).1 (W_ent (ent_tree (t := t) (by repeat' (first | exact mcs | apply mct)) e1).2.1 (W_ent (ent_tree (t := t) (by repeat' (first | exact mcs | apply mct)) e1).2.2 ?_))
      rw [e1] at hi ⊢
      have g2 : (u.app (.cons id ext dv data sv subs next)).cells[k * 4 + 2]? = some dv := by rw [← hul]; exact (cells_get u 2).resolve_right (by decide)
      have hcl : ∀ w : T, (u.app (.cons id ext dv data sv subs w)).cells.length = (u.len + (w.len + 1)) * 4 := fun w => by rw [T.cells_length, T.len_app]; rfl
      have hnl : next.len = t.len - (k + 1) := by rw [← T.drop_next e1, T.drop_len _ _ (by omega)]
      repeat (first | refine n1 ?_ | refine n2 (fun b _ => ?_) | refine n3 (fun _ _ => ?_) | refine n4 ?_ | refine n5 ?_ | refine WL_nil ?_ | refine W_seq ?_ | refine W_region ?_ | refine n7 ?_ | refine n8 ?_ | refine W_block ?_ | refine W_skip ?_ | refine W_ret ?_ | refine W_exit ?_ | refine WQ_then ?_ | refine WQ_then_ret ?_ | refine WQ_then_exit ?_ | refine WQ_block_normal ?_ | refine WQ_block_ret ?_ | refine WQ_block_exit ?_ | refine n9 ?_)
      (apply WL_effs; exact rfl; exact rfl; exact rfl; apply E_call; exact rfl; (intro _ _; simp); (exact cloneB_fn dv data (by omega)); (repeat (first | exact AllE.nil _ | (apply AllE.cons; (focus (first | exact ent_nilBy | exact ent_nilSl | (apply Ent.mem; repeat' (first | exact mcs | apply mct))))))); (intro _; exact rfl); (intro _; exact rfl))
      intro w _
      repeat (first | refine n1 ?_ | refine n2 (fun b _ => ?_) | refine n3 (fun _ _ => ?_) | refine n4 ?_ | refine n5 ?_ | refine WL_nil ?_ | refine W_seq ?_ | refine W_region ?_ | refine n7 ?_ | refine n8 ?_ | refine W_block ?_ | refine W_skip ?_ | refine W_ret ?_ | refine W_exit ?_ | refine WQ_then ?_ | refine WQ_then_ret ?_ | refine WQ_then_exit ?_ | refine WQ_block_normal ?_ | refine WQ_block_ret ?_ | refine WQ_block_exit ?_ | refine n9 ?_)
      refine WL_do rfl rfl (E_storeRowK (us := [w]) rfl rfl (by repeat' (first | exact Pick.head _ _ | apply Pick.tail)) (CellsE.one (OneC.row (by repeat' (first | exact Pick.head _ _ | apply Pick.tail)))) (Ones.cons (OneC.row (by repeat' (first | exact Pick.head _ _ | apply Pick.tail))) Ones.nil) (by intro _; rfl) c1 rfl (putN_one (k * 4 + 2) w _ (by rw [hcl]; omega))) ?_
      intro _ _
      rw [show (u.app (.cons id ext dv data sv subs next)).cells.set (k * 4 + 2) w = (u.app (.cons id ext w data sv subs next)).cells by rw [← hul]; exact cells_set2 u w]
      have g3 : (u.app (.cons id ext w data sv subs next)).cells[k * 4 + 3]? = some sv := by rw [← hul]; exact (cells_get u 3).resolve_right (by decide)
      have hcl2 : (u.app (.cons id ext w data sv subs next)).cells.length = (u.len + (next.len + 1)) * 4 := by rw [T.cells_length, T.len_app]; rfl
      repeat (first | refine n1 ?_ | refine n2 (fun b _ => ?_) | refine n3 (fun _ _ => ?_) | refine n4 ?_ | refine n5 ?_ | refine WL_nil ?_ | refine W_seq ?_ | refine W_region ?_ | refine n7 ?_ | refine n8 ?_ | refine W_block ?_ | refine W_skip ?_ | refine W_ret ?_ | refine W_exit ?_ | refine WQ_then ?_ | refine WQ_then_ret ?_ | refine WQ_then_exit ?_ | refine WQ_block_normal ?_ | refine WQ_block_ret ?_ | refine WQ_block_exit ?_ | refine n9 ?_)
      (apply WL_effs; exact rfl; exact rfl; exact rfl; apply E_call; exact rfl; (intro _ _; simp); (exact IH subs sv (by omega) m1); (repeat (first | exact AllE.nil _ | (apply AllE.cons; (focus (first | exact ent_nilBy | exact ent_nilSl | (apply Ent.mem; repeat' (first | exact mcs | apply mct))))))); (intro _; exact rfl); (intro _; exact rfl))
      rintro ⟨r, s2⟩ hr
      replace hr : s2.er = subs.er := hr
      dsimp only
      refine WL_letgo (v := r) (by repeat' (first | exact Pick.head _ _ | apply Pick.tail)) ?_
      refine WL_ent (ent_slT (v := r) (t := s2) (by repeat' (first | exact mcs | apply mct))) ?_
      refine WL_tree (t := s2) (by repeat' (first | exact Pick.head _ _ | apply Pick.tail)) (by repeat' (first | exact mcs | apply mct)) ?_
      repeat (first | refine n1 ?_ | refine n2 (fun b _ => ?_) | refine n3 (fun _ _ => ?_) | refine n4 ?_ | refine n5 ?_ | refine WL_nil ?_ | refine W_seq ?_ | refine W_region ?_ | refine n7 ?_ | refine n8 ?_ | refine W_block ?_ | refine W_skip ?_ | refine W_ret ?_ | refine W_exit ?_ | refine WQ_then ?_ | refine WQ_then_ret ?_ | refine WQ_then_exit ?_ | refine WQ_block_normal ?_ | refine WQ_block_ret ?_ | refine WQ_block_exit ?_ | refine n9 ?_)
      refine WL_do rfl rfl (E_storeRowK (us := [r]) rfl rfl (by repeat' (first | exact Pick.head _ _ | apply Pick.tail)) (CellsE.one (OneC.rw (n := s2.len) (by repeat' (first | exact mcs | apply mct)))) (Ones.cons (OneC.rw (n := s2.len) (by repeat' (first | exact mcs | apply mct))) Ones.nil) (by intro _; rfl) c1 rfl (putN_one (k * 4 + 3) r _ (by rw [hcl2]; omega))) ?_
      intro _ _
      rw [show (u.app (.cons id ext w data sv subs next)).cells.set (k * 4 + 3) r = ((u.app (.cons id ext w data r s2 .nil)).app next).cells by rw [← hul, app_assoc]; exact cells_set3 u r s2]
      repeat (first | refine n1 ?_ | refine n2 (fun b _ => ?_) | refine n3 (fun _ _ => ?_) | refine n4 ?_ | refine n5 ?_ | refine WL_nil ?_ | refine W_seq ?_ | refine W_region ?_ | refine n7 ?_ | refine n8 ?_ | refine W_block ?_ | refine W_skip ?_ | refine W_ret ?_ | refine W_exit ?_ | refine WQ_then ?_ | refine WQ_then_ret ?_ | refine WQ_then_exit ?_ | refine WQ_block_normal ?_ | refine WQ_block_ret ?_ | refine WQ_block_exit ?_ | refine n9 ?_)
      refine WQ_addL (bt := 5) (L := u.dls) (v := w) data rfl (by repeat' (first | exact Pick.head _ _ | apply Pick.tail)) (by repeat' (first | exact Pick.head _ _ | apply Pick.tail)) ?_
      rw [T.dls_snoc u id ext w data r s2]
      refine WQ_ent (ent_ts1 (id := id) (ext := ext) (dv := w) (data := data) (sv := r) (subs := s2) (by repeat' (first | exact mcs | apply mct)) (by repeat' (first | exact mcs | apply mct))) ?_
      refine WQ_ent (ent_tsapp (t := u) (u := .cons id ext w data r s2 .nil) (by repeat' (first | exact mcs | apply mct)) (by repeat' (first | exact mcs | apply mct))) ?_
      have hn : k + 1 ≤ t.len ∧ (u.app (.cons id ext w data r s2 .nil)).len = k + 1 ∧ fapp (u.app (.cons id ext w data r s2 .nil)).er (t.drop (k + 1)).er = t.er := by
        refine ⟨c1, by rw [T.len_app, hul]; rfl, ?_⟩
        rw [er_app, fapp_assoc, T.drop_next e1, ← hi]
        simp only [T.er, fapp, hr]
      rw [← T.drop_next e1]
      ((apply WQ_again ((k + 1, u.app (.cons id ext w data r s2 .nil)))); (focus exact hn); (focus (omega)); (focus (repeat (first | exact FrIn.nil _ | (apply FrIn.cons; exact rfl; (first | exact rfl | (congr 1; first | omega | (dsimp only; omega)) | (simp; done)))))); (focus (repeat (first | exact SubO.nil _ | (apply SubO.cons; (focus (repeat' (first | exact Pick.head _ _ | apply Pick.tail))))))); (focus (repeat (first | exact AllE.nil _ | (apply AllE.cons; (focus (first | exact ent_nilBy | exact ent_nilSl | (apply Ent.mem; repeat' (first | exact mcs | apply mct)))))))))
    · have hd := drop_end (t := t) (k := k) (by omega)
      rw [hd] at hi ⊢
      have e1 : u.app .nil = u := by
        clear hi hul hd
        induction u with
        | nil => rfl
        | cons _ _ _ _ _ _ _ _ ih => simp only [T.app, ih]
      rw [e1]
      have e2 : u.er = t.er := by
        simp only [T.er] at hi
        rwa [fapp_nil] at hi
      have e3 : t.len = u.len := by omega
      rw [e3]
      repeat (first | refine n1 ?_ | refine n2 (fun b _ => ?_) | refine n3 (fun _ _ => ?_) | refine n4 ?_ | refine n5 ?_ | refine WL_nil ?_ | refine W_seq ?_ | refine W_region ?_ | refine n7 ?_ | refine n8 ?_ | refine W_block ?_ | refine W_skip ?_ | refine W_ret ?_ | refine W_exit ?_ | refine WQ_then ?_ | refine WQ_then_ret ?_ | refine WQ_then_exit ?_ | refine WQ_block_normal ?_ | refine WQ_block_ret ?_ | refine WQ_block_exit ?_ | refine n9 ?_)
      ((apply ret1 Try.results25 ( (o, u))); (focus (first | trivial | assumption | omega)); (focus (first | exact RV_tmp rfl | (apply RV_cellN; exact rfl; (repeat' (first | exact Pick.head _ _ | apply Pick.tail)); (intro _; exact rfl); (intro _; exact rfl); exact rfl) | (apply RV_cell1; exact rfl; (repeat' (first | exact Pick.head _ _ | apply Pick.tail)); (intro _; exact rfl); exact rfl)));  (focus (first | exact rfl | (simp; done))); (focus (repeat (first | exact SubO.nil _ | (apply SubO.cons; (focus (repeat' (first | exact Pick.head _ _ | apply Pick.tail))))))); (focus (repeat (first | exact AllE.nil _ | (apply AllE.cons; (focus (first | exact ent_nilBy | exact ent_nilSl | (apply Ent.mem; repeat' (first | exact mcs | apply mct)))))))))
end Go.Proofs.Ytahkcidnmdcaaaa
