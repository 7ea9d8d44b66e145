/-
  Rules for walks, merged.
-/
import Derived.Test.YteojehocflbgdaaDoorXe
import Derived.Test.YteojehocflbgdaaDoorXc
import Derived.Test.YteojehocflbgdaaDoorXb
import Derived.Lib.DecodeN
import Derived.Laws.BitsLemmas
import Derived.Test.YteojehocflbgdaaDoorXd
/-
  Pieces joined: 'write' at byte strings, 'Join'.
-/
namespace Go.Proofs.YteojehocflbgdaaDoor.C01
end Go.Proofs.YteojehocflbgdaaDoor.C01
namespace Go.Proofs.YteojehocflbgdaaDoor.C03
end Go.Proofs.YteojehocflbgdaaDoor.C03
namespace Go.Proofs.YteojehocflbgdaaDoor.C08
open C01 C03
open Go Go.RowKit Go.Hs

def ByL (Φ : List SP) : List Value → List (List UInt8) → Prop
  | [], [] => True
  | v :: vs, f :: fs => By v f ∈ Φ ∧ ByL Φ vs fs
  | _, _ => False
theorem byL_get {Φ : List SP} : ∀ {vs : List Value} {fs : List (List UInt8)}, ByL Φ vs fs → ∀ i, i < fs.length → By (vs.getD i undef) (fs.getD i []) ∈ Φ
  | [], [], _, i, h => absurd h (by simp)
  | _ :: _, _ :: _, h, 0, _ => h.1
  | _ :: vs, _ :: fs, h, i + 1, hi => by
    have := byL_get (vs := vs) (fs := fs) h.2 i (by simpa using hi)
    simpa using this
  | [], _ :: _, h, _, _ => h.elim
  | _ :: _, [], h, _, _ => h.elim
theorem ent_alL {Φ : List SP} {vs : List Value} {fs : List (List UInt8)} (n : Nat) (hn : n = fs.length) (h : ByL Φ vs fs) : Ent Φ (Al n (fun i => By (vs.getD i undef) (fs.getD i []))) :=
  ent_alI fun i hi => Ent.mem (byL_get h i (by omega))

/-- one piece written behind what stands. -/
def J1 (out p : List UInt8) : List UInt8 × Int := if p.length = 0 then ([], 8) else if 2400 < p.length then ([], 11) else (out ++ entp p, 0)
theorem jn_snoc {fs : List (List UInt8)} {x : Nat} (h : x < fs.length) : jn (fs.take (x + 1)) = jn (fs.take x) ++ zer (pad4 (jn (fs.take x)).length) ++ entp (fs.getD x []) := by
  unfold jn
  rw [List.take_succ_eq_append_getElem h, List.map_append, List.map_cons, List.map_nil, jg_snoc, List.getD_eq_getElem?_getD, List.getElem?_eq_getElem h]
  rfl
theorem jn_le : ∀ {l : List (List UInt8)}, okL l → (jn l).length ≤ 2407 * l.length
  | [], _ => Nat.zero_le _
  | p :: r, h => by
    have h0 := (h p List.mem_cons_self).2
    have h1 := jn_le (l := r) fun q hq => h q (List.mem_cons_of_mem _ hq)
    have h2 := pad4_lt (4 + p.length)
    unfold jn at h1 ⊢
    rw [List.map_cons, jg, List.length_append, entp_length]
    split
    · simp only [List.length_nil, List.length_cons]; omega
    · simp only [List.length_append, zer_length, List.length_cons]; omega
theorem pieE_at : ∀ {fs : List (List UInt8)} {x : Nat}, okL (fs.take x) → x < fs.length → (J1 [] (fs.getD x [])).2 ≠ 0 → pieE fs = (J1 [] (fs.getD x [])).2
  | [], _, _, h, _ => absurd h (by simp)
  | p :: r, 0, _, _, h => by
    simp only [J1, List.getD_cons_zero] at h ⊢
    unfold pieE
    split
    · rfl
    · next h1 =>
      rw [if_neg h1] at h
      split
      · rfl
      · next h2 => rw [if_neg h2] at h; exact absurd rfl h
  | p :: r, x + 1, hok, hx, h => by
    have h0 := hok p (by simp)
    have ih := pieE_at (fs := r) (x := x) (fun q hq => hok q (by simp [hq])) (by simpa using hx) (by simpa using h)
    unfold pieE
    rw [if_neg (by have := h0.1; omega), if_neg (by have := h0.2; omega), ih]
    rfl
theorem J1_err (out p : List UInt8) : (J1 out p).2 = (J1 [] p).2 := by unfold J1; split; rfl; split <;> rfl
theorem J1_ok {out p : List UInt8} (h : (J1 out p).2 = 0) : okP p ∧ (J1 out p).1 = out ++ entp p := by
  unfold J1 at h ⊢
  split at h
  · cases h
  · next h1 =>
    split at h
    · cases h
    · next h2 => rw [if_neg h1, if_neg h2]; exact ⟨⟨by omega, by omega⟩, rfl⟩
theorem okL_snoc {fs : List (List UInt8)} {x : Nat} (h : x < fs.length) (hk : okL (fs.take x)) (hp : okP (fs.getD x [])) : okL (fs.take (x + 1)) := by
  intro p hp'
  rw [List.take_succ_eq_append_getElem h, List.mem_append] at hp'
  rcases hp' with hp' | hp'
  · exact hk p hp'
  · rw [List.mem_singleton] at hp'
    subst hp'
    rw [List.getD_eq_getElem?_getD, List.getElem?_eq_getElem h] at hp
    exact hp
attribute [local irreducible] WL W WQ PL Runs Effs AllE Ent SubO FrIn Pick OneC Ones CellsE PartsE SeqE UZ By Sl Pt Ct

set_option maxRecDepth 100000 in
set_option maxHeartbeats 1000000 in
theorem join1_fn (ov pv : Value) (out p : List UInt8) (ho : out.length ≤ 10000000) : Ct Tryd.prog 21 [ov, pv] [] [By ov out, By pv p]
    (X := Value) (fun _ => True) (fun x => .tuple #[x, .int .i64 (J1 out p).2]) (fun x => [.row x 5 1 (J1 out p).1.length ((J1 out p).1.map bcell)]) (fun _ => []) := by
  by_cases h0 : p.length = 0
  · rw [show J1 out p = ([], 8) from if_pos h0]
    refine Ct_intro Tryd.func21 rfl Tryd.ntmps21 (by simp) _ rfl (fun w0 O0 => ?_)
    repeat (first | refine n1 ?_ | refine n2 (fun b _ => ?_) | refine n3 (fun _ _ => ?_) | refine n4 ?_ | refine n5 ?_ | refine WL_nil ?_ | refine W_seq ?_ | refine W_region ?_ | refine n7 ?_ | refine n8 ?_ | refine W_block ?_ | refine W_skip ?_ | refine W_ret ?_ | refine W_exit ?_ | refine WQ_then ?_ | refine WQ_then_ret ?_ | refine WQ_then_exit ?_ | refine WQ_block_normal ?_ | refine WQ_block_ret ?_ | refine WQ_block_exit ?_ | refine n9 ?_)
    apply WQ_nilRow 5 1
    ((apply ret2 Tryd.results21 ( Value.slice none 0 0)); (focus (first | trivial | assumption | omega)); (focus (first | exact RV_tmp rfl | (apply RV_cellN; exact rfl; (repeat' (first | exact Pick.head _ _ | apply Pick.tail)); (intro _; exact rfl); (intro _; exact rfl); exact rfl) | (apply RV_cell1; exact rfl; (repeat' (first | exact Pick.head _ _ | apply Pick.tail)); (intro _; exact rfl); exact rfl))); (focus (first | exact RV_tmp rfl | (apply RV_cellN; exact rfl; (repeat' (first | exact Pick.head _ _ | apply Pick.tail)); (intro _; exact rfl); (intro _; exact rfl); exact rfl) | (apply RV_cell1; exact rfl; (repeat' (first | exact Pick.head _ _ | apply Pick.tail)); (intro _; exact rfl); exact rfl)));  (focus (first | exact rfl | (simp; done))); (focus (repeat (first | exact SubO.nil _ | (apply SubO.cons; (focus (repeat' (first | exact Pick.head _ _ | apply Pick.tail))))))); (focus (repeat (first | exact AllE.nil _ | (apply AllE.cons; (focus (first | exact ent_nilBy | exact ent_nilSl | (apply Ent.mem; repeat' (first | exact mcs | apply mct)))))))))
  · by_cases h1 : 2400 < p.length
    · rw [show J1 out p = ([], 11) by unfold J1; rw [if_neg h0, if_pos h1]]
      refine Ct_intro Tryd.func21 rfl Tryd.ntmps21 (by simp) _ rfl (fun w0 O0 => ?_)
      repeat (first | refine n1 ?_ | refine n2 (fun b _ => ?_) | refine n3 (fun _ _ => ?_) | refine n4 ?_ | refine n5 ?_ | refine WL_nil ?_ | refine W_seq ?_ | refine W_region ?_ | refine n7 ?_ | refine n8 ?_ | refine W_block ?_ | refine W_skip ?_ | refine W_ret ?_ | refine W_exit ?_ | refine WQ_then ?_ | refine WQ_then_ret ?_ | refine WQ_then_exit ?_ | refine WQ_block_normal ?_ | refine WQ_block_ret ?_ | refine WQ_block_exit ?_ | refine n9 ?_)
      apply WQ_nilRow 5 1
      ((apply ret2 Tryd.results21 ( Value.slice none 0 0)); (focus (first | trivial | assumption | omega)); (focus (first | exact RV_tmp rfl | (apply RV_cellN; exact rfl; (repeat' (first | exact Pick.head _ _ | apply Pick.tail)); (intro _; exact rfl); (intro _; exact rfl); exact rfl) | (apply RV_cell1; exact rfl; (repeat' (first | exact Pick.head _ _ | apply Pick.tail)); (intro _; exact rfl); exact rfl))); (focus (first | exact RV_tmp rfl | (apply RV_cellN; exact rfl; (repeat' (first | exact Pick.head _ _ | apply Pick.tail)); (intro _; exact rfl); (intro _; exact rfl); exact rfl) | (apply RV_cell1; exact rfl; (repeat' (first | exact Pick.head _ _ | apply Pick.tail)); (intro _; exact rfl); exact rfl)));  (focus (first | exact rfl | (simp; done))); (focus (repeat (first | exact SubO.nil _ | (apply SubO.cons; (focus (repeat' (first | exact Pick.head _ _ | apply Pick.tail))))))); (focus (repeat (first | exact AllE.nil _ | (apply AllE.cons; (focus (first | exact ent_nilBy | exact ent_nilSl | (apply Ent.mem; repeat' (first | exact mcs | apply mct)))))))))
    · rw [show J1 out p = (out ++ entp p, 0) by unfold J1; rw [if_neg h0, if_neg h1]]
      refine Ct_intro Tryd.func21 rfl Tryd.ntmps21 (by simp) _ rfl (fun w0 O0 => ?_)
      repeat (first | refine n1 ?_ | refine n2 (fun b _ => ?_) | refine n3 (fun _ _ => ?_) | refine n4 ?_ | refine n5 ?_ | refine WL_nil ?_ | refine W_seq ?_ | refine W_region ?_ | refine n7 ?_ | refine n8 ?_ | refine W_block ?_ | refine W_skip ?_ | refine W_ret ?_ | refine W_exit ?_ | refine WQ_then ?_ | refine WQ_then_ret ?_ | refine WQ_then_exit ?_ | refine WQ_block_normal ?_ | refine WQ_block_ret ?_ | refine WQ_block_exit ?_ | refine n9 ?_)
      (apply WL_effs; exact rfl; exact rfl; exact rfl; apply E_call; exact rfl; (intro _ _; simp); (exact delimiter_fn p.length (by omega)); (repeat (first | exact AllE.nil _ | (apply AllE.cons; (focus (first | exact ent_nilBy | exact ent_nilSl | (apply Ent.mem; repeat' (first | exact mcs | apply mct))))))); (intro _; exact rfl); (intro _; exact rfl))
      intro dv _
      repeat (first | refine n1 ?_ | refine n2 (fun b _ => ?_) | refine n3 (fun _ _ => ?_) | refine n4 ?_ | refine n5 ?_ | refine WL_nil ?_ | refine W_seq ?_ | refine W_region ?_ | refine n7 ?_ | refine n8 ?_ | refine W_block ?_ | refine W_skip ?_ | refine W_ret ?_ | refine W_exit ?_ | refine WQ_then ?_ | refine WQ_then_ret ?_ | refine WQ_then_exit ?_ | refine WQ_block_normal ?_ | refine WQ_block_ret ?_ | refine WQ_block_exit ?_ | refine n9 ?_)
      (apply WL_effs; exact rfl; exact rfl; exact rfl; (apply E_buildSlice; exact rfl; (focus (repeat (first | apply SeqE.nil | (apply SeqE.cons; exact rfl; (focus (first | (apply CellsE.lit; exact rfl) | (apply CellsE.one; (first | (apply OneC.lit; exact rfl) | (apply OneC.by_; (repeat' (first | exact mcs | apply mct)); done) | (apply OneC.sl; (repeat' (first | exact mcs | apply mct)); done) | (apply OneC.rw; (repeat' (first | exact mcs | apply mct)); done) | (apply OneC.row; (repeat' (first | exact Pick.head _ _ | apply Pick.tail))))))); exact rfl) | exact rfl))); exact rfl; (first | (intro _; exact (rfl : _ = Result.ok 1 _)) | (intro _; exact (rfl : _ = Result.ok 2 _)) | (intro _; exact (rfl : _ = Result.ok 3 _)) | (intro _; exact (rfl : _ = Result.ok 4 _)) | (intro _; exact (rfl : _ = Result.ok 5 _)) | (intro _; exact (rfl : _ = Result.ok 6 _)) | (intro _; exact (rfl : _ = Result.ok 7 _)) | (intro _; exact (rfl : _ = Result.ok 8 _)) | (intro _; exact (rfl : _ = Result.ok 9 _)) | (intro _; exact (rfl : _ = Result.ok 13 _)) | (intro _; exact (rfl : _ = Result.ok 14 _)) | (intro _; exact (rfl : _ = Result.ok 26 _)) | (intro _; exact (rfl : _ = Result.ok 40 _)) | (intro _; exact (rfl : _ = Result.ok 41 _)) | (intro _; exact (rfl : _ = Result.ok 42 _)) | (intro _; exact (rfl : _ = Result.ok 43 _)) | (intro _; exact (rfl : _ = Result.ok 44 _)) | (intro _; exact (rfl : _ = Result.ok 45 _)) | (intro _; exact (rfl : _ = Result.ok 46 _))); (intro _; exact rfl); exact rfl; exact Nat.le_of_ble_eq_true rfl; exact Nat.le_of_ble_eq_true rfl); skip)
      intro q _
      refine WL_letgo (v := q) (by repeat' (first | exact Pick.head _ _ | apply Pick.tail)) ?_
      refine WL_ent (ent_slRw1 (v := q) (by repeat' (first | exact mcs | apply mct))) ?_
      refine WL_ent (ent_alL (vs := [ov, dv, pv]) (fs := [out, dlm p.length, p]) 3 rfl ⟨(by repeat' (first | exact mcs | apply mct)), (by repeat' (first | exact mcs | apply mct)), (by repeat' (first | exact mcs | apply mct)), trivial⟩) ?_
      have hfl : [out, dlm p.length, p].flatten = out ++ entp p := by simp [entp]
      have hfn : (out ++ entp p).length = out.length + (4 + p.length) := by rw [List.length_append, entp_length]
      have hc := concat_fn q [out, dlm p.length, p] (fun i => [ov, dv, pv].getD i undef) (by rw [hfl, hfn]; omega) (by show 3 ≤ 1000000; omega)
      rw [hfl] at hc
      (apply WL_effs; exact rfl; exact rfl; exact rfl; apply E_call; exact rfl; (intro _ _; simp); exact hc; (repeat (first | exact AllE.nil _ | (apply AllE.cons; (focus (first | exact ent_nilBy | exact ent_nilSl | (apply Ent.mem; repeat' (first | exact mcs | apply mct))))))); (intro _; exact rfl); (intro _; exact rfl))
      intro o _
      repeat (first | refine n1 ?_ | refine n2 (fun b _ => ?_) | refine n3 (fun _ _ => ?_) | refine n4 ?_ | refine n5 ?_ | refine WL_nil ?_ | refine W_seq ?_ | refine W_region ?_ | refine n7 ?_ | refine n8 ?_ | refine W_block ?_ | refine W_skip ?_ | refine W_ret ?_ | refine W_exit ?_ | refine WQ_then ?_ | refine WQ_then_ret ?_ | refine WQ_then_exit ?_ | refine WQ_block_normal ?_ | refine WQ_block_ret ?_ | refine WQ_block_exit ?_ | refine n9 ?_)
      ((apply ret2 Tryd.results21 ( o)); (focus (first | trivial | assumption | omega)); (focus (first | exact RV_tmp rfl | (apply RV_cellN; exact rfl; (repeat' (first | exact Pick.head _ _ | apply Pick.tail)); (intro _; exact rfl); (intro _; exact rfl); exact rfl) | (apply RV_cell1; exact rfl; (repeat' (first | exact Pick.head _ _ | apply Pick.tail)); (intro _; exact rfl); exact rfl))); (focus (first | exact RV_tmp rfl | (apply RV_cellN; exact rfl; (repeat' (first | exact Pick.head _ _ | apply Pick.tail)); (intro _; exact rfl); (intro _; exact rfl); exact rfl) | (apply RV_cell1; exact rfl; (repeat' (first | exact Pick.head _ _ | apply Pick.tail)); (intro _; exact rfl); exact rfl)));  (focus (first | exact rfl | (simp; done))); (focus (repeat (first | exact SubO.nil _ | (apply SubO.cons; (focus (repeat' (first | exact Pick.head _ _ | apply Pick.tail))))))); (focus (repeat (first | exact AllE.nil _ | (apply AllE.cons; (focus (first | exact ent_nilBy | exact ent_nilSl | (apply Ent.mem; repeat' (first | exact mcs | apply mct)))))))))

set_option maxRecDepth 100000 in
set_option maxHeartbeats 2000000 in
theorem writeB_fn (v : Value) (fs : List (List UInt8)) (vs : Nat → Value) : Ct Tryd.prog 20 [v, .int .i64 64, .int .i64 65535, .func (.func 21) #[] #[]] [] [Rw 1 v fs.length (fun i => [vs i]), Al fs.length (fun i => By (vs i) (fs.getD i []))]
    (X := Value) (fun _ => True) (fun x => .tuple #[x, .int .i64 (jnE fs).2]) (fun x => [.row x 5 1 (jnE fs).1.length ((jnE fs).1.map bcell)]) (fun _ => []) := by
  by_cases h0 : fs.length = 0
  · rw [show jnE fs = ([], 6) from if_pos h0]
    refine Ct_intro Tryd.func20 rfl Tryd.ntmps20 (by simp) _ rfl (fun w0 O0 => ?_)
    repeat (first | refine n1 ?_ | refine n2 (fun b _ => ?_) | refine n3 (fun _ _ => ?_) | refine n4 ?_ | refine n5 ?_ | refine WL_nil ?_ | refine W_seq ?_ | refine W_region ?_ | refine n7 ?_ | refine n8 ?_ | refine W_block ?_ | refine W_skip ?_ | refine W_ret ?_ | refine W_exit ?_ | refine WQ_then ?_ | refine WQ_then_ret ?_ | refine WQ_then_exit ?_ | refine WQ_block_normal ?_ | refine WQ_block_ret ?_ | refine WQ_block_exit ?_ | refine n9 ?_)
    apply WQ_nilRow 5 1
    ((apply ret2 Tryd.results20 ( Value.slice none 0 0)); (focus (first | trivial | assumption | omega)); (focus (first | exact RV_tmp rfl | (apply RV_cellN; exact rfl; (repeat' (first | exact Pick.head _ _ | apply Pick.tail)); (intro _; exact rfl); (intro _; exact rfl); exact rfl) | (apply RV_cell1; exact rfl; (repeat' (first | exact Pick.head _ _ | apply Pick.tail)); (intro _; exact rfl); exact rfl))); (focus (first | exact RV_tmp rfl | (apply RV_cellN; exact rfl; (repeat' (first | exact Pick.head _ _ | apply Pick.tail)); (intro _; exact rfl); (intro _; exact rfl); exact rfl) | (apply RV_cell1; exact rfl; (repeat' (first | exact Pick.head _ _ | apply Pick.tail)); (intro _; exact rfl); exact rfl)));  (focus (first | exact rfl | (simp; done))); (focus (repeat (first | exact SubO.nil _ | (apply SubO.cons; (focus (repeat' (first | exact Pick.head _ _ | apply Pick.tail))))))); (focus (repeat (first | exact AllE.nil _ | (apply AllE.cons; (focus (first | exact ent_nilBy | exact ent_nilSl | (apply Ent.mem; repeat' (first | exact mcs | apply mct)))))))))
  · by_cases h1 : 64 < fs.length
    · rw [show jnE fs = ([], 4) by unfold jnE; rw [if_neg h0, if_pos h1]]
      refine Ct_intro Tryd.func20 rfl Tryd.ntmps20 (by simp) _ rfl (fun w0 O0 => ?_)
      repeat (first | refine n1 ?_ | refine n2 (fun b _ => ?_) | refine n3 (fun _ _ => ?_) | refine n4 ?_ | refine n5 ?_ | refine WL_nil ?_ | refine W_seq ?_ | refine W_region ?_ | refine n7 ?_ | refine n8 ?_ | refine W_block ?_ | refine W_skip ?_ | refine W_ret ?_ | refine W_exit ?_ | refine WQ_then ?_ | refine WQ_then_ret ?_ | refine WQ_then_exit ?_ | refine WQ_block_normal ?_ | refine WQ_block_ret ?_ | refine WQ_block_exit ?_ | refine n9 ?_)
      apply WQ_nilRow 5 1
      ((apply ret2 Tryd.results20 ( Value.slice none 0 0)); (focus (first | trivial | assumption | omega)); (focus (first | exact RV_tmp rfl | (apply RV_cellN; exact rfl; (repeat' (first | exact Pick.head _ _ | apply Pick.tail)); (intro _; exact rfl); (intro _; exact rfl); exact rfl) | (apply RV_cell1; exact rfl; (repeat' (first | exact Pick.head _ _ | apply Pick.tail)); (intro _; exact rfl); exact rfl))); (focus (first | exact RV_tmp rfl | (apply RV_cellN; exact rfl; (repeat' (first | exact Pick.head _ _ | apply Pick.tail)); (intro _; exact rfl); (intro _; exact rfl); exact rfl) | (apply RV_cell1; exact rfl; (repeat' (first | exact Pick.head _ _ | apply Pick.tail)); (intro _; exact rfl); exact rfl)));  (focus (first | exact rfl | (simp; done))); (focus (repeat (first | exact SubO.nil _ | (apply SubO.cons; (focus (repeat' (first | exact Pick.head _ _ | apply Pick.tail))))))); (focus (repeat (first | exact AllE.nil _ | (apply AllE.cons; (focus (first | exact ent_nilBy | exact ent_nilSl | (apply Ent.mem; repeat' (first | exact mcs | apply mct)))))))))
    · refine Ct_intro Tryd.func20 rfl Tryd.ntmps20 (by simp) _ rfl (fun w0 O0 => ?_)
      repeat (first | refine n1 ?_ | refine n2 (fun b _ => ?_) | refine n3 (fun _ _ => ?_) | refine n4 ?_ | refine n5 ?_ | refine WL_nil ?_ | refine W_seq ?_ | refine W_region ?_ | refine n7 ?_ | refine n8 ?_ | refine W_block ?_ | refine W_skip ?_ | refine W_ret ?_ | refine W_exit ?_ | refine WQ_then ?_ | refine WQ_then_ret ?_ | refine WQ_then_exit ?_ | refine WQ_block_normal ?_ | refine WQ_block_ret ?_ | refine WQ_block_exit ?_ | refine n9 ?_)
      apply W_nilRow 5 1
      ((apply W_loopK (X := Nat × Value) [10, 12, 13, 14, 24] [0] (fun x => x.1 ≤ fs.length ∧ okL (fs.take x.1)) (fun x => [(10, x.2), (24, .int .i64 (x.1 : Int))]) (fun x => [.row x.2 5 1 (jn (fs.take x.1)).length ((jn (fs.take x.1)).map bcell)]) (fun _ => []) (fun x => fs.length - x.1) ((0, .slice none 0 0))); (focus (exact ⟨Nat.zero_le _, fun _ h => (by cases h)⟩)); exact rfl; exact rfl; (intro _; exact rfl); (intro _; exact rfl); (intro _; exact rfl); (focus (repeat (first | exact FrIn.nil _ | (apply FrIn.cons; exact rfl; (first | exact rfl | (congr 1; first | omega | (dsimp only; omega)) | (simp; done)))))); (focus (repeat (first | exact SubO.nil _ | (apply SubO.cons; (focus (repeat' (first | exact Pick.head _ _ | apply Pick.tail))))))); (focus (repeat (first | exact AllE.nil _ | (apply AllE.cons; (focus (first | exact ent_nilBy | exact ent_nilSl | (apply Ent.mem; repeat' (first | exact mcs | apply mct)))))))); intro x hx)
      obtain ⟨x, o⟩ := x
      obtain ⟨hx, hok⟩ := hx
      replace hx : x ≤ fs.length := hx
      replace hok : okL (fs.take x) := hok
      dsimp only
      have hjl := jn_le hok
      rw [List.length_take, Nat.min_eq_left hx] at hjl
      have hpl := pad4_lt (jn (fs.take x)).length
      by_cases c1 : x < fs.length
      · refine W_ent (ent_al (i := x) (ψ := fun i => By (vs i) (fs.getD i [])) (by (focus (repeat' (first | exact mcs | apply mct)))) c1) ?_
        repeat (first | refine n1 ?_ | refine n2 (fun b _ => ?_) | refine n3 (fun _ _ => ?_) | refine n4 ?_ | refine n5 ?_ | refine n6 (padding_fn (jn (fs.take x)).length (by omega)) ?_ | refine n6v (padding_fn (jn (fs.take x)).length (by omega)) ?_ | refine WL_nil ?_ | refine W_seq ?_ | refine W_region ?_ | refine n7 ?_ | refine n8 ?_ | refine W_block ?_ | refine W_skip ?_ | refine W_ret ?_ | refine W_exit ?_ | refine WQ_then ?_ | refine WQ_then_ret ?_ | refine WQ_then_exit ?_ | refine WQ_block_normal ?_ | refine WQ_block_ret ?_ | refine WQ_block_exit ?_ | refine n9 ?_)
        refine WL_effs rfl rfl rfl (E_appendZ (bs := jn (fs.take x)) (k := pad4 (jn (fs.take x)).length) (nm := (jn (fs.take x) ++ zer (pad4 (jn (fs.take x)).length)).length) (all := jn (fs.take x) ++ zer (pad4 (jn (fs.take x)).length)) rfl rfl rfl (by repeat' (first | exact Pick.head _ _ | apply Pick.tail)) rfl rfl rfl rfl rfl rfl (Nat.le_of_ble_eq_true rfl) (by omega) (by rw [List.length_append, zer_length]) rfl) ?_
        intro o2 _
        refine WL_letgoB (v := o2) (by repeat' (first | exact Pick.head _ _ | apply Pick.tail)) rfl ?_
        repeat (first | refine n1 ?_ | refine n2 (fun b _ => ?_) | refine n3 (fun _ _ => ?_) | refine n4 ?_ | refine n5 ?_ | refine WL_nil ?_ | refine W_seq ?_ | refine W_region ?_ | refine n7 ?_ | refine n8 ?_ | refine W_block ?_ | refine W_skip ?_ | refine W_ret ?_ | refine W_exit ?_ | refine WQ_then ?_ | refine WQ_then_ret ?_ | refine WQ_then_exit ?_ | refine WQ_block_normal ?_ | refine WQ_block_ret ?_ | refine WQ_block_exit ?_ | refine n9 ?_)
        (apply WL_effs; exact rfl; exact rfl; exact rfl; (apply E_callG (first := #[]) (captured := #[]) (Γp := [])); exact rfl; exact rfl; exact rfl; (intro _ _; simp); (exact join1_fn o2 (vs x) (jn (fs.take x) ++ zer (pad4 (jn (fs.take x)).length)) (fs.getD x []) (by rw [List.length_append, zer_length]; omega)); exact .refl _; (repeat (first | exact AllE.nil _ | (apply AllE.cons; (focus (first | exact ent_nilBy | exact ent_nilSl | (apply Ent.mem; repeat' (first | exact mcs | apply mct))))))); (intro _; exact rfl); (intro _; exact rfl))
        intro o3 _
        by_cases c2 : (J1 (jn (fs.take x) ++ zer (pad4 (jn (fs.take x)).length)) (fs.getD x [])).2 = 0
        · obtain ⟨hp1, hp2⟩ := J1_ok c2
          rw [← jn_snoc c1] at hp2
          rw [c2, hp2]
          repeat (first | refine n1 ?_ | refine n2 (fun b _ => ?_) | refine n3 (fun _ _ => ?_) | refine n4 ?_ | refine n5 ?_ | refine WL_nil ?_ | refine W_seq ?_ | refine W_region ?_ | refine n7 ?_ | refine n8 ?_ | refine W_block ?_ | refine W_skip ?_ | refine W_ret ?_ | refine W_exit ?_ | refine WQ_then ?_ | refine WQ_then_ret ?_ | refine WQ_then_exit ?_ | refine WQ_block_normal ?_ | refine WQ_block_ret ?_ | refine WQ_block_exit ?_ | refine n9 ?_)
          have hok2 := okL_snoc c1 hok hp1
          ((apply WQ_again ((x + 1, o3))); (focus exact ⟨c1, hok2⟩); (focus (exact (show fs.length - (x + 1) < fs.length - x by omega))); (focus (repeat (first | exact FrIn.nil _ | (apply FrIn.cons; exact rfl; (first | exact rfl | (congr 1; first | omega | (dsimp only; omega)) | (simp; done)))))); (focus (repeat (first | exact SubO.nil _ | (apply SubO.cons; (focus (repeat' (first | exact Pick.head _ _ | apply Pick.tail))))))); (focus (repeat (first | exact AllE.nil _ | (apply AllE.cons; (focus (first | exact ent_nilBy | exact ent_nilSl | (apply Ent.mem; repeat' (first | exact mcs | apply mct)))))))))
        · have hpe := pieE_at hok c1 (by rw [← J1_err (jn (fs.take x) ++ zer (pad4 (jn (fs.take x)).length))]; exact c2)
          rw [← J1_err (jn (fs.take x) ++ zer (pad4 (jn (fs.take x)).length))] at hpe
          generalize J1 (jn (fs.take x) ++ zer (pad4 (jn (fs.take x)).length)) (fs.getD x []) = r at *
          obtain ⟨r1, r2⟩ := r
          replace c2 : ¬ r2 = 0 := c2
          replace hpe : pieE fs = r2 := hpe
          dsimp only
          repeat (first | refine n1 ?_ | refine n2 (fun b _ => ?_) | refine n3 (fun _ _ => ?_) | refine n4 ?_ | refine n5 ?_ | refine WL_nil ?_ | refine W_seq ?_ | refine W_region ?_ | refine n7 ?_ | refine n8 ?_ | refine W_block ?_ | refine W_skip ?_ | refine W_ret ?_ | refine W_exit ?_ | refine WQ_then ?_ | refine WQ_then_ret ?_ | refine WQ_then_exit ?_ | refine WQ_block_normal ?_ | refine WQ_block_ret ?_ | refine WQ_block_exit ?_ | refine n9 ?_)
          apply WQ_nilRow 5 1
          rw [show jnE fs = ([], r2) by unfold jnE; rw [if_neg h0, if_neg h1, if_neg (by rw [hpe]; exact c2), hpe]]
          ((apply ret2 Tryd.results20 ( Value.slice none 0 0)); (focus (first | trivial | assumption | omega)); (focus (first | exact RV_tmp rfl | (apply RV_cellN; exact rfl; (repeat' (first | exact Pick.head _ _ | apply Pick.tail)); (intro _; exact rfl); (intro _; exact rfl); exact rfl) | (apply RV_cell1; exact rfl; (repeat' (first | exact Pick.head _ _ | apply Pick.tail)); (intro _; exact rfl); exact rfl))); (focus (first | exact RV_tmp rfl | (apply RV_cellN; exact rfl; (repeat' (first | exact Pick.head _ _ | apply Pick.tail)); (intro _; exact rfl); (intro _; exact rfl); exact rfl) | (apply RV_cell1; exact rfl; (repeat' (first | exact Pick.head _ _ | apply Pick.tail)); (intro _; exact rfl); exact rfl)));  (focus (first | exact rfl | (simp; done))); (focus (repeat (first | exact SubO.nil _ | (apply SubO.cons; (focus (repeat' (first | exact Pick.head _ _ | apply Pick.tail))))))); (focus (repeat (first | exact AllE.nil _ | (apply AllE.cons; (focus (first | exact ent_nilBy | exact ent_nilSl | (apply Ent.mem; repeat' (first | exact mcs | apply mct)))))))))
      · obtain rfl : x = fs.length := by omega
        rw [List.take_length] at *
        by_cases c2 : 65535 < (jn fs).length
        · rw [show jnE fs = ([], 11) by unfold jnE; rw [if_neg h0, if_neg h1, if_pos (pieE_ok.2 hok), if_pos c2]]
          repeat (first | refine n1 ?_ | refine n2 (fun b _ => ?_) | refine n3 (fun _ _ => ?_) | refine n4 ?_ | refine n5 ?_ | refine WL_nil ?_ | refine W_seq ?_ | refine W_region ?_ | refine n7 ?_ | refine n8 ?_ | refine W_block ?_ | refine W_skip ?_ | refine W_ret ?_ | refine W_exit ?_ | refine WQ_then ?_ | refine WQ_then_ret ?_ | refine WQ_then_exit ?_ | refine WQ_block_normal ?_ | refine WQ_block_ret ?_ | refine WQ_block_exit ?_ | refine n9 ?_)
          apply WQ_nilRow 5 1
          ((apply ret2 Tryd.results20 ( Value.slice none 0 0)); (focus (first | trivial | assumption | omega)); (focus (first | exact RV_tmp rfl | (apply RV_cellN; exact rfl; (repeat' (first | exact Pick.head _ _ | apply Pick.tail)); (intro _; exact rfl); (intro _; exact rfl); exact rfl) | (apply RV_cell1; exact rfl; (repeat' (first | exact Pick.head _ _ | apply Pick.tail)); (intro _; exact rfl); exact rfl))); (focus (first | exact RV_tmp rfl | (apply RV_cellN; exact rfl; (repeat' (first | exact Pick.head _ _ | apply Pick.tail)); (intro _; exact rfl); (intro _; exact rfl); exact rfl) | (apply RV_cell1; exact rfl; (repeat' (first | exact Pick.head _ _ | apply Pick.tail)); (intro _; exact rfl); exact rfl)));  (focus (first | exact rfl | (simp; done))); (focus (repeat (first | exact SubO.nil _ | (apply SubO.cons; (focus (repeat' (first | exact Pick.head _ _ | apply Pick.tail))))))); (focus (repeat (first | exact AllE.nil _ | (apply AllE.cons; (focus (first | exact ent_nilBy | exact ent_nilSl | (apply Ent.mem; repeat' (first | exact mcs | apply mct)))))))))
        · rw [show jnE fs = (jn fs, 0) by unfold jnE; rw [if_neg h0, if_neg h1, if_pos (pieE_ok.2 hok), if_neg c2]]
          repeat (first | refine n1 ?_ | refine n2 (fun b _ => ?_) | refine n3 (fun _ _ => ?_) | refine n4 ?_ | refine n5 ?_ | refine WL_nil ?_ | refine W_seq ?_ | refine W_region ?_ | refine n7 ?_ | refine n8 ?_ | refine W_block ?_ | refine W_skip ?_ | refine W_ret ?_ | refine W_exit ?_ | refine WQ_then ?_ | refine WQ_then_ret ?_ | refine WQ_then_exit ?_ | refine WQ_block_normal ?_ | refine WQ_block_ret ?_ | refine WQ_block_exit ?_ | refine n9 ?_)
          ((apply ret2 Tryd.results20 ( o)); (focus (first | trivial | assumption | omega)); (focus (first | exact RV_tmp rfl | (apply RV_cellN; exact rfl; (repeat' (first | exact Pick.head _ _ | apply Pick.tail)); (intro _; exact rfl); (intro _; exact rfl); exact rfl) | (apply RV_cell1; exact rfl; (repeat' (first | exact Pick.head _ _ | apply Pick.tail)); (intro _; exact rfl); exact rfl))); (focus (first | exact RV_tmp rfl | (apply RV_cellN; exact rfl; (repeat' (first | exact Pick.head _ _ | apply Pick.tail)); (intro _; exact rfl); (intro _; exact rfl); exact rfl) | (apply RV_cell1; exact rfl; (repeat' (first | exact Pick.head _ _ | apply Pick.tail)); (intro _; exact rfl); exact rfl)));  (focus (first | exact rfl | (simp; done))); (focus (repeat (first | exact SubO.nil _ | (apply SubO.cons; (focus (repeat' (first | exact Pick.head _ _ | apply Pick.tail))))))); (focus (repeat (first | exact AllE.nil _ | (apply AllE.cons; (focus (first | exact ent_nilBy | exact ent_nilSl | (apply Ent.mem; repeat' (first | exact mcs | apply mct)))))))))

set_option maxRecDepth 100000 in
theorem join_fn (v : Value) (fs : List (List UInt8)) (vs : Nat → Value) : Ct Tryd.prog 7 [v] [] [Rw 1 v fs.length (fun i => [vs i]), Al fs.length (fun i => By (vs i) (fs.getD i []))]
    (X := Value) (fun _ => True) (fun x => .tuple #[x, .int .i64 (jnE fs).2]) (fun x => [.row x 5 1 (jnE fs).1.length ((jnE fs).1.map bcell)]) (fun _ => []) := by
  refine Ct_intro Tryd.func7 rfl Tryd.ntmps7 (by simp) _ rfl (fun w0 O0 => ?_)
  repeat (first | refine n1 ?_ | refine n2 (fun b _ => ?_) | refine n3 (fun _ _ => ?_) | refine n4 ?_ | refine n5 ?_ | refine WL_nil ?_ | refine W_seq ?_ | refine W_region ?_ | refine n7 ?_ | refine n8 ?_ | refine W_block ?_ | refine W_skip ?_ | refine W_ret ?_ | refine W_exit ?_ | refine WQ_then ?_ | refine WQ_then_ret ?_ | refine WQ_then_exit ?_ | refine WQ_block_normal ?_ | refine WQ_block_ret ?_ | refine WQ_block_exit ?_ | refine n9 ?_)
  (apply WL_effs; exact rfl; exact rfl; exact rfl; apply E_call; exact rfl; (intro _ _; simp); exact writeB_fn v fs vs; (repeat (first | exact AllE.nil _ | (apply AllE.cons; (focus (first | exact ent_nilBy | exact ent_nilSl | (apply Ent.mem; repeat' (first | exact mcs | apply mct))))))); (intro _; exact rfl); (intro _; exact rfl))
  intro o _
  repeat (first | refine n1 ?_ | refine n2 (fun b _ => ?_) | refine n3 (fun _ _ => ?_) | refine n4 ?_ | refine n5 ?_ | refine WL_nil ?_ | refine W_seq ?_ | refine W_region ?_ | refine n7 ?_ | refine n8 ?_ | refine W_block ?_ | refine W_skip ?_ | refine W_ret ?_ | refine W_exit ?_ | refine WQ_then ?_ | refine WQ_then_ret ?_ | refine WQ_then_exit ?_ | refine WQ_block_normal ?_ | refine WQ_block_ret ?_ | refine WQ_block_exit ?_ | refine n9 ?_)
  ((apply ret2 Tryd.results7 ( o)); (focus (first | trivial | assumption | omega)); (focus (first | exact RV_tmp rfl | (apply RV_cellN; exact rfl; (repeat' (first | exact Pick.head _ _ | apply Pick.tail)); (intro _; exact rfl); (intro _; exact rfl); exact rfl) | (apply RV_cell1; exact rfl; (repeat' (first | exact Pick.head _ _ | apply Pick.tail)); (intro _; exact rfl); exact rfl))); (focus (first | exact RV_tmp rfl | (apply RV_cellN; exact rfl; (repeat' (first | exact Pick.head _ _ | apply Pick.tail)); (intro _; exact rfl); (intro _; exact rfl); exact rfl) | (apply RV_cell1; exact rfl; (repeat' (first | exact Pick.head _ _ | apply Pick.tail)); (intro _; exact rfl); exact rfl)));  (focus (first | exact rfl | (simp; done))); (focus (repeat (first | exact SubO.nil _ | (apply SubO.cons; (focus (repeat' (first | exact Pick.head _ _ | apply Pick.tail))))))); (focus (repeat (first | exact AllE.nil _ | (apply AllE.cons; (focus (first | exact ent_nilBy | exact ent_nilSl | (apply Ent.mem; repeat' (first | exact mcs | apply mct)))))))))
end Go.Proofs.YteojehocflbgdaaDoor.C08

/-
  Byte strings scanned: 'Scan'; the reference's 'At', 'Starts', 'GreatPieces'.
-/
namespace Go.Proofs.YteojehocflbgdaaDoor.C01
end Go.Proofs.YteojehocflbgdaaDoor.C01
namespace Go.Proofs.YteojehocflbgdaaDoor.C03
end Go.Proofs.YteojehocflbgdaaDoor.C03
namespace Go.Proofs.YteojehocflbgdaaDoor.C08
open C01 C03
open Go Go.RowKit Go.Hs

theorem drop_rest {α : Type} (l : List α) (k : Nat) : (l.drop k).take (l.length - k) = l.drop k := List.take_of_length_le (by simp)
theorem getD_app1 {α : Type} {l : List α} {x d : α} {i : Nat} (h : i < l.length) : (l ++ [x]).getD i d = l.getD i d := by
  rw [List.getD_eq_getElem?_getD, List.getD_eq_getElem?_getD, List.getElem?_append_left h]
theorem getD_app2 {α : Type} {l : List α} {x d : α} {i : Nat} (h : l.length = i) : (l ++ [x]).getD i d = x := by
  subst h
  rw [List.getD_eq_getElem?_getD, List.getElem?_append_right (Nat.le_refl _)]
  simp
theorem ent_alB {Φ : List SP} {us : List Value} {fs : List (List UInt8)} {u : Value} {f : List UInt8} (hm : Al fs.length (fun i => By (us.getD i undef) (fs.getD i [])) ∈ Φ) (hc : By u f ∈ Φ) (hl : us.length = fs.length) :
    Ent Φ (Al (fs ++ [f]).length (fun i => By ((us ++ [u]).getD i undef) ((fs ++ [f]).getD i []))) := by
  rw [show (fs ++ [f]).length = fs.length + 1 by simp]
  exact ent_alS hm hc (fun i hi => by rw [getD_app1 (by omega), getD_app1 hi]) (by rw [getD_app2 hl, getD_app2 rfl])
structure SS where
  v : Value
  rest : List UInt8
  o : Value
  us : List Value
  fs : List (List UInt8)
  sk : Nat
def ssInv (bs : List UInt8) (x : SS) : Prop := x.rest.length ≤ bs.length ∧ x.us.length = x.fs.length ∧ x.fs.length + x.rest.length ≤ bs.length ∧ x.sk + x.rest.length ≤ bs.length ∧ sc bs = (x.fs ++ (sc x.rest).1, x.sk + (sc x.rest).2)
theorem num2_def (b : List UInt8) : (b.getD 0 0).toNat + 256 * (b.getD 1 0).toNat = num2 b := rfl
attribute [local irreducible] WL W WQ PL Runs Effs AllE Ent SubO FrIn Pick OneC Ones CellsE PartsE SeqE UZ By Sl Pt Ct

set_option maxRecDepth 100000 in
set_option maxHeartbeats 8000000 in
theorem scan_fn (v : Value) (bs : List UInt8) (hb : bs.length ≤ 10000000) : Ct Tryd.prog 10 [v] [] [By v bs]
    (X := Value × List Value) (fun x => x.2.length = (sc bs).1.length) (fun x => .tuple #[x.1, .int .i64 ((sc bs).2 : Int)]) (fun _ => [])
    (fun x => [Rw 1 x.1 (sc bs).1.length (fun i => [x.2.getD i undef]), Al (sc bs).1.length (fun i => By (x.2.getD i undef) ((sc bs).1.getD i []))]) := by
  refine Ct_intro Tryd.func10 rfl Tryd.ntmps10 (by simp) _ rfl (fun w0 O0 => ?_)
  repeat (first | refine n1 ?_ | refine n2 (fun b _ => ?_) | refine n3 (fun _ _ => ?_) | refine n4 ?_ | refine n5 ?_ | refine WL_nil ?_ | refine W_seq ?_ | refine W_region ?_ | refine n7 ?_ | refine n8 ?_ | refine W_block ?_ | refine W_skip ?_ | refine W_ret ?_ | refine W_exit ?_ | refine WQ_then ?_ | refine WQ_then_ret ?_ | refine WQ_then_exit ?_ | refine WQ_block_normal ?_ | refine WQ_block_ret ?_ | refine WQ_block_exit ?_ | refine n9 ?_)
  apply W_nilRow 36 1
  refine W_ent (ent_al0 (ψ := fun i => By (([] : List Value).getD i undef) (([] : List (List UInt8)).getD i []))) ?_
  ((apply W_loopK (X := SS) [0, 2, 3, 4] [0] (fun x => ssInv bs x) (fun x => [(0, x.v), (2, x.o), (3, .int .i64 (x.sk : Int))]) (fun x => [.row x.o 36 1 x.fs.length x.us]) (fun x => [By x.v x.rest, Al x.fs.length (fun i => By (x.us.getD i undef) (x.fs.getD i []))]) (fun x => x.rest.length) (⟨v, bs, .slice none 0 0, [], [], 0⟩)); (focus exact ⟨Nat.le_refl _, rfl, by simp, by simp, by simp⟩); exact rfl; exact rfl; (intro _; exact rfl); (intro _; exact rfl); (intro _; exact rfl); (focus (repeat (first | exact FrIn.nil _ | (apply FrIn.cons; exact rfl; (first | exact rfl | (congr 1; first | omega | (dsimp only; omega)) | (simp; done)))))); (focus (repeat (first | exact SubO.nil _ | (apply SubO.cons; (focus (repeat' (first | exact Pick.head _ _ | apply Pick.tail))))))); (focus (repeat (first | exact AllE.nil _ | (apply AllE.cons; (focus (first | exact ent_nilBy | exact ent_nilSl | (apply Ent.mem; repeat' (first | exact mcs | apply mct)))))))); intro x hx)
  obtain ⟨bv, rest, o, us, fs, sk⟩ := x
  obtain ⟨i1, i2, i3, i4, i5⟩ := hx
  replace i1 : rest.length ≤ bs.length := i1
  replace i2 : us.length = fs.length := i2
  replace i3 : fs.length + rest.length ≤ bs.length := i3
  replace i4 : sk + rest.length ≤ bs.length := i4
  replace i5 : sc bs = (fs ++ (sc rest).1, sk + (sc rest).2) := i5
  dsimp only
  by_cases h4 : 4 ≤ rest.length
  · have hnl := num2_lt rest
    have q0 := u8_nat (rest.getD 0 0)
    have q1 := u8_nat (rest.getD 1 0)
    repeat (first | refine n1 ?_ | refine n2 (fun b _ => ?_) | refine n3 (fun _ _ => ?_) | refine n4 ?_ | refine n5 ?_ | refine WL_nil ?_ | refine W_seq ?_ | refine W_region ?_ | refine n7 ?_ | refine n8 ?_ | refine W_block ?_ | refine W_skip ?_ | refine W_ret ?_ | refine W_exit ?_ | refine WQ_then ?_ | refine WQ_then_ret ?_ | refine WQ_then_exit ?_ | refine WQ_block_normal ?_ | refine WQ_block_ret ?_ | refine WQ_block_exit ?_ | refine n9 ?_)
    (refine W_regionP' [] [] [0, 1, 2, 3, 4, 5, 6, 7, 8, 9, 10] [] (by kernel_rfl) (by kernel_rfl) (by repeat (first | exact UZ.nil _ _ | (apply UZ.cons; exact rfl; (intro _; exact rfl)))) (by exact rfl) (by (repeat (first | exact SubO.nil _ | (apply SubO.cons; (focus (repeat' (first | exact Pick.head _ _ | apply Pick.tail))))))) ?_)
    repeat (first | refine p1 ?_ | refine p2 (fun b _ => ?_) | refine p3 (fun _ _ => ?_) | refine p4 ?_ | refine p5 ?_ | refine p7 (fun b => ?_) | refine PL_nil ?_)
    refine PL_runs rfl rfl rfl rfl rfl (R_shl rfl rfl (by decide) (i64_shl8 _)) ?_
    refine PL_runs rfl rfl rfl rfl rfl (R_or rfl rfl (i64_or8 _ _)) ?_
    rw [num2_def]
    repeat (first | refine p1 ?_ | refine p2 (fun b _ => ?_) | refine p3 (fun _ _ => ?_) | refine p4 ?_ | refine p5 ?_ | refine p7 (fun b => ?_) | refine PL_nil ?_)
    by_cases hh : hit rest = true
    · obtain ⟨_, h1, h2, h3, h5⟩ := hit_iff.1 hh
      have hpl := pad4_lt (num2 rest)
      have hsc := sc_hit hh
      repeat (first | refine n1 ?_ | refine n2 (fun b _ => ?_) | refine n3 (fun _ _ => ?_) | refine n4 ?_ | refine n5 ?_ | refine WL_nil ?_ | refine W_seq ?_ | refine W_region ?_ | refine n7 ?_ | refine n8 ?_ | refine W_block ?_ | refine W_skip ?_ | refine W_ret ?_ | refine W_exit ?_ | refine WQ_then ?_ | refine WQ_then_ret ?_ | refine WQ_then_exit ?_ | refine WQ_block_normal ?_ | refine WQ_block_ret ?_ | refine WQ_block_exit ?_ | refine n9 ?_)
      (apply WL_effs; exact rfl; exact rfl; exact rfl; apply E_call; exact rfl; (intro _ _; simp); (exact delimiter_fn (num2 rest) (by omega)); (repeat (first | exact AllE.nil _ | (apply AllE.cons; (focus (first | exact ent_nilBy | exact ent_nilSl | (apply Ent.mem; repeat' (first | exact mcs | apply mct))))))); (intro _; exact rfl); (intro _; exact rfl))
      intro dv _
      have hp := prefix_fn bv dv rest (dlm (num2 rest))
      rw [decide_eq_true (show (dlm (num2 rest)).length ≤ rest.length ∧ rest.take (dlm (num2 rest)).length = dlm (num2 rest) from ⟨h4, h3⟩)] at hp
      repeat (first | refine n1 ?_ | refine n2 (fun b _ => ?_) | refine n3 (fun _ _ => ?_) | refine n4 ?_ | refine n5 ?_ | refine n6 (hp) ?_ | refine n6v (hp) ?_ | refine WL_nil ?_ | refine W_seq ?_ | refine W_region ?_ | refine n7 ?_ | refine n8 ?_ | refine W_block ?_ | refine W_skip ?_ | refine W_ret ?_ | refine W_exit ?_ | refine WQ_then ?_ | refine WQ_then_ret ?_ | refine WQ_then_exit ?_ | refine WQ_block_normal ?_ | refine WQ_block_ret ?_ | refine WQ_block_exit ?_ | refine n9 ?_)
      have hdl : ((rest.drop 4).take (num2 rest)).length ≤ rest.length := by rw [List.length_take, List.length_drop]; omega
      (apply WL_effs; exact rfl; exact rfl; exact rfl; apply E_call; exact rfl; (intro _ _; simp); (exact cloneB_fnB (cutV 1 4 (4 + num2 rest) bv) ((rest.drop 4).take (num2 rest)) (by omega)); (repeat (first | exact AllE.nil _ | (apply AllE.cons; (focus (first | exact ent_nilBy | exact ent_nilSl | (apply Ent.mem; repeat' (first | exact mcs | apply mct))))))); (intro _; exact rfl); (intro _; exact rfl))
      intro cv _
      (apply WL_effs; exact rfl; exact rfl; exact rfl; (apply E_buildSlice; exact rfl; (focus (repeat (first | apply SeqE.nil | (apply SeqE.cons; exact rfl; (focus (first | (apply CellsE.lit; exact rfl) | (apply CellsE.one; (first | (apply OneC.lit; exact rfl) | (apply OneC.by_; (repeat' (first | exact mcs | apply mct)); done) | (apply OneC.sl; (repeat' (first | exact mcs | apply mct)); done) | (apply OneC.rw; (repeat' (first | exact mcs | apply mct)); done) | (apply OneC.row; (repeat' (first | exact Pick.head _ _ | apply Pick.tail))))))); exact rfl) | exact rfl))); exact rfl; (first | (intro _; exact (rfl : _ = Result.ok 1 _)) | (intro _; exact (rfl : _ = Result.ok 2 _)) | (intro _; exact (rfl : _ = Result.ok 3 _)) | (intro _; exact (rfl : _ = Result.ok 4 _)) | (intro _; exact (rfl : _ = Result.ok 5 _)) | (intro _; exact (rfl : _ = Result.ok 6 _)) | (intro _; exact (rfl : _ = Result.ok 7 _)) | (intro _; exact (rfl : _ = Result.ok 8 _)) | (intro _; exact (rfl : _ = Result.ok 9 _)) | (intro _; exact (rfl : _ = Result.ok 13 _)) | (intro _; exact (rfl : _ = Result.ok 14 _)) | (intro _; exact (rfl : _ = Result.ok 26 _)) | (intro _; exact (rfl : _ = Result.ok 40 _)) | (intro _; exact (rfl : _ = Result.ok 41 _)) | (intro _; exact (rfl : _ = Result.ok 42 _)) | (intro _; exact (rfl : _ = Result.ok 43 _)) | (intro _; exact (rfl : _ = Result.ok 44 _)) | (intro _; exact (rfl : _ = Result.ok 45 _)) | (intro _; exact (rfl : _ = Result.ok 46 _))); (intro _; exact rfl); exact rfl; exact Nat.le_of_ble_eq_true rfl; exact Nat.le_of_ble_eq_true rfl); skip)
      intro q _
      have hlen : (fs ++ [(rest.drop 4).take (num2 rest)]).length = fs.length + 1 := by simp
      refine WL_effs rfl rfl rfl (E_appendRowO (nm := (fs ++ [(rest.drop 4).take (num2 rest)]).length) (all := us ++ [cv]) rfl rfl (by repeat' (first | exact Pick.head _ _ | apply Pick.tail)) (by repeat' (first | exact Pick.head _ _ | apply Pick.tail)) rfl rfl rfl rfl rfl (Nat.le_of_ble_eq_true rfl) (Ones.cons (OneC.by_ (by repeat' (first | exact mcs | apply mct))) Ones.nil) (Nat.le_of_ble_eq_true rfl) (by omega) hlen.symm rfl) ?_
      intro o2 _
      refine WL_ent (ent_alB (us := us) (fs := fs) (u := cv) (f := (rest.drop 4).take (num2 rest)) (by repeat' (first | exact mcs | apply mct)) (by repeat' (first | exact mcs | apply mct)) i2) ?_
      repeat (first | refine n1 ?_ | refine n2 (fun b _ => ?_) | refine n3 (fun _ _ => ?_) | refine n4 ?_ | refine n5 ?_ | refine n6 (padding_fn (num2 rest) (by omega)) ?_ | refine n6v (padding_fn (num2 rest) (by omega)) ?_ | refine WL_nil ?_ | refine W_seq ?_ | refine W_region ?_ | refine n7 ?_ | refine n8 ?_ | refine W_block ?_ | refine W_skip ?_ | refine W_ret ?_ | refine W_exit ?_ | refine WQ_then ?_ | refine WQ_then_ret ?_ | refine WQ_then_exit ?_ | refine WQ_block_normal ?_ | refine WQ_block_ret ?_ | refine WQ_block_exit ?_ | refine n9 ?_)
      by_cases c1 : 4 + num2 rest + pad4 (num2 rest) ≤ rest.length
      · repeat (first | refine n1 ?_ | refine n2 (fun b _ => ?_) | refine n3 (fun _ _ => ?_) | refine n4 ?_ | refine n5 ?_ | refine WL_nil ?_ | refine W_seq ?_ | refine W_region ?_ | refine n7 ?_ | refine n8 ?_ | refine W_block ?_ | refine W_skip ?_ | refine W_ret ?_ | refine W_exit ?_ | refine WQ_then ?_ | refine WQ_then_ret ?_ | refine WQ_then_exit ?_ | refine WQ_block_normal ?_ | refine WQ_block_ret ?_ | refine WQ_block_exit ?_ | refine n9 ?_)
        repeat (first | refine n1 ?_ | refine n2 (fun b _ => ?_) | refine n3 (fun _ _ => ?_) | refine n4 ?_ | refine n5 ?_ | refine WL_nil ?_ | refine W_seq ?_ | refine W_region ?_ | refine n7 ?_ | refine n8 ?_ | refine W_block ?_ | refine W_skip ?_ | refine W_ret ?_ | refine W_exit ?_ | refine WQ_then ?_ | refine WQ_then_ret ?_ | refine WQ_then_exit ?_ | refine WQ_block_normal ?_ | refine WQ_block_ret ?_ | refine WQ_block_exit ?_ | refine n9 ?_)
        rw [drop_rest]
        have hr : (rest.drop (4 + num2 rest + pad4 (num2 rest))).length = rest.length - (4 + num2 rest + pad4 (num2 rest)) := List.length_drop
        have hn : ssInv bs ⟨cutV 1 (4 + num2 rest + pad4 (num2 rest)) rest.length bv, rest.drop (4 + num2 rest + pad4 (num2 rest)), o2, us ++ [cv], fs ++ [(rest.drop 4).take (num2 rest)], sk⟩ :=
          ⟨by show (rest.drop _).length ≤ _; omega, by simp [i2], by show (fs ++ _).length + (rest.drop _).length ≤ _; omega, by show sk + (rest.drop _).length ≤ _; omega, by rw [i5, hsc]; simp⟩
        ((apply WQ_again (⟨cutV 1 (4 + num2 rest + pad4 (num2 rest)) rest.length bv, rest.drop (4 + num2 rest + pad4 (num2 rest)), o2, us ++ [cv], fs ++ [(rest.drop 4).take (num2 rest)], sk⟩)); (focus exact hn); (focus (exact (show (rest.drop (4 + num2 rest + pad4 (num2 rest))).length < rest.length by omega))); (focus (repeat (first | exact FrIn.nil _ | (apply FrIn.cons; exact rfl; (first | exact rfl | (congr 1; first | omega | (dsimp only; omega)) | (simp; done)))))); (focus (repeat (first | exact SubO.nil _ | (apply SubO.cons; (focus (repeat' (first | exact Pick.head _ _ | apply Pick.tail))))))); (focus (repeat (first | exact AllE.nil _ | (apply AllE.cons; (focus (first | exact ent_nilBy | exact ent_nilSl | (apply Ent.mem; repeat' (first | exact mcs | apply mct)))))))))
      · have e0 : rest.drop (4 + num2 rest + pad4 (num2 rest)) = [] := List.drop_of_length_le (by omega)
        rw [e0] at hsc
        repeat (first | refine n1 ?_ | refine n2 (fun b _ => ?_) | refine n3 (fun _ _ => ?_) | refine n4 ?_ | refine n5 ?_ | refine WL_nil ?_ | refine W_seq ?_ | refine W_region ?_ | refine n7 ?_ | refine n8 ?_ | refine W_block ?_ | refine W_skip ?_ | refine W_ret ?_ | refine W_exit ?_ | refine WQ_then ?_ | refine WQ_then_ret ?_ | refine WQ_then_exit ?_ | refine WQ_block_normal ?_ | refine WQ_block_ret ?_ | refine WQ_block_exit ?_ | refine n9 ?_)
        repeat (first | refine n1 ?_ | refine n2 (fun b _ => ?_) | refine n3 (fun _ _ => ?_) | refine n4 ?_ | refine n5 ?_ | refine WL_nil ?_ | refine W_seq ?_ | refine W_region ?_ | refine n7 ?_ | refine n8 ?_ | refine W_block ?_ | refine W_skip ?_ | refine W_ret ?_ | refine W_exit ?_ | refine WQ_then ?_ | refine WQ_then_ret ?_ | refine WQ_then_exit ?_ | refine WQ_block_normal ?_ | refine WQ_block_ret ?_ | refine WQ_block_exit ?_ | refine n9 ?_)
        rw [show (rest.drop rest.length).take (rest.length - rest.length) = [] by simp]
        have hn : ssInv bs ⟨cutV 1 rest.length rest.length bv, [], o2, us ++ [cv], fs ++ [(rest.drop 4).take (num2 rest)], sk⟩ :=
          ⟨by simp, by simp [i2], by show (fs ++ _).length + 0 ≤ _; omega, by show sk + 0 ≤ _; omega, by rw [i5, hsc]; simp⟩
        ((apply WQ_again (⟨cutV 1 rest.length rest.length bv, [], o2, us ++ [cv], fs ++ [(rest.drop 4).take (num2 rest)], sk⟩)); (focus exact hn); (focus (exact (show 0 < rest.length by omega))); (focus (repeat (first | exact FrIn.nil _ | (apply FrIn.cons; exact rfl; (first | exact rfl | (congr 1; first | omega | (dsimp only; omega)) | (simp; done)))))); (focus (repeat (first | exact SubO.nil _ | (apply SubO.cons; (focus (repeat' (first | exact Pick.head _ _ | apply Pick.tail))))))); (focus (repeat (first | exact AllE.nil _ | (apply AllE.cons; (focus (first | exact ent_nilBy | exact ent_nilSl | (apply Ent.mem; repeat' (first | exact mcs | apply mct)))))))))
    · have hsc := sc_miss h4 (by simpa using hh)
      have hr : (rest.drop 4).length = rest.length - 4 := List.length_drop
      have hn : ssInv bs ⟨cutV 1 4 rest.length bv, rest.drop 4, o, us, fs, sk + 1⟩ :=
        ⟨by show (rest.drop 4).length ≤ _; omega, i2, by show fs.length + (rest.drop 4).length ≤ _; omega, by show sk + 1 + (rest.drop 4).length ≤ _; omega, by rw [i5, hsc]; simp; omega⟩
      by_cases a1 : num2 rest < 1
      · repeat (first | refine n1 ?_ | refine n2 (fun b _ => ?_) | refine n3 (fun _ _ => ?_) | refine n4 ?_ | refine n5 ?_ | refine WL_nil ?_ | refine W_seq ?_ | refine W_region ?_ | refine n7 ?_ | refine n8 ?_ | refine W_block ?_ | refine W_skip ?_ | refine W_ret ?_ | refine W_exit ?_ | refine WQ_then ?_ | refine WQ_then_ret ?_ | refine WQ_then_exit ?_ | refine WQ_block_normal ?_ | refine WQ_block_ret ?_ | refine WQ_block_exit ?_ | refine n9 ?_)
        repeat (first | refine n1 ?_ | refine n2 (fun b _ => ?_) | refine n3 (fun _ _ => ?_) | refine n4 ?_ | refine n5 ?_ | refine WL_nil ?_ | refine W_seq ?_ | refine W_region ?_ | refine n7 ?_ | refine n8 ?_ | refine W_block ?_ | refine W_skip ?_ | refine W_ret ?_ | refine W_exit ?_ | refine WQ_then ?_ | refine WQ_then_ret ?_ | refine WQ_then_exit ?_ | refine WQ_block_normal ?_ | refine WQ_block_ret ?_ | refine WQ_block_exit ?_ | refine n9 ?_)
        rw [drop_rest]
        ((apply WQ_again (⟨cutV 1 4 rest.length bv, rest.drop 4, o, us, fs, sk + 1⟩)); (focus exact hn); (focus (exact (show (rest.drop 4).length < rest.length by omega))); (focus (repeat (first | exact FrIn.nil _ | (apply FrIn.cons; exact rfl; (first | exact rfl | (congr 1; first | omega | (dsimp only; omega)) | (simp; done)))))); (focus (repeat (first | exact SubO.nil _ | (apply SubO.cons; (focus (repeat' (first | exact Pick.head _ _ | apply Pick.tail))))))); (focus (repeat (first | exact AllE.nil _ | (apply AllE.cons; (focus (first | exact ent_nilBy | exact ent_nilSl | (apply Ent.mem; repeat' (first | exact mcs | apply mct)))))))))
      · by_cases a2 : 2400 < num2 rest
        · repeat (first | refine n1 ?_ | refine n2 (fun b _ => ?_) | refine n3 (fun _ _ => ?_) | refine n4 ?_ | refine n5 ?_ | refine WL_nil ?_ | refine W_seq ?_ | refine W_region ?_ | refine n7 ?_ | refine n8 ?_ | refine W_block ?_ | refine W_skip ?_ | refine W_ret ?_ | refine W_exit ?_ | refine WQ_then ?_ | refine WQ_then_ret ?_ | refine WQ_then_exit ?_ | refine WQ_block_normal ?_ | refine WQ_block_ret ?_ | refine WQ_block_exit ?_ | refine n9 ?_)
          repeat (first | refine n1 ?_ | refine n2 (fun b _ => ?_) | refine n3 (fun _ _ => ?_) | refine n4 ?_ | refine n5 ?_ | refine WL_nil ?_ | refine W_seq ?_ | refine W_region ?_ | refine n7 ?_ | refine n8 ?_ | refine W_block ?_ | refine W_skip ?_ | refine W_ret ?_ | refine W_exit ?_ | refine WQ_then ?_ | refine WQ_then_ret ?_ | refine WQ_then_exit ?_ | refine WQ_block_normal ?_ | refine WQ_block_ret ?_ | refine WQ_block_exit ?_ | refine n9 ?_)
          rw [drop_rest]
          ((apply WQ_again (⟨cutV 1 4 rest.length bv, rest.drop 4, o, us, fs, sk + 1⟩)); (focus exact hn); (focus (exact (show (rest.drop 4).length < rest.length by omega))); (focus (repeat (first | exact FrIn.nil _ | (apply FrIn.cons; exact rfl; (first | exact rfl | (congr 1; first | omega | (dsimp only; omega)) | (simp; done)))))); (focus (repeat (first | exact SubO.nil _ | (apply SubO.cons; (focus (repeat' (first | exact Pick.head _ _ | apply Pick.tail))))))); (focus (repeat (first | exact AllE.nil _ | (apply AllE.cons; (focus (first | exact ent_nilBy | exact ent_nilSl | (apply Ent.mem; repeat' (first | exact mcs | apply mct)))))))))
        · by_cases a3 : rest.take 4 = dlm (num2 rest)
          · have a4 : rest.length < 4 + num2 rest := by
              apply Nat.lt_of_not_le
              intro a4
              exact hh (hit_iff.2 ⟨h4, by omega, by omega, a3, a4⟩)
            repeat (first | refine n1 ?_ | refine n2 (fun b _ => ?_) | refine n3 (fun _ _ => ?_) | refine n4 ?_ | refine n5 ?_ | refine WL_nil ?_ | refine W_seq ?_ | refine W_region ?_ | refine n7 ?_ | refine n8 ?_ | refine W_block ?_ | refine W_skip ?_ | refine W_ret ?_ | refine W_exit ?_ | refine WQ_then ?_ | refine WQ_then_ret ?_ | refine WQ_then_exit ?_ | refine WQ_block_normal ?_ | refine WQ_block_ret ?_ | refine WQ_block_exit ?_ | refine n9 ?_)
            (apply WL_effs; exact rfl; exact rfl; exact rfl; apply E_call; exact rfl; (intro _ _; simp); (exact delimiter_fn (num2 rest) (by omega)); (repeat (first | exact AllE.nil _ | (apply AllE.cons; (focus (first | exact ent_nilBy | exact ent_nilSl | (apply Ent.mem; repeat' (first | exact mcs | apply mct))))))); (intro _; exact rfl); (intro _; exact rfl))
            intro dv _
            have hp := prefix_fn bv dv rest (dlm (num2 rest))
            rw [decide_eq_true (show (dlm (num2 rest)).length ≤ rest.length ∧ rest.take (dlm (num2 rest)).length = dlm (num2 rest) from ⟨h4, a3⟩)] at hp
            repeat (first | refine n1 ?_ | refine n2 (fun b _ => ?_) | refine n3 (fun _ _ => ?_) | refine n4 ?_ | refine n5 ?_ | refine n6 (hp) ?_ | refine n6v (hp) ?_ | refine WL_nil ?_ | refine W_seq ?_ | refine W_region ?_ | refine n7 ?_ | refine n8 ?_ | refine W_block ?_ | refine W_skip ?_ | refine W_ret ?_ | refine W_exit ?_ | refine WQ_then ?_ | refine WQ_then_ret ?_ | refine WQ_then_exit ?_ | refine WQ_block_normal ?_ | refine WQ_block_ret ?_ | refine WQ_block_exit ?_ | refine n9 ?_)
            repeat (first | refine n1 ?_ | refine n2 (fun b _ => ?_) | refine n3 (fun _ _ => ?_) | refine n4 ?_ | refine n5 ?_ | refine WL_nil ?_ | refine W_seq ?_ | refine W_region ?_ | refine n7 ?_ | refine n8 ?_ | refine W_block ?_ | refine W_skip ?_ | refine W_ret ?_ | refine W_exit ?_ | refine WQ_then ?_ | refine WQ_then_ret ?_ | refine WQ_then_exit ?_ | refine WQ_block_normal ?_ | refine WQ_block_ret ?_ | refine WQ_block_exit ?_ | refine n9 ?_)
            rw [drop_rest]
            ((apply WQ_again (⟨cutV 1 4 rest.length bv, rest.drop 4, o, us, fs, sk + 1⟩)); (focus exact hn); (focus (exact (show (rest.drop 4).length < rest.length by omega))); (focus (repeat (first | exact FrIn.nil _ | (apply FrIn.cons; exact rfl; (first | exact rfl | (congr 1; first | omega | (dsimp only; omega)) | (simp; done)))))); (focus (repeat (first | exact SubO.nil _ | (apply SubO.cons; (focus (repeat' (first | exact Pick.head _ _ | apply Pick.tail))))))); (focus (repeat (first | exact AllE.nil _ | (apply AllE.cons; (focus (first | exact ent_nilBy | exact ent_nilSl | (apply Ent.mem; repeat' (first | exact mcs | apply mct)))))))))
          · repeat (first | refine n1 ?_ | refine n2 (fun b _ => ?_) | refine n3 (fun _ _ => ?_) | refine n4 ?_ | refine n5 ?_ | refine WL_nil ?_ | refine W_seq ?_ | refine W_region ?_ | refine n7 ?_ | refine n8 ?_ | refine W_block ?_ | refine W_skip ?_ | refine W_ret ?_ | refine W_exit ?_ | refine WQ_then ?_ | refine WQ_then_ret ?_ | refine WQ_then_exit ?_ | refine WQ_block_normal ?_ | refine WQ_block_ret ?_ | refine WQ_block_exit ?_ | refine n9 ?_)
            (apply WL_effs; exact rfl; exact rfl; exact rfl; apply E_call; exact rfl; (intro _ _; simp); (exact delimiter_fn (num2 rest) (by omega)); (repeat (first | exact AllE.nil _ | (apply AllE.cons; (focus (first | exact ent_nilBy | exact ent_nilSl | (apply Ent.mem; repeat' (first | exact mcs | apply mct))))))); (intro _; exact rfl); (intro _; exact rfl))
            intro dv _
            have hp := prefix_fn bv dv rest (dlm (num2 rest))
            rw [decide_eq_false (show ¬ ((dlm (num2 rest)).length ≤ rest.length ∧ rest.take (dlm (num2 rest)).length = dlm (num2 rest)) from fun e => a3 e.2)] at hp
            repeat (first | refine n1 ?_ | refine n2 (fun b _ => ?_) | refine n3 (fun _ _ => ?_) | refine n4 ?_ | refine n5 ?_ | refine n6 (hp) ?_ | refine n6v (hp) ?_ | refine WL_nil ?_ | refine W_seq ?_ | refine W_region ?_ | refine n7 ?_ | refine n8 ?_ | refine W_block ?_ | refine W_skip ?_ | refine W_ret ?_ | refine W_exit ?_ | refine WQ_then ?_ | refine WQ_then_ret ?_ | refine WQ_then_exit ?_ | refine WQ_block_normal ?_ | refine WQ_block_ret ?_ | refine WQ_block_exit ?_ | refine n9 ?_)
            repeat (first | refine n1 ?_ | refine n2 (fun b _ => ?_) | refine n3 (fun _ _ => ?_) | refine n4 ?_ | refine n5 ?_ | refine WL_nil ?_ | refine W_seq ?_ | refine W_region ?_ | refine n7 ?_ | refine n8 ?_ | refine W_block ?_ | refine W_skip ?_ | refine W_ret ?_ | refine W_exit ?_ | refine WQ_then ?_ | refine WQ_then_ret ?_ | refine WQ_then_exit ?_ | refine WQ_block_normal ?_ | refine WQ_block_ret ?_ | refine WQ_block_exit ?_ | refine n9 ?_)
            rw [drop_rest]
            ((apply WQ_again (⟨cutV 1 4 rest.length bv, rest.drop 4, o, us, fs, sk + 1⟩)); (focus exact hn); (focus (exact (show (rest.drop 4).length < rest.length by omega))); (focus (repeat (first | exact FrIn.nil _ | (apply FrIn.cons; exact rfl; (first | exact rfl | (congr 1; first | omega | (dsimp only; omega)) | (simp; done)))))); (focus (repeat (first | exact SubO.nil _ | (apply SubO.cons; (focus (repeat' (first | exact Pick.head _ _ | apply Pick.tail))))))); (focus (repeat (first | exact AllE.nil _ | (apply AllE.cons; (focus (first | exact ent_nilBy | exact ent_nilSl | (apply Ent.mem; repeat' (first | exact mcs | apply mct)))))))))
  · have hsc := sc_short (b := rest) (by omega)
    rw [hsc, List.append_nil] at i5
    replace i5 : sc bs = (fs, sk) := i5
    rw [i5]
    repeat (first | refine n1 ?_ | refine n2 (fun b _ => ?_) | refine n3 (fun _ _ => ?_) | refine n4 ?_ | refine n5 ?_ | refine WL_nil ?_ | refine W_seq ?_ | refine W_region ?_ | refine n7 ?_ | refine n8 ?_ | refine W_block ?_ | refine W_skip ?_ | refine W_ret ?_ | refine W_exit ?_ | refine WQ_then ?_ | refine WQ_then_ret ?_ | refine WQ_then_exit ?_ | refine WQ_block_normal ?_ | refine WQ_block_ret ?_ | refine WQ_block_exit ?_ | refine n9 ?_)
    refine WQ_letgo (v := o) (by repeat' (first | exact Pick.head _ _ | apply Pick.tail)) ?_
    refine WQ_ent (ent_slRw1 (v := o) (by (focus (repeat' (first | exact mcs | apply mct))))) ?_
    ((apply ret2 Tryd.results10 ( (o, us))); (focus (first | trivial | assumption | omega)); (focus (first | exact RV_tmp rfl | (apply RV_cellN; exact rfl; (repeat' (first | exact Pick.head _ _ | apply Pick.tail)); (intro _; exact rfl); (intro _; exact rfl); exact rfl) | (apply RV_cell1; exact rfl; (repeat' (first | exact Pick.head _ _ | apply Pick.tail)); (intro _; exact rfl); exact rfl))); (focus (first | exact RV_tmp rfl | (apply RV_cellN; exact rfl; (repeat' (first | exact Pick.head _ _ | apply Pick.tail)); (intro _; exact rfl); (intro _; exact rfl); exact rfl) | (apply RV_cell1; exact rfl; (repeat' (first | exact Pick.head _ _ | apply Pick.tail)); (intro _; exact rfl); exact rfl)));  (focus (first | exact rfl | (simp; done))); (focus (repeat (first | exact SubO.nil _ | (apply SubO.cons; (focus (repeat' (first | exact Pick.head _ _ | apply Pick.tail))))))); (focus (repeat (first | exact AllE.nil _ | (apply AllE.cons; (focus (first | exact ent_nilBy | exact ent_nilSl | (apply Ent.mem; repeat' (first | exact mcs | apply mct)))))))))

theorem getD_drop0 (xs : List UInt8) (p i : Nat) : xs.getD (p + i) 0 = (xs.drop p).getD i 0 := by
  rw [List.getD_eq_getElem?_getD, List.getD_eq_getElem?_getD, List.getElem?_drop]
theorem num2_at (xs : List UInt8) (p : Nat) : (xs.getD p 0).toNat + 256 * (xs.getD (p + 1) 0).toNat = num2 (xs.drop p) := by
  have h := getD_drop0 xs p 0
  rw [Nat.add_zero] at h
  rw [h, getD_drop0 xs p 1]
  rfl

def stV (fs : List (List UInt8)) (n : Nat) : List Value := (List.range n).map fun k => .int .i64 (st fs k : Int)
theorem stV_succ (fs : List (List UInt8)) (n : Nat) : stV fs n ++ [.int .i64 (st fs n : Int)] = stV fs (n + 1) := by simp [stV, List.range_succ]
theorem stV_get (fs : List (List UInt8)) {n k : Nat} (h : k < n) : (stV fs n)[k]? = some (.int .i64 (st fs k : Int)) := by
  rw [stV, List.getElem?_map, List.getElem?_range h]; rfl
theorem st_mono (fs : List (List UInt8)) (hf : okL fs) : ∀ k, k ≤ fs.length → st fs k ≤ 2407 * k := fun k hk => by
  induction k with
  | zero => cases fs <;> simp [st]
  | succ k ih =>
    have h1 := ih (by omega)
    rw [st_succ fs k hk]
    have h2 := hf (fs.getD k []) (by rw [List.getD_eq_getElem?_getD, List.getElem?_eq_getElem hk]; exact List.getElem_mem hk)
    have h3 := pad4_lt (fs.getD k []).length
    have := h2.2
    omega

set_option maxRecDepth 100000 in
set_option maxHeartbeats 4000000 in
theorem starts_fn (v : Value) (fs : List (List UInt8)) (vs : Nat → Value) (hf : okL fs) (hl : fs.length ≤ 64) : Ct Tryd.prog 8 [v] [] [Rw 1 v fs.length (fun i => [vs i]), Al fs.length (fun i => By (vs i) (fs.getD i []))]
    (X := Value) (fun _ => True) (fun x => x) (fun x => [.row x 3 1 fs.length (stV fs fs.length)]) (fun _ => []) := by
  refine Ct_intro Tryd.func8 rfl Tryd.ntmps8 (by simp) _ rfl (fun w0 O0 => ?_)
  repeat (first | refine n1 ?_ | refine n2 (fun b _ => ?_) | refine n3 (fun _ _ => ?_) | refine n4 ?_ | refine n5 ?_ | refine WL_nil ?_ | refine W_seq ?_ | refine W_region ?_ | refine n7 ?_ | refine n8 ?_ | refine W_block ?_ | refine W_skip ?_ | refine W_ret ?_ | refine W_exit ?_ | refine WQ_then ?_ | refine WQ_then_ret ?_ | refine WQ_then_exit ?_ | refine WQ_block_normal ?_ | refine WQ_block_ret ?_ | refine WQ_block_exit ?_ | refine n9 ?_)
  apply W_nilRow 3 1
  have e0 : 0 = st fs 0 := by cases fs <;> rfl
  ((apply W_loopK (X := Nat × Value × Nat) [3, 4, 5] [0] (fun x => x.1 ≤ fs.length ∧ x.2.2 = st fs x.1) (fun x => [(3, x.2.1), (4, .int .i64 (x.2.2 : Int)), (5, .int .i64 (x.1 : Int))]) (fun x => [.row x.2.1 3 1 x.1 (stV fs x.1)]) (fun _ => []) (fun x => fs.length - x.1) ((0, .slice none 0 0, 0))); (focus exact ⟨Nat.zero_le _, e0⟩); exact rfl; exact rfl; (intro _; exact rfl); (intro _; exact rfl); (intro _; exact rfl); (focus (repeat (first | exact FrIn.nil _ | (apply FrIn.cons; exact rfl; (first | exact rfl | (congr 1; first | omega | (dsimp only; omega)) | (simp; done)))))); (focus (repeat (first | exact SubO.nil _ | (apply SubO.cons; (focus (repeat' (first | exact Pick.head _ _ | apply Pick.tail))))))); (focus (repeat (first | exact AllE.nil _ | (apply AllE.cons; (focus (first | exact ent_nilBy | exact ent_nilSl | (apply Ent.mem; repeat' (first | exact mcs | apply mct)))))))); intro x hx)
  obtain ⟨x, o, sx⟩ := x
  obtain ⟨hx, hsx⟩ := hx
  replace hx : x ≤ fs.length := hx
  replace hsx : sx = st fs x := hsx
  subst hsx
  dsimp only
  have hst := st_mono fs hf x hx
  by_cases c1 : x < fs.length
  · refine W_ent (ent_al (i := x) (ψ := fun i => By (vs i) (fs.getD i [])) (by (focus (repeat' (first | exact mcs | apply mct)))) c1) ?_
    have hfb := hf (fs.getD x []) (by rw [List.getD_eq_getElem?_getD, List.getElem?_eq_getElem c1]; exact List.getElem_mem c1)
    have hfb2 := hfb.2
    have hpl := pad4_lt (fs.getD x []).length
    have hss := st_succ fs x c1
    have hpd := padding_fn
    repeat (first | refine n1 ?_ | refine n2 (fun b _ => ?_) | refine n3 (fun _ _ => ?_) | refine n4 ?_ | refine n5 ?_ | refine WL_nil ?_ | refine W_seq ?_ | refine W_region ?_ | refine n7 ?_ | refine n8 ?_ | refine W_block ?_ | refine W_skip ?_ | refine W_ret ?_ | refine W_exit ?_ | refine WQ_then ?_ | refine WQ_then_ret ?_ | refine WQ_then_exit ?_ | refine WQ_block_normal ?_ | refine WQ_block_ret ?_ | refine WQ_block_exit ?_ | refine n9 ?_)
    (apply WL_effs; exact rfl; exact rfl; exact rfl; (apply E_buildSlice; exact rfl; (focus (repeat (first | apply SeqE.nil | (apply SeqE.cons; exact rfl; (focus (first | (apply CellsE.lit; exact rfl) | (apply CellsE.one; (first | (apply OneC.lit; exact rfl) | (apply OneC.by_; (repeat' (first | exact mcs | apply mct)); done) | (apply OneC.sl; (repeat' (first | exact mcs | apply mct)); done) | (apply OneC.rw; (repeat' (first | exact mcs | apply mct)); done) | (apply OneC.row; (repeat' (first | exact Pick.head _ _ | apply Pick.tail))))))); exact rfl) | exact rfl))); exact rfl; (first | (intro _; exact (rfl : _ = Result.ok 1 _)) | (intro _; exact (rfl : _ = Result.ok 2 _)) | (intro _; exact (rfl : _ = Result.ok 3 _)) | (intro _; exact (rfl : _ = Result.ok 4 _)) | (intro _; exact (rfl : _ = Result.ok 5 _)) | (intro _; exact (rfl : _ = Result.ok 6 _)) | (intro _; exact (rfl : _ = Result.ok 7 _)) | (intro _; exact (rfl : _ = Result.ok 8 _)) | (intro _; exact (rfl : _ = Result.ok 9 _)) | (intro _; exact (rfl : _ = Result.ok 13 _)) | (intro _; exact (rfl : _ = Result.ok 14 _)) | (intro _; exact (rfl : _ = Result.ok 26 _)) | (intro _; exact (rfl : _ = Result.ok 40 _)) | (intro _; exact (rfl : _ = Result.ok 41 _)) | (intro _; exact (rfl : _ = Result.ok 42 _)) | (intro _; exact (rfl : _ = Result.ok 43 _)) | (intro _; exact (rfl : _ = Result.ok 44 _)) | (intro _; exact (rfl : _ = Result.ok 45 _)) | (intro _; exact (rfl : _ = Result.ok 46 _))); (intro _; exact rfl); exact rfl; exact Nat.le_of_ble_eq_true rfl; exact Nat.le_of_ble_eq_true rfl); skip)
    intro q _
    refine WL_effs rfl rfl rfl (E_appendRowO (nm := x + 1) (all := stV fs (x + 1)) rfl rfl (by repeat' (first | exact Pick.head _ _ | apply Pick.tail)) (by repeat' (first | exact Pick.head _ _ | apply Pick.tail)) rfl rfl rfl rfl rfl (Nat.le_of_ble_eq_true rfl) (Ones.lits (fun u hu => by rw [List.mem_singleton.1 hu]; rfl)) (Nat.le_of_ble_eq_true rfl) (by omega) rfl (stV_succ fs x)) ?_
    intro o2 _
    repeat (first | refine n1 ?_ | refine n2 (fun b _ => ?_) | refine n3 (fun _ _ => ?_) | refine n4 ?_ | refine n5 ?_ | refine WL_nil ?_ | refine W_seq ?_ | refine W_region ?_ | refine n7 ?_ | refine n8 ?_ | refine W_block ?_ | refine W_skip ?_ | refine W_ret ?_ | refine W_exit ?_ | refine WQ_then ?_ | refine WQ_then_ret ?_ | refine WQ_then_exit ?_ | refine WQ_block_normal ?_ | refine WQ_block_ret ?_ | refine WQ_block_exit ?_ | refine n9 ?_)
    (refine W_regionP' [] [] [0, 1, 2, 3, 4, 5, 6, 7, 8, 9, 10, 11, 12, 13, 14, 15] [] (by kernel_rfl) (by kernel_rfl) (by repeat (first | exact UZ.nil _ _ | (apply UZ.cons; exact rfl; (intro _; exact rfl)))) (by exact rfl) (by (repeat (first | exact SubO.nil _ | (apply SubO.cons; (focus (repeat' (first | exact Pick.head _ _ | apply Pick.tail))))))) ?_)
    repeat (first | refine p1 ?_ | refine p2 (fun b _ => ?_) | refine p3 (fun _ _ => ?_) | refine p4 ?_ | refine p5 ?_ | refine p6 (rpadding_fn (fs.getD x []).length (by omega)) ?_ | refine p6v (rpadding_fn (fs.getD x []).length (by omega)) ?_ | refine p7 (fun b => ?_) | refine PL_nil ?_)
    repeat (first | refine n1 ?_ | refine n2 (fun b _ => ?_) | refine n3 (fun _ _ => ?_) | refine n4 ?_ | refine n5 ?_ | refine WL_nil ?_ | refine W_seq ?_ | refine W_region ?_ | refine n7 ?_ | refine n8 ?_ | refine W_block ?_ | refine W_skip ?_ | refine W_ret ?_ | refine W_exit ?_ | refine WQ_then ?_ | refine WQ_then_ret ?_ | refine WQ_then_exit ?_ | refine WQ_block_normal ?_ | refine WQ_block_ret ?_ | refine WQ_block_exit ?_ | refine n9 ?_)
    ((apply WQ_again ((x + 1, o2, st fs (x + 1)))); (focus exact ⟨c1, rfl⟩); (focus (exact (show fs.length - (x + 1) < fs.length - x by omega))); (focus (repeat (first | exact FrIn.nil _ | (apply FrIn.cons; exact rfl; (first | exact rfl | (congr 1; first | omega | (dsimp only; omega)) | (simp; done)))))); (focus (repeat (first | exact SubO.nil _ | (apply SubO.cons; (focus (repeat' (first | exact Pick.head _ _ | apply Pick.tail))))))); (focus (repeat (first | exact AllE.nil _ | (apply AllE.cons; (focus (first | exact ent_nilBy | exact ent_nilSl | (apply Ent.mem; repeat' (first | exact mcs | apply mct)))))))))
  · obtain rfl : x = fs.length := by omega
    repeat (first | refine n1 ?_ | refine n2 (fun b _ => ?_) | refine n3 (fun _ _ => ?_) | refine n4 ?_ | refine n5 ?_ | refine WL_nil ?_ | refine W_seq ?_ | refine W_region ?_ | refine n7 ?_ | refine n8 ?_ | refine W_block ?_ | refine W_skip ?_ | refine W_ret ?_ | refine W_exit ?_ | refine WQ_then ?_ | refine WQ_then_ret ?_ | refine WQ_then_exit ?_ | refine WQ_block_normal ?_ | refine WQ_block_ret ?_ | refine WQ_block_exit ?_ | refine n9 ?_)
    ((apply ret1 Tryd.results8 ( o)); (focus (first | trivial | assumption | omega)); (focus (first | exact RV_tmp rfl | (apply RV_cellN; exact rfl; (repeat' (first | exact Pick.head _ _ | apply Pick.tail)); (intro _; exact rfl); (intro _; exact rfl); exact rfl) | (apply RV_cell1; exact rfl; (repeat' (first | exact Pick.head _ _ | apply Pick.tail)); (intro _; exact rfl); exact rfl)));  (focus (first | exact rfl | (simp; done))); (focus (repeat (first | exact SubO.nil _ | (apply SubO.cons; (focus (repeat' (first | exact Pick.head _ _ | apply Pick.tail))))))); (focus (repeat (first | exact AllE.nil _ | (apply AllE.cons; (focus (first | exact ent_nilBy | exact ent_nilSl | (apply Ent.mem; repeat' (first | exact mcs | apply mct)))))))))

end Go.Proofs.YteojehocflbgdaaDoor.C08

/-
  Packets packed: 'write' at packets, 'Pack'; the chapter's examples.
-/
namespace Go.Proofs.YteojehocflbgdaaDoor.C01
end Go.Proofs.YteojehocflbgdaaDoor.C01
namespace Go.Proofs.YteojehocflbgdaaDoor.C03
end Go.Proofs.YteojehocflbgdaaDoor.C03
namespace Go.Proofs.YteojehocflbgdaaDoor.C08
open C01 C03
open Go Go.RowKit Go.Hs

structure PK where
  to_ : A6
  fr_ : A6
  dv : Value
  data : List UInt8
def pk0 : PK := ⟨zA6, zA6, .slice none 0 0, []⟩
@[reducible] def PK.cells (p : PK) : List Value := [bcell p.to_.a0, bcell p.to_.a1, bcell p.to_.a2, bcell p.to_.a3, bcell p.to_.a4, bcell p.to_.a5, bcell p.fr_.a0, bcell p.fr_.a1, bcell p.fr_.a2, bcell p.fr_.a3, bcell p.fr_.a4, bcell p.fr_.a5, p.dv]
@[reducible] def PK.val (p : PK) : Value := .agg #[bcell p.to_.a0, bcell p.to_.a1, bcell p.to_.a2, bcell p.to_.a3, bcell p.to_.a4, bcell p.to_.a5, bcell p.fr_.a0, bcell p.fr_.a1, bcell p.fr_.a2, bcell p.fr_.a3, bcell p.fr_.a4, bcell p.fr_.a5, p.dv]
def grp (b : UInt8) : Bool := decide (b.toNat % 2 = 1)
def entk (p : PK) : List UInt8 := p.to_.bytes ++ (p.fr_.bytes ++ (dl2 p.data.length ++ p.data))
theorem entk_length (p : PK) : (entk p).length = 14 + p.data.length := by simp [entk, A6.bytes, dl2]; omega
def okK (p : PK) : Prop := grp p.fr_.a0 = false ∧ p.data.length ≤ 1500
def jk (l : List PK) : List UInt8 := jg (l.map entk)
def K1 (out : List UInt8) (p : PK) : List UInt8 × Int := if grp p.fr_.a0 then ([], 8) else if 1500 < p.data.length then ([], 11) else (out ++ entk p, 0)
def okKL (l : List PK) : Prop := ∀ p ∈ l, okK p
def pckE : List PK → Int
  | [] => 0
  | p :: r => if grp p.fr_.a0 then 8 else if 1500 < p.data.length then 11 else pckE r
theorem K1_err (out : List UInt8) (p : PK) : (K1 out p).2 = (K1 [] p).2 := by unfold K1; split; rfl; split <;> rfl
theorem K1_ok {out : List UInt8} {p : PK} (h : (K1 out p).2 = 0) : okK p ∧ (K1 out p).1 = out ++ entk p := by
  unfold K1 at h ⊢
  split at h
  · cases h
  · next h1 =>
    split at h
    · cases h
    · next h2 => rw [if_neg h1, if_neg h2]; exact ⟨⟨by simpa using h1, by omega⟩, rfl⟩
theorem pckE_ok : ∀ {l : List PK}, pckE l = 0 ↔ okKL l
  | [] => ⟨fun _ _ h => (by cases h), fun _ => rfl⟩
  | p :: r => by
    unfold pckE
    constructor
    · intro h
      split at h
      · cases h
      · next h1 =>
        split at h
        · cases h
        · next h2 =>
          intro q hq
          rcases List.mem_cons.1 hq with rfl | hq
          · exact ⟨by simpa using h1, by omega⟩
          · exact pckE_ok.1 h q hq
    · intro h
      have h0 := h p List.mem_cons_self
      rw [if_neg (by rw [h0.1]; decide), if_neg (by have := h0.2; omega)]
      exact pckE_ok.2 fun q hq => h q (List.mem_cons_of_mem _ hq)
theorem pckE_at : ∀ {fs : List PK} {x : Nat}, okKL (fs.take x) → x < fs.length → (K1 [] (fs.getD x pk0)).2 ≠ 0 → pckE fs = (K1 [] (fs.getD x pk0)).2
  | [], _, _, h, _ => absurd h (by simp)
  | p :: r, 0, _, _, h => by
    simp only [K1, List.getD_cons_zero] at h ⊢
    unfold pckE
    split
    · rfl
    · next h1 =>
      rw [if_neg h1] at h
      split
      · rfl
      · next h2 => rw [if_neg h2] at h; exact absurd rfl h
  | p :: r, x + 1, hok, hx, h => by
    have h0 := hok p (by simp)
    have ih := pckE_at (fs := r) (x := x) (fun q hq => hok q (by simp [hq])) (by simpa using hx) (by simpa using h)
    unfold pckE
    rw [if_neg (by rw [h0.1]; decide), if_neg (by have := h0.2; omega), ih]
    rfl
theorem okK_snoc {fs : List PK} {x : Nat} (h : x < fs.length) (hk : okKL (fs.take x)) (hp : okK (fs.getD x pk0)) : okKL (fs.take (x + 1)) := by
  intro p hp'
  rw [List.take_succ_eq_append_getElem h, List.mem_append] at hp'
  rcases hp' with hp' | hp'
  · exact hk p hp'
  · rw [List.mem_singleton] at hp'
    subst hp'
    rw [List.getD_eq_getElem?_getD, List.getElem?_eq_getElem h] at hp
    exact hp
theorem jk_snoc {fs : List PK} {x : Nat} (h : x < fs.length) : jk (fs.take (x + 1)) = jk (fs.take x) ++ zer (pad4 (jk (fs.take x)).length) ++ entk (fs.getD x pk0) := by
  unfold jk
  rw [List.take_succ_eq_append_getElem h, List.map_append, List.map_cons, List.map_nil, jg_snoc, List.getD_eq_getElem?_getD, List.getElem?_eq_getElem h]
  rfl
theorem jk_le : ∀ {l : List PK}, okKL l → (jk l).length ≤ 1517 * l.length
  | [], _ => Nat.zero_le _
  | p :: r, h => by
    have h0 := (h p List.mem_cons_self).2
    have h1 := jk_le (l := r) fun q hq => h q (List.mem_cons_of_mem _ hq)
    have h2 := pad4_lt (14 + p.data.length)
    unfold jk at h1 ⊢
    rw [List.map_cons, jg, List.length_append, entk_length]
    split
    · simp only [List.length_nil, List.length_cons]; omega
    · simp only [List.length_append, zer_length, List.length_cons]; omega
def jkE (l : List PK) : List UInt8 × Int :=
  if l.length = 0 then ([], 6) else if 32 < l.length then ([], 4) else if pckE l = 0 then (if 2304 < (jk l).length then ([], 11) else (jk l, 0)) else ([], pckE l)
theorem byte_and1 (b : UInt8) : bits .and .u8 (b.toNat : Int) 1 = ((b.toNat % 2 : Nat) : Int) := by
  have h := u8_and_nat b.toNat 1 b.toNat_lt (by decide)
  rw [Nat.and_one_is_mod] at h
  exact h

section
variable {C : Ctx} {fr : Fr} {Γ Γ' Γ1 : List OA} {Φ : List SP}
/-- a list of byte strings that is made, told as lasting at once. -/
theorem Effs.letL {o : Oper} {X : Type} {pf : X → Prop} {vx : X → Value} {G : X → List OA} {H : X → List SP} {v : X → Value} {et : TypeId} {n : Nat} {vs : List Value} {fs : List (List UInt8)} (hn : n = fs.length)
    (h : Effs C fr Γ Φ o pf vx (fun x => .row (v x) et 1 n vs :: G x) H) (hb : ∀ x, ByL (H x) vs fs) : Effs C fr Γ Φ o pf vx G (fun x => Rw 1 (v x) fs.length (fun i => [vs.getD i undef]) :: Al fs.length (fun i => By (vs.getD i undef) (fs.getD i [])) :: H x) := by
  subst hn
  refine ⟨fun x ψ hψ => List.mem_cons_of_mem _ (List.mem_cons_of_mem _ (h.1 x ψ hψ)), fun R a w ha hw => (h.2 R a w ha hw).mono fun v' w' ⟨x, hp, hv, hw'⟩ => ⟨x, hp, hv, ?_⟩⟩
  have h1 : Holds C (G x ++ R) (Sl 1 (v x) fs.length vs :: H x) w' := Holds.letgo hw'
  refine ⟨h1.mod, h1.own, h1.ofp, h1.o0, fun ψ hψ => ?_⟩
  rcases List.mem_cons.1 hψ with rfl | hψ
  · exact (h1.ent (ent_slRw1 List.mem_cons_self)).sp _ List.mem_cons_self
  · rcases List.mem_cons.1 hψ with rfl | hψ
    · exact fun i hi => h1.sp _ (List.mem_cons_of_mem _ (byL_get (hb x) i hi))
    · exact h1.sp ψ (List.mem_cons_of_mem _ hψ)
end
attribute [local irreducible] WL W WQ PL Runs Effs AllE Ent SubO FrIn Pick OneC Ones CellsE PartsE SeqE UZ By Sl Pt Ct

set_option maxRecDepth 100000 in
theorem group_fn (a : A6) : CtD Tryd.prog 38 [.agg #[bcell a.a0, bcell a.a1, bcell a.a2, bcell a.a3, bcell a.a4, bcell a.a5]] [] (.bool (grp a.a0)) := by
  by_cases h : a.a0.toNat % 2 = 1
  · rw [grp, decide_eq_true h]
    refine Ct_intro Tryd.func38 rfl Tryd.ntmps38 (by simp) _ rfl (fun w0 O0 => ?_)
    repeat (first | refine n1 ?_ | refine n2 (fun b _ => ?_) | refine n3 (fun _ _ => ?_) | refine n4 ?_ | refine n5 ?_ | refine WL_nil ?_ | refine W_seq ?_ | refine W_region ?_ | refine n7 ?_ | refine n8 ?_ | refine W_block ?_ | refine W_skip ?_ | refine W_ret ?_ | refine W_exit ?_ | refine WQ_then ?_ | refine WQ_then_ret ?_ | refine WQ_then_exit ?_ | refine WQ_block_normal ?_ | refine WQ_block_ret ?_ | refine WQ_block_exit ?_ | refine n9 ?_)
    refine WL_runs rfl rfl rfl (R_and rfl rfl (byte_and1 _)) ?_
    repeat (first | refine n1 ?_ | refine n2 (fun b _ => ?_) | refine n3 (fun _ _ => ?_) | refine n4 ?_ | refine n5 ?_ | refine WL_nil ?_ | refine W_seq ?_ | refine W_region ?_ | refine n7 ?_ | refine n8 ?_ | refine W_block ?_ | refine W_skip ?_ | refine W_ret ?_ | refine W_exit ?_ | refine WQ_then ?_ | refine WQ_then_ret ?_ | refine WQ_then_exit ?_ | refine WQ_block_normal ?_ | refine WQ_block_ret ?_ | refine WQ_block_exit ?_ | refine n9 ?_)
    ((apply ret1 Tryd.results38 ( ())); (focus (first | trivial | assumption | omega)); (focus (first | exact RV_tmp rfl | (apply RV_cellN; exact rfl; (repeat' (first | exact Pick.head _ _ | apply Pick.tail)); (intro _; exact rfl); (intro _; exact rfl); exact rfl) | (apply RV_cell1; exact rfl; (repeat' (first | exact Pick.head _ _ | apply Pick.tail)); (intro _; exact rfl); exact rfl)));  (focus (first | exact rfl | (simp; done))); (focus (repeat (first | exact SubO.nil _ | (apply SubO.cons; (focus (repeat' (first | exact Pick.head _ _ | apply Pick.tail))))))); (focus (repeat (first | exact AllE.nil _ | (apply AllE.cons; (focus (first | exact ent_nilBy | exact ent_nilSl | (apply Ent.mem; repeat' (first | exact mcs | apply mct)))))))))
  · rw [grp, decide_eq_false h]
    refine Ct_intro Tryd.func38 rfl Tryd.ntmps38 (by simp) _ rfl (fun w0 O0 => ?_)
    repeat (first | refine n1 ?_ | refine n2 (fun b _ => ?_) | refine n3 (fun _ _ => ?_) | refine n4 ?_ | refine n5 ?_ | refine WL_nil ?_ | refine W_seq ?_ | refine W_region ?_ | refine n7 ?_ | refine n8 ?_ | refine W_block ?_ | refine W_skip ?_ | refine W_ret ?_ | refine W_exit ?_ | refine WQ_then ?_ | refine WQ_then_ret ?_ | refine WQ_then_exit ?_ | refine WQ_block_normal ?_ | refine WQ_block_ret ?_ | refine WQ_block_exit ?_ | refine n9 ?_)
    refine WL_runs rfl rfl rfl (R_and rfl rfl (byte_and1 _)) ?_
    repeat (first | refine n1 ?_ | refine n2 (fun b _ => ?_) | refine n3 (fun _ _ => ?_) | refine n4 ?_ | refine n5 ?_ | refine WL_nil ?_ | refine W_seq ?_ | refine W_region ?_ | refine n7 ?_ | refine n8 ?_ | refine W_block ?_ | refine W_skip ?_ | refine W_ret ?_ | refine W_exit ?_ | refine WQ_then ?_ | refine WQ_then_ret ?_ | refine WQ_then_exit ?_ | refine WQ_block_normal ?_ | refine WQ_block_ret ?_ | refine WQ_block_exit ?_ | refine n9 ?_)
    ((apply ret1 Tryd.results38 ( ())); (focus (first | trivial | assumption | omega)); (focus (first | exact RV_tmp rfl | (apply RV_cellN; exact rfl; (repeat' (first | exact Pick.head _ _ | apply Pick.tail)); (intro _; exact rfl); (intro _; exact rfl); exact rfl) | (apply RV_cell1; exact rfl; (repeat' (first | exact Pick.head _ _ | apply Pick.tail)); (intro _; exact rfl); exact rfl)));  (focus (first | exact rfl | (simp; done))); (focus (repeat (first | exact SubO.nil _ | (apply SubO.cons; (focus (repeat' (first | exact Pick.head _ _ | apply Pick.tail))))))); (focus (repeat (first | exact AllE.nil _ | (apply AllE.cons; (focus (first | exact ent_nilBy | exact ent_nilSl | (apply Ent.mem; repeat' (first | exact mcs | apply mct)))))))))

set_option maxRecDepth 100000 in
set_option maxHeartbeats 4000000 in
theorem pack1_fn (ov : Value) (out : List UInt8) (p : PK) (ho : out.length ≤ 10000000) : Ct Tryd.prog 37 [ov, p.val] [] [By ov out, By p.dv p.data]
    (X := Value) (fun _ => True) (fun x => .tuple #[x, .int .i64 (K1 out p).2]) (fun x => [.row x 5 1 (K1 out p).1.length ((K1 out p).1.map bcell)]) (fun _ => []) := by
  cases h0 : grp p.fr_.a0 with
  | true =>
    have hg := group_fn p.fr_
    rw [h0] at hg
    rw [show K1 out p = ([], 8) by unfold K1; rw [if_pos h0]]
    refine Ct_intro Tryd.func37 rfl Tryd.ntmps37 (by simp) _ rfl (fun w0 O0 => ?_)
    repeat (first | refine n1 ?_ | refine n2 (fun b _ => ?_) | refine n3 (fun _ _ => ?_) | refine n4 ?_ | refine n5 ?_ | refine n6 (hg) ?_ | refine n6v (hg) ?_ | refine WL_nil ?_ | refine W_seq ?_ | refine W_region ?_ | refine n7 ?_ | refine n8 ?_ | refine W_block ?_ | refine W_skip ?_ | refine W_ret ?_ | refine W_exit ?_ | refine WQ_then ?_ | refine WQ_then_ret ?_ | refine WQ_then_exit ?_ | refine WQ_block_normal ?_ | refine WQ_block_ret ?_ | refine WQ_block_exit ?_ | refine n9 ?_)
    apply WQ_nilRow 5 1
    ((apply ret2 Tryd.results37 ( Value.slice none 0 0)); (focus (first | trivial | assumption | omega)); (focus (first | exact RV_tmp rfl | (apply RV_cellN; exact rfl; (repeat' (first | exact Pick.head _ _ | apply Pick.tail)); (intro _; exact rfl); (intro _; exact rfl); exact rfl) | (apply RV_cell1; exact rfl; (repeat' (first | exact Pick.head _ _ | apply Pick.tail)); (intro _; exact rfl); exact rfl))); (focus (first | exact RV_tmp rfl | (apply RV_cellN; exact rfl; (repeat' (first | exact Pick.head _ _ | apply Pick.tail)); (intro _; exact rfl); (intro _; exact rfl); exact rfl) | (apply RV_cell1; exact rfl; (repeat' (first | exact Pick.head _ _ | apply Pick.tail)); (intro _; exact rfl); exact rfl)));  (focus (first | exact rfl | (simp; done))); (focus (repeat (first | exact SubO.nil _ | (apply SubO.cons; (focus (repeat' (first | exact Pick.head _ _ | apply Pick.tail))))))); (focus (repeat (first | exact AllE.nil _ | (apply AllE.cons; (focus (first | exact ent_nilBy | exact ent_nilSl | (apply Ent.mem; repeat' (first | exact mcs | apply mct)))))))))
  | false =>
    have hg := group_fn p.fr_
    rw [h0] at hg
    by_cases h1 : 1500 < p.data.length
    · rw [show K1 out p = ([], 11) by unfold K1; rw [if_neg (by rw [h0]; decide), if_pos h1]]
      refine Ct_intro Tryd.func37 rfl Tryd.ntmps37 (by simp) _ rfl (fun w0 O0 => ?_)
      repeat (first | refine n1 ?_ | refine n2 (fun b _ => ?_) | refine n3 (fun _ _ => ?_) | refine n4 ?_ | refine n5 ?_ | refine n6 (hg) ?_ | refine n6v (hg) ?_ | refine WL_nil ?_ | refine W_seq ?_ | refine W_region ?_ | refine n7 ?_ | refine n8 ?_ | refine W_block ?_ | refine W_skip ?_ | refine W_ret ?_ | refine W_exit ?_ | refine WQ_then ?_ | refine WQ_then_ret ?_ | refine WQ_then_exit ?_ | refine WQ_block_normal ?_ | refine WQ_block_ret ?_ | refine WQ_block_exit ?_ | refine n9 ?_)
      apply WQ_nilRow 5 1
      ((apply ret2 Tryd.results37 ( Value.slice none 0 0)); (focus (first | trivial | assumption | omega)); (focus (first | exact RV_tmp rfl | (apply RV_cellN; exact rfl; (repeat' (first | exact Pick.head _ _ | apply Pick.tail)); (intro _; exact rfl); (intro _; exact rfl); exact rfl) | (apply RV_cell1; exact rfl; (repeat' (first | exact Pick.head _ _ | apply Pick.tail)); (intro _; exact rfl); exact rfl))); (focus (first | exact RV_tmp rfl | (apply RV_cellN; exact rfl; (repeat' (first | exact Pick.head _ _ | apply Pick.tail)); (intro _; exact rfl); (intro _; exact rfl); exact rfl) | (apply RV_cell1; exact rfl; (repeat' (first | exact Pick.head _ _ | apply Pick.tail)); (intro _; exact rfl); exact rfl)));  (focus (first | exact rfl | (simp; done))); (focus (repeat (first | exact SubO.nil _ | (apply SubO.cons; (focus (repeat' (first | exact Pick.head _ _ | apply Pick.tail))))))); (focus (repeat (first | exact AllE.nil _ | (apply AllE.cons; (focus (first | exact ent_nilBy | exact ent_nilSl | (apply Ent.mem; repeat' (first | exact mcs | apply mct)))))))))
    · rw [show K1 out p = (out ++ entk p, 0) by unfold K1; rw [if_neg (by rw [h0]; decide), if_neg h1]]
      refine Ct_intro Tryd.func37 rfl Tryd.ntmps37 (by simp) _ rfl (fun w0 O0 => ?_)
      (first | refine n1 ?_ | refine n2 (fun b _ => ?_) | refine n3 (fun _ _ => ?_) | refine n4 ?_ | refine n5 ?_ | refine WL_nil ?_ | refine W_seq ?_ | refine W_region ?_ | refine n7 ?_ | refine n8 ?_ | refine W_block ?_ | refine W_skip ?_ | refine W_ret ?_ | refine W_exit ?_ | refine WQ_then ?_ | refine WQ_then_ret ?_ | refine WQ_then_exit ?_ | refine WQ_block_normal ?_ | refine WQ_block_ret ?_ | refine WQ_block_exit ?_ | refine n9 ?_)
      (first | refine n1 ?_ | refine n2 (fun b _ => ?_) | refine n3 (fun _ _ => ?_) | refine n4 ?_ | refine n5 ?_ | refine WL_nil ?_ | refine W_seq ?_ | refine W_region ?_ | refine n7 ?_ | refine n8 ?_ | refine W_block ?_ | refine W_skip ?_ | refine W_ret ?_ | refine W_exit ?_ | refine WQ_then ?_ | refine WQ_then_ret ?_ | refine WQ_then_exit ?_ | refine WQ_block_normal ?_ | refine WQ_block_ret ?_ | refine WQ_block_exit ?_ | refine n9 ?_)
      (first | refine n1 ?_ | refine n2 (fun b _ => ?_) | refine n3 (fun _ _ => ?_) | refine n4 ?_ | refine n5 ?_ | refine WL_nil ?_ | refine W_seq ?_ | refine W_region ?_ | refine n7 ?_ | refine n8 ?_ | refine W_block ?_ | refine W_skip ?_ | refine W_ret ?_ | refine W_exit ?_ | refine WQ_then ?_ | refine WQ_then_ret ?_ | refine WQ_then_exit ?_ | refine WQ_block_normal ?_ | refine WQ_block_ret ?_ | refine WQ_block_exit ?_ | refine n9 ?_)
      obtain ⟨b3, rfl⟩ : ∃ b3, b3 = b := ⟨b, rfl⟩
      repeat (first | refine n1 ?_ | refine n2 (fun b _ => ?_) | refine n3 (fun _ _ => ?_) | refine n4 ?_ | refine n5 ?_ | refine n6 (hg) ?_ | refine n6v (hg) ?_ | refine WL_nil ?_ | refine W_seq ?_ | refine W_region ?_ | refine n7 ?_ | refine n8 ?_ | refine W_block ?_ | refine W_skip ?_ | refine W_ret ?_ | refine W_exit ?_ | refine WQ_then ?_ | refine WQ_then_ret ?_ | refine WQ_then_exit ?_ | refine WQ_block_normal ?_ | refine WQ_block_ret ?_ | refine WQ_block_exit ?_ | refine n9 ?_)
      refine W_letgoK (b := b3) (by repeat' (first | exact Pick.head _ _ | apply Pick.tail)) ?_
      refine W_ent (ent_ptBy (b := b3) (off := 0) (n := 6) (xs := p.cells) (bs := p.to_.bytes) (by repeat' (first | exact mcs | apply mct)) rfl rfl (by decide) (by decide)) ?_
      refine W_ent (ψ := Pt (.pointer (some ⟨b3, 6, none⟩)) (p.cells.drop 6)) (ent_fld (p := .pointer (some ⟨b3, 0, none⟩)) (us := p.cells) (off := 6) (by repeat' (first | exact mcs | apply mct))) ?_
      refine W_ent (ent_ptBy (b := b3) (off := 6) (n := 6) (xs := p.cells.drop 6) (bs := p.fr_.bytes) (by repeat' (first | exact mcs | apply mct)) rfl rfl (by decide) (by decide)) ?_
      refine W_ent (ψ := Pt (.pointer (some ⟨b3, 12, none⟩)) (p.cells.drop 12)) (ent_fld (p := .pointer (some ⟨b3, 0, none⟩)) (us := p.cells) (off := 12) (by repeat' (first | exact mcs | apply mct))) ?_
      (refine W_regionP' [10, 13, 14] [] [0, 1, 2, 3, 4, 5, 6, 7, 8, 9, 11, 12, 10, 13, 14, 15, 16] [] (by kernel_rfl) (by kernel_rfl) (by repeat (first | exact UZ.nil _ _ | (apply UZ.cons; exact rfl; (intro _; exact rfl)))) (by exact rfl) (by (repeat (first | exact SubO.nil _ | (apply SubO.cons; (focus (repeat' (first | exact Pick.head _ _ | apply Pick.tail))))))) ?_)
      repeat (first | refine p1 ?_ | refine p2 (fun b _ => ?_) | refine p3 (fun _ _ => ?_) | refine p4 ?_ | refine p5 ?_ | refine p7 (fun b => ?_) | refine PL_nil ?_)
      refine PL_runs rfl rfl rfl rfl rfl (R_shr rfl rfl (by decide) (i64_shr8 _)) ?_
      repeat (first | refine p1 ?_ | refine p2 (fun b _ => ?_) | refine p3 (fun _ _ => ?_) | refine p4 ?_ | refine p5 ?_ | refine p7 (fun b => ?_) | refine PL_nil ?_)
      rw [show ((p.data.length / 256 : Nat) : Int) = ((UInt8.ofNat (p.data.length / 256)).toNat : Int) by rw [UInt8.toNat_ofNat', Nat.mod_eq_of_lt (by omega)]]
      refine PL_effs rfl rfl rfl rfl rfl (Effs.letB (n := fun _ => 2) (bs := fun _ => dl2 p.data.length) (by (apply E_buildSlice; exact rfl; (focus (repeat (first | apply SeqE.nil | (apply SeqE.cons; exact rfl; (focus (first | (apply CellsE.lit; exact rfl) | (apply CellsE.one; (first | (apply OneC.lit; exact rfl) | (apply OneC.by_; (repeat' (first | exact mcs | apply mct)); done) | (apply OneC.sl; (repeat' (first | exact mcs | apply mct)); done) | (apply OneC.rw; (repeat' (first | exact mcs | apply mct)); done) | (apply OneC.row; (repeat' (first | exact Pick.head _ _ | apply Pick.tail))))))); exact rfl) | exact rfl))); exact rfl; (first | (intro _; exact (rfl : _ = Result.ok 1 _)) | (intro _; exact (rfl : _ = Result.ok 2 _)) | (intro _; exact (rfl : _ = Result.ok 3 _)) | (intro _; exact (rfl : _ = Result.ok 4 _)) | (intro _; exact (rfl : _ = Result.ok 5 _)) | (intro _; exact (rfl : _ = Result.ok 6 _)) | (intro _; exact (rfl : _ = Result.ok 7 _)) | (intro _; exact (rfl : _ = Result.ok 8 _)) | (intro _; exact (rfl : _ = Result.ok 9 _)) | (intro _; exact (rfl : _ = Result.ok 13 _)) | (intro _; exact (rfl : _ = Result.ok 14 _)) | (intro _; exact (rfl : _ = Result.ok 26 _)) | (intro _; exact (rfl : _ = Result.ok 40 _)) | (intro _; exact (rfl : _ = Result.ok 41 _)) | (intro _; exact (rfl : _ = Result.ok 42 _)) | (intro _; exact (rfl : _ = Result.ok 43 _)) | (intro _; exact (rfl : _ = Result.ok 44 _)) | (intro _; exact (rfl : _ = Result.ok 45 _)) | (intro _; exact (rfl : _ = Result.ok 46 _))); (intro _; exact rfl); exact rfl; exact Nat.le_of_ble_eq_true rfl; exact Nat.le_of_ble_eq_true rfl))) (fun _ => (by (repeat (first | exact SubO.nil _ | (apply SubO.cons; (focus (repeat' (first | exact Pick.head _ _ | apply Pick.tail)))))))) (fun q _ => ?_)
      repeat (first | refine p1 ?_ | refine p2 (fun b _ => ?_) | refine p3 (fun _ _ => ?_) | refine p4 ?_ | refine p5 ?_ | refine p7 (fun b => ?_) | refine PL_nil ?_)
      refine PL_effs rfl rfl rfl rfl rfl (Effs.letL (vs := [ov, .slice (some ⟨b3, 0, none⟩) 6 6, .slice (some ⟨b3, 6, none⟩) 6 6, q, p.dv]) (fs := [out, p.to_.bytes, p.fr_.bytes, dl2 p.data.length, p.data]) rfl (by (apply E_buildSlice; exact rfl; (focus (repeat (first | apply SeqE.nil | (apply SeqE.cons; exact rfl; (focus (first | (apply CellsE.lit; exact rfl) | (apply CellsE.one; (first | (apply OneC.lit; exact rfl) | (apply OneC.by_; (repeat' (first | exact mcs | apply mct)); done) | (apply OneC.sl; (repeat' (first | exact mcs | apply mct)); done) | (apply OneC.rw; (repeat' (first | exact mcs | apply mct)); done) | (apply OneC.row; (repeat' (first | exact Pick.head _ _ | apply Pick.tail))))))); exact rfl) | exact rfl))); exact rfl; (first | (intro _; exact (rfl : _ = Result.ok 1 _)) | (intro _; exact (rfl : _ = Result.ok 2 _)) | (intro _; exact (rfl : _ = Result.ok 3 _)) | (intro _; exact (rfl : _ = Result.ok 4 _)) | (intro _; exact (rfl : _ = Result.ok 5 _)) | (intro _; exact (rfl : _ = Result.ok 6 _)) | (intro _; exact (rfl : _ = Result.ok 7 _)) | (intro _; exact (rfl : _ = Result.ok 8 _)) | (intro _; exact (rfl : _ = Result.ok 9 _)) | (intro _; exact (rfl : _ = Result.ok 13 _)) | (intro _; exact (rfl : _ = Result.ok 14 _)) | (intro _; exact (rfl : _ = Result.ok 26 _)) | (intro _; exact (rfl : _ = Result.ok 40 _)) | (intro _; exact (rfl : _ = Result.ok 41 _)) | (intro _; exact (rfl : _ = Result.ok 42 _)) | (intro _; exact (rfl : _ = Result.ok 43 _)) | (intro _; exact (rfl : _ = Result.ok 44 _)) | (intro _; exact (rfl : _ = Result.ok 45 _)) | (intro _; exact (rfl : _ = Result.ok 46 _))); (intro _; exact rfl); exact rfl; exact Nat.le_of_ble_eq_true rfl; exact Nat.le_of_ble_eq_true rfl)) (fun _ => ⟨(by repeat' (first | exact mcs | apply mct)), (by repeat' (first | exact mcs | apply mct)), (by repeat' (first | exact mcs | apply mct)), (by repeat' (first | exact mcs | apply mct)), (by repeat' (first | exact mcs | apply mct)), trivial⟩)) (fun _ => (by (repeat (first | exact SubO.nil _ | (apply SubO.cons; (focus (repeat' (first | exact Pick.head _ _ | apply Pick.tail)))))))) (fun q2 _ => ?_)
      repeat (first | refine p1 ?_ | refine p2 (fun b _ => ?_) | refine p3 (fun _ _ => ?_) | refine p4 ?_ | refine p5 ?_ | refine p7 (fun b => ?_) | refine PL_nil ?_)
      have hfl : [out, p.to_.bytes, p.fr_.bytes, dl2 p.data.length, p.data].flatten = out ++ entk p := by simp [entk]
      have hfn : (out ++ entk p).length = out.length + (14 + p.data.length) := by rw [List.length_append, entk_length]
      have hc := concat_fn q2 [out, p.to_.bytes, p.fr_.bytes, dl2 p.data.length, p.data] (fun i => [ov, .slice (some ⟨b3, 0, none⟩) 6 6, .slice (some ⟨b3, 6, none⟩) 6 6, q, p.dv].getD i undef) (by rw [hfl, hfn]; omega) (by show 5 ≤ 1000000; omega)
      rw [hfl] at hc
      (apply PL_effs; exact rfl; exact rfl; exact rfl; exact rfl; exact rfl; apply E_call; exact rfl; (intro _ _; simp); exact hc; (repeat (first | exact AllE.nil _ | (apply AllE.cons; (focus (first | exact ent_nilBy | exact ent_nilSl | (apply Ent.mem; repeat' (first | exact mcs | apply mct))))))); (intro _; exact rfl); (intro _; exact rfl); (intro _; (repeat (first | exact SubO.nil _ | (apply SubO.cons; (focus (repeat' (first | exact Pick.head _ _ | apply Pick.tail))))))))
      intro o _
      repeat (first | refine p1 ?_ | refine p2 (fun b _ => ?_) | refine p3 (fun _ _ => ?_) | refine p4 ?_ | refine p5 ?_ | refine p7 (fun b => ?_) | refine PL_nil ?_)
      repeat (first | refine n1 ?_ | refine n2 (fun b _ => ?_) | refine n3 (fun _ _ => ?_) | refine n4 ?_ | refine n5 ?_ | refine WL_nil ?_ | refine W_seq ?_ | refine W_region ?_ | refine n7 ?_ | refine n8 ?_ | refine W_block ?_ | refine W_skip ?_ | refine W_ret ?_ | refine W_exit ?_ | refine WQ_then ?_ | refine WQ_then_ret ?_ | refine WQ_then_exit ?_ | refine WQ_block_normal ?_ | refine WQ_block_ret ?_ | refine WQ_block_exit ?_ | refine n9 ?_)
      ((apply ret2 Tryd.results37 ( o)); (focus (first | trivial | assumption | omega)); (focus (first | exact RV_tmp rfl | (apply RV_cellN; exact rfl; (repeat' (first | exact Pick.head _ _ | apply Pick.tail)); (intro _; exact rfl); (intro _; exact rfl); exact rfl) | (apply RV_cell1; exact rfl; (repeat' (first | exact Pick.head _ _ | apply Pick.tail)); (intro _; exact rfl); exact rfl))); (focus (first | exact RV_tmp rfl | (apply RV_cellN; exact rfl; (repeat' (first | exact Pick.head _ _ | apply Pick.tail)); (intro _; exact rfl); (intro _; exact rfl); exact rfl) | (apply RV_cell1; exact rfl; (repeat' (first | exact Pick.head _ _ | apply Pick.tail)); (intro _; exact rfl); exact rfl)));  (focus (first | exact rfl | (simp; done))); (focus (repeat (first | exact SubO.nil _ | (apply SubO.cons; (focus (repeat' (first | exact Pick.head _ _ | apply Pick.tail))))))); (focus (repeat (first | exact AllE.nil _ | (apply AllE.cons; (focus (first | exact ent_nilBy | exact ent_nilSl | (apply Ent.mem; repeat' (first | exact mcs | apply mct)))))))))
end Go.Proofs.YteojehocflbgdaaDoor.C08

/-
  Packets packed: 'write' at packets, 'Pack'; the chapter's examples.
-/
namespace Go.Proofs.YteojehocflbgdaaDoor.C01
end Go.Proofs.YteojehocflbgdaaDoor.C01
namespace Go.Proofs.YteojehocflbgdaaDoor.C03
end Go.Proofs.YteojehocflbgdaaDoor.C03
namespace Go.Proofs.YteojehocflbgdaaDoor.C08
open C01 C03
open Go Go.RowKit Go.Hs

def ByP (Φ : List SP) : List PK → Prop
  | [] => True
  | p :: ps => By p.dv p.data ∈ Φ ∧ ByP Φ ps
theorem row_form {C : Ctx} {Γ Γ' : List OA} {Φ : List SP} {v : Value} {t : TypeId} {size n : Nat} {xs : List Value} (hp : Pick (.row v t size n xs) Γ Γ') : ∀ w, Holds C Γ Φ w → ∃ A c, v = .slice A n c := fun w hw => by
  obtain ⟨A, c, h, _⟩ := row_nil_or (pick_holds hp hw).own.1
  exact ⟨A, c, h⟩
attribute [local irreducible] WL W WQ PL Runs Effs AllE Ent SubO FrIn Pick OneC Ones CellsE PartsE SeqE UZ By Sl Pt Ct

set_option maxRecDepth 100000 in
set_option maxHeartbeats 2000000 in
theorem writeK_fn (v : Value) (ps : List PK) : Ct Tryd.prog 36 [v, .int .i64 32, .int .i64 2304, .func (.func 37) #[] #[]] [] [Rw 13 v ps.length (fun i => (ps.getD i pk0).cells), Al ps.length (fun i => By (ps.getD i pk0).dv (ps.getD i pk0).data)]
    (X := Value) (fun _ => True) (fun x => .tuple #[x, .int .i64 (jkE ps).2]) (fun x => [.row x 5 1 (jkE ps).1.length ((jkE ps).1.map bcell)]) (fun _ => []) := by
  by_cases h0 : ps.length = 0
  · rw [show jkE ps = ([], 6) from if_pos h0]
    refine Ct_intro Tryd.func36 rfl Tryd.ntmps36 (by simp) _ rfl (fun w0 O0 => ?_)
    repeat (first | refine n1 ?_ | refine n2 (fun b _ => ?_) | refine n3 (fun _ _ => ?_) | refine n4 ?_ | refine n5 ?_ | refine WL_nil ?_ | refine W_seq ?_ | refine W_region ?_ | refine n7 ?_ | refine n8 ?_ | refine W_block ?_ | refine W_skip ?_ | refine W_ret ?_ | refine W_exit ?_ | refine WQ_then ?_ | refine WQ_then_ret ?_ | refine WQ_then_exit ?_ | refine WQ_block_normal ?_ | refine WQ_block_ret ?_ | refine WQ_block_exit ?_ | refine n9 ?_)
    apply WQ_nilRow 5 1
    ((apply ret2 Tryd.results36 ( Value.slice none 0 0)); (focus (first | trivial | assumption | omega)); (focus (first | exact RV_tmp rfl | (apply RV_cellN; exact rfl; (repeat' (first | exact Pick.head _ _ | apply Pick.tail)); (intro _; exact rfl); (intro _; exact rfl); exact rfl) | (apply RV_cell1; exact rfl; (repeat' (first | exact Pick.head _ _ | apply Pick.tail)); (intro _; exact rfl); exact rfl))); (focus (first | exact RV_tmp rfl | (apply RV_cellN; exact rfl; (repeat' (first | exact Pick.head _ _ | apply Pick.tail)); (intro _; exact rfl); (intro _; exact rfl); exact rfl) | (apply RV_cell1; exact rfl; (repeat' (first | exact Pick.head _ _ | apply Pick.tail)); (intro _; exact rfl); exact rfl)));  (focus (first | exact rfl | (simp; done))); (focus (repeat (first | exact SubO.nil _ | (apply SubO.cons; (focus (repeat' (first | exact Pick.head _ _ | apply Pick.tail))))))); (focus (repeat (first | exact AllE.nil _ | (apply AllE.cons; (focus (first | exact ent_nilBy | exact ent_nilSl | (apply Ent.mem; repeat' (first | exact mcs | apply mct)))))))))
  · by_cases h1 : 32 < ps.length
    · rw [show jkE ps = ([], 4) by unfold jkE; rw [if_neg h0, if_pos h1]]
      refine Ct_intro Tryd.func36 rfl Tryd.ntmps36 (by simp) _ rfl (fun w0 O0 => ?_)
      repeat (first | refine n1 ?_ | refine n2 (fun b _ => ?_) | refine n3 (fun _ _ => ?_) | refine n4 ?_ | refine n5 ?_ | refine WL_nil ?_ | refine W_seq ?_ | refine W_region ?_ | refine n7 ?_ | refine n8 ?_ | refine W_block ?_ | refine W_skip ?_ | refine W_ret ?_ | refine W_exit ?_ | refine WQ_then ?_ | refine WQ_then_ret ?_ | refine WQ_then_exit ?_ | refine WQ_block_normal ?_ | refine WQ_block_ret ?_ | refine WQ_block_exit ?_ | refine n9 ?_)
      apply WQ_nilRow 5 1
      ((apply ret2 Tryd.results36 ( Value.slice none 0 0)); (focus (first | trivial | assumption | omega)); (focus (first | exact RV_tmp rfl | (apply RV_cellN; exact rfl; (repeat' (first | exact Pick.head _ _ | apply Pick.tail)); (intro _; exact rfl); (intro _; exact rfl); exact rfl) | (apply RV_cell1; exact rfl; (repeat' (first | exact Pick.head _ _ | apply Pick.tail)); (intro _; exact rfl); exact rfl))); (focus (first | exact RV_tmp rfl | (apply RV_cellN; exact rfl; (repeat' (first | exact Pick.head _ _ | apply Pick.tail)); (intro _; exact rfl); (intro _; exact rfl); exact rfl) | (apply RV_cell1; exact rfl; (repeat' (first | exact Pick.head _ _ | apply Pick.tail)); (intro _; exact rfl); exact rfl)));  (focus (first | exact rfl | (simp; done))); (focus (repeat (first | exact SubO.nil _ | (apply SubO.cons; (focus (repeat' (first | exact Pick.head _ _ | apply Pick.tail))))))); (focus (repeat (first | exact AllE.nil _ | (apply AllE.cons; (focus (first | exact ent_nilBy | exact ent_nilSl | (apply Ent.mem; repeat' (first | exact mcs | apply mct)))))))))
    · refine Ct_intro Tryd.func36 rfl Tryd.ntmps36 (by simp) _ rfl (fun w0 O0 => ?_)
      repeat (first | refine n1 ?_ | refine n2 (fun b _ => ?_) | refine n3 (fun _ _ => ?_) | refine n4 ?_ | refine n5 ?_ | refine WL_nil ?_ | refine W_seq ?_ | refine W_region ?_ | refine n7 ?_ | refine n8 ?_ | refine W_block ?_ | refine W_skip ?_ | refine W_ret ?_ | refine W_exit ?_ | refine WQ_then ?_ | refine WQ_then_ret ?_ | refine WQ_then_exit ?_ | refine WQ_block_normal ?_ | refine WQ_block_ret ?_ | refine WQ_block_exit ?_ | refine n9 ?_)
      apply W_nilRow 5 1
      ((apply W_loopK (X := Nat × Value) [10, 12, 13, 14, 24] [0] (fun x => x.1 ≤ ps.length ∧ okKL (ps.take x.1)) (fun x => [(10, x.2), (24, .int .i64 (x.1 : Int))]) (fun x => [.row x.2 5 1 (jk (ps.take x.1)).length ((jk (ps.take x.1)).map bcell)]) (fun _ => []) (fun x => ps.length - x.1) ((0, .slice none 0 0))); (focus (exact ⟨Nat.zero_le _, fun _ h => (by cases h)⟩)); exact rfl; exact rfl; (intro _; exact rfl); (intro _; exact rfl); (intro _; exact rfl); (focus (repeat (first | exact FrIn.nil _ | (apply FrIn.cons; exact rfl; (first | exact rfl | (congr 1; first | omega | (dsimp only; omega)) | (simp; done)))))); (focus (repeat (first | exact SubO.nil _ | (apply SubO.cons; (focus (repeat' (first | exact Pick.head _ _ | apply Pick.tail))))))); (focus (repeat (first | exact AllE.nil _ | (apply AllE.cons; (focus (first | exact ent_nilBy | exact ent_nilSl | (apply Ent.mem; repeat' (first | exact mcs | apply mct)))))))); intro x hx)
      obtain ⟨x, o⟩ := x
      obtain ⟨hx, hok⟩ := hx
      replace hx : x ≤ ps.length := hx
      replace hok : okKL (ps.take x) := hok
      dsimp only
      have hjl := jk_le hok
      rw [List.length_take, Nat.min_eq_left hx] at hjl
      have hpl := pad4_lt (jk (ps.take x)).length
      by_cases c1 : x < ps.length
      · refine W_ent (ent_al (i := x) (ψ := fun i => By (ps.getD i pk0).dv (ps.getD i pk0).data) (by (focus (repeat' (first | exact mcs | apply mct)))) c1) ?_
        refine W_pure (row_form (v := o) (by repeat' (first | exact Pick.head _ _ | apply Pick.tail))) fun hform => ?_
        obtain ⟨oA, oc, rfl⟩ := hform
        repeat (first | refine n1 ?_ | refine n2 (fun b _ => ?_) | refine n3 (fun _ _ => ?_) | refine n4 ?_ | refine n5 ?_ | refine WL_nil ?_ | refine W_seq ?_ | refine W_region ?_ | refine n7 ?_ | refine n8 ?_ | refine W_block ?_ | refine W_skip ?_ | refine W_ret ?_ | refine W_exit ?_ | refine WQ_then ?_ | refine WQ_then_ret ?_ | refine WQ_then_exit ?_ | refine WQ_block_normal ?_ | refine WQ_block_ret ?_ | refine WQ_block_exit ?_ | refine n9 ?_)
        (refine W_regionP' [5, 7] [] [0, 1, 2, 3, 4, 6, 5, 7, 8, 9, 10, 11, 12] [1] (by kernel_rfl) (by kernel_rfl) (by repeat (first | exact UZ.nil _ _ | (apply UZ.cons; exact rfl; (intro _; exact rfl)))) (by exact rfl) (by (repeat (first | exact SubO.nil _ | (apply SubO.cons; (focus (repeat' (first | exact Pick.head _ _ | apply Pick.tail))))))) ?_)
        repeat (first | refine p1 ?_ | refine p2 (fun b _ => ?_) | refine p3 (fun _ _ => ?_) | refine p4 ?_ | refine p5 ?_ | refine p6 (padding_fn (jk (ps.take x)).length (by omega)) ?_ | refine p6v (padding_fn (jk (ps.take x)).length (by omega)) ?_ | refine p7 (fun b => ?_) | refine PL_nil ?_)
        refine PL_effs rfl rfl rfl rfl rfl (Effs.letB (n := fun _ => (jk (ps.take x) ++ zer (pad4 (jk (ps.take x)).length)).length) (bs := fun _ => jk (ps.take x) ++ zer (pad4 (jk (ps.take x)).length)) (E_appendZ (bs := jk (ps.take x)) (k := pad4 (jk (ps.take x)).length) (nm := (jk (ps.take x) ++ zer (pad4 (jk (ps.take x)).length)).length) (all := jk (ps.take x) ++ zer (pad4 (jk (ps.take x)).length)) rfl rfl rfl (by repeat' (first | exact Pick.head _ _ | apply Pick.tail)) rfl rfl rfl rfl rfl rfl (Nat.le_of_ble_eq_true rfl) (by omega) (by rw [List.length_append, zer_length]) rfl)) (fun _ => (by (repeat (first | exact SubO.nil _ | (apply SubO.cons; (focus (repeat' (first | exact Pick.head _ _ | apply Pick.tail)))))))) (fun o2 _ => ?_)
        repeat (first | refine p1 ?_ | refine p2 (fun b _ => ?_) | refine p3 (fun _ _ => ?_) | refine p4 ?_ | refine p5 ?_ | refine p7 (fun b => ?_) | refine PL_nil ?_)
        (apply PL_effs; exact rfl; exact rfl; exact rfl; exact rfl; exact rfl; (apply E_callG (first := #[]) (captured := #[]) (Γp := [])); exact rfl; exact rfl; exact rfl; (intro _ _; simp); (exact pack1_fn o2 (jk (ps.take x) ++ zer (pad4 (jk (ps.take x)).length)) (ps.getD x pk0) (by rw [List.length_append, zer_length]; omega)); exact .refl _; (repeat (first | exact AllE.nil _ | (apply AllE.cons; (focus (first | exact ent_nilBy | exact ent_nilSl | (apply Ent.mem; repeat' (first | exact mcs | apply mct))))))); (intro _; exact rfl); (intro _; exact rfl); (intro _; (repeat (first | exact SubO.nil _ | (apply SubO.cons; (focus (repeat' (first | exact Pick.head _ _ | apply Pick.tail))))))))
        intro o3 _
        by_cases c2 : (K1 (jk (ps.take x) ++ zer (pad4 (jk (ps.take x)).length)) (ps.getD x pk0)).2 = 0
        · obtain ⟨hp1, hp2⟩ := K1_ok c2
          rw [← jk_snoc c1] at hp2
          rw [c2, hp2]
          repeat (first | refine p1 ?_ | refine p2 (fun b _ => ?_) | refine p3 (fun _ _ => ?_) | refine p4 ?_ | refine p5 ?_ | refine p7 (fun b => ?_) | refine PL_nil ?_)
          repeat (first | refine n1 ?_ | refine n2 (fun b _ => ?_) | refine n3 (fun _ _ => ?_) | refine n4 ?_ | refine n5 ?_ | refine WL_nil ?_ | refine W_seq ?_ | refine W_region ?_ | refine n7 ?_ | refine n8 ?_ | refine W_block ?_ | refine W_skip ?_ | refine W_ret ?_ | refine W_exit ?_ | refine WQ_then ?_ | refine WQ_then_ret ?_ | refine WQ_then_exit ?_ | refine WQ_block_normal ?_ | refine WQ_block_ret ?_ | refine WQ_block_exit ?_ | refine n9 ?_)
          have hok2 := okK_snoc c1 hok hp1
          ((apply WQ_again ((x + 1, o3))); (focus exact ⟨c1, hok2⟩); (focus (exact (show ps.length - (x + 1) < ps.length - x by omega))); (focus (repeat (first | exact FrIn.nil _ | (apply FrIn.cons; exact rfl; (first | exact rfl | (congr 1; first | omega | (dsimp only; omega)) | (simp; done)))))); (focus (repeat (first | exact SubO.nil _ | (apply SubO.cons; (focus (repeat' (first | exact Pick.head _ _ | apply Pick.tail))))))); (focus (repeat (first | exact AllE.nil _ | (apply AllE.cons; (focus (first | exact ent_nilBy | exact ent_nilSl | (apply Ent.mem; repeat' (first | exact mcs | apply mct)))))))))
        · have hpe := pckE_at hok c1 (by rw [← K1_err (jk (ps.take x) ++ zer (pad4 (jk (ps.take x)).length))]; exact c2)
          rw [← K1_err (jk (ps.take x) ++ zer (pad4 (jk (ps.take x)).length))] at hpe
          generalize K1 (jk (ps.take x) ++ zer (pad4 (jk (ps.take x)).length)) (ps.getD x pk0) = r at *
          obtain ⟨r1, r2⟩ := r
          replace c2 : ¬ r2 = 0 := c2
          replace hpe : pckE ps = r2 := hpe
          dsimp only
          repeat (first | refine p1 ?_ | refine p2 (fun b _ => ?_) | refine p3 (fun _ _ => ?_) | refine p4 ?_ | refine p5 ?_ | refine p7 (fun b => ?_) | refine PL_nil ?_)
          repeat (first | refine n1 ?_ | refine n2 (fun b _ => ?_) | refine n3 (fun _ _ => ?_) | refine n4 ?_ | refine n5 ?_ | refine WL_nil ?_ | refine W_seq ?_ | refine W_region ?_ | refine n7 ?_ | refine n8 ?_ | refine W_block ?_ | refine W_skip ?_ | refine W_ret ?_ | refine W_exit ?_ | refine WQ_then ?_ | refine WQ_then_ret ?_ | refine WQ_then_exit ?_ | refine WQ_block_normal ?_ | refine WQ_block_ret ?_ | refine WQ_block_exit ?_ | refine n9 ?_)
          apply WQ_nilRow 5 1
          rw [show jkE ps = ([], r2) by unfold jkE; rw [if_neg h0, if_neg h1, if_neg (by rw [hpe]; exact c2), hpe]]
          ((apply ret2 Tryd.results36 ( Value.slice none 0 0)); (focus (first | trivial | assumption | omega)); (focus (first | exact RV_tmp rfl | (apply RV_cellN; exact rfl; (repeat' (first | exact Pick.head _ _ | apply Pick.tail)); (intro _; exact rfl); (intro _; exact rfl); exact rfl) | (apply RV_cell1; exact rfl; (repeat' (first | exact Pick.head _ _ | apply Pick.tail)); (intro _; exact rfl); exact rfl))); (focus (first | exact RV_tmp rfl | (apply RV_cellN; exact rfl; (repeat' (first | exact Pick.head _ _ | apply Pick.tail)); (intro _; exact rfl); (intro _; exact rfl); exact rfl) | (apply RV_cell1; exact rfl; (repeat' (first | exact Pick.head _ _ | apply Pick.tail)); (intro _; exact rfl); exact rfl)));  (focus (first | exact rfl | (simp; done))); (focus (repeat (first | exact SubO.nil _ | (apply SubO.cons; (focus (repeat' (first | exact Pick.head _ _ | apply Pick.tail))))))); (focus (repeat (first | exact AllE.nil _ | (apply AllE.cons; (focus (first | exact ent_nilBy | exact ent_nilSl | (apply Ent.mem; repeat' (first | exact mcs | apply mct)))))))))
      · obtain rfl : x = ps.length := by omega
        rw [List.take_length] at *
        by_cases c2 : 2304 < (jk ps).length
        · rw [show jkE ps = ([], 11) by unfold jkE; rw [if_neg h0, if_neg h1, if_pos (pckE_ok.2 hok), if_pos c2]]
          repeat (first | refine n1 ?_ | refine n2 (fun b _ => ?_) | refine n3 (fun _ _ => ?_) | refine n4 ?_ | refine n5 ?_ | refine WL_nil ?_ | refine W_seq ?_ | refine W_region ?_ | refine n7 ?_ | refine n8 ?_ | refine W_block ?_ | refine W_skip ?_ | refine W_ret ?_ | refine W_exit ?_ | refine WQ_then ?_ | refine WQ_then_ret ?_ | refine WQ_then_exit ?_ | refine WQ_block_normal ?_ | refine WQ_block_ret ?_ | refine WQ_block_exit ?_ | refine n9 ?_)
          apply WQ_nilRow 5 1
          ((apply ret2 Tryd.results36 ( Value.slice none 0 0)); (focus (first | trivial | assumption | omega)); (focus (first | exact RV_tmp rfl | (apply RV_cellN; exact rfl; (repeat' (first | exact Pick.head _ _ | apply Pick.tail)); (intro _; exact rfl); (intro _; exact rfl); exact rfl) | (apply RV_cell1; exact rfl; (repeat' (first | exact Pick.head _ _ | apply Pick.tail)); (intro _; exact rfl); exact rfl))); (focus (first | exact RV_tmp rfl | (apply RV_cellN; exact rfl; (repeat' (first | exact Pick.head _ _ | apply Pick.tail)); (intro _; exact rfl); (intro _; exact rfl); exact rfl) | (apply RV_cell1; exact rfl; (repeat' (first | exact Pick.head _ _ | apply Pick.tail)); (intro _; exact rfl); exact rfl)));  (focus (first | exact rfl | (simp; done))); (focus (repeat (first | exact SubO.nil _ | (apply SubO.cons; (focus (repeat' (first | exact Pick.head _ _ | apply Pick.tail))))))); (focus (repeat (first | exact AllE.nil _ | (apply AllE.cons; (focus (first | exact ent_nilBy | exact ent_nilSl | (apply Ent.mem; repeat' (first | exact mcs | apply mct)))))))))
        · rw [show jkE ps = (jk ps, 0) by unfold jkE; rw [if_neg h0, if_neg h1, if_pos (pckE_ok.2 hok), if_neg c2]]
          repeat (first | refine n1 ?_ | refine n2 (fun b _ => ?_) | refine n3 (fun _ _ => ?_) | refine n4 ?_ | refine n5 ?_ | refine WL_nil ?_ | refine W_seq ?_ | refine W_region ?_ | refine n7 ?_ | refine n8 ?_ | refine W_block ?_ | refine W_skip ?_ | refine W_ret ?_ | refine W_exit ?_ | refine WQ_then ?_ | refine WQ_then_ret ?_ | refine WQ_then_exit ?_ | refine WQ_block_normal ?_ | refine WQ_block_ret ?_ | refine WQ_block_exit ?_ | refine n9 ?_)
          ((apply ret2 Tryd.results36 ( o)); (focus (first | trivial | assumption | omega)); (focus (first | exact RV_tmp rfl | (apply RV_cellN; exact rfl; (repeat' (first | exact Pick.head _ _ | apply Pick.tail)); (intro _; exact rfl); (intro _; exact rfl); exact rfl) | (apply RV_cell1; exact rfl; (repeat' (first | exact Pick.head _ _ | apply Pick.tail)); (intro _; exact rfl); exact rfl))); (focus (first | exact RV_tmp rfl | (apply RV_cellN; exact rfl; (repeat' (first | exact Pick.head _ _ | apply Pick.tail)); (intro _; exact rfl); (intro _; exact rfl); exact rfl) | (apply RV_cell1; exact rfl; (repeat' (first | exact Pick.head _ _ | apply Pick.tail)); (intro _; exact rfl); exact rfl)));  (focus (first | exact rfl | (simp; done))); (focus (repeat (first | exact SubO.nil _ | (apply SubO.cons; (focus (repeat' (first | exact Pick.head _ _ | apply Pick.tail))))))); (focus (repeat (first | exact AllE.nil _ | (apply AllE.cons; (focus (first | exact ent_nilBy | exact ent_nilSl | (apply Ent.mem; repeat' (first | exact mcs | apply mct)))))))))

set_option maxRecDepth 100000 in
theorem pack_fn (v : Value) (ps : List PK) : Ct Tryd.prog 15 [v] [] [Rw 13 v ps.length (fun i => (ps.getD i pk0).cells), Al ps.length (fun i => By (ps.getD i pk0).dv (ps.getD i pk0).data)]
    (X := Value) (fun _ => True) (fun x => .tuple #[x, .int .i64 (jkE ps).2]) (fun x => [.row x 5 1 (jkE ps).1.length ((jkE ps).1.map bcell)]) (fun _ => []) := by
  refine Ct_intro Tryd.func15 rfl Tryd.ntmps15 (by simp) _ rfl (fun w0 O0 => ?_)
  repeat (first | refine n1 ?_ | refine n2 (fun b _ => ?_) | refine n3 (fun _ _ => ?_) | refine n4 ?_ | refine n5 ?_ | refine WL_nil ?_ | refine W_seq ?_ | refine W_region ?_ | refine n7 ?_ | refine n8 ?_ | refine W_block ?_ | refine W_skip ?_ | refine W_ret ?_ | refine W_exit ?_ | refine WQ_then ?_ | refine WQ_then_ret ?_ | refine WQ_then_exit ?_ | refine WQ_block_normal ?_ | refine WQ_block_ret ?_ | refine WQ_block_exit ?_ | refine n9 ?_)
  (apply WL_effs; exact rfl; exact rfl; exact rfl; apply E_call; exact rfl; (intro _ _; simp); exact writeK_fn v ps; (repeat (first | exact AllE.nil _ | (apply AllE.cons; (focus (first | exact ent_nilBy | exact ent_nilSl | (apply Ent.mem; repeat' (first | exact mcs | apply mct))))))); (intro _; exact rfl); (intro _; exact rfl))
  intro o _
  repeat (first | refine n1 ?_ | refine n2 (fun b _ => ?_) | refine n3 (fun _ _ => ?_) | refine n4 ?_ | refine n5 ?_ | refine WL_nil ?_ | refine W_seq ?_ | refine W_region ?_ | refine n7 ?_ | refine n8 ?_ | refine W_block ?_ | refine W_skip ?_ | refine W_ret ?_ | refine W_exit ?_ | refine WQ_then ?_ | refine WQ_then_ret ?_ | refine WQ_then_exit ?_ | refine WQ_block_normal ?_ | refine WQ_block_ret ?_ | refine WQ_block_exit ?_ | refine n9 ?_)
  ((apply ret2 Tryd.results15 ( o)); (focus (first | trivial | assumption | omega)); (focus (first | exact RV_tmp rfl | (apply RV_cellN; exact rfl; (repeat' (first | exact Pick.head _ _ | apply Pick.tail)); (intro _; exact rfl); (intro _; exact rfl); exact rfl) | (apply RV_cell1; exact rfl; (repeat' (first | exact Pick.head _ _ | apply Pick.tail)); (intro _; exact rfl); exact rfl))); (focus (first | exact RV_tmp rfl | (apply RV_cellN; exact rfl; (repeat' (first | exact Pick.head _ _ | apply Pick.tail)); (intro _; exact rfl); (intro _; exact rfl); exact rfl) | (apply RV_cell1; exact rfl; (repeat' (first | exact Pick.head _ _ | apply Pick.tail)); (intro _; exact rfl); exact rfl)));  (focus (first | exact rfl | (simp; done))); (focus (repeat (first | exact SubO.nil _ | (apply SubO.cons; (focus (repeat' (first | exact Pick.head _ _ | apply Pick.tail))))))); (focus (repeat (first | exact AllE.nil _ | (apply AllE.cons; (focus (first | exact ent_nilBy | exact ent_nilSl | (apply Ent.mem; repeat' (first | exact mcs | apply mct)))))))))

def nineP (x : Value) : PK := ⟨⟨2, 0, 0, 0, 0, 1⟩, ⟨2, 0, 0, 0, 0, 2⟩, x, [9]⟩
def one9 : List UInt8 := [2, 0, 0, 0, 0, 1, 2, 0, 0, 0, 0, 2, 1, 0, 9]
end Go.Proofs.YteojehocflbgdaaDoor.C08

/-
  Runes read off bytes: a byte that is no ASCII gives a rune that is not zero; 'ContainsFunc' at few bytes.
-/
namespace Go.Proofs.YteojehocflbgdaaDoor.C08d
open Go Go.RowKit Go.Hs C08
/-- the two tables. -/
def tbF : SP := Pt (.pointer (some ⟨0, 0, none⟩)) ((List.range 256).map fun c => .int .u8 (Lib.firstT c : Int))
def tbA : SP := Pt (.pointer (some ⟨1, 0, none⟩)) ((List.range 16).flatMap fun i => [.int .u8 (Lib.accLo i : Int), .int .u8 (Lib.accHi i : Int)])
theorem ent_tbF {Φ : List SP} (hm : tbF ∈ Φ) {c : Nat} (hc : c < 256) : Ent Φ (Pt (.pointer (some ⟨0, c, none⟩)) [.int .u8 (Lib.firstT c : Int)]) := fun w O h => by
  obtain ⟨ad, hv, hlt, hO, hcell⟩ := h _ hm
  injection hv with hv
  injection hv with hv
  subst hv
  refine ⟨_, rfl, hlt, hO, fun j u hu => ?_⟩
  cases j with
  | zero =>
    simp only [List.getElem?_cons_zero, Option.some.injEq] at hu
    subst hu
    have h := hcell c (.int .u8 (Lib.firstT c : Int)) (by rw [List.getElem?_map, List.getElem?_range hc]; rfl)
    rw [add_at] at h ⊢
    rw [Nat.zero_add] at h
    exact h
  | succ j => simp at hu
theorem ent_tbA {Φ : List SP} (hm : tbA ∈ Φ) {i : Nat} (hi : i < 16) : Ent Φ (Pt (.pointer (some ⟨1, i * 2, none⟩)) [.int .u8 (Lib.accLo i : Int), .int .u8 (Lib.accHi i : Int)]) := fun w O h => by
  obtain ⟨ad, hv, hlt, hO, hcell⟩ := h _ hm
  injection hv with hv
  injection hv with hv
  subst hv
  have key : ∀ i : Fin 16, ((List.range 16).flatMap fun i => [Value.int .u8 (Lib.accLo i : Int), Value.int .u8 (Lib.accHi i : Int)])[i.val * 2]? = some (.int .u8 (Lib.accLo i.val : Int)) ∧ ((List.range 16).flatMap fun i => [Value.int .u8 (Lib.accLo i : Int), Value.int .u8 (Lib.accHi i : Int)])[i.val * 2 + 1]? = some (.int .u8 (Lib.accHi i.val : Int)) := fun ⟨i, hi⟩ => by
    have hi : i = 0 ∨ i = 1 ∨ i = 2 ∨ i = 3 ∨ i = 4 ∨ i = 5 ∨ i = 6 ∨ i = 7 ∨ i = 8 ∨ i = 9 ∨ i = 10 ∨ i = 11 ∨ i = 12 ∨ i = 13 ∨ i = 14 ∨ i = 15 := by omega
    rcases hi with rfl | rfl | rfl | rfl | rfl | rfl | rfl | rfl | rfl | rfl | rfl | rfl | rfl | rfl | rfl | rfl <;> exact ⟨rfl, rfl⟩
  refine ⟨_, rfl, hlt, hO, fun j u hu => ?_⟩
  match j, hu with
  | 0, hu =>
    simp only [List.getElem?_cons_zero, Option.some.injEq] at hu
    subst hu
    have h := hcell _ _ (key ⟨i, hi⟩).1
    rw [add_at] at h ⊢
    rw [Nat.zero_add] at h
    exact h
  | 1, hu =>
    simp only [List.getElem?_cons_succ, List.getElem?_cons_zero, Option.some.injEq] at hu
    subst hu
    have h := hcell _ _ (key ⟨i, hi⟩).2
    rw [add_at] at h ⊢
    rw [Nat.zero_add] at h
    exact h
  | j + 2, hu => simp at hu
/-- what the first table says of a byte that is no ASCII. -/
theorem cls (c : Nat) (h0 : 128 ≤ c) (h1 : c < 256) : Lib.firstT c = 241 ∨ (Lib.firstT c < 240 ∧ Lib.firstT c / 16 ≤ 4 ∧ ((Lib.firstT c % 8 = 2 ∧ 194 ≤ c ∧ c < 224) ∨ (Lib.firstT c % 8 = 3 ∧ (c = 224 ∧ Lib.accLo (Lib.firstT c / 16) = 160 ∧ Lib.accHi (Lib.firstT c / 16) = 191 ∨ 224 < c ∧ c < 240)) ∨ (Lib.firstT c % 8 = 4 ∧ (c = 240 ∧ Lib.accLo (Lib.firstT c / 16) = 144 ∧ Lib.accHi (Lib.firstT c / 16) = 191 ∨ 240 < c ∧ c ≤ 244)))) := by
  have h : ∀ c : Fin 256, 128 ≤ c.val → Lib.firstT c.val = 241 ∨ (Lib.firstT c.val < 240 ∧ Lib.firstT c.val / 16 ≤ 4 ∧ ((Lib.firstT c.val % 8 = 2 ∧ 194 ≤ c.val ∧ c.val < 224) ∨ (Lib.firstT c.val % 8 = 3 ∧ (c.val = 224 ∧ Lib.accLo (Lib.firstT c.val / 16) = 160 ∧ Lib.accHi (Lib.firstT c.val / 16) = 191 ∨ 224 < c.val ∧ c.val < 240)) ∨ (Lib.firstT c.val % 8 = 4 ∧ (c.val = 240 ∧ Lib.accLo (Lib.firstT c.val / 16) = 144 ∧ Lib.accHi (Lib.firstT c.val / 16) = 191 ∨ 240 < c.val ∧ c.val ≤ 244)))) := by decide +kernel
  exact h ⟨c, h1⟩ h0
theorem acc_lt (q : Nat) : Lib.accLo q < 256 ∧ Lib.accHi q < 256 := by
  unfold Lib.accLo Lib.accHi
  constructor <;> (repeat' split) <;> omega
theorem wx_i32 {x : Int} (h : -2147483648 ≤ x ∧ x ≤ 2147483647) : IntKind.i32.wrap x = x := by
  simp only [IntKind.wrap, IntKind.bits, IntKind.signed]
  simp
  omega
theorem ba31 (c : UInt8) : bits .and .u8 (c.toNat : Int) 31 = ((c.toNat % 32 : Nat) : Int) := by have := c.toNat_lt; exact (u8_and31 _ (by omega) (by omega)).trans (by omega)
theorem ba15 (c : UInt8) : bits .and .u8 (c.toNat : Int) 15 = ((c.toNat % 16 : Nat) : Int) := by have := c.toNat_lt; exact (u8_and15 _ (by omega) (by omega)).trans (by omega)
theorem ba7 (c : UInt8) : bits .and .u8 (c.toNat : Int) 7 = ((c.toNat % 8 : Nat) : Int) := by have := c.toNat_lt; exact (u8_and7 _ (by omega) (by omega)).trans (by omega)
theorem ba63 (c : UInt8) : bits .and .u8 (c.toNat : Int) 63 = ((c.toNat % 64 : Nat) : Int) := by have := c.toNat_lt; exact (u8_and63 _ (by omega) (by omega)).trans (by omega)
theorem bs6 (a : Nat) (h : a < 64) : IntKind.i32.wrap ((a : Int) * 2 ^ (min (6 : Int).toNat IntKind.i32.bits)) = ((a * 64 : Nat) : Int) := by
  rw [show ((2 : Int) ^ (min (6 : Int).toNat IntKind.i32.bits)) = 64 from rfl, wx_i32 (by omega)]; omega
theorem bs12 (a : Nat) (h : a < 64) : IntKind.i32.wrap ((a : Int) * 2 ^ (min (12 : Int).toNat IntKind.i32.bits)) = ((a * 4096 : Nat) : Int) := by
  rw [show ((2 : Int) ^ (min (12 : Int).toNat IntKind.i32.bits)) = 4096 from rfl, wx_i32 (by omega)]; omega
theorem bs18 (a : Nat) (h : a < 8) : IntKind.i32.wrap ((a : Int) * 2 ^ (min (18 : Int).toNat IntKind.i32.bits)) = ((a * 262144 : Nat) : Int) := by
  rw [show ((2 : Int) ^ (min (18 : Int).toNat IntKind.i32.bits)) = 262144 from rfl, wx_i32 (by omega)]; omega
theorem bo6 (a b : Nat) (h0 : a % 64 = 0) (h : a < 2147483648) (hb : b < 64) : bits .or .i32 (a : Int) (b : Int) = ((a + b : Nat) : Int) := (i32_or6 _ _ (by omega) (by omega) (by omega) (by omega) (by omega)).trans (by omega)
theorem bo12 (a b : Nat) (h0 : a % 4096 = 0) (h : a < 2147483648) (hb : b < 4096) : bits .or .i32 (a : Int) (b : Int) = ((a + b : Nat) : Int) := (i32_or12 _ _ (by omega) (by omega) (by omega) (by omega) (by omega)).trans (by omega)
theorem bo18 (a b : Nat) (h0 : a % 262144 = 0) (h : a < 2147483648) (hb : b < 262144) : bits .or .i32 (a : Int) (b : Int) = ((a + b : Nat) : Int) := (i32_or18 _ _ (by omega) (by omega) (by omega) (by omega) (by omega)).trans (by omega)
theorem bdrop (c : UInt8) : bits .or .i32 (bits .andNot .i32 (c.toNat : Int) (-1)) (bits .and .i32 65533 (-1)) = 65533 := by
  have h : ∀ x : Fin 256, bits .or .i32 (bits .andNot .i32 ((x.val : Nat) : Int) (-1)) (bits .and .i32 65533 (-1)) = 65533 := by decide +kernel
  exact h ⟨c.toNat, c.toNat_lt⟩
section
variable {C : Ctx} {fr : Fr} {Γ : List OA} {Φ : List SP} {d : Nat} {ty : TypeId} {pos : String} {aft : Array Edge} {g : Option (Nat × Bool)}
/-- an element of an array of things of two cells. -/
theorem R_idxArr2 {t e : TypeId} {x y : Operand} {b len i : Nat} {kd : IntKind} {ii : Int} (hx : evO fr x = some (.pointer (some ⟨b, 0, none⟩))) (hy : evO fr y = some (.int kd ii))
    (ht : C.P.underlying t = some (.array len e)) (hs : ∀ w, (sizeOf e).run C.P w = .ok 2 w) (hii : ii = (i : Int)) (hi : i < len) :
    Runs C fr Γ Φ ⟨some d, .indexAddr t x y, ty, pos, aft, g⟩ (.pointer (some ⟨b, i * 2, none⟩)) := by
  subst hii
  refine Runs.pure fun a w ha hw => ?_
  have h2 : (i : Int) < (len : Int) := by omega
  simp [execOp, evO_sound ha hx, evO_sound ha hy, Instr.indexAt, asIntOf, run_underlying ht, Instr.sureAddr, hs, hi, add_at]
end
attribute [local irreducible] WL W WQ PL Runs Effs AllE Ent SubO FrIn Pick OneC Ones CellsE PartsE SeqE UZ By Sl Pt Ct

set_option maxRecDepth 100000 in
set_option maxHeartbeats 16000000 in
theorem slow_fn (v : Value) (bs : List UInt8) (h0 : 1 ≤ bs.length) (h1 : 128 ≤ (bs.getD 0 0).toNat) : Ct Tryd.prog 58 [v] [] [By v bs, tbF, tbA]
    (X := Int × Int) (fun x => x.1 ≠ 0) (fun x => .tuple #[.int .i32 x.1, .int .i64 x.2]) (fun _ => []) (fun _ => []) := by
  have hc := (bs.getD 0 0).toNat_lt
  refine Ct_intro Tryd.func58 rfl Tryd.ntmps58 (by simp) _ rfl (fun w0 O0 => ?_)
  refine W_pure (by_le (v := v) (bs := bs) (by repeat' (first | exact mcs | apply mct))) fun hle => ?_
  refine W_ent (ent_tbF (c := (bs.getD 0 0).toNat) (by (focus (repeat' (first | exact mcs | apply mct)))) hc) ?_
  have hq := cls _ h1 hc
  generalize hf : Lib.firstT (bs.getD 0 0).toNat = f at *
  rcases hq with rfl | ⟨k1, k2, k3⟩
  · repeat (first | refine n1 ?_ | refine n2 (fun b _ => ?_) | refine n3 (fun _ _ => ?_) | refine n4 ?_ | refine n5 ?_ | refine WL_nil ?_ | refine W_seq ?_ | refine W_region ?_ | refine n7 ?_ | refine n8 ?_ | refine W_block ?_ | refine W_skip ?_ | refine W_ret ?_ | refine W_exit ?_ | refine WQ_then ?_ | refine WQ_then_ret ?_ | refine WQ_then_exit ?_ | refine WQ_block_normal ?_ | refine WQ_block_ret ?_ | refine WQ_block_exit ?_ | refine n9 ?_)
    refine WL_runs rfl rfl rfl (R_shl (c := -2147483648) rfl rfl (by decide) (by decide)) ?_
    refine WL_runs rfl rfl rfl (R_shr (c := -1) rfl rfl (by decide) (by decide)) ?_
    repeat (first | refine n1 ?_ | refine n2 (fun b _ => ?_) | refine n3 (fun _ _ => ?_) | refine n4 ?_ | refine n5 ?_ | refine WL_nil ?_ | refine W_seq ?_ | refine W_region ?_ | refine n7 ?_ | refine n8 ?_ | refine W_block ?_ | refine W_skip ?_ | refine W_ret ?_ | refine W_exit ?_ | refine WQ_then ?_ | refine WQ_then_ret ?_ | refine WQ_then_exit ?_ | refine WQ_block_normal ?_ | refine WQ_block_ret ?_ | refine WQ_block_exit ?_ | refine n9 ?_)
    rw [wx_i32 (x := ((bs.getD 0 0).toNat : Int)) (by omega)]
    refine WL_runs rfl rfl rfl (R_andNot rfl rfl rfl) ?_
    repeat (first | refine n1 ?_ | refine n2 (fun b _ => ?_) | refine n3 (fun _ _ => ?_) | refine n4 ?_ | refine n5 ?_ | refine WL_nil ?_ | refine W_seq ?_ | refine W_region ?_ | refine n7 ?_ | refine n8 ?_ | refine W_block ?_ | refine W_skip ?_ | refine W_ret ?_ | refine W_exit ?_ | refine WQ_then ?_ | refine WQ_then_ret ?_ | refine WQ_then_exit ?_ | refine WQ_block_normal ?_ | refine WQ_block_ret ?_ | refine WQ_block_exit ?_ | refine n9 ?_)
    refine WL_runs rfl rfl rfl (R_and rfl rfl rfl) ?_
    refine WL_runs rfl rfl rfl (R_or rfl rfl (bdrop (bs.getD 0 0))) ?_
    repeat (first | refine n1 ?_ | refine n2 (fun b _ => ?_) | refine n3 (fun _ _ => ?_) | refine n4 ?_ | refine n5 ?_ | refine WL_nil ?_ | refine W_seq ?_ | refine W_region ?_ | refine n7 ?_ | refine n8 ?_ | refine W_block ?_ | refine W_skip ?_ | refine W_ret ?_ | refine W_exit ?_ | refine WQ_then ?_ | refine WQ_then_ret ?_ | refine WQ_then_exit ?_ | refine WQ_block_normal ?_ | refine WQ_block_ret ?_ | refine WQ_block_exit ?_ | refine n9 ?_)
    ((apply ret2 Tryd.results58 ( ((65533 : Int), (1 : Int)))); (focus (first | trivial | assumption | omega)); (focus (first | exact RV_tmp rfl | (apply RV_cellN; exact rfl; (repeat' (first | exact Pick.head _ _ | apply Pick.tail)); (intro _; exact rfl); (intro _; exact rfl); exact rfl) | (apply RV_cell1; exact rfl; (repeat' (first | exact Pick.head _ _ | apply Pick.tail)); (intro _; exact rfl); exact rfl))); (focus (first | exact RV_tmp rfl | (apply RV_cellN; exact rfl; (repeat' (first | exact Pick.head _ _ | apply Pick.tail)); (intro _; exact rfl); (intro _; exact rfl); exact rfl) | (apply RV_cell1; exact rfl; (repeat' (first | exact Pick.head _ _ | apply Pick.tail)); (intro _; exact rfl); exact rfl)));  (focus (first | exact rfl | (simp; done))); (focus (repeat (first | exact SubO.nil _ | (apply SubO.cons; (focus (repeat' (first | exact Pick.head _ _ | apply Pick.tail))))))); (focus (repeat (first | exact AllE.nil _ | (apply AllE.cons; (focus (first | exact ent_nilBy | exact ent_nilSl | (apply Ent.mem; repeat' (first | exact mcs | apply mct)))))))))
  · obtain ⟨sz, hsz⟩ : ∃ sz, f % 8 = sz := ⟨_, rfl⟩
    obtain ⟨q, hq⟩ : ∃ q, f / 16 = q := ⟨_, rfl⟩
    rw [hsz, hq] at k3
    rw [hq] at k2
    have hl := acc_lt q
    refine W_ent (ent_tbA (i := q) (by (focus (repeat' (first | exact mcs | apply mct)))) (by omega)) ?_
    generalize Lib.accLo q = lo at *
    generalize Lib.accHi q = hi at *
    have hb1 := (bs.getD 1 0).toNat_lt
    have hb2 := (bs.getD 2 0).toNat_lt
    have hb3 := (bs.getD 3 0).toNat_lt
    have ha : bits .and .u8 (f : Int) 7 = ((sz : Nat) : Int) := (u8_and7 _ (by omega) (by omega)).trans (by omega)
    have hs4 : ((f : Int)).fdiv (2 ^ (min (4 : Int).toNat IntKind.u8.bits)) = ((q : Nat) : Int) := by
      rw [show ((2 : Int) ^ (min (4 : Int).toNat IntKind.u8.bits)) = 16 from rfl, Int.fdiv_eq_ediv_of_nonneg _ (by decide)]
      omega
    repeat (first | refine n1 ?_ | refine n2 (fun b _ => ?_) | refine n3 (fun _ _ => ?_) | refine n4 ?_ | refine n5 ?_ | refine WL_nil ?_ | refine W_seq ?_ | refine W_region ?_ | refine n7 ?_ | refine n8 ?_ | refine W_block ?_ | refine W_skip ?_ | refine W_ret ?_ | refine W_exit ?_ | refine WQ_then ?_ | refine WQ_then_ret ?_ | refine WQ_then_exit ?_ | refine WQ_block_normal ?_ | refine WQ_block_ret ?_ | refine WQ_block_exit ?_ | refine n9 ?_)
    refine WL_runs rfl rfl rfl (R_and rfl rfl ha) ?_
    repeat (first | refine n1 ?_ | refine n2 (fun b _ => ?_) | refine n3 (fun _ _ => ?_) | refine n4 ?_ | refine n5 ?_ | refine WL_nil ?_ | refine W_seq ?_ | refine W_region ?_ | refine n7 ?_ | refine n8 ?_ | refine W_block ?_ | refine W_skip ?_ | refine W_ret ?_ | refine W_exit ?_ | refine WQ_then ?_ | refine WQ_then_ret ?_ | refine WQ_then_exit ?_ | refine WQ_block_normal ?_ | refine WQ_block_ret ?_ | refine WQ_block_exit ?_ | refine n9 ?_)
    refine WL_runs rfl rfl rfl (R_shr rfl rfl (by decide) hs4) ?_
    refine WL_runs rfl rfl rfl (R_idxArr2 (i := q) rfl rfl rfl (by intro _; exact rfl) rfl (by omega)) ?_
    by_cases d1 : bs.length < sz
    · repeat (first | refine n1 ?_ | refine n2 (fun b _ => ?_) | refine n3 (fun _ _ => ?_) | refine n4 ?_ | refine n5 ?_ | refine WL_nil ?_ | refine W_seq ?_ | refine W_region ?_ | refine n7 ?_ | refine n8 ?_ | refine W_block ?_ | refine W_skip ?_ | refine W_ret ?_ | refine W_exit ?_ | refine WQ_then ?_ | refine WQ_then_ret ?_ | refine WQ_then_exit ?_ | refine WQ_block_normal ?_ | refine WQ_block_ret ?_ | refine WQ_block_exit ?_ | refine n9 ?_)
      ((apply ret2 Tryd.results58 ( ((65533 : Int), (1 : Int)))); (focus (first | trivial | assumption | omega)); (focus (first | exact RV_tmp rfl | (apply RV_cellN; exact rfl; (repeat' (first | exact Pick.head _ _ | apply Pick.tail)); (intro _; exact rfl); (intro _; exact rfl); exact rfl) | (apply RV_cell1; exact rfl; (repeat' (first | exact Pick.head _ _ | apply Pick.tail)); (intro _; exact rfl); exact rfl))); (focus (first | exact RV_tmp rfl | (apply RV_cellN; exact rfl; (repeat' (first | exact Pick.head _ _ | apply Pick.tail)); (intro _; exact rfl); (intro _; exact rfl); exact rfl) | (apply RV_cell1; exact rfl; (repeat' (first | exact Pick.head _ _ | apply Pick.tail)); (intro _; exact rfl); exact rfl)));  (focus (first | exact rfl | (simp; done))); (focus (repeat (first | exact SubO.nil _ | (apply SubO.cons; (focus (repeat' (first | exact Pick.head _ _ | apply Pick.tail))))))); (focus (repeat (first | exact AllE.nil _ | (apply AllE.cons; (focus (first | exact ent_nilBy | exact ent_nilSl | (apply Ent.mem; repeat' (first | exact mcs | apply mct)))))))))
    have e1 : 1 < bs.length := by omega
    by_cases d2 : (bs.getD 1 0).toNat < lo
    · repeat (first | refine n1 ?_ | refine n2 (fun b _ => ?_) | refine n3 (fun _ _ => ?_) | refine n4 ?_ | refine n5 ?_ | refine WL_nil ?_ | refine W_seq ?_ | refine W_region ?_ | refine n7 ?_ | refine n8 ?_ | refine W_block ?_ | refine W_skip ?_ | refine W_ret ?_ | refine W_exit ?_ | refine WQ_then ?_ | refine WQ_then_ret ?_ | refine WQ_then_exit ?_ | refine WQ_block_normal ?_ | refine WQ_block_ret ?_ | refine WQ_block_exit ?_ | refine n9 ?_)
      ((apply ret2 Tryd.results58 ( ((65533 : Int), (1 : Int)))); (focus (first | trivial | assumption | omega)); (focus (first | exact RV_tmp rfl | (apply RV_cellN; exact rfl; (repeat' (first | exact Pick.head _ _ | apply Pick.tail)); (intro _; exact rfl); (intro _; exact rfl); exact rfl) | (apply RV_cell1; exact rfl; (repeat' (first | exact Pick.head _ _ | apply Pick.tail)); (intro _; exact rfl); exact rfl))); (focus (first | exact RV_tmp rfl | (apply RV_cellN; exact rfl; (repeat' (first | exact Pick.head _ _ | apply Pick.tail)); (intro _; exact rfl); (intro _; exact rfl); exact rfl) | (apply RV_cell1; exact rfl; (repeat' (first | exact Pick.head _ _ | apply Pick.tail)); (intro _; exact rfl); exact rfl)));  (focus (first | exact rfl | (simp; done))); (focus (repeat (first | exact SubO.nil _ | (apply SubO.cons; (focus (repeat' (first | exact Pick.head _ _ | apply Pick.tail))))))); (focus (repeat (first | exact AllE.nil _ | (apply AllE.cons; (focus (first | exact ent_nilBy | exact ent_nilSl | (apply Ent.mem; repeat' (first | exact mcs | apply mct)))))))))
    by_cases d3 : hi < (bs.getD 1 0).toNat
    · repeat (first | refine n1 ?_ | refine n2 (fun b _ => ?_) | refine n3 (fun _ _ => ?_) | refine n4 ?_ | refine n5 ?_ | refine WL_nil ?_ | refine W_seq ?_ | refine W_region ?_ | refine n7 ?_ | refine n8 ?_ | refine W_block ?_ | refine W_skip ?_ | refine W_ret ?_ | refine W_exit ?_ | refine WQ_then ?_ | refine WQ_then_ret ?_ | refine WQ_then_exit ?_ | refine WQ_block_normal ?_ | refine WQ_block_ret ?_ | refine WQ_block_exit ?_ | refine n9 ?_)
      ((apply ret2 Tryd.results58 ( ((65533 : Int), (1 : Int)))); (focus (first | trivial | assumption | omega)); (focus (first | exact RV_tmp rfl | (apply RV_cellN; exact rfl; (repeat' (first | exact Pick.head _ _ | apply Pick.tail)); (intro _; exact rfl); (intro _; exact rfl); exact rfl) | (apply RV_cell1; exact rfl; (repeat' (first | exact Pick.head _ _ | apply Pick.tail)); (intro _; exact rfl); exact rfl))); (focus (first | exact RV_tmp rfl | (apply RV_cellN; exact rfl; (repeat' (first | exact Pick.head _ _ | apply Pick.tail)); (intro _; exact rfl); (intro _; exact rfl); exact rfl) | (apply RV_cell1; exact rfl; (repeat' (first | exact Pick.head _ _ | apply Pick.tail)); (intro _; exact rfl); exact rfl)));  (focus (first | exact rfl | (simp; done))); (focus (repeat (first | exact SubO.nil _ | (apply SubO.cons; (focus (repeat' (first | exact Pick.head _ _ | apply Pick.tail))))))); (focus (repeat (first | exact AllE.nil _ | (apply AllE.cons; (focus (first | exact ent_nilBy | exact ent_nilSl | (apply Ent.mem; repeat' (first | exact mcs | apply mct)))))))))
    by_cases d4 : sz ≤ 2
    · have hne : (((bs.getD 0 0).toNat % 32 * 64 + (bs.getD 1 0).toNat % 64 : Nat) : Int) ≠ 0 := by omega
      repeat (first | refine n1 ?_ | refine n2 (fun b _ => ?_) | refine n3 (fun _ _ => ?_) | refine n4 ?_ | refine n5 ?_ | refine WL_nil ?_ | refine W_seq ?_ | refine W_region ?_ | refine n7 ?_ | refine n8 ?_ | refine W_block ?_ | refine W_skip ?_ | refine W_ret ?_ | refine W_exit ?_ | refine WQ_then ?_ | refine WQ_then_ret ?_ | refine WQ_then_exit ?_ | refine WQ_block_normal ?_ | refine WQ_block_ret ?_ | refine WQ_block_exit ?_ | refine n9 ?_)
      refine WL_runs rfl rfl rfl (R_and rfl rfl (ba31 (bs.getD 0 0))) ?_
      refine WL_runs rfl rfl rfl (R_convi rfl rfl rfl (wx_i32 (by omega))) ?_
      refine WL_runs rfl rfl rfl (R_shl rfl rfl (by decide) (bs6 _ (by omega))) ?_
      repeat (first | refine n1 ?_ | refine n2 (fun b _ => ?_) | refine n3 (fun _ _ => ?_) | refine n4 ?_ | refine n5 ?_ | refine WL_nil ?_ | refine W_seq ?_ | refine W_region ?_ | refine n7 ?_ | refine n8 ?_ | refine W_block ?_ | refine W_skip ?_ | refine W_ret ?_ | refine W_exit ?_ | refine WQ_then ?_ | refine WQ_then_ret ?_ | refine WQ_then_exit ?_ | refine WQ_block_normal ?_ | refine WQ_block_ret ?_ | refine WQ_block_exit ?_ | refine n9 ?_)
      refine WL_runs rfl rfl rfl (R_and rfl rfl (ba63 (bs.getD 1 0))) ?_
      refine WL_runs rfl rfl rfl (R_convi rfl rfl rfl (wx_i32 (by omega))) ?_
      refine WL_runs rfl rfl rfl (R_or rfl rfl (bo6 _ _ (by omega) (by omega) (by omega))) ?_
      repeat (first | refine n1 ?_ | refine n2 (fun b _ => ?_) | refine n3 (fun _ _ => ?_) | refine n4 ?_ | refine n5 ?_ | refine WL_nil ?_ | refine W_seq ?_ | refine W_region ?_ | refine n7 ?_ | refine n8 ?_ | refine W_block ?_ | refine W_skip ?_ | refine W_ret ?_ | refine W_exit ?_ | refine WQ_then ?_ | refine WQ_then_ret ?_ | refine WQ_then_exit ?_ | refine WQ_block_normal ?_ | refine WQ_block_ret ?_ | refine WQ_block_exit ?_ | refine n9 ?_)
      ((apply ret2 Tryd.results58 ( ((((bs.getD 0 0).toNat % 32 * 64 + (bs.getD 1 0).toNat % 64 : Nat) : Int), (2 : Int)))); (focus (first | trivial | assumption | omega)); (focus (first | exact RV_tmp rfl | (apply RV_cellN; exact rfl; (repeat' (first | exact Pick.head _ _ | apply Pick.tail)); (intro _; exact rfl); (intro _; exact rfl); exact rfl) | (apply RV_cell1; exact rfl; (repeat' (first | exact Pick.head _ _ | apply Pick.tail)); (intro _; exact rfl); exact rfl))); (focus (first | exact RV_tmp rfl | (apply RV_cellN; exact rfl; (repeat' (first | exact Pick.head _ _ | apply Pick.tail)); (intro _; exact rfl); (intro _; exact rfl); exact rfl) | (apply RV_cell1; exact rfl; (repeat' (first | exact Pick.head _ _ | apply Pick.tail)); (intro _; exact rfl); exact rfl)));  (focus (first | exact rfl | (simp; done))); (focus (repeat (first | exact SubO.nil _ | (apply SubO.cons; (focus (repeat' (first | exact Pick.head _ _ | apply Pick.tail))))))); (focus (repeat (first | exact AllE.nil _ | (apply AllE.cons; (focus (first | exact ent_nilBy | exact ent_nilSl | (apply Ent.mem; repeat' (first | exact mcs | apply mct)))))))))
    have e2 : 2 < bs.length := by omega
    by_cases d5 : (bs.getD 2 0).toNat < 128
    · repeat (first | refine n1 ?_ | refine n2 (fun b _ => ?_) | refine n3 (fun _ _ => ?_) | refine n4 ?_ | refine n5 ?_ | refine WL_nil ?_ | refine W_seq ?_ | refine W_region ?_ | refine n7 ?_ | refine n8 ?_ | refine W_block ?_ | refine W_skip ?_ | refine W_ret ?_ | refine W_exit ?_ | refine WQ_then ?_ | refine WQ_then_ret ?_ | refine WQ_then_exit ?_ | refine WQ_block_normal ?_ | refine WQ_block_ret ?_ | refine WQ_block_exit ?_ | refine n9 ?_)
      ((apply ret2 Tryd.results58 ( ((65533 : Int), (1 : Int)))); (focus (first | trivial | assumption | omega)); (focus (first | exact RV_tmp rfl | (apply RV_cellN; exact rfl; (repeat' (first | exact Pick.head _ _ | apply Pick.tail)); (intro _; exact rfl); (intro _; exact rfl); exact rfl) | (apply RV_cell1; exact rfl; (repeat' (first | exact Pick.head _ _ | apply Pick.tail)); (intro _; exact rfl); exact rfl))); (focus (first | exact RV_tmp rfl | (apply RV_cellN; exact rfl; (repeat' (first | exact Pick.head _ _ | apply Pick.tail)); (intro _; exact rfl); (intro _; exact rfl); exact rfl) | (apply RV_cell1; exact rfl; (repeat' (first | exact Pick.head _ _ | apply Pick.tail)); (intro _; exact rfl); exact rfl)));  (focus (first | exact rfl | (simp; done))); (focus (repeat (first | exact SubO.nil _ | (apply SubO.cons; (focus (repeat' (first | exact Pick.head _ _ | apply Pick.tail))))))); (focus (repeat (first | exact AllE.nil _ | (apply AllE.cons; (focus (first | exact ent_nilBy | exact ent_nilSl | (apply Ent.mem; repeat' (first | exact mcs | apply mct)))))))))
    by_cases d6 : 191 < (bs.getD 2 0).toNat
    · repeat (first | refine n1 ?_ | refine n2 (fun b _ => ?_) | refine n3 (fun _ _ => ?_) | refine n4 ?_ | refine n5 ?_ | refine WL_nil ?_ | refine W_seq ?_ | refine W_region ?_ | refine n7 ?_ | refine n8 ?_ | refine W_block ?_ | refine W_skip ?_ | refine W_ret ?_ | refine W_exit ?_ | refine WQ_then ?_ | refine WQ_then_ret ?_ | refine WQ_then_exit ?_ | refine WQ_block_normal ?_ | refine WQ_block_ret ?_ | refine WQ_block_exit ?_ | refine n9 ?_)
      ((apply ret2 Tryd.results58 ( ((65533 : Int), (1 : Int)))); (focus (first | trivial | assumption | omega)); (focus (first | exact RV_tmp rfl | (apply RV_cellN; exact rfl; (repeat' (first | exact Pick.head _ _ | apply Pick.tail)); (intro _; exact rfl); (intro _; exact rfl); exact rfl) | (apply RV_cell1; exact rfl; (repeat' (first | exact Pick.head _ _ | apply Pick.tail)); (intro _; exact rfl); exact rfl))); (focus (first | exact RV_tmp rfl | (apply RV_cellN; exact rfl; (repeat' (first | exact Pick.head _ _ | apply Pick.tail)); (intro _; exact rfl); (intro _; exact rfl); exact rfl) | (apply RV_cell1; exact rfl; (repeat' (first | exact Pick.head _ _ | apply Pick.tail)); (intro _; exact rfl); exact rfl)));  (focus (first | exact rfl | (simp; done))); (focus (repeat (first | exact SubO.nil _ | (apply SubO.cons; (focus (repeat' (first | exact Pick.head _ _ | apply Pick.tail))))))); (focus (repeat (first | exact AllE.nil _ | (apply AllE.cons; (focus (first | exact ent_nilBy | exact ent_nilSl | (apply Ent.mem; repeat' (first | exact mcs | apply mct)))))))))
    by_cases d7 : sz ≤ 3
    · have hne : (((bs.getD 0 0).toNat % 16 * 4096 + (bs.getD 1 0).toNat % 64 * 64 + (bs.getD 2 0).toNat % 64 : Nat) : Int) ≠ 0 := by omega
      repeat (first | refine n1 ?_ | refine n2 (fun b _ => ?_) | refine n3 (fun _ _ => ?_) | refine n4 ?_ | refine n5 ?_ | refine WL_nil ?_ | refine W_seq ?_ | refine W_region ?_ | refine n7 ?_ | refine n8 ?_ | refine W_block ?_ | refine W_skip ?_ | refine W_ret ?_ | refine W_exit ?_ | refine WQ_then ?_ | refine WQ_then_ret ?_ | refine WQ_then_exit ?_ | refine WQ_block_normal ?_ | refine WQ_block_ret ?_ | refine WQ_block_exit ?_ | refine n9 ?_)
      refine WL_runs rfl rfl rfl (R_and rfl rfl (ba15 (bs.getD 0 0))) ?_
      refine WL_runs rfl rfl rfl (R_convi rfl rfl rfl (wx_i32 (by omega))) ?_
      refine WL_runs rfl rfl rfl (R_shl rfl rfl (by decide) (bs12 _ (by omega))) ?_
      repeat (first | refine n1 ?_ | refine n2 (fun b _ => ?_) | refine n3 (fun _ _ => ?_) | refine n4 ?_ | refine n5 ?_ | refine WL_nil ?_ | refine W_seq ?_ | refine W_region ?_ | refine n7 ?_ | refine n8 ?_ | refine W_block ?_ | refine W_skip ?_ | refine W_ret ?_ | refine W_exit ?_ | refine WQ_then ?_ | refine WQ_then_ret ?_ | refine WQ_then_exit ?_ | refine WQ_block_normal ?_ | refine WQ_block_ret ?_ | refine WQ_block_exit ?_ | refine n9 ?_)
      refine WL_runs rfl rfl rfl (R_and rfl rfl (ba63 (bs.getD 1 0))) ?_
      refine WL_runs rfl rfl rfl (R_convi rfl rfl rfl (wx_i32 (by omega))) ?_
      refine WL_runs rfl rfl rfl (R_shl rfl rfl (by decide) (bs6 _ (by omega))) ?_
      refine WL_runs rfl rfl rfl (R_or rfl rfl (bo12 _ _ (by omega) (by omega) (by omega))) ?_
      repeat (first | refine n1 ?_ | refine n2 (fun b _ => ?_) | refine n3 (fun _ _ => ?_) | refine n4 ?_ | refine n5 ?_ | refine WL_nil ?_ | refine W_seq ?_ | refine W_region ?_ | refine n7 ?_ | refine n8 ?_ | refine W_block ?_ | refine W_skip ?_ | refine W_ret ?_ | refine W_exit ?_ | refine WQ_then ?_ | refine WQ_then_ret ?_ | refine WQ_then_exit ?_ | refine WQ_block_normal ?_ | refine WQ_block_ret ?_ | refine WQ_block_exit ?_ | refine n9 ?_)
      refine WL_runs rfl rfl rfl (R_and rfl rfl (ba63 (bs.getD 2 0))) ?_
      refine WL_runs rfl rfl rfl (R_convi rfl rfl rfl (wx_i32 (by omega))) ?_
      refine WL_runs rfl rfl rfl (R_or rfl rfl (bo6 _ _ (by omega) (by omega) (by omega))) ?_
      repeat (first | refine n1 ?_ | refine n2 (fun b _ => ?_) | refine n3 (fun _ _ => ?_) | refine n4 ?_ | refine n5 ?_ | refine WL_nil ?_ | refine W_seq ?_ | refine W_region ?_ | refine n7 ?_ | refine n8 ?_ | refine W_block ?_ | refine W_skip ?_ | refine W_ret ?_ | refine W_exit ?_ | refine WQ_then ?_ | refine WQ_then_ret ?_ | refine WQ_then_exit ?_ | refine WQ_block_normal ?_ | refine WQ_block_ret ?_ | refine WQ_block_exit ?_ | refine n9 ?_)
      ((apply ret2 Tryd.results58 ( ((((bs.getD 0 0).toNat % 16 * 4096 + (bs.getD 1 0).toNat % 64 * 64 + (bs.getD 2 0).toNat % 64 : Nat) : Int), (3 : Int)))); (focus (first | trivial | assumption | omega)); (focus (first | exact RV_tmp rfl | (apply RV_cellN; exact rfl; (repeat' (first | exact Pick.head _ _ | apply Pick.tail)); (intro _; exact rfl); (intro _; exact rfl); exact rfl) | (apply RV_cell1; exact rfl; (repeat' (first | exact Pick.head _ _ | apply Pick.tail)); (intro _; exact rfl); exact rfl))); (focus (first | exact RV_tmp rfl | (apply RV_cellN; exact rfl; (repeat' (first | exact Pick.head _ _ | apply Pick.tail)); (intro _; exact rfl); (intro _; exact rfl); exact rfl) | (apply RV_cell1; exact rfl; (repeat' (first | exact Pick.head _ _ | apply Pick.tail)); (intro _; exact rfl); exact rfl)));  (focus (first | exact rfl | (simp; done))); (focus (repeat (first | exact SubO.nil _ | (apply SubO.cons; (focus (repeat' (first | exact Pick.head _ _ | apply Pick.tail))))))); (focus (repeat (first | exact AllE.nil _ | (apply AllE.cons; (focus (first | exact ent_nilBy | exact ent_nilSl | (apply Ent.mem; repeat' (first | exact mcs | apply mct)))))))))
    have e3 : 3 < bs.length := by omega
    by_cases d8 : (bs.getD 3 0).toNat < 128
    · repeat (first | refine n1 ?_ | refine n2 (fun b _ => ?_) | refine n3 (fun _ _ => ?_) | refine n4 ?_ | refine n5 ?_ | refine WL_nil ?_ | refine W_seq ?_ | refine W_region ?_ | refine n7 ?_ | refine n8 ?_ | refine W_block ?_ | refine W_skip ?_ | refine W_ret ?_ | refine W_exit ?_ | refine WQ_then ?_ | refine WQ_then_ret ?_ | refine WQ_then_exit ?_ | refine WQ_block_normal ?_ | refine WQ_block_ret ?_ | refine WQ_block_exit ?_ | refine n9 ?_)
      ((apply ret2 Tryd.results58 ( ((65533 : Int), (1 : Int)))); (focus (first | trivial | assumption | omega)); (focus (first | exact RV_tmp rfl | (apply RV_cellN; exact rfl; (repeat' (first | exact Pick.head _ _ | apply Pick.tail)); (intro _; exact rfl); (intro _; exact rfl); exact rfl) | (apply RV_cell1; exact rfl; (repeat' (first | exact Pick.head _ _ | apply Pick.tail)); (intro _; exact rfl); exact rfl))); (focus (first | exact RV_tmp rfl | (apply RV_cellN; exact rfl; (repeat' (first | exact Pick.head _ _ | apply Pick.tail)); (intro _; exact rfl); (intro _; exact rfl); exact rfl) | (apply RV_cell1; exact rfl; (repeat' (first | exact Pick.head _ _ | apply Pick.tail)); (intro _; exact rfl); exact rfl)));  (focus (first | exact rfl | (simp; done))); (focus (repeat (first | exact SubO.nil _ | (apply SubO.cons; (focus (repeat' (first | exact Pick.head _ _ | apply Pick.tail))))))); (focus (repeat (first | exact AllE.nil _ | (apply AllE.cons; (focus (first | exact ent_nilBy | exact ent_nilSl | (apply Ent.mem; repeat' (first | exact mcs | apply mct)))))))))
    by_cases d9 : 191 < (bs.getD 3 0).toNat
    · repeat (first | refine n1 ?_ | refine n2 (fun b _ => ?_) | refine n3 (fun _ _ => ?_) | refine n4 ?_ | refine n5 ?_ | refine WL_nil ?_ | refine W_seq ?_ | refine W_region ?_ | refine n7 ?_ | refine n8 ?_ | refine W_block ?_ | refine W_skip ?_ | refine W_ret ?_ | refine W_exit ?_ | refine WQ_then ?_ | refine WQ_then_ret ?_ | refine WQ_then_exit ?_ | refine WQ_block_normal ?_ | refine WQ_block_ret ?_ | refine WQ_block_exit ?_ | refine n9 ?_)
      ((apply ret2 Tryd.results58 ( ((65533 : Int), (1 : Int)))); (focus (first | trivial | assumption | omega)); (focus (first | exact RV_tmp rfl | (apply RV_cellN; exact rfl; (repeat' (first | exact Pick.head _ _ | apply Pick.tail)); (intro _; exact rfl); (intro _; exact rfl); exact rfl) | (apply RV_cell1; exact rfl; (repeat' (first | exact Pick.head _ _ | apply Pick.tail)); (intro _; exact rfl); exact rfl))); (focus (first | exact RV_tmp rfl | (apply RV_cellN; exact rfl; (repeat' (first | exact Pick.head _ _ | apply Pick.tail)); (intro _; exact rfl); (intro _; exact rfl); exact rfl) | (apply RV_cell1; exact rfl; (repeat' (first | exact Pick.head _ _ | apply Pick.tail)); (intro _; exact rfl); exact rfl)));  (focus (first | exact rfl | (simp; done))); (focus (repeat (first | exact SubO.nil _ | (apply SubO.cons; (focus (repeat' (first | exact Pick.head _ _ | apply Pick.tail))))))); (focus (repeat (first | exact AllE.nil _ | (apply AllE.cons; (focus (first | exact ent_nilBy | exact ent_nilSl | (apply Ent.mem; repeat' (first | exact mcs | apply mct)))))))))
    · have hne : (((bs.getD 0 0).toNat % 8 * 262144 + (bs.getD 1 0).toNat % 64 * 4096 + (bs.getD 2 0).toNat % 64 * 64 + (bs.getD 3 0).toNat % 64 : Nat) : Int) ≠ 0 := by omega
      repeat (first | refine n1 ?_ | refine n2 (fun b _ => ?_) | refine n3 (fun _ _ => ?_) | refine n4 ?_ | refine n5 ?_ | refine WL_nil ?_ | refine W_seq ?_ | refine W_region ?_ | refine n7 ?_ | refine n8 ?_ | refine W_block ?_ | refine W_skip ?_ | refine W_ret ?_ | refine W_exit ?_ | refine WQ_then ?_ | refine WQ_then_ret ?_ | refine WQ_then_exit ?_ | refine WQ_block_normal ?_ | refine WQ_block_ret ?_ | refine WQ_block_exit ?_ | refine n9 ?_)
      refine WL_runs rfl rfl rfl (R_and rfl rfl (ba7 (bs.getD 0 0))) ?_
      refine WL_runs rfl rfl rfl (R_convi rfl rfl rfl (wx_i32 (by omega))) ?_
      refine WL_runs rfl rfl rfl (R_shl rfl rfl (by decide) (bs18 _ (by omega))) ?_
      repeat (first | refine n1 ?_ | refine n2 (fun b _ => ?_) | refine n3 (fun _ _ => ?_) | refine n4 ?_ | refine n5 ?_ | refine WL_nil ?_ | refine W_seq ?_ | refine W_region ?_ | refine n7 ?_ | refine n8 ?_ | refine W_block ?_ | refine W_skip ?_ | refine W_ret ?_ | refine W_exit ?_ | refine WQ_then ?_ | refine WQ_then_ret ?_ | refine WQ_then_exit ?_ | refine WQ_block_normal ?_ | refine WQ_block_ret ?_ | refine WQ_block_exit ?_ | refine n9 ?_)
      refine WL_runs rfl rfl rfl (R_and rfl rfl (ba63 (bs.getD 1 0))) ?_
      refine WL_runs rfl rfl rfl (R_convi rfl rfl rfl (wx_i32 (by omega))) ?_
      refine WL_runs rfl rfl rfl (R_shl rfl rfl (by decide) (bs12 _ (by omega))) ?_
      refine WL_runs rfl rfl rfl (R_or rfl rfl (bo18 _ _ (by omega) (by omega) (by omega))) ?_
      repeat (first | refine n1 ?_ | refine n2 (fun b _ => ?_) | refine n3 (fun _ _ => ?_) | refine n4 ?_ | refine n5 ?_ | refine WL_nil ?_ | refine W_seq ?_ | refine W_region ?_ | refine n7 ?_ | refine n8 ?_ | refine W_block ?_ | refine W_skip ?_ | refine W_ret ?_ | refine W_exit ?_ | refine WQ_then ?_ | refine WQ_then_ret ?_ | refine WQ_then_exit ?_ | refine WQ_block_normal ?_ | refine WQ_block_ret ?_ | refine WQ_block_exit ?_ | refine n9 ?_)
      refine WL_runs rfl rfl rfl (R_and rfl rfl (ba63 (bs.getD 2 0))) ?_
      refine WL_runs rfl rfl rfl (R_convi rfl rfl rfl (wx_i32 (by omega))) ?_
      refine WL_runs rfl rfl rfl (R_shl rfl rfl (by decide) (bs6 _ (by omega))) ?_
      refine WL_runs rfl rfl rfl (R_or rfl rfl (bo12 _ _ (by omega) (by omega) (by omega))) ?_
      repeat (first | refine n1 ?_ | refine n2 (fun b _ => ?_) | refine n3 (fun _ _ => ?_) | refine n4 ?_ | refine n5 ?_ | refine WL_nil ?_ | refine W_seq ?_ | refine W_region ?_ | refine n7 ?_ | refine n8 ?_ | refine W_block ?_ | refine W_skip ?_ | refine W_ret ?_ | refine W_exit ?_ | refine WQ_then ?_ | refine WQ_then_ret ?_ | refine WQ_then_exit ?_ | refine WQ_block_normal ?_ | refine WQ_block_ret ?_ | refine WQ_block_exit ?_ | refine n9 ?_)
      refine WL_runs rfl rfl rfl (R_and rfl rfl (ba63 (bs.getD 3 0))) ?_
      refine WL_runs rfl rfl rfl (R_convi rfl rfl rfl (wx_i32 (by omega))) ?_
      refine WL_runs rfl rfl rfl (R_or rfl rfl (bo6 _ _ (by omega) (by omega) (by omega))) ?_
      repeat (first | refine n1 ?_ | refine n2 (fun b _ => ?_) | refine n3 (fun _ _ => ?_) | refine n4 ?_ | refine n5 ?_ | refine WL_nil ?_ | refine W_seq ?_ | refine W_region ?_ | refine n7 ?_ | refine n8 ?_ | refine W_block ?_ | refine W_skip ?_ | refine W_ret ?_ | refine W_exit ?_ | refine WQ_then ?_ | refine WQ_then_ret ?_ | refine WQ_then_exit ?_ | refine WQ_block_normal ?_ | refine WQ_block_ret ?_ | refine WQ_block_exit ?_ | refine n9 ?_)
      ((apply ret2 Tryd.results58 ( ((((bs.getD 0 0).toNat % 8 * 262144 + (bs.getD 1 0).toNat % 64 * 4096 + (bs.getD 2 0).toNat % 64 * 64 + (bs.getD 3 0).toNat % 64 : Nat) : Int), (4 : Int)))); (focus (first | trivial | assumption | omega)); (focus (first | exact RV_tmp rfl | (apply RV_cellN; exact rfl; (repeat' (first | exact Pick.head _ _ | apply Pick.tail)); (intro _; exact rfl); (intro _; exact rfl); exact rfl) | (apply RV_cell1; exact rfl; (repeat' (first | exact Pick.head _ _ | apply Pick.tail)); (intro _; exact rfl); exact rfl))); (focus (first | exact RV_tmp rfl | (apply RV_cellN; exact rfl; (repeat' (first | exact Pick.head _ _ | apply Pick.tail)); (intro _; exact rfl); (intro _; exact rfl); exact rfl) | (apply RV_cell1; exact rfl; (repeat' (first | exact Pick.head _ _ | apply Pick.tail)); (intro _; exact rfl); exact rfl)));  (focus (first | exact rfl | (simp; done))); (focus (repeat (first | exact SubO.nil _ | (apply SubO.cons; (focus (repeat' (first | exact Pick.head _ _ | apply Pick.tail))))))); (focus (repeat (first | exact AllE.nil _ | (apply AllE.cons; (focus (first | exact ent_nilBy | exact ent_nilSl | (apply Ent.mem; repeat' (first | exact mcs | apply mct)))))))))
end Go.Proofs.YteojehocflbgdaaDoor.C08d

/-
  'ContainsFunc' of bytes that are not zero.
-/
namespace Go.Proofs.YteojehocflbgdaaDoor.C08d
open Go Go.RowKit Go.Hs C08
theorem rest_get (bs : List UInt8) (i : Nat) (h : i < bs.length) : ((bs.drop i).take (bs.length - i)).length = bs.length - i ∧ ((bs.drop i).take (bs.length - i)).getD 0 0 = bs.getD i 0 := by
  rw [List.take_of_length_le (by rw [List.length_drop]; exact Nat.le_refl _)]
  refine ⟨List.length_drop, ?_⟩
  rw [List.getD_eq_getElem?_getD, List.getD_eq_getElem?_getD, List.getElem?_drop, Nat.add_zero]
def nzB (bs : List UInt8) : Bool := bs.any fun b => decide (b ≠ 0)
theorem nzB_at {bs : List UInt8} {i : Nat} (h : i < bs.length) (hb : bs.getD i 0 ≠ 0) : nzB bs = true := by
  unfold nzB
  refine List.any_eq_true.2 ⟨bs[i], List.getElem_mem h, ?_⟩
  rw [List.getD_eq_getElem?_getD, List.getElem?_eq_getElem h] at hb
  exact decide_eq_true hb
theorem nzB_none {bs : List UInt8} (h : ∀ i, i < bs.length → bs.getD i 0 = 0) : nzB bs = false := by
  unfold nzB
  rw [List.any_eq_false]
  intro b hb
  obtain ⟨i, hi, rfl⟩ := List.mem_iff_getElem.1 hb
  have := h i hi
  rw [List.getD_eq_getElem?_getD, List.getElem?_eq_getElem hi] at this
  simpa using this
theorem u8_ne0 {b : UInt8} : b ≠ 0 ↔ b.toNat ≠ 0 := by
  rw [Ne, Ne, ← UInt8.toNat_inj]
  exact Iff.rfl
attribute [local irreducible] WL W WQ PL Runs Effs AllE Ent SubO FrIn Pick OneC Ones CellsE PartsE SeqE UZ By Sl Pt Ct

set_option maxRecDepth 100000 in
theorem nz_fn (r : Int) : CtD Tryd.prog 35 [.int .i32 r] [] (.bool (decide (r ≠ 0))) := by
  by_cases h : r = 0
  · subst h
    refine Ct_intro Tryd.func35 rfl Tryd.ntmps35 (by simp) _ rfl (fun w0 O0 => ?_)
    repeat (first | refine n1 ?_ | refine n2 (fun b _ => ?_) | refine n3 (fun _ _ => ?_) | refine n4 ?_ | refine n5 ?_ | refine WL_nil ?_ | refine W_seq ?_ | refine W_region ?_ | refine n7 ?_ | refine n8 ?_ | refine W_block ?_ | refine W_skip ?_ | refine W_ret ?_ | refine W_exit ?_ | refine WQ_then ?_ | refine WQ_then_ret ?_ | refine WQ_then_exit ?_ | refine WQ_block_normal ?_ | refine WQ_block_ret ?_ | refine WQ_block_exit ?_ | refine n9 ?_)
    ((apply ret1 Tryd.results35 ( ())); (focus (first | trivial | assumption | omega)); (focus (first | exact RV_tmp rfl | (apply RV_cellN; exact rfl; (repeat' (first | exact Pick.head _ _ | apply Pick.tail)); (intro _; exact rfl); (intro _; exact rfl); exact rfl) | (apply RV_cell1; exact rfl; (repeat' (first | exact Pick.head _ _ | apply Pick.tail)); (intro _; exact rfl); exact rfl)));  (focus (first | exact rfl | (simp; done))); (focus (repeat (first | exact SubO.nil _ | (apply SubO.cons; (focus (repeat' (first | exact Pick.head _ _ | apply Pick.tail))))))); (focus (repeat (first | exact AllE.nil _ | (apply AllE.cons; (focus (first | exact ent_nilBy | exact ent_nilSl | (apply Ent.mem; repeat' (first | exact mcs | apply mct)))))))))
  · rw [decide_eq_true h]
    refine Ct_intro Tryd.func35 rfl Tryd.ntmps35 (by simp) _ rfl (fun w0 O0 => ?_)
    repeat (first | refine n1 ?_ | refine n2 (fun b _ => ?_) | refine n3 (fun _ _ => ?_) | refine n4 ?_ | refine n5 ?_ | refine WL_nil ?_ | refine W_seq ?_ | refine W_region ?_ | refine n7 ?_ | refine n8 ?_ | refine W_block ?_ | refine W_skip ?_ | refine W_ret ?_ | refine W_exit ?_ | refine WQ_then ?_ | refine WQ_then_ret ?_ | refine WQ_then_exit ?_ | refine WQ_block_normal ?_ | refine WQ_block_ret ?_ | refine WQ_block_exit ?_ | refine n9 ?_)
    ((apply ret1 Tryd.results35 ( ())); (focus (first | trivial | assumption | omega)); (focus (first | exact RV_tmp rfl | (apply RV_cellN; exact rfl; (repeat' (first | exact Pick.head _ _ | apply Pick.tail)); (intro _; exact rfl); (intro _; exact rfl); exact rfl) | (apply RV_cell1; exact rfl; (repeat' (first | exact Pick.head _ _ | apply Pick.tail)); (intro _; exact rfl); exact rfl)));  (focus (first | exact rfl | (simp; done))); (focus (repeat (first | exact SubO.nil _ | (apply SubO.cons; (focus (repeat' (first | exact Pick.head _ _ | apply Pick.tail))))))); (focus (repeat (first | exact AllE.nil _ | (apply AllE.cons; (focus (first | exact ent_nilBy | exact ent_nilSl | (apply Ent.mem; repeat' (first | exact mcs | apply mct)))))))))

set_option maxRecDepth 100000 in
set_option maxHeartbeats 4000000 in
theorem decode_fn (v : Value) (bs : List UInt8) (h0 : 1 ≤ bs.length) : Ct Tryd.prog 56 [v] [] [By v bs, tbF, tbA]
    (X := Int × Int) (fun x => ((bs.getD 0 0).toNat < 128 → x = (((bs.getD 0 0).toNat : Int), 1)) ∧ (128 ≤ (bs.getD 0 0).toNat → x.1 ≠ 0)) (fun x => .tuple #[.int .i32 x.1, .int .i64 x.2]) (fun _ => []) (fun _ => []) := by
  have hc := (bs.getD 0 0).toNat_lt
  refine Ct_intro Tryd.func56 rfl Tryd.ntmps56 (by simp) _ rfl (fun w0 O0 => ?_)
  refine W_pure (by_le (v := v) (bs := bs) (by repeat' (first | exact mcs | apply mct))) fun hle => ?_
  repeat (first | refine n1 ?_ | refine n2 (fun b _ => ?_) | refine n3 (fun _ _ => ?_) | refine n4 ?_ | refine n5 ?_ | refine WL_nil ?_ | refine W_seq ?_ | refine W_region ?_ | refine n7 ?_ | refine n8 ?_ | refine W_block ?_ | refine W_skip ?_ | refine W_ret ?_ | refine W_exit ?_ | refine WQ_then ?_ | refine WQ_then_ret ?_ | refine WQ_then_exit ?_ | refine WQ_block_normal ?_ | refine WQ_block_ret ?_ | refine WQ_block_exit ?_ | refine n9 ?_)
  ((apply W_loopK (X := Unit) [5, 8] [] (fun _ => True) (fun _ => [(8, .int .i64 0)]) (fun _ => []) (fun _ => []) (fun _ => 0) (())); (focus (first | trivial | omega | exact ⟨by omega, by omega⟩ | (simp; done))); exact rfl; exact rfl; (intro _; exact rfl); (intro _; exact rfl); (intro _; exact rfl); (focus (repeat (first | exact FrIn.nil _ | (apply FrIn.cons; exact rfl; (first | exact rfl | (congr 1; first | omega | (dsimp only; omega)) | (simp; done)))))); (focus (repeat (first | exact SubO.nil _ | (apply SubO.cons; (focus (repeat' (first | exact Pick.head _ _ | apply Pick.tail))))))); (focus (repeat (first | exact AllE.nil _ | (apply AllE.cons; (focus (first | exact ent_nilBy | exact ent_nilSl | (apply Ent.mem; repeat' (first | exact mcs | apply mct)))))))); intro x hx)
  dsimp only
  by_cases h1 : (bs.getD 0 0).toNat < 128
  · repeat (first | refine n1 ?_ | refine n2 (fun b _ => ?_) | refine n3 (fun _ _ => ?_) | refine n4 ?_ | refine n5 ?_ | refine WL_nil ?_ | refine W_seq ?_ | refine W_region ?_ | refine n7 ?_ | refine n8 ?_ | refine W_block ?_ | refine W_skip ?_ | refine W_ret ?_ | refine W_exit ?_ | refine WQ_then ?_ | refine WQ_then_ret ?_ | refine WQ_then_exit ?_ | refine WQ_block_normal ?_ | refine WQ_block_ret ?_ | refine WQ_block_exit ?_ | refine n9 ?_)
    rw [wx_i32 (x := ((bs.getD 0 0).toNat : Int)) (by omega)]
    have hp : ((bs.getD 0 0).toNat < 128 → ((((bs.getD 0 0).toNat : Int), (1 : Int)) : Int × Int) = (((bs.getD 0 0).toNat : Int), 1)) ∧ (128 ≤ (bs.getD 0 0).toNat → ((bs.getD 0 0).toNat : Int) ≠ 0) := ⟨fun _ => rfl, fun h => absurd h (by omega)⟩
    ((apply ret2 Tryd.results56 ( ((((bs.getD 0 0).toNat : Int), (1 : Int)) : Int × Int))); (focus (first | trivial | assumption | omega)); (focus (first | exact RV_tmp rfl | (apply RV_cellN; exact rfl; (repeat' (first | exact Pick.head _ _ | apply Pick.tail)); (intro _; exact rfl); (intro _; exact rfl); exact rfl) | (apply RV_cell1; exact rfl; (repeat' (first | exact Pick.head _ _ | apply Pick.tail)); (intro _; exact rfl); exact rfl))); (focus (first | exact RV_tmp rfl | (apply RV_cellN; exact rfl; (repeat' (first | exact Pick.head _ _ | apply Pick.tail)); (intro _; exact rfl); (intro _; exact rfl); exact rfl) | (apply RV_cell1; exact rfl; (repeat' (first | exact Pick.head _ _ | apply Pick.tail)); (intro _; exact rfl); exact rfl)));  (focus (first | exact rfl | (simp; done))); (focus (repeat (first | exact SubO.nil _ | (apply SubO.cons; (focus (repeat' (first | exact Pick.head _ _ | apply Pick.tail))))))); (focus (repeat (first | exact AllE.nil _ | (apply AllE.cons; (focus (first | exact ent_nilBy | exact ent_nilSl | (apply Ent.mem; repeat' (first | exact mcs | apply mct)))))))))
  · repeat (first | refine n1 ?_ | refine n2 (fun b _ => ?_) | refine n3 (fun _ _ => ?_) | refine n4 ?_ | refine n5 ?_ | refine WL_nil ?_ | refine W_seq ?_ | refine W_region ?_ | refine n7 ?_ | refine n8 ?_ | refine W_block ?_ | refine W_skip ?_ | refine W_ret ?_ | refine W_exit ?_ | refine WQ_then ?_ | refine WQ_then_ret ?_ | refine WQ_then_exit ?_ | refine WQ_block_normal ?_ | refine WQ_block_ret ?_ | refine WQ_block_exit ?_ | refine n9 ?_)
    (apply WL_effs; exact rfl; exact rfl; exact rfl; apply E_call; exact rfl; (intro _ _; simp); (exact slow_fn v bs h0 (by omega)); (repeat (first | exact AllE.nil _ | (apply AllE.cons; (focus (first | exact ent_nilBy | exact ent_nilSl | (apply Ent.mem; repeat' (first | exact mcs | apply mct))))))); (intro _; exact rfl); (intro _; exact rfl))
    rintro ⟨r, k⟩ hr
    replace hr : r ≠ 0 := hr
    dsimp only
    repeat (first | refine n1 ?_ | refine n2 (fun b _ => ?_) | refine n3 (fun _ _ => ?_) | refine n4 ?_ | refine n5 ?_ | refine WL_nil ?_ | refine W_seq ?_ | refine W_region ?_ | refine n7 ?_ | refine n8 ?_ | refine W_block ?_ | refine W_skip ?_ | refine W_ret ?_ | refine W_exit ?_ | refine WQ_then ?_ | refine WQ_then_ret ?_ | refine WQ_then_exit ?_ | refine WQ_block_normal ?_ | refine WQ_block_ret ?_ | refine WQ_block_exit ?_ | refine n9 ?_)
    have hp : ((bs.getD 0 0).toNat < 128 → ((r, k) : Int × Int) = (((bs.getD 0 0).toNat : Int), 1)) ∧ (128 ≤ (bs.getD 0 0).toNat → r ≠ 0) := ⟨fun h => absurd h h1, fun _ => hr⟩
    ((apply ret2 Tryd.results56 ( ((r, k) : Int × Int))); (focus (first | trivial | assumption | omega)); (focus (first | exact RV_tmp rfl | (apply RV_cellN; exact rfl; (repeat' (first | exact Pick.head _ _ | apply Pick.tail)); (intro _; exact rfl); (intro _; exact rfl); exact rfl) | (apply RV_cell1; exact rfl; (repeat' (first | exact Pick.head _ _ | apply Pick.tail)); (intro _; exact rfl); exact rfl))); (focus (first | exact RV_tmp rfl | (apply RV_cellN; exact rfl; (repeat' (first | exact Pick.head _ _ | apply Pick.tail)); (intro _; exact rfl); (intro _; exact rfl); exact rfl) | (apply RV_cell1; exact rfl; (repeat' (first | exact Pick.head _ _ | apply Pick.tail)); (intro _; exact rfl); exact rfl)));  (focus (first | exact rfl | (simp; done))); (focus (repeat (first | exact SubO.nil _ | (apply SubO.cons; (focus (repeat' (first | exact Pick.head _ _ | apply Pick.tail))))))); (focus (repeat (first | exact AllE.nil _ | (apply AllE.cons; (focus (first | exact ent_nilBy | exact ent_nilSl | (apply Ent.mem; repeat' (first | exact mcs | apply mct)))))))))

set_option maxRecDepth 100000 in
set_option maxHeartbeats 4000000 in
theorem indexF_fn (v : Value) (bs : List UInt8) : Ct Tryd.prog 53 [v, .func (.func 35) #[] #[], .bool true] [] [By v bs, tbF, tbA]
    (X := Int) (fun x => decide (0 ≤ x) = nzB bs) (fun x => .int .i64 x) (fun _ => []) (fun _ => []) := by
  refine Ct_intro Tryd.func53 rfl Tryd.ntmps53 (by simp) _ rfl (fun w0 O0 => ?_)
  refine W_pure (by_le (v := v) (bs := bs) (by repeat' (first | exact mcs | apply mct))) fun hle => ?_
  repeat (first | refine n1 ?_ | refine n2 (fun b _ => ?_) | refine n3 (fun _ _ => ?_) | refine n4 ?_ | refine n5 ?_ | refine WL_nil ?_ | refine W_seq ?_ | refine W_region ?_ | refine n7 ?_ | refine n8 ?_ | refine W_block ?_ | refine W_skip ?_ | refine W_ret ?_ | refine W_exit ?_ | refine WQ_then ?_ | refine WQ_then_ret ?_ | refine WQ_then_exit ?_ | refine WQ_block_normal ?_ | refine WQ_block_ret ?_ | refine WQ_block_exit ?_ | refine n9 ?_)
  ((apply W_loopK (X := Nat × Unit) [7, 8, 9, 14] [] (fun x => x.1 ≤ bs.length ∧ ∀ i, i < x.1 → bs.getD i 0 = 0) (fun x => [(7, .int .i64 (x.1 : Int))]) (fun _ => []) (fun _ => []) (fun x => bs.length - x.1) ((0, ()))); (focus (exact ⟨Nat.zero_le _, fun i h => absurd h (Nat.not_lt_zero _)⟩)); exact rfl; exact rfl; (intro _; exact rfl); (intro _; exact rfl); (intro _; exact rfl); (focus (repeat (first | exact FrIn.nil _ | (apply FrIn.cons; exact rfl; (first | exact rfl | (congr 1; first | omega | (dsimp only; omega)) | (simp; done)))))); (focus (repeat (first | exact SubO.nil _ | (apply SubO.cons; (focus (repeat' (first | exact Pick.head _ _ | apply Pick.tail))))))); (focus (repeat (first | exact AllE.nil _ | (apply AllE.cons; (focus (first | exact ent_nilBy | exact ent_nilSl | (apply Ent.mem; repeat' (first | exact mcs | apply mct)))))))); intro x hx)
  obtain ⟨i, _⟩ := x
  obtain ⟨hi, hz⟩ := hx
  replace hi : i ≤ bs.length := hi
  replace hz : ∀ j, j < i → bs.getD j 0 = 0 := hz
  dsimp only
  by_cases d1 : i < bs.length
  · obtain ⟨e1, e2⟩ := rest_get bs i d1
    have hd := fun u => decode_fn u ((bs.drop i).take (bs.length - i)) (by omega)
    simp only [e2] at hd
    have hc := (bs.getD i 0).toNat_lt
    repeat (first | refine n1 ?_ | refine n2 (fun b _ => ?_) | refine n3 (fun _ _ => ?_) | refine n4 ?_ | refine n5 ?_ | refine WL_nil ?_ | refine W_seq ?_ | refine W_region ?_ | refine n7 ?_ | refine n8 ?_ | refine W_block ?_ | refine W_skip ?_ | refine W_ret ?_ | refine W_exit ?_ | refine WQ_then ?_ | refine WQ_then_ret ?_ | refine WQ_then_exit ?_ | refine WQ_block_normal ?_ | refine WQ_block_ret ?_ | refine WQ_block_exit ?_ | refine n9 ?_)
    (apply WL_effs; exact rfl; exact rfl; exact rfl; apply E_call; exact rfl; (intro _ _; simp); exact hd _; (repeat (first | exact AllE.nil _ | (apply AllE.cons; (focus (first | exact ent_nilBy | exact ent_nilSl | (apply Ent.mem; repeat' (first | exact mcs | apply mct))))))); (intro _; exact rfl); (intro _; exact rfl))
    rintro ⟨r, k⟩ ⟨hr1, hr2⟩
    dsimp only at hr1 hr2 ⊢
    by_cases d2 : r = 0
    · have d3 : (bs.getD i 0).toNat < 128 := by
        apply Nat.lt_of_not_le
        exact fun h => hr2 h d2
      have hr := hr1 d3
      injection hr with hr3 hr4
      subst hr4
      have hzr : bs.getD i 0 = 0 := by
        apply Classical.byContradiction
        intro h
        have := u8_ne0.1 h
        omega
      subst d2
      have hnz := nz_fn 0
      rw [decide_eq_false (by decide)] at hnz
      repeat (first | refine n1 ?_ | refine n2 (fun b _ => ?_) | refine n3 (fun _ _ => ?_) | refine n4 ?_ | refine n5 ?_ | refine n6 (hnz) ?_ | refine n6v (hnz) ?_ | refine WL_nil ?_ | refine W_seq ?_ | refine W_region ?_ | refine n7 ?_ | refine n8 ?_ | refine W_block ?_ | refine W_skip ?_ | refine W_ret ?_ | refine W_exit ?_ | refine WQ_then ?_ | refine WQ_then_ret ?_ | refine WQ_then_exit ?_ | refine WQ_block_normal ?_ | refine WQ_block_ret ?_ | refine WQ_block_exit ?_ | refine n9 ?_)
      have hn : i + 1 ≤ bs.length ∧ ∀ j, j < i + 1 → bs.getD j 0 = 0 := ⟨d1, fun j hj => by
        rcases Nat.lt_succ_iff_lt_or_eq.1 hj with h | rfl
        · exact hz j h
        · exact hzr⟩
      ((apply WQ_again ((i + 1, ()))); (focus exact hn); (focus (exact (show bs.length - (i + 1) < bs.length - i by omega))); (focus (repeat (first | exact FrIn.nil _ | (apply FrIn.cons; exact rfl; (first | exact rfl | (congr 1; first | omega | (dsimp only; omega)) | (simp; done)))))); (focus (repeat (first | exact SubO.nil _ | (apply SubO.cons; (focus (repeat' (first | exact Pick.head _ _ | apply Pick.tail))))))); (focus (repeat (first | exact AllE.nil _ | (apply AllE.cons; (focus (first | exact ent_nilBy | exact ent_nilSl | (apply Ent.mem; repeat' (first | exact mcs | apply mct)))))))))
    · have hnz := nz_fn r
      rw [decide_eq_true d2] at hnz
      have hzr : bs.getD i 0 ≠ 0 := by
        intro h
        have h2 : (bs.getD i 0).toNat = 0 := by rw [h]; rfl
        have hr := hr1 (by omega)
        injection hr with hr3 hr4
        omega
      repeat (first | refine n1 ?_ | refine n2 (fun b _ => ?_) | refine n3 (fun _ _ => ?_) | refine n4 ?_ | refine n5 ?_ | refine n6 (hnz) ?_ | refine n6v (hnz) ?_ | refine WL_nil ?_ | refine W_seq ?_ | refine W_region ?_ | refine n7 ?_ | refine n8 ?_ | refine W_block ?_ | refine W_skip ?_ | refine W_ret ?_ | refine W_exit ?_ | refine WQ_then ?_ | refine WQ_then_ret ?_ | refine WQ_then_exit ?_ | refine WQ_block_normal ?_ | refine WQ_block_ret ?_ | refine WQ_block_exit ?_ | refine n9 ?_)
      have hp : decide (0 ≤ (i : Int)) = nzB bs := by rw [nzB_at d1 hzr]; exact decide_eq_true (by omega)
      ((apply ret1 Tryd.results53 ( (i : Int))); (focus (first | trivial | assumption | omega)); (focus (first | exact RV_tmp rfl | (apply RV_cellN; exact rfl; (repeat' (first | exact Pick.head _ _ | apply Pick.tail)); (intro _; exact rfl); (intro _; exact rfl); exact rfl) | (apply RV_cell1; exact rfl; (repeat' (first | exact Pick.head _ _ | apply Pick.tail)); (intro _; exact rfl); exact rfl)));  (focus (first | exact rfl | (simp; done))); (focus (repeat (first | exact SubO.nil _ | (apply SubO.cons; (focus (repeat' (first | exact Pick.head _ _ | apply Pick.tail))))))); (focus (repeat (first | exact AllE.nil _ | (apply AllE.cons; (focus (first | exact ent_nilBy | exact ent_nilSl | (apply Ent.mem; repeat' (first | exact mcs | apply mct)))))))))
  · obtain rfl : i = bs.length := by omega
    have hp : decide (0 ≤ (-1 : Int)) = nzB bs := by rw [nzB_none hz]; rfl
    repeat (first | refine n1 ?_ | refine n2 (fun b _ => ?_) | refine n3 (fun _ _ => ?_) | refine n4 ?_ | refine n5 ?_ | refine WL_nil ?_ | refine W_seq ?_ | refine W_region ?_ | refine n7 ?_ | refine n8 ?_ | refine W_block ?_ | refine W_skip ?_ | refine W_ret ?_ | refine W_exit ?_ | refine WQ_then ?_ | refine WQ_then_ret ?_ | refine WQ_then_exit ?_ | refine WQ_block_normal ?_ | refine WQ_block_ret ?_ | refine WQ_block_exit ?_ | refine n9 ?_)
    ((apply ret1 Tryd.results53 ( (-1 : Int))); (focus (first | trivial | assumption | omega)); (focus (first | exact RV_tmp rfl | (apply RV_cellN; exact rfl; (repeat' (first | exact Pick.head _ _ | apply Pick.tail)); (intro _; exact rfl); (intro _; exact rfl); exact rfl) | (apply RV_cell1; exact rfl; (repeat' (first | exact Pick.head _ _ | apply Pick.tail)); (intro _; exact rfl); exact rfl)));  (focus (first | exact rfl | (simp; done))); (focus (repeat (first | exact SubO.nil _ | (apply SubO.cons; (focus (repeat' (first | exact Pick.head _ _ | apply Pick.tail))))))); (focus (repeat (first | exact AllE.nil _ | (apply AllE.cons; (focus (first | exact ent_nilBy | exact ent_nilSl | (apply Ent.mem; repeat' (first | exact mcs | apply mct)))))))))

set_option maxRecDepth 100000 in
theorem contains_fn (v : Value) (bs : List UInt8) : Ct Tryd.prog 34 [v, .func (.func 35) #[] #[]] [] [By v bs, tbF, tbA]
    (X := Unit) (fun _ => True) (fun _ => .bool (nzB bs)) (fun _ => []) (fun _ => []) := by
  have hi : Ct Tryd.prog 49 [v, .func (.func 35) #[] #[]] [] [By v bs, tbF, tbA]
      (X := Int) (fun x => decide (0 ≤ x) = nzB bs) (fun x => .int .i64 x) (fun _ => []) (fun _ => []) := by
    refine Ct_intro Tryd.func49 rfl Tryd.ntmps49 (by simp) _ rfl (fun w0 O0 => ?_)
    repeat (first | refine n1 ?_ | refine n2 (fun b _ => ?_) | refine n3 (fun _ _ => ?_) | refine n4 ?_ | refine n5 ?_ | refine WL_nil ?_ | refine W_seq ?_ | refine W_region ?_ | refine n7 ?_ | refine n8 ?_ | refine W_block ?_ | refine W_skip ?_ | refine W_ret ?_ | refine W_exit ?_ | refine WQ_then ?_ | refine WQ_then_ret ?_ | refine WQ_then_exit ?_ | refine WQ_block_normal ?_ | refine WQ_block_ret ?_ | refine WQ_block_exit ?_ | refine n9 ?_)
    (apply WL_effs; exact rfl; exact rfl; exact rfl; apply E_call; exact rfl; (intro _ _; simp); exact indexF_fn v bs; (repeat (first | exact AllE.nil _ | (apply AllE.cons; (focus (first | exact ent_nilBy | exact ent_nilSl | (apply Ent.mem; repeat' (first | exact mcs | apply mct))))))); (intro _; exact rfl); (intro _; exact rfl))
    intro x hx
    repeat (first | refine n1 ?_ | refine n2 (fun b _ => ?_) | refine n3 (fun _ _ => ?_) | refine n4 ?_ | refine n5 ?_ | refine WL_nil ?_ | refine W_seq ?_ | refine W_region ?_ | refine n7 ?_ | refine n8 ?_ | refine W_block ?_ | refine W_skip ?_ | refine W_ret ?_ | refine W_exit ?_ | refine WQ_then ?_ | refine WQ_then_ret ?_ | refine WQ_then_exit ?_ | refine WQ_block_normal ?_ | refine WQ_block_ret ?_ | refine WQ_block_exit ?_ | refine n9 ?_)
    ((apply ret1 Tryd.results49 ( x)); (focus (first | trivial | assumption | omega)); (focus (first | exact RV_tmp rfl | (apply RV_cellN; exact rfl; (repeat' (first | exact Pick.head _ _ | apply Pick.tail)); (intro _; exact rfl); (intro _; exact rfl); exact rfl) | (apply RV_cell1; exact rfl; (repeat' (first | exact Pick.head _ _ | apply Pick.tail)); (intro _; exact rfl); exact rfl)));  (focus (first | exact rfl | (simp; done))); (focus (repeat (first | exact SubO.nil _ | (apply SubO.cons; (focus (repeat' (first | exact Pick.head _ _ | apply Pick.tail))))))); (focus (repeat (first | exact AllE.nil _ | (apply AllE.cons; (focus (first | exact ent_nilBy | exact ent_nilSl | (apply Ent.mem; repeat' (first | exact mcs | apply mct)))))))))
  refine Ct_intro Tryd.func34 rfl Tryd.ntmps34 (by simp) _ rfl (fun w0 O0 => ?_)
  repeat (first | refine n1 ?_ | refine n2 (fun b _ => ?_) | refine n3 (fun _ _ => ?_) | refine n4 ?_ | refine n5 ?_ | refine WL_nil ?_ | refine W_seq ?_ | refine W_region ?_ | refine n7 ?_ | refine n8 ?_ | refine W_block ?_ | refine W_skip ?_ | refine W_ret ?_ | refine W_exit ?_ | refine WQ_then ?_ | refine WQ_then_ret ?_ | refine WQ_then_exit ?_ | refine WQ_block_normal ?_ | refine WQ_block_ret ?_ | refine WQ_block_exit ?_ | refine n9 ?_)
  (apply WL_effs; exact rfl; exact rfl; exact rfl; apply E_call; exact rfl; (intro _ _; simp); exact hi; (repeat (first | exact AllE.nil _ | (apply AllE.cons; (focus (first | exact ent_nilBy | exact ent_nilSl | (apply Ent.mem; repeat' (first | exact mcs | apply mct))))))); (intro _; exact rfl); (intro _; exact rfl))
  intro x hx
  rw [← hx]
  by_cases h : 0 ≤ x
  · rw [decide_eq_true h]
    repeat (first | refine n1 ?_ | refine n2 (fun b _ => ?_) | refine n3 (fun _ _ => ?_) | refine n4 ?_ | refine n5 ?_ | refine WL_nil ?_ | refine W_seq ?_ | refine W_region ?_ | refine n7 ?_ | refine n8 ?_ | refine W_block ?_ | refine W_skip ?_ | refine W_ret ?_ | refine W_exit ?_ | refine WQ_then ?_ | refine WQ_then_ret ?_ | refine WQ_then_exit ?_ | refine WQ_block_normal ?_ | refine WQ_block_ret ?_ | refine WQ_block_exit ?_ | refine n9 ?_)
    ((apply ret1 Tryd.results34 ( ())); (focus (first | trivial | assumption | omega)); (focus (first | exact RV_tmp rfl | (apply RV_cellN; exact rfl; (repeat' (first | exact Pick.head _ _ | apply Pick.tail)); (intro _; exact rfl); (intro _; exact rfl); exact rfl) | (apply RV_cell1; exact rfl; (repeat' (first | exact Pick.head _ _ | apply Pick.tail)); (intro _; exact rfl); exact rfl)));  (focus (first | exact rfl | (simp; done))); (focus (repeat (first | exact SubO.nil _ | (apply SubO.cons; (focus (repeat' (first | exact Pick.head _ _ | apply Pick.tail))))))); (focus (repeat (first | exact AllE.nil _ | (apply AllE.cons; (focus (first | exact ent_nilBy | exact ent_nilSl | (apply Ent.mem; repeat' (first | exact mcs | apply mct)))))))))
  · rw [decide_eq_false h]
    repeat (first | refine n1 ?_ | refine n2 (fun b _ => ?_) | refine n3 (fun _ _ => ?_) | refine n4 ?_ | refine n5 ?_ | refine WL_nil ?_ | refine W_seq ?_ | refine W_region ?_ | refine n7 ?_ | refine n8 ?_ | refine W_block ?_ | refine W_skip ?_ | refine W_ret ?_ | refine W_exit ?_ | refine WQ_then ?_ | refine WQ_then_ret ?_ | refine WQ_then_exit ?_ | refine WQ_block_normal ?_ | refine WQ_block_ret ?_ | refine WQ_block_exit ?_ | refine n9 ?_)
    ((apply ret1 Tryd.results34 ( ())); (focus (first | trivial | assumption | omega)); (focus (first | exact RV_tmp rfl | (apply RV_cellN; exact rfl; (repeat' (first | exact Pick.head _ _ | apply Pick.tail)); (intro _; exact rfl); (intro _; exact rfl); exact rfl) | (apply RV_cell1; exact rfl; (repeat' (first | exact Pick.head _ _ | apply Pick.tail)); (intro _; exact rfl); exact rfl)));  (focus (first | exact rfl | (simp; done))); (focus (repeat (first | exact SubO.nil _ | (apply SubO.cons; (focus (repeat' (first | exact Pick.head _ _ | apply Pick.tail))))))); (focus (repeat (first | exact AllE.nil _ | (apply AllE.cons; (focus (first | exact ent_nilBy | exact ent_nilSl | (apply Ent.mem; repeat' (first | exact mcs | apply mct)))))))))
end Go.Proofs.YteojehocflbgdaaDoor.C08d

/-
  A packet read at the front of a packed form.
-/
namespace Go.Hs
open Go Go.RowKit
section
variable {C : Ctx} {fr : Fr} {Γ Γ' : List OA} {Φ : List SP} {d : Tmp} {ty : TypeId} {pos : String} {aft : Array Edge} {g : Option (Nat × Bool)}
/-- the front of bytes copied into a part of an own block. -/
theorem E_copyBlkM {t t' e bt : TypeId} {x y : Operand} {u : Value} {b o n : Nat} {bs : List UInt8} {cs ds : List Value} (hx : evO fr x = some (.slice (some ⟨b, o, none⟩) n n)) (hy : evO fr y = some u) (hp : Pick (.blk b bt cs) Γ Γ') (hm : By u bs ∈ Φ)
    (ht : C.P.underlying t = some (.slice e)) (hs : (C.P.info? e).map (·.size) = some 1) (hn : n ≤ bs.length) (h0 : 0 < n) (hf : o + n ≤ cs.length) (hu : cs.take o ++ (bs.take n).map bcell ++ cs.drop (o + n) = ds) :
    Effs C fr Γ Φ ⟨some d, .call { callee := .builtin .copy, args := #[x, y], argTypes := #[t, t'] }, ty, pos, aft, g⟩ (X := Unit) (fun _ => True) (fun _ => .int .i64 (n : Int)) (fun _ => .blk b bt ds :: Γ') (fun _ => Φ) := by
  subst hu
  refine ⟨fun _ => AllIn.refl _, fun R a w ha hw => ?_⟩
  have hw' := pick_holds (pick_app hp R) hw
  obtain ⟨hl, B, c', hu', _, _, hr⟩ := hw'.sp _ hm
  obtain ⟨ad, rfl, _, _, hcell⟩ := hr (by omega)
  subst hu'
  have hb : w.heap[b]? = some (.cells cs.toArray bt (0, 0)) := hw'.own.1
  have e2 : ((bs.take n).map bcell).length = n := by rw [List.length_map, List.length_take, Nat.min_eq_left hn]
  have hrun := run_copy_row (P := C.P) w t t' ty e b o n n ad bs.length c' cs.toArray bt ((bs.take n).map bcell) ht hs hb (by rw [e2]; exact (Nat.min_eq_right hn).symm) (fun j v hj => by
    have hjn : j < n := by
      have := (List.getElem?_eq_some_iff.1 hj).1
      omega
    rw [List.getElem?_map, List.getElem?_take, if_pos hjn, ← List.getElem?_map] at hj
    exact hcell j v hj) (by rw [e2]; exact hf) (bcells_one _)
  refine .val (v := .int .i64 (n : Int)) (w' := _) ?_ ⟨(), trivial, rfl, setRow_holds (ds := cs.take o ++ (bs.take n).map bcell ++ cs.drop (o + n)) hw'⟩
  rw [e2] at hrun
  simp only [execOp, resolve, invoke, builtin, Sem.run_bind, Sem.run_pure, Result.andThen_ok, List.map_toArray, List.map_cons, List.map_nil, evO_sound ha hx, evO_sound ha hy, hrun]
  simp only [Result.andThen_ok, goInt]
end
end Go.Hs
namespace Go.Proofs.YteojehocflbgdaaDoor.C08d
open Go Go.RowKit Go.Hs C08
/-- a packet without the value that leads to its data. -/
structure Kz where
  to_ : A6
  fr_ : A6
  data : List UInt8
def PKz (p : PK) : Kz := ⟨p.to_, p.fr_, p.data⟩
def a6k (l : List UInt8) : A6 := ⟨l.getD 0 0, l.getD 1 0, l.getD 2 0, l.getD 3 0, l.getD 4 0, l.getD 5 0⟩
theorem a6k_map {l : List UInt8} (h : l.length = 6) : l.map bcell = [bcell (a6k l).a0, bcell (a6k l).a1, bcell (a6k l).a2, bcell (a6k l).a3, bcell (a6k l).a4, bcell (a6k l).a5] := by
  match l, h with
  | [_, _, _, _, _, _], _ => rfl
def upT (b : List UInt8) : A6 := a6k (b.take 6)
def upF (b : List UInt8) : A6 := a6k ((b.drop 6).take 6)
def upN (b : List UInt8) : Nat := num2 (b.drop 12)
def upE (b : List UInt8) : Int := if b.length < 14 then 10 else if grp (upF b).a0 = true then 12 else if 1500 < upN b then 11 else if b.length < 14 + upN b then 10 else 0
def upP (b : List UInt8) : Kz := ⟨upT b, upF b, (b.drop 14).take (upN b)⟩
theorem upN_at (b : List UInt8) : (b.getD 12 0).toNat + 256 * (b.getD 13 0).toNat = upN b := num2_at b 12
attribute [local irreducible] WL W WQ PL Runs Effs AllE Ent SubO FrIn Pick OneC Ones CellsE PartsE SeqE UZ By Sl Pt Ct

set_option maxRecDepth 100000 in
set_option maxHeartbeats 8000000 in
theorem unpack1_fn (v : Value) (bs : List UInt8) (hb : bs.length ≤ 1000000) : Ct Tryd.prog 33 [v] [] [By v bs]
    (X := PK) (fun p => upE bs = 0 → PKz p = upP bs) (fun p => .tuple #[p.val, .int .i64 (if upE bs = 0 then ((14 + upN bs : Nat) : Int) else 0), .int .i64 (upE bs)]) (fun p => [.row p.dv 5 1 p.data.length (p.data.map bcell)]) (fun _ => []) := by
  by_cases c1 : bs.length < 14
  · have he : upE bs = 10 := by unfold upE; rw [if_pos c1]
    have hp : upE bs = 0 → PKz ⟨zA6, zA6, .slice none 0 0, []⟩ = upP bs := fun h => by rw [he] at h; cases h
    rw [if_neg (by rw [he]; decide), he] at *
    refine Go.Hs.Ct_intro Tryd.func33 rfl Tryd.ntmps33 (by simp) _ rfl (fun w0 O0 => ?_)
    repeat (first | refine Go.Hs.n1 ?_ | refine Go.Hs.n2 (fun b _ => ?_) | refine Go.Hs.n3 (fun _ _ => ?_) | refine Go.Hs.n4 ?_ | refine Go.Hs.n5 ?_ | refine Go.Hs.WL_nil ?_ | refine Go.Hs.W_seq ?_ | refine Go.Hs.W_region ?_ | refine Go.Hs.n7 ?_ | refine Go.Hs.n8 ?_ | refine Go.Hs.W_block ?_ | refine Go.Hs.W_skip ?_ | refine Go.Hs.W_ret ?_ | refine Go.Hs.W_exit ?_ | refine Go.Hs.WQ_then ?_ | refine Go.Hs.WQ_then_ret ?_ | refine Go.Hs.WQ_then_exit ?_ | refine Go.Hs.WQ_block_normal ?_ | refine Go.Hs.WQ_block_ret ?_ | refine Go.Hs.WQ_block_exit ?_ | refine Go.Hs.n9 ?_)
    apply WQ_nilRow 5 1
    ((apply Go.Hs.ret3 Tryd.results33 ( (⟨zA6, zA6, .slice none 0 0, []⟩ : PK))); (focus (first | trivial | assumption | omega)); (focus (first | exact Go.Hs.RV_tmp rfl | (apply Go.Hs.RV_cellN; exact rfl; (repeat' (first | exact Go.Hs.Pick.head _ _ | apply Go.Hs.Pick.tail)); (intro _; exact rfl); (intro _; exact rfl); exact rfl) | (apply Go.Hs.RV_cell1; exact rfl; (repeat' (first | exact Go.Hs.Pick.head _ _ | apply Go.Hs.Pick.tail)); (intro _; exact rfl); exact rfl))); (focus (first | exact Go.Hs.RV_tmp rfl | (apply Go.Hs.RV_cellN; exact rfl; (repeat' (first | exact Go.Hs.Pick.head _ _ | apply Go.Hs.Pick.tail)); (intro _; exact rfl); (intro _; exact rfl); exact rfl) | (apply Go.Hs.RV_cell1; exact rfl; (repeat' (first | exact Go.Hs.Pick.head _ _ | apply Go.Hs.Pick.tail)); (intro _; exact rfl); exact rfl))); (focus (first | exact Go.Hs.RV_tmp rfl | (apply Go.Hs.RV_cellN; exact rfl; (repeat' (first | exact Go.Hs.Pick.head _ _ | apply Go.Hs.Pick.tail)); (intro _; exact rfl); (intro _; exact rfl); exact rfl) | (apply Go.Hs.RV_cell1; exact rfl; (repeat' (first | exact Go.Hs.Pick.head _ _ | apply Go.Hs.Pick.tail)); (intro _; exact rfl); exact rfl)));  (focus (first | exact rfl | (simp; done))); (focus (repeat (first | exact Go.Hs.SubO.nil _ | (apply Go.Hs.SubO.cons; (focus (repeat' (first | exact Go.Hs.Pick.head _ _ | apply Go.Hs.Pick.tail))))))); (focus (repeat (first | exact Go.Hs.AllE.nil _ | (apply Go.Hs.AllE.cons; (focus (first | exact Go.Hs.ent_nilBy | exact Go.Hs.ent_nilSl | (apply Go.Hs.Ent.mem; repeat' (first | exact Go.Hs.mcs | apply Go.Hs.mct)))))))))
  have hT : (bs.take 6).length = 6 := by rw [List.length_take]; omega
  have hF : ((bs.drop 6).take 6).length = 6 := by rw [List.length_take, List.length_drop]; omega
  have hn := upN_at bs
  have hN := num2_lt (bs.drop 12)
  replace hN : upN bs < 65536 := hN
  have h12 : (bs.getD 12 0).toNat < 256 := (bs.getD 12 0).toNat_lt
  have h13 : (bs.getD 13 0).toNat < 256 := (bs.getD 13 0).toNat_lt
  refine Go.Hs.Ct_intro Tryd.func33 rfl Tryd.ntmps33 (by simp) _ rfl (fun w0 O0 => ?_)
  repeat (first | refine Go.Hs.n1 ?_ | refine Go.Hs.n2 (fun b _ => ?_) | refine Go.Hs.n3 (fun _ _ => ?_) | refine Go.Hs.n4 ?_ | refine Go.Hs.n5 ?_ | refine Go.Hs.WL_nil ?_ | refine Go.Hs.W_seq ?_ | refine Go.Hs.W_region ?_ | refine Go.Hs.n7 ?_ | refine Go.Hs.n8 ?_ | refine Go.Hs.W_block ?_ | refine Go.Hs.W_skip ?_ | refine Go.Hs.W_ret ?_ | refine Go.Hs.W_exit ?_ | refine Go.Hs.WQ_then ?_ | refine Go.Hs.WQ_then_ret ?_ | refine Go.Hs.WQ_then_exit ?_ | refine Go.Hs.WQ_block_normal ?_ | refine Go.Hs.WQ_block_ret ?_ | refine Go.Hs.WQ_block_exit ?_ | refine Go.Hs.n9 ?_)
  rename Nat => b
  refine WL_effs rfl rfl rfl (E_copyBlkM (o := 0) (n := 6) (bs := bs) (ds := [bcell (upT bs).a0, bcell (upT bs).a1, bcell (upT bs).a2, bcell (upT bs).a3, bcell (upT bs).a4, bcell (upT bs).a5, .int .u8 0, .int .u8 0, .int .u8 0, .int .u8 0, .int .u8 0, .int .u8 0, .slice none 0 0]) rfl rfl (by repeat' (first | exact Go.Hs.Pick.head _ _ | apply Go.Hs.Pick.tail)) (by repeat' (first | exact Go.Hs.mcs | apply Go.Hs.mct)) rfl rfl (by omega) (by decide) (Nat.le_of_ble_eq_true rfl) (by rw [a6k_map hT]; rfl)) (fun _ _ => ?_)
  repeat (first | refine Go.Hs.n1 ?_ | refine Go.Hs.n2 (fun b _ => ?_) | refine Go.Hs.n3 (fun _ _ => ?_) | refine Go.Hs.n4 ?_ | refine Go.Hs.n5 ?_ | refine Go.Hs.WL_nil ?_ | refine Go.Hs.W_seq ?_ | refine Go.Hs.W_region ?_ | refine Go.Hs.n7 ?_ | refine Go.Hs.n8 ?_ | refine Go.Hs.W_block ?_ | refine Go.Hs.W_skip ?_ | refine Go.Hs.W_ret ?_ | refine Go.Hs.W_exit ?_ | refine Go.Hs.WQ_then ?_ | refine Go.Hs.WQ_then_ret ?_ | refine Go.Hs.WQ_then_exit ?_ | refine Go.Hs.WQ_block_normal ?_ | refine Go.Hs.WQ_block_ret ?_ | refine Go.Hs.WQ_block_exit ?_ | refine Go.Hs.n9 ?_)
  (refine Go.Hs.W_regionP' [4] [] [0, 1, 2, 3, 4] [0] (by kernel_rfl) (by kernel_rfl) (by repeat (first | exact Go.Hs.UZ.nil _ _ | (apply Go.Hs.UZ.cons; exact rfl; (intro _; exact rfl)))) (by exact rfl) (by (repeat (first | exact Go.Hs.SubO.nil _ | (apply Go.Hs.SubO.cons; (focus (repeat' (first | exact Go.Hs.Pick.head _ _ | apply Go.Hs.Pick.tail))))))) ?_)
  repeat (first | refine Go.Hs.p1 ?_ | refine Go.Hs.p2 (fun b _ => ?_) | refine Go.Hs.p3 (fun _ _ => ?_) | refine Go.Hs.p4 ?_ | refine Go.Hs.p5 ?_ | refine Go.Hs.p7 (fun b => ?_) | refine Go.Hs.PL_nil ?_)
  refine PL_effs rfl rfl rfl rfl rfl (E_copyBlkM (o := 6) (n := 6) (bs := (bs.drop 6).take (bs.length - 6)) (ds := [bcell (upT bs).a0, bcell (upT bs).a1, bcell (upT bs).a2, bcell (upT bs).a3, bcell (upT bs).a4, bcell (upT bs).a5, bcell (upF bs).a0, bcell (upF bs).a1, bcell (upF bs).a2, bcell (upF bs).a3, bcell (upF bs).a4, bcell (upF bs).a5, .slice none 0 0]) rfl rfl (by repeat' (first | exact Go.Hs.Pick.head _ _ | apply Go.Hs.Pick.tail)) (by repeat' (first | exact Go.Hs.mcs | apply Go.Hs.mct)) rfl rfl (by rw [List.length_take, List.length_drop]; omega) (by decide) (Nat.le_of_ble_eq_true rfl) (by rw [List.take_take, Nat.min_eq_left (by omega), a6k_map hF]; rfl)) (fun _ => (by (repeat (first | exact Go.Hs.SubO.nil _ | (apply Go.Hs.SubO.cons; (focus (repeat' (first | exact Go.Hs.Pick.head _ _ | apply Go.Hs.Pick.tail)))))))) (fun _ _ => ?_)
  repeat (first | refine Go.Hs.p1 ?_ | refine Go.Hs.p2 (fun b _ => ?_) | refine Go.Hs.p3 (fun _ _ => ?_) | refine Go.Hs.p4 ?_ | refine Go.Hs.p5 ?_ | refine Go.Hs.p7 (fun b => ?_) | refine Go.Hs.PL_nil ?_)
  repeat (first | refine Go.Hs.n1 ?_ | refine Go.Hs.n2 (fun b _ => ?_) | refine Go.Hs.n3 (fun _ _ => ?_) | refine Go.Hs.n4 ?_ | refine Go.Hs.n5 ?_ | refine Go.Hs.WL_nil ?_ | refine Go.Hs.W_seq ?_ | refine Go.Hs.W_region ?_ | refine Go.Hs.n7 ?_ | refine Go.Hs.n8 ?_ | refine Go.Hs.W_block ?_ | refine Go.Hs.W_skip ?_ | refine Go.Hs.W_ret ?_ | refine Go.Hs.W_exit ?_ | refine Go.Hs.WQ_then ?_ | refine Go.Hs.WQ_then_ret ?_ | refine Go.Hs.WQ_then_exit ?_ | refine Go.Hs.WQ_block_normal ?_ | refine Go.Hs.WQ_block_ret ?_ | refine Go.Hs.WQ_block_exit ?_ | refine Go.Hs.n9 ?_)
  (refine Go.Hs.W_regionP' [] [] [0, 1, 2, 3, 4, 5, 6, 7, 8, 9, 10, 11] [] (by kernel_rfl) (by kernel_rfl) (by repeat (first | exact Go.Hs.UZ.nil _ _ | (apply Go.Hs.UZ.cons; exact rfl; (intro _; exact rfl)))) (by exact rfl) (by (repeat (first | exact Go.Hs.SubO.nil _ | (apply Go.Hs.SubO.cons; (focus (repeat' (first | exact Go.Hs.Pick.head _ _ | apply Go.Hs.Pick.tail))))))) ?_)
  refine p1 ?_
  refine PL_runsF rfl rfl rfl rfl rfl (R_idxBy (i := 12) rfl rfl (by repeat' (first | exact Go.Hs.mcs | apply Go.Hs.mct)) rfl (by intro _; exact rfl) rfl (by omega)) ?_
  refine p1 ?_
  refine p1 ?_
  refine p1 ?_
  refine p1 ?_
  refine PL_runsF rfl rfl rfl rfl rfl (R_idxBy (i := 13) rfl rfl (by repeat' (first | exact Go.Hs.mcs | apply Go.Hs.mct)) rfl (by intro _; exact rfl) rfl (by omega)) ?_
  repeat (first | refine Go.Hs.p1 ?_ | refine Go.Hs.p2 (fun b _ => ?_) | refine Go.Hs.p3 (fun _ _ => ?_) | refine Go.Hs.p4 ?_ | refine Go.Hs.p5 ?_ | refine Go.Hs.p7 (fun b => ?_) | refine Go.Hs.PL_nil ?_)
  refine PL_runs rfl rfl rfl rfl rfl (R_shl rfl rfl (by decide) (i64_shl8 _)) ?_
  repeat (first | refine Go.Hs.p1 ?_ | refine Go.Hs.p2 (fun b _ => ?_) | refine Go.Hs.p3 (fun _ _ => ?_) | refine Go.Hs.p4 ?_ | refine Go.Hs.p5 ?_ | refine Go.Hs.p7 (fun b => ?_) | refine Go.Hs.PL_nil ?_)
  rw [show (14 + ((bs.getD 12 0).toNat : Int) + (((bs.getD 13 0).toNat * 256 : Nat) : Int)) = ((14 + upN bs : Nat) : Int) by omega]
  have hg := group_fn (upF bs)
  by_cases c2 : grp (upF bs).a0 = true
  · rw [c2] at hg
    have he : upE bs = 12 := by unfold upE; rw [if_neg c1, if_pos c2]
    have hp : upE bs = 0 → PKz ⟨upT bs, upF bs, .slice none 0 0, []⟩ = upP bs := fun h => by rw [he] at h; cases h
    rw [if_neg (by rw [he]; decide), he] at *
    repeat (first | refine Go.Hs.n1 ?_ | refine Go.Hs.n2 (fun b _ => ?_) | refine Go.Hs.n3 (fun _ _ => ?_) | refine Go.Hs.n4 ?_ | refine Go.Hs.n5 ?_ | refine Go.Hs.n6 (hg) ?_ | refine Go.Hs.n6v (hg) ?_ | refine Go.Hs.WL_nil ?_ | refine Go.Hs.W_seq ?_ | refine Go.Hs.W_region ?_ | refine Go.Hs.n7 ?_ | refine Go.Hs.n8 ?_ | refine Go.Hs.W_block ?_ | refine Go.Hs.W_skip ?_ | refine Go.Hs.W_ret ?_ | refine Go.Hs.W_exit ?_ | refine Go.Hs.WQ_then ?_ | refine Go.Hs.WQ_then_ret ?_ | refine Go.Hs.WQ_then_exit ?_ | refine Go.Hs.WQ_block_normal ?_ | refine Go.Hs.WQ_block_ret ?_ | refine Go.Hs.WQ_block_exit ?_ | refine Go.Hs.n9 ?_)
    apply WQ_nilRow 5 1
    ((apply Go.Hs.ret3 Tryd.results33 ( (⟨upT bs, upF bs, .slice none 0 0, []⟩ : PK))); (focus (first | trivial | assumption | omega)); (focus (first | exact Go.Hs.RV_tmp rfl | (apply Go.Hs.RV_cellN; exact rfl; (repeat' (first | exact Go.Hs.Pick.head _ _ | apply Go.Hs.Pick.tail)); (intro _; exact rfl); (intro _; exact rfl); exact rfl) | (apply Go.Hs.RV_cell1; exact rfl; (repeat' (first | exact Go.Hs.Pick.head _ _ | apply Go.Hs.Pick.tail)); (intro _; exact rfl); exact rfl))); (focus (first | exact Go.Hs.RV_tmp rfl | (apply Go.Hs.RV_cellN; exact rfl; (repeat' (first | exact Go.Hs.Pick.head _ _ | apply Go.Hs.Pick.tail)); (intro _; exact rfl); (intro _; exact rfl); exact rfl) | (apply Go.Hs.RV_cell1; exact rfl; (repeat' (first | exact Go.Hs.Pick.head _ _ | apply Go.Hs.Pick.tail)); (intro _; exact rfl); exact rfl))); (focus (first | exact Go.Hs.RV_tmp rfl | (apply Go.Hs.RV_cellN; exact rfl; (repeat' (first | exact Go.Hs.Pick.head _ _ | apply Go.Hs.Pick.tail)); (intro _; exact rfl); (intro _; exact rfl); exact rfl) | (apply Go.Hs.RV_cell1; exact rfl; (repeat' (first | exact Go.Hs.Pick.head _ _ | apply Go.Hs.Pick.tail)); (intro _; exact rfl); exact rfl)));  (focus (first | exact rfl | (simp; done))); (focus (repeat (first | exact Go.Hs.SubO.nil _ | (apply Go.Hs.SubO.cons; (focus (repeat' (first | exact Go.Hs.Pick.head _ _ | apply Go.Hs.Pick.tail))))))); (focus (repeat (first | exact Go.Hs.AllE.nil _ | (apply Go.Hs.AllE.cons; (focus (first | exact Go.Hs.ent_nilBy | exact Go.Hs.ent_nilSl | (apply Go.Hs.Ent.mem; repeat' (first | exact Go.Hs.mcs | apply Go.Hs.mct)))))))))
  have c2' : grp (upF bs).a0 = false := by
    cases e : grp (upF bs).a0
    · rfl
    · exact absurd e c2
  rw [c2'] at hg
  by_cases c3 : 1500 < upN bs
  · have he : upE bs = 11 := by unfold upE; rw [if_neg c1, if_neg c2, if_pos c3]
    have hp : upE bs = 0 → PKz ⟨upT bs, upF bs, .slice none 0 0, []⟩ = upP bs := fun h => by rw [he] at h; cases h
    rw [if_neg (by rw [he]; decide), he] at *
    repeat (first | refine Go.Hs.n1 ?_ | refine Go.Hs.n2 (fun b _ => ?_) | refine Go.Hs.n3 (fun _ _ => ?_) | refine Go.Hs.n4 ?_ | refine Go.Hs.n5 ?_ | refine Go.Hs.n6 (hg) ?_ | refine Go.Hs.n6v (hg) ?_ | refine Go.Hs.WL_nil ?_ | refine Go.Hs.W_seq ?_ | refine Go.Hs.W_region ?_ | refine Go.Hs.n7 ?_ | refine Go.Hs.n8 ?_ | refine Go.Hs.W_block ?_ | refine Go.Hs.W_skip ?_ | refine Go.Hs.W_ret ?_ | refine Go.Hs.W_exit ?_ | refine Go.Hs.WQ_then ?_ | refine Go.Hs.WQ_then_ret ?_ | refine Go.Hs.WQ_then_exit ?_ | refine Go.Hs.WQ_block_normal ?_ | refine Go.Hs.WQ_block_ret ?_ | refine Go.Hs.WQ_block_exit ?_ | refine Go.Hs.n9 ?_)
    apply WQ_nilRow 5 1
    ((apply Go.Hs.ret3 Tryd.results33 ( (⟨upT bs, upF bs, .slice none 0 0, []⟩ : PK))); (focus (first | trivial | assumption | omega)); (focus (first | exact Go.Hs.RV_tmp rfl | (apply Go.Hs.RV_cellN; exact rfl; (repeat' (first | exact Go.Hs.Pick.head _ _ | apply Go.Hs.Pick.tail)); (intro _; exact rfl); (intro _; exact rfl); exact rfl) | (apply Go.Hs.RV_cell1; exact rfl; (repeat' (first | exact Go.Hs.Pick.head _ _ | apply Go.Hs.Pick.tail)); (intro _; exact rfl); exact rfl))); (focus (first | exact Go.Hs.RV_tmp rfl | (apply Go.Hs.RV_cellN; exact rfl; (repeat' (first | exact Go.Hs.Pick.head _ _ | apply Go.Hs.Pick.tail)); (intro _; exact rfl); (intro _; exact rfl); exact rfl) | (apply Go.Hs.RV_cell1; exact rfl; (repeat' (first | exact Go.Hs.Pick.head _ _ | apply Go.Hs.Pick.tail)); (intro _; exact rfl); exact rfl))); (focus (first | exact Go.Hs.RV_tmp rfl | (apply Go.Hs.RV_cellN; exact rfl; (repeat' (first | exact Go.Hs.Pick.head _ _ | apply Go.Hs.Pick.tail)); (intro _; exact rfl); (intro _; exact rfl); exact rfl) | (apply Go.Hs.RV_cell1; exact rfl; (repeat' (first | exact Go.Hs.Pick.head _ _ | apply Go.Hs.Pick.tail)); (intro _; exact rfl); exact rfl)));  (focus (first | exact rfl | (simp; done))); (focus (repeat (first | exact Go.Hs.SubO.nil _ | (apply Go.Hs.SubO.cons; (focus (repeat' (first | exact Go.Hs.Pick.head _ _ | apply Go.Hs.Pick.tail))))))); (focus (repeat (first | exact Go.Hs.AllE.nil _ | (apply Go.Hs.AllE.cons; (focus (first | exact Go.Hs.ent_nilBy | exact Go.Hs.ent_nilSl | (apply Go.Hs.Ent.mem; repeat' (first | exact Go.Hs.mcs | apply Go.Hs.mct)))))))))
  by_cases c4 : bs.length < 14 + upN bs
  · have he : upE bs = 10 := by unfold upE; rw [if_neg c1, if_neg c2, if_neg c3, if_pos c4]
    have hp : upE bs = 0 → PKz ⟨upT bs, upF bs, .slice none 0 0, []⟩ = upP bs := fun h => by rw [he] at h; cases h
    rw [if_neg (by rw [he]; decide), he] at *
    repeat (first | refine Go.Hs.n1 ?_ | refine Go.Hs.n2 (fun b _ => ?_) | refine Go.Hs.n3 (fun _ _ => ?_) | refine Go.Hs.n4 ?_ | refine Go.Hs.n5 ?_ | refine Go.Hs.n6 (hg) ?_ | refine Go.Hs.n6v (hg) ?_ | refine Go.Hs.WL_nil ?_ | refine Go.Hs.W_seq ?_ | refine Go.Hs.W_region ?_ | refine Go.Hs.n7 ?_ | refine Go.Hs.n8 ?_ | refine Go.Hs.W_block ?_ | refine Go.Hs.W_skip ?_ | refine Go.Hs.W_ret ?_ | refine Go.Hs.W_exit ?_ | refine Go.Hs.WQ_then ?_ | refine Go.Hs.WQ_then_ret ?_ | refine Go.Hs.WQ_then_exit ?_ | refine Go.Hs.WQ_block_normal ?_ | refine Go.Hs.WQ_block_ret ?_ | refine Go.Hs.WQ_block_exit ?_ | refine Go.Hs.n9 ?_)
    apply WQ_nilRow 5 1
    ((apply Go.Hs.ret3 Tryd.results33 ( (⟨upT bs, upF bs, .slice none 0 0, []⟩ : PK))); (focus (first | trivial | assumption | omega)); (focus (first | exact Go.Hs.RV_tmp rfl | (apply Go.Hs.RV_cellN; exact rfl; (repeat' (first | exact Go.Hs.Pick.head _ _ | apply Go.Hs.Pick.tail)); (intro _; exact rfl); (intro _; exact rfl); exact rfl) | (apply Go.Hs.RV_cell1; exact rfl; (repeat' (first | exact Go.Hs.Pick.head _ _ | apply Go.Hs.Pick.tail)); (intro _; exact rfl); exact rfl))); (focus (first | exact Go.Hs.RV_tmp rfl | (apply Go.Hs.RV_cellN; exact rfl; (repeat' (first | exact Go.Hs.Pick.head _ _ | apply Go.Hs.Pick.tail)); (intro _; exact rfl); (intro _; exact rfl); exact rfl) | (apply Go.Hs.RV_cell1; exact rfl; (repeat' (first | exact Go.Hs.Pick.head _ _ | apply Go.Hs.Pick.tail)); (intro _; exact rfl); exact rfl))); (focus (first | exact Go.Hs.RV_tmp rfl | (apply Go.Hs.RV_cellN; exact rfl; (repeat' (first | exact Go.Hs.Pick.head _ _ | apply Go.Hs.Pick.tail)); (intro _; exact rfl); (intro _; exact rfl); exact rfl) | (apply Go.Hs.RV_cell1; exact rfl; (repeat' (first | exact Go.Hs.Pick.head _ _ | apply Go.Hs.Pick.tail)); (intro _; exact rfl); exact rfl)));  (focus (first | exact rfl | (simp; done))); (focus (repeat (first | exact Go.Hs.SubO.nil _ | (apply Go.Hs.SubO.cons; (focus (repeat' (first | exact Go.Hs.Pick.head _ _ | apply Go.Hs.Pick.tail))))))); (focus (repeat (first | exact Go.Hs.AllE.nil _ | (apply Go.Hs.AllE.cons; (focus (first | exact Go.Hs.ent_nilBy | exact Go.Hs.ent_nilSl | (apply Go.Hs.Ent.mem; repeat' (first | exact Go.Hs.mcs | apply Go.Hs.mct)))))))))
  have he : upE bs = 0 := by unfold upE; rw [if_neg c1, if_neg c2, if_neg c3, if_neg c4]
  rw [if_pos he, he]
  repeat (first | refine Go.Hs.n1 ?_ | refine Go.Hs.n2 (fun b _ => ?_) | refine Go.Hs.n3 (fun _ _ => ?_) | refine Go.Hs.n4 ?_ | refine Go.Hs.n5 ?_ | refine Go.Hs.n6 (hg) ?_ | refine Go.Hs.n6v (hg) ?_ | refine Go.Hs.WL_nil ?_ | refine Go.Hs.W_seq ?_ | refine Go.Hs.W_region ?_ | refine Go.Hs.n7 ?_ | refine Go.Hs.n8 ?_ | refine Go.Hs.W_block ?_ | refine Go.Hs.W_skip ?_ | refine Go.Hs.W_ret ?_ | refine Go.Hs.W_exit ?_ | refine Go.Hs.WQ_then ?_ | refine Go.Hs.WQ_then_ret ?_ | refine Go.Hs.WQ_then_exit ?_ | refine Go.Hs.WQ_block_normal ?_ | refine Go.Hs.WQ_block_ret ?_ | refine Go.Hs.WQ_block_exit ?_ | refine Go.Hs.n9 ?_)
  (apply Go.Hs.WL_effs; exact rfl; exact rfl; exact rfl; apply Go.Hs.E_call; exact rfl; (intro _ _; simp); (exact cloneB_fn _ ((bs.drop 14).take (upN bs)) (by rw [List.length_take, List.length_drop]; omega)); (repeat (first | exact Go.Hs.AllE.nil _ | (apply Go.Hs.AllE.cons; (focus (first | exact Go.Hs.ent_nilBy | exact Go.Hs.ent_nilSl | (apply Go.Hs.Ent.mem; repeat' (first | exact Go.Hs.mcs | apply Go.Hs.mct))))))); (intro _; exact rfl); (intro _; exact rfl))
  intro o _
  repeat (first | refine Go.Hs.n1 ?_ | refine Go.Hs.n2 (fun b _ => ?_) | refine Go.Hs.n3 (fun _ _ => ?_) | refine Go.Hs.n4 ?_ | refine Go.Hs.n5 ?_ | refine Go.Hs.WL_nil ?_ | refine Go.Hs.W_seq ?_ | refine Go.Hs.W_region ?_ | refine Go.Hs.n7 ?_ | refine Go.Hs.n8 ?_ | refine Go.Hs.W_block ?_ | refine Go.Hs.W_skip ?_ | refine Go.Hs.W_ret ?_ | refine Go.Hs.W_exit ?_ | refine Go.Hs.WQ_then ?_ | refine Go.Hs.WQ_then_ret ?_ | refine Go.Hs.WQ_then_exit ?_ | refine Go.Hs.WQ_block_normal ?_ | refine Go.Hs.WQ_block_ret ?_ | refine Go.Hs.WQ_block_exit ?_ | refine Go.Hs.n9 ?_)
  have hp : 0 = (0 : Int) → PKz ⟨upT bs, upF bs, o, (bs.drop 14).take (upN bs)⟩ = upP bs := fun _ => rfl
  ((apply Go.Hs.ret3 Tryd.results33 ( (⟨upT bs, upF bs, o, (bs.drop 14).take (upN bs)⟩ : PK))); (focus (first | trivial | assumption | omega)); (focus (first | exact Go.Hs.RV_tmp rfl | (apply Go.Hs.RV_cellN; exact rfl; (repeat' (first | exact Go.Hs.Pick.head _ _ | apply Go.Hs.Pick.tail)); (intro _; exact rfl); (intro _; exact rfl); exact rfl) | (apply Go.Hs.RV_cell1; exact rfl; (repeat' (first | exact Go.Hs.Pick.head _ _ | apply Go.Hs.Pick.tail)); (intro _; exact rfl); exact rfl))); (focus (first | exact Go.Hs.RV_tmp rfl | (apply Go.Hs.RV_cellN; exact rfl; (repeat' (first | exact Go.Hs.Pick.head _ _ | apply Go.Hs.Pick.tail)); (intro _; exact rfl); (intro _; exact rfl); exact rfl) | (apply Go.Hs.RV_cell1; exact rfl; (repeat' (first | exact Go.Hs.Pick.head _ _ | apply Go.Hs.Pick.tail)); (intro _; exact rfl); exact rfl))); (focus (first | exact Go.Hs.RV_tmp rfl | (apply Go.Hs.RV_cellN; exact rfl; (repeat' (first | exact Go.Hs.Pick.head _ _ | apply Go.Hs.Pick.tail)); (intro _; exact rfl); (intro _; exact rfl); exact rfl) | (apply Go.Hs.RV_cell1; exact rfl; (repeat' (first | exact Go.Hs.Pick.head _ _ | apply Go.Hs.Pick.tail)); (intro _; exact rfl); exact rfl)));  (focus (first | exact rfl | (simp; done))); (focus (repeat (first | exact Go.Hs.SubO.nil _ | (apply Go.Hs.SubO.cons; (focus (repeat' (first | exact Go.Hs.Pick.head _ _ | apply Go.Hs.Pick.tail))))))); (focus (repeat (first | exact Go.Hs.AllE.nil _ | (apply Go.Hs.AllE.cons; (focus (first | exact Go.Hs.ent_nilBy | exact Go.Hs.ent_nilSl | (apply Go.Hs.Ent.mem; repeat' (first | exact Go.Hs.mcs | apply Go.Hs.mct)))))))))
end Go.Proofs.YteojehocflbgdaaDoor.C08d
