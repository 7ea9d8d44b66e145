/-
  Lists of partial frames: searches, copies, removals.
-/
import Derived.Test.YtglmcnjkcmbefaaVIb
import Derived.Test.YtglmcnjkcmbefaaXd
namespace Go.Proofs.Ytglmcnjkcmbefaa
open Go Go.RowKit Go.Hs C05

/-- the first place below n where q holds. -/
def firstI (q : Nat → Bool) : Nat → Nat → Int
  | 0, _ => -1
  | f + 1, k => if q k then (k : Int) else firstI q f (k + 1)
theorem firstI_skip (q : Nat → Bool) : ∀ (f k x : Nat), (∀ j, k ≤ j → j < x → q j = false) → k ≤ x → x ≤ k + f → firstI q f k = firstI q (k + f - x) x
  | f, k, x, h, h1, h2 => by
    induction f generalizing k with
    | zero =>
      obtain rfl : k = x := by omega
      rw [Nat.add_sub_cancel_left]
    | succ f ih =>
      by_cases e : k = x
      · subst e; rw [Nat.add_sub_cancel_left]
      · rw [firstI, if_neg (by rw [h k (Nat.le_refl _) (by omega)]; decide), ih (k + 1) (fun j h3 h4 => h j (by omega) h4) (by omega) (by omega)]
        congr 1
        omega
def idxQ (n : Nat) (q : Nat → Bool) : Int := firstI q n 0
theorem idxQ_at {n x : Nat} {q : Nat → Bool} (h : ∀ j, j < x → q j = false) (hx : x < n) (hq : q x = true) : idxQ n q = (x : Int) := by
  unfold idxQ
  rw [firstI_skip q n 0 x (fun j _ hj => h j hj) (Nat.zero_le _) (by omega), Nat.zero_add]
  obtain ⟨m, hm⟩ : ∃ m, n - x = m + 1 := ⟨n - x - 1, by omega⟩
  rw [hm, firstI, if_pos hq]
theorem idxQ_none {n : Nat} {q : Nat → Bool} (h : ∀ j, j < n → q j = false) : idxQ n q = -1 := by
  unfold idxQ
  rw [firstI_skip q n 0 n (fun j _ hj => h j hj) (Nat.zero_le _) (by omega), Nat.zero_add, Nat.sub_self]
  rfl
/-- what a search by a predicate on things comes to. -/
theorem idx_filter {V : Type} (q : V → Bool) (z : V) : ∀ (l : List V), (idxQ l.length (fun i => q (l.getD i z)) = -1 ∧ l.filter (fun v => !q v) = l) ∨
    ∃ k, k < l.length ∧ idxQ l.length (fun i => q (l.getD i z)) = (k : Int) ∧ l.take k ++ (l.drop (k + 1)).filter (fun v => !q v) = l.filter (fun v => !q v) := by
  intro l
  by_cases h : ∃ j, j < l.length ∧ q (l.getD j z) = true
  · right
    have key : ∀ n (j : Nat), j ≤ n → j < l.length → q (l.getD j z) = true → ∃ k, k < l.length ∧ q (l.getD k z) = true ∧ ∀ i, i < k → q (l.getD i z) = false := by
      intro n
      induction n with
      | zero =>
        intro j hj hl hq
        obtain rfl : j = 0 := by omega
        exact ⟨0, hl, hq, fun i hi => absurd hi (by omega)⟩
      | succ n ih =>
        intro j hj hl hq
        by_cases h2 : ∃ i, i < j ∧ q (l.getD i z) = true
        · obtain ⟨i, hi, hqi⟩ := h2
          exact ih i (by omega) (by omega) hqi
        · exact ⟨j, hl, hq, fun i hi => by cases e : q (l.getD i z); rfl; exact absurd ⟨i, hi, e⟩ h2⟩
    obtain ⟨j, hj, hq⟩ := h
    obtain ⟨k, hk, hqk, hbk⟩ := key j j (Nat.le_refl _) hj hq
    refine ⟨k, hk, idxQ_at hbk hk hqk, ?_⟩
    have e := congrArg (List.filter (fun v => !q v)) (List.take_append_drop k l)
    rw [List.filter_append, drop_cons_getD hk z, List.filter_cons_of_neg (by simp only [hqk]; decide)] at e
    rw [← e]
    congr 1
    symm
    rw [List.filter_eq_self]
    intro a ha
    obtain ⟨i, hi, rfl⟩ := List.mem_iff_getElem.1 ha
    rw [List.length_take] at hi
    have := hbk i (by omega)
    rw [List.getD_eq_getElem?_getD, List.getElem?_eq_getElem (by omega)] at this
    rw [List.getElem_take]
    have this : q l[i] = false := this
    rw [this]
    rfl
  · left
    have hall : ∀ j, j < l.length → q (l.getD j z) = false := fun j hj => by cases e : q (l.getD j z); rfl; exact absurd ⟨j, hj, e⟩ h
    refine ⟨idxQ_none hall, ?_⟩
    rw [List.filter_eq_self]
    intro a ha
    obtain ⟨i, hi, rfl⟩ := List.mem_iff_getElem.1 ha
    have := hall i hi
    rw [List.getD_eq_getElem?_getD, List.getElem?_eq_getElem hi] at this
    have this : q l[i] = false := this
    rw [this]
    rfl
attribute [local irreducible] WL W WQ PL Runs Effs AllE Ent SubO FrIn Pick OneC Ones CellsE PartsE SeqE UZ By Sl Pt Ct

set_option maxRecDepth 100000 in
set_option maxHeartbeats 1000000 in
theorem indexP_fn (v : Value) (l : List Pa) (n : Nat) (hn : n ≤ l.length) (g : FuncId) (hg : ∀ (a : Array Value) (w : World), (callFunc g a).run Try.prog w = .ok (.enter g a) w) (caps : List Value) (ψ : SP) (q : Nat → Bool) (hc : ∀ i, i < n → CtD Try.prog g ((l.getD i p0_).val :: caps) [ψ] (.bool (q i))) :
    CtD Try.prog 30 [v, .func (.func g) #[] caps.toArray] [Rw 43 v n (fun i => (l.getD i p0_).cells), ψ] (.int .i64 (idxQ n q)) := by
  refine Ct_intro Try.func30 rfl Try.ntmps30 (by simp) _ rfl (fun w0 O0 => ?_)
  refine W_pure (rw_le (n := n) (by repeat' (first | exact mcs | apply mct))) fun hle => ?_
  repeat (first | refine n1 ?_ | refine n2 (fun b _ => ?_) | refine n3 (fun _ _ => ?_) | refine n4 ?_ | refine n5 ?_ | refine WL_nil ?_ | refine W_seq ?_ | refine W_region ?_ | refine n7 ?_ | refine n8 ?_ | refine W_block ?_ | refine W_skip ?_ | refine W_ret ?_ | refine W_exit ?_ | refine WQ_then ?_ | refine WQ_then_ret ?_ | refine WQ_then_exit ?_ | refine WQ_block_normal ?_ | refine WQ_block_ret ?_ | refine WQ_block_exit ?_ | refine n9 ?_)
  ((apply W_loopK (X := Nat) [8, 5] [] (fun x => x ≤ n ∧ ∀ j, j < x → q j = false) (fun x => [(8, .int .i64 (x : Int))]) (fun _ => []) (fun _ => []) (fun x => n - x) (0)); (focus (exact ⟨Nat.zero_le _, fun j hj => absurd hj (by omega)⟩)); exact rfl; exact rfl; (intro _; exact rfl); (intro _; exact rfl); (intro _; exact rfl); (focus (repeat (first | exact FrIn.nil _ | (apply FrIn.cons; exact rfl; (first | exact rfl | (congr 1; first | omega | (dsimp only; omega)) | (simp; done)))))); (focus (repeat (first | exact SubO.nil _ | (apply SubO.cons; (focus (repeat' (first | exact Pick.head _ _ | apply Pick.tail))))))); (focus (repeat (first | exact AllE.nil _ | (apply AllE.cons; (focus (first | exact ent_nilBy | exact ent_nilSl | (apply Ent.mem; repeat' (first | exact mcs | apply mct)))))))); intro x hx)
  obtain ⟨hk, hi⟩ := hx
  by_cases c1 : x < n
  · have hcx := hc x c1
    cases hq : q x with
    | true =>
      rw [hq] at hcx
      rw [idxQ_at hi c1 hq]
      repeat (first | refine n1 ?_ | refine n2 (fun b _ => ?_) | refine n3 (fun _ _ => ?_) | refine n4 ?_ | refine n5 ?_ | refine WL_nil ?_ | refine W_seq ?_ | refine W_region ?_ | refine n7 ?_ | refine n8 ?_ | refine W_block ?_ | refine W_skip ?_ | refine W_ret ?_ | refine W_exit ?_ | refine WQ_then ?_ | refine WQ_then_ret ?_ | refine WQ_then_exit ?_ | refine WQ_block_normal ?_ | refine WQ_block_ret ?_ | refine WQ_block_exit ?_ | refine n9 ?_)
      refine n6v hcx ?_ (hrun := fun a w => hg a w)
      repeat (first | refine n1 ?_ | refine n2 (fun b _ => ?_) | refine n3 (fun _ _ => ?_) | refine n4 ?_ | refine n5 ?_ | refine WL_nil ?_ | refine W_seq ?_ | refine W_region ?_ | refine n7 ?_ | refine n8 ?_ | refine W_block ?_ | refine W_skip ?_ | refine W_ret ?_ | refine W_exit ?_ | refine WQ_then ?_ | refine WQ_then_ret ?_ | refine WQ_then_exit ?_ | refine WQ_block_normal ?_ | refine WQ_block_ret ?_ | refine WQ_block_exit ?_ | refine n9 ?_)
      ((apply ret1 Try.results30 ( ())); (focus (first | trivial | assumption | omega)); (focus (first | exact RV_tmp rfl | (apply RV_cellN; exact rfl; (repeat' (first | exact Pick.head _ _ | apply Pick.tail)); (intro _; exact rfl); (intro _; exact rfl); exact rfl) | (apply RV_cell1; exact rfl; (repeat' (first | exact Pick.head _ _ | apply Pick.tail)); (intro _; exact rfl); exact rfl)));  (focus (first | exact rfl | (simp; done))); (focus (repeat (first | exact SubO.nil _ | (apply SubO.cons; (focus (repeat' (first | exact Pick.head _ _ | apply Pick.tail))))))); (focus (repeat (first | exact AllE.nil _ | (apply AllE.cons; (focus (first | exact ent_nilBy | exact ent_nilSl | (apply Ent.mem; repeat' (first | exact mcs | apply mct)))))))))
    | false =>
      rw [hq] at hcx
      repeat (first | refine n1 ?_ | refine n2 (fun b _ => ?_) | refine n3 (fun _ _ => ?_) | refine n4 ?_ | refine n5 ?_ | refine WL_nil ?_ | refine W_seq ?_ | refine W_region ?_ | refine n7 ?_ | refine n8 ?_ | refine W_block ?_ | refine W_skip ?_ | refine W_ret ?_ | refine W_exit ?_ | refine WQ_then ?_ | refine WQ_then_ret ?_ | refine WQ_then_exit ?_ | refine WQ_block_normal ?_ | refine WQ_block_ret ?_ | refine WQ_block_exit ?_ | refine n9 ?_)
      refine n6v hcx ?_ (hrun := fun a w => hg a w)
      repeat (first | refine n1 ?_ | refine n2 (fun b _ => ?_) | refine n3 (fun _ _ => ?_) | refine n4 ?_ | refine n5 ?_ | refine WL_nil ?_ | refine W_seq ?_ | refine W_region ?_ | refine n7 ?_ | refine n8 ?_ | refine W_block ?_ | refine W_skip ?_ | refine W_ret ?_ | refine W_exit ?_ | refine WQ_then ?_ | refine WQ_then_ret ?_ | refine WQ_then_exit ?_ | refine WQ_block_normal ?_ | refine WQ_block_ret ?_ | refine WQ_block_exit ?_ | refine n9 ?_)
      have hn' : x + 1 ≤ n ∧ ∀ j, j < x + 1 → q j = false := ⟨c1, fun j hj => by
        by_cases e : j = x
        · subst e; exact hq
        · exact hi j (by omega)⟩
      ((apply WQ_again (x + 1)); (focus exact hn'); (focus (omega)); (focus (repeat (first | exact FrIn.nil _ | (apply FrIn.cons; exact rfl; (first | exact rfl | (congr 1; first | omega | (dsimp only; omega)) | (simp; done)))))); (focus (repeat (first | exact SubO.nil _ | (apply SubO.cons; (focus (repeat' (first | exact Pick.head _ _ | apply Pick.tail))))))); (focus (repeat (first | exact AllE.nil _ | (apply AllE.cons; (focus (first | exact ent_nilBy | exact ent_nilSl | (apply Ent.mem; repeat' (first | exact mcs | apply mct)))))))))
  · obtain rfl : x = n := by omega
    rw [idxQ_none hi]
    repeat (first | refine n1 ?_ | refine n2 (fun b _ => ?_) | refine n3 (fun _ _ => ?_) | refine n4 ?_ | refine n5 ?_ | refine WL_nil ?_ | refine W_seq ?_ | refine W_region ?_ | refine n7 ?_ | refine n8 ?_ | refine W_block ?_ | refine W_skip ?_ | refine W_ret ?_ | refine W_exit ?_ | refine WQ_then ?_ | refine WQ_then_ret ?_ | refine WQ_then_exit ?_ | refine WQ_block_normal ?_ | refine WQ_block_ret ?_ | refine WQ_block_exit ?_ | refine n9 ?_)
    ((apply ret1 Try.results30 ( ())); (focus (first | trivial | assumption | omega)); (focus (first | exact RV_tmp rfl | (apply RV_cellN; exact rfl; (repeat' (first | exact Pick.head _ _ | apply Pick.tail)); (intro _; exact rfl); (intro _; exact rfl); exact rfl) | (apply RV_cell1; exact rfl; (repeat' (first | exact Pick.head _ _ | apply Pick.tail)); (intro _; exact rfl); exact rfl)));  (focus (first | exact rfl | (simp; done))); (focus (repeat (first | exact SubO.nil _ | (apply SubO.cons; (focus (repeat' (first | exact Pick.head _ _ | apply Pick.tail))))))); (focus (repeat (first | exact AllE.nil _ | (apply AllE.cons; (focus (first | exact ent_nilBy | exact ent_nilSl | (apply Ent.mem; repeat' (first | exact mcs | apply mct)))))))))

set_option maxRecDepth 100000 in
theorem cloneP_fn (v : Value) (l : List Pa) (ho : ∀ p ∈ l, p.bv.oneCell' = true) (hx : l.length ≤ 1000000) : Ct Try.prog 46 [v] [] [Rw 43 v l.length (fun i => (l.getD i p0_).cells)] (X := Value) (fun _ => True) (fun x => x) (fun x => [.row x 61 43 l.length (fcP l)]) (fun _ => []) := by
  cases h : isNilV v with
  | true =>
    refine Ct_intro Try.func46 rfl Try.ntmps46 (by simp) _ rfl (fun w0 O0 => ?_)
    refine W_pure (rw_nil h (by repeat' (first | exact mcs | apply mct))) fun e => ?_
    obtain rfl : l = [] := List.eq_nil_of_length_eq_zero e
    repeat (first | refine n1 ?_ | refine n2 (fun b _ => ?_) | refine n3 (fun _ _ => ?_) | refine n4 ?_ | refine n5 ?_ | refine WL_nil ?_ | refine W_seq ?_ | refine W_region ?_ | refine n7 ?_ | refine n8 ?_ | refine W_block ?_ | refine W_skip ?_ | refine W_ret ?_ | refine W_exit ?_ | refine WQ_then ?_ | refine WQ_then_ret ?_ | refine WQ_then_exit ?_ | refine WQ_block_normal ?_ | refine WQ_block_ret ?_ | refine WQ_block_exit ?_ | refine n9 ?_)
    refine WL_runs rfl rfl rfl (R_eqNilR (n := 0) rfl rfl (by repeat' (first | exact mcs | apply mct)) rfl) ?_
    rw [h]
    repeat (first | refine n1 ?_ | refine n2 (fun b _ => ?_) | refine n3 (fun _ _ => ?_) | refine n4 ?_ | refine n5 ?_ | refine WL_nil ?_ | refine W_seq ?_ | refine W_region ?_ | refine n7 ?_ | refine n8 ?_ | refine W_block ?_ | refine W_skip ?_ | refine W_ret ?_ | refine W_exit ?_ | refine WQ_then ?_ | refine WQ_then_ret ?_ | refine WQ_then_exit ?_ | refine WQ_block_normal ?_ | refine WQ_block_ret ?_ | refine WQ_block_exit ?_ | refine n9 ?_)
    apply WQ_nilRow 61 43
    ((apply ret1 Try.results46 ( Value.slice none 0 0)); (focus (first | trivial | assumption | omega)); (focus (first | exact RV_tmp rfl | (apply RV_cellN; exact rfl; (repeat' (first | exact Pick.head _ _ | apply Pick.tail)); (intro _; exact rfl); (intro _; exact rfl); exact rfl) | (apply RV_cell1; exact rfl; (repeat' (first | exact Pick.head _ _ | apply Pick.tail)); (intro _; exact rfl); exact rfl)));  (focus (first | exact rfl | (simp; done))); (focus (repeat (first | exact SubO.nil _ | (apply SubO.cons; (focus (repeat' (first | exact Pick.head _ _ | apply Pick.tail))))))); (focus (repeat (first | exact AllE.nil _ | (apply AllE.cons; (focus (first | exact ent_nilBy | exact ent_nilSl | (apply Ent.mem; repeat' (first | exact mcs | apply mct)))))))))
  | false =>
    refine Ct_intro Try.func46 rfl Try.ntmps46 (by simp) _ rfl (fun w0 O0 => ?_)
    refine W_ent (ent_rwG (cf := Pa.cells) (S := 43) (l := l) pa_len (by decide) p0_ (by (focus (repeat' (first | exact mcs | apply mct))))) ?_
    repeat (first | refine n1 ?_ | refine n2 (fun b _ => ?_) | refine n3 (fun _ _ => ?_) | refine n4 ?_ | refine n5 ?_ | refine WL_nil ?_ | refine W_seq ?_ | refine W_region ?_ | refine n7 ?_ | refine n8 ?_ | refine W_block ?_ | refine W_skip ?_ | refine W_ret ?_ | refine W_exit ?_ | refine WQ_then ?_ | refine WQ_then_ret ?_ | refine WQ_then_exit ?_ | refine WQ_block_normal ?_ | refine WQ_block_ret ?_ | refine WQ_block_exit ?_ | refine n9 ?_)
    refine WL_runs rfl rfl rfl (R_eqNilR (n := l.length) rfl rfl (by repeat' (first | exact mcs | apply mct)) rfl) ?_
    rw [h]
    repeat (first | refine n1 ?_ | refine n2 (fun b _ => ?_) | refine n3 (fun _ _ => ?_) | refine n4 ?_ | refine n5 ?_ | refine WL_nil ?_ | refine W_seq ?_ | refine W_region ?_ | refine n7 ?_ | refine n8 ?_ | refine W_block ?_ | refine W_skip ?_ | refine W_ret ?_ | refine W_exit ?_ | refine WQ_then ?_ | refine WQ_then_ret ?_ | refine WQ_then_exit ?_ | refine WQ_block_normal ?_ | refine WQ_block_ret ?_ | refine WQ_block_exit ?_ | refine n9 ?_)
    (apply WL_effs; exact rfl; exact rfl; exact rfl; (apply E_buildSlice; exact rfl; (focus (repeat (first | apply SeqE.nil | (apply SeqE.cons; exact rfl; (focus (first | (apply CellsE.lit; exact rfl) | (apply CellsE.one; (first | (apply OneC.lit; exact rfl) | (apply OneC.by_; (repeat' (first | exact mcs | apply mct)); done) | (apply OneC.sl; (repeat' (first | exact mcs | apply mct)); done) | (apply OneC.rw; (repeat' (first | exact mcs | apply mct)); done) | (apply OneC.row; (repeat' (first | exact Pick.head _ _ | apply Pick.tail))))))); exact rfl) | exact rfl))); exact rfl; (first | (intro _; exact (rfl : _ = Result.ok 1 _)) | (intro _; exact (rfl : _ = Result.ok 2 _)) | (intro _; exact (rfl : _ = Result.ok 3 _)) | (intro _; exact (rfl : _ = Result.ok 4 _)) | (intro _; exact (rfl : _ = Result.ok 5 _)) | (intro _; exact (rfl : _ = Result.ok 6 _)) | (intro _; exact (rfl : _ = Result.ok 7 _)) | (intro _; exact (rfl : _ = Result.ok 8 _)) | (intro _; exact (rfl : _ = Result.ok 9 _)) | (intro _; exact (rfl : _ = Result.ok 13 _)) | (intro _; exact (rfl : _ = Result.ok 14 _)) | (intro _; exact (rfl : _ = Result.ok 26 _)) | (intro _; exact (rfl : _ = Result.ok 40 _)) | (intro _; exact (rfl : _ = Result.ok 41 _)) | (intro _; exact (rfl : _ = Result.ok 42 _)) | (intro _; exact (rfl : _ = Result.ok 43 _)) | (intro _; exact (rfl : _ = Result.ok 44 _)) | (intro _; exact (rfl : _ = Result.ok 45 _)) | (intro _; exact (rfl : _ = Result.ok 46 _))); (intro _; exact rfl); exact rfl; exact Nat.le_of_ble_eq_true rfl; exact Nat.le_of_ble_eq_true rfl); skip)
    intro q _
    repeat (first | refine n1 ?_ | refine n2 (fun b _ => ?_) | refine n3 (fun _ _ => ?_) | refine n4 ?_ | refine n5 ?_ | refine WL_nil ?_ | refine W_seq ?_ | refine W_region ?_ | refine n7 ?_ | refine n8 ?_ | refine W_block ?_ | refine W_skip ?_ | refine W_ret ?_ | refine W_exit ?_ | refine WQ_then ?_ | refine WQ_then_ret ?_ | refine WQ_then_exit ?_ | refine WQ_block_normal ?_ | refine WQ_block_ret ?_ | refine WQ_block_exit ?_ | refine n9 ?_)
    refine WL_effs rfl rfl rfl (E_appendO (xs := []) (news := fcP l) (nm := l.length) (all := fcP l) rfl rfl (by repeat' (first | exact Pick.head _ _ | apply Pick.tail)) (m := l.length) (by repeat' (first | exact mcs | apply mct)) rfl rfl rfl rfl rfl (Nat.le_of_ble_eq_true rfl) (Ones.lits (fcP_one ho)) (Nat.le_of_ble_eq_true rfl) (by omega) (Nat.zero_add _) rfl) ?_
    intro o _
    repeat (first | refine n1 ?_ | refine n2 (fun b _ => ?_) | refine n3 (fun _ _ => ?_) | refine n4 ?_ | refine n5 ?_ | refine WL_nil ?_ | refine W_seq ?_ | refine W_region ?_ | refine n7 ?_ | refine n8 ?_ | refine W_block ?_ | refine W_skip ?_ | refine W_ret ?_ | refine W_exit ?_ | refine WQ_then ?_ | refine WQ_then_ret ?_ | refine WQ_then_exit ?_ | refine WQ_block_normal ?_ | refine WQ_block_ret ?_ | refine WQ_block_exit ?_ | refine n9 ?_)
    ((apply ret1 Try.results46 ( o)); (focus (first | trivial | assumption | omega)); (focus (first | exact RV_tmp rfl | (apply RV_cellN; exact rfl; (repeat' (first | exact Pick.head _ _ | apply Pick.tail)); (intro _; exact rfl); (intro _; exact rfl); exact rfl) | (apply RV_cell1; exact rfl; (repeat' (first | exact Pick.head _ _ | apply Pick.tail)); (intro _; exact rfl); exact rfl)));  (focus (first | exact rfl | (simp; done))); (focus (repeat (first | exact SubO.nil _ | (apply SubO.cons; (focus (repeat' (first | exact Pick.head _ _ | apply Pick.tail))))))); (focus (repeat (first | exact AllE.nil _ | (apply AllE.cons; (focus (first | exact ent_nilBy | exact ent_nilSl | (apply Ent.mem; repeat' (first | exact mcs | apply mct)))))))))

set_option maxRecDepth 100000 in
set_option maxHeartbeats 8000000 in
theorem deleteF_fn (l : List Pa) (ho : ∀ p ∈ l, p.bv.oneCell' = true) (o : Value) (g : FuncId) (hg : ∀ (a : Array Value) (w : World), (callFunc g a).run Try.prog w = .ok (.enter g a) w) (caps : List Value) (ψ : SP) (q : Pa → Bool) (hc : ∀ v, v ∈ l → CtD Try.prog g (v.val :: caps) [ψ] (.bool (q v))) :
    Ct Try.prog 38 [o, .func (.func g) #[] caps.toArray] [.row o 61 43 l.length (fcP l)] [ψ]
    (X := Value) (fun _ => True) (fun x => x) (fun x => [.row x 61 43 (l.filter (fun v => !q v)).length (fcP (l.filter (fun v => !q v)))]) (fun _ => []) := by
  have hmem : ∀ i, i < l.length → l.getD i p0_ ∈ l := fun i hi => by rw [List.getD_eq_getElem?_getD, List.getElem?_eq_getElem hi]; exact List.getElem_mem hi
  have hix := indexP_fn o l l.length (Nat.le_refl _) g hg caps ψ (fun i => q (l.getD i p0_)) (fun i hi => hc _ (hmem i hi))
  refine Ct_intro Try.func38 rfl Try.ntmps38 (by simp) _ rfl (fun w0 O0 => ?_)
  refine W_pure (row_le (v := o) (n := l.length) (by repeat' (first | exact Pick.head _ _ | apply Pick.tail))) fun hle => ?_
  repeat (first | refine n1 ?_ | refine n2 (fun b _ => ?_) | refine n3 (fun _ _ => ?_) | refine n4 ?_ | refine n5 ?_ | refine WL_nil ?_ | refine W_seq ?_ | refine W_region ?_ | refine n7 ?_ | refine n8 ?_ | refine W_block ?_ | refine W_skip ?_ | refine W_ret ?_ | refine W_exit ?_ | refine WQ_then ?_ | refine WQ_then_ret ?_ | refine WQ_then_exit ?_ | refine WQ_block_normal ?_ | refine WQ_block_ret ?_ | refine WQ_block_exit ?_ | refine n9 ?_)
  apply WL_runs
  · exact rfl
  · exact rfl
  · exact rfl
  · apply R_callB (Γb := [.row o 61 43 l.length (fcP l)])
    · exact rfl
    · intro _ _
      simp
    · exact hix
    · exact perm1 (by repeat' (first | exact Pick.head _ _ | apply Pick.tail))
    · exact Bor.sub (Bor.rowG (cf := Pa.cells) (S := 43) (l := l) pa_len p0_ rfl rfl) (AllIn.cons (by repeat' (first | exact mcs | apply mct)) (AllIn.cons (by repeat' (first | exact mcs | apply mct)) (AllIn.nil _)))
  rcases idx_filter q p0_ l with ⟨hf, hr⟩ | ⟨k, hk, hf, hr⟩
  · rw [hf, hr]
    repeat (first | refine n1 ?_ | refine n2 (fun b _ => ?_) | refine n3 (fun _ _ => ?_) | refine n4 ?_ | refine n5 ?_ | refine WL_nil ?_ | refine W_seq ?_ | refine W_region ?_ | refine n7 ?_ | refine n8 ?_ | refine W_block ?_ | refine W_skip ?_ | refine W_ret ?_ | refine W_exit ?_ | refine WQ_then ?_ | refine WQ_then_ret ?_ | refine WQ_then_exit ?_ | refine WQ_block_normal ?_ | refine WQ_block_ret ?_ | refine WQ_block_exit ?_ | refine n9 ?_)
    ((apply ret1 Try.results38 ( o)); (focus (first | trivial | assumption | omega)); (focus (first | exact RV_tmp rfl | (apply RV_cellN; exact rfl; (repeat' (first | exact Pick.head _ _ | apply Pick.tail)); (intro _; exact rfl); (intro _; exact rfl); exact rfl) | (apply RV_cell1; exact rfl; (repeat' (first | exact Pick.head _ _ | apply Pick.tail)); (intro _; exact rfl); exact rfl)));  (focus (first | exact rfl | (simp; done))); (focus (repeat (first | exact SubO.nil _ | (apply SubO.cons; (focus (repeat' (first | exact Pick.head _ _ | apply Pick.tail))))))); (focus (repeat (first | exact AllE.nil _ | (apply AllE.cons; (focus (first | exact ent_nilBy | exact ent_nilSl | (apply Ent.mem; repeat' (first | exact mcs | apply mct)))))))))
  · rw [hf]
    have h5 : (fcP l).length = l.length * 43 := fcP_length l
    have h0 : k < k + 1 ∧ k + 1 ≤ l.length ∧ (fcP l).length = l.length * 43 ∧ (l.take k).length = k ∧ (fcP l).take (k * 43) = fcP (l.take k) ∧ (fcP l).drop ((k + 1) * 43) = fcP (l.drop (k + 1)) ∧ l.take k ++ (l.drop (k + 1)).filter (fun v => !q v) = l.filter (fun v => !q v) := ⟨Nat.lt_succ_self _, hk, h5, by rw [List.length_take]; omega, fc_take pa_len l k (Nat.le_of_lt hk), fc_drop pa_len l (k + 1) hk, hr⟩
    repeat (first | refine n1 ?_ | refine n2 (fun b _ => ?_) | refine n3 (fun _ _ => ?_) | refine n4 ?_ | refine n5 ?_ | refine WL_nil ?_ | refine W_seq ?_ | refine W_region ?_ | refine n7 ?_ | refine n8 ?_ | refine W_block ?_ | refine W_skip ?_ | refine W_ret ?_ | refine W_exit ?_ | refine WQ_then ?_ | refine WQ_then_ret ?_ | refine WQ_then_exit ?_ | refine WQ_block_normal ?_ | refine WQ_block_ret ?_ | refine WQ_block_exit ?_ | refine n9 ?_)
    ((apply W_loopK (X := Nat × Nat × List Value × List Pa) [5, 6, 7] [0] (fun x => x.1 < x.2.1 ∧ x.2.1 ≤ l.length ∧ x.2.2.1.length = l.length * 43 ∧ x.2.2.2.length = x.1 ∧ x.2.2.1.take (x.1 * 43) = fcP x.2.2.2 ∧ x.2.2.1.drop (x.2.1 * 43) = fcP (l.drop x.2.1) ∧ x.2.2.2 ++ (l.drop x.2.1).filter (fun v => !q v) = l.filter (fun v => !q v)) (fun x => [(5, .int .i64 (x.1 : Int)), (6, .int .i64 (x.2.1 : Int))]) (fun x => [.row o 61 43 l.length x.2.2.1]) (fun _ => []) (fun x => l.length - x.2.1) ((k, k + 1, fcP l, l.take k))); (focus exact h0); exact rfl; exact rfl; (intro _; exact rfl); (intro _; exact rfl); (intro _; exact rfl); (focus (repeat (first | exact FrIn.nil _ | (apply FrIn.cons; exact rfl; (first | exact rfl | (congr 1; first | omega | (dsimp only; omega)) | (simp; done)))))); (focus (repeat (first | exact SubO.nil _ | (apply SubO.cons; (focus (repeat' (first | exact Pick.head _ _ | apply Pick.tail))))))); (focus (repeat (first | exact AllE.nil _ | (apply AllE.cons; (focus (first | exact ent_nilBy | exact ent_nilSl | (apply Ent.mem; repeat' (first | exact mcs | apply mct)))))))); intro x hx)
    obtain ⟨i, j, L, w⟩ := x
    obtain ⟨i1, i2, i3, i4, i5, i6, i7⟩ := hx
    replace i1 : i < j := i1
    replace i2 : j ≤ l.length := i2
    replace i3 : L.length = l.length * 43 := i3
    replace i4 : w.length = i := i4
    replace i5 : L.take (i * 43) = fcP w := i5
    replace i6 : L.drop (j * 43) = fcP (l.drop j) := i6
    replace i7 : w ++ (l.drop j).filter (fun v => !q v) = l.filter (fun v => !q v) := i7
    dsimp only
    by_cases c1 : j < l.length
    · have hcj := hc _ (hmem j c1)
      rw [drop_cons_getD c1 p0_] at i6 i7
      have hfc : fcP (l.getD j p0_ :: l.drop (j + 1)) = (l.getD j p0_).cells ++ fcP (l.drop (j + 1)) := List.flatMap_cons ..
      rw [hfc] at i6
      have hnx : L.drop ((j + 1) * 43) = fcP (l.drop (j + 1)) := by
        rw [show (j + 1) * 43 = j * 43 + 43 by omega, ← List.drop_drop, i6, List.drop_left' (pa_len _)]
      have hcell : ∀ r u, (l.getD j p0_).cells[r]? = some u → L[j * 43 + r]? = some u := fun r u hr' => by
        rw [← List.getElem?_drop, i6, List.getElem?_append_left (List.getElem?_eq_some_iff.1 hr').1]
        exact hr'
      have ho1 := ho _ (hmem j c1)
      generalize l.getD j p0_ = e at *
      repeat (first | refine n1 ?_ | refine n2 (fun b _ => ?_) | refine n3 (fun _ _ => ?_) | refine n4 ?_ | refine n5 ?_ | refine WL_nil ?_ | refine W_seq ?_ | refine W_region ?_ | refine n7 ?_ | refine n8 ?_ | refine W_block ?_ | refine W_skip ?_ | refine W_ret ?_ | refine W_exit ?_ | refine WQ_then ?_ | refine WQ_then_ret ?_ | refine WQ_then_exit ?_ | refine WQ_block_normal ?_ | refine WQ_block_ret ?_ | refine WQ_block_exit ?_ | refine n9 ?_)
      refine WL_runs rfl rfl rfl (R_loadRowN (us := e.cells) rfl (by repeat' (first | exact Pick.head _ _ | apply Pick.tail)) (by intro _; rfl) (by intro _; rfl) c1 hcell) ?_
      repeat (first | refine n1 ?_ | refine n2 (fun b _ => ?_) | refine n3 (fun _ _ => ?_) | refine n4 ?_ | refine n5 ?_ | refine WL_nil ?_ | refine W_seq ?_ | refine W_region ?_ | refine n7 ?_ | refine n8 ?_ | refine W_block ?_ | refine W_skip ?_ | refine W_ret ?_ | refine W_exit ?_ | refine WQ_then ?_ | refine WQ_then_ret ?_ | refine WQ_then_exit ?_ | refine WQ_block_normal ?_ | refine WQ_block_ret ?_ | refine WQ_block_exit ?_ | refine n9 ?_)
      refine WL_do rfl rfl (E_store (us := e.cells) rfl rfl (by repeat' (first | exact Pick.head _ _ | apply Pick.tail)) (CellsE.lit rfl) (by intro _; rfl) (Ones.lits (pa_one e ho1)) (ds := e.cells) rfl) (fun _ _ => ?_)
      repeat (first | refine n1 ?_ | refine n2 (fun b _ => ?_) | refine n3 (fun _ _ => ?_) | refine n4 ?_ | refine n5 ?_ | refine WL_nil ?_ | refine W_seq ?_ | refine W_region ?_ | refine n7 ?_ | refine n8 ?_ | refine W_block ?_ | refine W_skip ?_ | refine W_ret ?_ | refine W_exit ?_ | refine WQ_then ?_ | refine WQ_then_ret ?_ | refine WQ_then_exit ?_ | refine WQ_block_normal ?_ | refine WQ_block_ret ?_ | refine WQ_block_exit ?_ | refine n9 ?_)
      cases c2 : q e with
      | true =>
        rw [c2] at hcj
        rw [List.filter_cons_of_neg (by rw [c2]; decide)] at i7
        refine n6v hcj ?_ (hrun := fun a w => hg a w)
        repeat (first | refine n1 ?_ | refine n2 (fun b _ => ?_) | refine n3 (fun _ _ => ?_) | refine n4 ?_ | refine n5 ?_ | refine WL_nil ?_ | refine W_seq ?_ | refine W_region ?_ | refine n7 ?_ | refine n8 ?_ | refine W_block ?_ | refine W_skip ?_ | refine W_ret ?_ | refine W_exit ?_ | refine WQ_then ?_ | refine WQ_then_ret ?_ | refine WQ_then_exit ?_ | refine WQ_block_normal ?_ | refine WQ_block_ret ?_ | refine WQ_block_exit ?_ | refine n9 ?_)
        have hn : i < j + 1 ∧ j + 1 ≤ l.length ∧ L.length = l.length * 43 ∧ w.length = i ∧ L.take (i * 43) = fcP w ∧ L.drop ((j + 1) * 43) = fcP (l.drop (j + 1)) ∧ w ++ (l.drop (j + 1)).filter (fun v => !q v) = l.filter (fun v => !q v) := ⟨by omega, c1, i3, i4, i5, hnx, i7⟩
        ((apply WQ_again ((i, j + 1, L, w))); (focus exact hn); (focus (exact (show l.length - (j + 1) < l.length - j by omega))); (focus (repeat (first | exact FrIn.nil _ | (apply FrIn.cons; exact rfl; (first | exact rfl | (congr 1; first | omega | (dsimp only; omega)) | (simp; done)))))); (focus (repeat (first | exact SubO.nil _ | (apply SubO.cons; (focus (repeat' (first | exact Pick.head _ _ | apply Pick.tail))))))); (focus (repeat (first | exact AllE.nil _ | (apply AllE.cons; (focus (first | exact ent_nilBy | exact ent_nilSl | (apply Ent.mem; repeat' (first | exact mcs | apply mct)))))))))
      | false =>
        rw [c2] at hcj
        rw [List.filter_cons_of_pos (by rw [c2]; decide)] at i7
        refine n6v hcj ?_ (hrun := fun a w => hg a w)
        repeat (first | refine n1 ?_ | refine n2 (fun b _ => ?_) | refine n3 (fun _ _ => ?_) | refine n4 ?_ | refine n5 ?_ | refine WL_nil ?_ | refine W_seq ?_ | refine W_region ?_ | refine n7 ?_ | refine n8 ?_ | refine W_block ?_ | refine W_skip ?_ | refine W_ret ?_ | refine W_exit ?_ | refine WQ_then ?_ | refine WQ_then_ret ?_ | refine WQ_then_exit ?_ | refine WQ_block_normal ?_ | refine WQ_block_ret ?_ | refine WQ_block_exit ?_ | refine n9 ?_)
        refine WL_do rfl rfl (E_storeRowN (us := e.cells) rfl rfl (by repeat' (first | exact Pick.head _ _ | apply Pick.tail)) (CellsE.lit rfl) (Ones.lits (pa_one e ho1)) (by intro _; rfl) (show i < l.length by omega) rfl (putN_mk (i * 43) e.cells L (by rw [i3, pa_len]; omega))) ?_
        intro _ _
        repeat (first | refine n1 ?_ | refine n2 (fun b _ => ?_) | refine n3 (fun _ _ => ?_) | refine n4 ?_ | refine n5 ?_ | refine WL_nil ?_ | refine W_seq ?_ | refine W_region ?_ | refine n7 ?_ | refine n8 ?_ | refine W_block ?_ | refine W_skip ?_ | refine W_ret ?_ | refine W_exit ?_ | refine WQ_then ?_ | refine WQ_then_ret ?_ | refine WQ_then_exit ?_ | refine WQ_block_normal ?_ | refine WQ_block_ret ?_ | refine WQ_block_exit ?_ | refine n9 ?_)
        have hwl : (fcP w).length = i * 43 := by rw [fcP_length, i4]
        have hse := pa_len e
        have hn : i + 1 < j + 1 ∧ j + 1 ≤ l.length ∧ (L.take (i * 43) ++ e.cells ++ L.drop (i * 43 + e.cells.length)).length = l.length * 43 ∧ (w ++ [e]).length = i + 1 ∧
            (L.take (i * 43) ++ e.cells ++ L.drop (i * 43 + e.cells.length)).take ((i + 1) * 43) = fcP (w ++ [e]) ∧
            (L.take (i * 43) ++ e.cells ++ L.drop (i * 43 + e.cells.length)).drop ((j + 1) * 43) = fcP (l.drop (j + 1)) ∧ (w ++ [e]) ++ (l.drop (j + 1)).filter (fun v => !q v) = l.filter (fun v => !q v) := by
          rw [hse]
          refine ⟨by omega, c1, ?_, by rw [List.length_append, i4]; rfl, ?_, ?_, ?_⟩
          · rw [List.length_append, List.length_append, List.length_take, List.length_drop, hse, i3]
            omega
          · rw [i5, List.take_left' (by rw [List.length_append, hwl, hse]; omega)]
            show fcP w ++ e.cells = List.flatMap Pa.cells (w ++ [e])
            rw [List.flatMap_append]
            simp [fcP]
          · rw [i5, List.drop_append, List.drop_of_length_le (by rw [List.length_append, hwl, hse]; omega), List.nil_append, List.drop_drop, List.length_append, hwl, hse, show i * 43 + 43 + ((j + 1) * 43 - (i * 43 + 43)) = (j + 1) * 43 by omega]
            exact hnx
          · rw [List.append_assoc]
            exact i7
        ((apply WQ_again ((i + 1, j + 1, L.take (i * 43) ++ e.cells ++ L.drop (i * 43 + e.cells.length), w ++ [e]))); (focus exact hn); (focus (exact (show l.length - (j + 1) < l.length - j by omega))); (focus (repeat (first | exact FrIn.nil _ | (apply FrIn.cons; exact rfl; (first | exact rfl | (congr 1; first | omega | (dsimp only; omega)) | (simp; done)))))); (focus (repeat (first | exact SubO.nil _ | (apply SubO.cons; (focus (repeat' (first | exact Pick.head _ _ | apply Pick.tail))))))); (focus (repeat (first | exact AllE.nil _ | (apply AllE.cons; (focus (first | exact ent_nilBy | exact ent_nilSl | (apply Ent.mem; repeat' (first | exact mcs | apply mct)))))))))
    · have hj : j = l.length := by omega
      rw [hj, List.drop_length, List.filter_nil, List.append_nil] at i7
      subst i7
      have hwl : (fcP (l.filter (fun v => !q v))).length = i * 43 := by rw [fcP_length, i4]
      repeat (first | refine n1 ?_ | refine n2 (fun b _ => ?_) | refine n3 (fun _ _ => ?_) | refine n4 ?_ | refine n5 ?_ | refine WL_nil ?_ | refine W_seq ?_ | refine W_region ?_ | refine n7 ?_ | refine n8 ?_ | refine W_block ?_ | refine W_skip ?_ | refine W_ret ?_ | refine W_exit ?_ | refine WQ_then ?_ | refine WQ_then_ret ?_ | refine WQ_then_exit ?_ | refine WQ_block_normal ?_ | refine WQ_block_ret ?_ | refine WQ_block_exit ?_ | refine n9 ?_)
      refine WL_runs rfl rfl rfl (R_sliceRow (j := i) rfl rfl (by repeat' (first | exact Pick.head _ _ | apply Pick.tail)) rfl (by intro _; rfl) rfl (show i ≤ l.length by omega)) ?_
      refine WL_do rfl rfl (E_clearRow (j := i) rfl (by repeat' (first | exact Pick.head _ _ | apply Pick.tail)) rfl (by intro _; rfl) rfl rfl (show i ≤ l.length by omega)) ?_
      intro zs _
      repeat (first | refine n1 ?_ | refine n2 (fun b _ => ?_) | refine n3 (fun _ _ => ?_) | refine n4 ?_ | refine n5 ?_ | refine WL_nil ?_ | refine W_seq ?_ | refine W_region ?_ | refine n7 ?_ | refine n8 ?_ | refine W_block ?_ | refine W_skip ?_ | refine W_ret ?_ | refine W_exit ?_ | refine WQ_then ?_ | refine WQ_then_ret ?_ | refine WQ_then_exit ?_ | refine WQ_block_normal ?_ | refine WQ_block_ret ?_ | refine WQ_block_exit ?_ | refine n9 ?_)
      refine WL_effs rfl rfl rfl (E_cutRow (j := i) (us := fcP (l.filter (fun v => !q v))) rfl rfl (by repeat' (first | exact Pick.head _ _ | apply Pick.tail)) rfl (by intro _; rfl) rfl (show i ≤ l.length by omega) (by rw [i5]; exact List.take_left' hwl)) ?_
      intro _ _
      rw [← i4]
      repeat (first | refine n1 ?_ | refine n2 (fun b _ => ?_) | refine n3 (fun _ _ => ?_) | refine n4 ?_ | refine n5 ?_ | refine WL_nil ?_ | refine W_seq ?_ | refine W_region ?_ | refine n7 ?_ | refine n8 ?_ | refine W_block ?_ | refine W_skip ?_ | refine W_ret ?_ | refine W_exit ?_ | refine WQ_then ?_ | refine WQ_then_ret ?_ | refine WQ_then_exit ?_ | refine WQ_block_normal ?_ | refine WQ_block_ret ?_ | refine WQ_block_exit ?_ | refine n9 ?_)
      ((apply ret1 Try.results38 ( cutV 43 0 (l.filter (fun v => !q v)).length o)); (focus (first | trivial | assumption | omega)); (focus (first | exact RV_tmp rfl | (apply RV_cellN; exact rfl; (repeat' (first | exact Pick.head _ _ | apply Pick.tail)); (intro _; exact rfl); (intro _; exact rfl); exact rfl) | (apply RV_cell1; exact rfl; (repeat' (first | exact Pick.head _ _ | apply Pick.tail)); (intro _; exact rfl); exact rfl)));  (focus (first | exact rfl | (simp; done))); (focus (repeat (first | exact SubO.nil _ | (apply SubO.cons; (focus (repeat' (first | exact Pick.head _ _ | apply Pick.tail))))))); (focus (repeat (first | exact AllE.nil _ | (apply AllE.cons; (focus (first | exact ent_nilBy | exact ent_nilSl | (apply Ent.mem; repeat' (first | exact mcs | apply mct)))))))))


end Go.Proofs.Ytglmcnjkcmbefaa
