/-
  What a list of elements is decoded to; small contracts.
-/
import Derived.Test.YtahkcidnmdcaaaaVEb
namespace Go.Proofs.Ytahkcidnmdcaaaa
open Go Go.RowKit Go.Hs
attribute [local irreducible] WL W WQ PL Runs Effs AllE Ent SubO FrIn Pick OneC Ones CellsE PartsE SeqE UZ By Sl Pt Ct

abbrev DR := Fo × Nat × Int
def fapp : Fo → Fo → Fo
  | .nil, u => u
  | .cons id ext data subs next, u => .cons id ext data subs (fapp next u)
theorem fapp_nil : ∀ (t : Fo), fapp t .nil = t
  | .nil => rfl
  | .cons _ _ _ _ next => by rw [fapp, fapp_nil next]
theorem fapp_assoc : ∀ (t u v : Fo), fapp (fapp t u) v = fapp t (fapp u v)
  | .nil, _, _ => rfl
  | .cons _ _ _ _ next, u, v => by simp only [fapp, fapp_assoc next u v]
theorem er_app : ∀ (t u : T), (t.app u).er = fapp t.er u.er
  | .nil, _ => rfl
  | .cons _ _ _ _ _ _ next, u => by simp only [T.app, T.er, fapp, er_app next u]
def dcat (acc : Fo) (q : DR) : DR := if q.2.2 = 0 then (fapp acc q.1, q.2) else (.nil, q.2)
theorem dcat_dcat (a b : Fo) (q : DR) : dcat a (dcat b q) = dcat (fapp a b) q := by
  unfold dcat
  by_cases h : q.2.2 = 0
  · simp [h, fapp_assoc]
  · simp [h]

def lim (id : UInt8) : Nat := if id = 255 then 1025 else 1024
def contB (id : UInt8) : Bool := decide (200 ≤ id.toNat) && decide (id.toNat < 220)
structure ON where
  id : UInt8
  ext : UInt8
  data : List UInt8
  subs : Fo
  rest : List UInt8
  many : Nat
  err : Int
/-- one element from the front of bytes. -/
def one1 (rec : List UInt8 → Nat → Nat → DR) (b : List UInt8) (depth many : Nat) : ON :=
  if many = 64 then ⟨0, 0, [], .nil, [], many, 4⟩
  else if b.getD 0 0 = 254 then ⟨0, 0, [], .nil, [], many + 1, 12⟩
  else if ¬ (whole (b.length - 1) (b.drop 1)).2.2 = 0 then ⟨b.getD 0 0, 0, [], .nil, [], many + 1, (whole (b.length - 1) (b.drop 1)).2.2⟩
  else if lim (b.getD 0 0) < (whole (b.length - 1) (b.drop 1)).1.length then ⟨b.getD 0 0, 0, [], .nil, [], many + 1, 11⟩
  else if b.getD 0 0 = 255 then
    (if (whole (b.length - 1) (b.drop 1)).1.length = 0 then ⟨b.getD 0 0, 0, [], .nil, [], many + 1, 12⟩
     else ⟨b.getD 0 0, (whole (b.length - 1) (b.drop 1)).1.getD 0 0, (whole (b.length - 1) (b.drop 1)).1.drop 1, .nil, (whole (b.length - 1) (b.drop 1)).2.1, many + 1, 0⟩)
  else if contB (b.getD 0 0) = false then ⟨b.getD 0 0, 0, (whole (b.length - 1) (b.drop 1)).1, .nil, (whole (b.length - 1) (b.drop 1)).2.1, many + 1, 0⟩
  else if depth = 4 ∧ 0 < (whole (b.length - 1) (b.drop 1)).1.length then ⟨b.getD 0 0, 0, [], .nil, [], many + 1, 4⟩
  else ⟨b.getD 0 0, 0, [], (rec (whole (b.length - 1) (b.drop 1)).1 (depth + 1) (many + 1)).1, (whole (b.length - 1) (b.drop 1)).2.1, (rec (whole (b.length - 1) (b.drop 1)).1 (depth + 1) (many + 1)).2.1, (rec (whole (b.length - 1) (b.drop 1)).1 (depth + 1) (many + 1)).2.2⟩
def dec : Nat → List UInt8 → Nat → Nat → DR
  | 0, _, _, m => (.nil, m, 0)
  | f + 1, b, d, m =>
    if b.length = 0 then (.nil, m, 0)
    else if ¬ (one1 (dec f) b d m).err = 0 then (.nil, (one1 (dec f) b d m).many, (one1 (dec f) b d m).err)
    else dcat (.cons (one1 (dec f) b d m).id (one1 (dec f) b d m).ext (one1 (dec f) b d m).data (one1 (dec f) b d m).subs .nil) (dec f (one1 (dec f) b d m).rest d (one1 (dec f) b d m).many)

theorem whole_len : ∀ (f : Nat) (b : List UInt8), (whole f b).2.2 = 0 → (whole f b).1.length + (whole f b).2.1.length + 1 ≤ b.length
  | 0, _, h => by cases h
  | f + 1, b, h => by
    have hn := u8le (b.getD 0 0)
    unfold whole at h ⊢
    split at h
    · cases h
    · next h1 =>
      rw [if_neg h1]
      split at h
      · next h2 =>
        rw [if_pos h2]
        simp only [List.length_take, List.length_drop]
        omega
      · next h2 =>
        rw [if_neg h2]
        split at h
        · cases h
        · next h3 =>
          rw [if_neg h3]
          split at h
          · cases h
          · next h4 =>
            rw [if_neg h4]
            unfold wcat at h ⊢
            split at h
            · next h5 =>
              rw [if_pos h5]
              have := whole_len f (b.drop 257) h5
              rw [List.length_drop] at this
              simp only [List.length_append, List.length_take, List.length_drop]
              omega
            · next h5 => exact absurd h h5
theorem one1_many {rec : List UInt8 → Nat → Nat → DR} {b : List UInt8} {d m : Nat} (hr : ∀ c d m, m ≤ 64 → (rec c d m).2.1 ≤ 64) (hm : m ≤ 64) : (one1 rec b d m).many ≤ 64 := by
  unfold one1
  split
  · exact hm
  · have := hr (whole (b.length - 1) (b.drop 1)).1 (d + 1) (m + 1) (by omega)
    repeat' split
    all_goals first | exact this | (show m + 1 ≤ 64; omega)
theorem dec_many : ∀ (f : Nat) (b : List UInt8) (d m : Nat), m ≤ 64 → (dec f b d m).2.1 ≤ 64
  | 0, _, _, m, h => h
  | f + 1, b, d, m, h => by
    have h1 := one1_many (rec := dec f) (b := b) (d := d) (fun c d m => dec_many f c d m) h
    have h2 := dec_many f (one1 (dec f) b d m).rest d (one1 (dec f) b d m).many h1
    unfold dec
    split
    · exact h
    · split
      · exact h1
      · unfold dcat
        split
        · exact h2
        · exact h2
theorem one1_rest {rec : List UInt8 → Nat → Nat → DR} {b : List UInt8} {d m : Nat} (h : (one1 rec b d m).err = 0) : (one1 rec b d m).rest.length + 2 ≤ b.length := by
  have key : (whole (b.length - 1) (b.drop 1)).2.2 = 0 → (whole (b.length - 1) (b.drop 1)).2.1.length + 2 ≤ b.length := fun h0 => by
    have := whole_len _ _ h0
    rw [List.length_drop] at this
    omega
  unfold one1 at h ⊢
  split at h
  · cases h
  · next h1 =>
    rw [if_neg h1]
    split at h
    · cases h
    · next h2 =>
      rw [if_neg h2]
      split at h
      · next h3 => exact absurd h h3
      · next h3 =>
        rw [if_neg h3]
        have h0 : (whole (b.length - 1) (b.drop 1)).2.2 = 0 := Decidable.not_not.1 h3
        have hk := key h0
        split at h
        · cases h
        · next h4 =>
          rw [if_neg h4]
          split at h
          · next h5 =>
            rw [if_pos h5]
            split at h
            · cases h
            · next h6 =>
              rw [if_neg h6]
              exact hk
          · next h5 =>
            rw [if_neg h5]
            split at h
            · next h6 =>
              rw [if_pos h6]
              exact hk
            · next h6 =>
              rw [if_neg h6]
              split at h
              · cases h
              · next h7 =>
                rw [if_neg h7]
                exact hk
theorem dec_nil (f d m : Nat) : dec f [] d m = (.nil, m, 0) := by
  cases f
  · rfl
  · exact if_pos rfl

set_option maxRecDepth 100000 in
theorem cont_fn (id : UInt8) : CtD Try.prog 45 [bcell id] [] (.bool (contB id)) := by
  by_cases h1 : 200 ≤ id.toNat
  · by_cases h2 : id.toNat < 220
    · rw [contB, decide_eq_true h1, decide_eq_true h2]
      refine Ct_intro Try.func45 rfl Try.ntmps45 (by simp) _ rfl (fun w0 O0 => ?_)
      repeat (first | refine n1 ?_ | refine n2 (fun b _ => ?_) | refine n3 (fun _ _ => ?_) | refine n4 ?_ | refine n5 ?_ | refine WL_nil ?_ | refine W_seq ?_ | refine W_region ?_ | refine n7 ?_ | refine n8 ?_ | refine W_block ?_ | refine W_skip ?_ | refine W_ret ?_ | refine W_exit ?_ | refine WQ_then ?_ | refine WQ_then_ret ?_ | refine WQ_then_exit ?_ | refine WQ_block_normal ?_ | refine WQ_block_ret ?_ | refine WQ_block_exit ?_ | refine n9 ?_)
      ((apply ret1 Try.results45 ( ())); (focus (first | trivial | assumption | omega)); (focus (first | exact RV_tmp rfl | (apply RV_cellN; exact rfl; (repeat' (first | exact Pick.head _ _ | apply Pick.tail)); (intro _; exact rfl); (intro _; exact rfl); exact rfl) | (apply RV_cell1; exact rfl; (repeat' (first | exact Pick.head _ _ | apply Pick.tail)); (intro _; exact rfl); exact rfl)));  (focus (first | exact rfl | (simp; done))); (focus (repeat (first | exact SubO.nil _ | (apply SubO.cons; (focus (repeat' (first | exact Pick.head _ _ | apply Pick.tail))))))); (focus (repeat (first | exact AllE.nil _ | (apply AllE.cons; (focus (first | exact ent_nilBy | exact ent_nilSl | (apply Ent.mem; repeat' (first | exact mcs | apply mct)))))))))
    · rw [contB, decide_eq_true h1, decide_eq_false h2]
      refine Ct_intro Try.func45 rfl Try.ntmps45 (by simp) _ rfl (fun w0 O0 => ?_)
      repeat (first | refine n1 ?_ | refine n2 (fun b _ => ?_) | refine n3 (fun _ _ => ?_) | refine n4 ?_ | refine n5 ?_ | refine WL_nil ?_ | refine W_seq ?_ | refine W_region ?_ | refine n7 ?_ | refine n8 ?_ | refine W_block ?_ | refine W_skip ?_ | refine W_ret ?_ | refine W_exit ?_ | refine WQ_then ?_ | refine WQ_then_ret ?_ | refine WQ_then_exit ?_ | refine WQ_block_normal ?_ | refine WQ_block_ret ?_ | refine WQ_block_exit ?_ | refine n9 ?_)
      ((apply ret1 Try.results45 ( ())); (focus (first | trivial | assumption | omega)); (focus (first | exact RV_tmp rfl | (apply RV_cellN; exact rfl; (repeat' (first | exact Pick.head _ _ | apply Pick.tail)); (intro _; exact rfl); (intro _; exact rfl); exact rfl) | (apply RV_cell1; exact rfl; (repeat' (first | exact Pick.head _ _ | apply Pick.tail)); (intro _; exact rfl); exact rfl)));  (focus (first | exact rfl | (simp; done))); (focus (repeat (first | exact SubO.nil _ | (apply SubO.cons; (focus (repeat' (first | exact Pick.head _ _ | apply Pick.tail))))))); (focus (repeat (first | exact AllE.nil _ | (apply AllE.cons; (focus (first | exact ent_nilBy | exact ent_nilSl | (apply Ent.mem; repeat' (first | exact mcs | apply mct)))))))))
  · rw [contB, decide_eq_false h1]
    refine Ct_intro Try.func45 rfl Try.ntmps45 (by simp) _ rfl (fun w0 O0 => ?_)
    repeat (first | refine n1 ?_ | refine n2 (fun b _ => ?_) | refine n3 (fun _ _ => ?_) | refine n4 ?_ | refine n5 ?_ | refine WL_nil ?_ | refine W_seq ?_ | refine W_region ?_ | refine n7 ?_ | refine n8 ?_ | refine W_block ?_ | refine W_skip ?_ | refine W_ret ?_ | refine W_exit ?_ | refine WQ_then ?_ | refine WQ_then_ret ?_ | refine WQ_then_exit ?_ | refine WQ_block_normal ?_ | refine WQ_block_ret ?_ | refine WQ_block_exit ?_ | refine n9 ?_)
    ((apply ret1 Try.results45 ( ())); (focus (first | trivial | assumption | omega)); (focus (first | exact RV_tmp rfl | (apply RV_cellN; exact rfl; (repeat' (first | exact Pick.head _ _ | apply Pick.tail)); (intro _; exact rfl); (intro _; exact rfl); exact rfl) | (apply RV_cell1; exact rfl; (repeat' (first | exact Pick.head _ _ | apply Pick.tail)); (intro _; exact rfl); exact rfl)));  (focus (first | exact rfl | (simp; done))); (focus (repeat (first | exact SubO.nil _ | (apply SubO.cons; (focus (repeat' (first | exact Pick.head _ _ | apply Pick.tail))))))); (focus (repeat (first | exact AllE.nil _ | (apply AllE.cons; (focus (first | exact ent_nilBy | exact ent_nilSl | (apply Ent.mem; repeat' (first | exact mcs | apply mct)))))))))
set_option maxRecDepth 100000 in
theorem cloneB_fn (v : Value) (xs : List UInt8) (hx : xs.length ≤ 1000000000) : Ct Try.prog 42 [v] [] [By v xs] (X := Value) (fun _ => True) (fun x => x) (fun x => [.row x 5 1 xs.length (xs.map bcell)]) (fun _ => []) := by
  cases h : isNilV v with
  | true =>
    refine Ct_intro Try.func42 rfl Try.ntmps42 (by simp) _ rfl (fun w0 O0 => ?_)
    refine W_pure (by_nil h (by repeat' (first | exact mcs | apply mct))) fun e => ?_
    subst e
    repeat (first | refine n1 ?_ | refine n2 (fun b _ => ?_) | refine n3 (fun _ _ => ?_) | refine n4 ?_ | refine n5 ?_ | refine WL_nil ?_ | refine W_seq ?_ | refine W_region ?_ | refine n7 ?_ | refine n8 ?_ | refine W_block ?_ | refine W_skip ?_ | refine W_ret ?_ | refine W_exit ?_ | refine WQ_then ?_ | refine WQ_then_ret ?_ | refine WQ_then_exit ?_ | refine WQ_block_normal ?_ | refine WQ_block_ret ?_ | refine WQ_block_exit ?_ | refine n9 ?_)
    refine WL_runs rfl rfl rfl (R_eqNilB rfl rfl (by repeat' (first | exact mcs | apply mct)) rfl) ?_
    rw [h]
    repeat (first | refine n1 ?_ | refine n2 (fun b _ => ?_) | refine n3 (fun _ _ => ?_) | refine n4 ?_ | refine n5 ?_ | refine WL_nil ?_ | refine W_seq ?_ | refine W_region ?_ | refine n7 ?_ | refine n8 ?_ | refine W_block ?_ | refine W_skip ?_ | refine W_ret ?_ | refine W_exit ?_ | refine WQ_then ?_ | refine WQ_then_ret ?_ | refine WQ_then_exit ?_ | refine WQ_block_normal ?_ | refine WQ_block_ret ?_ | refine WQ_block_exit ?_ | refine n9 ?_)
    apply WQ_nilRow 5 1
    ((apply ret1 Try.results42 ( Value.slice none 0 0)); (focus (first | trivial | assumption | omega)); (focus (first | exact RV_tmp rfl | (apply RV_cellN; exact rfl; (repeat' (first | exact Pick.head _ _ | apply Pick.tail)); (intro _; exact rfl); (intro _; exact rfl); exact rfl) | (apply RV_cell1; exact rfl; (repeat' (first | exact Pick.head _ _ | apply Pick.tail)); (intro _; exact rfl); exact rfl)));  (focus (first | exact rfl | (simp; done))); (focus (repeat (first | exact SubO.nil _ | (apply SubO.cons; (focus (repeat' (first | exact Pick.head _ _ | apply Pick.tail))))))); (focus (repeat (first | exact AllE.nil _ | (apply AllE.cons; (focus (first | exact ent_nilBy | exact ent_nilSl | (apply Ent.mem; repeat' (first | exact mcs | apply mct)))))))))
  | false =>
    refine Ct_intro Try.func42 rfl Try.ntmps42 (by simp) _ rfl (fun w0 O0 => ?_)
    repeat (first | refine n1 ?_ | refine n2 (fun b _ => ?_) | refine n3 (fun _ _ => ?_) | refine n4 ?_ | refine n5 ?_ | refine WL_nil ?_ | refine W_seq ?_ | refine W_region ?_ | refine n7 ?_ | refine n8 ?_ | refine W_block ?_ | refine W_skip ?_ | refine W_ret ?_ | refine W_exit ?_ | refine WQ_then ?_ | refine WQ_then_ret ?_ | refine WQ_then_exit ?_ | refine WQ_block_normal ?_ | refine WQ_block_ret ?_ | refine WQ_block_exit ?_ | refine n9 ?_)
    refine WL_runs rfl rfl rfl (R_eqNilB rfl rfl (by repeat' (first | exact mcs | apply mct)) rfl) ?_
    rw [h]
    repeat (first | refine n1 ?_ | refine n2 (fun b _ => ?_) | refine n3 (fun _ _ => ?_) | refine n4 ?_ | refine n5 ?_ | refine WL_nil ?_ | refine W_seq ?_ | refine W_region ?_ | refine n7 ?_ | refine n8 ?_ | refine W_block ?_ | refine W_skip ?_ | refine W_ret ?_ | refine W_exit ?_ | refine WQ_then ?_ | refine WQ_then_ret ?_ | refine WQ_then_exit ?_ | refine WQ_block_normal ?_ | refine WQ_block_ret ?_ | refine WQ_block_exit ?_ | refine n9 ?_)
    (apply WL_effs; exact rfl; exact rfl; exact rfl; (apply E_buildSlice; exact rfl; (focus (repeat (first | apply SeqE.nil | (apply SeqE.cons; exact rfl; (focus (first | (apply CellsE.lit; exact rfl) | (apply CellsE.one; (first | (apply OneC.lit; exact rfl) | (apply OneC.by_; (repeat' (first | exact mcs | apply mct)); done) | (apply OneC.sl; (repeat' (first | exact mcs | apply mct)); done) | (apply OneC.rw; (repeat' (first | exact mcs | apply mct)); done) | (apply OneC.row; (repeat' (first | exact Pick.head _ _ | apply Pick.tail))))))); exact rfl) | exact rfl))); exact rfl; (first | (intro _; exact (rfl : _ = Result.ok 1 _)) | (intro _; exact (rfl : _ = Result.ok 2 _)) | (intro _; exact (rfl : _ = Result.ok 3 _)) | (intro _; exact (rfl : _ = Result.ok 4 _)) | (intro _; exact (rfl : _ = Result.ok 5 _)) | (intro _; exact (rfl : _ = Result.ok 6 _)) | (intro _; exact (rfl : _ = Result.ok 7 _)) | (intro _; exact (rfl : _ = Result.ok 8 _)) | (intro _; exact (rfl : _ = Result.ok 9 _)) | (intro _; exact (rfl : _ = Result.ok 13 _)) | (intro _; exact (rfl : _ = Result.ok 14 _)) | (intro _; exact (rfl : _ = Result.ok 26 _)) | (intro _; exact (rfl : _ = Result.ok 40 _)) | (intro _; exact (rfl : _ = Result.ok 41 _)) | (intro _; exact (rfl : _ = Result.ok 42 _)) | (intro _; exact (rfl : _ = Result.ok 43 _)) | (intro _; exact (rfl : _ = Result.ok 44 _)) | (intro _; exact (rfl : _ = Result.ok 45 _)) | (intro _; exact (rfl : _ = Result.ok 46 _))); (intro _; exact rfl); exact rfl; exact Nat.le_of_ble_eq_true rfl; exact Nat.le_of_ble_eq_true rfl); skip)
    intro q _
    repeat (first | refine n1 ?_ | refine n2 (fun b _ => ?_) | refine n3 (fun _ _ => ?_) | refine n4 ?_ | refine n5 ?_ | refine WL_nil ?_ | refine W_seq ?_ | refine W_region ?_ | refine n7 ?_ | refine n8 ?_ | refine W_block ?_ | refine W_skip ?_ | refine W_ret ?_ | refine W_exit ?_ | refine WQ_then ?_ | refine WQ_then_ret ?_ | refine WQ_then_exit ?_ | refine WQ_block_normal ?_ | refine WQ_block_ret ?_ | refine WQ_block_exit ?_ | refine n9 ?_)
    refine WL_effs rfl rfl rfl (E_appendBy (bs := []) rfl rfl (by repeat' (first | exact Pick.head _ _ | apply Pick.tail)) (by repeat' (first | exact mcs | apply mct)) rfl rfl rfl rfl rfl rfl (Nat.le_of_ble_eq_true rfl) (by omega) (Nat.zero_add _) rfl) ?_
    intro o _
    rw [List.nil_append]
    repeat (first | refine n1 ?_ | refine n2 (fun b _ => ?_) | refine n3 (fun _ _ => ?_) | refine n4 ?_ | refine n5 ?_ | refine WL_nil ?_ | refine W_seq ?_ | refine W_region ?_ | refine n7 ?_ | refine n8 ?_ | refine W_block ?_ | refine W_skip ?_ | refine W_ret ?_ | refine W_exit ?_ | refine WQ_then ?_ | refine WQ_then_ret ?_ | refine WQ_then_exit ?_ | refine WQ_block_normal ?_ | refine WQ_block_ret ?_ | refine WQ_block_exit ?_ | refine n9 ?_)
    ((apply ret1 Try.results42 ( o)); (focus (first | trivial | assumption | omega)); (focus (first | exact RV_tmp rfl | (apply RV_cellN; exact rfl; (repeat' (first | exact Pick.head _ _ | apply Pick.tail)); (intro _; exact rfl); (intro _; exact rfl); exact rfl) | (apply RV_cell1; exact rfl; (repeat' (first | exact Pick.head _ _ | apply Pick.tail)); (intro _; exact rfl); exact rfl)));  (focus (first | exact rfl | (simp; done))); (focus (repeat (first | exact SubO.nil _ | (apply SubO.cons; (focus (repeat' (first | exact Pick.head _ _ | apply Pick.tail))))))); (focus (repeat (first | exact AllE.nil _ | (apply AllE.cons; (focus (first | exact ent_nilBy | exact ent_nilSl | (apply Ent.mem; repeat' (first | exact mcs | apply mct)))))))))
end Go.Proofs.Ytahkcidnmdcaaaa
