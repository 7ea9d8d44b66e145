/-
  The content of an element, read part by part: what it is, and that both texts read it.
-/
import Derived.Test.YtahkcidnmdcaaaaRows
import Derived.Test.YtahkcidnmdcaaaaXb
namespace Go.Proofs.Ytahkcidnmdcaaaa
open Go Go.RowKit Go.Hs
attribute [local irreducible] WL W WQ PL Runs Effs AllE Ent SubO FrIn Pick OneC Ones CellsE PartsE SeqE UZ By Sl Pt Ct

abbrev WR := List UInt8 × List UInt8 × Int
def wcat (acc : List UInt8) (q : WR) : WR := if q.2.2 = 0 then (acc ++ q.1, q.2.1, 0) else ([], [], q.2.2)
/-- the content, the bytes after it, the error. -/
def whole : Nat → List UInt8 → WR
  | 0, _ => ([], [], 10)
  | f + 1, b =>
    if b.length = 0 ∨ b.length - 1 < (b.getD 0 0).toNat then ([], [], 10)
    else if (b.getD 0 0).toNat < 255 then ((b.drop 1).take (b.getD 0 0).toNat, b.drop (1 + (b.getD 0 0).toNat), 0)
    else if b.length = 256 then ([], [], 10)
    else if ¬ b.getD 256 0 = 254 then ([], [], 12)
    else wcat ((b.drop 1).take 255) (whole f (b.drop 257))

theorem wcat_wcat (a b : List UInt8) (q : WR) : wcat a (wcat b q) = wcat (a ++ b) q := by
  unfold wcat
  split <;> simp_all
theorem wcat_nil (q : WR) (h : ¬ q.2.2 = 0 → q.1 = [] ∧ q.2.1 = []) : wcat [] q = q := by
  obtain ⟨a, b, e⟩ := q
  unfold wcat
  by_cases h0 : e = 0
  · subst h0
    rfl
  · obtain ⟨h1, h2⟩ := h h0
    simp only at h1 h2
    subst h1
    subst h2
    rw [if_neg h0]
theorem whole_err : ∀ (f : Nat) (b : List UInt8), ¬ (whole f b).2.2 = 0 → (whole f b).1 = [] ∧ (whole f b).2.1 = []
  | 0, _, _ => ⟨rfl, rfl⟩
  | f + 1, b, h => by
    unfold whole at h ⊢
    split at h
    · next h1 => rw [if_pos h1]; exact ⟨rfl, rfl⟩
    · next h1 =>
      rw [if_neg h1]
      split at h
      · exact absurd rfl h
      · next h2 =>
        rw [if_neg h2]
        split at h
        · next h3 => rw [if_pos h3]; exact ⟨rfl, rfl⟩
        · next h3 =>
          rw [if_neg h3]
          split at h
          · next h4 => rw [if_pos h4]; exact ⟨rfl, rfl⟩
          · next h4 =>
            rw [if_neg h4]
            unfold wcat at h ⊢
            split at h
            · exact absurd rfl h
            · next h5 => rw [if_neg h5]; exact ⟨rfl, rfl⟩
theorem getD_drop (xs : List UInt8) (p i : Nat) : (xs.drop p).getD i 0 = xs.getD (p + i) 0 := by
  rw [List.getD_eq_getElem?_getD, List.getD_eq_getElem?_getD, List.getElem?_drop]
theorem u8le (c : UInt8) : c.toNat ≤ 255 := by have := c.toNat_lt; omega
theorem u8ne {c : UInt8} {n : Nat} (h : ¬ c = UInt8.ofNat n) (hn : n < 256) : ¬ (c.toNat : Int) = (n : Int) := fun e => h (by
  apply UInt8.toNat_inj.1
  rw [UInt8.toNat_ofNat']
  omega)
theorem take_end (xs : List UInt8) (p : Nat) : (xs.drop p).take (xs.length - p) = xs.drop p := List.take_of_length_le (by simp)

set_option maxRecDepth 100000 in
set_option maxHeartbeats 4000000 in
theorem content_fn (dv : Value) (xs : List UInt8) (hx : xs.length ≤ 1000000000) : Ct Try.prog 57 [dv] [] [By dv xs]
    (X := Value × Value × List UInt8 × List UInt8 × Int) (fun x => whole xs.length xs = (x.2.2.1, x.2.2.2.1, x.2.2.2.2)) (fun x => .tuple #[x.1, x.2.1, .int .i64 x.2.2.2.2])
    (fun x => [.row x.1 5 1 x.2.2.1.length (x.2.2.1.map bcell)]) (fun x => [By x.2.1 x.2.2.2.1]) := by
  refine Ct_intro Try.func57 rfl Try.ntmps57 (by simp) _ rfl (fun w0 O0 => ?_)
  repeat (first | refine n1 ?_ | refine n2 (fun b _ => ?_) | refine n3 (fun _ _ => ?_) | refine n4 ?_ | refine n5 ?_ | refine WL_nil ?_ | refine W_seq ?_ | refine W_region ?_ | refine n7 ?_ | refine n8 ?_ | refine W_block ?_ | refine W_skip ?_ | refine W_ret ?_ | refine W_exit ?_ | refine WQ_then ?_ | refine WQ_then_ret ?_ | refine WQ_then_exit ?_ | refine WQ_block_normal ?_ | refine WQ_block_ret ?_ | refine WQ_block_exit ?_ | refine n9 ?_)
  apply W_nilRow 5 1
  ((apply W_loopK (X := Nat × List UInt8 × Value × Value × List UInt8) [2, 0] [0] (fun x => whole xs.length xs = wcat x.2.1 (whole x.1 x.2.2.2.2) ∧ x.2.2.2.2.length ≤ x.1 ∧ x.2.1.length + x.2.2.2.2.length ≤ 1000000000) (fun x => [(2, x.2.2.1), (0, x.2.2.2.1)]) (fun x => [.row x.2.2.1 5 1 x.2.1.length (x.2.1.map bcell)]) (fun x => [By x.2.2.2.1 x.2.2.2.2]) (fun x => x.1) ((xs.length, [], .slice none 0 0, dv, xs))); (focus (exact ⟨(wcat_nil _ (whole_err _ _)).symm, Nat.le_refl _, by simpa using hx⟩)); exact rfl; exact rfl; (intro _; exact rfl); (intro _; exact rfl); (intro _; exact rfl); (focus (repeat (first | exact FrIn.nil _ | (apply FrIn.cons; exact rfl; (first | exact rfl | (congr 1; first | omega | (dsimp only; omega)) | (simp; done)))))); (focus (repeat (first | exact SubO.nil _ | (apply SubO.cons; (focus (repeat' (first | exact Pick.head _ _ | apply Pick.tail))))))); (focus (repeat (first | exact AllE.nil _ | (apply AllE.cons; (focus (first | exact ent_nilBy | exact ent_nilSl | (apply Ent.mem; repeat' (first | exact mcs | apply mct)))))))); intro x hx)
  obtain ⟨k, acc, o, v, cur⟩ := x
  obtain ⟨hq, hk, hb⟩ := hx
  replace hq : whole xs.length xs = wcat acc (whole k cur) := hq
  replace hk : cur.length ≤ k := hk
  replace hb : acc.length + cur.length ≤ 1000000000 := hb
  dsimp only
  have hn := u8le (cur.getD 0 0)
  by_cases c1 : cur.length = 0
  · have e1 : whole k cur = ([], [], 10) := by
      cases k with
      | zero => rfl
      | succ k => rw [whole, if_pos (.inl c1)]
    rw [e1] at hq
    repeat (first | refine n1 ?_ | refine n2 (fun b _ => ?_) | refine n3 (fun _ _ => ?_) | refine n4 ?_ | refine n5 ?_ | refine WL_nil ?_ | refine W_seq ?_ | refine W_region ?_ | refine n7 ?_ | refine n8 ?_ | refine W_block ?_ | refine W_skip ?_ | refine W_ret ?_ | refine W_exit ?_ | refine WQ_then ?_ | refine WQ_then_ret ?_ | refine WQ_then_exit ?_ | refine WQ_block_normal ?_ | refine WQ_block_ret ?_ | refine WQ_block_exit ?_ | refine n9 ?_)
    apply WQ_nilRow 5 1
    ((apply ret3 Try.results57 ( (Value.slice none 0 0, Value.slice none 0 0, [], [], 10))); (focus (first | trivial | assumption | omega)); (focus (first | exact RV_tmp rfl | (apply RV_cellN; exact rfl; (repeat' (first | exact Pick.head _ _ | apply Pick.tail)); (intro _; exact rfl); (intro _; exact rfl); exact rfl) | (apply RV_cell1; exact rfl; (repeat' (first | exact Pick.head _ _ | apply Pick.tail)); (intro _; exact rfl); exact rfl))); (focus (first | exact RV_tmp rfl | (apply RV_cellN; exact rfl; (repeat' (first | exact Pick.head _ _ | apply Pick.tail)); (intro _; exact rfl); (intro _; exact rfl); exact rfl) | (apply RV_cell1; exact rfl; (repeat' (first | exact Pick.head _ _ | apply Pick.tail)); (intro _; exact rfl); exact rfl))); (focus (first | exact RV_tmp rfl | (apply RV_cellN; exact rfl; (repeat' (first | exact Pick.head _ _ | apply Pick.tail)); (intro _; exact rfl); (intro _; exact rfl); exact rfl) | (apply RV_cell1; exact rfl; (repeat' (first | exact Pick.head _ _ | apply Pick.tail)); (intro _; exact rfl); exact rfl)));  (focus (first | exact rfl | (simp; done))); (focus (repeat (first | exact SubO.nil _ | (apply SubO.cons; (focus (repeat' (first | exact Pick.head _ _ | apply Pick.tail))))))); (focus (repeat (first | exact AllE.nil _ | (apply AllE.cons; (focus (first | exact ent_nilBy | exact ent_nilSl | (apply Ent.mem; repeat' (first | exact mcs | apply mct)))))))))
  · obtain ⟨k, rfl⟩ : ∃ j, k = j + 1 := ⟨k - 1, by omega⟩
    by_cases c2 : cur.length - 1 < (cur.getD 0 0).toNat
    · have e1 : whole (k + 1) cur = ([], [], 10) := by rw [whole, if_pos (.inr c2)]
      rw [e1] at hq
      repeat (first | refine n1 ?_ | refine n2 (fun b _ => ?_) | refine n3 (fun _ _ => ?_) | refine n4 ?_ | refine n5 ?_ | refine WL_nil ?_ | refine W_seq ?_ | refine W_region ?_ | refine n7 ?_ | refine n8 ?_ | refine W_block ?_ | refine W_skip ?_ | refine W_ret ?_ | refine W_exit ?_ | refine WQ_then ?_ | refine WQ_then_ret ?_ | refine WQ_then_exit ?_ | refine WQ_block_normal ?_ | refine WQ_block_ret ?_ | refine WQ_block_exit ?_ | refine n9 ?_)
      apply WQ_nilRow 5 1
      ((apply ret3 Try.results57 ( (Value.slice none 0 0, Value.slice none 0 0, [], [], 10))); (focus (first | trivial | assumption | omega)); (focus (first | exact RV_tmp rfl | (apply RV_cellN; exact rfl; (repeat' (first | exact Pick.head _ _ | apply Pick.tail)); (intro _; exact rfl); (intro _; exact rfl); exact rfl) | (apply RV_cell1; exact rfl; (repeat' (first | exact Pick.head _ _ | apply Pick.tail)); (intro _; exact rfl); exact rfl))); (focus (first | exact RV_tmp rfl | (apply RV_cellN; exact rfl; (repeat' (first | exact Pick.head _ _ | apply Pick.tail)); (intro _; exact rfl); (intro _; exact rfl); exact rfl) | (apply RV_cell1; exact rfl; (repeat' (first | exact Pick.head _ _ | apply Pick.tail)); (intro _; exact rfl); exact rfl))); (focus (first | exact RV_tmp rfl | (apply RV_cellN; exact rfl; (repeat' (first | exact Pick.head _ _ | apply Pick.tail)); (intro _; exact rfl); (intro _; exact rfl); exact rfl) | (apply RV_cell1; exact rfl; (repeat' (first | exact Pick.head _ _ | apply Pick.tail)); (intro _; exact rfl); exact rfl)));  (focus (first | exact rfl | (simp; done))); (focus (repeat (first | exact SubO.nil _ | (apply SubO.cons; (focus (repeat' (first | exact Pick.head _ _ | apply Pick.tail))))))); (focus (repeat (first | exact AllE.nil _ | (apply AllE.cons; (focus (first | exact ent_nilBy | exact ent_nilSl | (apply Ent.mem; repeat' (first | exact mcs | apply mct)))))))))
    · have c3 : ¬ (cur.length = 0 ∨ cur.length - 1 < (cur.getD 0 0).toNat) := fun h => h.elim c1 c2
      rw [whole, if_neg c3] at hq
      repeat (first | refine n1 ?_ | refine n2 (fun b _ => ?_) | refine n3 (fun _ _ => ?_) | refine n4 ?_ | refine n5 ?_ | refine WL_nil ?_ | refine W_seq ?_ | refine W_region ?_ | refine n7 ?_ | refine n8 ?_ | refine W_block ?_ | refine W_skip ?_ | refine W_ret ?_ | refine W_exit ?_ | refine WQ_then ?_ | refine WQ_then_ret ?_ | refine WQ_then_exit ?_ | refine WQ_block_normal ?_ | refine WQ_block_ret ?_ | refine WQ_block_exit ?_ | refine n9 ?_)
      (refine W_regionP' [5] [] [0, 1, 2, 3, 4, 6, 7, 8, 9, 5, 10, 11] [0] (by kernel_rfl) (by kernel_rfl) (by repeat (first | exact UZ.nil _ _ | (apply UZ.cons; exact rfl; (intro _; exact rfl)))) (by exact rfl) (by (repeat (first | exact SubO.nil _ | (apply SubO.cons; (focus (repeat' (first | exact Pick.head _ _ | apply Pick.tail))))))) ?_)
      repeat (first | refine p1 ?_ | refine p2 (fun b _ => ?_) | refine p3 (fun _ _ => ?_) | refine p4 ?_ | refine p5 ?_ | refine p7 (fun b => ?_) | refine PL_nil ?_)
      (apply PL_effs; exact rfl; exact rfl; exact rfl; exact rfl; exact rfl; (apply E_appendBy; exact rfl; exact rfl; (repeat' (first | exact Pick.head _ _ | apply Pick.tail)); (repeat' (first | exact mcs | apply mct)); (first | exact nil_map | exact one_map _ | exact two_map _ _ | exact rfl); exact rfl; exact rfl; exact rfl; exact rfl; exact rfl; exact Nat.le_of_ble_eq_true rfl; (first | omega | (simp only [List.length_take, List.length_drop, List.length_append, List.length_cons, List.length_nil, List.length_map, List.length_replicate]; omega)); (focus (first | exact Nat.zero_add _ | exact rfl)); (focus ((try (conv => lhs; simp only [Nat.add_sub_cancel_left, Nat.sub_zero, List.drop_zero, List.nil_append])); (first | done | exact rfl)))); (intro _; (repeat (first | exact SubO.nil _ | (apply SubO.cons; (focus (repeat' (first | exact Pick.head _ _ | apply Pick.tail))))))); skip)
      intro o2 _
      repeat (first | refine p1 ?_ | refine p2 (fun b _ => ?_) | refine p3 (fun _ _ => ?_) | refine p4 ?_ | refine p5 ?_ | refine p7 (fun b => ?_) | refine PL_nil ?_)
      rw [take_end, ← List.length_append]
      by_cases c4 : (cur.getD 0 0).toNat < 255
      · rw [if_pos c4] at hq
        repeat (first | refine n1 ?_ | refine n2 (fun b _ => ?_) | refine n3 (fun _ _ => ?_) | refine n4 ?_ | refine n5 ?_ | refine WL_nil ?_ | refine W_seq ?_ | refine W_region ?_ | refine n7 ?_ | refine n8 ?_ | refine W_block ?_ | refine W_skip ?_ | refine W_ret ?_ | refine W_exit ?_ | refine WQ_then ?_ | refine WQ_then_ret ?_ | refine WQ_then_exit ?_ | refine WQ_block_normal ?_ | refine WQ_block_ret ?_ | refine WQ_block_exit ?_ | refine n9 ?_)
        ((apply ret3 Try.results57 ( (o2, cutV 1 (1 + (cur.getD 0 0).toNat) cur.length v, acc ++ (cur.drop 1).take (cur.getD 0 0).toNat, cur.drop (1 + (cur.getD 0 0).toNat), 0))); (focus (first | trivial | assumption | omega)); (focus (first | exact RV_tmp rfl | (apply RV_cellN; exact rfl; (repeat' (first | exact Pick.head _ _ | apply Pick.tail)); (intro _; exact rfl); (intro _; exact rfl); exact rfl) | (apply RV_cell1; exact rfl; (repeat' (first | exact Pick.head _ _ | apply Pick.tail)); (intro _; exact rfl); exact rfl))); (focus (first | exact RV_tmp rfl | (apply RV_cellN; exact rfl; (repeat' (first | exact Pick.head _ _ | apply Pick.tail)); (intro _; exact rfl); (intro _; exact rfl); exact rfl) | (apply RV_cell1; exact rfl; (repeat' (first | exact Pick.head _ _ | apply Pick.tail)); (intro _; exact rfl); exact rfl))); (focus (first | exact RV_tmp rfl | (apply RV_cellN; exact rfl; (repeat' (first | exact Pick.head _ _ | apply Pick.tail)); (intro _; exact rfl); (intro _; exact rfl); exact rfl) | (apply RV_cell1; exact rfl; (repeat' (first | exact Pick.head _ _ | apply Pick.tail)); (intro _; exact rfl); exact rfl)));  (focus (first | exact rfl | (simp; done))); (focus (repeat (first | exact SubO.nil _ | (apply SubO.cons; (focus (repeat' (first | exact Pick.head _ _ | apply Pick.tail))))))); (focus (repeat (first | exact AllE.nil _ | (apply AllE.cons; (focus (first | exact ent_nilBy | exact ent_nilSl | (apply Ent.mem; repeat' (first | exact mcs | apply mct)))))))))
      · rw [if_neg c4] at hq
        have c5 : (cur.getD 0 0).toNat = 255 := by omega
        rw [c5]
        have hl : (cur.drop (1 + 255)).length = cur.length - 256 := by rw [List.length_drop]
        by_cases c6 : cur.length = 256
        · rw [if_pos c6] at hq
          repeat (first | refine n1 ?_ | refine n2 (fun b _ => ?_) | refine n3 (fun _ _ => ?_) | refine n4 ?_ | refine n5 ?_ | refine WL_nil ?_ | refine W_seq ?_ | refine W_region ?_ | refine n7 ?_ | refine n8 ?_ | refine W_block ?_ | refine W_skip ?_ | refine W_ret ?_ | refine W_exit ?_ | refine WQ_then ?_ | refine WQ_then_ret ?_ | refine WQ_then_exit ?_ | refine WQ_block_normal ?_ | refine WQ_block_ret ?_ | refine WQ_block_exit ?_ | refine n9 ?_)
          apply WQ_nilRow 5 1
          ((apply ret3 Try.results57 ( (Value.slice none 0 0, Value.slice none 0 0, [], [], 10))); (focus (first | trivial | assumption | omega)); (focus (first | exact RV_tmp rfl | (apply RV_cellN; exact rfl; (repeat' (first | exact Pick.head _ _ | apply Pick.tail)); (intro _; exact rfl); (intro _; exact rfl); exact rfl) | (apply RV_cell1; exact rfl; (repeat' (first | exact Pick.head _ _ | apply Pick.tail)); (intro _; exact rfl); exact rfl))); (focus (first | exact RV_tmp rfl | (apply RV_cellN; exact rfl; (repeat' (first | exact Pick.head _ _ | apply Pick.tail)); (intro _; exact rfl); (intro _; exact rfl); exact rfl) | (apply RV_cell1; exact rfl; (repeat' (first | exact Pick.head _ _ | apply Pick.tail)); (intro _; exact rfl); exact rfl))); (focus (first | exact RV_tmp rfl | (apply RV_cellN; exact rfl; (repeat' (first | exact Pick.head _ _ | apply Pick.tail)); (intro _; exact rfl); (intro _; exact rfl); exact rfl) | (apply RV_cell1; exact rfl; (repeat' (first | exact Pick.head _ _ | apply Pick.tail)); (intro _; exact rfl); exact rfl)));  (focus (first | exact rfl | (simp; done))); (focus (repeat (first | exact SubO.nil _ | (apply SubO.cons; (focus (repeat' (first | exact Pick.head _ _ | apply Pick.tail))))))); (focus (repeat (first | exact AllE.nil _ | (apply AllE.cons; (focus (first | exact ent_nilBy | exact ent_nilSl | (apply Ent.mem; repeat' (first | exact mcs | apply mct)))))))))
        · rw [if_neg c6] at hq
          have hg : (cur.drop (1 + 255)).getD 0 0 = cur.getD 256 0 := getD_drop cur 256 0
          by_cases c7 : cur.getD 256 0 = 254
          · rw [if_neg (fun h => h c7)] at hq
            have c8 : ((cur.drop (1 + 255)).getD 0 0).toNat = 254 := by rw [hg, c7]; rfl
            repeat (first | refine n1 ?_ | refine n2 (fun b _ => ?_) | refine n3 (fun _ _ => ?_) | refine n4 ?_ | refine n5 ?_ | refine WL_nil ?_ | refine W_seq ?_ | refine W_region ?_ | refine n7 ?_ | refine n8 ?_ | refine W_block ?_ | refine W_skip ?_ | refine W_ret ?_ | refine W_exit ?_ | refine WQ_then ?_ | refine WQ_then_ret ?_ | refine WQ_then_exit ?_ | refine WQ_block_normal ?_ | refine WQ_block_ret ?_ | refine WQ_block_exit ?_ | refine n9 ?_)
            have hd : ((cur.drop (1 + 255)).drop 1).take ((cur.drop (1 + 255)).length - 1) = cur.drop 257 := by rw [take_end, List.drop_drop]
            rw [hd]
            have q1 : whole xs.length xs = wcat (acc ++ (cur.drop 1).take 255) (whole k (cur.drop 257)) := by rw [hq, wcat_wcat]
            have q2 : (cur.drop 257).length ≤ k := by
              rw [List.length_drop]
              omega
            have q3 : (acc ++ (cur.drop 1).take 255).length + (cur.drop 257).length ≤ 1000000000 := by
              simp only [List.length_append, List.length_take, List.length_drop]
              omega
            ((apply WQ_again ((k, acc ++ (cur.drop 1).take 255, o2, cutV 1 1 (cur.drop (1 + 255)).length (cutV 1 (1 + 255) cur.length v), cur.drop 257))); (focus exact ⟨q1, q2, q3⟩); (focus exact Nat.lt_succ_self k); (focus (repeat (first | exact FrIn.nil _ | (apply FrIn.cons; exact rfl; (first | exact rfl | (congr 1; first | omega | (dsimp only; omega)) | (simp; done)))))); (focus (repeat (first | exact SubO.nil _ | (apply SubO.cons; (focus (repeat' (first | exact Pick.head _ _ | apply Pick.tail))))))); (focus (repeat (first | exact AllE.nil _ | (apply AllE.cons; (focus (first | exact ent_nilBy | exact ent_nilSl | (apply Ent.mem; repeat' (first | exact mcs | apply mct)))))))))
          · rw [if_pos c7] at hq
            have c8 : ¬ ((cur.drop (1 + 255)).getD 0 0).toNat = 254 := by
              rw [hg]
              have := u8ne (n := 254) c7 (by decide)
              omega
            repeat (first | refine n1 ?_ | refine n2 (fun b _ => ?_) | refine n3 (fun _ _ => ?_) | refine n4 ?_ | refine n5 ?_ | refine WL_nil ?_ | refine W_seq ?_ | refine W_region ?_ | refine n7 ?_ | refine n8 ?_ | refine W_block ?_ | refine W_skip ?_ | refine W_ret ?_ | refine W_exit ?_ | refine WQ_then ?_ | refine WQ_then_ret ?_ | refine WQ_then_exit ?_ | refine WQ_block_normal ?_ | refine WQ_block_ret ?_ | refine WQ_block_exit ?_ | refine n9 ?_)
            apply WQ_nilRow 5 1
            ((apply ret3 Try.results57 ( (Value.slice none 0 0, Value.slice none 0 0, [], [], 12))); (focus (first | trivial | assumption | omega)); (focus (first | exact RV_tmp rfl | (apply RV_cellN; exact rfl; (repeat' (first | exact Pick.head _ _ | apply Pick.tail)); (intro _; exact rfl); (intro _; exact rfl); exact rfl) | (apply RV_cell1; exact rfl; (repeat' (first | exact Pick.head _ _ | apply Pick.tail)); (intro _; exact rfl); exact rfl))); (focus (first | exact RV_tmp rfl | (apply RV_cellN; exact rfl; (repeat' (first | exact Pick.head _ _ | apply Pick.tail)); (intro _; exact rfl); (intro _; exact rfl); exact rfl) | (apply RV_cell1; exact rfl; (repeat' (first | exact Pick.head _ _ | apply Pick.tail)); (intro _; exact rfl); exact rfl))); (focus (first | exact RV_tmp rfl | (apply RV_cellN; exact rfl; (repeat' (first | exact Pick.head _ _ | apply Pick.tail)); (intro _; exact rfl); (intro _; exact rfl); exact rfl) | (apply RV_cell1; exact rfl; (repeat' (first | exact Pick.head _ _ | apply Pick.tail)); (intro _; exact rfl); exact rfl)));  (focus (first | exact rfl | (simp; done))); (focus (repeat (first | exact SubO.nil _ | (apply SubO.cons; (focus (repeat' (first | exact Pick.head _ _ | apply Pick.tail))))))); (focus (repeat (first | exact AllE.nil _ | (apply AllE.cons; (focus (first | exact ent_nilBy | exact ent_nilSl | (apply Ent.mem; repeat' (first | exact mcs | apply mct)))))))))
end Go.Proofs.Ytahkcidnmdcaaaa
