/-
  Contract of octet.Split.
-/
import Derived.Test.YtlbihmfpgpfboaaOt
namespace Go.Proofs.Ytlbihmfpgpfboaa
open Go Go.RowKit Go.Hs
attribute [local irreducible] WL W WQ PL Runs Effs AllE Ent SubO FrIn Pick OneC Ones CellsE PartsE SeqE UZ By Sl Pt Ct

/-- how a byte string is split: from a place on, with what was found ahead of it. -/
inductive SplR (xs : List UInt8) : Nat → List (List UInt8) → Int × List (List UInt8) → Prop
  | fin {p fs} : xs.length ≤ p → SplR xs p fs (0, fs)
  | many {p fs} : p < xs.length → fs.length = 256 → SplR xs p fs (4, [])
  | short {p fs} : p < xs.length → ¬ fs.length = 256 → ¬ fldOk xs p → SplR xs p fs (10, [])
  | next {p fs r} : p < xs.length → ¬ fs.length = 256 → fldOk xs p → SplR xs (p + 2 + fldLen xs p) (fs ++ [piece xs p]) r → SplR xs p fs r

theorem SplR.one {xs : List UInt8} {p : Nat} {fs : List (List UInt8)} {r r' : Int × List (List UInt8)} (h : SplR xs p fs r) (h' : SplR xs p fs r') : r = r' := by
  induction h with
  | fin h1 => cases h' with
    | fin => rfl
    | many h2 => omega
    | short h2 => omega
    | next h2 => omega
  | many h1 h2 => cases h' with
    | fin h3 => omega
    | many => rfl
    | short _ h3 => exact absurd h2 h3
    | next _ h3 => exact absurd h2 h3
  | short h1 h2 h3 => cases h' with
    | fin h4 => omega
    | many _ h4 => exact absurd h4 h2
    | short => rfl
    | next _ _ h4 => exact absurd h4 h3
  | next h1 h2 h3 _ ih => cases h' with
    | fin h4 => omega
    | many _ h4 => exact absurd h4 h2
    | short _ _ h4 => exact absurd h3 h4
    | next _ _ _ h4 => exact ih h4

structure SpS where
  fs : List (List UInt8)
  vals : List Value
  o : Value
  n : Nat
  stop : Bool

theorem getD_snoc {α : Type} (l : List α) (a d : α) (i : Nat) (h : i < l.length) : (l ++ [a]).getD i d = l.getD i d := by
  rw [List.getD_eq_getElem?_getD, List.getD_eq_getElem?_getD, List.getElem?_append_left h]
theorem getD_last {α : Type} (l : List α) (a d : α) (n : Nat) (h : l.length = n) : (l ++ [a]).getD n d = a := by
  subst h
  rw [List.getD_eq_getElem?_getD, List.getElem?_append_right (Nat.le_refl _)]
  simp

section
variable (b1 b2 b3 b4 b6 : Nat) (dv : Value) (xs : List UInt8)
def spY (y : SpS) : List OA := [.blk b4 60 [y.o], .row y.o 31 1 y.fs.length y.vals, .blk b6 3 [.int .i64 (y.n : Int)], .blk b2 60 [.slice none 0 0], .blk b3 23 [.int .i64 (if y.stop then 4 else 0)], .blk b1 31 [dv]]
def spΨ (y : SpS) : List SP := [Al y.fs.length (fun i => By (y.vals.getD i undef) (y.fs.getD i [])), By dv xs]
end
def spE (y : SpS) : Option Code := if y.stop then some .ret else none
def spPre (xs : List UInt8) (y : SpS) (b : Value × Nat) : Prop := y.stop = false ∧ fldOk xs b.2 ∧ y.vals.length = y.fs.length ∧ y.n = b.2 ∧ y.fs.length < 256
def spStep (xs : List UInt8) (y : SpS) (b : Value × Nat) (y' : SpS) : Prop :=
  y'.fs = y.fs ++ [piece xs b.2] ∧ y'.vals.length = y'.fs.length ∧ y'.n = b.2 + 2 + fldLen xs b.2 ∧ (y'.stop = true ↔ (y'.fs.length = 256 ∧ y'.n < xs.length))
def spInv (xs : List UInt8) (p : Nat) (y : SpS) : Prop :=
  y.stop = false ∧ y.vals.length = y.fs.length ∧ y.n = p ∧ y.fs.length ≤ 256 ∧ (y.fs.length = 256 → xs.length ≤ p) ∧ ∀ r, SplR xs p y.fs r → SplR xs 0 [] r

set_option maxRecDepth 100000 in
set_option maxHeartbeats 4000000 in
theorem split_fn (dv : Value) (xs : List UInt8) (hx : xs.length ≤ 1000000000) : Ct Try.prog 36 [dv] [] [By dv xs]
    (X := Value × List Value × List (List UInt8) × Int) (fun x => SplR xs 0 [] (x.2.2.2, x.2.2.1) ∧ x.2.1.length = x.2.2.1.length) (fun x => .tuple #[x.1, .int .i64 x.2.2.2]) (fun _ => [])
    (fun x => [Rw 1 x.1 x.2.2.1.length (fun i => [x.2.1.getD i undef]), Al x.2.2.1.length (fun i => By (x.2.1.getD i undef) (x.2.2.1.getD i []))]) := by
  refine Ct_introM Try.func36 rfl Try.ntmps36 (by simp) _ rfl (fun w0 O0 => ?_)
  repeat (first | refine n1 ?_ | refine n2 (fun b _ => ?_) | refine n3 (fun _ _ => ?_) | refine n4 ?_ | refine n5 ?_ | refine WL_nil ?_ | refine W_seq ?_ | refine W_region ?_ | refine n7 ?_ | refine n8 ?_ | refine W_block ?_ | refine W_skip ?_ | refine W_ret ?_ | refine W_exit ?_ | refine WQ_then ?_ | refine WQ_then_ret ?_ | refine WQ_then_exit ?_ | refine WQ_block_normal ?_ | refine WQ_block_ret ?_ | refine WQ_block_exit ?_ | refine n9 ?_)
  rename_i b1 _ b2 _ b3 _ b4 _ b5 _ _ _ _
  obtain ⟨b6, rfl⟩ : ∃ b6, b6 = b := ⟨b, rfl⟩
  (apply WL_effs; exact rfl; exact rfl; exact rfl; apply E_call; exact rfl; (intro _ _; simp); exact fields_fn dv xs b5; (repeat (first | exact AllE.nil _ | (apply AllE.cons; (focus (first | exact ent_nilBy | exact ent_nilSl | (apply Ent.mem; repeat' (first | exact mcs | apply mct))))))); (intro _; exact rfl); (intro _; exact rfl))
  intro x _
  obtain ⟨c1, c2⟩ := x
  repeat (first | refine n1 ?_ | refine n2 (fun b _ => ?_) | refine n3 (fun _ _ => ?_) | refine n4 ?_ | refine n5 ?_ | refine WL_nil ?_ | refine W_seq ?_ | refine W_region ?_ | refine n7 ?_ | refine n8 ?_ | refine W_block ?_ | refine W_skip ?_ | refine W_ret ?_ | refine W_exit ?_ | refine WQ_then ?_ | refine WQ_then_ret ?_ | refine WQ_then_exit ?_ | refine WQ_block_normal ?_ | refine WQ_block_ret ?_ | refine WQ_block_exit ?_ | refine n9 ?_)
  apply W_nilRow 31 1
  refine W_ent (ent_alI (n := 0) (ψ := fun i => By (([] : List Value).getD i undef) (([] : List (List UInt8)).getD i [])) (fun i hi => absurd hi (by omega))) ?_
  refine W_weak [(9, .func (.func 57) #[] #[.pointer (some ⟨c1, 0, none⟩), .pointer (some ⟨c2, 0, none⟩)]), (1, .pointer (some ⟨b1, 0, none⟩)), (2, .pointer (some ⟨b2, 0, none⟩)), (3, .pointer (some ⟨b3, 0, none⟩)), (4, .pointer (some ⟨b4, 0, none⟩)), (5, .pointer (some ⟨b5, 0, none⟩)), (6, .pointer (some ⟨b6, 0, none⟩))]
    ([.blk c1 31 [dv], .blk c2 95 [.pointer (some ⟨b5, 0, none⟩)], .blk b5 23 [.int .i64 0]] ++ (spY b1 b2 b3 b4 b6 dv ⟨[], [], .slice none 0 0, 0, false⟩ ++ [])) (spΨ dv xs ⟨[], [], .slice none 0 0, 0, false⟩) (by repeat (first | exact FrIn.nil _ | (apply FrIn.cons; exact rfl; (first | exact rfl | (congr 1; omega) | (simp; done))))) (by (repeat (first | exact SubO.nil _ | (apply SubO.cons; (focus (repeat' (first | exact Pick.head _ _ | apply Pick.tail))))))) (by (repeat (first | exact AllE.nil _ | (apply AllE.cons; (focus (first | exact ent_nilBy | exact ent_nilSl | (apply Ent.mem; repeat' (first | exact mcs | apply mct)))))))) ?_
  refine W_rangeFunc (α := SpS) (β := Value × Nat) (spY b1 b2 b3 b4 b6 dv) (spΨ dv xs) spE ⟨[], [], .slice none 0 0, 0, false⟩ (fun b => b.1) (fun b => [By b.1 (piece xs b.2)]) (spPre xs) (spStep xs)
    (fun b => [(7, b.1), (1, .pointer (some ⟨b1, 0, none⟩)), (2, .pointer (some ⟨b2, 0, none⟩)), (3, .pointer (some ⟨b3, 0, none⟩)), (4, .pointer (some ⟨b4, 0, none⟩)), (5, .pointer (some ⟨b5, 0, none⟩)), (6, .pointer (some ⟨b6, 0, none⟩))])
    (Γi := [.blk c1 31 [dv], .blk c2 95 [.pointer (some ⟨b5, 0, none⟩)], .blk b5 23 [.int .i64 0]]) (Γr := []) (Φi := [By dv xs])
    (X := SpS × Int) (pf := fun x => (∃ p y v, spInv xs p y ∧ fldOk xs p ∧ spStep xs y (v, p) x.1 ∧ ¬ spE x.1 = none) ∨ (spE x.1 = none ∧ ∃ p, spInv xs p x.1 ∧ ((x.2 = 0 ∧ p = xs.length) ∨ (x.2 = 10 ∧ p < xs.length ∧ ¬ fldOk xs p)))) (ret := fun _ => .tuple #[]) (yx := fun x => x.1) (Γ' := fun x => [.blk b5 23 [.int .i64 x.2]]) (Φ' := fun _ => [])
    rfl (by intro _ _; simp) rfl (.refl _) (by (repeat (first | exact AllE.nil _ | (apply AllE.cons; (focus (first | exact ent_nilBy | exact ent_nilSl | (apply Ent.mem; repeat' (first | exact mcs | apply mct)))))))) (by (repeat (first | exact AllE.nil _ | (apply AllE.cons; (focus (first | exact ent_nilBy | exact ent_nilSl | (apply Ent.mem; repeat' (first | exact mcs | apply mct)))))))) rfl ?_ ?_ ?_ ?_ ?_
  · intro y b hb
    rw [spE, hb.1]
    rfl
  · intro l y b hb w0 O0 M o
    repeat (first | refine n1 ?_ | refine n2 (fun b _ => ?_) | refine n3 (fun _ _ => ?_) | refine n4 ?_ | refine n5 ?_ | refine WL_nil ?_ | refine W_seq ?_ | refine W_region ?_ | refine n7 ?_ | refine n8 ?_ | refine W_block ?_ | refine W_skip ?_ | refine W_ret ?_ | refine W_exit ?_ | refine WQ_then ?_ | refine WQ_then_ret ?_ | refine WQ_then_exit ?_ | refine WQ_block_normal ?_ | refine WQ_block_ret ?_ | refine WQ_block_exit ?_ | refine n9 ?_)
    exact WQ_assign (by repeat (first | exact FrIn.nil _ | (apply FrIn.cons; exact rfl; (first | exact rfl | (congr 1; omega) | (simp; done))))) (by (repeat (first | exact SubO.nil _ | (apply SubO.cons; (focus (repeat' (first | exact Pick.head _ _ | apply Pick.tail))))))) (by (repeat (first | exact AllE.nil _ | (apply AllE.cons; (focus (first | exact ent_nilBy | exact ent_nilSl | (apply Ent.mem; repeat' (first | exact mcs | apply mct))))))))
  · intro l y b hb w0 O0 M o
    obtain ⟨fs, vals, oo, n, st⟩ := y
    obtain ⟨v, p⟩ := b
    obtain ⟨h1, h2, h3, h4, h5⟩ := hb
    replace h1 : st = false := h1
    replace h3 : vals.length = fs.length := h3
    replace h4 : n = p := h4
    replace h5 : fs.length < 256 := h5
    replace h2 : fldOk xs p := h2
    subst h1
    subst h4
    have hpl := piece_length h2
    have h2' := h2.2
    have hlen : (fs ++ [piece xs n]).length = fs.length + 1 := by simp
    dsimp only [spY, spΨ, List.cons_append, List.nil_append]
    rw [show (if false = true then (4 : Int) else 0) = 0 from rfl]
    repeat (first | refine n1 ?_ | refine n2 (fun b _ => ?_) | refine n3 (fun _ _ => ?_) | refine n4 ?_ | refine n5 ?_ | refine WL_nil ?_ | refine W_seq ?_ | refine W_region ?_ | refine n7 ?_ | refine n8 ?_ | refine W_block ?_ | refine W_skip ?_ | refine W_ret ?_ | refine W_exit ?_ | refine WQ_then ?_ | refine WQ_then_ret ?_ | refine WQ_then_exit ?_ | refine WQ_block_normal ?_ | refine WQ_block_ret ?_ | refine WQ_block_exit ?_ | refine n9 ?_)
    (refine W_regionP' [1, 3, 4, 5, 6] [] [0, 2, 1, 3, 4, 5, 6] [2] (by kernel_rfl) (by kernel_rfl) (by repeat (first | exact UZ.nil _ _ | (apply UZ.cons; exact rfl; (intro _; exact rfl)))) (by exact rfl) (by (repeat (first | exact SubO.nil _ | (apply SubO.cons; (focus (repeat' (first | exact Pick.head _ _ | apply Pick.tail))))))) ?_)
    repeat (first | refine p1 ?_ | refine p2 (fun b _ => ?_) | refine p3 (fun _ _ => ?_) | refine p4 ?_ | refine p5 ?_ | refine p7 (fun b => ?_) | refine PL_nil ?_)
    (apply PL_effs; exact rfl; exact rfl; exact rfl; exact rfl; exact rfl; (apply E_buildSlice; exact rfl; (focus (repeat (first | apply SeqE.nil | (apply SeqE.cons; exact rfl; (focus (first | (apply CellsE.lit; exact rfl) | (apply CellsE.one; (first | (apply OneC.lit; exact rfl) | (apply OneC.by_; (repeat' (first | exact mcs | apply mct)); done) | (apply OneC.sl; (repeat' (first | exact mcs | apply mct)); done) | (apply OneC.row; (repeat' (first | exact Pick.head _ _ | apply Pick.tail))))))); exact rfl) | exact rfl))); exact rfl; (first | (intro _; exact (rfl : _ = Result.ok 1 _)) | (intro _; exact (rfl : _ = Result.ok 2 _)) | (intro _; exact (rfl : _ = Result.ok 3 _)) | (intro _; exact (rfl : _ = Result.ok 4 _)) | (intro _; exact (rfl : _ = Result.ok 5 _)) | (intro _; exact (rfl : _ = Result.ok 6 _)) | (intro _; exact (rfl : _ = Result.ok 7 _)) | (intro _; exact (rfl : _ = Result.ok 8 _)) | (intro _; exact (rfl : _ = Result.ok 13 _)) | (intro _; exact (rfl : _ = Result.ok 14 _)) | (intro _; exact (rfl : _ = Result.ok 26 _)) | (intro _; exact (rfl : _ = Result.ok 40 _)) | (intro _; exact (rfl : _ = Result.ok 41 _)) | (intro _; exact (rfl : _ = Result.ok 42 _)) | (intro _; exact (rfl : _ = Result.ok 43 _)) | (intro _; exact (rfl : _ = Result.ok 44 _)) | (intro _; exact (rfl : _ = Result.ok 45 _)) | (intro _; exact (rfl : _ = Result.ok 46 _))); (intro _; exact rfl); exact rfl; exact Nat.le_of_ble_eq_true rfl; exact Nat.le_of_ble_eq_true rfl); (intro _; (repeat (first | exact SubO.nil _ | (apply SubO.cons; (focus (repeat' (first | exact Pick.head _ _ | apply Pick.tail))))))); skip)
    intro q _
    apply PL_effs
    · exact rfl
    · exact rfl
    · exact rfl
    · exact rfl
    · exact rfl
    · apply Effs.letB
      (apply E_appendBy; exact rfl; exact rfl; (repeat' (first | exact Pick.head _ _ | apply Pick.tail)); (repeat' (first | exact mcs | apply mct)); (first | exact nil_map | exact one_map _ | exact two_map _ _ | exact rfl); exact rfl; exact rfl; exact rfl; exact rfl; exact rfl; exact Nat.le_of_ble_eq_true rfl; (first | omega | (simp only [List.length_take, List.length_drop, List.length_append, List.length_cons, List.length_nil, List.length_map, List.length_replicate]; omega)); (focus (first | exact Nat.zero_add _ | exact rfl)); (focus ((try (conv => lhs; simp only [Nat.add_sub_cancel_left, Nat.sub_zero, List.drop_zero, List.nil_append])); (first | done | exact rfl))))
    · intro _
      exact (by (repeat (first | exact SubO.nil _ | (apply SubO.cons; (focus (repeat' (first | exact Pick.head _ _ | apply Pick.tail)))))))
    intro q2 _
    dsimp only
    (apply PL_effs; exact rfl; exact rfl; exact rfl; exact rfl; exact rfl; (apply E_buildSlice; exact rfl; (focus (repeat (first | apply SeqE.nil | (apply SeqE.cons; exact rfl; (focus (first | (apply CellsE.lit; exact rfl) | (apply CellsE.one; (first | (apply OneC.lit; exact rfl) | (apply OneC.by_; (repeat' (first | exact mcs | apply mct)); done) | (apply OneC.sl; (repeat' (first | exact mcs | apply mct)); done) | (apply OneC.row; (repeat' (first | exact Pick.head _ _ | apply Pick.tail))))))); exact rfl) | exact rfl))); exact rfl; (first | (intro _; exact (rfl : _ = Result.ok 1 _)) | (intro _; exact (rfl : _ = Result.ok 2 _)) | (intro _; exact (rfl : _ = Result.ok 3 _)) | (intro _; exact (rfl : _ = Result.ok 4 _)) | (intro _; exact (rfl : _ = Result.ok 5 _)) | (intro _; exact (rfl : _ = Result.ok 6 _)) | (intro _; exact (rfl : _ = Result.ok 7 _)) | (intro _; exact (rfl : _ = Result.ok 8 _)) | (intro _; exact (rfl : _ = Result.ok 13 _)) | (intro _; exact (rfl : _ = Result.ok 14 _)) | (intro _; exact (rfl : _ = Result.ok 26 _)) | (intro _; exact (rfl : _ = Result.ok 40 _)) | (intro _; exact (rfl : _ = Result.ok 41 _)) | (intro _; exact (rfl : _ = Result.ok 42 _)) | (intro _; exact (rfl : _ = Result.ok 43 _)) | (intro _; exact (rfl : _ = Result.ok 44 _)) | (intro _; exact (rfl : _ = Result.ok 45 _)) | (intro _; exact (rfl : _ = Result.ok 46 _))); (intro _; exact rfl); exact rfl; exact Nat.le_of_ble_eq_true rfl; exact Nat.le_of_ble_eq_true rfl); (intro _; (repeat (first | exact SubO.nil _ | (apply SubO.cons; (focus (repeat' (first | exact Pick.head _ _ | apply Pick.tail))))))); skip)
    intro q3 _
    apply PL_effs
    · exact rfl
    · exact rfl
    · exact rfl
    · exact rfl
    · exact rfl
    · apply E_appendRowO (nm := (fs ++ [piece xs n]).length) (all := vals ++ [q2])
      · exact rfl
      · exact rfl
      · exact (by repeat' (first | exact Pick.head _ _ | apply Pick.tail))
      · exact (by repeat' (first | exact Pick.head _ _ | apply Pick.tail))
      · exact rfl
      · exact rfl
      · exact rfl
      · exact rfl
      · exact rfl
      · exact Nat.le_of_ble_eq_true rfl
      · exact Ones.cons (OneC.by_ (by (focus (repeat' (first | exact mcs | apply mct))))) Ones.nil
      · exact Nat.le_of_ble_eq_true rfl
      · omega
      · exact hlen.symm
      · rfl
    · intro _
      exact (by (repeat (first | exact SubO.nil _ | (apply SubO.cons; (focus (repeat' (first | exact Pick.head _ _ | apply Pick.tail)))))))
    intro o2 _
    apply PL_doL
    · exact rfl
    · exact rfl
    · exact rfl
    · exact rfl
    · apply E_store (us := [o2])
      · exact rfl
      · exact rfl
      · exact (by repeat' (first | exact Pick.head _ _ | apply Pick.tail))
      · exact CellsE.one (OneC.row (by repeat' (first | exact Pick.head _ _ | apply Pick.tail)))
      · intro _
        exact rfl
      · exact Ones.cons (OneC.row (by repeat' (first | exact Pick.head _ _ | apply Pick.tail))) Ones.nil
      · exact rfl
    · kernel_rfl
    intro _ _
    have hal : ∀ {Φ : List SP} {q : Value}, Al fs.length (fun i => By (vals.getD i undef) (fs.getD i [])) ∈ Φ → By q (piece xs n) ∈ Φ → Ent Φ (Al (fs ++ [piece xs n]).length (fun i => By ((vals ++ [q]).getD i undef) ((fs ++ [piece xs n]).getD i []))) := fun m1 m2 => by
      rw [hlen]
      exact ent_alS m1 m2 (fun i hi => by rw [getD_snoc _ _ _ _ (by omega), getD_snoc _ _ _ _ hi]) (by rw [getD_last _ _ _ _ h3, getD_last _ _ _ _ rfl])
    by_cases g1 : fs.length + 1 = 256
    · by_cases g2 : n + 2 + fldLen xs n < xs.length
      · repeat (first | refine n1 ?_ | refine n2 (fun b _ => ?_) | refine n3 (fun _ _ => ?_) | refine n4 ?_ | refine n5 ?_ | refine WL_nil ?_ | refine W_seq ?_ | refine W_region ?_ | refine n7 ?_ | refine n8 ?_ | refine W_block ?_ | refine W_skip ?_ | refine W_ret ?_ | refine W_exit ?_ | refine WQ_then ?_ | refine WQ_then_ret ?_ | refine WQ_then_exit ?_ | refine WQ_block_normal ?_ | refine WQ_block_ret ?_ | refine WQ_block_exit ?_ | refine n9 ?_)
        rw [show (n : Int) + (2 + ((piece xs n).length : Int)) = ((n + 2 + fldLen xs n : Nat) : Int) by rw [hpl]; omega]
        refine WQ_ent (hal (by (focus (repeat' (first | exact mcs | apply mct)))) (by (focus (repeat' (first | exact mcs | apply mct))))) ?_
        exact WQ_round ⟨fs ++ [piece xs n], vals ++ [q2], o2, n + 2 + fldLen xs n, true⟩ ⟨rfl, by simp [h3], rfl, ⟨fun _ => ⟨hlen.trans g1, g2⟩, fun _ => rfl⟩⟩ rfl (by (repeat (first | exact SubO.nil _ | (apply SubO.cons; (focus (repeat' (first | exact Pick.head _ _ | apply Pick.tail))))))) (by (repeat (first | exact AllE.nil _ | (apply AllE.cons; (focus (first | exact ent_nilBy | exact ent_nilSl | (apply Ent.mem; repeat' (first | exact mcs | apply mct))))))))
      · repeat (first | refine n1 ?_ | refine n2 (fun b _ => ?_) | refine n3 (fun _ _ => ?_) | refine n4 ?_ | refine n5 ?_ | refine WL_nil ?_ | refine W_seq ?_ | refine W_region ?_ | refine n7 ?_ | refine n8 ?_ | refine W_block ?_ | refine W_skip ?_ | refine W_ret ?_ | refine W_exit ?_ | refine WQ_then ?_ | refine WQ_then_ret ?_ | refine WQ_then_exit ?_ | refine WQ_block_normal ?_ | refine WQ_block_ret ?_ | refine WQ_block_exit ?_ | refine n9 ?_)
        rw [show (n : Int) + (2 + ((piece xs n).length : Int)) = ((n + 2 + fldLen xs n : Nat) : Int) by rw [hpl]; omega]
        refine WQ_ent (hal (by (focus (repeat' (first | exact mcs | apply mct)))) (by (focus (repeat' (first | exact mcs | apply mct))))) ?_
        exact WQ_round ⟨fs ++ [piece xs n], vals ++ [q2], o2, n + 2 + fldLen xs n, false⟩ ⟨rfl, by simp [h3], rfl, ⟨fun h => (by cases h), fun h => absurd h.2 g2⟩⟩ rfl (by (repeat (first | exact SubO.nil _ | (apply SubO.cons; (focus (repeat' (first | exact Pick.head _ _ | apply Pick.tail))))))) (by (repeat (first | exact AllE.nil _ | (apply AllE.cons; (focus (first | exact ent_nilBy | exact ent_nilSl | (apply Ent.mem; repeat' (first | exact mcs | apply mct))))))))
    · repeat (first | refine n1 ?_ | refine n2 (fun b _ => ?_) | refine n3 (fun _ _ => ?_) | refine n4 ?_ | refine n5 ?_ | refine WL_nil ?_ | refine W_seq ?_ | refine W_region ?_ | refine n7 ?_ | refine n8 ?_ | refine W_block ?_ | refine W_skip ?_ | refine W_ret ?_ | refine W_exit ?_ | refine WQ_then ?_ | refine WQ_then_ret ?_ | refine WQ_then_exit ?_ | refine WQ_block_normal ?_ | refine WQ_block_ret ?_ | refine WQ_block_exit ?_ | refine n9 ?_)
      rw [show (n : Int) + (2 + ((piece xs n).length : Int)) = ((n + 2 + fldLen xs n : Nat) : Int) by rw [hpl]; omega]
      refine WQ_ent (hal (by (focus (repeat' (first | exact mcs | apply mct)))) (by (focus (repeat' (first | exact mcs | apply mct))))) ?_
      exact WQ_round ⟨fs ++ [piece xs n], vals ++ [q2], o2, n + 2 + fldLen xs n, false⟩ ⟨rfl, by simp [h3], rfl, ⟨fun h => (by cases h), fun h => absurd (hlen.symm.trans h.1) g1⟩⟩ rfl (by (repeat (first | exact SubO.nil _ | (apply SubO.cons; (focus (repeat' (first | exact Pick.head _ _ | apply Pick.tail))))))) (by (repeat (first | exact AllE.nil _ | (apply AllE.cons; (focus (first | exact ent_nilBy | exact ent_nilSl | (apply Ent.mem; repeat' (first | exact mcs | apply mct))))))))
  · intro l YO YS hY
    exact iter_fn l c1 c2 b5 dv xs hx YO YS spE (spInv xs) ⟨[], [], .slice none 0 0, 0, false⟩ ⟨rfl, rfl, rfl, by decide, fun h => absurd h (by decide), fun r h => h⟩ rfl (spStep xs) (spPre xs)
      (fun p y v hi hok => by
        obtain ⟨i1, i2, i3, i4, i5, i6⟩ := hi
        refine ⟨i1, hok, i2, i3, ?_⟩
        rcases Nat.lt_or_ge y.fs.length 256 with h | h
        · exact h
        · have h6 := i5 (by omega)
          have h7 := hok.1
          omega)
      (fun p y v y' hi hok hst he => by
        obtain ⟨i1, i2, i3, i4, i5, i6⟩ := hi
        obtain ⟨s1, s2, s3, s4⟩ := hst
        replace s1 : y'.fs = y.fs ++ [piece xs p] := s1
        replace s3 : y'.n = p + 2 + fldLen xs p := s3
        have hst : y'.stop = false := by
          cases h : y'.stop with
          | false => rfl
          | true => rw [spE, h] at he; cases he
        have hlt : y.fs.length < 256 := by
          rcases Nat.lt_or_ge y.fs.length 256 with h | h
          · exact h
          · have h6 := i5 (by omega)
            have h7 := hok.1
            omega
        have hl : y'.fs.length = y.fs.length + 1 := by rw [s1]; simp
        have h7 := hok.1
        refine ⟨hst, s2, s3, by omega, fun h => ?_, fun r hr => i6 r (.next (by omega) (by omega) hok (by rw [← s1]; exact hr))⟩
        rcases Nat.lt_or_ge (p + 2 + fldLen xs p) xs.length with h8 | h8
        · have := s4.2 ⟨h, by rw [s3]; exact h8⟩
          rw [hst] at this
          cases this
        · exact h8) hY
  · intro D x hx
    obtain ⟨⟨fs, vals, oo, n, st⟩, err⟩ := x
    rcases hx with ⟨p, y, v, hi, hok, hst, hne⟩ | ⟨he, p, hi, hr⟩
    · refine ⟨fun h => absurd h hne, fun c hc => ?_⟩
      have hs : st = true := by
        cases st with
        | true => rfl
        | false => exact absurd rfl hne
      subst hs
      obtain rfl : Code.ret = c := by
        injection hc
      obtain ⟨i1, i2, i3, i4, i5, i6⟩ := hi
      obtain ⟨s1, s2, s3, s4⟩ := hst
      replace s1 : fs = y.fs ++ [piece xs p] := s1
      replace s3 : n = p + 2 + fldLen xs p := s3
      obtain ⟨s5, s6⟩ := s4.1 rfl
      replace s5 : fs.length = 256 := s5
      replace s6 : n < xs.length := s6
      have hl : fs.length = y.fs.length + 1 := by rw [s1]; simp
      have h7 := hok.1
      have hspl : SplR xs 0 [] (4, []) := i6 _ (.next (by omega) (by omega) hok (by rw [← s1, ← s3]; exact .many s6 s5))
      refine W_ret ?_
      dsimp only [spY, spΨ, List.cons_append, List.nil_append]
      rw [show (if true = true then (4 : Int) else 0) = 4 from rfl]
      repeat (first | refine n1 ?_ | refine n2 (fun b _ => ?_) | refine n3 (fun _ _ => ?_) | refine n4 ?_ | refine n5 ?_ | refine WL_nil ?_ | refine W_seq ?_ | refine W_region ?_ | refine n7 ?_ | refine n8 ?_ | refine W_block ?_ | refine W_skip ?_ | refine W_ret ?_ | refine W_exit ?_ | refine WQ_then ?_ | refine WQ_then_ret ?_ | refine WQ_then_exit ?_ | refine WQ_block_normal ?_ | refine WQ_block_ret ?_ | refine WQ_block_exit ?_ | refine n9 ?_)
      ((apply ret2M Try.results36 ((Value.slice none 0 0, [], [], 4))); exact ⟨hspl, rfl⟩; (focus (repeat' (first | exact Pick.head _ _ | apply Pick.tail))); (focus (first | exact RV_tmp rfl | (apply RV_cellN; exact rfl; (repeat' (first | exact Pick.head _ _ | apply Pick.tail)); (intro _; exact rfl); (intro _; exact rfl); exact rfl) | (apply RV_cell1; exact rfl; (repeat' (first | exact Pick.head _ _ | apply Pick.tail)); (intro _; exact rfl); exact rfl))); (focus (first | exact RV_tmp rfl | (apply RV_cellN; exact rfl; (repeat' (first | exact Pick.head _ _ | apply Pick.tail)); (intro _; exact rfl); (intro _; exact rfl); exact rfl) | (apply RV_cell1; exact rfl; (repeat' (first | exact Pick.head _ _ | apply Pick.tail)); (intro _; exact rfl); exact rfl)));  (focus (first | exact rfl | (simp; done))); (focus (repeat (first | exact SubO.nil _ | (apply SubO.cons; (focus (repeat' (first | exact Pick.head _ _ | apply Pick.tail))))))); (exact AllE.cons ent_nilRw (AllE.cons ent_al0 (AllE.nil _))))
    · have hs : st = false := by
        cases st with
        | false => rfl
        | true => cases he
      subst hs
      obtain ⟨i1, i2, i3, i4, i5, i6⟩ := hi
      replace i2 : vals.length = fs.length := i2
      refine ⟨fun _ => ?_, fun c hc => by cases hc⟩
      dsimp only [spY, spΨ, List.cons_append, List.nil_append]
      rw [show (if false = true then (4 : Int) else 0) = 0 from rfl]
      rcases hr with ⟨rfl, rfl⟩ | ⟨rfl, hlt, hnok⟩
      · have hspl := i6 _ (.fin (Nat.le_refl _))
        repeat (first | refine n1 ?_ | refine n2 (fun b _ => ?_) | refine n3 (fun _ _ => ?_) | refine n4 ?_ | refine n5 ?_ | refine WL_nil ?_ | refine W_seq ?_ | refine W_region ?_ | refine n7 ?_ | refine n8 ?_ | refine W_block ?_ | refine W_skip ?_ | refine W_ret ?_ | refine W_exit ?_ | refine WQ_then ?_ | refine WQ_then_ret ?_ | refine WQ_then_exit ?_ | refine WQ_block_normal ?_ | refine WQ_block_ret ?_ | refine WQ_block_exit ?_ | refine n9 ?_)
        apply WL_do
        · exact rfl
        · exact rfl
        · apply E_store (us := [oo])
          · exact rfl
          · exact rfl
          · exact (by repeat' (first | exact Pick.head _ _ | apply Pick.tail))
          · exact CellsE.one (OneC.row (by repeat' (first | exact Pick.head _ _ | apply Pick.tail)))
          · intro _
            exact rfl
          · exact Ones.cons (OneC.row (by repeat' (first | exact Pick.head _ _ | apply Pick.tail))) Ones.nil
          · exact rfl
        intro _ _
        repeat (first | refine n1 ?_ | refine n2 (fun b _ => ?_) | refine n3 (fun _ _ => ?_) | refine n4 ?_ | refine n5 ?_ | refine WL_nil ?_ | refine W_seq ?_ | refine W_region ?_ | refine n7 ?_ | refine n8 ?_ | refine W_block ?_ | refine W_skip ?_ | refine W_ret ?_ | refine W_exit ?_ | refine WQ_then ?_ | refine WQ_then_ret ?_ | refine WQ_then_exit ?_ | refine WQ_block_normal ?_ | refine WQ_block_ret ?_ | refine WQ_block_exit ?_ | refine n9 ?_)
        refine WQ_letgo (v := oo) (by repeat' (first | exact Pick.head _ _ | apply Pick.tail)) ?_
        refine WQ_ent (ent_slRw1 (v := oo) (by (focus (repeat' (first | exact mcs | apply mct))))) ?_
        ((apply ret2M Try.results36 ((oo, vals, fs, 0))); exact ⟨hspl, i2⟩; (focus (repeat' (first | exact Pick.head _ _ | apply Pick.tail))); (focus (first | exact RV_tmp rfl | (apply RV_cellN; exact rfl; (repeat' (first | exact Pick.head _ _ | apply Pick.tail)); (intro _; exact rfl); (intro _; exact rfl); exact rfl) | (apply RV_cell1; exact rfl; (repeat' (first | exact Pick.head _ _ | apply Pick.tail)); (intro _; exact rfl); exact rfl))); (focus (first | exact RV_tmp rfl | (apply RV_cellN; exact rfl; (repeat' (first | exact Pick.head _ _ | apply Pick.tail)); (intro _; exact rfl); (intro _; exact rfl); exact rfl) | (apply RV_cell1; exact rfl; (repeat' (first | exact Pick.head _ _ | apply Pick.tail)); (intro _; exact rfl); exact rfl)));  (focus (first | exact rfl | (simp; done))); (focus (repeat (first | exact SubO.nil _ | (apply SubO.cons; (focus (repeat' (first | exact Pick.head _ _ | apply Pick.tail))))))); ((repeat (first | exact AllE.nil _ | (apply AllE.cons; (focus (first | exact ent_nilBy | exact ent_nilSl | (apply Ent.mem; repeat' (first | exact mcs | apply mct)))))))))
      · have hne : ¬ fs.length = 256 := fun h => by
          have := i5 h
          omega
        have hspl := i6 _ (.short hlt hne hnok)
        repeat (first | refine n1 ?_ | refine n2 (fun b _ => ?_) | refine n3 (fun _ _ => ?_) | refine n4 ?_ | refine n5 ?_ | refine WL_nil ?_ | refine W_seq ?_ | refine W_region ?_ | refine n7 ?_ | refine n8 ?_ | refine W_block ?_ | refine W_skip ?_ | refine W_ret ?_ | refine W_exit ?_ | refine WQ_then ?_ | refine WQ_then_ret ?_ | refine WQ_then_exit ?_ | refine WQ_block_normal ?_ | refine WQ_block_ret ?_ | refine WQ_block_exit ?_ | refine n9 ?_)
        (refine W_regionP' [1, 2] [] [0, 1, 2] [4, 5] (by kernel_rfl) (by kernel_rfl) (by repeat (first | exact UZ.nil _ _ | (apply UZ.cons; exact rfl; (intro _; exact rfl)))) (by exact rfl) (by (repeat (first | exact SubO.nil _ | (apply SubO.cons; (focus (repeat' (first | exact Pick.head _ _ | apply Pick.tail))))))) ?_)
        repeat (first | refine p1 ?_ | refine p2 (fun b _ => ?_) | refine p3 (fun _ _ => ?_) | refine p4 ?_ | refine p5 ?_ | refine p7 (fun b => ?_) | refine PL_nil ?_)
        repeat (first | refine n1 ?_ | refine n2 (fun b _ => ?_) | refine n3 (fun _ _ => ?_) | refine n4 ?_ | refine n5 ?_ | refine WL_nil ?_ | refine W_seq ?_ | refine W_region ?_ | refine n7 ?_ | refine n8 ?_ | refine W_block ?_ | refine W_skip ?_ | refine W_ret ?_ | refine W_exit ?_ | refine WQ_then ?_ | refine WQ_then_ret ?_ | refine WQ_then_exit ?_ | refine WQ_block_normal ?_ | refine WQ_block_ret ?_ | refine WQ_block_exit ?_ | refine n9 ?_)
        ((apply ret2M Try.results36 ((Value.slice none 0 0, [], [], 10))); exact ⟨hspl, rfl⟩; (focus (repeat' (first | exact Pick.head _ _ | apply Pick.tail))); (focus (first | exact RV_tmp rfl | (apply RV_cellN; exact rfl; (repeat' (first | exact Pick.head _ _ | apply Pick.tail)); (intro _; exact rfl); (intro _; exact rfl); exact rfl) | (apply RV_cell1; exact rfl; (repeat' (first | exact Pick.head _ _ | apply Pick.tail)); (intro _; exact rfl); exact rfl))); (focus (first | exact RV_tmp rfl | (apply RV_cellN; exact rfl; (repeat' (first | exact Pick.head _ _ | apply Pick.tail)); (intro _; exact rfl); (intro _; exact rfl); exact rfl) | (apply RV_cell1; exact rfl; (repeat' (first | exact Pick.head _ _ | apply Pick.tail)); (intro _; exact rfl); exact rfl)));  (focus (first | exact rfl | (simp; done))); (focus (repeat (first | exact SubO.nil _ | (apply SubO.cons; (focus (repeat' (first | exact Pick.head _ _ | apply Pick.tail))))))); (exact AllE.cons ent_nilRw (AllE.cons ent_al0 (AllE.nil _))))
end Go.Proofs.Ytlbihmfpgpfboaa
