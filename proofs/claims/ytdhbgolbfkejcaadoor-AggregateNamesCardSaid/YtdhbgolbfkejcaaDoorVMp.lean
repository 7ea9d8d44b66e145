/-
  What AggregateNames reckons: small lists, their errors; the closure 'with'.
-/
import Derived.Test.YtdhbgolbfkejcaaDoorVMj
import Derived.Test.YtdhbgolbfkejcaaDoorXc
namespace Go.Proofs.YtdhbgolbfkejcaaDoor
open Go Go.RowKit Go.Hs C01 C08
def zb (n : Nat) : List UInt8 := List.replicate n 0
theorem zb_length (n : Nat) : (zb n).length = n := List.length_replicate
theorem zb_take (n : Nat) : (madeCells (Value.int .u8 0).cells (n * 1)).toList.take (n * 1) = (zb n).map bcell := made_u8 n
/-- a packet of given data that was built. -/
def KL (data : List UInt8) (v : Value) : SP := ⟨fun w O => ∃ dv, v = (⟨zA6, zA6, dv, data⟩ : PK).val ∧ (By dv data).p w O, fun ⟨dv, h1, h2⟩ hm ho => ⟨dv, h1, (By dv data).st h2 hm ho⟩⟩
theorem ent_KL {Φ : List SP} {data : List UInt8} {dv : Value} (h : Ent Φ (By dv data)) : Ent Φ (KL data (⟨zA6, zA6, dv, data⟩ : PK).val) := fun w O hw => ⟨dv, rfl, h w O hw⟩
section
variable {C : Ctx} {fr : Fr} {Γ : List OA} {Φ : List SP}
theorem E_buildKL {d : Nat} {ty : TypeId} {pos : String} {aft : Array Edge} {g : Option (Nat × Bool)} {t e : TypeId} {parts : Array (Nat × Operand)} {v1 v2 : Value} {d1 d2 : List UInt8} {z : Value}
    (hpv : evPs fr parts.toList = some [(0, v1), (1, v2)]) (h1 : KL d1 v1 ∈ Φ) (h2 : KL d2 v2 ∈ Φ) (ht : C.P.underlying t = some (.slice e)) (hs : ∀ w, (sizeOf e).run C.P w = .ok 13 w) (hz : ∀ w, (zeroValue e).run C.P w = .ok z w) :
    Effs C fr Γ Φ ⟨some d, .buildSlice t 2 parts, ty, pos, aft, g⟩ (X := Value × Value × Value) (fun _ => True) (fun x => x.1) (fun _ => Γ)
      (fun x => Rw 13 x.1 ([⟨zA6, zA6, x.2.1, d1⟩, ⟨zA6, zA6, x.2.2, d2⟩] : List PK).length (fun i => (([⟨zA6, zA6, x.2.1, d1⟩, ⟨zA6, zA6, x.2.2, d2⟩] : List PK).getD i pk0).cells) ::
        Al ([⟨zA6, zA6, x.2.1, d1⟩, ⟨zA6, zA6, x.2.2, d2⟩] : List PK).length (fun i => By (([⟨zA6, zA6, x.2.1, d1⟩, ⟨zA6, zA6, x.2.2, d2⟩] : List PK).getD i pk0).dv (([⟨zA6, zA6, x.2.1, d1⟩, ⟨zA6, zA6, x.2.2, d2⟩] : List PK).getD i pk0).data) :: Φ) := by
  refine ⟨fun _ χ hχ => List.mem_cons_of_mem _ (List.mem_cons_of_mem _ hχ), fun R a w ha hw => ?_⟩
  obtain ⟨e1, rfl, b1⟩ := hw.sp _ h1
  obtain ⟨e2, rfl, b2⟩ := hw.sp _ h2
  have hw' : Holds C (Γ ++ R) (By e1 d1 :: By e2 d2 :: Φ) w := (hw.cons b2).cons b1
  have key := E_buildSlice (C := C) (fr := fr) (Γ := Γ) (Φ := By e1 d1 :: By e2 d2 :: Φ) (d := d) (ty := ty) (pos := pos) (aft := aft) (g := g) (us := ([⟨zA6, zA6, e1, d1⟩, ⟨zA6, zA6, e2, d2⟩] : List PK).flatMap PK.cells) (size := 13) (len := 2) hpv
    ⟨rfl, (⟨zA6, zA6, e1, d1⟩ : PK).cells, (⟨zA6, zA6, e2, d2⟩ : PK).cells, rfl, rfl, CellsE.lit rfl, rfl, (⟨zA6, zA6, e2, d2⟩ : PK).cells, [], rfl, rfl, CellsE.lit rfl, rfl⟩ ht hs hz rfl (by decide) (by decide)
  refine (key.2 R a w ha hw').mono fun v' w' ⟨x, p1, p2, p3⟩ => ⟨(x, e1, e2), trivial, p2, ?_⟩
  have q1 : Holds C (Γ ++ R) (Sl 13 x 2 (([⟨zA6, zA6, e1, d1⟩, ⟨zA6, zA6, e2, d2⟩] : List PK).flatMap PK.cells) :: By e1 d1 :: By e2 d2 :: Φ) w' := Holds.letgo p3
  have q2 := q1.ent (ent_alP (ps := [⟨zA6, zA6, e1, d1⟩, ⟨zA6, zA6, e2, d2⟩]) ⟨List.mem_cons_of_mem _ List.mem_cons_self, List.mem_cons_of_mem _ (List.mem_cons_of_mem _ List.mem_cons_self), trivial⟩)
  have q3 := q2.ent (ent_slPK (v := x) (n := 2) (ps := [⟨zA6, zA6, e1, d1⟩, ⟨zA6, zA6, e2, d2⟩]) (List.mem_cons_of_mem _ List.mem_cons_self) rfl rfl)
  exact q3.sub fun ψ hψ => by
    rcases List.mem_cons.1 hψ with rfl | hψ
    · exact List.mem_cons_self
    · rcases List.mem_cons.1 hψ with rfl | hψ
      · exact List.mem_cons_of_mem _ List.mem_cons_self
      · exact List.mem_cons_of_mem _ (List.mem_cons_of_mem _ (List.mem_cons_of_mem _ (List.mem_cons_of_mem _ (List.mem_cons_of_mem _ hψ))))
end
theorem nm_1 (dv : Value) : jkE [⟨zA6, ⟨1, 0, 0, 0, 0, 0⟩, dv, []⟩] = ([], 8) := by kernel_rfl
theorem nm_2 (dv : Value) : jkE [⟨zA6, zA6, dv, zb 1501⟩] = ([], 11) := by
  have h : pckE [⟨zA6, zA6, dv, zb 1501⟩] = 11 := by
    unfold pckE
    rw [if_neg (by show ¬ grp 0 = true; decide), if_pos (by rw [zb_length]; decide)]
  unfold jkE
  rw [if_neg (by simp), if_neg (by simp), if_neg (by rw [h]; decide), h]
theorem nm_3 (d1 d2 : Value) : jkE [⟨zA6, zA6, d1, zb 1200⟩, ⟨zA6, zA6, d2, zb 1200⟩] = ([], 11) := by
  have hok : okKL [⟨zA6, zA6, d1, zb 1200⟩, ⟨zA6, zA6, d2, zb 1200⟩] := fun p hp => by
    rcases List.mem_cons.1 hp with rfl | hp
    · exact ⟨by show grp 0 = false; decide, by show (zb 1200).length ≤ 1500; rw [zb_length]; decide⟩
    · rcases List.mem_singleton.1 hp with rfl
      exact ⟨by show grp 0 = false; decide, by show (zb 1200).length ≤ 1500; rw [zb_length]; decide⟩
  have hl : (jk [⟨zA6, zA6, d1, zb 1200⟩, ⟨zA6, zA6, d2, zb 1200⟩]).length = 2430 := by
    unfold jk
    rw [List.map_cons, List.map_cons, List.map_nil, jg_cons (by simp), jg_one, List.length_append, List.length_append, zer_length, entk_length, entk_length]
    show 14 + (zb 1200).length + (pad4 (14 + (zb 1200).length) + (14 + (zb 1200).length)) = 2430
    rw [zb_length]
    decide
  unfold jkE
  rw [if_neg (by simp), if_neg (by simp), if_pos (pckE_ok.2 hok), if_pos (by rw [hl]; decide)]
theorem nm_33 : jkE (List.replicate 33 pk0) = ([], 4) := by
  unfold jkE
  rw [List.length_replicate, if_neg (by decide), if_pos (by decide)]
def grpX : List UInt8 := [2, 0, 0, 0, 0, 1, 1, 0, 0, 0, 0, 2, 1, 0, 9]
def lonX : List UInt8 := [2, 0, 0, 0, 0, 1, 2, 0, 0, 0, 0, 2, 1, 6, 9]
def errB : List (List UInt8) := [[], one9.take 13, one9.take 14, grpX, lonX, one9 ++ [1], one9 ++ [0], one9 ++ [0, 2], zb 2305]
def errW : List Int := [10, 10, 10, 12, 11, 12, 12, 10, 11]
theorem er0 : (unE ([])).2 = 10 := by kernel_rfl
theorem er1 : (unE (one9.take 13)).2 = 10 := by kernel_rfl
theorem er2 : (unE (one9.take 14)).2 = 10 := by kernel_rfl
theorem er3 : (unE (grpX)).2 = 12 := by kernel_rfl
theorem er4 : (unE (lonX)).2 = 11 := by kernel_rfl
theorem er5 : (unE (one9 ++ [1])).2 = 12 := by kernel_rfl
theorem er6 : (unE (one9 ++ [0])).2 = 12 := by kernel_rfl
theorem er7 : (unE (one9 ++ [0, 2])).2 = 10 := by kernel_rfl
theorem err_un {i : Nat} (h : i < 9) : (unE (errB.getD i [])).2 = errW.getD i 0 := by
  have h8 : (unE (zb 2305)).2 = 11 := by unfold unE; rw [if_pos (by rw [zb_length]; decide)]
  have hi : i = 0 ∨ i = 1 ∨ i = 2 ∨ i = 3 ∨ i = 4 ∨ i = 5 ∨ i = 6 ∨ i = 7 ∨ i = 8 := by omega
  rcases hi with rfl | rfl | rfl | rfl | rfl | rfl | rfl | rfl | rfl
  · exact er0
  · exact er1
  · exact er2
  · exact er3
  · exact er4
  · exact er5
  · exact er6
  · exact er7
  · exact h8
theorem jn_1 : jnE [[1], []] = ([], 8) := by kernel_rfl
theorem jn_2 : jnE [zb 2401] = ([], 11) := by
  have h : pieE [zb 2401] = 11 := by
    unfold pieE
    rw [if_neg (by rw [zb_length]; decide), if_pos (by rw [zb_length]; decide)]
  unfold jnE
  rw [if_neg (by decide), if_neg (by decide), if_neg (by rw [h]; decide), h]
theorem jn_65 : jnE (List.replicate 65 []) = ([], 4) := by
  unfold jnE
  rw [List.length_replicate, if_neg (by decide), if_pos (by decide)]
theorem jn_rep : ∀ n, (jn (List.replicate n (zb 2400))).length = 2404 * n
  | 0 => rfl
  | 1 => by
    unfold jn
    rw [List.replicate_one, List.map_cons, List.map_nil, jg_one, entp_length, zb_length]
  | n + 2 => by
    have ih := jn_rep (n + 1)
    unfold jn at ih ⊢
    rw [List.replicate_succ, List.map_cons, jg_cons (by rw [List.replicate_succ, List.map_cons]; simp), List.length_append, List.length_append, zer_length, ih, entp_length, zb_length]
    have : pad4 (4 + 2400) = 0 := by decide
    rw [this]
    omega
theorem rep_ok (n : Nat) : okL (List.replicate n (zb 2400)) := fun p hp => by
  rw [List.eq_of_mem_replicate hp]
  exact ⟨by rw [zb_length]; decide, by rw [zb_length]; decide⟩
theorem jn_28 : jnE (List.replicate 28 (zb 2400)) = ([], 11) := by
  unfold jnE
  rw [List.length_replicate, if_neg (by decide), if_neg (by decide), if_pos (pieE_ok.2 (rep_ok 28)), if_pos (by rw [jn_rep]; decide)]
theorem jn_27 : (jnE (List.replicate 27 (zb 2400))).2 = 0 := by
  unfold jnE
  rw [List.length_replicate, if_neg (by decide), if_neg (by decide), if_pos (pieE_ok.2 (rep_ok 27)), if_neg (by rw [jn_rep]; decide)]
theorem sc_11 : sc (zb 11) = ([], 2) := by kernel_rfl
attribute [local irreducible] WL W WQ PL Runs Effs AllE Ent SubO FrIn Pick OneC Ones CellsE PartsE SeqE UZ By Sl Pt Ct

set_option maxRecDepth 100000 in
set_option maxHeartbeats 4000000 in
theorem with_fn (m : Value) (mb : List UInt8) (u bv : Value) (bb : List UInt8) (h1 : mb.length ≤ 1000) (h2 : bb.length ≤ 1000) : Ct Tryd.prog 15 [m, u] [] [By m mb, Pt u [bv], By bv bb]
    (X := Value) (fun _ => True) (fun x => x) (fun x => [.row x 5 1 (bb ++ mb).length ((bb ++ mb).map bcell)]) (fun _ => []) := by
  refine Ct_intro Tryd.func15 rfl Tryd.ntmps15 (by simp) _ rfl (fun w0 O0 => ?_)
  repeat (first | refine n1 ?_ | refine n2 (fun b _ => ?_) | refine n3 (fun _ _ => ?_) | refine n4 ?_ | refine n5 ?_ | refine WL_nil ?_ | refine W_seq ?_ | refine W_region ?_ | refine n7 ?_ | refine n8 ?_ | refine W_block ?_ | refine W_skip ?_ | refine W_ret ?_ | refine W_exit ?_ | refine WQ_then ?_ | refine WQ_then_ret ?_ | refine WQ_then_exit ?_ | refine WQ_block_normal ?_ | refine WQ_block_ret ?_ | refine WQ_block_exit ?_ | refine n9 ?_)
  (apply WL_effs; exact rfl; exact rfl; exact rfl; (apply E_buildSlice; exact rfl; (focus (repeat (first | apply SeqE.nil | (apply SeqE.cons; exact rfl; (focus (first | (apply CellsE.lit; exact rfl) | (apply CellsE.one; (first | (apply OneC.lit; exact rfl) | (apply OneC.by_; (repeat' (first | exact mcs | apply mct)); done) | (apply OneC.sl; (repeat' (first | exact mcs | apply mct)); done) | (apply OneC.rw; (repeat' (first | exact mcs | apply mct)); done) | (apply OneC.row; (repeat' (first | exact Pick.head _ _ | apply Pick.tail))))))); exact rfl) | exact rfl))); exact rfl; (first | (intro _; exact (rfl : _ = Result.ok 1 _)) | (intro _; exact (rfl : _ = Result.ok 2 _)) | (intro _; exact (rfl : _ = Result.ok 3 _)) | (intro _; exact (rfl : _ = Result.ok 4 _)) | (intro _; exact (rfl : _ = Result.ok 5 _)) | (intro _; exact (rfl : _ = Result.ok 6 _)) | (intro _; exact (rfl : _ = Result.ok 7 _)) | (intro _; exact (rfl : _ = Result.ok 8 _)) | (intro _; exact (rfl : _ = Result.ok 9 _)) | (intro _; exact (rfl : _ = Result.ok 13 _)) | (intro _; exact (rfl : _ = Result.ok 14 _)) | (intro _; exact (rfl : _ = Result.ok 26 _)) | (intro _; exact (rfl : _ = Result.ok 40 _)) | (intro _; exact (rfl : _ = Result.ok 41 _)) | (intro _; exact (rfl : _ = Result.ok 42 _)) | (intro _; exact (rfl : _ = Result.ok 43 _)) | (intro _; exact (rfl : _ = Result.ok 44 _)) | (intro _; exact (rfl : _ = Result.ok 45 _)) | (intro _; exact (rfl : _ = Result.ok 46 _))); (intro _; exact rfl); exact rfl; exact Nat.le_of_ble_eq_true rfl; exact Nat.le_of_ble_eq_true rfl); skip)
  intro q1 _
  repeat (first | refine n1 ?_ | refine n2 (fun b _ => ?_) | refine n3 (fun _ _ => ?_) | refine n4 ?_ | refine n5 ?_ | refine WL_nil ?_ | refine W_seq ?_ | refine W_region ?_ | refine n7 ?_ | refine n8 ?_ | refine W_block ?_ | refine W_skip ?_ | refine W_ret ?_ | refine W_exit ?_ | refine WQ_then ?_ | refine WQ_then_ret ?_ | refine WQ_then_exit ?_ | refine WQ_block_normal ?_ | refine WQ_block_ret ?_ | refine WQ_block_exit ?_ | refine n9 ?_)
  refine WL_effs rfl rfl rfl (E_appendBy (bs := []) (news := bb) (nm := bb.length) (all := bb) rfl rfl (by repeat' (first | exact Pick.head _ _ | apply Pick.tail)) (by repeat' (first | exact mcs | apply mct)) rfl rfl rfl rfl rfl rfl (Nat.le_of_ble_eq_true rfl) (by omega) (Nat.zero_add _) rfl) ?_
  intro q2 _
  repeat (first | refine n1 ?_ | refine n2 (fun b _ => ?_) | refine n3 (fun _ _ => ?_) | refine n4 ?_ | refine n5 ?_ | refine WL_nil ?_ | refine W_seq ?_ | refine W_region ?_ | refine n7 ?_ | refine n8 ?_ | refine W_block ?_ | refine W_skip ?_ | refine W_ret ?_ | refine W_exit ?_ | refine WQ_then ?_ | refine WQ_then_ret ?_ | refine WQ_then_exit ?_ | refine WQ_block_normal ?_ | refine WQ_block_ret ?_ | refine WQ_block_exit ?_ | refine n9 ?_)
  refine WL_effs rfl rfl rfl (E_appendBy (bs := bb) (news := mb) (nm := (bb ++ mb).length) (all := bb ++ mb) rfl rfl (by repeat' (first | exact Pick.head _ _ | apply Pick.tail)) (by repeat' (first | exact mcs | apply mct)) rfl rfl rfl rfl rfl rfl (Nat.le_of_ble_eq_true rfl) (by omega) (List.length_append ..).symm rfl) ?_
  intro q3 _
  repeat (first | refine n1 ?_ | refine n2 (fun b _ => ?_) | refine n3 (fun _ _ => ?_) | refine n4 ?_ | refine n5 ?_ | refine WL_nil ?_ | refine W_seq ?_ | refine W_region ?_ | refine n7 ?_ | refine n8 ?_ | refine W_block ?_ | refine W_skip ?_ | refine W_ret ?_ | refine W_exit ?_ | refine WQ_then ?_ | refine WQ_then_ret ?_ | refine WQ_then_exit ?_ | refine WQ_block_normal ?_ | refine WQ_block_ret ?_ | refine WQ_block_exit ?_ | refine n9 ?_)
  ((apply ret1 Tryd.results15 ( q3)); (focus (first | trivial | assumption | omega)); (focus (first | exact RV_tmp rfl | (apply RV_cellN; exact rfl; (repeat' (first | exact Pick.head _ _ | apply Pick.tail)); (intro _; exact rfl); (intro _; exact rfl); exact rfl) | (apply RV_cell1; exact rfl; (repeat' (first | exact Pick.head _ _ | apply Pick.tail)); (intro _; exact rfl); exact rfl)));  (focus (first | exact rfl | (simp; done))); (focus (repeat (first | exact SubO.nil _ | (apply SubO.cons; (focus (repeat' (first | exact Pick.head _ _ | apply Pick.tail))))))); (focus (repeat (first | exact AllE.nil _ | (apply AllE.cons; (focus (first | exact ent_nilBy | exact ent_nilSl | (apply Ent.mem; repeat' (first | exact mcs | apply mct)))))))))
end Go.Proofs.YtdhbgolbfkejcaaDoor
