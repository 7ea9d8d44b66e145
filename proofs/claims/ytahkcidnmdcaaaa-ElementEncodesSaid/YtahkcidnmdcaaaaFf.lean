/-
  The law 'ElementUnknown' walked.
-/
import Derived.Test.YtahkcidnmdcaaaaFd
namespace Go.Proofs.Ytahkcidnmdcaaaa
open Go Go.RowKit Go.Hs
attribute [local irreducible] WL W WQ PL Runs Effs AllE Ent SubO FrIn Pick OneC Ones CellsE PartsE SeqE UZ By Sl Pt Ct

/-- a list with other Ids. -/
def Rl : Fo → Fo → Prop
  | .nil, .nil => True
  | .cons id _ data _ next, .cons id' ext' data' subs' next' => contB id = false ∧ id.toNat < 254 ∧ id'.toNat < 200 ∧ ext' = 0 ∧ data' = data ∧ subs' = .nil ∧ Rl next next'
  | _, _ => False
theorem low_id {id : UInt8} (h : id.toNat < 200) : contB id = false ∧ ¬ id = 254 ∧ ¬ id = 255 := by
  refine ⟨by rw [contB, decide_eq_false (by omega), Bool.false_and], fun e => ?_, fun e => ?_⟩
  · subst e; exact absurd h (by decide)
  · subst e; exact absurd h (by decide)
theorem rl_sm : ∀ {t m : Fo}, Rl t m → cnt m ≤ cnt t ∧ dep m ≤ dep t ∧ dat m ≤ dat t
  | .nil, .nil, _ => ⟨Nat.le_refl _, Nat.le_refl _, Nat.le_refl _⟩
  | .cons id ext data subs next, .cons id' ext' data' subs' next', h => by
    obtain ⟨_, _, _, rfl, rfl, rfl, h7⟩ := h
    have ih := rl_sm h7
    simp only [cnt, dep, dat]
    omega
  | .nil, .cons _ _ _ _ _, h => h.elim
  | .cons _ _ _ _ _, .nil, h => h.elim
theorem rl_ok : ∀ {t m : Fo}, Rl t m → val t = true → fit t = true → val m = true ∧ fit m = true ∧ (enc m).length = (enc t).length
  | .nil, .nil, _, _, _ => ⟨rfl, rfl, rfl⟩
  | .cons id ext data subs next, .cons id' ext' data' subs' next', h, hv, hf => by
    obtain ⟨h1, h2, h3, rfl, rfl, rfl, h7⟩ := h
    obtain ⟨l1, l2, l3⟩ := low_id h3
    simp only [val, fit, Bool.and_eq_true] at hv hf
    obtain ⟨⟨v1, v2⟩, v3⟩ := hv
    obtain ⟨⟨f1, f2⟩, f3⟩ := hf
    obtain ⟨i1, i2, i3⟩ := rl_ok h7 v3 f3
    have e1 : inn id data' (enc subs) = data' := by rw [inn, h1]; rfl
    have e2 : inn id' data' [] = data' := by rw [inn, l1]; rfl
    have e4 : inn id' data' (enc .nil) = data' := e2
    have e3 : ¬ id = 255 := fun e => by subst e; exact absurd h2 (by decide)
    rw [e1] at f1
    refine ⟨by simp [val, own, l1, l2, i1, isN], by simp [fit, e4, i2, l1]; simpa using f1, ?_⟩
    simp only [enc, e1, e2, List.length_append, List.length_cons, i3]
    rw [show withX id' 0 data' = data' from if_neg l3, show withX id ext data' = data' from if_neg e3]
  | .nil, .cons _ _ _ _ _, h, _, _ => h.elim
  | .cons _ _ _ _ _, .nil, h, _, _ => h.elim
theorem rl_chk {t m : Fo} (h : Rl t m) (hc : chk t = 0) : chk m = 0 ∧ (enc m).length = (enc t).length := by
  obtain ⟨h1, h2, h3, h4⟩ := chk0.1 hc
  obtain ⟨a1, a2, a3⟩ := rl_ok h h3 h4
  obtain ⟨b1, b2, b3⟩ := rl_sm h
  exact ⟨chk0.2 ⟨by omega, by omega, a1, a2⟩, a3⟩

set_option maxRecDepth 100000 in
set_option maxHeartbeats 16000000 in
theorem unknownLaw_fn (t : T) (v iv : Value) (ids : List UInt8) : CtD Try.prog 6 [v, iv] [Rw 4 v t.len t.at_, t.tf, By iv ids] (.bool true) := by
  have hal := alive_fn
  refine Ct_intro Try.func6 rfl Try.ntmps6 (by simp) _ rfl (fun w0 O0 => ?_)
  repeat (first | refine n1 ?_ | refine n2 (fun b _ => ?_) | refine n3 (fun _ _ => ?_) | refine n4 ?_ | refine n5 ?_ | refine n6 (hal) ?_ | refine n6v (hal) ?_ | refine WL_nil ?_ | refine W_seq ?_ | refine W_region ?_ | refine n7 ?_ | refine n8 ?_ | refine W_block ?_ | refine W_skip ?_ | refine W_ret ?_ | refine W_exit ?_ | refine WQ_then ?_ | refine WQ_then_ret ?_ | refine WQ_then_exit ?_ | refine WQ_block_normal ?_ | refine WQ_block_ret ?_ | refine WQ_block_exit ?_ | refine n9 ?_)
  (apply WL_effs; exact rfl; exact rfl; exact rfl; apply E_call; exact rfl; (intro _ _; simp); exact great_fn t v; (repeat (first | exact AllE.nil _ | (apply AllE.cons; (focus (first | exact ent_nilBy | exact ent_nilSl | (apply Ent.mem; repeat' (first | exact mcs | apply mct))))))); (intro _; exact rfl); (intro _; exact rfl))
  intro gr hgr
  cases gr with
  | true =>
    repeat (first | refine n1 ?_ | refine n2 (fun b _ => ?_) | refine n3 (fun _ _ => ?_) | refine n4 ?_ | refine n5 ?_ | refine WL_nil ?_ | refine W_seq ?_ | refine W_region ?_ | refine n7 ?_ | refine n8 ?_ | refine W_block ?_ | refine W_skip ?_ | refine W_ret ?_ | refine W_exit ?_ | refine WQ_then ?_ | refine WQ_then_ret ?_ | refine WQ_then_exit ?_ | refine WQ_block_normal ?_ | refine WQ_block_ret ?_ | refine WQ_block_exit ?_ | refine n9 ?_)
    ((apply ret1 Try.results6 ( ())); (focus (first | trivial | assumption | omega)); (focus (first | exact RV_tmp rfl | (apply RV_cellN; exact rfl; (repeat' (first | exact Pick.head _ _ | apply Pick.tail)); (intro _; exact rfl); (intro _; exact rfl); exact rfl) | (apply RV_cell1; exact rfl; (repeat' (first | exact Pick.head _ _ | apply Pick.tail)); (intro _; exact rfl); exact rfl)));  (focus (first | exact rfl | (simp; done))); (focus (repeat (first | exact SubO.nil _ | (apply SubO.cons; (focus (repeat' (first | exact Pick.head _ _ | apply Pick.tail))))))); (focus (repeat (first | exact AllE.nil _ | (apply AllE.cons; (focus (first | exact ent_nilBy | exact ent_nilSl | (apply Ent.mem; repeat' (first | exact mcs | apply mct)))))))))
  | false =>
    obtain ⟨hs1, hd1⟩ := hgr rfl
    have hlc := len_cnt t
    have hcn := hs1.1
    by_cases c0 : ids.length = 0
    · repeat (first | refine n1 ?_ | refine n2 (fun b _ => ?_) | refine n3 (fun _ _ => ?_) | refine n4 ?_ | refine n5 ?_ | refine WL_nil ?_ | refine W_seq ?_ | refine W_region ?_ | refine n7 ?_ | refine n8 ?_ | refine W_block ?_ | refine W_skip ?_ | refine W_ret ?_ | refine W_exit ?_ | refine WQ_then ?_ | refine WQ_then_ret ?_ | refine WQ_then_exit ?_ | refine WQ_block_normal ?_ | refine WQ_block_ret ?_ | refine WQ_block_exit ?_ | refine n9 ?_)
      ((apply ret1 Try.results6 ( ())); (focus (first | trivial | assumption | omega)); (focus (first | exact RV_tmp rfl | (apply RV_cellN; exact rfl; (repeat' (first | exact Pick.head _ _ | apply Pick.tail)); (intro _; exact rfl); (intro _; exact rfl); exact rfl) | (apply RV_cell1; exact rfl; (repeat' (first | exact Pick.head _ _ | apply Pick.tail)); (intro _; exact rfl); exact rfl)));  (focus (first | exact rfl | (simp; done))); (focus (repeat (first | exact SubO.nil _ | (apply SubO.cons; (focus (repeat' (first | exact Pick.head _ _ | apply Pick.tail))))))); (focus (repeat (first | exact AllE.nil _ | (apply AllE.cons; (focus (first | exact ent_nilBy | exact ent_nilSl | (apply Ent.mem; repeat' (first | exact mcs | apply mct)))))))))
    · repeat (first | refine n1 ?_ | refine n2 (fun b _ => ?_) | refine n3 (fun _ _ => ?_) | refine n4 ?_ | refine n5 ?_ | refine WL_nil ?_ | refine W_seq ?_ | refine W_region ?_ | refine n7 ?_ | refine n8 ?_ | refine W_block ?_ | refine W_skip ?_ | refine W_ret ?_ | refine W_exit ?_ | refine WQ_then ?_ | refine WQ_then_ret ?_ | refine WQ_then_exit ?_ | refine WQ_block_normal ?_ | refine WQ_block_ret ?_ | refine WQ_block_exit ?_ | refine n9 ?_)
      apply W_nilRow 31 4
      refine W_ent ent_tf0 (W_ent (ψ := Rw 4 (.slice none 0 0) T.nil.len T.nil.at_) ent_nilRw ?_)
      ((apply W_loopK (X := Nat × T × Value) [7, 6] [0] (fun x => x.1 ≤ t.len ∧ x.2.1.len = x.1 ∧ ∀ u, Rl (t.drop x.1).er u → Rl t.er (fapp x.2.1.er u)) (fun x => [(7, .int .i64 (x.1 : Int)), (6, x.2.2)]) (fun x => [.row x.2.2 31 4 x.2.1.len x.2.1.cells]) (fun x => [x.2.1.tf]) (fun x => t.len - x.1) ((0, .nil, .slice none 0 0))); (focus exact ⟨Nat.zero_le _, rfl, fun u h => h⟩); exact rfl; exact rfl; (intro _; exact rfl); (intro _; exact rfl); (intro _; exact rfl); (focus (repeat (first | exact FrIn.nil _ | (apply FrIn.cons; exact rfl; (first | exact rfl | (congr 1; omega) | (simp; done)))))); (focus (repeat (first | exact SubO.nil _ | (apply SubO.cons; (focus (repeat' (first | exact Pick.head _ _ | apply Pick.tail))))))); (focus (repeat (first | exact AllE.nil _ | (apply AllE.cons; (focus (first | exact ent_nilBy | exact ent_nilSl | (apply Ent.mem; repeat' (first | exact mcs | apply mct)))))))); intro x hx)
      obtain ⟨k, mt, mv⟩ := x
      obtain ⟨hk, hml, hi⟩ := hx
      replace hk : k ≤ t.len := hk
      replace hml : mt.len = k := hml
      replace hi : ∀ u, Rl (t.drop k).er u → Rl t.er (fapp mt.er u) := hi
      dsimp only
      by_cases c1 : k < t.len
      · obtain ⟨id, ext, dv, data, sv, subs, next, e1⟩ := T.get c1
        have a1 := T.at_cons e1
        rw [e1] at hi
        have hmod : k % ids.length < ids.length := Nat.mod_lt _ (by omega)
        have hcf := rcont_fn id
        refine W_ent (ent_tree (t := t) (by repeat' (first | exact mcs | apply mct)) e1).1 (W_ent (ent_tree (t := t) (by repeat' (first | exact mcs | apply mct)) e1).2.1 (W_ent (ent_tree (t := t) (by repeat' (first | exact mcs | apply mct)) e1).2.2 ?_))
        repeat (first | refine n1 ?_ | refine n2 (fun b _ => ?_) | refine n3 (fun _ _ => ?_) | refine n4 ?_ | refine n5 ?_ | refine WL_nil ?_ | refine W_seq ?_ | refine W_region ?_ | refine n7 ?_ | refine n8 ?_ | refine W_block ?_ | refine W_skip ?_ | refine W_ret ?_ | refine W_exit ?_ | refine WQ_then ?_ | refine WQ_then_ret ?_ | refine WQ_then_exit ?_ | refine WQ_block_normal ?_ | refine WQ_block_ret ?_ | refine WQ_block_exit ?_ | refine n9 ?_)
        refine WL_runs rfl rfl rfl (R_rem rfl rfl (by omega) (Int.ofNat_tmod k ids.length).symm) ?_
        repeat (first | refine n1 ?_ | refine n2 (fun b _ => ?_) | refine n3 (fun _ _ => ?_) | refine n4 ?_ | refine n5 ?_ | refine WL_nil ?_ | refine W_seq ?_ | refine W_region ?_ | refine n7 ?_ | refine n8 ?_ | refine W_block ?_ | refine W_skip ?_ | refine W_ret ?_ | refine W_exit ?_ | refine WQ_then ?_ | refine WQ_then_ret ?_ | refine WQ_then_exit ?_ | refine WQ_block_normal ?_ | refine WQ_block_ret ?_ | refine WQ_block_exit ?_ | refine n9 ?_)
        obtain ⟨i2, hi2⟩ : ∃ i2 : UInt8, i2 = UInt8.ofNat ((ids.getD (k % ids.length) 0).toNat % 200) := ⟨_, rfl⟩
        have hi3 : i2.toNat = (ids.getD (k % ids.length) 0).toNat % 200 := by
          rw [hi2, UInt8.toNat_ofNat']
          omega
        have hi4 : Int.tmod ((ids.getD (k % ids.length) 0).toNat : Int) 200 = (i2.toNat : Int) := by
          rw [hi3, show (200 : Int) = ((200 : Nat) : Int) from rfl, ← Int.ofNat_tmod]
        have hi5 : i2.toNat < 200 := by omega
        refine WL_runs rfl rfl rfl (R_rem rfl rfl (by decide) hi4) ?_
        cases c2 : contB id with
        | true =>
          rw [c2] at hcf
          repeat (first | refine n1 ?_ | refine n2 (fun b _ => ?_) | refine n3 (fun _ _ => ?_) | refine n4 ?_ | refine n5 ?_ | refine n6 (hcf) ?_ | refine n6v (hcf) ?_ | refine WL_nil ?_ | refine W_seq ?_ | refine W_region ?_ | refine n7 ?_ | refine n8 ?_ | refine W_block ?_ | refine W_skip ?_ | refine W_ret ?_ | refine W_exit ?_ | refine WQ_then ?_ | refine WQ_then_ret ?_ | refine WQ_then_exit ?_ | refine WQ_block_normal ?_ | refine WQ_block_ret ?_ | refine WQ_block_exit ?_ | refine n9 ?_)
          ((apply ret1 Try.results6 ( ())); (focus (first | trivial | assumption | omega)); (focus (first | exact RV_tmp rfl | (apply RV_cellN; exact rfl; (repeat' (first | exact Pick.head _ _ | apply Pick.tail)); (intro _; exact rfl); (intro _; exact rfl); exact rfl) | (apply RV_cell1; exact rfl; (repeat' (first | exact Pick.head _ _ | apply Pick.tail)); (intro _; exact rfl); exact rfl)));  (focus (first | exact rfl | (simp; done))); (focus (repeat (first | exact SubO.nil _ | (apply SubO.cons; (focus (repeat' (first | exact Pick.head _ _ | apply Pick.tail))))))); (focus (repeat (first | exact AllE.nil _ | (apply AllE.cons; (focus (first | exact ent_nilBy | exact ent_nilSl | (apply Ent.mem; repeat' (first | exact mcs | apply mct)))))))))
        | false =>
          rw [c2] at hcf
          by_cases c3 : 254 ≤ id.toNat
          · repeat (first | refine n1 ?_ | refine n2 (fun b _ => ?_) | refine n3 (fun _ _ => ?_) | refine n4 ?_ | refine n5 ?_ | refine n6 (hcf) ?_ | refine n6v (hcf) ?_ | refine WL_nil ?_ | refine W_seq ?_ | refine W_region ?_ | refine n7 ?_ | refine n8 ?_ | refine W_block ?_ | refine W_skip ?_ | refine W_ret ?_ | refine W_exit ?_ | refine WQ_then ?_ | refine WQ_then_ret ?_ | refine WQ_then_exit ?_ | refine WQ_block_normal ?_ | refine WQ_block_ret ?_ | refine WQ_block_exit ?_ | refine n9 ?_)
            ((apply ret1 Try.results6 ( ())); (focus (first | trivial | assumption | omega)); (focus (first | exact RV_tmp rfl | (apply RV_cellN; exact rfl; (repeat' (first | exact Pick.head _ _ | apply Pick.tail)); (intro _; exact rfl); (intro _; exact rfl); exact rfl) | (apply RV_cell1; exact rfl; (repeat' (first | exact Pick.head _ _ | apply Pick.tail)); (intro _; exact rfl); exact rfl)));  (focus (first | exact rfl | (simp; done))); (focus (repeat (first | exact SubO.nil _ | (apply SubO.cons; (focus (repeat' (first | exact Pick.head _ _ | apply Pick.tail))))))); (focus (repeat (first | exact AllE.nil _ | (apply AllE.cons; (focus (first | exact ent_nilBy | exact ent_nilSl | (apply Ent.mem; repeat' (first | exact mcs | apply mct)))))))))
          · repeat (first | refine n1 ?_ | refine n2 (fun b _ => ?_) | refine n3 (fun _ _ => ?_) | refine n4 ?_ | refine n5 ?_ | refine n6 (hcf) ?_ | refine n6v (hcf) ?_ | refine WL_nil ?_ | refine W_seq ?_ | refine W_region ?_ | refine n7 ?_ | refine n8 ?_ | refine W_block ?_ | refine W_skip ?_ | refine W_ret ?_ | refine W_exit ?_ | refine WQ_then ?_ | refine WQ_then_ret ?_ | refine WQ_then_exit ?_ | refine WQ_block_normal ?_ | refine WQ_block_ret ?_ | refine WQ_block_exit ?_ | refine n9 ?_)
            (apply WL_effs; exact rfl; exact rfl; exact rfl; (apply E_buildSlice; exact rfl; (focus (repeat (first | apply SeqE.nil | (apply SeqE.cons; exact rfl; (focus (first | (apply CellsE.lit; exact rfl) | (apply CellsE.one; (first | (apply OneC.lit; exact rfl) | (apply OneC.by_; (repeat' (first | exact mcs | apply mct)); done) | (apply OneC.sl; (repeat' (first | exact mcs | apply mct)); done) | (apply OneC.rw; (repeat' (first | exact mcs | apply mct)); done) | (apply OneC.row; (repeat' (first | exact Pick.head _ _ | apply Pick.tail))))))); exact rfl) | exact rfl))); exact rfl; (first | (intro _; exact (rfl : _ = Result.ok 1 _)) | (intro _; exact (rfl : _ = Result.ok 2 _)) | (intro _; exact (rfl : _ = Result.ok 3 _)) | (intro _; exact (rfl : _ = Result.ok 4 _)) | (intro _; exact (rfl : _ = Result.ok 5 _)) | (intro _; exact (rfl : _ = Result.ok 6 _)) | (intro _; exact (rfl : _ = Result.ok 7 _)) | (intro _; exact (rfl : _ = Result.ok 8 _)) | (intro _; exact (rfl : _ = Result.ok 13 _)) | (intro _; exact (rfl : _ = Result.ok 14 _)) | (intro _; exact (rfl : _ = Result.ok 26 _)) | (intro _; exact (rfl : _ = Result.ok 40 _)) | (intro _; exact (rfl : _ = Result.ok 41 _)) | (intro _; exact (rfl : _ = Result.ok 42 _)) | (intro _; exact (rfl : _ = Result.ok 43 _)) | (intro _; exact (rfl : _ = Result.ok 44 _)) | (intro _; exact (rfl : _ = Result.ok 45 _)) | (intro _; exact (rfl : _ = Result.ok 46 _))); (intro _; exact rfl); exact rfl; exact Nat.le_of_ble_eq_true rfl; exact Nat.le_of_ble_eq_true rfl); skip)
            intro q _
            have hl : mt.len + 1 = (mt.app (.cons i2 0 dv data (.slice none 0 0) .nil .nil)).len := T.len_snoc ..
            refine WL_effs rfl rfl rfl (E_appendRowO (nm := (mt.app (.cons i2 0 dv data (.slice none 0 0) .nil .nil)).len) (all := (mt.app (.cons i2 0 dv data (.slice none 0 0) .nil .nil)).cells) rfl rfl (by repeat' (first | exact Pick.head _ _ | apply Pick.tail)) (by repeat' (first | exact Pick.head _ _ | apply Pick.tail)) rfl rfl rfl rfl rfl (Nat.le_of_ble_eq_true rfl) (by (focus (repeat (first | apply Ones.nil | exact Ones.bytes | (apply Ones.cons; (focus (first | (apply OneC.lit; exact rfl) | (apply OneC.by_; (repeat' (first | exact mcs | apply mct)); done) | (apply OneC.sl; (repeat' (first | exact mcs | apply mct)); done) | (apply OneC.rw; (repeat' (first | exact mcs | apply mct)); done) | (apply OneC.row; (repeat' (first | exact Pick.head _ _ | apply Pick.tail)))))))))) (Nat.le_of_ble_eq_true rfl) (by omega) hl (T.cells_snoc ..)) ?_
            intro o2 _
            repeat (first | refine n1 ?_ | refine n2 (fun b _ => ?_) | refine n3 (fun _ _ => ?_) | refine n4 ?_ | refine n5 ?_ | refine WL_nil ?_ | refine W_seq ?_ | refine W_region ?_ | refine n7 ?_ | refine n8 ?_ | refine W_block ?_ | refine W_skip ?_ | refine W_ret ?_ | refine W_exit ?_ | refine WQ_then ?_ | refine WQ_then_ret ?_ | refine WQ_then_exit ?_ | refine WQ_block_normal ?_ | refine WQ_block_ret ?_ | refine WQ_block_exit ?_ | refine n9 ?_)
            refine WQ_ent (ent_tf1 (id := i2) (ext := 0) (dv := dv) (data := data) (sv := .slice none 0 0) (subs := .nil) (by repeat' (first | exact mcs | apply mct)) (by repeat' (first | exact mcs | apply mct)) (by repeat' (first | exact mcs | apply mct))) (WQ_ent (ent_tfapp (t := mt) (u := .cons i2 0 dv data (.slice none 0 0) .nil .nil) (by repeat' (first | exact mcs | apply mct)) (by repeat' (first | exact mcs | apply mct))) ?_)
            have hn : k + 1 ≤ t.len ∧ (mt.app (.cons i2 0 dv data (.slice none 0 0) .nil .nil)).len = k + 1 ∧ ∀ u, Rl (t.drop (k + 1)).er u → Rl t.er (fapp (mt.app (.cons i2 0 dv data (.slice none 0 0) .nil .nil)).er u) := by
              refine ⟨c1, by rw [← hl, hml], fun u hu => ?_⟩
              rw [T.drop_next e1] at hu
              rw [er_app, fapp_assoc]
              exact hi _ ⟨c2, by omega, hi5, rfl, rfl, rfl, hu⟩
            ((apply WQ_again ((k + 1, mt.app (.cons i2 0 dv data (.slice none 0 0) .nil .nil), o2))); (focus exact hn); (focus (omega)); (focus (repeat (first | exact FrIn.nil _ | (apply FrIn.cons; exact rfl; (first | exact rfl | (congr 1; omega) | (simp; done)))))); (focus (repeat (first | exact SubO.nil _ | (apply SubO.cons; (focus (repeat' (first | exact Pick.head _ _ | apply Pick.tail))))))); (focus (repeat (first | exact AllE.nil _ | (apply AllE.cons; (focus (first | exact ent_nilBy | exact ent_nilSl | (apply Ent.mem; repeat' (first | exact mcs | apply mct)))))))))
      · rw [drop_end (by omega)] at hi
        have hrl : Rl t.er mt.er := by
          have := hi .nil trivial
          rwa [fapp_nil] at this
        have hb := rl_sm hrl
        have hs2 : Sm mt.er := ⟨by have := hs1.1; omega, by have := hs1.2.1; omega, by have := hs1.2.2; omega⟩
        repeat (first | refine n1 ?_ | refine n2 (fun b _ => ?_) | refine n3 (fun _ _ => ?_) | refine n4 ?_ | refine n5 ?_ | refine WL_nil ?_ | refine W_seq ?_ | refine W_region ?_ | refine n7 ?_ | refine n8 ?_ | refine W_block ?_ | refine W_skip ?_ | refine W_ret ?_ | refine W_exit ?_ | refine WQ_then ?_ | refine WQ_then_ret ?_ | refine WQ_then_exit ?_ | refine WQ_block_normal ?_ | refine WQ_block_ret ?_ | refine WQ_block_exit ?_ | refine n9 ?_)
        (apply WL_effs; exact rfl; exact rfl; exact rfl; apply E_call; exact rfl; (intro _ _; simp); exact encode_fn t v hs1; (repeat (first | exact AllE.nil _ | (apply AllE.cons; (focus (first | exact ent_nilBy | exact ent_nilSl | (apply Ent.mem; repeat' (first | exact mcs | apply mct))))))); (intro _; exact rfl); (intro _; exact rfl))
        intro av _
        repeat (first | refine n1 ?_ | refine n2 (fun b _ => ?_) | refine n3 (fun _ _ => ?_) | refine n4 ?_ | refine n5 ?_ | refine WL_nil ?_ | refine W_seq ?_ | refine W_region ?_ | refine n7 ?_ | refine n8 ?_ | refine W_block ?_ | refine W_skip ?_ | refine W_ret ?_ | refine W_exit ?_ | refine WQ_then ?_ | refine WQ_then_ret ?_ | refine WQ_then_exit ?_ | refine WQ_block_normal ?_ | refine WQ_block_ret ?_ | refine WQ_block_exit ?_ | refine n9 ?_)
        refine WL_letgo (v := mv) (by repeat' (first | exact Pick.head _ _ | apply Pick.tail)) ?_
        refine WL_ent (ent_slT (v := mv) (t := mt) (by repeat' (first | exact mcs | apply mct))) ?_
        (apply WL_effs; exact rfl; exact rfl; exact rfl; apply E_call; exact rfl; (intro _ _; simp); exact encode_fn mt mv hs2; (repeat (first | exact AllE.nil _ | (apply AllE.cons; (focus (first | exact ent_nilBy | exact ent_nilSl | (apply Ent.mem; repeat' (first | exact mcs | apply mct))))))); (intro _; exact rfl); (intro _; exact rfl))
        intro bv _
        by_cases c2 : chk t.er = 0
        · obtain ⟨r1, r2⟩ := rl_chk hrl c2
          rw [c2, r1, encE_ok c2, encE_ok r1]
          have hel := hs2.enc_le
          repeat (first | refine n1 ?_ | refine n2 (fun b _ => ?_) | refine n3 (fun _ _ => ?_) | refine n4 ?_ | refine n5 ?_ | refine WL_nil ?_ | refine W_seq ?_ | refine W_region ?_ | refine n7 ?_ | refine n8 ?_ | refine W_block ?_ | refine W_skip ?_ | refine W_ret ?_ | refine W_exit ?_ | refine WQ_then ?_ | refine WQ_then_ret ?_ | refine WQ_then_exit ?_ | refine WQ_block_normal ?_ | refine WQ_block_ret ?_ | refine WQ_block_exit ?_ | refine n9 ?_)
          (apply WL_effs; exact rfl; exact rfl; exact rfl; apply E_call; exact rfl; (intro _ _; simp); (exact decode_fn bv (enc mt.er) (by omega)); (repeat (first | exact AllE.nil _ | (apply AllE.cons; (focus (first | exact ent_nilBy | exact ent_nilSl | (apply Ent.mem; repeat' (first | exact mcs | apply mct))))))); (intro _; exact rfl); (intro _; exact rfl))
          rintro ⟨o, t3, e3⟩ ⟨m3, hq3⟩
          replace hq3 : dec (enc mt.er).length (enc mt.er) 1 0 = (t3.er, m3, e3) := hq3
          rw [enc_dec r1] at hq3
          injection hq3 with z1 z2
          injection z2 with z2 z3
          subst z3
          dsimp only
          refine WL_letgo (v := o) (by repeat' (first | exact Pick.head _ _ | apply Pick.tail)) ?_
          refine WL_ent (ent_slT (v := o) (t := t3) (by repeat' (first | exact mcs | apply mct))) ?_
          refine WL_tree (by repeat' (first | exact Pick.head _ _ | apply Pick.tail)) (by repeat' (first | exact mcs | apply mct)) ?_
          have hs := rsame_fn (t3.size + 1) t3 mt o mv (Nat.lt_succ_self _)
          rw [decide_eq_true z1.symm] at hs
          repeat (first | refine n1 ?_ | refine n2 (fun b _ => ?_) | refine n3 (fun _ _ => ?_) | refine n4 ?_ | refine n5 ?_ | refine n6 (hs) ?_ | refine n6v (hs) ?_ | refine WL_nil ?_ | refine W_seq ?_ | refine W_region ?_ | refine n7 ?_ | refine n8 ?_ | refine W_block ?_ | refine W_skip ?_ | refine W_ret ?_ | refine W_exit ?_ | refine WQ_then ?_ | refine WQ_then_ret ?_ | refine WQ_then_exit ?_ | refine WQ_block_normal ?_ | refine WQ_block_ret ?_ | refine WQ_block_exit ?_ | refine n9 ?_)
          ((apply ret1 Try.results6 ( ())); (focus (first | trivial | assumption | omega)); (focus (first | exact RV_tmp rfl | (apply RV_cellN; exact rfl; (repeat' (first | exact Pick.head _ _ | apply Pick.tail)); (intro _; exact rfl); (intro _; exact rfl); exact rfl) | (apply RV_cell1; exact rfl; (repeat' (first | exact Pick.head _ _ | apply Pick.tail)); (intro _; exact rfl); exact rfl)));  (focus (first | exact rfl | (simp; done))); (focus (repeat (first | exact SubO.nil _ | (apply SubO.cons; (focus (repeat' (first | exact Pick.head _ _ | apply Pick.tail))))))); (focus (repeat (first | exact AllE.nil _ | (apply AllE.cons; (focus (first | exact ent_nilBy | exact ent_nilSl | (apply Ent.mem; repeat' (first | exact mcs | apply mct)))))))))
        · repeat (first | refine n1 ?_ | refine n2 (fun b _ => ?_) | refine n3 (fun _ _ => ?_) | refine n4 ?_ | refine n5 ?_ | refine WL_nil ?_ | refine W_seq ?_ | refine W_region ?_ | refine n7 ?_ | refine n8 ?_ | refine W_block ?_ | refine W_skip ?_ | refine W_ret ?_ | refine W_exit ?_ | refine WQ_then ?_ | refine WQ_then_ret ?_ | refine WQ_then_exit ?_ | refine WQ_block_normal ?_ | refine WQ_block_ret ?_ | refine WQ_block_exit ?_ | refine n9 ?_)
          ((apply ret1 Try.results6 ( ())); (focus (first | trivial | assumption | omega)); (focus (first | exact RV_tmp rfl | (apply RV_cellN; exact rfl; (repeat' (first | exact Pick.head _ _ | apply Pick.tail)); (intro _; exact rfl); (intro _; exact rfl); exact rfl) | (apply RV_cell1; exact rfl; (repeat' (first | exact Pick.head _ _ | apply Pick.tail)); (intro _; exact rfl); exact rfl)));  (focus (first | exact rfl | (simp; done))); (focus (repeat (first | exact SubO.nil _ | (apply SubO.cons; (focus (repeat' (first | exact Pick.head _ _ | apply Pick.tail))))))); (focus (repeat (first | exact AllE.nil _ | (apply AllE.cons; (focus (first | exact ent_nilBy | exact ent_nilSl | (apply Ent.mem; repeat' (first | exact mcs | apply mct)))))))))
end Go.Proofs.Ytahkcidnmdcaaaa
