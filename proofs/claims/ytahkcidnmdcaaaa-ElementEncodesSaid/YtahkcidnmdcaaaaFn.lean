/-
  The law 'ElementEncodes' walked.
-/
import Derived.Test.YtahkcidnmdcaaaaFm
import Derived.Test.YtahkcidnmdcaaaaFl
import Derived.Test.YtahkcidnmdcaaaaEh
namespace Go.Proofs.Ytahkcidnmdcaaaa
open Go Go.RowKit Go.Hs
attribute [local irreducible] WL W WQ PL Runs Effs AllE Ent SubO FrIn Pick OneC Ones CellsE PartsE SeqE UZ By Sl Pt Ct

theorem one_dls (id ext : UInt8) (dv : Value) (data : List UInt8) (sv : Value) (subs : T) : [] ++ [(dv, data)] = (one_ id ext dv data sv subs).dls := rfl
theorem dls_at {t : T} {i : Nat} {L : List (Value × List UInt8)} (hL : L.map Prod.fst = t.dls.map Prod.fst) {id ext : UInt8} {dv : Value} {data : List UInt8} {sv : Value} {subs next : T} (e1 : t.drop i = .cons id ext dv data sv subs next) : ∃ bs, L[i]? = some (dv, bs) := by
  have h2 := congrArg (fun l => l[i]?) hL
  simp only [List.getElem?_map, T.dls_get e1, Option.map_some] at h2
  cases hh : L[i]? with
  | none => rw [hh] at h2; cases h2
  | some p =>
    rw [hh] at h2
    injection h2 with h2
    obtain ⟨p1, p2⟩ := p
    subst h2
    exact ⟨p2, rfl⟩
theorem cells2_at {t : T} {i : Nat} {id ext : UInt8} {dv : Value} {data : List UInt8} {sv : Value} {subs next : T} (e1 : t.drop i = .cons id ext dv data sv subs next) (hi : i < t.len) : t.cells[i * 4 + 2]? = some dv := by
  have h := cells_drop t i (by omega)
  rw [e1] at h
  rw [← List.getElem?_drop, h]
  rfl

set_option maxRecDepth 100000 in
set_option maxHeartbeats 32000000 in
theorem encodesLaw_fn (t m : T) (v w : Value) (id ext : UInt8) : CtD Try.prog 8 [v, w, bcell id, bcell ext] [Rw 4 v t.len t.at_, t.tf, Rw 4 w m.len m.at_, m.tf] (.bool true) := by
  refine Ct_intro Try.func8 rfl Try.ntmps8 (by simp) _ rfl (fun w0 O0 => ?_)
  repeat (first | refine n1 ?_ | refine n2 (fun b _ => ?_) | refine n3 (fun _ _ => ?_) | refine n4 ?_ | refine n5 ?_ | refine WL_nil ?_ | refine W_seq ?_ | refine W_region ?_ | refine n7 ?_ | refine n8 ?_ | refine W_block ?_ | refine W_skip ?_ | refine W_ret ?_ | refine W_exit ?_ | refine WQ_then ?_ | refine WQ_then_ret ?_ | refine WQ_then_exit ?_ | refine WQ_block_normal ?_ | refine WQ_block_ret ?_ | refine WQ_block_exit ?_ | refine n9 ?_)
  (apply WL_effs; exact rfl; exact rfl; exact rfl; apply E_call; exact rfl; (intro _ _; simp); exact great_fn t v; (repeat (first | exact AllE.nil _ | (apply AllE.cons; (focus (first | exact ent_nilBy | exact ent_nilSl | (apply Ent.mem; repeat' (first | exact mcs | apply mct))))))); (intro _; exact rfl); (intro _; exact rfl))
  intro gr hgr
  cases gr with
  | true =>
    repeat (first | refine n1 ?_ | refine n2 (fun b _ => ?_) | refine n3 (fun _ _ => ?_) | refine n4 ?_ | refine n5 ?_ | refine WL_nil ?_ | refine W_seq ?_ | refine W_region ?_ | refine n7 ?_ | refine n8 ?_ | refine W_block ?_ | refine W_skip ?_ | refine W_ret ?_ | refine W_exit ?_ | refine WQ_then ?_ | refine WQ_then_ret ?_ | refine WQ_then_exit ?_ | refine WQ_block_normal ?_ | refine WQ_block_ret ?_ | refine WQ_block_exit ?_ | refine n9 ?_)
    ((apply ret1 Try.results8 ( ())); (focus (first | trivial | assumption | omega)); (focus (first | exact RV_tmp rfl | (apply RV_cellN; exact rfl; (repeat' (first | exact Pick.head _ _ | apply Pick.tail)); (intro _; exact rfl); (intro _; exact rfl); exact rfl) | (apply RV_cell1; exact rfl; (repeat' (first | exact Pick.head _ _ | apply Pick.tail)); (intro _; exact rfl); exact rfl)));  (focus (first | exact rfl | (simp; done))); (focus (repeat (first | exact SubO.nil _ | (apply SubO.cons; (focus (repeat' (first | exact Pick.head _ _ | apply Pick.tail))))))); (focus (repeat (first | exact AllE.nil _ | (apply AllE.cons; (focus (first | exact ent_nilBy | exact ent_nilSl | (apply Ent.mem; repeat' (first | exact mcs | apply mct)))))))))
  | false =>
    obtain ⟨hs1, hd1⟩ := hgr rfl
    repeat (first | refine n1 ?_ | refine n2 (fun b _ => ?_) | refine n3 (fun _ _ => ?_) | refine n4 ?_ | refine n5 ?_ | refine WL_nil ?_ | refine W_seq ?_ | refine W_region ?_ | refine n7 ?_ | refine n8 ?_ | refine W_block ?_ | refine W_skip ?_ | refine W_ret ?_ | refine W_exit ?_ | refine WQ_then ?_ | refine WQ_then_ret ?_ | refine WQ_then_exit ?_ | refine WQ_block_normal ?_ | refine WQ_block_ret ?_ | refine WQ_block_exit ?_ | refine n9 ?_)
    (apply WL_effs; exact rfl; exact rfl; exact rfl; apply E_call; exact rfl; (intro _ _; simp); exact great_fn m w; (repeat (first | exact AllE.nil _ | (apply AllE.cons; (focus (first | exact ent_nilBy | exact ent_nilSl | (apply Ent.mem; repeat' (first | exact mcs | apply mct))))))); (intro _; exact rfl); (intro _; exact rfl))
    intro gs hgs
    cases gs with
    | true =>
      repeat (first | refine n1 ?_ | refine n2 (fun b _ => ?_) | refine n3 (fun _ _ => ?_) | refine n4 ?_ | refine n5 ?_ | refine WL_nil ?_ | refine W_seq ?_ | refine W_region ?_ | refine n7 ?_ | refine n8 ?_ | refine W_block ?_ | refine W_skip ?_ | refine W_ret ?_ | refine W_exit ?_ | refine WQ_then ?_ | refine WQ_then_ret ?_ | refine WQ_then_exit ?_ | refine WQ_block_normal ?_ | refine WQ_block_ret ?_ | refine WQ_block_exit ?_ | refine n9 ?_)
      ((apply ret1 Try.results8 ( ())); (focus (first | trivial | assumption | omega)); (focus (first | exact RV_tmp rfl | (apply RV_cellN; exact rfl; (repeat' (first | exact Pick.head _ _ | apply Pick.tail)); (intro _; exact rfl); (intro _; exact rfl); exact rfl) | (apply RV_cell1; exact rfl; (repeat' (first | exact Pick.head _ _ | apply Pick.tail)); (intro _; exact rfl); exact rfl)));  (focus (first | exact rfl | (simp; done))); (focus (repeat (first | exact SubO.nil _ | (apply SubO.cons; (focus (repeat' (first | exact Pick.head _ _ | apply Pick.tail))))))); (focus (repeat (first | exact AllE.nil _ | (apply AllE.cons; (focus (first | exact ent_nilBy | exact ent_nilSl | (apply Ent.mem; repeat' (first | exact mcs | apply mct)))))))))
    | false =>
      obtain ⟨hs2, hd2⟩ := hgs rfl
      repeat (first | refine n1 ?_ | refine n2 (fun b _ => ?_) | refine n3 (fun _ _ => ?_) | refine n4 ?_ | refine n5 ?_ | refine WL_nil ?_ | refine W_seq ?_ | refine W_region ?_ | refine n7 ?_ | refine n8 ?_ | refine W_block ?_ | refine W_skip ?_ | refine W_ret ?_ | refine W_exit ?_ | refine WQ_then ?_ | refine WQ_then_ret ?_ | refine WQ_then_exit ?_ | refine WQ_block_normal ?_ | refine WQ_block_ret ?_ | refine WQ_block_exit ?_ | refine n9 ?_)
      (apply WL_effs; exact rfl; exact rfl; exact rfl; apply E_call; exact rfl; (intro _ _; simp); (exact rtwin_fn (t.size + 1) t v (Nat.lt_succ_self _) hs1.md); (repeat (first | exact AllE.nil _ | (apply AllE.cons; (focus (first | exact ent_nilBy | exact ent_nilSl | (apply Ent.mem; repeat' (first | exact mcs | apply mct))))))); (intro _; exact rfl); (intro _; exact rfl))
      rintro ⟨wv, tw⟩ htw
      replace htw : tw.er = t.er := htw
      dsimp only
      have hsw : Sm tw.er := by rw [htw]; exact hs1
      repeat (first | refine n1 ?_ | refine n2 (fun b _ => ?_) | refine n3 (fun _ _ => ?_) | refine n4 ?_ | refine n5 ?_ | refine WL_nil ?_ | refine W_seq ?_ | refine W_region ?_ | refine n7 ?_ | refine n8 ?_ | refine W_block ?_ | refine W_skip ?_ | refine W_ret ?_ | refine W_exit ?_ | refine WQ_then ?_ | refine WQ_then_ret ?_ | refine WQ_then_exit ?_ | refine WQ_block_normal ?_ | refine WQ_block_ret ?_ | refine WQ_block_exit ?_ | refine n9 ?_)
      (apply WL_effs; exact rfl; exact rfl; exact rfl; apply E_call; exact rfl; (intro _ _; simp); exact encode_fn t v hs1; (repeat (first | exact AllE.nil _ | (apply AllE.cons; (focus (first | exact ent_nilBy | exact ent_nilSl | (apply Ent.mem; repeat' (first | exact mcs | apply mct))))))); (intro _; exact rfl); (intro _; exact rfl))
      intro av _
      repeat (first | refine n1 ?_ | refine n2 (fun b _ => ?_) | refine n3 (fun _ _ => ?_) | refine n4 ?_ | refine n5 ?_ | refine WL_nil ?_ | refine W_seq ?_ | refine W_region ?_ | refine n7 ?_ | refine n8 ?_ | refine W_block ?_ | refine W_skip ?_ | refine W_ret ?_ | refine W_exit ?_ | refine WQ_then ?_ | refine WQ_then_ret ?_ | refine WQ_then_exit ?_ | refine WQ_block_normal ?_ | refine WQ_block_ret ?_ | refine WQ_block_exit ?_ | refine n9 ?_)
      have hre := rencode_fn tw wv hsw
      rw [htw] at hre
      (apply WL_effs; exact rfl; exact rfl; exact rfl; apply E_call; exact rfl; (intro _ _; simp); exact hre; (repeat (first | exact AllE.nil _ | (apply AllE.cons; (focus (first | exact ent_nilBy | exact ent_nilSl | (apply Ent.mem; repeat' (first | exact mcs | apply mct))))))); (intro _; exact rfl); (intro _; exact rfl))
      intro bv _
      have hsz := size_fn t v hs1
      repeat (first | refine n1 ?_ | refine n2 (fun b _ => ?_) | refine n3 (fun _ _ => ?_) | refine n4 ?_ | refine n5 ?_ | refine n6 (hsz) ?_ | refine n6v (hsz) ?_ | refine WL_nil ?_ | refine W_seq ?_ | refine W_region ?_ | refine n7 ?_ | refine n8 ?_ | refine W_block ?_ | refine W_skip ?_ | refine W_ret ?_ | refine W_exit ?_ | refine WQ_then ?_ | refine WQ_then_ret ?_ | refine WQ_then_exit ?_ | refine WQ_block_normal ?_ | refine WQ_block_ret ?_ | refine WQ_block_exit ?_ | refine n9 ?_)
      (apply WL_effs; exact rfl; exact rfl; exact rfl; apply E_call; exact rfl; (intro _ _; simp); exact find_fn t v id ext hs1.md; (repeat (first | exact AllE.nil _ | (apply AllE.cons; (focus (first | exact ent_nilBy | exact ent_nilSl | (apply Ent.mem; repeat' (first | exact mcs | apply mct))))))); (intro _; exact rfl); (intro _; exact rfl))
      rintro ⟨xi, xe, xdv, xdata, xsv, xsubs, xis⟩ hfx
      replace hfx : (EX.er ⟨xi, xe, xdv, xdata, xsv, xsubs, xis⟩, xis) = fR t.er id ext := hfx
      dsimp only
      repeat (first | refine n1 ?_ | refine n2 (fun b _ => ?_) | refine n3 (fun _ _ => ?_) | refine n4 ?_ | refine n5 ?_ | refine WL_nil ?_ | refine W_seq ?_ | refine W_region ?_ | refine n7 ?_ | refine n8 ?_ | refine W_block ?_ | refine W_skip ?_ | refine W_ret ?_ | refine W_exit ?_ | refine WQ_then ?_ | refine WQ_then_ret ?_ | refine WQ_then_exit ?_ | refine WQ_block_normal ?_ | refine WQ_block_ret ?_ | refine WQ_block_exit ?_ | refine n9 ?_)
      obtain ⟨b16, rfl⟩ : ∃ b16, b16 = b := ⟨b, rfl⟩
      refine WL_nilL 5 (WL_addL (bt := 5) (L := []) (v := xdv) xdata rfl (by repeat' (first | exact Pick.head _ _ | apply Pick.tail)) (by repeat' (first | exact Pick.head _ _ | apply Pick.tail)) ?_)
      rw [one_dls xi xe xdv xdata xsv xsubs]
      refine WL_ent (ent_ts1 (id := xi) (ext := xe) (dv := xdv) (data := xdata) (sv := xsv) (subs := xsubs) (by repeat' (first | exact mcs | apply mct)) (by repeat' (first | exact mcs | apply mct))) ?_
      have hrf := rfind_fn tw wv id ext
      rw [htw] at hrf
      (apply WL_effs; exact rfl; exact rfl; exact rfl; apply E_call; exact rfl; (intro _ _; simp); exact hrf; (repeat (first | exact AllE.nil _ | (apply AllE.cons; (focus (first | exact ent_nilBy | exact ent_nilSl | (apply Ent.mem; repeat' (first | exact mcs | apply mct))))))); (intro _; exact rfl); (intro _; exact rfl))
      rintro ⟨yi, ye, ydv, ydata, ysv, ysubs, yis⟩ hfy
      replace hfy : (EX.er ⟨yi, ye, ydv, ydata, ysv, ysubs, yis⟩, yis) = fR t.er id ext := hfy
      dsimp only
      rw [← hfx] at hfy
      injection hfy with hy1 hy2
      replace hy2 : yis = xis := hy2
      subst hy2
      replace hy1 : (one_ yi ye ydv ydata ysv ysubs).er = (one_ xi xe xdv xdata xsv xsubs).er := hy1
      refine WL_ent (ent_tf1 (id := yi) (ext := ye) (dv := ydv) (data := ydata) (sv := ysv) (subs := ysubs) (by repeat' (first | exact mcs | apply mct)) (by repeat' (first | exact mcs | apply mct)) (by repeat' (first | exact mcs | apply mct))) ?_
      repeat (first | refine n1 ?_ | refine n2 (fun b _ => ?_) | refine n3 (fun _ _ => ?_) | refine n4 ?_ | refine n5 ?_ | refine WL_nil ?_ | refine W_seq ?_ | refine W_region ?_ | refine n7 ?_ | refine n8 ?_ | refine W_block ?_ | refine W_skip ?_ | refine W_ret ?_ | refine W_exit ?_ | refine WQ_then ?_ | refine WQ_then_ret ?_ | refine WQ_then_exit ?_ | refine WQ_block_normal ?_ | refine WQ_block_ret ?_ | refine WQ_block_exit ?_ | refine n9 ?_)
      obtain ⟨b18, rfl⟩ : ∃ b18, b18 = b := ⟨b, rfl⟩
      (apply WL_effs; exact rfl; exact rfl; exact rfl; apply E_call; exact rfl; (intro _ _; simp); exact remove_fn t v id ext hs1.md; (repeat (first | exact AllE.nil _ | (apply AllE.cons; (focus (first | exact ent_nilBy | exact ent_nilSl | (apply Ent.mem; repeat' (first | exact mcs | apply mct))))))); (intro _; exact rfl); (intro _; exact rfl))
      rintro ⟨r, u⟩ hu
      replace hu : u.er = rmF t.er id ext := hu
      dsimp only
      repeat (first | refine n1 ?_ | refine n2 (fun b _ => ?_) | refine n3 (fun _ _ => ?_) | refine n4 ?_ | refine n5 ?_ | refine WL_nil ?_ | refine W_seq ?_ | refine W_region ?_ | refine n7 ?_ | refine n8 ?_ | refine W_block ?_ | refine W_skip ?_ | refine W_ret ?_ | refine W_exit ?_ | refine WQ_then ?_ | refine WQ_then_ret ?_ | refine WQ_then_exit ?_ | refine WQ_block_normal ?_ | refine WQ_block_ret ?_ | refine WQ_block_exit ?_ | refine n9 ?_)
      (apply WL_effs; exact rfl; exact rfl; exact rfl; apply E_call; exact rfl; (intro _ _; simp); (exact twin_fn (t.size + 1) t v (Nat.lt_succ_self _) hs1.md); (repeat (first | exact AllE.nil _ | (apply AllE.cons; (focus (first | exact ent_nilBy | exact ent_nilSl | (apply Ent.mem; repeat' (first | exact mcs | apply mct))))))); (intro _; exact rfl); (intro _; exact rfl))
      rintro ⟨o, tt⟩ htt
      replace htt : tt.er = t.er := htt
      dsimp only
      iterate 3 (first | refine n1 ?_ | refine n2 (fun b _ => ?_) | refine n3 (fun _ _ => ?_) | refine n4 ?_ | refine n5 ?_ | refine WL_nil ?_ | refine W_seq ?_ | refine W_region ?_ | refine n7 ?_ | refine n8 ?_ | refine W_block ?_ | refine W_skip ?_ | refine W_ret ?_ | refine W_exit ?_ | refine WQ_then ?_ | refine WQ_then_ret ?_ | refine WQ_then_exit ?_ | refine WQ_block_normal ?_ | refine WQ_block_ret ?_ | refine WQ_block_exit ?_ | refine n9 ?_)
      ((apply W_cutK (X := Unit) [22] [] (fun _ => True) (fun _ => [(22, .bool true)]) (fun _ => []) (fun _ => [])); exact rfl; exact rfl; (intro _; exact rfl); (intro _; exact rfl); (intro _; exact rfl))
      · have hck := check_fn t v hs1
        have hrk := rcheck_fn tw wv hsw
        rw [htw] at hrk
        have hb1 := same_fn (t.size + 1) t m v w (Nat.lt_succ_self _)
        have hb2 := rsame_fn (tw.size + 1) tw m wv w (Nat.lt_succ_self _)
        have hxy := rsame_fn ((one_ xi xe xdv xdata xsv xsubs).size + 1) (one_ xi xe xdv xdata xsv xsubs) (one_ yi ye ydv ydata ysv ysubs)
        have htw2 := rsame_fn (tt.size + 1) tt tw o wv (Nat.lt_succ_self _)
        have htl := same_fn (tt.size + 1) tt t o v (Nat.lt_succ_self _)
        have hrm := rremove_fn tw wv id ext hsw.md
        rw [htw] at hb2 hrm
        rw [decide_eq_true (show tt.er = tw.er by rw [htt, htw])] at htw2
        rw [decide_eq_true htt] at htl
        rw [decide_eq_true hy1.symm] at hxy
        have fin : ∃ c : Bool, decide (t.er = m.er) = c := ⟨_, rfl⟩
        obtain ⟨c, hc⟩ := fin
        rw [hc] at hb1 hb2
        cases c
        all_goals cases yis
        all_goals
          repeat (first | refine n1 ?_ | refine n2 (fun b _ => ?_) | refine n3 (fun _ _ => ?_) | refine n4 ?_ | refine n5 ?_ | refine n6 (hck) ?_ | refine n6 (hrk) ?_ | refine n6v (hck) ?_ | refine n6v (hrk) ?_ | refine WL_nil ?_ | refine W_seq ?_ | refine W_region ?_ | refine n7 ?_ | refine n8 ?_ | refine W_block ?_ | refine W_skip ?_ | refine W_ret ?_ | refine W_exit ?_ | refine WQ_then ?_ | refine WQ_then_ret ?_ | refine WQ_then_exit ?_ | refine WQ_block_normal ?_ | refine WQ_block_ret ?_ | refine WQ_block_exit ?_ | refine n9 ?_)
          (apply WL_effs; exact rfl; exact rfl; exact rfl; (apply E_buildSlice; exact rfl; (focus (repeat (first | apply SeqE.nil | (apply SeqE.cons; exact rfl; (focus (first | (apply CellsE.lit; exact rfl) | (apply CellsE.one; (first | (apply OneC.lit; exact rfl) | (apply OneC.by_; (repeat' (first | exact mcs | apply mct)); done) | (apply OneC.sl; (repeat' (first | exact mcs | apply mct)); done) | (apply OneC.rw; (repeat' (first | exact mcs | apply mct)); done) | (apply OneC.row; (repeat' (first | exact Pick.head _ _ | apply Pick.tail))))))); exact rfl) | exact rfl))); exact rfl; (first | (intro _; exact (rfl : _ = Result.ok 1 _)) | (intro _; exact (rfl : _ = Result.ok 2 _)) | (intro _; exact (rfl : _ = Result.ok 3 _)) | (intro _; exact (rfl : _ = Result.ok 4 _)) | (intro _; exact (rfl : _ = Result.ok 5 _)) | (intro _; exact (rfl : _ = Result.ok 6 _)) | (intro _; exact (rfl : _ = Result.ok 7 _)) | (intro _; exact (rfl : _ = Result.ok 8 _)) | (intro _; exact (rfl : _ = Result.ok 13 _)) | (intro _; exact (rfl : _ = Result.ok 14 _)) | (intro _; exact (rfl : _ = Result.ok 26 _)) | (intro _; exact (rfl : _ = Result.ok 40 _)) | (intro _; exact (rfl : _ = Result.ok 41 _)) | (intro _; exact (rfl : _ = Result.ok 42 _)) | (intro _; exact (rfl : _ = Result.ok 43 _)) | (intro _; exact (rfl : _ = Result.ok 44 _)) | (intro _; exact (rfl : _ = Result.ok 45 _)) | (intro _; exact (rfl : _ = Result.ok 46 _))); (intro _; exact rfl); exact rfl; exact Nat.le_of_ble_eq_true rfl; exact Nat.le_of_ble_eq_true rfl); skip)
          intro q1 _
          repeat (first | refine n1 ?_ | refine n2 (fun b _ => ?_) | refine n3 (fun _ _ => ?_) | refine n4 ?_ | refine n5 ?_ | refine WL_nil ?_ | refine W_seq ?_ | refine W_region ?_ | refine n7 ?_ | refine n8 ?_ | refine W_block ?_ | refine W_skip ?_ | refine W_ret ?_ | refine W_exit ?_ | refine WQ_then ?_ | refine WQ_then_ret ?_ | refine WQ_then_exit ?_ | refine WQ_block_normal ?_ | refine WQ_block_ret ?_ | refine WQ_block_exit ?_ | refine n9 ?_)
          (apply WL_effs; exact rfl; exact rfl; exact rfl; (apply E_buildSlice; exact rfl; (focus (repeat (first | apply SeqE.nil | (apply SeqE.cons; exact rfl; (focus (first | (apply CellsE.lit; exact rfl) | (apply CellsE.one; (first | (apply OneC.lit; exact rfl) | (apply OneC.by_; (repeat' (first | exact mcs | apply mct)); done) | (apply OneC.sl; (repeat' (first | exact mcs | apply mct)); done) | (apply OneC.rw; (repeat' (first | exact mcs | apply mct)); done) | (apply OneC.row; (repeat' (first | exact Pick.head _ _ | apply Pick.tail))))))); exact rfl) | exact rfl))); exact rfl; (first | (intro _; exact (rfl : _ = Result.ok 1 _)) | (intro _; exact (rfl : _ = Result.ok 2 _)) | (intro _; exact (rfl : _ = Result.ok 3 _)) | (intro _; exact (rfl : _ = Result.ok 4 _)) | (intro _; exact (rfl : _ = Result.ok 5 _)) | (intro _; exact (rfl : _ = Result.ok 6 _)) | (intro _; exact (rfl : _ = Result.ok 7 _)) | (intro _; exact (rfl : _ = Result.ok 8 _)) | (intro _; exact (rfl : _ = Result.ok 13 _)) | (intro _; exact (rfl : _ = Result.ok 14 _)) | (intro _; exact (rfl : _ = Result.ok 26 _)) | (intro _; exact (rfl : _ = Result.ok 40 _)) | (intro _; exact (rfl : _ = Result.ok 41 _)) | (intro _; exact (rfl : _ = Result.ok 42 _)) | (intro _; exact (rfl : _ = Result.ok 43 _)) | (intro _; exact (rfl : _ = Result.ok 44 _)) | (intro _; exact (rfl : _ = Result.ok 45 _)) | (intro _; exact (rfl : _ = Result.ok 46 _))); (intro _; exact rfl); exact rfl; exact Nat.le_of_ble_eq_true rfl; exact Nat.le_of_ble_eq_true rfl); skip)
          intro q2 _
          refine WL_letgo (v := q2) (by repeat' (first | exact Pick.head _ _ | apply Pick.tail)) ?_
          refine WL_ent (ent_slT (v := q2) (t := one_ yi ye ydv ydata ysv ysubs) (by repeat' (first | exact mcs | apply mct))) ?_
          refine WL_runs rfl rfl rfl (R_callB (Γb := [.row q1 31 4 (one_ xi xe xdv xdata xsv xsubs).len (one_ xi xe xdv xdata xsv xsubs).cells, pk (rowsL 5 (one_ xi xe xdv xdata xsv xsubs).dls)]) rfl (by intro _ _; simp) (hxy q1 q2 (Nat.lt_succ_self _)) (perm2 (by repeat' (first | exact Pick.head _ _ | apply Pick.tail)) (by repeat' (first | exact Pick.head _ _ | apply Pick.tail))) (Bor.sub (Bor.both (by repeat' (first | exact mcs | apply mct))) (AllIn.cons (by repeat' (first | exact mcs | apply mct)) (AllIn.cons (by repeat' (first | exact mcs | apply mct)) (AllIn.cons (by repeat' (first | exact mcs | apply mct)) (AllIn.cons (by repeat' (first | exact mcs | apply mct)) (AllIn.nil _))))))) ?_
          repeat (first | refine n1 ?_ | refine n2 (fun b _ => ?_) | refine n3 (fun _ _ => ?_) | refine n4 ?_ | refine n5 ?_ | refine WL_nil ?_ | refine W_seq ?_ | refine W_region ?_ | refine n7 ?_ | refine n8 ?_ | refine W_block ?_ | refine W_skip ?_ | refine W_ret ?_ | refine W_exit ?_ | refine WQ_then ?_ | refine WQ_then_ret ?_ | refine WQ_then_exit ?_ | refine WQ_block_normal ?_ | refine WQ_block_ret ?_ | refine WQ_block_exit ?_ | refine n9 ?_)
          (apply WL_effs; exact rfl; exact rfl; exact rfl; apply E_call; exact rfl; (intro _ _; simp); exact hrm; (repeat (first | exact AllE.nil _ | (apply AllE.cons; (focus (first | exact ent_nilBy | exact ent_nilSl | (apply Ent.mem; repeat' (first | exact mcs | apply mct))))))); (intro _; exact rfl); (intro _; exact rfl))
          rintro ⟨rr, tr⟩ htr
          replace htr : tr.er = rmF t.er id ext := htr
          dsimp only
          have hrr := rsame_fn (u.size + 1) u tr r rr (Nat.lt_succ_self _)
          rw [decide_eq_true (show u.er = tr.er by rw [hu, htr])] at hrr
          refine WL_runs rfl rfl rfl (R_callB (Γb := [.row r 31 4 u.len u.cells, pk (rowsL 5 u.dls)]) rfl (by intro _ _; simp) hrr (perm2 (by repeat' (first | exact Pick.head _ _ | apply Pick.tail)) (by repeat' (first | exact Pick.head _ _ | apply Pick.tail))) (Bor.sub (Bor.both (by repeat' (first | exact mcs | apply mct))) (AllIn.cons (by repeat' (first | exact mcs | apply mct)) (AllIn.cons (by repeat' (first | exact mcs | apply mct)) (AllIn.cons (by repeat' (first | exact mcs | apply mct)) (AllIn.cons (by repeat' (first | exact mcs | apply mct)) (AllIn.nil _))))))) ?_
          repeat (first | refine n1 ?_ | refine n2 (fun b _ => ?_) | refine n3 (fun _ _ => ?_) | refine n4 ?_ | refine n5 ?_ | refine WL_nil ?_ | refine W_seq ?_ | refine W_region ?_ | refine n7 ?_ | refine n8 ?_ | refine W_block ?_ | refine W_skip ?_ | refine W_ret ?_ | refine W_exit ?_ | refine WQ_then ?_ | refine WQ_then_ret ?_ | refine WQ_then_exit ?_ | refine WQ_block_normal ?_ | refine WQ_block_ret ?_ | refine WQ_block_exit ?_ | refine n9 ?_)
          refine WL_runs rfl rfl rfl (R_callB (Γb := [.row o 31 4 tt.len tt.cells, pk (rowsL 5 tt.dls)]) rfl (by intro _ _; simp) htw2 (perm2 (by repeat' (first | exact Pick.head _ _ | apply Pick.tail)) (by repeat' (first | exact Pick.head _ _ | apply Pick.tail))) (Bor.sub (Bor.both (by repeat' (first | exact mcs | apply mct))) (AllIn.cons (by repeat' (first | exact mcs | apply mct)) (AllIn.cons (by repeat' (first | exact mcs | apply mct)) (AllIn.cons (by repeat' (first | exact mcs | apply mct)) (AllIn.cons (by repeat' (first | exact mcs | apply mct)) (AllIn.nil _))))))) ?_
          repeat (first | refine n1 ?_ | refine n2 (fun b _ => ?_) | refine n3 (fun _ _ => ?_) | refine n4 ?_ | refine n5 ?_ | refine n6 (hb1) ?_ | refine n6 (hb2) ?_ | refine n6v (hb1) ?_ | refine n6v (hb2) ?_ | refine WL_nil ?_ | refine W_seq ?_ | refine W_region ?_ | refine n7 ?_ | refine n8 ?_ | refine W_block ?_ | refine W_skip ?_ | refine W_ret ?_ | refine W_exit ?_ | refine WQ_then ?_ | refine WQ_then_ret ?_ | refine WQ_then_exit ?_ | refine WQ_block_normal ?_ | refine WQ_block_ret ?_ | refine WQ_block_exit ?_ | refine n9 ?_)
          refine WL_runs rfl rfl rfl (R_callB (Γb := [.row o 31 4 tt.len tt.cells, pk (rowsL 5 tt.dls)]) rfl (by intro _ _; simp) htl (perm2 (by repeat' (first | exact Pick.head _ _ | apply Pick.tail)) (by repeat' (first | exact Pick.head _ _ | apply Pick.tail))) (Bor.sub (Bor.both (by repeat' (first | exact mcs | apply mct))) (AllIn.cons (by repeat' (first | exact mcs | apply mct)) (AllIn.cons (by repeat' (first | exact mcs | apply mct)) (AllIn.cons (by repeat' (first | exact mcs | apply mct)) (AllIn.cons (by repeat' (first | exact mcs | apply mct)) (AllIn.nil _))))))) ?_
          repeat (first | refine n1 ?_ | refine n2 (fun b _ => ?_) | refine n3 (fun _ _ => ?_) | refine n4 ?_ | refine n5 ?_ | refine WL_nil ?_ | refine W_seq ?_ | refine W_region ?_ | refine n7 ?_ | refine n8 ?_ | refine W_block ?_ | refine W_skip ?_ | refine W_ret ?_ | refine W_exit ?_ | refine WQ_then ?_ | refine WQ_then_ret ?_ | refine WQ_then_exit ?_ | refine WQ_block_normal ?_ | refine WQ_block_ret ?_ | refine WQ_block_exit ?_ | refine n9 ?_)
          ((apply WQ_meet (())); (focus (first | trivial | omega | assumption | exact ⟨by omega, by omega⟩ | (simp; done))); (focus (repeat (first | exact FrIn.nil _ | (apply FrIn.cons; exact rfl; (first | exact rfl | (congr 1; omega) | (simp; done)))))); (focus (repeat (first | exact SubO.nil _ | (apply SubO.cons; (focus (repeat' (first | exact Pick.head _ _ | apply Pick.tail))))))); (focus (repeat (first | exact AllE.nil _ | (apply AllE.cons; (focus (first | exact ent_nilBy | exact ent_nilSl | (apply Ent.mem; repeat' (first | exact mcs | apply mct)))))))))
      · intro _ _
        repeat (first | refine n1 ?_ | refine n2 (fun b _ => ?_) | refine n3 (fun _ _ => ?_) | refine n4 ?_ | refine n5 ?_ | refine WL_nil ?_ | refine W_seq ?_ | refine W_region ?_ | refine n7 ?_ | refine n8 ?_ | refine W_block ?_ | refine W_skip ?_ | refine W_ret ?_ | refine W_exit ?_ | refine WQ_then ?_ | refine WQ_then_ret ?_ | refine WQ_then_exit ?_ | refine WQ_block_normal ?_ | refine WQ_block_ret ?_ | refine WQ_block_exit ?_ | refine n9 ?_)
        refine W_pure (row_le (v := o) (n := tt.len) (by repeat' (first | exact Pick.head _ _ | apply Pick.tail))) fun hle => ?_
        have htl0 : tt.cells.length = tt.len * 4 := T.cells_length tt
        ((apply W_loopK (X := Nat × List Value × List (Value × List UInt8)) [23, 24] [0, 1] (fun x => x.1 ≤ tt.len ∧ x.2.1.length = tt.len * 4 ∧ (∀ i, i < tt.len → x.2.1[i * 4 + 2]? = tt.cells[i * 4 + 2]?) ∧ x.2.2.map Prod.fst = tt.dls.map Prod.fst) (fun x => [(23, .int .i64 (x.1 : Int))]) (fun x => [.row o 31 4 tt.len x.2.1, pk (rowsL 5 x.2.2)]) (fun _ => []) (fun x => tt.len - x.1) ((0, tt.cells, tt.dls))); (focus exact ⟨Nat.zero_le _, htl0, fun _ _ => rfl, rfl⟩); exact rfl; exact rfl; (intro _; exact rfl); (intro _; exact rfl); (intro _; exact rfl); (focus (repeat (first | exact FrIn.nil _ | (apply FrIn.cons; exact rfl; (first | exact rfl | (congr 1; omega) | (simp; done)))))); (focus (repeat (first | exact SubO.nil _ | (apply SubO.cons; (focus (repeat' (first | exact Pick.head _ _ | apply Pick.tail))))))); (focus (repeat (first | exact AllE.nil _ | (apply AllE.cons; (focus (first | exact ent_nilBy | exact ent_nilSl | (apply Ent.mem; repeat' (first | exact mcs | apply mct)))))))); intro x hx)
        obtain ⟨k, L, LL⟩ := x
        obtain ⟨i1, i2, i3, i4⟩ := hx
        replace i1 : k ≤ tt.len := i1
        replace i2 : L.length = tt.len * 4 := i2
        replace i3 : ∀ i, i < tt.len → L[i * 4 + 2]? = tt.cells[i * 4 + 2]? := i3
        replace i4 : LL.map Prod.fst = tt.dls.map Prod.fst := i4
        dsimp only
        by_cases c1 : k < tt.len
        · obtain ⟨a, b0, dv, data, sv, subs, next, e1⟩ := T.get c1
          obtain ⟨bs, hd⟩ := dls_at i4 e1
          have hil : k < LL.length := (List.getElem?_eq_some_iff.1 hd).1
          repeat (first | refine n1 ?_ | refine n2 (fun b _ => ?_) | refine n3 (fun _ _ => ?_) | refine n4 ?_ | refine n5 ?_ | refine WL_nil ?_ | refine W_seq ?_ | refine W_region ?_ | refine n7 ?_ | refine n8 ?_ | refine W_block ?_ | refine W_skip ?_ | refine W_ret ?_ | refine W_exit ?_ | refine WQ_then ?_ | refine WQ_then_ret ?_ | refine WQ_then_exit ?_ | refine WQ_block_normal ?_ | refine WQ_block_ret ?_ | refine WQ_block_exit ?_ | refine n9 ?_)
          refine WL_do rfl rfl (E_storeRowK (us := [.int .u8 77]) rfl rfl (by repeat' (first | exact Pick.head _ _ | apply Pick.tail)) (CellsE.lit rfl) (Ones.cons (OneC.lit rfl) Ones.nil) (by intro _; rfl) c1 rfl (putN_one (k * 4 + 0) _ L (by omega))) ?_
          intro _ _
          have j2 : (L.set (k * 4 + 0) (.int .u8 77)).length = tt.len * 4 := by rw [List.length_set, i2]
          have j3 : ∀ i, i < tt.len → (L.set (k * 4 + 0) (.int .u8 77))[i * 4 + 2]? = tt.cells[i * 4 + 2]? := fun i hi => by
            rw [List.getElem?_set_ne (by omega)]
            exact i3 i hi
          have g2 : (L.set (k * 4 + 0) (.int .u8 77))[k * 4 + 2]? = some dv := by rw [j3 k c1]; exact cells2_at e1 c1
          generalize L.set (k * 4 + 0) (.int .u8 77) = L2 at j2 j3 g2
          repeat (first | refine n1 ?_ | refine n2 (fun b _ => ?_) | refine n3 (fun _ _ => ?_) | refine n4 ?_ | refine n5 ?_ | refine WL_nil ?_ | refine W_seq ?_ | refine W_region ?_ | refine n7 ?_ | refine n8 ?_ | refine W_block ?_ | refine W_skip ?_ | refine W_ret ?_ | refine W_exit ?_ | refine WQ_then ?_ | refine WQ_then_ret ?_ | refine WQ_then_exit ?_ | refine WQ_block_normal ?_ | refine WQ_block_ret ?_ | refine WQ_block_exit ?_ | refine n9 ?_)
          refine W_takeL (bt := 5) hd (by repeat' (first | exact Pick.head _ _ | apply Pick.tail)) ?_
          refine W_pure (row_le (v := dv) (n := bs.length) (by repeat' (first | exact Pick.head _ _ | apply Pick.tail))) fun hbl => ?_
          ((apply W_loopK (X := Nat × List UInt8) [24] [0] (fun x => x.1 ≤ bs.length ∧ x.2.length = bs.length) (fun x => [(24, .int .i64 (x.1 : Int))]) (fun x => [.row dv 5 1 bs.length (x.2.map bcell)]) (fun _ => []) (fun x => bs.length - x.1) ((0, bs))); (focus exact ⟨Nat.zero_le _, rfl⟩); exact rfl; exact rfl; (intro _; exact rfl); (intro _; exact rfl); (intro _; exact rfl); (focus (repeat (first | exact FrIn.nil _ | (apply FrIn.cons; exact rfl; (first | exact rfl | (congr 1; omega) | (simp; done)))))); (focus (repeat (first | exact SubO.nil _ | (apply SubO.cons; (focus (repeat' (first | exact Pick.head _ _ | apply Pick.tail))))))); (focus (repeat (first | exact AllE.nil _ | (apply AllE.cons; (focus (first | exact ent_nilBy | exact ent_nilSl | (apply Ent.mem; repeat' (first | exact mcs | apply mct)))))))); intro x hx)
          obtain ⟨j, ys⟩ := x
          obtain ⟨hj, hy⟩ := hx
          replace hj : j ≤ bs.length := hj
          replace hy : ys.length = bs.length := hy
          dsimp only
          by_cases c2 : j < bs.length
          · repeat (first | refine n1 ?_ | refine n2 (fun b _ => ?_) | refine n3 (fun _ _ => ?_) | refine n4 ?_ | refine n5 ?_ | refine WL_nil ?_ | refine W_seq ?_ | refine W_region ?_ | refine n7 ?_ | refine n8 ?_ | refine W_block ?_ | refine W_skip ?_ | refine W_ret ?_ | refine W_exit ?_ | refine WQ_then ?_ | refine WQ_then_ret ?_ | refine WQ_then_exit ?_ | refine WQ_block_normal ?_ | refine WQ_block_ret ?_ | refine WQ_block_exit ?_ | refine n9 ?_)
            refine WL_do rfl rfl (E_storeRow rfl rfl (by repeat' (first | exact Pick.head _ _ | apply Pick.tail)) rfl (by intro _; exact rfl) c2) ?_
            intro _ _
            rw [show (ys.map bcell).set j (.int .u8 77) = (ys.set j 77).map bcell from cell_set ys j 77]
            repeat (first | refine n1 ?_ | refine n2 (fun b _ => ?_) | refine n3 (fun _ _ => ?_) | refine n4 ?_ | refine n5 ?_ | refine WL_nil ?_ | refine W_seq ?_ | refine W_region ?_ | refine n7 ?_ | refine n8 ?_ | refine W_block ?_ | refine W_skip ?_ | refine W_ret ?_ | refine W_exit ?_ | refine WQ_then ?_ | refine WQ_then_ret ?_ | refine WQ_then_exit ?_ | refine WQ_block_normal ?_ | refine WQ_block_ret ?_ | refine WQ_block_exit ?_ | refine n9 ?_)
            have hn : j + 1 ≤ bs.length ∧ (ys.set j 77).length = bs.length := ⟨c2, (List.length_set ..).trans hy⟩
            ((apply WQ_again ((j + 1, ys.set j 77))); (focus exact hn); (focus (exact (show bs.length - (j + 1) < bs.length - j by omega))); (focus (repeat (first | exact FrIn.nil _ | (apply FrIn.cons; exact rfl; (first | exact rfl | (congr 1; omega) | (simp; done)))))); (focus (repeat (first | exact SubO.nil _ | (apply SubO.cons; (focus (repeat' (first | exact Pick.head _ _ | apply Pick.tail))))))); (focus (repeat (first | exact AllE.nil _ | (apply AllE.cons; (focus (first | exact ent_nilBy | exact ent_nilSl | (apply Ent.mem; repeat' (first | exact mcs | apply mct)))))))))
          · repeat (first | refine n1 ?_ | refine n2 (fun b _ => ?_) | refine n3 (fun _ _ => ?_) | refine n4 ?_ | refine n5 ?_ | refine WL_nil ?_ | refine W_seq ?_ | refine W_region ?_ | refine n7 ?_ | refine n8 ?_ | refine W_block ?_ | refine W_skip ?_ | refine W_ret ?_ | refine W_exit ?_ | refine WQ_then ?_ | refine WQ_then_ret ?_ | refine WQ_then_exit ?_ | refine WQ_block_normal ?_ | refine WQ_block_ret ?_ | refine WQ_block_exit ?_ | refine n9 ?_)
            refine WQ_putL (bt := 5) (L := LL) (i := k) (v := dv) ys rfl (by repeat' (first | exact Pick.head _ _ | apply Pick.tail)) (by repeat' (first | exact Pick.head _ _ | apply Pick.tail)) hil ?_
            have hn : k + 1 ≤ tt.len ∧ L2.length = tt.len * 4 ∧ (∀ i, i < tt.len → L2[i * 4 + 2]? = tt.cells[i * 4 + 2]?) ∧ (LL.set k (dv, ys)).map Prod.fst = tt.dls.map Prod.fst := ⟨c1, j2, j3, (set_same hd).trans i4⟩
            ((apply WQ_again ((k + 1, L2, LL.set k (dv, ys)))); (focus exact hn); (focus (exact (show tt.len - (k + 1) < tt.len - k by omega))); (focus (repeat (first | exact FrIn.nil _ | (apply FrIn.cons; exact rfl; (first | exact rfl | (congr 1; omega) | (simp; done)))))); (focus (repeat (first | exact SubO.nil _ | (apply SubO.cons; (focus (repeat' (first | exact Pick.head _ _ | apply Pick.tail))))))); (focus (repeat (first | exact AllE.nil _ | (apply AllE.cons; (focus (first | exact ent_nilBy | exact ent_nilSl | (apply Ent.mem; repeat' (first | exact mcs | apply mct)))))))))
        · repeat (first | refine n1 ?_ | refine n2 (fun b _ => ?_) | refine n3 (fun _ _ => ?_) | refine n4 ?_ | refine n5 ?_ | refine WL_nil ?_ | refine W_seq ?_ | refine W_region ?_ | refine n7 ?_ | refine n8 ?_ | refine W_block ?_ | refine W_skip ?_ | refine W_ret ?_ | refine W_exit ?_ | refine WQ_then ?_ | refine WQ_then_ret ?_ | refine WQ_then_exit ?_ | refine WQ_block_normal ?_ | refine WQ_block_ret ?_ | refine WQ_block_exit ?_ | refine n9 ?_)
          refine W_takeL (bt := 5) (L := (one_ xi xe xdv xdata xsv xsubs).dls) (i := 0) (p := (xdv, xdata)) rfl (by repeat' (first | exact Pick.head _ _ | apply Pick.tail)) ?_
          refine W_pure (row_le (v := xdv) (n := xdata.length) (by repeat' (first | exact Pick.head _ _ | apply Pick.tail))) fun hxl => ?_
          ((apply W_loopK (X := Nat × List UInt8) [25] [0] (fun x => x.1 ≤ xdata.length ∧ x.2.length = xdata.length) (fun x => [(25, .int .i64 (x.1 : Int))]) (fun x => [.row xdv 5 1 xdata.length (x.2.map bcell)]) (fun _ => []) (fun x => xdata.length - x.1) ((0, xdata))); (focus exact ⟨Nat.zero_le _, rfl⟩); exact rfl; exact rfl; (intro _; exact rfl); (intro _; exact rfl); (intro _; exact rfl); (focus (repeat (first | exact FrIn.nil _ | (apply FrIn.cons; exact rfl; (first | exact rfl | (congr 1; omega) | (simp; done)))))); (focus (repeat (first | exact SubO.nil _ | (apply SubO.cons; (focus (repeat' (first | exact Pick.head _ _ | apply Pick.tail))))))); (focus (repeat (first | exact AllE.nil _ | (apply AllE.cons; (focus (first | exact ent_nilBy | exact ent_nilSl | (apply Ent.mem; repeat' (first | exact mcs | apply mct)))))))); intro x hx)
          obtain ⟨j, ys⟩ := x
          obtain ⟨hj, hy⟩ := hx
          replace hj : j ≤ xdata.length := hj
          replace hy : ys.length = xdata.length := hy
          dsimp only
          by_cases c2 : j < xdata.length
          · repeat (first | refine n1 ?_ | refine n2 (fun b _ => ?_) | refine n3 (fun _ _ => ?_) | refine n4 ?_ | refine n5 ?_ | refine WL_nil ?_ | refine W_seq ?_ | refine W_region ?_ | refine n7 ?_ | refine n8 ?_ | refine W_block ?_ | refine W_skip ?_ | refine W_ret ?_ | refine W_exit ?_ | refine WQ_then ?_ | refine WQ_then_ret ?_ | refine WQ_then_exit ?_ | refine WQ_block_normal ?_ | refine WQ_block_ret ?_ | refine WQ_block_exit ?_ | refine n9 ?_)
            refine WL_do rfl rfl (E_storeRow rfl rfl (by repeat' (first | exact Pick.head _ _ | apply Pick.tail)) rfl (by intro _; exact rfl) c2) ?_
            intro _ _
            rw [show (ys.map bcell).set j (.int .u8 77) = (ys.set j 77).map bcell from cell_set ys j 77]
            repeat (first | refine n1 ?_ | refine n2 (fun b _ => ?_) | refine n3 (fun _ _ => ?_) | refine n4 ?_ | refine n5 ?_ | refine WL_nil ?_ | refine W_seq ?_ | refine W_region ?_ | refine n7 ?_ | refine n8 ?_ | refine W_block ?_ | refine W_skip ?_ | refine W_ret ?_ | refine W_exit ?_ | refine WQ_then ?_ | refine WQ_then_ret ?_ | refine WQ_then_exit ?_ | refine WQ_block_normal ?_ | refine WQ_block_ret ?_ | refine WQ_block_exit ?_ | refine n9 ?_)
            have hn : j + 1 ≤ xdata.length ∧ (ys.set j 77).length = xdata.length := ⟨c2, (List.length_set ..).trans hy⟩
            ((apply WQ_again ((j + 1, ys.set j 77))); (focus exact hn); (focus (exact (show xdata.length - (j + 1) < xdata.length - j by omega))); (focus (repeat (first | exact FrIn.nil _ | (apply FrIn.cons; exact rfl; (first | exact rfl | (congr 1; omega) | (simp; done)))))); (focus (repeat (first | exact SubO.nil _ | (apply SubO.cons; (focus (repeat' (first | exact Pick.head _ _ | apply Pick.tail))))))); (focus (repeat (first | exact AllE.nil _ | (apply AllE.cons; (focus (first | exact ent_nilBy | exact ent_nilSl | (apply Ent.mem; repeat' (first | exact mcs | apply mct)))))))))
          · repeat (first | refine n1 ?_ | refine n2 (fun b _ => ?_) | refine n3 (fun _ _ => ?_) | refine n4 ?_ | refine n5 ?_ | refine WL_nil ?_ | refine W_seq ?_ | refine W_region ?_ | refine n7 ?_ | refine n8 ?_ | refine W_block ?_ | refine W_skip ?_ | refine W_ret ?_ | refine W_exit ?_ | refine WQ_then ?_ | refine WQ_then_ret ?_ | refine WQ_then_exit ?_ | refine WQ_block_normal ?_ | refine WQ_block_ret ?_ | refine WQ_block_exit ?_ | refine n9 ?_)
            refine W_letgo (v := r) (by repeat' (first | exact Pick.head _ _ | apply Pick.tail)) ?_
            refine W_ent (ent_slT (v := r) (t := u) (by repeat' (first | exact mcs | apply mct))) ?_
            refine W_pure (rw_le (v := r) (n := u.len) (by repeat' (first | exact mcs | apply mct))) fun hul => ?_
            ((apply W_loopK (X := Nat × List (Value × List UInt8)) [26, 27] [4] (fun x => x.1 ≤ u.len ∧ x.2.map Prod.fst = u.dls.map Prod.fst) (fun x => [(26, .int .i64 (x.1 : Int))]) (fun x => [pk (rowsL 5 x.2)]) (fun _ => []) (fun x => u.len - x.1) ((0, u.dls))); (focus exact ⟨Nat.zero_le _, rfl⟩); exact rfl; exact rfl; (intro _; exact rfl); (intro _; exact rfl); (intro _; exact rfl); (focus (repeat (first | exact FrIn.nil _ | (apply FrIn.cons; exact rfl; (first | exact rfl | (congr 1; omega) | (simp; done)))))); (focus (repeat (first | exact SubO.nil _ | (apply SubO.cons; (focus (repeat' (first | exact Pick.head _ _ | apply Pick.tail))))))); (focus (repeat (first | exact AllE.nil _ | (apply AllE.cons; (focus (first | exact ent_nilBy | exact ent_nilSl | (apply Ent.mem; repeat' (first | exact mcs | apply mct)))))))); intro x hx)
            obtain ⟨k3, L3⟩ := x
            obtain ⟨i5, i6⟩ := hx
            replace i5 : k3 ≤ u.len := i5
            replace i6 : L3.map Prod.fst = u.dls.map Prod.fst := i6
            dsimp only
            by_cases c3 : k3 < u.len
            · obtain ⟨a, b0, dv, data, sv, subs, next, e1⟩ := T.get c3
              have a1 := T.at_cons e1
              obtain ⟨bs, hd⟩ := dls_at i6 e1
              have hil : k3 < L3.length := (List.getElem?_eq_some_iff.1 hd).1
              repeat (first | refine n1 ?_ | refine n2 (fun b _ => ?_) | refine n3 (fun _ _ => ?_) | refine n4 ?_ | refine n5 ?_ | refine WL_nil ?_ | refine W_seq ?_ | refine W_region ?_ | refine n7 ?_ | refine n8 ?_ | refine W_block ?_ | refine W_skip ?_ | refine W_ret ?_ | refine W_exit ?_ | refine WQ_then ?_ | refine WQ_then_ret ?_ | refine WQ_then_exit ?_ | refine WQ_block_normal ?_ | refine WQ_block_ret ?_ | refine WQ_block_exit ?_ | refine n9 ?_)
              refine W_takeL (bt := 5) hd (by repeat' (first | exact Pick.head _ _ | apply Pick.tail)) ?_
              refine W_pure (row_le (v := dv) (n := bs.length) (by repeat' (first | exact Pick.head _ _ | apply Pick.tail))) fun hbl => ?_
              ((apply W_loopK (X := Nat × List UInt8) [27] [0] (fun x => x.1 ≤ bs.length ∧ x.2.length = bs.length) (fun x => [(27, .int .i64 (x.1 : Int))]) (fun x => [.row dv 5 1 bs.length (x.2.map bcell)]) (fun _ => []) (fun x => bs.length - x.1) ((0, bs))); (focus exact ⟨Nat.zero_le _, rfl⟩); exact rfl; exact rfl; (intro _; exact rfl); (intro _; exact rfl); (intro _; exact rfl); (focus (repeat (first | exact FrIn.nil _ | (apply FrIn.cons; exact rfl; (first | exact rfl | (congr 1; omega) | (simp; done)))))); (focus (repeat (first | exact SubO.nil _ | (apply SubO.cons; (focus (repeat' (first | exact Pick.head _ _ | apply Pick.tail))))))); (focus (repeat (first | exact AllE.nil _ | (apply AllE.cons; (focus (first | exact ent_nilBy | exact ent_nilSl | (apply Ent.mem; repeat' (first | exact mcs | apply mct)))))))); intro x hx)
              obtain ⟨j2, zs⟩ := x
              obtain ⟨hj2, hy2⟩ := hx
              replace hj2 : j2 ≤ bs.length := hj2
              replace hy2 : zs.length = bs.length := hy2
              dsimp only
              by_cases c4 : j2 < bs.length
              · repeat (first | refine n1 ?_ | refine n2 (fun b _ => ?_) | refine n3 (fun _ _ => ?_) | refine n4 ?_ | refine n5 ?_ | refine WL_nil ?_ | refine W_seq ?_ | refine W_region ?_ | refine n7 ?_ | refine n8 ?_ | refine W_block ?_ | refine W_skip ?_ | refine W_ret ?_ | refine W_exit ?_ | refine WQ_then ?_ | refine WQ_then_ret ?_ | refine WQ_then_exit ?_ | refine WQ_block_normal ?_ | refine WQ_block_ret ?_ | refine WQ_block_exit ?_ | refine n9 ?_)
                refine WL_do rfl rfl (E_storeRow rfl rfl (by repeat' (first | exact Pick.head _ _ | apply Pick.tail)) rfl (by intro _; exact rfl) c4) ?_
                intro _ _
                rw [show (zs.map bcell).set j2 (.int .u8 77) = (zs.set j2 77).map bcell from cell_set zs j2 77]
                repeat (first | refine n1 ?_ | refine n2 (fun b _ => ?_) | refine n3 (fun _ _ => ?_) | refine n4 ?_ | refine n5 ?_ | refine WL_nil ?_ | refine W_seq ?_ | refine W_region ?_ | refine n7 ?_ | refine n8 ?_ | refine W_block ?_ | refine W_skip ?_ | refine W_ret ?_ | refine W_exit ?_ | refine WQ_then ?_ | refine WQ_then_ret ?_ | refine WQ_then_exit ?_ | refine WQ_block_normal ?_ | refine WQ_block_ret ?_ | refine WQ_block_exit ?_ | refine n9 ?_)
                have hn : j2 + 1 ≤ bs.length ∧ (zs.set j2 77).length = bs.length := ⟨c4, (List.length_set ..).trans hy2⟩
                ((apply WQ_again ((j2 + 1, zs.set j2 77))); (focus exact hn); (focus (exact (show bs.length - (j2 + 1) < bs.length - j2 by omega))); (focus (repeat (first | exact FrIn.nil _ | (apply FrIn.cons; exact rfl; (first | exact rfl | (congr 1; omega) | (simp; done)))))); (focus (repeat (first | exact SubO.nil _ | (apply SubO.cons; (focus (repeat' (first | exact Pick.head _ _ | apply Pick.tail))))))); (focus (repeat (first | exact AllE.nil _ | (apply AllE.cons; (focus (first | exact ent_nilBy | exact ent_nilSl | (apply Ent.mem; repeat' (first | exact mcs | apply mct)))))))))
              · repeat (first | refine n1 ?_ | refine n2 (fun b _ => ?_) | refine n3 (fun _ _ => ?_) | refine n4 ?_ | refine n5 ?_ | refine WL_nil ?_ | refine W_seq ?_ | refine W_region ?_ | refine n7 ?_ | refine n8 ?_ | refine W_block ?_ | refine W_skip ?_ | refine W_ret ?_ | refine W_exit ?_ | refine WQ_then ?_ | refine WQ_then_ret ?_ | refine WQ_then_exit ?_ | refine WQ_block_normal ?_ | refine WQ_block_ret ?_ | refine WQ_block_exit ?_ | refine n9 ?_)
                refine WQ_putL (bt := 5) (L := L3) (i := k3) (v := dv) zs rfl (by repeat' (first | exact Pick.head _ _ | apply Pick.tail)) (by repeat' (first | exact Pick.head _ _ | apply Pick.tail)) hil ?_
                have hn : k3 + 1 ≤ u.len ∧ (L3.set k3 (dv, zs)).map Prod.fst = u.dls.map Prod.fst := ⟨c3, (set_same hd).trans i6⟩
                ((apply WQ_again ((k3 + 1, L3.set k3 (dv, zs)))); (focus exact hn); (focus (exact (show u.len - (k3 + 1) < u.len - k3 by omega))); (focus (repeat (first | exact FrIn.nil _ | (apply FrIn.cons; exact rfl; (first | exact rfl | (congr 1; omega) | (simp; done)))))); (focus (repeat (first | exact SubO.nil _ | (apply SubO.cons; (focus (repeat' (first | exact Pick.head _ _ | apply Pick.tail))))))); (focus (repeat (first | exact AllE.nil _ | (apply AllE.cons; (focus (first | exact ent_nilBy | exact ent_nilSl | (apply Ent.mem; repeat' (first | exact mcs | apply mct)))))))))
            · have hfin := rsame_fn (t.size + 1) t tw v wv (Nat.lt_succ_self _)
              rw [decide_eq_true htw.symm] at hfin
              repeat (first | refine n1 ?_ | refine n2 (fun b _ => ?_) | refine n3 (fun _ _ => ?_) | refine n4 ?_ | refine n5 ?_ | refine n6 (hfin) ?_ | refine n6v (hfin) ?_ | refine WL_nil ?_ | refine W_seq ?_ | refine W_region ?_ | refine n7 ?_ | refine n8 ?_ | refine W_block ?_ | refine W_skip ?_ | refine W_ret ?_ | refine W_exit ?_ | refine WQ_then ?_ | refine WQ_then_ret ?_ | refine WQ_then_exit ?_ | refine WQ_block_normal ?_ | refine WQ_block_ret ?_ | refine WQ_block_exit ?_ | refine n9 ?_)
              ((apply ret1 Try.results8 ( ())); (focus (first | trivial | assumption | omega)); (focus (first | exact RV_tmp rfl | (apply RV_cellN; exact rfl; (repeat' (first | exact Pick.head _ _ | apply Pick.tail)); (intro _; exact rfl); (intro _; exact rfl); exact rfl) | (apply RV_cell1; exact rfl; (repeat' (first | exact Pick.head _ _ | apply Pick.tail)); (intro _; exact rfl); exact rfl)));  (focus (first | exact rfl | (simp; done))); (focus (repeat (first | exact SubO.nil _ | (apply SubO.cons; (focus (repeat' (first | exact Pick.head _ _ | apply Pick.tail))))))); (focus (repeat (first | exact AllE.nil _ | (apply AllE.cons; (focus (first | exact ent_nilBy | exact ent_nilSl | (apply Ent.mem; repeat' (first | exact mcs | apply mct)))))))))
end Go.Proofs.Ytahkcidnmdcaaaa
