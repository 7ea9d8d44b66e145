/-
  Bytes of headers: the reference's.
-/
import Derived.Test.YtbdcpahifcbcfaaVGf
import Derived.Test.YtbdcpahifcbcfaaXb
import Derived.Test.YtbdcpahifcbcfaaXc
namespace Go.Proofs.Ytbdcpahifcbcfaa
open Go Go.RowKit Go.Hs
theorem traf_eq {h : Hd} (hk : knB h.kind h.sub = true) : qosB h = trafB h.kind h.sub := by
  unfold qosB trafB
  by_cases k2 : h.kind.toNat = 2
  · rw [decide_eq_true k2, Bool.true_and, Bool.true_and]
    rcases kn_sub hk k2 with e | e | e | e <;> rw [e] <;> rfl
  · rw [decide_eq_false k2]; rfl
theorem rad_ad {h : Hd} (hv : hdB h = true) : radN h = adN h := by
  obtain ⟨hk, hz, _⟩ := hd_parts hv
  have h1 : (!decide (h.kind.toNat = 2) && h.toDs) = false := congrArg Hd.toDs hz
  unfold radN adN befN fourB
  by_cases k1 : h.kind.toNat = 1
  · rw [decide_eq_false (show ¬ h.kind.toNat = 2 by omega), Bool.false_and]
    have : ctlB h = true := decide_eq_true k1
    rw [this]
    rfl
  · have : ctlB h = false := decide_eq_false k1
    have e2 : ctsB h = false := decide_eq_false (fun e => k1 e.1)
    rw [this, e2]
    by_cases k2 : h.kind.toNat = 2
    · rw [decide_eq_true k2, Bool.true_and]
      cases h.toDs && h.fromDs <;> rfl
    · rw [decide_eq_false k2] at h1 ⊢
      have h1 : h.toDs = false := h1
      rw [h1]
      rfl
theorem ctl_prt {h : Hd} (hk : knB h.kind h.sub = true) : decide (h.kind.toNat = 1) = !prtB h.kind := by
  have := (kn_small hk).1
  unfold prtB
  by_cases k1 : h.kind.toNat = 1
  · rw [decide_eq_true k1, decide_eq_false (by omega)]; rfl
  · rw [decide_eq_false k1, decide_eq_true (by omega)]; rfl
theorem adr3 (h : Hd) {x : Nat} (hx : x < 3) : [h.a1, h.a2, h.a3].getD x zA6 = adrI h x := by
  have : x = 0 ∨ x = 1 ∨ x = 2 := by omega
  rcases this with rfl | rfl | rfl <;> rfl
theorem a6_len6 (a : A6) : a.cells.length = 6 := rfl
theorem a6_take6 (a : A6) : a.cells.take 6 = a.bytes.map bcell := rfl
attribute [local irreducible] WL W WQ PL Runs Effs AllE Ent SubO FrIn Pick OneC Ones CellsE PartsE SeqE UZ By Sl Pt Ct

set_option maxRecDepth 100000 in
theorem flag_fn (b : Bool) (n : Nat) : CtD Try.prog 57 [.bool b, .int .i64 (n : Int)] [] (.int .i64 (bN b n : Int)) := by
  cases b
  · refine Ct_intro Try.func57 rfl Try.ntmps57 (by simp) _ rfl (fun w0 O0 => ?_)
    repeat (first | refine n1 ?_ | refine n2 (fun b _ => ?_) | refine n3 (fun _ _ => ?_) | refine n4 ?_ | refine n5 ?_ | refine WL_nil ?_ | refine W_seq ?_ | refine W_region ?_ | refine n7 ?_ | refine n8 ?_ | refine W_block ?_ | refine W_skip ?_ | refine W_ret ?_ | refine W_exit ?_ | refine WQ_then ?_ | refine WQ_then_ret ?_ | refine WQ_then_exit ?_ | refine WQ_block_normal ?_ | refine WQ_block_ret ?_ | refine WQ_block_exit ?_ | refine n9 ?_)
    ((apply ret1 Try.results57 ( ())); (focus (first | trivial | assumption | omega)); (focus (first | exact RV_tmp rfl | (apply RV_cellN; exact rfl; (repeat' (first | exact Pick.head _ _ | apply Pick.tail)); (intro _; exact rfl); (intro _; exact rfl); exact rfl) | (apply RV_cell1; exact rfl; (repeat' (first | exact Pick.head _ _ | apply Pick.tail)); (intro _; exact rfl); exact rfl)));  (focus (first | exact rfl | (simp; done))); (focus (repeat (first | exact SubO.nil _ | (apply SubO.cons; (focus (repeat' (first | exact Pick.head _ _ | apply Pick.tail))))))); (focus (repeat (first | exact AllE.nil _ | (apply AllE.cons; (focus (first | exact ent_nilBy | exact ent_nilSl | (apply Ent.mem; repeat' (first | exact mcs | apply mct)))))))))
  · refine Ct_intro Try.func57 rfl Try.ntmps57 (by simp) _ rfl (fun w0 O0 => ?_)
    repeat (first | refine n1 ?_ | refine n2 (fun b _ => ?_) | refine n3 (fun _ _ => ?_) | refine n4 ?_ | refine n5 ?_ | refine WL_nil ?_ | refine W_seq ?_ | refine W_region ?_ | refine n7 ?_ | refine n8 ?_ | refine W_block ?_ | refine W_skip ?_ | refine W_ret ?_ | refine W_exit ?_ | refine WQ_then ?_ | refine WQ_then_ret ?_ | refine WQ_then_exit ?_ | refine WQ_block_normal ?_ | refine WQ_block_ret ?_ | refine WQ_block_exit ?_ | refine n9 ?_)
    ((apply ret1 Try.results57 ( ())); (focus (first | trivial | assumption | omega)); (focus (first | exact RV_tmp rfl | (apply RV_cellN; exact rfl; (repeat' (first | exact Pick.head _ _ | apply Pick.tail)); (intro _; exact rfl); (intro _; exact rfl); exact rfl) | (apply RV_cell1; exact rfl; (repeat' (first | exact Pick.head _ _ | apply Pick.tail)); (intro _; exact rfl); exact rfl)));  (focus (first | exact rfl | (simp; done))); (focus (repeat (first | exact SubO.nil _ | (apply SubO.cons; (focus (repeat' (first | exact Pick.head _ _ | apply Pick.tail))))))); (focus (repeat (first | exact AllE.nil _ | (apply AllE.cons; (focus (first | exact ent_nilBy | exact ent_nilSl | (apply Ent.mem; repeat' (first | exact mcs | apply mct)))))))))

set_option maxRecDepth 100000 in
set_option maxHeartbeats 16000000 in
theorem rbytes_fn (h : Hd) (hv : hdB h = true) : Ct Try.prog 43 [h.val] [] []
    (X := Value) (fun _ => True) (fun x => x) (fun x => [.row x 5 1 (hdS h) ((hdY h).map bcell)]) (fun _ => []) := by
  obtain ⟨hk, _, hrg, _, _⟩ := hd_parts hv
  obtain ⟨hkl, hsl⟩ := kn_small hk
  obtain ⟨r1, r2, r3, r4, r5, r6, r7, r8, r9⟩ := rng_iff.1 hrg
  obtain ⟨dd, hdd⟩ : ∃ d : Nat, h.dur = (d : Int) := ⟨h.dur.toNat, (Int.toNat_of_nonneg r1).symm⟩
  obtain ⟨sq, hsq⟩ : ∃ d : Nat, h.seq = (d : Int) := ⟨h.seq.toNat, (Int.toNat_of_nonneg r3).symm⟩
  obtain ⟨fg, hfg⟩ : ∃ d : Nat, h.frag = (d : Int) := ⟨h.frag.toNat, (Int.toNat_of_nonneg r5).symm⟩
  obtain ⟨td, htd⟩ : ∃ d : Nat, h.tid = (d : Int) := ⟨h.tid.toNat, (Int.toNat_of_nonneg r7).symm⟩
  have hra := raddr_fn h
  rw [rad_ad hv] at hra
  have hqo := qos_fn h
  rw [traf_eq hk] at hqo
  have hb3 := bef3 h
  have w0' := flag_fn h.toDs 1
  have w1' := flag_fn h.fromDs 2
  have w2' := flag_fn h.more 4
  have w3' := flag_fn h.retry 8
  have w4' := flag_fn h.sleep 16
  have w5' := flag_fn h.md 32
  have w6' := flag_fn h.prot 64
  have hfl : ((bN h.toDs 1 : Int) + bN h.fromDs 2 + bN h.more 4 + bN h.retry 8 + bN h.sleep 16 + bN h.md 32 + bN h.prot 64) = (flN h 7 : Int) := by
    have : flN h 7 = 0 + bN h.toDs 1 + bN h.fromDs 2 + bN h.more 4 + bN h.retry 8 + bN h.sleep 16 + bN h.md 32 + bN h.prot 64 := rfl
    omega
  have hbl : ∀ b n, bN b n ≤ n := fun b n => by cases b; exact Nat.zero_le _; exact Nat.le_refl _
  have := hbl h.toDs 1
  have := hbl h.fromDs 2
  have := hbl h.more 4
  have := hbl h.retry 8
  have := hbl h.sleep 16
  have := hbl h.md 32
  have := hbl h.prot 64
  have hf7 := flN_lt h 7
  refine Ct_intro Try.func43 rfl Try.ntmps43 (by simp) _ rfl (fun w0 O0 => ?_)
  (first | refine n1 ?_ | refine n2 (fun b _ => ?_) | refine n3 (fun _ _ => ?_) | refine n4 ?_ | refine n5 ?_ | refine WL_nil ?_ | refine W_seq ?_ | refine W_region ?_ | refine n7 ?_ | refine n8 ?_ | refine W_block ?_ | refine W_skip ?_ | refine W_ret ?_ | refine W_exit ?_ | refine WQ_then ?_ | refine WQ_then_ret ?_ | refine WQ_then_exit ?_ | refine WQ_block_normal ?_ | refine WQ_block_ret ?_ | refine WQ_block_exit ?_ | refine n9 ?_)
  (first | refine n1 ?_ | refine n2 (fun b _ => ?_) | refine n3 (fun _ _ => ?_) | refine n4 ?_ | refine n5 ?_ | refine WL_nil ?_ | refine W_seq ?_ | refine W_region ?_ | refine n7 ?_ | refine n8 ?_ | refine W_block ?_ | refine W_skip ?_ | refine W_ret ?_ | refine W_exit ?_ | refine WQ_then ?_ | refine WQ_then_ret ?_ | refine WQ_then_exit ?_ | refine WQ_block_normal ?_ | refine WQ_block_ret ?_ | refine WQ_block_exit ?_ | refine n9 ?_)
  (first | refine n1 ?_ | refine n2 (fun b _ => ?_) | refine n3 (fun _ _ => ?_) | refine n4 ?_ | refine n5 ?_ | refine WL_nil ?_ | refine W_seq ?_ | refine W_region ?_ | refine n7 ?_ | refine n8 ?_ | refine W_block ?_ | refine W_skip ?_ | refine W_ret ?_ | refine W_exit ?_ | refine WQ_then ?_ | refine WQ_then_ret ?_ | refine WQ_then_exit ?_ | refine WQ_block_normal ?_ | refine WQ_block_ret ?_ | refine WQ_block_exit ?_ | refine n9 ?_)
  obtain ⟨b1, rfl⟩ : ∃ b1, b1 = b := ⟨b, rfl⟩
  refine WL_letgoK (b := b1) (by repeat' (first | exact Pick.head _ _ | apply Pick.tail)) ?_
  repeat (first | refine n1 ?_ | refine n2 (fun b _ => ?_) | refine n3 (fun _ _ => ?_) | refine n4 ?_ | refine n5 ?_ | refine WL_nil ?_ | refine W_seq ?_ | refine W_region ?_ | refine n7 ?_ | refine n8 ?_ | refine W_block ?_ | refine W_skip ?_ | refine W_ret ?_ | refine W_exit ?_ | refine WQ_then ?_ | refine WQ_then_ret ?_ | refine WQ_then_exit ?_ | refine WQ_block_normal ?_ | refine WQ_block_ret ?_ | refine WQ_block_exit ?_ | refine n9 ?_)
  (refine W_regionP' [] [] [0, 1, 2, 3, 4, 5, 6, 7, 8, 9, 10, 11, 12, 13, 14, 15, 16, 17, 18, 19, 20, 21, 22, 23, 24, 25, 26, 27] [] (by kernel_rfl) (by kernel_rfl) (by repeat (first | exact UZ.nil _ _ | (apply UZ.cons; exact rfl; (intro _; exact rfl)))) (by exact rfl) (by (repeat (first | exact SubO.nil _ | (apply SubO.cons; (focus (repeat' (first | exact Pick.head _ _ | apply Pick.tail))))))) ?_)
  repeat (first | refine p1 ?_ | refine p2 (fun b _ => ?_) | refine p3 (fun _ _ => ?_) | refine p4 ?_ | refine p5 ?_ | refine p6 (w0') ?_ | refine p6 (w1') ?_ | refine p6 (w2') ?_ | refine p6 (w3') ?_ | refine p6 (w4') ?_ | refine p6 (w5') ?_ | refine p6 (w6') ?_ | refine p6v (w0') ?_ | refine p6v (w1') ?_ | refine p6v (w2') ?_ | refine p6v (w3') ?_ | refine p6v (w4') ?_ | refine p6v (w5') ?_ | refine p6v (w6') ?_ | refine p7 (fun b => ?_) | refine PL_nil ?_)
  rw [hfl]
  clear hfl w0' w1' w2' w3' w4' w5' w6'
  have e7 : Value.int .u8 (flN h 7 : Int) = bcell (UInt8.ofNat (flN h 7)) := by
    show _ = Value.int .u8 ((UInt8.ofNat (flN h 7)).toNat : Int)
    rw [UInt8.toNat_ofNat', Nat.mod_eq_of_lt (by omega)]
  have e8 : Value.int .u8 (4 * (h.kind.toNat : Int) + 16 * (h.sub.toNat : Int)) = bcell (UInt8.ofNat (4 * h.kind.toNat + 16 * h.sub.toNat)) := by
    show _ = Value.int .u8 ((UInt8.ofNat (4 * h.kind.toNat + 16 * h.sub.toNat)).toNat : Int)
    rw [UInt8.toNat_ofNat', Nat.mod_eq_of_lt (by omega)]
    congr 1
  repeat (first | refine n1 ?_ | refine n2 (fun b _ => ?_) | refine n3 (fun _ _ => ?_) | refine n4 ?_ | refine n5 ?_ | refine WL_nil ?_ | refine W_seq ?_ | refine W_region ?_ | refine n7 ?_ | refine n8 ?_ | refine W_block ?_ | refine W_skip ?_ | refine W_ret ?_ | refine W_exit ?_ | refine WQ_then ?_ | refine WQ_then_ret ?_ | refine WQ_then_exit ?_ | refine WQ_block_normal ?_ | refine WQ_block_ret ?_ | refine WQ_block_exit ?_ | refine n9 ?_)
  rw [e7, e8]
  (apply WL_effs; exact rfl; exact rfl; exact rfl; (apply E_buildSlice; exact rfl; (focus (repeat (first | apply SeqE.nil | (apply SeqE.cons; exact rfl; (focus (first | (apply CellsE.lit; exact rfl) | (apply CellsE.one; (first | (apply OneC.lit; exact rfl) | (apply OneC.by_; (repeat' (first | exact mcs | apply mct)); done) | (apply OneC.sl; (repeat' (first | exact mcs | apply mct)); done) | (apply OneC.rw; (repeat' (first | exact mcs | apply mct)); done) | (apply OneC.row; (repeat' (first | exact Pick.head _ _ | apply Pick.tail))))))); exact rfl) | exact rfl))); exact rfl; (first | (intro _; exact (rfl : _ = Result.ok 1 _)) | (intro _; exact (rfl : _ = Result.ok 2 _)) | (intro _; exact (rfl : _ = Result.ok 3 _)) | (intro _; exact (rfl : _ = Result.ok 4 _)) | (intro _; exact (rfl : _ = Result.ok 5 _)) | (intro _; exact (rfl : _ = Result.ok 6 _)) | (intro _; exact (rfl : _ = Result.ok 7 _)) | (intro _; exact (rfl : _ = Result.ok 8 _)) | (intro _; exact (rfl : _ = Result.ok 9 _)) | (intro _; exact (rfl : _ = Result.ok 13 _)) | (intro _; exact (rfl : _ = Result.ok 14 _)) | (intro _; exact (rfl : _ = Result.ok 26 _)) | (intro _; exact (rfl : _ = Result.ok 40 _)) | (intro _; exact (rfl : _ = Result.ok 41 _)) | (intro _; exact (rfl : _ = Result.ok 42 _)) | (intro _; exact (rfl : _ = Result.ok 43 _)) | (intro _; exact (rfl : _ = Result.ok 44 _)) | (intro _; exact (rfl : _ = Result.ok 45 _)) | (intro _; exact (rfl : _ = Result.ok 46 _))); (intro _; exact rfl); exact rfl; exact Nat.le_of_ble_eq_true rfl; exact Nat.le_of_ble_eq_true rfl); skip)
  intro q _
  refine WL_letgoB (bs := [UInt8.ofNat (4 * h.kind.toNat + 16 * h.sub.toNat), UInt8.ofNat (flN h 7)]) (by repeat' (first | exact Pick.head _ _ | apply Pick.tail)) rfl ?_
  have hp := C01.rput_fn q [UInt8.ofNat (4 * h.kind.toNat + 16 * h.sub.toNat), UInt8.ofNat (flN h 7)] dd 2 (Nat.le_of_ble_eq_true rfl) (by omega) (by decide)
  rw [← hdd] at hp
  have hfr : [UInt8.ofNat (4 * h.kind.toNat + 16 * h.sub.toNat), UInt8.ofNat (flN h 7)] ++ C01.leB 2 dd = frB h := by unfold frB; rw [hdd]; rfl
  rw [hfr] at hp
  repeat (first | refine n1 ?_ | refine n2 (fun b _ => ?_) | refine n3 (fun _ _ => ?_) | refine n4 ?_ | refine n5 ?_ | refine WL_nil ?_ | refine W_seq ?_ | refine W_region ?_ | refine n7 ?_ | refine n8 ?_ | refine W_block ?_ | refine W_skip ?_ | refine W_ret ?_ | refine W_exit ?_ | refine WQ_then ?_ | refine WQ_then_ret ?_ | refine WQ_then_exit ?_ | refine WQ_block_normal ?_ | refine WQ_block_ret ?_ | refine WQ_block_exit ?_ | refine n9 ?_)
  (apply WL_effs; exact rfl; exact rfl; exact rfl; apply E_call; exact rfl; (intro _ _; simp); exact hp; (repeat (first | exact AllE.nil _ | (apply AllE.cons; (focus (first | exact ent_nilBy | exact ent_nilSl | (apply Ent.mem; repeat' (first | exact mcs | apply mct))))))); (intro _; exact rfl); (intro _; exact rfl))
  intro o _
  repeat (first | refine n1 ?_ | refine n2 (fun b _ => ?_) | refine n3 (fun _ _ => ?_) | refine n4 ?_ | refine n5 ?_ | refine WL_nil ?_ | refine W_seq ?_ | refine W_region ?_ | refine n7 ?_ | refine n8 ?_ | refine W_block ?_ | refine W_skip ?_ | refine W_ret ?_ | refine W_exit ?_ | refine WQ_then ?_ | refine WQ_then_ret ?_ | refine WQ_then_exit ?_ | refine WQ_block_normal ?_ | refine WQ_block_ret ?_ | refine WQ_block_exit ?_ | refine n9 ?_)
  (apply WL_effs; exact rfl; exact rfl; exact rfl; (apply E_buildSlice; exact rfl; (focus (repeat (first | apply SeqE.nil | (apply SeqE.cons; exact rfl; (focus (first | (apply CellsE.lit; exact rfl) | (apply CellsE.one; (first | (apply OneC.lit; exact rfl) | (apply OneC.by_; (repeat' (first | exact mcs | apply mct)); done) | (apply OneC.sl; (repeat' (first | exact mcs | apply mct)); done) | (apply OneC.rw; (repeat' (first | exact mcs | apply mct)); done) | (apply OneC.row; (repeat' (first | exact Pick.head _ _ | apply Pick.tail))))))); exact rfl) | exact rfl))); exact rfl; (first | (intro _; exact (rfl : _ = Result.ok 1 _)) | (intro _; exact (rfl : _ = Result.ok 2 _)) | (intro _; exact (rfl : _ = Result.ok 3 _)) | (intro _; exact (rfl : _ = Result.ok 4 _)) | (intro _; exact (rfl : _ = Result.ok 5 _)) | (intro _; exact (rfl : _ = Result.ok 6 _)) | (intro _; exact (rfl : _ = Result.ok 7 _)) | (intro _; exact (rfl : _ = Result.ok 8 _)) | (intro _; exact (rfl : _ = Result.ok 9 _)) | (intro _; exact (rfl : _ = Result.ok 13 _)) | (intro _; exact (rfl : _ = Result.ok 14 _)) | (intro _; exact (rfl : _ = Result.ok 26 _)) | (intro _; exact (rfl : _ = Result.ok 40 _)) | (intro _; exact (rfl : _ = Result.ok 41 _)) | (intro _; exact (rfl : _ = Result.ok 42 _)) | (intro _; exact (rfl : _ = Result.ok 43 _)) | (intro _; exact (rfl : _ = Result.ok 44 _)) | (intro _; exact (rfl : _ = Result.ok 45 _)) | (intro _; exact (rfl : _ = Result.ok 46 _))); (intro _; exact rfl); exact rfl; exact Nat.le_of_ble_eq_true rfl; exact Nat.le_of_ble_eq_true rfl); skip)
  intro q2 _
  refine WL_letgo (v := q2) (by repeat' (first | exact Pick.head _ _ | apply Pick.tail)) ?_
  refine WL_ent (ent_slG (cf := A6.cells) a6_len6 zA6 (l := [h.a1, h.a2, h.a3]) (by repeat' (first | exact mcs | apply mct)) rfl rfl) ?_
  have hl3 : [h.a1, h.a2, h.a3].length = 3 := rfl
  have hmn : (if (3 : Int) < (adN h : Int) then 3 else (adN h : Int)) = (befN h : Int) := by
    cases hf : fourB h with
    | true =>
      have e1 : adN h = 4 := by unfold adN; rw [hf]; rfl
      have e2 : befN h = 3 := by
        unfold fourB at hf
        rw [Bool.and_eq_true, decide_eq_true_eq] at hf
        unfold befN
        rw [show ctsB h = false from decide_eq_false (by omega), show ctlB h = false from decide_eq_false (by omega)]
        rfl
      rw [e1, e2]
      rfl
    | false =>
      have e1 : adN h = befN h := by unfold adN; rw [hf]; rfl
      rw [e1, if_neg (by omega)]
  repeat (first | refine n1 ?_ | refine n2 (fun b _ => ?_) | refine n3 (fun _ _ => ?_) | refine n4 ?_ | refine n5 ?_ | refine WL_nil ?_ | refine W_seq ?_ | refine W_region ?_ | refine n7 ?_ | refine n8 ?_ | refine W_block ?_ | refine W_skip ?_ | refine W_ret ?_ | refine W_exit ?_ | refine WQ_then ?_ | refine WQ_then_ret ?_ | refine WQ_then_exit ?_ | refine WQ_block_normal ?_ | refine WQ_block_ret ?_ | refine WQ_block_exit ?_ | refine n9 ?_)
  ((apply W_loopK (X := Nat × Value) [4, 6] [0] (fun x => x.1 ≤ befN h) (fun x => [(4, x.2), (6, .int .i64 (x.1 : Int))]) (fun x => [.row x.2 5 1 (4 + 6 * x.1) ((frB h ++ adrB h x.1).map bcell)]) (fun _ => []) (fun x => befN h - x.1) ((0, o))); (focus exact Nat.zero_le _); exact rfl; exact rfl; (intro _; exact rfl); (intro _; exact rfl); (intro _; exact rfl); (focus (repeat (first | exact FrIn.nil _ | (apply FrIn.cons; exact rfl; (first | exact rfl | (congr 1; first | omega | (dsimp only; omega)) | (simp; done)))))); (focus (repeat (first | exact SubO.nil _ | (apply SubO.cons; (focus (repeat' (first | exact Pick.head _ _ | apply Pick.tail))))))); (focus (repeat (first | exact AllE.nil _ | (apply AllE.cons; (focus (first | exact ent_nilBy | exact ent_nilSl | (apply Ent.mem; repeat' (first | exact mcs | apply mct)))))))); intro x hx)
  obtain ⟨x, o2⟩ := x
  replace hx : x ≤ befN h := hx
  dsimp only
  repeat (first | refine n1 ?_ | refine n2 (fun b _ => ?_) | refine n3 (fun _ _ => ?_) | refine n4 ?_ | refine n5 ?_ | refine n6 (hra) ?_ | refine n6v (hra) ?_ | refine WL_nil ?_ | refine W_seq ?_ | refine W_region ?_ | refine n7 ?_ | refine n8 ?_ | refine W_block ?_ | refine W_skip ?_ | refine W_ret ?_ | refine W_exit ?_ | refine WQ_then ?_ | refine WQ_then_ret ?_ | refine WQ_then_exit ?_ | refine WQ_block_normal ?_ | refine WQ_block_ret ?_ | refine WQ_block_exit ?_ | refine n9 ?_)
  refine WL_runs rfl rfl rfl (R_min2 rfl rfl hmn) ?_
  by_cases d1 : x < befN h
  · have had := adr3 h (show x < 3 by omega)
    have hnx := adrB_next h x
    repeat (first | refine n1 ?_ | refine n2 (fun b _ => ?_) | refine n3 (fun _ _ => ?_) | refine n4 ?_ | refine n5 ?_ | refine WL_nil ?_ | refine W_seq ?_ | refine W_region ?_ | refine n7 ?_ | refine n8 ?_ | refine W_block ?_ | refine W_skip ?_ | refine W_ret ?_ | refine W_exit ?_ | refine WQ_then ?_ | refine WQ_then_ret ?_ | refine WQ_then_exit ?_ | refine WQ_block_normal ?_ | refine WQ_block_ret ?_ | refine WQ_block_exit ?_ | refine n9 ?_)
    rw [had]
    refine WL_runs rfl rfl rfl (R_slicePt (n := 6) rfl (by repeat' (first | exact mcs | apply mct)) rfl (by intro _; exact rfl) rfl) ?_
    refine WL_ent (ent_arr (n := 6) (bs := (adrI h x).bytes) (by repeat' (first | exact mcs | apply mct)) (a6_take6 _) rfl (by decide) (by decide)) ?_
    refine WL_effs rfl rfl rfl (E_appendBy (bs := frB h ++ adrB h x) (news := (adrI h x).bytes) (nm := 4 + 6 * (x + 1)) (all := frB h ++ adrB h (x + 1)) rfl rfl (by repeat' (first | exact Pick.head _ _ | apply Pick.tail)) (by repeat' (first | exact mcs | apply mct)) rfl rfl rfl rfl rfl rfl (Nat.le_of_ble_eq_true rfl) (show 4 + 6 * x + 6 ≤ 1099511627776 by omega) (show 4 + 6 * x + 6 = 4 + 6 * (x + 1) by omega) (by rw [hnx, List.append_assoc])) ?_
    intro o3 _
    repeat (first | refine n1 ?_ | refine n2 (fun b _ => ?_) | refine n3 (fun _ _ => ?_) | refine n4 ?_ | refine n5 ?_ | refine WL_nil ?_ | refine W_seq ?_ | refine W_region ?_ | refine n7 ?_ | refine n8 ?_ | refine W_block ?_ | refine W_skip ?_ | refine W_ret ?_ | refine W_exit ?_ | refine WQ_then ?_ | refine WQ_then_ret ?_ | refine WQ_then_exit ?_ | refine WQ_block_normal ?_ | refine WQ_block_ret ?_ | refine WQ_block_exit ?_ | refine n9 ?_)
    ((apply WQ_again ((x + 1, o3))); (focus exact d1); (focus (exact (show befN h - (x + 1) < befN h - x by omega))); (focus (repeat (first | exact FrIn.nil _ | (apply FrIn.cons; exact rfl; (first | exact rfl | (congr 1; first | omega | (dsimp only; omega)) | (simp; done)))))); (focus (repeat (first | exact SubO.nil _ | (apply SubO.cons; (focus (repeat' (first | exact Pick.head _ _ | apply Pick.tail))))))); (focus (repeat (first | exact AllE.nil _ | (apply AllE.cons; (focus (first | exact ent_nilBy | exact ent_nilSl | (apply Ent.mem; repeat' (first | exact mcs | apply mct)))))))))
  · obtain rfl : x = befN h := by omega
    have hlen : (frB h ++ adrB h (befN h)).length = 4 + 6 * befN h := by rw [List.length_append, frB_length, adrB_length]
    repeat ((fail_if_success apply W_isIf); (first | refine n1 ?_ | refine n2 (fun b _ => ?_) | refine n3 (fun _ _ => ?_) | refine n4 ?_ | refine n5 ?_ | refine WL_nil ?_ | refine W_seq ?_ | refine W_region ?_ | refine n7 ?_ | refine n8 ?_ | refine W_block ?_ | refine W_skip ?_ | refine W_ret ?_ | refine W_exit ?_ | refine WQ_then ?_ | refine WQ_then_ret ?_ | refine WQ_then_exit ?_ | refine WQ_block_normal ?_ | refine WQ_block_ret ?_ | refine WQ_block_exit ?_ | refine n9 ?_))
    ((apply W_cutK (X := Value) [4] [0] (fun _ => True) (fun z => [(4, z)]) (fun z => [.row z 5 1 (4 + 6 * befN h + bN (prtB h.kind) 2) ((frB h ++ adrB h (befN h) ++ sqB h).map bcell)]) (fun _ => [])); exact rfl; exact rfl; (intro _; exact rfl); (intro _; exact rfl); (intro _; exact rfl))
    · have hcp := ctl_prt hk
      have hp := C01.rput_fn o2 (frB h ++ adrB h (befN h)) (fg + 16 * sq) 2 (by omega) (by omega) (by decide)
      rw [hlen] at hp
      have hsB : sqB h = bif prtB h.kind then C01.leB 2 (fg + 16 * sq) else [] := by unfold sqB; rw [hfg, hsq]; rfl
      rw [hsB]
      generalize prtB h.kind = pq at *
      cases pq with
      | false =>
        have k1 : h.kind.toNat = 1 := of_decide_eq_true hcp
        rw [show (bif false then C01.leB 2 (fg + 16 * sq) else []) = [] from rfl, List.append_nil]
        repeat (first | refine n1 ?_ | refine n2 (fun b _ => ?_) | refine n3 (fun _ _ => ?_) | refine n4 ?_ | refine n5 ?_ | refine WL_nil ?_ | refine W_seq ?_ | refine W_region ?_ | refine n7 ?_ | refine n8 ?_ | refine W_block ?_ | refine W_skip ?_ | refine W_ret ?_ | refine W_exit ?_ | refine WQ_then ?_ | refine WQ_then_ret ?_ | refine WQ_then_exit ?_ | refine WQ_block_normal ?_ | refine WQ_block_ret ?_ | refine WQ_block_exit ?_ | refine n9 ?_)
        ((apply WQ_meet (o2)); (focus (first | trivial | omega | assumption | exact ⟨by omega, by omega⟩ | (simp; done))); (focus (repeat (first | exact FrIn.nil _ | (apply FrIn.cons; exact rfl; (first | exact rfl | (congr 1; first | omega | (dsimp only; omega)) | (simp; done)))))); (focus (repeat (first | exact SubO.nil _ | (apply SubO.cons; (focus (repeat' (first | exact Pick.head _ _ | apply Pick.tail))))))); (focus (repeat (first | exact AllE.nil _ | (apply AllE.cons; (focus (first | exact ent_nilBy | exact ent_nilSl | (apply Ent.mem; repeat' (first | exact mcs | apply mct)))))))))
      | true =>
        have k1 : ¬ h.kind.toNat = 1 := of_decide_eq_false hcp
        have e9 : h.frag + 16 * h.seq = ((fg + 16 * sq : Nat) : Int) := by omega
        repeat (first | refine n1 ?_ | refine n2 (fun b _ => ?_) | refine n3 (fun _ _ => ?_) | refine n4 ?_ | refine n5 ?_ | refine WL_nil ?_ | refine W_seq ?_ | refine W_region ?_ | refine n7 ?_ | refine n8 ?_ | refine W_block ?_ | refine W_skip ?_ | refine W_ret ?_ | refine W_exit ?_ | refine WQ_then ?_ | refine WQ_then_ret ?_ | refine WQ_then_exit ?_ | refine WQ_block_normal ?_ | refine WQ_block_ret ?_ | refine WQ_block_exit ?_ | refine n9 ?_)
        rw [e9]
        refine WL_letgoB (v := o2) (bs := frB h ++ adrB h (befN h)) (by repeat' (first | exact Pick.head _ _ | apply Pick.tail)) rfl ?_
        (apply WL_effs; exact rfl; exact rfl; exact rfl; apply E_call; exact rfl; (intro _ _; simp); exact hp; (repeat (first | exact AllE.nil _ | (apply AllE.cons; (focus (first | exact ent_nilBy | exact ent_nilSl | (apply Ent.mem; repeat' (first | exact mcs | apply mct))))))); (intro _; exact rfl); (intro _; exact rfl))
        intro o3 _
        repeat (first | refine n1 ?_ | refine n2 (fun b _ => ?_) | refine n3 (fun _ _ => ?_) | refine n4 ?_ | refine n5 ?_ | refine WL_nil ?_ | refine W_seq ?_ | refine W_region ?_ | refine n7 ?_ | refine n8 ?_ | refine W_block ?_ | refine W_skip ?_ | refine W_ret ?_ | refine W_exit ?_ | refine WQ_then ?_ | refine WQ_then_ret ?_ | refine WQ_then_exit ?_ | refine WQ_block_normal ?_ | refine WQ_block_ret ?_ | refine WQ_block_exit ?_ | refine n9 ?_)
        ((apply WQ_meet (o3)); (focus (first | trivial | omega | assumption | exact ⟨by omega, by omega⟩ | (simp; done))); (focus (repeat (first | exact FrIn.nil _ | (apply FrIn.cons; exact rfl; (first | exact rfl | (congr 1; first | omega | (dsimp only; omega)) | (simp; done)))))); (focus (repeat (first | exact SubO.nil _ | (apply SubO.cons; (focus (repeat' (first | exact Pick.head _ _ | apply Pick.tail))))))); (focus (repeat (first | exact AllE.nil _ | (apply AllE.cons; (focus (first | exact ent_nilBy | exact ent_nilSl | (apply Ent.mem; repeat' (first | exact mcs | apply mct)))))))))
    · intro o4 _
      have hbl' : (frB h ++ adrB h (befN h) ++ sqB h).length = 4 + 6 * befN h + bN (prtB h.kind) 2 := by rw [List.length_append, List.length_append, frB_length, adrB_length, sqB_length]
      have hpb : bN (prtB h.kind) 2 ≤ 2 := hbl _ _
      generalize hbase : frB h ++ adrB h (befN h) ++ sqB h = base at *
      generalize hnb : 4 + 6 * befN h + bN (prtB h.kind) 2 = nb at *
      repeat ((fail_if_success apply W_isIf); (first | refine n1 ?_ | refine n2 (fun b _ => ?_) | refine n3 (fun _ _ => ?_) | refine n4 ?_ | refine n5 ?_ | refine WL_nil ?_ | refine W_seq ?_ | refine W_region ?_ | refine n7 ?_ | refine n8 ?_ | refine W_block ?_ | refine W_skip ?_ | refine W_ret ?_ | refine W_exit ?_ | refine WQ_then ?_ | refine WQ_then_ret ?_ | refine WQ_then_exit ?_ | refine WQ_block_normal ?_ | refine WQ_block_ret ?_ | refine WQ_block_exit ?_ | refine n9 ?_))
      ((apply W_cutK (X := Value) [4] [0] (fun _ => True) (fun z => [(4, z)]) (fun z => [.row z 5 1 (nb + bN (fourB h) 6) ((base ++ a4B h).map bcell)]) (fun _ => [])); exact rfl; exact rfl; (intro _; exact rfl); (intro _; exact rfl); (intro _; exact rfl))
      · have hac := adr_cells h (show 3 < 4 by omega)
        unfold a4B
        cases hf : fourB h with
        | false =>
          have e1 : adN h = befN h := by unfold adN; rw [hf]; rfl
          rw [show (bif false then h.a4.bytes else []) = [] from rfl, List.append_nil]
          repeat (first | refine n1 ?_ | refine n2 (fun b _ => ?_) | refine n3 (fun _ _ => ?_) | refine n4 ?_ | refine n5 ?_ | refine n6 (hra) ?_ | refine n6v (hra) ?_ | refine WL_nil ?_ | refine W_seq ?_ | refine W_region ?_ | refine n7 ?_ | refine n8 ?_ | refine W_block ?_ | refine W_skip ?_ | refine W_ret ?_ | refine W_exit ?_ | refine WQ_then ?_ | refine WQ_then_ret ?_ | refine WQ_then_exit ?_ | refine WQ_block_normal ?_ | refine WQ_block_ret ?_ | refine WQ_block_exit ?_ | refine n9 ?_)
          ((apply WQ_meet (o4)); (focus (first | trivial | omega | assumption | exact ⟨by omega, by omega⟩ | (simp; done))); (focus (repeat (first | exact FrIn.nil _ | (apply FrIn.cons; exact rfl; (first | exact rfl | (congr 1; first | omega | (dsimp only; omega)) | (simp; done)))))); (focus (repeat (first | exact SubO.nil _ | (apply SubO.cons; (focus (repeat' (first | exact Pick.head _ _ | apply Pick.tail))))))); (focus (repeat (first | exact AllE.nil _ | (apply AllE.cons; (focus (first | exact ent_nilBy | exact ent_nilSl | (apply Ent.mem; repeat' (first | exact mcs | apply mct)))))))))
        | true =>
          have e1 : adN h = 4 := by unfold adN; rw [hf]; rfl
          repeat (first | refine n1 ?_ | refine n2 (fun b _ => ?_) | refine n3 (fun _ _ => ?_) | refine n4 ?_ | refine n5 ?_ | refine n6 (hra) ?_ | refine n6v (hra) ?_ | refine WL_nil ?_ | refine W_seq ?_ | refine W_region ?_ | refine n7 ?_ | refine n8 ?_ | refine W_block ?_ | refine W_skip ?_ | refine W_ret ?_ | refine W_exit ?_ | refine WQ_then ?_ | refine WQ_then_ret ?_ | refine WQ_then_exit ?_ | refine WQ_block_normal ?_ | refine WQ_block_ret ?_ | refine WQ_block_exit ?_ | refine n9 ?_)
          refine WL_ent (ent_ptByO (b := b1) (off := 28) (n := 6) (xs := h.cells) (bs := h.a4.bytes) (by repeat' (first | exact mcs | apply mct)) hac rfl (by decide) (by decide)) ?_
          refine WL_effs rfl rfl rfl (E_appendBy (bs := base) (news := h.a4.bytes) (nm := nb + 6) (all := base ++ h.a4.bytes) rfl rfl (by repeat' (first | exact Pick.head _ _ | apply Pick.tail)) (by repeat' (first | exact mcs | apply mct)) rfl rfl rfl rfl rfl rfl (Nat.le_of_ble_eq_true rfl) (show nb + 6 ≤ 1099511627776 by omega) rfl rfl) ?_
          intro o6 _
          repeat (first | refine n1 ?_ | refine n2 (fun b _ => ?_) | refine n3 (fun _ _ => ?_) | refine n4 ?_ | refine n5 ?_ | refine WL_nil ?_ | refine W_seq ?_ | refine W_region ?_ | refine n7 ?_ | refine n8 ?_ | refine W_block ?_ | refine W_skip ?_ | refine W_ret ?_ | refine W_exit ?_ | refine WQ_then ?_ | refine WQ_then_ret ?_ | refine WQ_then_exit ?_ | refine WQ_block_normal ?_ | refine WQ_block_ret ?_ | refine WQ_block_exit ?_ | refine n9 ?_)
          ((apply WQ_meet (o6)); (focus (first | trivial | omega | assumption | exact ⟨by omega, by omega⟩ | (simp; done))); (focus (repeat (first | exact FrIn.nil _ | (apply FrIn.cons; exact rfl; (first | exact rfl | (congr 1; first | omega | (dsimp only; omega)) | (simp; done)))))); (focus (repeat (first | exact SubO.nil _ | (apply SubO.cons; (focus (repeat' (first | exact Pick.head _ _ | apply Pick.tail))))))); (focus (repeat (first | exact AllE.nil _ | (apply AllE.cons; (focus (first | exact ent_nilBy | exact ent_nilSl | (apply Ent.mem; repeat' (first | exact mcs | apply mct)))))))))
      · intro o7 _
        have hal : (a4B h).length = bN (fourB h) 6 := a4B_length h
        have h4b : bN (fourB h) 6 ≤ 6 := hbl _ _
        have hY : hdY h = base ++ a4B h ++ qsB h := by unfold hdY; rw [hbase]
        have hS : hdS h = nb + bN (fourB h) 6 + bN (trafB h.kind h.sub) 2 := by unfold hdS; rw [hnb]
        have hla : (base ++ a4B h).length = nb + bN (fourB h) 6 := by rw [List.length_append, hbl', hal]
        rw [hY, hS]
        have hqs : qsB h = bif trafB h.kind h.sub then C01.leB 2 (td + bN h.eosp 16 + 32 * h.ack.toNat + bN h.amsdu 128) else [] := by unfold qsB qN; rw [htd]; rfl
        rw [hqs]
        have hnbl : nb ≤ 24 := by rw [← hnb]; omega
        clear hbase hnb hY hS hqs
        generalize trafB h.kind h.sub = tr at *
        cases tr with
        | false =>
          rw [show ∀ l : List UInt8, (bif false then l else []) = [] from fun _ => rfl, List.append_nil]
          repeat (first | refine n1 ?_ | refine n2 (fun b _ => ?_) | refine n3 (fun _ _ => ?_) | refine n4 ?_ | refine n5 ?_ | refine n6 (hqo) ?_ | refine n6v (hqo) ?_ | refine WL_nil ?_ | refine W_seq ?_ | refine W_region ?_ | refine n7 ?_ | refine n8 ?_ | refine W_block ?_ | refine W_skip ?_ | refine W_ret ?_ | refine W_exit ?_ | refine WQ_then ?_ | refine WQ_then_ret ?_ | refine WQ_then_exit ?_ | refine WQ_block_normal ?_ | refine WQ_block_ret ?_ | refine WQ_block_exit ?_ | refine n9 ?_)
          ((apply ret1 Try.results43 ( o7)); (focus (first | trivial | assumption | omega)); (focus (first | exact RV_tmp rfl | (apply RV_cellN; exact rfl; (repeat' (first | exact Pick.head _ _ | apply Pick.tail)); (intro _; exact rfl); (intro _; exact rfl); exact rfl) | (apply RV_cell1; exact rfl; (repeat' (first | exact Pick.head _ _ | apply Pick.tail)); (intro _; exact rfl); exact rfl)));  (focus (first | exact rfl | (simp; done))); (focus (repeat (first | exact SubO.nil _ | (apply SubO.cons; (focus (repeat' (first | exact Pick.head _ _ | apply Pick.tail))))))); (focus (repeat (first | exact AllE.nil _ | (apply AllE.cons; (focus (first | exact ent_nilBy | exact ent_nilSl | (apply Ent.mem; repeat' (first | exact mcs | apply mct)))))))))
        | true =>
          have w7' := flag_fn h.eosp 16
          have w8' := flag_fn h.amsdu 128
          have l7 := hbl h.eosp 16
          have l8 := hbl h.amsdu 128
          have hp := C01.rput_fn o7 (base ++ a4B h) (td + bN h.eosp 16 + 32 * h.ack.toNat + bN h.amsdu 128) 2 (by omega) (by omega) (by decide)
          rw [hla] at hp
          have e9 : h.tid + (bN h.eosp 16 : Int) + 32 * (h.ack.toNat : Int) + (bN h.amsdu 128 : Int) = ((td + bN h.eosp 16 + 32 * h.ack.toNat + bN h.amsdu 128 : Nat) : Int) := by omega
          repeat (first | refine n1 ?_ | refine n2 (fun b _ => ?_) | refine n3 (fun _ _ => ?_) | refine n4 ?_ | refine n5 ?_ | refine n6 (hqo) ?_ | refine n6v (hqo) ?_ | refine WL_nil ?_ | refine W_seq ?_ | refine W_region ?_ | refine n7 ?_ | refine n8 ?_ | refine W_block ?_ | refine W_skip ?_ | refine W_ret ?_ | refine W_exit ?_ | refine WQ_then ?_ | refine WQ_then_ret ?_ | refine WQ_then_exit ?_ | refine WQ_block_normal ?_ | refine WQ_block_ret ?_ | refine WQ_block_exit ?_ | refine n9 ?_)
          refine W_letgoB (v := o7) (bs := base ++ a4B h) (by repeat' (first | exact Pick.head _ _ | apply Pick.tail)) rfl ?_
          (refine W_regionP' [17] [] [0, 1, 2, 3, 4, 5, 6, 7, 8, 9, 10, 11, 12, 13, 14, 15, 16, 17, 18] [] (by kernel_rfl) (by kernel_rfl) (by repeat (first | exact UZ.nil _ _ | (apply UZ.cons; exact rfl; (intro _; exact rfl)))) (by exact rfl) (by (repeat (first | exact SubO.nil _ | (apply SubO.cons; (focus (repeat' (first | exact Pick.head _ _ | apply Pick.tail))))))) ?_)
          repeat (first | refine p1 ?_ | refine p2 (fun b _ => ?_) | refine p3 (fun _ _ => ?_) | refine p4 ?_ | refine p5 ?_ | refine p6 (w7') ?_ | refine p6 (w8') ?_ | refine p6v (w7') ?_ | refine p6v (w8') ?_ | refine p7 (fun b => ?_) | refine PL_nil ?_)
          rw [e9]
          (apply PL_effs; exact rfl; exact rfl; exact rfl; exact rfl; exact rfl; apply E_call; exact rfl; (intro _ _; simp); exact hp; (repeat (first | exact AllE.nil _ | (apply AllE.cons; (focus (first | exact ent_nilBy | exact ent_nilSl | (apply Ent.mem; repeat' (first | exact mcs | apply mct))))))); (intro _; exact rfl); (intro _; exact rfl); (intro _; (repeat (first | exact SubO.nil _ | (apply SubO.cons; (focus (repeat' (first | exact Pick.head _ _ | apply Pick.tail))))))))
          intro o8 _
          repeat (first | refine p1 ?_ | refine p2 (fun b _ => ?_) | refine p3 (fun _ _ => ?_) | refine p4 ?_ | refine p5 ?_ | refine p7 (fun b => ?_) | refine PL_nil ?_)
          repeat (first | refine n1 ?_ | refine n2 (fun b _ => ?_) | refine n3 (fun _ _ => ?_) | refine n4 ?_ | refine n5 ?_ | refine WL_nil ?_ | refine W_seq ?_ | refine W_region ?_ | refine n7 ?_ | refine n8 ?_ | refine W_block ?_ | refine W_skip ?_ | refine W_ret ?_ | refine W_exit ?_ | refine WQ_then ?_ | refine WQ_then_ret ?_ | refine WQ_then_exit ?_ | refine WQ_block_normal ?_ | refine WQ_block_ret ?_ | refine WQ_block_exit ?_ | refine n9 ?_)
          ((apply ret1 Try.results43 ( o8)); (focus (first | trivial | assumption | omega)); (focus (first | exact RV_tmp rfl | (apply RV_cellN; exact rfl; (repeat' (first | exact Pick.head _ _ | apply Pick.tail)); (intro _; exact rfl); (intro _; exact rfl); exact rfl) | (apply RV_cell1; exact rfl; (repeat' (first | exact Pick.head _ _ | apply Pick.tail)); (intro _; exact rfl); exact rfl)));  (focus (first | exact rfl | (simp; done))); (focus (repeat (first | exact SubO.nil _ | (apply SubO.cons; (focus (repeat' (first | exact Pick.head _ _ | apply Pick.tail))))))); (focus (repeat (first | exact AllE.nil _ | (apply AllE.cons; (focus (first | exact ent_nilBy | exact ent_nilSl | (apply Ent.mem; repeat' (first | exact mcs | apply mct)))))))))
end Go.Proofs.Ytbdcpahifcbcfaa
