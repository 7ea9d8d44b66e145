/-
  Rules for walks, merged.
-/
import Derived.Test.YteojehocflbgdaaDoorXb
import Derived.Test.YteojehocflbgdaaDoorRows
import Derived.Test.YteojehocflbgdaaDoorXa
import Derived.Laws.BitsAllLaws
import Derived.Laws.Bits128
import Derived.WalkKit
import Derived.ProofKit
import Derived.OpenShut
import Derived.ShutString
import Derived.ChangeOld
import Derived.SizedLaws
import Derived.Below
import Derived.Carry
import Derived.ChangeSlices
import Derived.Deep.Slices
/-
  Headers compared; 'Check'.
-/
namespace Go.Proofs.YteojehocflbgdaaDoor.C05
open Go Go.RowKit Go.Hs
def w64 (n : Int) : Prop := (Lit.int .i64 n).wf = true
def Hd.w (h : Hd) : Prop := w64 h.dur ∧ w64 h.seq ∧ w64 h.frag ∧ w64 h.tid
theorem i64_lits {P : Program} {t : TypeId} (ht : P.underlying t = some (.int .i64)) {n : Int} (h : w64 n) (d : Nat) : P.keyLits (d + 1) t [.int .i64 n] = some [.int .i64 n] := by
  have h : (Lit.int .i64 n).wf = true := h
  simp [Program.keyLits, ht, h]
theorem bool_lits {P : Program} {t : TypeId} (ht : P.underlying t = some .bool) (b : Bool) (d : Nat) : P.keyLits (d + 1) t [.bool b] = some [.bool b] := by
  simp [Program.keyLits, ht]
theorem u8_lits {P : Program} {t : TypeId} (ht : P.underlying t = some (.int .u8)) (b : UInt8) (d : Nat) : P.keyLits (d + 1) t [bcell b] = some [.int .u8 (b.toNat : Int)] := by
  have h : (Lit.int .u8 (b.toNat : Int)).wf = true := by
    have := b.toNat_lt
    simp [Lit.wf, IntKind.min, IntKind.max, IntKind.signed, IntKind.bits] <;> omega
  simp [Program.keyLits, ht, bcell, h]
def lA (a : A6) : List Lit := a.bytes.map fun b => Lit.int .u8 (b.toNat : Int)
def hdL (h : Hd) : List Lit := [.int .u8 (h.kind.toNat : Int), .int .u8 (h.sub.toNat : Int), .bool h.toDs, .bool h.fromDs, .bool h.more, .bool h.retry, .bool h.sleep, .bool h.md, .bool h.prot, .int .i64 h.dur] ++
  (lA h.a1 ++ (lA h.a2 ++ (lA h.a3 ++ (lA h.a4 ++ [.int .i64 h.seq, .int .i64 h.frag, .int .i64 h.tid, .int .u8 (h.ack.toNat : Int), .bool h.amsdu, .bool h.eosp]))))
theorem hd_lits (h : Hd) (hw : h.w) : Tryd.prog.keyLits 3 32 h.cells = some (hdL h) := by
  obtain ⟨h1, h2, h3, h4⟩ := hw
  have hc : Tryd.prog.cellsOf 32 = 40 := by kernel_rfl
  have hi : Tryd.prog.cellsOf 3 = 1 := by kernel_rfl
  have hb : Tryd.prog.cellsOf 4 = 1 := by kernel_rfl
  have ha : Tryd.prog.cellsOf 30 = 6 := by kernel_rfl
  have hu : Tryd.prog.cellsOf 5 = 1 := by kernel_rfl
  have e1 := fun a => keyLits_a6 (P := Tryd.prog) Tryd.underlying30 Tryd.underlying5 hu ha a
  have e2 := fun n (h : w64 n) => i64_lits (P := Tryd.prog) Tryd.underlying3 h 1
  have e3 := fun b => bool_lits (P := Tryd.prog) Tryd.underlying4 b 1
  have e4 := fun b => u8_lits (P := Tryd.prog) Tryd.underlying5 b 1
  rw [show (3 : Nat) = 2 + 1 from rfl]
  unfold Program.keyLits
  rw [Tryd.underlying32]
  simp only [A6.cells] at e1
  simp [hc, hi, hb, ha, hu, e1, e2 _ h1, e2 _ h2, e2 _ h3, e2 _ h4, e3, e4, hdL, lA]
theorem lA_inj {a b : A6} {r s : List Lit} (h : lA a ++ r = lA b ++ s) : a = b ∧ r = s := by
  have := List.append_inj h rfl
  exact ⟨a6_lits_inj.1 this.1, this.2⟩
theorem hdL_inj {h k : Hd} : hdL h = hdL k ↔ h = k := by
  constructor
  · intro e
    cases h with | mk =>
    cases k with | mk =>
    unfold hdL at e
    have e0 := List.append_inj e rfl
    obtain ⟨q0, q⟩ := e0
    obtain ⟨q1, q⟩ := lA_inj q
    obtain ⟨q2, q⟩ := lA_inj q
    obtain ⟨q3, q⟩ := lA_inj q
    obtain ⟨q4, q⟩ := lA_inj q
    simp only [List.cons.injEq, Lit.int.injEq, Lit.bool.injEq, true_and, and_true, Int.natCast_inj, UInt8.toNat_inj] at q0 q
    simp_all
  · rintro rfl; rfl

def adN (h : Hd) : Nat := if fourB h then 4 else befN h
def zN (n i : Nat) (a : A6) : A6 := if i < n then zA6 else a
def zadH (n : Nat) (h : Hd) : Hd := { h with a1 := zN n 0 h.a1, a2 := zN n 1 h.a2, a3 := zN n 2 h.a3, a4 := zN n 3 h.a4 }
def restP (n : Nat) (p q r : Bool) (h : Hd) : Hd :=
  ⟨0, 0, !p && h.toDs, !p && h.fromDs, !q && h.more, !q && h.retry, false, false, !q && h.prot, 0, zN n 0 h.a1, zN n 1 h.a2, zN n 2 h.a3, zN n 3 h.a4, bif q then 0 else h.seq, bif q then 0 else h.frag, bif r then 0 else h.tid, bif r then 0 else h.ack, !r && h.amsdu, !r && h.eosp⟩
def restH (h : Hd) : Hd := restP (adN h) (decide (h.kind.toNat = 2)) (prtB h.kind) (trafB h.kind h.sub) h
def rngB (h : Hd) : Bool := decide (0 ≤ h.dur ∧ h.dur ≤ 32767) && (decide (0 ≤ h.seq ∧ h.seq ≤ 4095) && (decide (0 ≤ h.frag ∧ h.frag ≤ 15) && (decide (0 ≤ h.tid ∧ h.tid ≤ 7) && decide (h.ack.toNat ≤ 2))))
def whoB (h : Hd) : Bool := !h.more && decide (h.frag = 0)
def gpsB (h : Hd) : Bool := !grpB h.a2 && (whoB h || !grpB h.a1)
def badB (h : Hd) : Bool := nulB h && (!whoB h || (h.prot || h.amsdu))
def hdB (h : Hd) : Bool := knB h.kind h.sub && (decide (restH h = h0_) && (rngB h && (gpsB h && !badB h)))
theorem w64_zero : w64 0 := by unfold w64; decide
theorem rest_w {h : Hd} (hw : h.w) (n : Nat) (p q r : Bool) : (restP n p q r h).w := by
  obtain ⟨h1, h2, h3, h4⟩ := hw
  refine ⟨w64_zero, ?_, ?_, ?_⟩
  · cases q; exact h2; exact w64_zero
  · cases q; exact h3; exact w64_zero
  · cases r; exact h4; exact w64_zero
theorem h0_w : h0_.w := ⟨w64_zero, w64_zero, w64_zero, w64_zero⟩
attribute [local irreducible] WL W WQ PL Runs Effs AllE Ent SubO FrIn Pick OneC Ones CellsE PartsE SeqE UZ By Sl Pt Ct

set_option maxRecDepth 100000 in
set_option maxHeartbeats 16000000 in
theorem check_fn (h : Hd) (hw : h.w) : CtD Tryd.prog 16 [h.val] [] (.int .i64 (if hdB h then 0 else 8)) := by
  have hk := known_fn h.kind h.sub
  unfold hdB
  cases ek : knB h.kind h.sub with
  | false =>
    rw [ek] at hk
    refine Ct_intro Tryd.func16 rfl Tryd.ntmps16 (by simp) _ rfl (fun w0 O0 => ?_)
    repeat (first | refine n1 ?_ | refine n2 (fun b _ => ?_) | refine n3 (fun _ _ => ?_) | refine n4 ?_ | refine n5 ?_ | refine n6 (hk) ?_ | refine n6v (hk) ?_ | refine WL_nil ?_ | refine W_seq ?_ | refine W_region ?_ | refine n7 ?_ | refine n8 ?_ | refine W_block ?_ | refine W_skip ?_ | refine W_ret ?_ | refine W_exit ?_ | refine WQ_then ?_ | refine WQ_then_ret ?_ | refine WQ_then_exit ?_ | refine WQ_block_normal ?_ | refine WQ_block_ret ?_ | refine WQ_block_exit ?_ | refine n9 ?_)
    ((apply ret1 Tryd.results16 ( ())); (focus (first | trivial | assumption | omega)); (focus (first | exact RV_tmp rfl | (apply RV_cellN; exact rfl; (repeat' (first | exact Pick.head _ _ | apply Pick.tail)); (intro _; exact rfl); (intro _; exact rfl); exact rfl) | (apply RV_cell1; exact rfl; (repeat' (first | exact Pick.head _ _ | apply Pick.tail)); (intro _; exact rfl); exact rfl)));  (focus (first | exact rfl | (simp; done))); (focus (repeat (first | exact SubO.nil _ | (apply SubO.cons; (focus (repeat' (first | exact Pick.head _ _ | apply Pick.tail))))))); (focus (repeat (first | exact AllE.nil _ | (apply AllE.cons; (focus (first | exact ent_nilBy | exact ent_nilSl | (apply Ent.mem; repeat' (first | exact mcs | apply mct)))))))))
  | true =>
    rw [ek] at hk
    rw [Bool.true_and]
    have hpl := fun b0 => places_fn b0 h
    obtain ⟨p, hp⟩ : ∃ p, decide (h.kind.toNat = 2) = p := ⟨_, rfl⟩
    obtain ⟨q, hq⟩ : ∃ q, prtB h.kind = q := ⟨_, rfl⟩
    obtain ⟨r, hr⟩ : ∃ r, trafB h.kind h.sub = r := ⟨_, rfl⟩
    have hrest : restH h = restP (adN h) p q r h := by unfold restH; rw [hp, hq, hr]
    rw [hq, hr] at hk
    rw [hrest]
    have hb3 : befN h ≤ 3 := by unfold befN; split; decide; split; decide; decide
    have hn4 : adN h ≤ 4 := by unfold adN; split; decide; omega
    refine Ct_intro Tryd.func16 rfl Tryd.ntmps16 (by simp) _ rfl (fun w0 O0 => ?_)
    (first | refine n1 ?_ | refine n2 (fun b _ => ?_) | refine n3 (fun _ _ => ?_) | refine n4 ?_ | refine n5 ?_ | refine WL_nil ?_ | refine W_seq ?_ | refine W_region ?_ | refine n7 ?_ | refine n8 ?_ | refine W_block ?_ | refine W_skip ?_ | refine W_ret ?_ | refine W_exit ?_ | refine WQ_then ?_ | refine WQ_then_ret ?_ | refine WQ_then_exit ?_ | refine WQ_block_normal ?_ | refine WQ_block_ret ?_ | refine WQ_block_exit ?_ | refine n9 ?_)
    (first | refine n1 ?_ | refine n2 (fun b _ => ?_) | refine n3 (fun _ _ => ?_) | refine n4 ?_ | refine n5 ?_ | refine WL_nil ?_ | refine W_seq ?_ | refine W_region ?_ | refine n7 ?_ | refine n8 ?_ | refine W_block ?_ | refine W_skip ?_ | refine W_ret ?_ | refine W_exit ?_ | refine WQ_then ?_ | refine WQ_then_ret ?_ | refine WQ_then_exit ?_ | refine WQ_block_normal ?_ | refine WQ_block_ret ?_ | refine WQ_block_exit ?_ | refine n9 ?_)
    (first | refine n1 ?_ | refine n2 (fun b _ => ?_) | refine n3 (fun _ _ => ?_) | refine n4 ?_ | refine n5 ?_ | refine WL_nil ?_ | refine W_seq ?_ | refine W_region ?_ | refine n7 ?_ | refine n8 ?_ | refine W_block ?_ | refine W_skip ?_ | refine W_ret ?_ | refine W_exit ?_ | refine WQ_then ?_ | refine WQ_then_ret ?_ | refine WQ_then_exit ?_ | refine WQ_block_normal ?_ | refine WQ_block_ret ?_ | refine WQ_block_exit ?_ | refine n9 ?_)
    obtain ⟨b1, rfl⟩ : ∃ b1, b1 = b := ⟨b, rfl⟩
    repeat (first | refine n1 ?_ | refine n2 (fun b _ => ?_) | refine n3 (fun _ _ => ?_) | refine n4 ?_ | refine n5 ?_ | refine n6 (hk) ?_ | refine n6v (hk) ?_ | refine WL_nil ?_ | refine W_seq ?_ | refine W_region ?_ | refine n7 ?_ | refine n8 ?_ | refine W_block ?_ | refine W_skip ?_ | refine W_ret ?_ | refine W_exit ?_ | refine WQ_then ?_ | refine WQ_then_ret ?_ | refine WQ_then_exit ?_ | refine WQ_block_normal ?_ | refine WQ_block_ret ?_ | refine WQ_block_exit ?_ | refine n9 ?_)
    obtain ⟨b5, rfl⟩ : ∃ b5, b5 = b := ⟨b, rfl⟩
    refine WL_effs rfl rfl rfl (E_callOB (Γb := [.blk b5 32 h.cells]) rfl (by intro _ _; simp) (hpl b5) (perm1 (by repeat' (first | exact Pick.head _ _ | apply Pick.tail))) (Bor.ent (Bor.blks (bs := [(b5, 32, h.cells)])) (AllE.cons (Ent.mem (by repeat' (first | exact mcs | apply mct))) (AllE.nil _))) (fun _ => rfl)) ?_
    intro b6 _
    repeat ((fail_if_success apply W_isReg 6); (first | refine n1 ?_ | refine n2 (fun b _ => ?_) | refine n3 (fun _ _ => ?_) | refine n4 ?_ | refine n5 ?_ | refine WL_nil ?_ | refine W_seq ?_ | refine W_region ?_ | refine n7 ?_ | refine n8 ?_ | refine W_block ?_ | refine W_skip ?_ | refine W_ret ?_ | refine W_exit ?_ | refine WQ_then ?_ | refine WQ_then_ret ?_ | refine WQ_then_exit ?_ | refine WQ_block_normal ?_ | refine WQ_block_ret ?_ | refine WQ_block_exit ?_ | refine n9 ?_))
    ((apply W_cutKT (X := Unit) [] [] (fun _ => True) (fun _ => [(31, .slice (some ⟨b6, 0, none⟩) (adN h) 4), (32, .int .i64 (adN h : Int)), (33, .int .i64 0)]) (fun _ => []) (fun _ => [])); exact rfl; exact rfl; (intro _; exact rfl); (intro _; exact rfl); (intro _; exact rfl))
    · cases hf : fourB h
      · have e1 : aftV b6 h = .slice none 0 0 := by unfold aftV; rw [hf]; rfl
        have e2 : adN h = befN h := by unfold adN; rw [hf]; rfl
        rw [e1, e2]
        unfold befV
        repeat (first | refine n1 ?_ | refine n2 (fun b _ => ?_) | refine n3 (fun _ _ => ?_) | refine n4 ?_ | refine n5 ?_ | refine WL_nil ?_ | refine W_seq ?_ | refine W_region ?_ | refine n7 ?_ | refine n8 ?_ | refine W_block ?_ | refine W_skip ?_ | refine W_ret ?_ | refine W_exit ?_ | refine WQ_then ?_ | refine WQ_then_ret ?_ | refine WQ_then_exit ?_ | refine WQ_block_normal ?_ | refine WQ_block_ret ?_ | refine WQ_block_exit ?_ | refine n9 ?_)
        refine WL_runs rfl rfl rfl (R_appendNone rfl rfl rfl rfl (Nat.ble_eq_true_of_le (by omega))) ?_
        repeat (first | refine n1 ?_ | refine n2 (fun b _ => ?_) | refine n3 (fun _ _ => ?_) | refine n4 ?_ | refine n5 ?_ | refine WL_nil ?_ | refine W_seq ?_ | refine W_region ?_ | refine n7 ?_ | refine n8 ?_ | refine W_block ?_ | refine W_skip ?_ | refine W_ret ?_ | refine W_exit ?_ | refine WQ_then ?_ | refine WQ_then_ret ?_ | refine WQ_then_exit ?_ | refine WQ_block_normal ?_ | refine WQ_block_ret ?_ | refine WQ_block_exit ?_ | refine n9 ?_)
        ((apply WQ_meet (())); (focus (first | trivial | omega | assumption | exact ⟨by omega, by omega⟩ | (simp; done))); (focus (repeat (first | exact FrIn.nil _ | (apply FrIn.cons; exact rfl; (first | exact rfl | (congr 1; first | omega | (dsimp only; omega)) | (simp; done)))))); (focus (repeat (first | exact SubO.nil _ | (apply SubO.cons; (focus (repeat' (first | exact Pick.head _ _ | apply Pick.tail))))))); (focus (repeat (first | exact AllE.nil _ | (apply AllE.cons; (focus (first | exact ent_nilBy | exact ent_nilSl | (apply Ent.mem; repeat' (first | exact mcs | apply mct)))))))))
      · have e1 : aftV b6 h = .slice (some ⟨b6, 3, none⟩) 1 1 := by unfold aftV; rw [hf]; rfl
        have e2 : adN h = 4 := by unfold adN; rw [hf]; rfl
        have hk2 : ctlB h = false ∧ ctsB h = false := by
          unfold fourB at hf
          rw [Bool.and_eq_true, decide_eq_true_eq] at hf
          exact ⟨decide_eq_false (by omega), decide_eq_false (by omega)⟩
        have e3 : befN h = 3 := by unfold befN; rw [hk2.1, hk2.2]; rfl
        have e4 : befV b6 h = .slice (some ⟨b6, 0, none⟩) 3 4 := by unfold befV; rw [e3]
        rw [e1, e2, e4]
        repeat (first | refine n1 ?_ | refine n2 (fun b _ => ?_) | refine n3 (fun _ _ => ?_) | refine n4 ?_ | refine n5 ?_ | refine WL_nil ?_ | refine W_seq ?_ | refine W_region ?_ | refine n7 ?_ | refine n8 ?_ | refine W_block ?_ | refine W_skip ?_ | refine W_ret ?_ | refine W_exit ?_ | refine WQ_then ?_ | refine WQ_then_ret ?_ | refine WQ_then_exit ?_ | refine WQ_block_normal ?_ | refine WQ_block_ret ?_ | refine WQ_block_exit ?_ | refine n9 ?_)
        refine WL_effs rfl rfl rfl (E_appendBlk (cs := plcC b5) (n := 3) (m := 1) (o := 3) (news := [.pointer (some ⟨b5, 28, none⟩)]) (ds := plcC b5) rfl rfl (by repeat' (first | exact Pick.head _ _ | apply Pick.tail)) rfl rfl rfl rfl rfl rfl rfl (by intro u hu; rw [List.mem_singleton] at hu; subst hu; rfl) rfl) ?_
        intro _ _
        repeat (first | refine n1 ?_ | refine n2 (fun b _ => ?_) | refine n3 (fun _ _ => ?_) | refine n4 ?_ | refine n5 ?_ | refine WL_nil ?_ | refine W_seq ?_ | refine W_region ?_ | refine n7 ?_ | refine n8 ?_ | refine W_block ?_ | refine W_skip ?_ | refine W_ret ?_ | refine W_exit ?_ | refine WQ_then ?_ | refine WQ_then_ret ?_ | refine WQ_then_exit ?_ | refine WQ_block_normal ?_ | refine WQ_block_ret ?_ | refine WQ_block_exit ?_ | refine n9 ?_)
        ((apply WQ_meet (())); (focus (first | trivial | omega | assumption | exact ⟨by omega, by omega⟩ | (simp; done))); (focus (repeat (first | exact FrIn.nil _ | (apply FrIn.cons; exact rfl; (first | exact rfl | (congr 1; first | omega | (dsimp only; omega)) | (simp; done)))))); (focus (repeat (first | exact SubO.nil _ | (apply SubO.cons; (focus (repeat' (first | exact Pick.head _ _ | apply Pick.tail))))))); (focus (repeat (first | exact AllE.nil _ | (apply AllE.cons; (focus (first | exact ent_nilBy | exact ent_nilSl | (apply Ent.mem; repeat' (first | exact mcs | apply mct)))))))))
    · intro _ _
      repeat (first | refine n1 ?_ | refine n2 (fun b _ => ?_) | refine n3 (fun _ _ => ?_) | refine n4 ?_ | refine n5 ?_ | refine WL_nil ?_ | refine W_seq ?_ | refine W_region ?_ | refine n7 ?_ | refine n8 ?_ | refine W_block ?_ | refine W_skip ?_ | refine W_ret ?_ | refine W_exit ?_ | refine WQ_then ?_ | refine WQ_then_ret ?_ | refine WQ_then_exit ?_ | refine WQ_block_normal ?_ | refine WQ_block_ret ?_ | refine WQ_block_exit ?_ | refine n9 ?_)
      ((apply W_loopK (X := Nat) [33] [1] (fun x => x ≤ adN h) (fun x => [(33, .int .i64 (x : Int))]) (fun x => [.blk b5 32 (zadH x h).cells]) (fun _ => []) (fun x => adN h - x) (0)); (focus exact Nat.zero_le _); exact rfl; exact rfl; (intro _; exact rfl); (intro _; exact rfl); (intro _; exact rfl); (focus (repeat (first | exact FrIn.nil _ | (apply FrIn.cons; exact rfl; (first | exact rfl | (congr 1; first | omega | (dsimp only; omega)) | (simp; done)))))); (focus (repeat (first | exact SubO.nil _ | (apply SubO.cons; (focus (repeat' (first | exact Pick.head _ _ | apply Pick.tail))))))); (focus (repeat (first | exact AllE.nil _ | (apply AllE.cons; (focus (first | exact ent_nilBy | exact ent_nilSl | (apply Ent.mem; repeat' (first | exact mcs | apply mct)))))))); intro x hx)
      by_cases c1 : x < adN h
      · have hx4 : x = 0 ∨ x = 1 ∨ x = 2 ∨ x = 3 := by omega
        rcases hx4 with rfl | rfl | rfl | rfl
        · repeat (first | refine n1 ?_ | refine n2 (fun b _ => ?_) | refine n3 (fun _ _ => ?_) | refine n4 ?_ | refine n5 ?_ | refine WL_nil ?_ | refine W_seq ?_ | refine W_region ?_ | refine n7 ?_ | refine n8 ?_ | refine W_block ?_ | refine W_skip ?_ | refine W_ret ?_ | refine W_exit ?_ | refine WQ_then ?_ | refine WQ_then_ret ?_ | refine WQ_then_exit ?_ | refine WQ_block_normal ?_ | refine WQ_block_ret ?_ | refine WQ_block_exit ?_ | refine n9 ?_)
          refine WL_runs rfl rfl rfl (R_idxLit (i := 0) rfl rfl rfl (by intro _; rfl) rfl (by omega)) ?_
          repeat (first | refine n1 ?_ | refine n2 (fun b _ => ?_) | refine n3 (fun _ _ => ?_) | refine n4 ?_ | refine n5 ?_ | refine WL_nil ?_ | refine W_seq ?_ | refine W_region ?_ | refine n7 ?_ | refine n8 ?_ | refine W_block ?_ | refine W_skip ?_ | refine W_ret ?_ | refine W_exit ?_ | refine WQ_then ?_ | refine WQ_then_ret ?_ | refine WQ_then_exit ?_ | refine WQ_block_normal ?_ | refine WQ_block_ret ?_ | refine WQ_block_exit ?_ | refine n9 ?_)
          ((apply WQ_again (0 + 1)); (focus (first | trivial | omega | assumption | exact ⟨by omega, by omega⟩ | (simp; done))); (focus (omega)); (focus (repeat (first | exact FrIn.nil _ | (apply FrIn.cons; exact rfl; (first | exact rfl | (congr 1; first | omega | (dsimp only; omega)) | (simp; done)))))); (focus (repeat (first | exact SubO.nil _ | (apply SubO.cons; (focus (repeat' (first | exact Pick.head _ _ | apply Pick.tail))))))); (focus (repeat (first | exact AllE.nil _ | (apply AllE.cons; (focus (first | exact ent_nilBy | exact ent_nilSl | (apply Ent.mem; repeat' (first | exact mcs | apply mct)))))))))
        · repeat (first | refine n1 ?_ | refine n2 (fun b _ => ?_) | refine n3 (fun _ _ => ?_) | refine n4 ?_ | refine n5 ?_ | refine WL_nil ?_ | refine W_seq ?_ | refine W_region ?_ | refine n7 ?_ | refine n8 ?_ | refine W_block ?_ | refine W_skip ?_ | refine W_ret ?_ | refine W_exit ?_ | refine WQ_then ?_ | refine WQ_then_ret ?_ | refine WQ_then_exit ?_ | refine WQ_block_normal ?_ | refine WQ_block_ret ?_ | refine WQ_block_exit ?_ | refine n9 ?_)
          refine WL_runs rfl rfl rfl (R_idxLit (i := 1) rfl rfl rfl (by intro _; rfl) rfl (by omega)) ?_
          repeat (first | refine n1 ?_ | refine n2 (fun b _ => ?_) | refine n3 (fun _ _ => ?_) | refine n4 ?_ | refine n5 ?_ | refine WL_nil ?_ | refine W_seq ?_ | refine W_region ?_ | refine n7 ?_ | refine n8 ?_ | refine W_block ?_ | refine W_skip ?_ | refine W_ret ?_ | refine W_exit ?_ | refine WQ_then ?_ | refine WQ_then_ret ?_ | refine WQ_then_exit ?_ | refine WQ_block_normal ?_ | refine WQ_block_ret ?_ | refine WQ_block_exit ?_ | refine n9 ?_)
          ((apply WQ_again (1 + 1)); (focus (first | trivial | omega | assumption | exact ⟨by omega, by omega⟩ | (simp; done))); (focus (omega)); (focus (repeat (first | exact FrIn.nil _ | (apply FrIn.cons; exact rfl; (first | exact rfl | (congr 1; first | omega | (dsimp only; omega)) | (simp; done)))))); (focus (repeat (first | exact SubO.nil _ | (apply SubO.cons; (focus (repeat' (first | exact Pick.head _ _ | apply Pick.tail))))))); (focus (repeat (first | exact AllE.nil _ | (apply AllE.cons; (focus (first | exact ent_nilBy | exact ent_nilSl | (apply Ent.mem; repeat' (first | exact mcs | apply mct)))))))))
        · repeat (first | refine n1 ?_ | refine n2 (fun b _ => ?_) | refine n3 (fun _ _ => ?_) | refine n4 ?_ | refine n5 ?_ | refine WL_nil ?_ | refine W_seq ?_ | refine W_region ?_ | refine n7 ?_ | refine n8 ?_ | refine W_block ?_ | refine W_skip ?_ | refine W_ret ?_ | refine W_exit ?_ | refine WQ_then ?_ | refine WQ_then_ret ?_ | refine WQ_then_exit ?_ | refine WQ_block_normal ?_ | refine WQ_block_ret ?_ | refine WQ_block_exit ?_ | refine n9 ?_)
          refine WL_runs rfl rfl rfl (R_idxLit (i := 2) rfl rfl rfl (by intro _; rfl) rfl (by omega)) ?_
          repeat (first | refine n1 ?_ | refine n2 (fun b _ => ?_) | refine n3 (fun _ _ => ?_) | refine n4 ?_ | refine n5 ?_ | refine WL_nil ?_ | refine W_seq ?_ | refine W_region ?_ | refine n7 ?_ | refine n8 ?_ | refine W_block ?_ | refine W_skip ?_ | refine W_ret ?_ | refine W_exit ?_ | refine WQ_then ?_ | refine WQ_then_ret ?_ | refine WQ_then_exit ?_ | refine WQ_block_normal ?_ | refine WQ_block_ret ?_ | refine WQ_block_exit ?_ | refine n9 ?_)
          ((apply WQ_again (2 + 1)); (focus (first | trivial | omega | assumption | exact ⟨by omega, by omega⟩ | (simp; done))); (focus (omega)); (focus (repeat (first | exact FrIn.nil _ | (apply FrIn.cons; exact rfl; (first | exact rfl | (congr 1; first | omega | (dsimp only; omega)) | (simp; done)))))); (focus (repeat (first | exact SubO.nil _ | (apply SubO.cons; (focus (repeat' (first | exact Pick.head _ _ | apply Pick.tail))))))); (focus (repeat (first | exact AllE.nil _ | (apply AllE.cons; (focus (first | exact ent_nilBy | exact ent_nilSl | (apply Ent.mem; repeat' (first | exact mcs | apply mct)))))))))
        · repeat (first | refine n1 ?_ | refine n2 (fun b _ => ?_) | refine n3 (fun _ _ => ?_) | refine n4 ?_ | refine n5 ?_ | refine WL_nil ?_ | refine W_seq ?_ | refine W_region ?_ | refine n7 ?_ | refine n8 ?_ | refine W_block ?_ | refine W_skip ?_ | refine W_ret ?_ | refine W_exit ?_ | refine WQ_then ?_ | refine WQ_then_ret ?_ | refine WQ_then_exit ?_ | refine WQ_block_normal ?_ | refine WQ_block_ret ?_ | refine WQ_block_exit ?_ | refine n9 ?_)
          refine WL_runs rfl rfl rfl (R_idxLit (i := 3) rfl rfl rfl (by intro _; rfl) rfl (by omega)) ?_
          repeat (first | refine n1 ?_ | refine n2 (fun b _ => ?_) | refine n3 (fun _ _ => ?_) | refine n4 ?_ | refine n5 ?_ | refine WL_nil ?_ | refine W_seq ?_ | refine W_region ?_ | refine n7 ?_ | refine n8 ?_ | refine W_block ?_ | refine W_skip ?_ | refine W_ret ?_ | refine W_exit ?_ | refine WQ_then ?_ | refine WQ_then_ret ?_ | refine WQ_then_exit ?_ | refine WQ_block_normal ?_ | refine WQ_block_ret ?_ | refine WQ_block_exit ?_ | refine n9 ?_)
          ((apply WQ_again (3 + 1)); (focus (first | trivial | omega | assumption | exact ⟨by omega, by omega⟩ | (simp; done))); (focus (omega)); (focus (repeat (first | exact FrIn.nil _ | (apply FrIn.cons; exact rfl; (first | exact rfl | (congr 1; first | omega | (dsimp only; omega)) | (simp; done)))))); (focus (repeat (first | exact SubO.nil _ | (apply SubO.cons; (focus (repeat' (first | exact Pick.head _ _ | apply Pick.tail))))))); (focus (repeat (first | exact AllE.nil _ | (apply AllE.cons; (focus (first | exact ent_nilBy | exact ent_nilSl | (apply Ent.mem; repeat' (first | exact mcs | apply mct)))))))))
      · obtain rfl : x = adN h := by omega
        clear hx c1 hb3 hn4 hpl hrest hk
        generalize adN h = n at *
        repeat ((fail_if_success apply W_isIf); (first | refine n1 ?_ | refine n2 (fun b _ => ?_) | refine n3 (fun _ _ => ?_) | refine n4 ?_ | refine n5 ?_ | refine WL_nil ?_ | refine W_seq ?_ | refine W_region ?_ | refine n7 ?_ | refine n8 ?_ | refine W_block ?_ | refine W_skip ?_ | refine W_ret ?_ | refine W_exit ?_ | refine WQ_then ?_ | refine WQ_then_ret ?_ | refine WQ_then_exit ?_ | refine WQ_block_normal ?_ | refine WQ_block_ret ?_ | refine WQ_block_exit ?_ | refine n9 ?_))
        ((apply W_cutK (X := Unit) [] [0] (fun _ => True) (fun _ => []) (fun _ => [.blk b5 32 (restP n p false false h).cells]) (fun _ => [])); exact rfl; exact rfl; (intro _; exact rfl); (intro _; exact rfl); (intro _; exact rfl))
        · by_cases k2 : h.kind.toNat = 2
          · rw [decide_eq_true k2] at hp
            subst hp
            repeat (first | refine n1 ?_ | refine n2 (fun b _ => ?_) | refine n3 (fun _ _ => ?_) | refine n4 ?_ | refine n5 ?_ | refine WL_nil ?_ | refine W_seq ?_ | refine W_region ?_ | refine n7 ?_ | refine n8 ?_ | refine W_block ?_ | refine W_skip ?_ | refine W_ret ?_ | refine W_exit ?_ | refine WQ_then ?_ | refine WQ_then_ret ?_ | refine WQ_then_exit ?_ | refine WQ_block_normal ?_ | refine WQ_block_ret ?_ | refine WQ_block_exit ?_ | refine n9 ?_)
            ((apply WQ_meet (())); (focus (first | trivial | omega | assumption | exact ⟨by omega, by omega⟩ | (simp; done))); (focus (repeat (first | exact FrIn.nil _ | (apply FrIn.cons; exact rfl; (first | exact rfl | (congr 1; first | omega | (dsimp only; omega)) | (simp; done)))))); (focus (repeat (first | exact SubO.nil _ | (apply SubO.cons; (focus (repeat' (first | exact Pick.head _ _ | apply Pick.tail))))))); (focus (repeat (first | exact AllE.nil _ | (apply AllE.cons; (focus (first | exact ent_nilBy | exact ent_nilSl | (apply Ent.mem; repeat' (first | exact mcs | apply mct)))))))))
          · rw [decide_eq_false k2] at hp
            subst hp
            repeat (first | refine n1 ?_ | refine n2 (fun b _ => ?_) | refine n3 (fun _ _ => ?_) | refine n4 ?_ | refine n5 ?_ | refine WL_nil ?_ | refine W_seq ?_ | refine W_region ?_ | refine n7 ?_ | refine n8 ?_ | refine W_block ?_ | refine W_skip ?_ | refine W_ret ?_ | refine W_exit ?_ | refine WQ_then ?_ | refine WQ_then_ret ?_ | refine WQ_then_exit ?_ | refine WQ_block_normal ?_ | refine WQ_block_ret ?_ | refine WQ_block_exit ?_ | refine n9 ?_)
            ((apply WQ_meet (())); (focus (first | trivial | omega | assumption | exact ⟨by omega, by omega⟩ | (simp; done))); (focus (repeat (first | exact FrIn.nil _ | (apply FrIn.cons; exact rfl; (first | exact rfl | (congr 1; first | omega | (dsimp only; omega)) | (simp; done)))))); (focus (repeat (first | exact SubO.nil _ | (apply SubO.cons; (focus (repeat' (first | exact Pick.head _ _ | apply Pick.tail))))))); (focus (repeat (first | exact AllE.nil _ | (apply AllE.cons; (focus (first | exact ent_nilBy | exact ent_nilSl | (apply Ent.mem; repeat' (first | exact mcs | apply mct)))))))))
        · intro _ _
          ((apply W_cutK (X := Unit) [] [0] (fun _ => True) (fun _ => []) (fun _ => [.blk b5 32 (restP n p q false h).cells]) (fun _ => [])); exact rfl; exact rfl; (intro _; exact rfl); (intro _; exact rfl); (intro _; exact rfl))
          · cases q
            · repeat (first | refine n1 ?_ | refine n2 (fun b _ => ?_) | refine n3 (fun _ _ => ?_) | refine n4 ?_ | refine n5 ?_ | refine WL_nil ?_ | refine W_seq ?_ | refine W_region ?_ | refine n7 ?_ | refine n8 ?_ | refine W_block ?_ | refine W_skip ?_ | refine W_ret ?_ | refine W_exit ?_ | refine WQ_then ?_ | refine WQ_then_ret ?_ | refine WQ_then_exit ?_ | refine WQ_block_normal ?_ | refine WQ_block_ret ?_ | refine WQ_block_exit ?_ | refine n9 ?_)
              ((apply WQ_meet (())); (focus (first | trivial | omega | assumption | exact ⟨by omega, by omega⟩ | (simp; done))); (focus (repeat (first | exact FrIn.nil _ | (apply FrIn.cons; exact rfl; (first | exact rfl | (congr 1; first | omega | (dsimp only; omega)) | (simp; done)))))); (focus (repeat (first | exact SubO.nil _ | (apply SubO.cons; (focus (repeat' (first | exact Pick.head _ _ | apply Pick.tail))))))); (focus (repeat (first | exact AllE.nil _ | (apply AllE.cons; (focus (first | exact ent_nilBy | exact ent_nilSl | (apply Ent.mem; repeat' (first | exact mcs | apply mct)))))))))
            · repeat (first | refine n1 ?_ | refine n2 (fun b _ => ?_) | refine n3 (fun _ _ => ?_) | refine n4 ?_ | refine n5 ?_ | refine WL_nil ?_ | refine W_seq ?_ | refine W_region ?_ | refine n7 ?_ | refine n8 ?_ | refine W_block ?_ | refine W_skip ?_ | refine W_ret ?_ | refine W_exit ?_ | refine WQ_then ?_ | refine WQ_then_ret ?_ | refine WQ_then_exit ?_ | refine WQ_block_normal ?_ | refine WQ_block_ret ?_ | refine WQ_block_exit ?_ | refine n9 ?_)
              ((apply WQ_meet (())); (focus (first | trivial | omega | assumption | exact ⟨by omega, by omega⟩ | (simp; done))); (focus (repeat (first | exact FrIn.nil _ | (apply FrIn.cons; exact rfl; (first | exact rfl | (congr 1; first | omega | (dsimp only; omega)) | (simp; done)))))); (focus (repeat (first | exact SubO.nil _ | (apply SubO.cons; (focus (repeat' (first | exact Pick.head _ _ | apply Pick.tail))))))); (focus (repeat (first | exact AllE.nil _ | (apply AllE.cons; (focus (first | exact ent_nilBy | exact ent_nilSl | (apply Ent.mem; repeat' (first | exact mcs | apply mct)))))))))
          · intro _ _
            ((apply W_cutK (X := Unit) [] [0] (fun _ => True) (fun _ => []) (fun _ => [.blk b5 32 (restP n p q r h).cells]) (fun _ => [])); exact rfl; exact rfl; (intro _; exact rfl); (intro _; exact rfl); (intro _; exact rfl))
            · cases r
              · repeat (first | refine n1 ?_ | refine n2 (fun b _ => ?_) | refine n3 (fun _ _ => ?_) | refine n4 ?_ | refine n5 ?_ | refine WL_nil ?_ | refine W_seq ?_ | refine W_region ?_ | refine n7 ?_ | refine n8 ?_ | refine W_block ?_ | refine W_skip ?_ | refine W_ret ?_ | refine W_exit ?_ | refine WQ_then ?_ | refine WQ_then_ret ?_ | refine WQ_then_exit ?_ | refine WQ_block_normal ?_ | refine WQ_block_ret ?_ | refine WQ_block_exit ?_ | refine n9 ?_)
                ((apply WQ_meet (())); (focus (first | trivial | omega | assumption | exact ⟨by omega, by omega⟩ | (simp; done))); (focus (repeat (first | exact FrIn.nil _ | (apply FrIn.cons; exact rfl; (first | exact rfl | (congr 1; first | omega | (dsimp only; omega)) | (simp; done)))))); (focus (repeat (first | exact SubO.nil _ | (apply SubO.cons; (focus (repeat' (first | exact Pick.head _ _ | apply Pick.tail))))))); (focus (repeat (first | exact AllE.nil _ | (apply AllE.cons; (focus (first | exact ent_nilBy | exact ent_nilSl | (apply Ent.mem; repeat' (first | exact mcs | apply mct)))))))))
              · repeat (first | refine n1 ?_ | refine n2 (fun b _ => ?_) | refine n3 (fun _ _ => ?_) | refine n4 ?_ | refine n5 ?_ | refine WL_nil ?_ | refine W_seq ?_ | refine W_region ?_ | refine n7 ?_ | refine n8 ?_ | refine W_block ?_ | refine W_skip ?_ | refine W_ret ?_ | refine W_exit ?_ | refine WQ_then ?_ | refine WQ_then_ret ?_ | refine WQ_then_exit ?_ | refine WQ_block_normal ?_ | refine WQ_block_ret ?_ | refine WQ_block_exit ?_ | refine n9 ?_)
                ((apply WQ_meet (())); (focus (first | trivial | omega | assumption | exact ⟨by omega, by omega⟩ | (simp; done))); (focus (repeat (first | exact FrIn.nil _ | (apply FrIn.cons; exact rfl; (first | exact rfl | (congr 1; first | omega | (dsimp only; omega)) | (simp; done)))))); (focus (repeat (first | exact SubO.nil _ | (apply SubO.cons; (focus (repeat' (first | exact Pick.head _ _ | apply Pick.tail))))))); (focus (repeat (first | exact AllE.nil _ | (apply AllE.cons; (focus (first | exact ent_nilBy | exact ent_nilSl | (apply Ent.mem; repeat' (first | exact mcs | apply mct)))))))))
            · intro _ _
              repeat ((fail_if_success apply W_isReg 19); (first | refine n1 ?_ | refine n2 (fun b _ => ?_) | refine n3 (fun _ _ => ?_) | refine n4 ?_ | refine n5 ?_ | refine WL_nil ?_ | refine W_seq ?_ | refine W_region ?_ | refine n7 ?_ | refine n8 ?_ | refine W_block ?_ | refine W_skip ?_ | refine W_ret ?_ | refine W_exit ?_ | refine WQ_then ?_ | refine WQ_then_ret ?_ | refine WQ_then_exit ?_ | refine WQ_block_normal ?_ | refine WQ_block_ret ?_ | refine WQ_block_exit ?_ | refine n9 ?_))
              ((apply W_cutKT (X := Unit) [] [] (fun _ => True) (fun _ => [(11, .bool (rngB h))]) (fun _ => []) (fun _ => [])); exact rfl; exact rfl; (intro _; exact rfl); (intro _; exact rfl); (intro _; exact rfl))
              · have g1 := in_fn h.dur 32767
                have g2 := in_fn h.seq 4095
                have g3 := in_fn h.frag 15
                have g4 := in_fn h.tid 7
                unfold rngB
                generalize decide (0 ≤ h.dur ∧ h.dur ≤ 32767) = d1 at *
                generalize decide (0 ≤ h.seq ∧ h.seq ≤ 4095) = d2 at *
                generalize decide (0 ≤ h.frag ∧ h.frag ≤ 15) = d3 at *
                generalize decide (0 ≤ h.tid ∧ h.tid ≤ 7) = d4 at *
                cases d1
                · repeat (first | refine n1 ?_ | refine n2 (fun b _ => ?_) | refine n3 (fun _ _ => ?_) | refine n4 ?_ | refine n5 ?_ | refine n6 (g1) ?_ | refine n6v (g1) ?_ | refine WL_nil ?_ | refine W_seq ?_ | refine W_region ?_ | refine n7 ?_ | refine n8 ?_ | refine W_block ?_ | refine W_skip ?_ | refine W_ret ?_ | refine W_exit ?_ | refine WQ_then ?_ | refine WQ_then_ret ?_ | refine WQ_then_exit ?_ | refine WQ_block_normal ?_ | refine WQ_block_ret ?_ | refine WQ_block_exit ?_ | refine n9 ?_)
                  ((apply WQ_meet (())); (focus (first | trivial | omega | assumption | exact ⟨by omega, by omega⟩ | (simp; done))); (focus (repeat (first | exact FrIn.nil _ | (apply FrIn.cons; exact rfl; (first | exact rfl | (congr 1; first | omega | (dsimp only; omega)) | (simp; done)))))); (focus (repeat (first | exact SubO.nil _ | (apply SubO.cons; (focus (repeat' (first | exact Pick.head _ _ | apply Pick.tail))))))); (focus (repeat (first | exact AllE.nil _ | (apply AllE.cons; (focus (first | exact ent_nilBy | exact ent_nilSl | (apply Ent.mem; repeat' (first | exact mcs | apply mct)))))))))
                · cases d2
                  · repeat (first | refine n1 ?_ | refine n2 (fun b _ => ?_) | refine n3 (fun _ _ => ?_) | refine n4 ?_ | refine n5 ?_ | refine n6 (g1) ?_ | refine n6 (g2) ?_ | refine n6v (g1) ?_ | refine n6v (g2) ?_ | refine WL_nil ?_ | refine W_seq ?_ | refine W_region ?_ | refine n7 ?_ | refine n8 ?_ | refine W_block ?_ | refine W_skip ?_ | refine W_ret ?_ | refine W_exit ?_ | refine WQ_then ?_ | refine WQ_then_ret ?_ | refine WQ_then_exit ?_ | refine WQ_block_normal ?_ | refine WQ_block_ret ?_ | refine WQ_block_exit ?_ | refine n9 ?_)
                    ((apply WQ_meet (())); (focus (first | trivial | omega | assumption | exact ⟨by omega, by omega⟩ | (simp; done))); (focus (repeat (first | exact FrIn.nil _ | (apply FrIn.cons; exact rfl; (first | exact rfl | (congr 1; first | omega | (dsimp only; omega)) | (simp; done)))))); (focus (repeat (first | exact SubO.nil _ | (apply SubO.cons; (focus (repeat' (first | exact Pick.head _ _ | apply Pick.tail))))))); (focus (repeat (first | exact AllE.nil _ | (apply AllE.cons; (focus (first | exact ent_nilBy | exact ent_nilSl | (apply Ent.mem; repeat' (first | exact mcs | apply mct)))))))))
                  · cases d3
                    · repeat (first | refine n1 ?_ | refine n2 (fun b _ => ?_) | refine n3 (fun _ _ => ?_) | refine n4 ?_ | refine n5 ?_ | refine n6 (g1) ?_ | refine n6 (g2) ?_ | refine n6 (g3) ?_ | refine n6v (g1) ?_ | refine n6v (g2) ?_ | refine n6v (g3) ?_ | refine WL_nil ?_ | refine W_seq ?_ | refine W_region ?_ | refine n7 ?_ | refine n8 ?_ | refine W_block ?_ | refine W_skip ?_ | refine W_ret ?_ | refine W_exit ?_ | refine WQ_then ?_ | refine WQ_then_ret ?_ | refine WQ_then_exit ?_ | refine WQ_block_normal ?_ | refine WQ_block_ret ?_ | refine WQ_block_exit ?_ | refine n9 ?_)
                      ((apply WQ_meet (())); (focus (first | trivial | omega | assumption | exact ⟨by omega, by omega⟩ | (simp; done))); (focus (repeat (first | exact FrIn.nil _ | (apply FrIn.cons; exact rfl; (first | exact rfl | (congr 1; first | omega | (dsimp only; omega)) | (simp; done)))))); (focus (repeat (first | exact SubO.nil _ | (apply SubO.cons; (focus (repeat' (first | exact Pick.head _ _ | apply Pick.tail))))))); (focus (repeat (first | exact AllE.nil _ | (apply AllE.cons; (focus (first | exact ent_nilBy | exact ent_nilSl | (apply Ent.mem; repeat' (first | exact mcs | apply mct)))))))))
                    · cases d4
                      · repeat (first | refine n1 ?_ | refine n2 (fun b _ => ?_) | refine n3 (fun _ _ => ?_) | refine n4 ?_ | refine n5 ?_ | refine n6 (g1) ?_ | refine n6 (g2) ?_ | refine n6 (g3) ?_ | refine n6 (g4) ?_ | refine n6v (g1) ?_ | refine n6v (g2) ?_ | refine n6v (g3) ?_ | refine n6v (g4) ?_ | refine WL_nil ?_ | refine W_seq ?_ | refine W_region ?_ | refine n7 ?_ | refine n8 ?_ | refine W_block ?_ | refine W_skip ?_ | refine W_ret ?_ | refine W_exit ?_ | refine WQ_then ?_ | refine WQ_then_ret ?_ | refine WQ_then_exit ?_ | refine WQ_block_normal ?_ | refine WQ_block_ret ?_ | refine WQ_block_exit ?_ | refine n9 ?_)
                        ((apply WQ_meet (())); (focus (first | trivial | omega | assumption | exact ⟨by omega, by omega⟩ | (simp; done))); (focus (repeat (first | exact FrIn.nil _ | (apply FrIn.cons; exact rfl; (first | exact rfl | (congr 1; first | omega | (dsimp only; omega)) | (simp; done)))))); (focus (repeat (first | exact SubO.nil _ | (apply SubO.cons; (focus (repeat' (first | exact Pick.head _ _ | apply Pick.tail))))))); (focus (repeat (first | exact AllE.nil _ | (apply AllE.cons; (focus (first | exact ent_nilBy | exact ent_nilSl | (apply Ent.mem; repeat' (first | exact mcs | apply mct)))))))))
                      · by_cases d5 : h.ack.toNat ≤ 2
                        · rw [decide_eq_true d5]
                          repeat (first | refine n1 ?_ | refine n2 (fun b _ => ?_) | refine n3 (fun _ _ => ?_) | refine n4 ?_ | refine n5 ?_ | refine n6 (g1) ?_ | refine n6 (g2) ?_ | refine n6 (g3) ?_ | refine n6 (g4) ?_ | refine n6v (g1) ?_ | refine n6v (g2) ?_ | refine n6v (g3) ?_ | refine n6v (g4) ?_ | refine WL_nil ?_ | refine W_seq ?_ | refine W_region ?_ | refine n7 ?_ | refine n8 ?_ | refine W_block ?_ | refine W_skip ?_ | refine W_ret ?_ | refine W_exit ?_ | refine WQ_then ?_ | refine WQ_then_ret ?_ | refine WQ_then_exit ?_ | refine WQ_block_normal ?_ | refine WQ_block_ret ?_ | refine WQ_block_exit ?_ | refine n9 ?_)
                          ((apply WQ_meet (())); (focus (first | trivial | omega | assumption | exact ⟨by omega, by omega⟩ | (simp; done))); (focus (repeat (first | exact FrIn.nil _ | (apply FrIn.cons; exact rfl; (first | exact rfl | (congr 1; first | omega | (dsimp only; omega)) | (simp; done)))))); (focus (repeat (first | exact SubO.nil _ | (apply SubO.cons; (focus (repeat' (first | exact Pick.head _ _ | apply Pick.tail))))))); (focus (repeat (first | exact AllE.nil _ | (apply AllE.cons; (focus (first | exact ent_nilBy | exact ent_nilSl | (apply Ent.mem; repeat' (first | exact mcs | apply mct)))))))))
                        · rw [decide_eq_false d5]
                          repeat (first | refine n1 ?_ | refine n2 (fun b _ => ?_) | refine n3 (fun _ _ => ?_) | refine n4 ?_ | refine n5 ?_ | refine n6 (g1) ?_ | refine n6 (g2) ?_ | refine n6 (g3) ?_ | refine n6 (g4) ?_ | refine n6v (g1) ?_ | refine n6v (g2) ?_ | refine n6v (g3) ?_ | refine n6v (g4) ?_ | refine WL_nil ?_ | refine W_seq ?_ | refine W_region ?_ | refine n7 ?_ | refine n8 ?_ | refine W_block ?_ | refine W_skip ?_ | refine W_ret ?_ | refine W_exit ?_ | refine WQ_then ?_ | refine WQ_then_ret ?_ | refine WQ_then_exit ?_ | refine WQ_block_normal ?_ | refine WQ_block_ret ?_ | refine WQ_block_exit ?_ | refine n9 ?_)
                          ((apply WQ_meet (())); (focus (first | trivial | omega | assumption | exact ⟨by omega, by omega⟩ | (simp; done))); (focus (repeat (first | exact FrIn.nil _ | (apply FrIn.cons; exact rfl; (first | exact rfl | (congr 1; first | omega | (dsimp only; omega)) | (simp; done)))))); (focus (repeat (first | exact SubO.nil _ | (apply SubO.cons; (focus (repeat' (first | exact Pick.head _ _ | apply Pick.tail))))))); (focus (repeat (first | exact AllE.nil _ | (apply AllE.cons; (focus (first | exact ent_nilBy | exact ent_nilSl | (apply Ent.mem; repeat' (first | exact mcs | apply mct)))))))))
              · intro _ _
                ((apply W_cutK (X := Unit) [] [] (fun _ => True) (fun _ => [(12, .bool (whoB h))]) (fun _ => []) (fun _ => [])); exact rfl; exact rfl; (intro _; exact rfl); (intro _; exact rfl); (intro _; exact rfl))
                · unfold whoB
                  cases hm : h.more with
                  | true =>
                    repeat (first | refine n1 ?_ | refine n2 (fun b _ => ?_) | refine n3 (fun _ _ => ?_) | refine n4 ?_ | refine n5 ?_ | refine WL_nil ?_ | refine W_seq ?_ | refine W_region ?_ | refine n7 ?_ | refine n8 ?_ | refine W_block ?_ | refine W_skip ?_ | refine W_ret ?_ | refine W_exit ?_ | refine WQ_then ?_ | refine WQ_then_ret ?_ | refine WQ_then_exit ?_ | refine WQ_block_normal ?_ | refine WQ_block_ret ?_ | refine WQ_block_exit ?_ | refine n9 ?_)
                    ((apply WQ_meet (())); (focus (first | trivial | omega | assumption | exact ⟨by omega, by omega⟩ | (simp; done))); (focus (repeat (first | exact FrIn.nil _ | (apply FrIn.cons; exact rfl; (first | exact rfl | (congr 1; first | omega | (dsimp only; omega)) | (simp; done)))))); (focus (repeat (first | exact SubO.nil _ | (apply SubO.cons; (focus (repeat' (first | exact Pick.head _ _ | apply Pick.tail))))))); (focus (repeat (first | exact AllE.nil _ | (apply AllE.cons; (focus (first | exact ent_nilBy | exact ent_nilSl | (apply Ent.mem; repeat' (first | exact mcs | apply mct)))))))))
                  | false =>
                    by_cases hf : h.frag = 0
                    · rw [decide_eq_true hf]
                      repeat (first | refine n1 ?_ | refine n2 (fun b _ => ?_) | refine n3 (fun _ _ => ?_) | refine n4 ?_ | refine n5 ?_ | refine WL_nil ?_ | refine W_seq ?_ | refine W_region ?_ | refine n7 ?_ | refine n8 ?_ | refine W_block ?_ | refine W_skip ?_ | refine W_ret ?_ | refine W_exit ?_ | refine WQ_then ?_ | refine WQ_then_ret ?_ | refine WQ_then_exit ?_ | refine WQ_block_normal ?_ | refine WQ_block_ret ?_ | refine WQ_block_exit ?_ | refine n9 ?_)
                      ((apply WQ_meet (())); (focus (first | trivial | omega | assumption | exact ⟨by omega, by omega⟩ | (simp; done))); (focus (repeat (first | exact FrIn.nil _ | (apply FrIn.cons; exact rfl; (first | exact rfl | (congr 1; first | omega | (dsimp only; omega)) | (simp; done)))))); (focus (repeat (first | exact SubO.nil _ | (apply SubO.cons; (focus (repeat' (first | exact Pick.head _ _ | apply Pick.tail))))))); (focus (repeat (first | exact AllE.nil _ | (apply AllE.cons; (focus (first | exact ent_nilBy | exact ent_nilSl | (apply Ent.mem; repeat' (first | exact mcs | apply mct)))))))))
                    · rw [decide_eq_false hf]
                      repeat (first | refine n1 ?_ | refine n2 (fun b _ => ?_) | refine n3 (fun _ _ => ?_) | refine n4 ?_ | refine n5 ?_ | refine WL_nil ?_ | refine W_seq ?_ | refine W_region ?_ | refine n7 ?_ | refine n8 ?_ | refine W_block ?_ | refine W_skip ?_ | refine W_ret ?_ | refine W_exit ?_ | refine WQ_then ?_ | refine WQ_then_ret ?_ | refine WQ_then_exit ?_ | refine WQ_block_normal ?_ | refine WQ_block_ret ?_ | refine WQ_block_exit ?_ | refine n9 ?_)
                      ((apply WQ_meet (())); (focus (first | trivial | omega | assumption | exact ⟨by omega, by omega⟩ | (simp; done))); (focus (repeat (first | exact FrIn.nil _ | (apply FrIn.cons; exact rfl; (first | exact rfl | (congr 1; first | omega | (dsimp only; omega)) | (simp; done)))))); (focus (repeat (first | exact SubO.nil _ | (apply SubO.cons; (focus (repeat' (first | exact Pick.head _ _ | apply Pick.tail))))))); (focus (repeat (first | exact AllE.nil _ | (apply AllE.cons; (focus (first | exact ent_nilBy | exact ent_nilSl | (apply Ent.mem; repeat' (first | exact mcs | apply mct)))))))))
                · intro _ _
                  ((apply W_cutK (X := Unit) [] [] (fun _ => True) (fun _ => [(13, .bool (gpsB h))]) (fun _ => []) (fun _ => [])); exact rfl; exact rfl; (intro _; exact rfl); (intro _; exact rfl); (intro _; exact rfl))
                  · have g1 := group_fn h.a1
                    have g2 := group_fn h.a2
                    unfold gpsB
                    generalize grpB h.a1 = d1 at *
                    generalize grpB h.a2 = d2 at *
                    generalize whoB h = wb at *
                    cases d2
                    · cases wb
                      · cases d1
                        · repeat (first | refine n1 ?_ | refine n2 (fun b _ => ?_) | refine n3 (fun _ _ => ?_) | refine n4 ?_ | refine n5 ?_ | refine n6 (g1) ?_ | refine n6 (g2) ?_ | refine n6v (g1) ?_ | refine n6v (g2) ?_ | refine WL_nil ?_ | refine W_seq ?_ | refine W_region ?_ | refine n7 ?_ | refine n8 ?_ | refine W_block ?_ | refine W_skip ?_ | refine W_ret ?_ | refine W_exit ?_ | refine WQ_then ?_ | refine WQ_then_ret ?_ | refine WQ_then_exit ?_ | refine WQ_block_normal ?_ | refine WQ_block_ret ?_ | refine WQ_block_exit ?_ | refine n9 ?_)
                          ((apply WQ_meet (())); (focus (first | trivial | omega | assumption | exact ⟨by omega, by omega⟩ | (simp; done))); (focus (repeat (first | exact FrIn.nil _ | (apply FrIn.cons; exact rfl; (first | exact rfl | (congr 1; first | omega | (dsimp only; omega)) | (simp; done)))))); (focus (repeat (first | exact SubO.nil _ | (apply SubO.cons; (focus (repeat' (first | exact Pick.head _ _ | apply Pick.tail))))))); (focus (repeat (first | exact AllE.nil _ | (apply AllE.cons; (focus (first | exact ent_nilBy | exact ent_nilSl | (apply Ent.mem; repeat' (first | exact mcs | apply mct)))))))))
                        · repeat (first | refine n1 ?_ | refine n2 (fun b _ => ?_) | refine n3 (fun _ _ => ?_) | refine n4 ?_ | refine n5 ?_ | refine n6 (g1) ?_ | refine n6 (g2) ?_ | refine n6v (g1) ?_ | refine n6v (g2) ?_ | refine WL_nil ?_ | refine W_seq ?_ | refine W_region ?_ | refine n7 ?_ | refine n8 ?_ | refine W_block ?_ | refine W_skip ?_ | refine W_ret ?_ | refine W_exit ?_ | refine WQ_then ?_ | refine WQ_then_ret ?_ | refine WQ_then_exit ?_ | refine WQ_block_normal ?_ | refine WQ_block_ret ?_ | refine WQ_block_exit ?_ | refine n9 ?_)
                          ((apply WQ_meet (())); (focus (first | trivial | omega | assumption | exact ⟨by omega, by omega⟩ | (simp; done))); (focus (repeat (first | exact FrIn.nil _ | (apply FrIn.cons; exact rfl; (first | exact rfl | (congr 1; first | omega | (dsimp only; omega)) | (simp; done)))))); (focus (repeat (first | exact SubO.nil _ | (apply SubO.cons; (focus (repeat' (first | exact Pick.head _ _ | apply Pick.tail))))))); (focus (repeat (first | exact AllE.nil _ | (apply AllE.cons; (focus (first | exact ent_nilBy | exact ent_nilSl | (apply Ent.mem; repeat' (first | exact mcs | apply mct)))))))))
                      · repeat (first | refine n1 ?_ | refine n2 (fun b _ => ?_) | refine n3 (fun _ _ => ?_) | refine n4 ?_ | refine n5 ?_ | refine n6 (g1) ?_ | refine n6 (g2) ?_ | refine n6v (g1) ?_ | refine n6v (g2) ?_ | refine WL_nil ?_ | refine W_seq ?_ | refine W_region ?_ | refine n7 ?_ | refine n8 ?_ | refine W_block ?_ | refine W_skip ?_ | refine W_ret ?_ | refine W_exit ?_ | refine WQ_then ?_ | refine WQ_then_ret ?_ | refine WQ_then_exit ?_ | refine WQ_block_normal ?_ | refine WQ_block_ret ?_ | refine WQ_block_exit ?_ | refine n9 ?_)
                        ((apply WQ_meet (())); (focus (first | trivial | omega | assumption | exact ⟨by omega, by omega⟩ | (simp; done))); (focus (repeat (first | exact FrIn.nil _ | (apply FrIn.cons; exact rfl; (first | exact rfl | (congr 1; first | omega | (dsimp only; omega)) | (simp; done)))))); (focus (repeat (first | exact SubO.nil _ | (apply SubO.cons; (focus (repeat' (first | exact Pick.head _ _ | apply Pick.tail))))))); (focus (repeat (first | exact AllE.nil _ | (apply AllE.cons; (focus (first | exact ent_nilBy | exact ent_nilSl | (apply Ent.mem; repeat' (first | exact mcs | apply mct)))))))))
                    · repeat (first | refine n1 ?_ | refine n2 (fun b _ => ?_) | refine n3 (fun _ _ => ?_) | refine n4 ?_ | refine n5 ?_ | refine n6 (g1) ?_ | refine n6 (g2) ?_ | refine n6v (g1) ?_ | refine n6v (g2) ?_ | refine WL_nil ?_ | refine W_seq ?_ | refine W_region ?_ | refine n7 ?_ | refine n8 ?_ | refine W_block ?_ | refine W_skip ?_ | refine W_ret ?_ | refine W_exit ?_ | refine WQ_then ?_ | refine WQ_then_ret ?_ | refine WQ_then_exit ?_ | refine WQ_block_normal ?_ | refine WQ_block_ret ?_ | refine WQ_block_exit ?_ | refine n9 ?_)
                      ((apply WQ_meet (())); (focus (first | trivial | omega | assumption | exact ⟨by omega, by omega⟩ | (simp; done))); (focus (repeat (first | exact FrIn.nil _ | (apply FrIn.cons; exact rfl; (first | exact rfl | (congr 1; first | omega | (dsimp only; omega)) | (simp; done)))))); (focus (repeat (first | exact SubO.nil _ | (apply SubO.cons; (focus (repeat' (first | exact Pick.head _ _ | apply Pick.tail))))))); (focus (repeat (first | exact AllE.nil _ | (apply AllE.cons; (focus (first | exact ent_nilBy | exact ent_nilSl | (apply Ent.mem; repeat' (first | exact mcs | apply mct)))))))))
                  · intro _ _
                    have hnl := null_fn h
                    by_cases hz : restP n p q r h = h0_
                    · rw [decide_eq_true hz, Bool.true_and]
                      unfold badB
                      generalize rngB h = rb at *
                      generalize gpsB h = gb at *
                      generalize nulB h = nb at *
                      generalize whoB h = wb at *
                      cases rb
                      · repeat (first | refine n1 ?_ | refine n2 (fun b _ => ?_) | refine n3 (fun _ _ => ?_) | refine n4 ?_ | refine n5 ?_ | refine WL_nil ?_ | refine W_seq ?_ | refine W_region ?_ | refine n7 ?_ | refine n8 ?_ | refine W_block ?_ | refine W_skip ?_ | refine W_ret ?_ | refine W_exit ?_ | refine WQ_then ?_ | refine WQ_then_ret ?_ | refine WQ_then_exit ?_ | refine WQ_block_normal ?_ | refine WQ_block_ret ?_ | refine WQ_block_exit ?_ | refine n9 ?_)
                        refine WL_runs rfl rfl rfl (R_neG (cs := (restP n p q r h).cells) (ds := h0_.cells) (m := 3) (p := restP n p q r h = h0_) rfl rfl (by kernel_rfl) rfl (by kernel_rfl) (by kernel_rfl) (by kernel_rfl) (hd_lits _ (rest_w hw n p q r)) (hd_lits _ h0_w) hdL_inj rfl) ?_
                        rw [decide_eq_true hz]
                        repeat (first | refine n1 ?_ | refine n2 (fun b _ => ?_) | refine n3 (fun _ _ => ?_) | refine n4 ?_ | refine n5 ?_ | refine n6 (hnl) ?_ | refine n6v (hnl) ?_ | refine WL_nil ?_ | refine W_seq ?_ | refine W_region ?_ | refine n7 ?_ | refine n8 ?_ | refine W_block ?_ | refine W_skip ?_ | refine W_ret ?_ | refine W_exit ?_ | refine WQ_then ?_ | refine WQ_then_ret ?_ | refine WQ_then_exit ?_ | refine WQ_block_normal ?_ | refine WQ_block_ret ?_ | refine WQ_block_exit ?_ | refine n9 ?_)
                        ((apply ret1 Tryd.results16 ( ())); (focus (first | trivial | assumption | omega)); (focus (first | exact RV_tmp rfl | (apply RV_cellN; exact rfl; (repeat' (first | exact Pick.head _ _ | apply Pick.tail)); (intro _; exact rfl); (intro _; exact rfl); exact rfl) | (apply RV_cell1; exact rfl; (repeat' (first | exact Pick.head _ _ | apply Pick.tail)); (intro _; exact rfl); exact rfl)));  (focus (first | exact rfl | (simp; done))); (focus (repeat (first | exact SubO.nil _ | (apply SubO.cons; (focus (repeat' (first | exact Pick.head _ _ | apply Pick.tail))))))); (focus (repeat (first | exact AllE.nil _ | (apply AllE.cons; (focus (first | exact ent_nilBy | exact ent_nilSl | (apply Ent.mem; repeat' (first | exact mcs | apply mct)))))))))
                      · cases gb
                        · repeat (first | refine n1 ?_ | refine n2 (fun b _ => ?_) | refine n3 (fun _ _ => ?_) | refine n4 ?_ | refine n5 ?_ | refine WL_nil ?_ | refine W_seq ?_ | refine W_region ?_ | refine n7 ?_ | refine n8 ?_ | refine W_block ?_ | refine W_skip ?_ | refine W_ret ?_ | refine W_exit ?_ | refine WQ_then ?_ | refine WQ_then_ret ?_ | refine WQ_then_exit ?_ | refine WQ_block_normal ?_ | refine WQ_block_ret ?_ | refine WQ_block_exit ?_ | refine n9 ?_)
                          refine WL_runs rfl rfl rfl (R_neG (cs := (restP n p q r h).cells) (ds := h0_.cells) (m := 3) (p := restP n p q r h = h0_) rfl rfl (by kernel_rfl) rfl (by kernel_rfl) (by kernel_rfl) (by kernel_rfl) (hd_lits _ (rest_w hw n p q r)) (hd_lits _ h0_w) hdL_inj rfl) ?_
                          rw [decide_eq_true hz]
                          repeat (first | refine n1 ?_ | refine n2 (fun b _ => ?_) | refine n3 (fun _ _ => ?_) | refine n4 ?_ | refine n5 ?_ | refine n6 (hnl) ?_ | refine n6v (hnl) ?_ | refine WL_nil ?_ | refine W_seq ?_ | refine W_region ?_ | refine n7 ?_ | refine n8 ?_ | refine W_block ?_ | refine W_skip ?_ | refine W_ret ?_ | refine W_exit ?_ | refine WQ_then ?_ | refine WQ_then_ret ?_ | refine WQ_then_exit ?_ | refine WQ_block_normal ?_ | refine WQ_block_ret ?_ | refine WQ_block_exit ?_ | refine n9 ?_)
                          ((apply ret1 Tryd.results16 ( ())); (focus (first | trivial | assumption | omega)); (focus (first | exact RV_tmp rfl | (apply RV_cellN; exact rfl; (repeat' (first | exact Pick.head _ _ | apply Pick.tail)); (intro _; exact rfl); (intro _; exact rfl); exact rfl) | (apply RV_cell1; exact rfl; (repeat' (first | exact Pick.head _ _ | apply Pick.tail)); (intro _; exact rfl); exact rfl)));  (focus (first | exact rfl | (simp; done))); (focus (repeat (first | exact SubO.nil _ | (apply SubO.cons; (focus (repeat' (first | exact Pick.head _ _ | apply Pick.tail))))))); (focus (repeat (first | exact AllE.nil _ | (apply AllE.cons; (focus (first | exact ent_nilBy | exact ent_nilSl | (apply Ent.mem; repeat' (first | exact mcs | apply mct)))))))))
                        · cases nb
                          · repeat (first | refine n1 ?_ | refine n2 (fun b _ => ?_) | refine n3 (fun _ _ => ?_) | refine n4 ?_ | refine n5 ?_ | refine WL_nil ?_ | refine W_seq ?_ | refine W_region ?_ | refine n7 ?_ | refine n8 ?_ | refine W_block ?_ | refine W_skip ?_ | refine W_ret ?_ | refine W_exit ?_ | refine WQ_then ?_ | refine WQ_then_ret ?_ | refine WQ_then_exit ?_ | refine WQ_block_normal ?_ | refine WQ_block_ret ?_ | refine WQ_block_exit ?_ | refine n9 ?_)
                            refine WL_runs rfl rfl rfl (R_neG (cs := (restP n p q r h).cells) (ds := h0_.cells) (m := 3) (p := restP n p q r h = h0_) rfl rfl (by kernel_rfl) rfl (by kernel_rfl) (by kernel_rfl) (by kernel_rfl) (hd_lits _ (rest_w hw n p q r)) (hd_lits _ h0_w) hdL_inj rfl) ?_
                            rw [decide_eq_true hz]
                            repeat (first | refine n1 ?_ | refine n2 (fun b _ => ?_) | refine n3 (fun _ _ => ?_) | refine n4 ?_ | refine n5 ?_ | refine n6 (hnl) ?_ | refine n6v (hnl) ?_ | refine WL_nil ?_ | refine W_seq ?_ | refine W_region ?_ | refine n7 ?_ | refine n8 ?_ | refine W_block ?_ | refine W_skip ?_ | refine W_ret ?_ | refine W_exit ?_ | refine WQ_then ?_ | refine WQ_then_ret ?_ | refine WQ_then_exit ?_ | refine WQ_block_normal ?_ | refine WQ_block_ret ?_ | refine WQ_block_exit ?_ | refine n9 ?_)
                            ((apply ret1 Tryd.results16 ( ())); (focus (first | trivial | assumption | omega)); (focus (first | exact RV_tmp rfl | (apply RV_cellN; exact rfl; (repeat' (first | exact Pick.head _ _ | apply Pick.tail)); (intro _; exact rfl); (intro _; exact rfl); exact rfl) | (apply RV_cell1; exact rfl; (repeat' (first | exact Pick.head _ _ | apply Pick.tail)); (intro _; exact rfl); exact rfl)));  (focus (first | exact rfl | (simp; done))); (focus (repeat (first | exact SubO.nil _ | (apply SubO.cons; (focus (repeat' (first | exact Pick.head _ _ | apply Pick.tail))))))); (focus (repeat (first | exact AllE.nil _ | (apply AllE.cons; (focus (first | exact ent_nilBy | exact ent_nilSl | (apply Ent.mem; repeat' (first | exact mcs | apply mct)))))))))
                          · cases wb
                            · repeat (first | refine n1 ?_ | refine n2 (fun b _ => ?_) | refine n3 (fun _ _ => ?_) | refine n4 ?_ | refine n5 ?_ | refine WL_nil ?_ | refine W_seq ?_ | refine W_region ?_ | refine n7 ?_ | refine n8 ?_ | refine W_block ?_ | refine W_skip ?_ | refine W_ret ?_ | refine W_exit ?_ | refine WQ_then ?_ | refine WQ_then_ret ?_ | refine WQ_then_exit ?_ | refine WQ_block_normal ?_ | refine WQ_block_ret ?_ | refine WQ_block_exit ?_ | refine n9 ?_)
                              refine WL_runs rfl rfl rfl (R_neG (cs := (restP n p q r h).cells) (ds := h0_.cells) (m := 3) (p := restP n p q r h = h0_) rfl rfl (by kernel_rfl) rfl (by kernel_rfl) (by kernel_rfl) (by kernel_rfl) (hd_lits _ (rest_w hw n p q r)) (hd_lits _ h0_w) hdL_inj rfl) ?_
                              rw [decide_eq_true hz]
                              repeat (first | refine n1 ?_ | refine n2 (fun b _ => ?_) | refine n3 (fun _ _ => ?_) | refine n4 ?_ | refine n5 ?_ | refine n6 (hnl) ?_ | refine n6v (hnl) ?_ | refine WL_nil ?_ | refine W_seq ?_ | refine W_region ?_ | refine n7 ?_ | refine n8 ?_ | refine W_block ?_ | refine W_skip ?_ | refine W_ret ?_ | refine W_exit ?_ | refine WQ_then ?_ | refine WQ_then_ret ?_ | refine WQ_then_exit ?_ | refine WQ_block_normal ?_ | refine WQ_block_ret ?_ | refine WQ_block_exit ?_ | refine n9 ?_)
                              ((apply ret1 Tryd.results16 ( ())); (focus (first | trivial | assumption | omega)); (focus (first | exact RV_tmp rfl | (apply RV_cellN; exact rfl; (repeat' (first | exact Pick.head _ _ | apply Pick.tail)); (intro _; exact rfl); (intro _; exact rfl); exact rfl) | (apply RV_cell1; exact rfl; (repeat' (first | exact Pick.head _ _ | apply Pick.tail)); (intro _; exact rfl); exact rfl)));  (focus (first | exact rfl | (simp; done))); (focus (repeat (first | exact SubO.nil _ | (apply SubO.cons; (focus (repeat' (first | exact Pick.head _ _ | apply Pick.tail))))))); (focus (repeat (first | exact AllE.nil _ | (apply AllE.cons; (focus (first | exact ent_nilBy | exact ent_nilSl | (apply Ent.mem; repeat' (first | exact mcs | apply mct)))))))))
                            · cases hpr : h.prot <;> cases ham : h.amsdu
                              all_goals
                                unfold Hd.val Hd.cells at hnl
                                rw [hpr, ham] at hnl
                                repeat (first | refine n1 ?_ | refine n2 (fun b _ => ?_) | refine n3 (fun _ _ => ?_) | refine n4 ?_ | refine n5 ?_ | refine WL_nil ?_ | refine W_seq ?_ | refine W_region ?_ | refine n7 ?_ | refine n8 ?_ | refine W_block ?_ | refine W_skip ?_ | refine W_ret ?_ | refine W_exit ?_ | refine WQ_then ?_ | refine WQ_then_ret ?_ | refine WQ_then_exit ?_ | refine WQ_block_normal ?_ | refine WQ_block_ret ?_ | refine WQ_block_exit ?_ | refine n9 ?_)
                                refine WL_runs rfl rfl rfl (R_neG (cs := (restP n p q r h).cells) (ds := h0_.cells) (m := 3) (p := restP n p q r h = h0_) rfl rfl (by kernel_rfl) rfl (by kernel_rfl) (by kernel_rfl) (by kernel_rfl) (hd_lits _ (rest_w hw n p q r)) (hd_lits _ h0_w) hdL_inj rfl) ?_
                                rw [decide_eq_true hz]
                                repeat (first | refine n1 ?_ | refine n2 (fun b _ => ?_) | refine n3 (fun _ _ => ?_) | refine n4 ?_ | refine n5 ?_ | refine n6 (hnl) ?_ | refine n6v (hnl) ?_ | refine WL_nil ?_ | refine W_seq ?_ | refine W_region ?_ | refine n7 ?_ | refine n8 ?_ | refine W_block ?_ | refine W_skip ?_ | refine W_ret ?_ | refine W_exit ?_ | refine WQ_then ?_ | refine WQ_then_ret ?_ | refine WQ_then_exit ?_ | refine WQ_block_normal ?_ | refine WQ_block_ret ?_ | refine WQ_block_exit ?_ | refine n9 ?_)
                                ((apply ret1 Tryd.results16 ( ())); (focus (first | trivial | assumption | omega)); (focus (first | exact RV_tmp rfl | (apply RV_cellN; exact rfl; (repeat' (first | exact Pick.head _ _ | apply Pick.tail)); (intro _; exact rfl); (intro _; exact rfl); exact rfl) | (apply RV_cell1; exact rfl; (repeat' (first | exact Pick.head _ _ | apply Pick.tail)); (intro _; exact rfl); exact rfl)));  (focus (first | exact rfl | (simp; done))); (focus (repeat (first | exact SubO.nil _ | (apply SubO.cons; (focus (repeat' (first | exact Pick.head _ _ | apply Pick.tail))))))); (focus (repeat (first | exact AllE.nil _ | (apply AllE.cons; (focus (first | exact ent_nilBy | exact ent_nilSl | (apply Ent.mem; repeat' (first | exact mcs | apply mct)))))))))
                    · rw [decide_eq_false hz, Bool.false_and]
                      repeat (first | refine n1 ?_ | refine n2 (fun b _ => ?_) | refine n3 (fun _ _ => ?_) | refine n4 ?_ | refine n5 ?_ | refine WL_nil ?_ | refine W_seq ?_ | refine W_region ?_ | refine n7 ?_ | refine n8 ?_ | refine W_block ?_ | refine W_skip ?_ | refine W_ret ?_ | refine W_exit ?_ | refine WQ_then ?_ | refine WQ_then_ret ?_ | refine WQ_then_exit ?_ | refine WQ_block_normal ?_ | refine WQ_block_ret ?_ | refine WQ_block_exit ?_ | refine n9 ?_)
                      refine WL_runs rfl rfl rfl (R_neG (cs := (restP n p q r h).cells) (ds := h0_.cells) (m := 3) (p := restP n p q r h = h0_) rfl rfl (by kernel_rfl) rfl (by kernel_rfl) (by kernel_rfl) (by kernel_rfl) (hd_lits _ (rest_w hw n p q r)) (hd_lits _ h0_w) hdL_inj rfl) ?_
                      rw [decide_eq_false hz]
                      repeat (first | refine n1 ?_ | refine n2 (fun b _ => ?_) | refine n3 (fun _ _ => ?_) | refine n4 ?_ | refine n5 ?_ | refine WL_nil ?_ | refine W_seq ?_ | refine W_region ?_ | refine n7 ?_ | refine n8 ?_ | refine W_block ?_ | refine W_skip ?_ | refine W_ret ?_ | refine W_exit ?_ | refine WQ_then ?_ | refine WQ_then_ret ?_ | refine WQ_then_exit ?_ | refine WQ_block_normal ?_ | refine WQ_block_ret ?_ | refine WQ_block_exit ?_ | refine n9 ?_)
                      ((apply ret1 Tryd.results16 ( ())); (focus (first | trivial | assumption | omega)); (focus (first | exact RV_tmp rfl | (apply RV_cellN; exact rfl; (repeat' (first | exact Pick.head _ _ | apply Pick.tail)); (intro _; exact rfl); (intro _; exact rfl); exact rfl) | (apply RV_cell1; exact rfl; (repeat' (first | exact Pick.head _ _ | apply Pick.tail)); (intro _; exact rfl); exact rfl)));  (focus (first | exact rfl | (simp; done))); (focus (repeat (first | exact SubO.nil _ | (apply SubO.cons; (focus (repeat' (first | exact Pick.head _ _ | apply Pick.tail))))))); (focus (repeat (first | exact AllE.nil _ | (apply AllE.cons; (focus (first | exact ent_nilBy | exact ent_nilSl | (apply Ent.mem; repeat' (first | exact mcs | apply mct)))))))))
end Go.Proofs.YteojehocflbgdaaDoor.C05

/-
  Headers, the reference's: kinds, subtypes, fields that are used, 'Valid', 'Check'.
-/
namespace Go.Proofs.YteojehocflbgdaaDoor.C05
open Go Go.RowKit Go.Hs
def kL0 : List UInt8 := [0, 1, 2, 3, 4, 5, 8, 10, 11, 12, 13]
def kL1 : List UInt8 := [8, 9, 10, 11, 12, 13]
def kL2 : List UInt8 := [0, 4, 8, 12]
def rnulB (h : Hd) : Bool := decide (h.kind.toNat = 2) && (decide (h.sub.toNat = 4) || decide (h.sub.toNat = 12))
def qosB (h : Hd) : Bool := decide (h.kind.toNat = 2) && (decide (h.sub.toNat = 8) || decide (h.sub.toNat = 12))
def radN (h : Hd) : Nat := if ctsB h then 1 else if ctlB h then 2 else if h.toDs && h.fromDs then 4 else 3
def rempB (h : Hd) : Bool := rnulB h || (decide (h.kind.toNat = 1) && (!decide (h.sub.toNat = 8) && !decide (h.sub.toNat = 9)))
def pickA (c : Bool) (a : A6) : A6 := bif c then a else zA6
def usedC (p c2 c3 c4 q r : Bool) (h : Hd) : Hd :=
  ⟨h.kind, h.sub, p && h.toDs, p && h.fromDs, q && h.more, q && h.retry, h.sleep, h.md, q && h.prot, h.dur, h.a1, pickA c2 h.a2, pickA c3 h.a3, pickA c4 h.a4, bif q then h.seq else 0, bif q then h.frag else 0, bif r then h.tid else 0, bif r then h.ack else 0, r && h.amsdu, r && h.eosp⟩
def ctlN (h : Hd) : Bool := !(decide (h.kind.toNat = 1))
def usedH (h : Hd) : Hd := usedC (decide (h.kind.toNat = 2)) (decide (1 < adN h)) (decide (2 < adN h)) (decide (3 < adN h)) (ctlN h) (qosB h) h
theorem ad_ge (h : Hd) : 1 ≤ adN h ∧ adN h ≤ 4 := by
  unfold adN befN
  split
  · omega
  · split
    · omega
    · split <;> omega
/-- subtypes of data frames. -/
def s8 (n : Nat) : Prop := n = 0 ∨ n = 4 ∨ n = 8 ∨ n = 12
theorem used_iff {h : Hd} (hk : knB h.kind h.sub = true) : h = usedH h ↔ restH h = h0_ := by
  have hq : ctlN h = prtB h.kind := by
    unfold ctlN prtB
    unfold knB at hk
    by_cases k0 : h.kind.toNat = 0
    · rw [decide_eq_false (by omega), decide_eq_true (.inl k0)]; rfl
    · rw [if_neg k0] at hk
      by_cases k1 : h.kind.toNat = 1
      · rw [decide_eq_true k1, decide_eq_false (by omega)]; rfl
      · rw [if_neg k1] at hk
        by_cases k2 : h.kind.toNat = 2
        · rw [decide_eq_false k1, decide_eq_true (.inr k2)]; rfl
        · rw [if_neg k2] at hk; cases hk
  have hr : qosB h = trafB h.kind h.sub := by
    unfold qosB trafB
    by_cases k2 : h.kind.toNat = 2
    · rw [decide_eq_true k2, Bool.true_and, Bool.true_and]
      unfold knB at hk
      rw [if_neg (by omega), if_neg (by omega), if_pos k2, decide_eq_true_eq] at hk
      have : s8 h.sub.toNat := by unfold s8; omega
      rcases this with e | e | e | e <;> rw [e] <;> rfl
    · rw [decide_eq_false k2]; rfl
  obtain ⟨hn1, hn2⟩ := ad_ge h
  unfold usedH restH
  rw [hq, hr]
  generalize decide (h.kind.toNat = 2) = p
  generalize prtB h.kind = q
  generalize trafB h.kind h.sub = r
  generalize adN h = n at *
  obtain ⟨kd, sb, b1, b2, b3, b4, b5, b6, b7, du, a1, a2, a3, a4, sq, fg, td, ak, b8, b9⟩ := h
  have hn : n = 1 ∨ n = 2 ∨ n = 3 ∨ n = 4 := by omega
  clear hk hq hr hn1 hn2
  rcases hn with rfl | rfl | rfl | rfl <;> cases p <;> cases q <;> cases r <;> simp [usedC, restP, h0_, zN, pickA]
attribute [local irreducible] WL W WQ PL Runs Effs AllE Ent SubO FrIn Pick OneC Ones CellsE PartsE SeqE UZ By Sl Pt Ct

end Go.Proofs.YteojehocflbgdaaDoor.C05

/-
  Headers, the reference's 'Valid', 'Check'.
-/
namespace Go.Proofs.YteojehocflbgdaaDoor.C05
open Go Go.RowKit Go.Hs
theorem rng_iff {h : Hd} : rngB h = true ↔ 0 ≤ h.dur ∧ h.dur ≤ 32767 ∧ 0 ≤ h.seq ∧ h.seq ≤ 4095 ∧ 0 ≤ h.frag ∧ h.frag ≤ 15 ∧ 0 ≤ h.tid ∧ h.tid ≤ 7 ∧ h.ack.toNat ≤ 2 := by
  unfold rngB
  simp only [Bool.and_eq_true, decide_eq_true_eq]
  constructor
  · rintro ⟨⟨a, b⟩, ⟨c, d⟩, ⟨e, f⟩, ⟨g, i⟩, j⟩; exact ⟨a, b, c, d, e, f, g, i, j⟩
  · rintro ⟨a, b, c, d, e, f, g, i, j⟩; exact ⟨⟨a, b⟩, ⟨c, d⟩, ⟨e, f⟩, ⟨g, i⟩, j⟩
theorem kn_sub {h : Hd} (hk : knB h.kind h.sub = true) (k2 : h.kind.toNat = 2) : s8 h.sub.toNat := by
  unfold knB at hk
  rw [if_neg (by omega), if_neg (by omega), if_pos k2, decide_eq_true_eq] at hk
  unfold s8
  omega
attribute [local irreducible] WL W WQ PL Runs Effs AllE Ent SubO FrIn Pick OneC Ones CellsE PartsE SeqE UZ By Sl Pt Ct

end Go.Proofs.YteojehocflbgdaaDoor.C05

/-
  Contracts of the functions of layer 1: reading.
-/
namespace Go.Proofs.YteojehocflbgdaaDoor.C01
open Go Go.RowKit Go.Hs
attribute [local irreducible] WL W WQ PL Runs Effs AllE Ent SubO FrIn Pick OneC Ones CellsE PartsE SeqE UZ By Sl Pt Ct

def okE (len : Nat) (at_ : Int) : Int := if 0 ≤ at_ ∧ at_ ≤ len then 0 else 8

def tkE (len : Nat) (at_ n : Int) : Int := if ¬ (0 ≤ at_ ∧ at_ ≤ len) then 8 else if n < 0 then 2 else if len - at_ < n then 10 else 0
def tkB (xs : List UInt8) (at_ n : Int) : List UInt8 := if tkE xs.length at_ n = 0 then (xs.drop at_.toNat).take n.toNat else []
def tkD (xs : List UInt8) (at_ n : Int) : List UInt8 := if tkE xs.length at_ n = 0 then xs else []
def tkA (len : Nat) (at_ n : Int) : Int := if tkE len at_ n = 0 then at_ + n else 0

end Go.Proofs.YteojehocflbgdaaDoor.C01

/-
  Contracts of the functions of layer 1 that read numbers and texts, of the reference's, and of the comparisons.
-/
namespace Go.Proofs.YteojehocflbgdaaDoor.C01
open Go Go.RowKit Go.Hs
attribute [local irreducible] WL W WQ PL Runs Effs AllE Ent SubO FrIn Pick OneC Ones CellsE PartsE SeqE UZ By Sl Pt Ct

def leN : List UInt8 → Nat
  | [] => 0
  | b :: r => b.toNat + 256 * leN r

def doE (len : Nat) (at_ : Int) : Int := if ¬ (0 ≤ at_ ∧ at_ ≤ len) then 8 else if at_ < len then 11 else 0

end Go.Proofs.YteojehocflbgdaaDoor.C01

/-
  Contracts of the functions of layer 1 that read and set bits.
-/
namespace Go.Proofs.YteojehocflbgdaaDoor.C01
open Go Go.RowKit Go.Hs
attribute [local irreducible] WL W WQ PL Runs Effs AllE Ent SubO FrIn Pick OneC Ones CellsE PartsE SeqE UZ By Sl Pt Ct

def inB (a n : Int) : Prop := 0 ≤ a ∧ a ≤ 64 ∧ 1 ≤ n ∧ n ≤ 64 - a
instance (a n : Int) : Decidable (inB a n) := by unfold inB; infer_instance

end Go.Proofs.YteojehocflbgdaaDoor.C01

/-
  Contracts of the functions of layer 1 that write numbers and texts.
-/
namespace Go.Proofs.YteojehocflbgdaaDoor.C01
open Go Go.RowKit Go.Hs
attribute [local irreducible] WL W WQ PL Runs Effs AllE Ent SubO FrIn Pick OneC Ones CellsE PartsE SeqE UZ By Sl Pt Ct

/-- the n lowest bytes of a number, the lowest first. -/
def leB (n v : Nat) : List UInt8 := (List.range n).map fun i => UInt8.ofNat (v / 256 ^ i)
theorem low8 (x : Nat) : IntKind.u8.wrap (x : Int) = (((UInt8.ofNat x).toNat : Nat) : Int) := by
  rw [IntKind.wrap_u8]
  simp

end Go.Proofs.YteojehocflbgdaaDoor.C01

/-
  Contracts of the functions of layer 1 that write numbers and texts: the reference's, and texts.
-/
namespace Go.Proofs.YteojehocflbgdaaDoor.C01
open Go Go.RowKit Go.Hs
attribute [local irreducible] WL W WQ PL Runs Effs AllE Ent SubO FrIn Pick OneC Ones CellsE PartsE SeqE UZ By Sl Pt Ct

end Go.Proofs.YteojehocflbgdaaDoor.C01

/-
  Contracts of the readers of numbers and texts of layer 1.
-/
namespace Go.Proofs.YteojehocflbgdaaDoor.C01
open Go Go.RowKit Go.Hs
attribute [local irreducible] WL W WQ PL Runs Effs AllE Ent SubO FrIn Pick OneC Ones CellsE PartsE SeqE UZ By Sl Pt Ct

end Go.Proofs.YteojehocflbgdaaDoor.C01

/-
  Contracts of the readers of texts of layer 1; the law 'OctetReads' walked.
-/
namespace Go.Proofs.YteojehocflbgdaaDoor.C01
open Go Go.RowKit Go.Hs
attribute [local irreducible] WL W WQ PL Runs Effs AllE Ent SubO FrIn Pick OneC Ones CellsE PartsE SeqE UZ By Sl Pt Ct

def txN (xs : List UInt8) (a : Int) : Int := (leN (tkB xs a 1) : Int)
def txE (xs : List UInt8) (a : Int) : Int := if tkE xs.length a 1 = 0 then tkE xs.length (a + 1) (txN xs a) else tkE xs.length a 1
def txB (xs : List UInt8) (a : Int) : List UInt8 := if tkE xs.length a 1 = 0 then tkB xs (a + 1) (txN xs a) else []
def txD (xs : List UInt8) (a : Int) : List UInt8 := if tkE xs.length a 1 = 0 then tkD xs (a + 1) (txN xs a) else []
def txA (xs : List UInt8) (a : Int) : Int := if tkE xs.length a 1 = 0 then tkA xs.length (a + 1) (txN xs a) else 0

end Go.Proofs.YteojehocflbgdaaDoor.C01

/-
  Contracts of octet.Bits, octet.SetBits and of the reference's.
-/
namespace Go.Proofs.YteojehocflbgdaaDoor.C01
open Go Go.RowKit Go.Hs
attribute [local irreducible] WL W WQ PL Runs Effs AllE Ent SubO FrIn Pick OneC Ones CellsE PartsE SeqE UZ By Sl Pt Ct

def biE (a n : Int) : Int := if inB a n then 0 else 2
def biV (v : Nat) (a n : Int) : Nat := if inB a n then v / 2 ^ a.toNat % 2 ^ n.toNat else 0
def seE (a n : Int) (x : Nat) : Int := if inB a n then (if x < 2 ^ n.toNat then 0 else 11) else 2
def seV (v : Nat) (a n : Int) (x : Nat) : Nat := if inB a n then (if x < 2 ^ n.toNat then v - v / 2 ^ a.toNat % 2 ^ n.toNat * 2 ^ a.toNat + x * 2 ^ a.toNat else 0) else 0

end Go.Proofs.YteojehocflbgdaaDoor.C01

/-
  Contracts of layer 1: PutText, Join, the chapter's examples.
-/
namespace Go.Proofs.YteojehocflbgdaaDoor.C01
open Go Go.RowKit Go.Hs
attribute [local irreducible] WL W WQ PL Runs Effs AllE Ent SubO FrIn Pick OneC Ones CellsE PartsE SeqE UZ By Sl Pt Ct

theorem leB2 (v : Nat) : leB 2 v = [UInt8.ofNat v, UInt8.ofNat (v / 256)] := by simp [leB, List.range_succ]

def ptE (s : List UInt8) : Int := if s.length ≤ 255 then 0 else 11
def ptB (xs s : List UInt8) : List UInt8 := if s.length ≤ 255 then xs ++ leB 1 s.length ++ s else []

/-- fields joined. -/
def jn (fs : List (List UInt8)) : List UInt8 := fs.flatMap fun f => leB 2 f.length ++ f
theorem jn_snoc (fs : List (List UInt8)) (f : List UInt8) : jn (fs ++ [f]) = jn fs ++ leB 2 f.length ++ f := by simp [jn]
def jnE (fs : List (List UInt8)) : Int := if 256 < fs.length then 4 else if ∀ f ∈ fs, f.length ≤ 65535 then 0 else 11
def jnB (fs : List (List UInt8)) : List UInt8 := if jnE fs = 0 then jn fs else []

theorem take_next {α : Type} (xs : List α) (k : Nat) (h : k < xs.length) : xs.take (k + 1) = xs.take k ++ [xs[k]] := by
  rw [List.take_succ_eq_append_getElem h]

end Go.Proofs.YteojehocflbgdaaDoor.C01

/-
  Contracts of octet.Split: the iterator over the fields of a byte string.
-/
namespace Go.Proofs.YteojehocflbgdaaDoor.C01
open Go Go.RowKit Go.Hs
attribute [local irreducible] WL W WQ PL Runs Effs AllE Ent SubO FrIn Pick OneC Ones CellsE PartsE SeqE UZ By Sl Pt Ct

def fldLen (xs : List UInt8) (p : Nat) : Nat := (xs.getD p 0).toNat + (xs.getD (p + 1) 0).toNat * 256
def fldOk (xs : List UInt8) (p : Nat) : Prop := p + 2 ≤ xs.length ∧ p + 2 + fldLen xs p ≤ xs.length
def piece (xs : List UInt8) (p : Nat) : List UInt8 := (xs.drop (p + 2)).take (fldLen xs p)
end Go.Proofs.YteojehocflbgdaaDoor.C01

/-
  Contract of octet.Split.
-/
namespace Go.Proofs.YteojehocflbgdaaDoor.C01
open Go Go.RowKit Go.Hs
attribute [local irreducible] WL W WQ PL Runs Effs AllE Ent SubO FrIn Pick OneC Ones CellsE PartsE SeqE UZ By Sl Pt Ct

/-- how a byte string is split: from a place on, with what was found ahead of it. -/
inductive SplR (xs : List UInt8) : Nat → List (List UInt8) → Int × List (List UInt8) → Prop
  | fin {p fs} : xs.length ≤ p → SplR xs p fs (0, fs)
  | many {p fs} : p < xs.length → fs.length = 256 → SplR xs p fs (4, [])
  | short {p fs} : p < xs.length → ¬ fs.length = 256 → ¬ fldOk xs p → SplR xs p fs (10, [])
  | next {p fs r} : p < xs.length → ¬ fs.length = 256 → fldOk xs p → SplR xs (p + 2 + fldLen xs p) (fs ++ [piece xs p]) r → SplR xs p fs r

theorem SplR.one {xs : List UInt8} {p : Nat} {fs : List (List UInt8)} {r r' : Int × List (List UInt8)} (h : SplR xs p fs r) (h' : SplR xs p fs r') : r = r' := by
  induction h with
  | fin h1 => cases h' with
    | fin => rfl
    | many h2 => omega
    | short h2 => omega
    | next h2 => omega
  | many h1 h2 => cases h' with
    | fin h3 => omega
    | many => rfl
    | short _ h3 => exact absurd h2 h3
    | next _ h3 => exact absurd h2 h3
  | short h1 h2 h3 => cases h' with
    | fin h4 => omega
    | many _ h4 => exact absurd h4 h2
    | short => rfl
    | next _ _ h4 => exact absurd h4 h3
  | next h1 h2 h3 _ ih => cases h' with
    | fin h4 => omega
    | many _ h4 => exact absurd h4 h2
    | short _ _ h4 => exact absurd h3 h4
    | next _ _ _ h4 => exact ih h4

structure SpS where
  fs : List (List UInt8)
  vals : List Value
  o : Value
  n : Nat
  stop : Bool

section
variable (b1 b2 b3 b4 b6 : Nat) (dv : Value) (xs : List UInt8)
def spY (y : SpS) : List OA := [.blk b4 27 [y.o], .row y.o 36 1 y.fs.length y.vals, .blk b6 3 [.int .i64 (y.n : Int)], .blk b2 27 [.slice none 0 0], .blk b3 41 [.int .i64 (if y.stop then 4 else 0)], .blk b1 36 [dv]]
def spΨ (y : SpS) : List SP := [Al y.fs.length (fun i => By (y.vals.getD i undef) (y.fs.getD i [])), By dv xs]
end
def spE (y : SpS) : Option Code := if y.stop then some .ret else none
def spPre (xs : List UInt8) (y : SpS) (b : Value × Nat) : Prop := y.stop = false ∧ fldOk xs b.2 ∧ y.vals.length = y.fs.length ∧ y.n = b.2 ∧ y.fs.length < 256
def spStep (xs : List UInt8) (y : SpS) (b : Value × Nat) (y' : SpS) : Prop :=
  y'.fs = y.fs ++ [piece xs b.2] ∧ y'.vals.length = y'.fs.length ∧ y'.n = b.2 + 2 + fldLen xs b.2 ∧ (y'.stop = true ↔ (y'.fs.length = 256 ∧ y'.n < xs.length))
def spInv (xs : List UInt8) (p : Nat) (y : SpS) : Prop :=
  y.stop = false ∧ y.vals.length = y.fs.length ∧ y.n = p ∧ y.fs.length ≤ 256 ∧ (y.fs.length = 256 → xs.length ≤ p) ∧ ∀ r, SplR xs p y.fs r → SplR xs 0 [] r

end Go.Proofs.YteojehocflbgdaaDoor.C01

/-
  The law 'OctetReads' walked.
-/
namespace Go.Proofs.YteojehocflbgdaaDoor.C01
open Go Go.RowKit Go.Hs
attribute [local irreducible] WL W WQ PL Runs Effs AllE Ent SubO FrIn Pick OneC Ones CellsE PartsE SeqE UZ By Sl Pt Ct

end Go.Proofs.YteojehocflbgdaaDoor.C01

/-
  The chapter's examples; the laws 'OctetParts' and 'OctetPrefix' walked.
-/
namespace Go.Proofs.YteojehocflbgdaaDoor.C01
open Go Go.RowKit Go.Hs
attribute [local irreducible] WL W WQ PL Runs Effs AllE Ent SubO FrIn Pick OneC Ones CellsE PartsE SeqE UZ By Sl Pt Ct

end Go.Proofs.YteojehocflbgdaaDoor.C01

/-
  Contracts of the reference's Join and Split; lists compared.
-/
namespace Go.Proofs.YteojehocflbgdaaDoor.C01
open Go Go.RowKit Go.Hs
attribute [local irreducible] WL W WQ PL Runs Effs AllE Ent SubO FrIn Pick OneC Ones CellsE PartsE SeqE UZ By Sl Pt Ct

theorem SplR.len {xs : List UInt8} {p : Nat} {fs : List (List UInt8)} {r : Int × List (List UInt8)} (h : SplR xs p fs r) : fs.length ≤ 256 → r.2.length ≤ 256 := by
  induction h with
  | fin => exact id
  | many => exact fun _ => Nat.zero_le _
  | short => exact fun _ => Nat.zero_le _
  | next _ _ _ _ ih => exact fun hl => ih (by simp; omega)

end Go.Proofs.YteojehocflbgdaaDoor.C01

/-
  The law 'OctetWrites' walked; the law 'OctetNames' walked.
-/
namespace Go.Proofs.YteojehocflbgdaaDoor.C01
open Go Go.RowKit Go.Hs
attribute [local irreducible] WL W WQ PL Runs Effs AllE Ent SubO FrIn Pick OneC Ones CellsE PartsE SeqE UZ By Sl Pt Ct

end Go.Proofs.YteojehocflbgdaaDoor.C01

/-
  Bits of numbers of 64 signed bits. No program is named here.
-/
namespace Go.Hs
open Go Go.RowKit

theorem i64_low (n : Int) (k : Nat) (hk : k ≤ 62) : bits .and .i64 n ((2 ^ k - 1 : Nat) : Int) = n % ((2 ^ k : Nat) : Int) := by
  have hp : 2 ^ k ≤ 2 ^ 62 := Nat.pow_le_pow_right (by decide) hk
  have h0 : 0 < 2 ^ k := Nat.two_pow_pos k
  have h2 : (2 : Nat) ^ 62 = 4611686018427387904 := by decide
  have hm : (BitVec.ofInt 64 ((2 ^ k - 1 : Nat) : Int)).toNat = 2 ^ k - 1 := by
    rw [BitVec.ofInt_natCast, BitVec.toNat_ofNat]; exact Nat.mod_eq_of_lt (by omega)
  have key : (BitVec.ofInt 64 n &&& BitVec.ofInt 64 ((2 ^ k - 1 : Nat) : Int)).toNat = (n % ((2 ^ 64 : Nat) : Int)).toNat % 2 ^ k := by
    rw [BitVec.toNat_and, BitVec.toNat_ofInt, hm, Nat.and_two_pow_sub_one_eq_mod]
  show IntKind.i64.wrap ((BitVec.ofInt 64 n &&& BitVec.ofInt 64 ((2 ^ k - 1 : Nat) : Int)).toNat : Nat) = _
  have hd : ((2 ^ k : Nat) : Int) ∣ ((2 ^ 64 : Nat) : Int) := Int.natCast_dvd_natCast.2 (Nat.pow_dvd_pow 2 (by omega))
  have e : (((n % ((2 ^ 64 : Nat) : Int)).toNat % 2 ^ k : Nat) : Int) = n % ((2 ^ k : Nat) : Int) := by
    rw [Int.natCast_emod, Int.toNat_of_nonneg (Int.emod_nonneg _ (by decide)), Int.emod_emod_of_dvd n hd]
  have hlt := Int.emod_lt_of_pos n (show (0 : Int) < ((2 ^ k : Nat) : Int) by omega)
  have hge := Int.emod_nonneg n (show ((2 ^ k : Nat) : Int) ≠ 0 by omega)
  rw [key, e, wx_i64 (by omega)]
theorem i64_and3 (n : Int) : bits .and .i64 n 3 = n % 4 := i64_low n 2 (by decide)
theorem i64_and7 (n : Int) : bits .and .i64 n 7 = n % 8 := i64_low n 3 (by decide)
theorem i64_and15 (n : Int) : bits .and .i64 n 15 = n % 16 := i64_low n 4 (by decide)
theorem i64_or_nat (a b : Nat) (ha : a < 4611686018427387904) (hb : b < 4611686018427387904) : bits .or .i64 (a : Int) (b : Int) = ((a ||| b : Nat) : Int) := by
  have hx : a ||| b < 2 ^ 62 := Nat.or_lt_two_pow (by omega) (by omega)
  have h2 : (2 : Nat) ^ 62 = 4611686018427387904 := by decide
  show IntKind.i64.wrap ((BitVec.ofInt 64 (a : Int) ||| BitVec.ofInt 64 (b : Int)).toNat : Int) = _
  rw [BitVec.toNat_or, BitVec.ofInt_natCast, BitVec.ofInt_natCast, BitVec.toNat_ofNat, BitVec.toNat_ofNat, Nat.mod_eq_of_lt (by omega), Nat.mod_eq_of_lt (by omega)]
  exact wx_i64 (by omega)
/-- a low part and a high one. -/
theorem i64_or_lo (k a b : Nat) (ha : a < 2 ^ k) (hs : a + b * 2 ^ k < 4611686018427387904) : bits .or .i64 (a : Int) ((b * 2 ^ k : Nat) : Int) = ((a + b * 2 ^ k : Nat) : Int) := by
  rw [i64_or_nat _ _ (by omega) (by omega)]
  congr 1
  rw [Nat.or_comm, Nat.mul_comm, ← Nat.two_pow_add_eq_or_of_lt ha, Nat.add_comm]
theorem i64_or8 (a b : UInt8) : bits .or .i64 (a.toNat : Int) ((b.toNat * 256 : Nat) : Int) = ((a.toNat + 256 * b.toNat : Nat) : Int) := by
  have ha := a.toNat_lt
  have hb := b.toNat_lt
  have h := i64_or_lo 8 a.toNat b.toNat ha (by omega)
  rw [show (2 : Nat) ^ 8 = 256 from rfl] at h
  rw [h, Nat.mul_comm]
theorem i64_shl8 (a : UInt8) : IntKind.i64.wrap ((a.toNat : Int) * 2 ^ (min (8 : Int).toNat IntKind.i64.bits)) = ((a.toNat * 256 : Nat) : Int) := by
  have ha := a.toNat_lt
  rw [show ((2 : Int) ^ (min (8 : Int).toNat IntKind.i64.bits)) = 256 from rfl]
  rw [wx_i64 (by omega)]
  omega
theorem i64_shr8 (n : Nat) : ((n : Int)).fdiv (2 ^ (min (8 : Int).toNat IntKind.i64.bits)) = ((n / 256 : Nat) : Int) := by
  rw [show ((2 : Int) ^ (min (8 : Int).toNat IntKind.i64.bits)) = 256 from rfl, Int.fdiv_eq_ediv_of_nonneg _ (by decide)]
  omega
end Go.Hs

/-
  Bytes of headers: 'write'.
-/
namespace Go.Proofs.YteojehocflbgdaaDoor.C05
open Go Go.RowKit Go.Hs
theorem leb2 (n : Nat) : C01.leB 2 n = [UInt8.ofNat n, UInt8.ofNat (n / 256)] := by simp [C01.leB, List.range_succ]
def bN (b : Bool) (n : Nat) : Nat := bif b then n else 0
def flB (h : Hd) (i : Nat) : Bool := [h.toDs, h.fromDs, h.more, h.retry, h.sleep, h.md, h.prot].getD i false
/-- the flags up to a place. -/
def flN (h : Hd) : Nat → Nat
  | 0 => 0
  | i + 1 => flN h i + bN (flB h i) (2 ^ i)
theorem flN_lt (h : Hd) : ∀ i, flN h i < 2 ^ i
  | 0 => by show 0 < 1; decide
  | i + 1 => by
    have := flN_lt h i
    show flN h i + bN (flB h i) (2 ^ i) < 2 ^ (i + 1)
    rw [Nat.pow_succ]
    cases flB h i
    · show flN h i + 0 < _; omega
    · show flN h i + 2 ^ i < _; omega
def adrI (h : Hd) : Nat → A6
  | 0 => h.a1
  | 1 => h.a2
  | 2 => h.a3
  | _ => h.a4
def adrB (h : Hd) (n : Nat) : List UInt8 := (List.range n).flatMap fun i => (adrI h i).bytes
theorem adrB_next (h : Hd) (n : Nat) : adrB h (n + 1) = adrB h n ++ (adrI h n).bytes := by
  unfold adrB
  rw [List.range_succ, List.flatMap_append]
  simp
theorem adrB_length (h : Hd) : ∀ n, (adrB h n).length = 6 * n
  | 0 => rfl
  | n + 1 => by rw [adrB_next, List.length_append, adrB_length h n]; rfl
def qN (h : Hd) : Nat := h.tid.toNat + bN h.eosp 16 + 32 * h.ack.toNat + bN h.amsdu 128
def frB (h : Hd) : List UInt8 := [UInt8.ofNat (4 * h.kind.toNat + 16 * h.sub.toNat), UInt8.ofNat (flN h 7)] ++ C01.leB 2 h.dur.toNat
def sqB (h : Hd) : List UInt8 := bif prtB h.kind then C01.leB 2 (h.frag.toNat + 16 * h.seq.toNat) else []
def a4B (h : Hd) : List UInt8 := bif fourB h then h.a4.bytes else []
def qsB (h : Hd) : List UInt8 := bif trafB h.kind h.sub then C01.leB 2 (qN h) else []
/-- the bytes of a header. -/
def hdY (h : Hd) : List UInt8 := frB h ++ adrB h (befN h) ++ sqB h ++ a4B h ++ qsB h
def hdS (h : Hd) : Nat := 4 + 6 * befN h + bN (prtB h.kind) 2 + bN (fourB h) 6 + bN (trafB h.kind h.sub) 2
theorem frB_length (h : Hd) : (frB h).length = 4 := rfl
theorem sqB_length (h : Hd) : (sqB h).length = bN (prtB h.kind) 2 := by unfold sqB bN; cases prtB h.kind <;> rfl
theorem a4B_length (h : Hd) : (a4B h).length = bN (fourB h) 6 := by unfold a4B bN; cases fourB h <;> rfl
theorem qsB_length (h : Hd) : (qsB h).length = bN (trafB h.kind h.sub) 2 := by unfold qsB bN; cases trafB h.kind h.sub <;> rfl
theorem hdY_length (h : Hd) : (hdY h).length = hdS h := by
  unfold hdY hdS
  rw [List.length_append, List.length_append, List.length_append, List.length_append, frB_length, adrB_length, sqB_length, a4B_length, qsB_length]
theorem hdS_le (h : Hd) : hdS h ≤ 34 := by
  unfold hdS
  have h1 : befN h ≤ 3 := by unfold befN; split; decide; split; decide; decide
  have h2 : ∀ b n, bN b n ≤ n := fun b n => by cases b; exact Nat.zero_le _; exact Nat.le_refl _
  have := h2 (prtB h.kind) 2
  have := h2 (fourB h) 6
  have := h2 (trafB h.kind h.sub) 2
  omega
theorem or_flag (x : Nat) (hx : x < 7) (f : Nat) (hf : f < 2 ^ x) : bits .or .u8 (f : Int) ((2 ^ x : Nat) : Int) = ((f + 2 ^ x : Nat) : Int) := by
  have h : ∀ x : Fin 7, ∀ f : Fin 128, f.val < 2 ^ x.val → bits .or .u8 (f.val : Int) ((2 ^ x.val : Nat) : Int) = ((f.val + 2 ^ x.val : Nat) : Int) := by decide +kernel
  have h7 : (2 : Nat) ^ x ≤ 2 ^ 7 := Nat.pow_le_pow_right (by decide) (by omega)
  exact h ⟨x, hx⟩ ⟨f, Nat.lt_of_lt_of_le hf h7⟩ hf
theorem shl_flag (x : Nat) (hx : x < 7) : IntKind.u8.wrap ((1 : Int) * 2 ^ (min (x : Int).toNat IntKind.u8.bits)) = ((2 ^ x : Nat) : Int) := by
  have h : ∀ x : Fin 7, IntKind.u8.wrap ((1 : Int) * 2 ^ (min (x.val : Int).toNat IntKind.u8.bits)) = ((2 ^ x.val : Nat) : Int) := by decide +kernel
  exact h ⟨x, hx⟩
theorem shl_kind (k : UInt8) (hk : k.toNat ≤ 2) : IntKind.u8.wrap ((k.toNat : Int) * 2 ^ (min (2 : Int).toNat IntKind.u8.bits)) = ((4 * k.toNat : Nat) : Int) := by
  have h : ∀ x : Fin 3, IntKind.u8.wrap ((x.val : Int) * 2 ^ (min (2 : Int).toNat IntKind.u8.bits)) = ((4 * x.val : Nat) : Int) := by decide +kernel
  exact h ⟨k.toNat, by omega⟩
theorem shl_sub (k : UInt8) (hk : k.toNat ≤ 15) : IntKind.u8.wrap ((k.toNat : Int) * 2 ^ (min (4 : Int).toNat IntKind.u8.bits)) = ((16 * k.toNat : Nat) : Int) := by
  have h : ∀ x : Fin 16, IntKind.u8.wrap ((x.val : Int) * 2 ^ (min (4 : Int).toNat IntKind.u8.bits)) = ((16 * x.val : Nat) : Int) := by decide +kernel
  exact h ⟨k.toNat, by omega⟩
theorem or_first (k s : Nat) (hk : k ≤ 2) (hs : s ≤ 15) : bits .or .u8 ((4 * k : Nat) : Int) ((16 * s : Nat) : Int) = (((UInt8.ofNat (4 * k + 16 * s)).toNat : Nat) : Int) := by
  have h : ∀ k : Fin 3, ∀ s : Fin 16, bits .or .u8 ((4 * k.val : Nat) : Int) ((16 * s.val : Nat) : Int) = (((UInt8.ofNat (4 * k.val + 16 * s.val)).toNat : Nat) : Int) := by decide +kernel
  exact h ⟨k, by omega⟩ ⟨s, by omega⟩
theorem shl_seq (s : Nat) (hs : s ≤ 4095) : IntKind.i64.wrap ((s : Int) * 2 ^ (min (4 : Int).toNat IntKind.i64.bits)) = ((s * 2 ^ 4 : Nat) : Int) := by
  have : (min (4 : Int).toNat IntKind.i64.bits) = 4 := rfl
  rw [this, wx_i64 (by omega)]
  omega
theorem or_seq (f s : Nat) (hf : f ≤ 15) (hs : s ≤ 4095) : bits .or .i64 (f : Int) ((s * 2 ^ 4 : Nat) : Int) = ((f + 16 * s : Nat) : Int) := by
  rw [i64_or_lo 4 f s (by omega) (by omega)]
  congr 1
  omega
theorem or_ack (t a : Nat) (ht : t ≤ 7) (ha : a ≤ 2) : bits .or .i64 (t : Int) ((a : Int) * 32) = ((t + 32 * a : Nat) : Int) := by
  have h : ∀ t : Fin 8, ∀ a : Fin 3, bits .or .i64 (t.val : Int) ((a.val : Int) * 32) = ((t.val + 32 * a.val : Nat) : Int) := by decide +kernel
  exact h ⟨t, by omega⟩ ⟨a, by omega⟩
theorem or_eosp (t a : Nat) (ht : t ≤ 7) (ha : a ≤ 2) : bits .or .i64 ((t + 32 * a : Nat) : Int) 16 = ((t + 16 + 32 * a : Nat) : Int) := by
  have h : ∀ t : Fin 8, ∀ a : Fin 3, bits .or .i64 ((t.val + 32 * a.val : Nat) : Int) 16 = ((t.val + 16 + 32 * a.val : Nat) : Int) := by decide +kernel
  exact h ⟨t, by omega⟩ ⟨a, by omega⟩
theorem or_ams (t a e : Nat) (ht : t ≤ 7) (ha : a ≤ 2) (he : e = 0 ∨ e = 16) : bits .or .i64 ((t + e + 32 * a : Nat) : Int) 128 = ((t + e + 32 * a + 128 : Nat) : Int) := by
  have h0 : ∀ t : Fin 8, ∀ a : Fin 3, bits .or .i64 ((t.val + 0 + 32 * a.val : Nat) : Int) 128 = ((t.val + 0 + 32 * a.val + 128 : Nat) : Int) := by decide +kernel
  have h1 : ∀ t : Fin 8, ∀ a : Fin 3, bits .or .i64 ((t.val + 16 + 32 * a.val : Nat) : Int) 128 = ((t.val + 16 + 32 * a.val + 128 : Nat) : Int) := by decide +kernel
  rcases he with rfl | rfl
  · exact h0 ⟨t, by omega⟩ ⟨a, by omega⟩
  · exact h1 ⟨t, by omega⟩ ⟨a, by omega⟩
theorem kn_small {h : Hd} (hk : knB h.kind h.sub = true) : h.kind.toNat ≤ 2 ∧ h.sub.toNat ≤ 13 := by
  unfold knB at hk
  by_cases k0 : h.kind.toNat = 0
  · rw [if_pos k0, decide_eq_true_eq] at hk; omega
  · rw [if_neg k0] at hk
    by_cases k1 : h.kind.toNat = 1
    · rw [if_pos k1, decide_eq_true_eq] at hk; omega
    · rw [if_neg k1] at hk
      by_cases k2 : h.kind.toNat = 2
      · rw [if_pos k2, decide_eq_true_eq] at hk; omega
      · rw [if_neg k2] at hk; cases hk
theorem hd_parts {h : Hd} (hv : hdB h = true) : knB h.kind h.sub = true ∧ restH h = h0_ ∧ rngB h = true ∧ gpsB h = true ∧ badB h = false := by
  unfold hdB at hv
  simp only [Bool.and_eq_true, decide_eq_true_eq, Bool.not_eq_true'] at hv
  exact ⟨hv.1, hv.2.1, hv.2.2.1, hv.2.2.2.1, hv.2.2.2.2⟩
/-- the goal stands at a block ahead of the rest. -/
theorem W_isSB {C : Ctx} {fr : Fr} {Γ : List OA} {Φ : List SP} {Q : Exit → Act → World → Prop} (id : Nat) {x : Code} (h : W C (.block id x) fr Γ Φ Q) : W C (.block id x) fr Γ Φ Q := h
theorem adr_cells (h : Hd) {x : Nat} (hx : x < 4) : (h.cells.drop (10 + 6 * x)).take 6 = (adrI h x).bytes.map bcell := by
  have : x = 0 ∨ x = 1 ∨ x = 2 ∨ x = 3 := by omega
  rcases this with rfl | rfl | rfl | rfl <;> rfl
theorem plc_get (b : Nat) {x : Nat} (hx : x < 4) : (plcC b)[0 + x]? = some (.pointer (some ⟨b, 10 + 6 * x, none⟩)) := by
  have : x = 0 ∨ x = 1 ∨ x = 2 ∨ x = 3 := by omega
  rcases this with rfl | rfl | rfl | rfl <;> rfl
theorem fl_get (h : Hd) {x : Nat} (hx : x < 7) : ([.bool h.toDs, .bool h.fromDs, .bool h.more, .bool h.retry, .bool h.sleep, .bool h.md, .bool h.prot] : List Value)[x]? = some (.bool (flB h x)) := by
  have : x = 0 ∨ x = 1 ∨ x = 2 ∨ x = 3 ∨ x = 4 ∨ x = 5 ∨ x = 6 := by omega
  rcases this with rfl | rfl | rfl | rfl | rfl | rfl | rfl <;> rfl
theorem bef3 (h : Hd) : befN h ≤ 3 := by unfold befN; split; decide; split; decide; decide
attribute [local irreducible] WL W WQ PL Runs Effs AllE Ent SubO FrIn Pick OneC Ones CellsE PartsE SeqE UZ By Sl Pt Ct

set_option maxRecDepth 100000 in
theorem put16_fn (r : Value) (n v : Nat) (bs : List UInt8) (hn : n = bs.length) (hb : n ≤ 1000000) (hv : v < 4611686018427387904) : Ct Tryd.prog 43 [r, .int .i64 (v : Int)] [.row r 5 1 n (bs.map bcell)] []
    (X := Value) (fun _ => True) (fun x => x) (fun x => [.row x 5 1 (n + 2) ((bs ++ C01.leB 2 v).map bcell)]) (fun _ => []) := by
  rw [leb2]
  have h8 := i64_shr8 v
  refine Ct_intro Tryd.func43 rfl Tryd.ntmps43 (by simp) _ rfl (fun w0 O0 => ?_)
  repeat (first | refine n1 ?_ | refine n2 (fun b _ => ?_) | refine n3 (fun _ _ => ?_) | refine n4 ?_ | refine n5 ?_ | refine WL_nil ?_ | refine W_seq ?_ | refine W_region ?_ | refine n7 ?_ | refine n8 ?_ | refine W_block ?_ | refine W_skip ?_ | refine W_ret ?_ | refine W_exit ?_ | refine WQ_then ?_ | refine WQ_then_ret ?_ | refine WQ_then_exit ?_ | refine WQ_block_normal ?_ | refine WQ_block_ret ?_ | refine WQ_block_exit ?_ | refine n9 ?_)
  refine WL_runs rfl rfl rfl (R_shr rfl rfl (by decide) h8) ?_
  repeat (first | refine n1 ?_ | refine n2 (fun b _ => ?_) | refine n3 (fun _ _ => ?_) | refine n4 ?_ | refine n5 ?_ | refine WL_nil ?_ | refine W_seq ?_ | refine W_region ?_ | refine n7 ?_ | refine n8 ?_ | refine W_block ?_ | refine W_skip ?_ | refine W_ret ?_ | refine W_exit ?_ | refine WQ_then ?_ | refine WQ_then_ret ?_ | refine WQ_then_exit ?_ | refine WQ_block_normal ?_ | refine WQ_block_ret ?_ | refine WQ_block_exit ?_ | refine n9 ?_)
  (apply WL_effs; exact rfl; exact rfl; exact rfl; (apply E_buildSlice; exact rfl; (focus (repeat (first | apply SeqE.nil | (apply SeqE.cons; exact rfl; (focus (first | (apply CellsE.lit; exact rfl) | (apply CellsE.one; (first | (apply OneC.lit; exact rfl) | (apply OneC.by_; (repeat' (first | exact mcs | apply mct)); done) | (apply OneC.sl; (repeat' (first | exact mcs | apply mct)); done) | (apply OneC.rw; (repeat' (first | exact mcs | apply mct)); done) | (apply OneC.row; (repeat' (first | exact Pick.head _ _ | apply Pick.tail))))))); exact rfl) | exact rfl))); exact rfl; (first | (intro _; exact (rfl : _ = Result.ok 1 _)) | (intro _; exact (rfl : _ = Result.ok 2 _)) | (intro _; exact (rfl : _ = Result.ok 3 _)) | (intro _; exact (rfl : _ = Result.ok 4 _)) | (intro _; exact (rfl : _ = Result.ok 5 _)) | (intro _; exact (rfl : _ = Result.ok 6 _)) | (intro _; exact (rfl : _ = Result.ok 7 _)) | (intro _; exact (rfl : _ = Result.ok 8 _)) | (intro _; exact (rfl : _ = Result.ok 9 _)) | (intro _; exact (rfl : _ = Result.ok 13 _)) | (intro _; exact (rfl : _ = Result.ok 14 _)) | (intro _; exact (rfl : _ = Result.ok 26 _)) | (intro _; exact (rfl : _ = Result.ok 40 _)) | (intro _; exact (rfl : _ = Result.ok 41 _)) | (intro _; exact (rfl : _ = Result.ok 42 _)) | (intro _; exact (rfl : _ = Result.ok 43 _)) | (intro _; exact (rfl : _ = Result.ok 44 _)) | (intro _; exact (rfl : _ = Result.ok 45 _)) | (intro _; exact (rfl : _ = Result.ok 46 _))); (intro _; exact rfl); exact rfl; exact Nat.le_of_ble_eq_true rfl; exact Nat.le_of_ble_eq_true rfl); skip)
  intro q _
  refine WL_effs rfl rfl rfl (E_appendRowB (bs := bs) (news := [UInt8.ofNat v, UInt8.ofNat (v / 256)]) (nm := n + 2) (all := bs ++ [UInt8.ofNat v, UInt8.ofNat (v / 256)]) rfl rfl (by repeat' (first | exact Pick.head _ _ | apply Pick.tail)) (by repeat' (first | exact Pick.head _ _ | apply Pick.tail)) rfl rfl rfl rfl rfl rfl rfl (Nat.le_of_ble_eq_true rfl) (by omega) rfl rfl) ?_
  intro q2 _
  repeat (first | refine n1 ?_ | refine n2 (fun b _ => ?_) | refine n3 (fun _ _ => ?_) | refine n4 ?_ | refine n5 ?_ | refine WL_nil ?_ | refine W_seq ?_ | refine W_region ?_ | refine n7 ?_ | refine n8 ?_ | refine W_block ?_ | refine W_skip ?_ | refine W_ret ?_ | refine W_exit ?_ | refine WQ_then ?_ | refine WQ_then_ret ?_ | refine WQ_then_exit ?_ | refine WQ_block_normal ?_ | refine WQ_block_ret ?_ | refine WQ_block_exit ?_ | refine n9 ?_)
  ((apply ret1 Tryd.results43 ( q2)); (focus (first | trivial | assumption | omega)); (focus (first | exact RV_tmp rfl | (apply RV_cellN; exact rfl; (repeat' (first | exact Pick.head _ _ | apply Pick.tail)); (intro _; exact rfl); (intro _; exact rfl); exact rfl) | (apply RV_cell1; exact rfl; (repeat' (first | exact Pick.head _ _ | apply Pick.tail)); (intro _; exact rfl); exact rfl)));  (focus (first | exact rfl | (simp; done))); (focus (repeat (first | exact SubO.nil _ | (apply SubO.cons; (focus (repeat' (first | exact Pick.head _ _ | apply Pick.tail))))))); (focus (repeat (first | exact AllE.nil _ | (apply AllE.cons; (focus (first | exact ent_nilBy | exact ent_nilSl | (apply Ent.mem; repeat' (first | exact mcs | apply mct)))))))))
set_option maxRecDepth 100000 in
set_option maxHeartbeats 16000000 in
theorem write_fn (h : Hd) (hv : hdB h = true) : Ct Tryd.prog 19 [h.val] [] []
    (X := Value) (fun _ => True) (fun x => x) (fun x => [.row x 5 1 (hdS h) ((hdY h).map bcell)]) (fun _ => []) := by
  obtain ⟨hk, _, hrg, _, _⟩ := hd_parts hv
  obtain ⟨hkl, hsl⟩ := kn_small hk
  obtain ⟨r1, r2, r3, r4, r5, r6, r7, r8, r9⟩ := rng_iff.1 hrg
  have hkf := known_fn h.kind h.sub
  rw [hk] at hkf
  obtain ⟨dd, hdd⟩ : ∃ d : Nat, h.dur = (d : Int) := ⟨h.dur.toNat, (Int.toNat_of_nonneg r1).symm⟩
  obtain ⟨sq, hsq⟩ : ∃ d : Nat, h.seq = (d : Int) := ⟨h.seq.toNat, (Int.toNat_of_nonneg r3).symm⟩
  obtain ⟨fg, hfg⟩ : ∃ d : Nat, h.frag = (d : Int) := ⟨h.frag.toNat, (Int.toNat_of_nonneg r5).symm⟩
  obtain ⟨td, htd⟩ : ∃ d : Nat, h.tid = (d : Int) := ⟨h.tid.toNat, (Int.toNat_of_nonneg r7).symm⟩
  refine Ct_intro Tryd.func19 rfl Tryd.ntmps19 (by simp) _ rfl (fun w0 O0 => ?_)
  (first | refine n1 ?_ | refine n2 (fun b _ => ?_) | refine n3 (fun _ _ => ?_) | refine n4 ?_ | refine n5 ?_ | refine WL_nil ?_ | refine W_seq ?_ | refine W_region ?_ | refine n7 ?_ | refine n8 ?_ | refine W_block ?_ | refine W_skip ?_ | refine W_ret ?_ | refine W_exit ?_ | refine WQ_then ?_ | refine WQ_then_ret ?_ | refine WQ_then_exit ?_ | refine WQ_block_normal ?_ | refine WQ_block_ret ?_ | refine WQ_block_exit ?_ | refine n9 ?_)
  (first | refine n1 ?_ | refine n2 (fun b _ => ?_) | refine n3 (fun _ _ => ?_) | refine n4 ?_ | refine n5 ?_ | refine WL_nil ?_ | refine W_seq ?_ | refine W_region ?_ | refine n7 ?_ | refine n8 ?_ | refine W_block ?_ | refine W_skip ?_ | refine W_ret ?_ | refine W_exit ?_ | refine WQ_then ?_ | refine WQ_then_ret ?_ | refine WQ_then_exit ?_ | refine WQ_block_normal ?_ | refine WQ_block_ret ?_ | refine WQ_block_exit ?_ | refine n9 ?_)
  (first | refine n1 ?_ | refine n2 (fun b _ => ?_) | refine n3 (fun _ _ => ?_) | refine n4 ?_ | refine n5 ?_ | refine WL_nil ?_ | refine W_seq ?_ | refine W_region ?_ | refine n7 ?_ | refine n8 ?_ | refine W_block ?_ | refine W_skip ?_ | refine W_ret ?_ | refine W_exit ?_ | refine WQ_then ?_ | refine WQ_then_ret ?_ | refine WQ_then_exit ?_ | refine WQ_block_normal ?_ | refine WQ_block_ret ?_ | refine WQ_block_exit ?_ | refine n9 ?_)
  obtain ⟨b1, rfl⟩ : ∃ b1, b1 = b := ⟨b, rfl⟩
  repeat (first | refine n1 ?_ | refine n2 (fun b _ => ?_) | refine n3 (fun _ _ => ?_) | refine n4 ?_ | refine n5 ?_ | refine n6 (hkf) ?_ | refine n6v (hkf) ?_ | refine WL_nil ?_ | refine W_seq ?_ | refine W_region ?_ | refine n7 ?_ | refine n8 ?_ | refine W_block ?_ | refine W_skip ?_ | refine W_ret ?_ | refine W_exit ?_ | refine WQ_then ?_ | refine WQ_then_ret ?_ | refine WQ_then_exit ?_ | refine WQ_block_normal ?_ | refine WQ_block_ret ?_ | refine WQ_block_exit ?_ | refine n9 ?_)
  (apply WL_effs; exact rfl; exact rfl; exact rfl; (apply E_buildSlice; exact rfl; (focus (repeat (first | apply SeqE.nil | (apply SeqE.cons; exact rfl; (focus (first | (apply CellsE.lit; exact rfl) | (apply CellsE.one; (first | (apply OneC.lit; exact rfl) | (apply OneC.by_; (repeat' (first | exact mcs | apply mct)); done) | (apply OneC.sl; (repeat' (first | exact mcs | apply mct)); done) | (apply OneC.rw; (repeat' (first | exact mcs | apply mct)); done) | (apply OneC.row; (repeat' (first | exact Pick.head _ _ | apply Pick.tail))))))); exact rfl) | exact rfl))); exact rfl; (first | (intro _; exact (rfl : _ = Result.ok 1 _)) | (intro _; exact (rfl : _ = Result.ok 2 _)) | (intro _; exact (rfl : _ = Result.ok 3 _)) | (intro _; exact (rfl : _ = Result.ok 4 _)) | (intro _; exact (rfl : _ = Result.ok 5 _)) | (intro _; exact (rfl : _ = Result.ok 6 _)) | (intro _; exact (rfl : _ = Result.ok 7 _)) | (intro _; exact (rfl : _ = Result.ok 8 _)) | (intro _; exact (rfl : _ = Result.ok 9 _)) | (intro _; exact (rfl : _ = Result.ok 13 _)) | (intro _; exact (rfl : _ = Result.ok 14 _)) | (intro _; exact (rfl : _ = Result.ok 26 _)) | (intro _; exact (rfl : _ = Result.ok 40 _)) | (intro _; exact (rfl : _ = Result.ok 41 _)) | (intro _; exact (rfl : _ = Result.ok 42 _)) | (intro _; exact (rfl : _ = Result.ok 43 _)) | (intro _; exact (rfl : _ = Result.ok 44 _)) | (intro _; exact (rfl : _ = Result.ok 45 _)) | (intro _; exact (rfl : _ = Result.ok 46 _))); (intro _; exact rfl); exact rfl; exact Nat.le_of_ble_eq_true rfl; exact Nat.le_of_ble_eq_true rfl); skip)
  intro qf _
  repeat (first | refine n1 ?_ | refine n2 (fun b _ => ?_) | refine n3 (fun _ _ => ?_) | refine n4 ?_ | refine n5 ?_ | refine WL_nil ?_ | refine W_seq ?_ | refine W_region ?_ | refine n7 ?_ | refine n8 ?_ | refine W_block ?_ | refine W_skip ?_ | refine W_ret ?_ | refine W_exit ?_ | refine WQ_then ?_ | refine WQ_then_ret ?_ | refine WQ_then_exit ?_ | refine WQ_block_normal ?_ | refine WQ_block_ret ?_ | refine WQ_block_exit ?_ | refine n9 ?_)
  refine W_letgoK (b := b1) (by repeat' (first | exact Pick.head _ _ | apply Pick.tail)) ?_
  obtain ⟨b3, rfl⟩ : ∃ b3, b3 = b := ⟨b, rfl⟩
  ((apply W_loopK (X := Nat) [5, 40] [] (fun x => x ≤ 7) (fun x => [(5, .int .u8 (flN h x : Int)), (40, .int .i64 (x : Int))]) (fun _ => []) (fun _ => []) (fun x => 7 - x) (0)); (focus exact Nat.zero_le _); exact rfl; exact rfl; (intro _; exact rfl); (intro _; exact rfl); (intro _; exact rfl); (focus (repeat (first | exact FrIn.nil _ | (apply FrIn.cons; exact rfl; (first | exact rfl | (congr 1; first | omega | (dsimp only; omega)) | (simp; done)))))); (focus (repeat (first | exact SubO.nil _ | (apply SubO.cons; (focus (repeat' (first | exact Pick.head _ _ | apply Pick.tail))))))); (focus (repeat (first | exact AllE.nil _ | (apply AllE.cons; (focus (first | exact ent_nilBy | exact ent_nilSl | (apply Ent.mem; repeat' (first | exact mcs | apply mct)))))))); intro x hx)
  by_cases c1 : x < 7
  · have hfg' := fl_get h c1
    have hfn : flN h (x + 1) = flN h x + bN (flB h x) (2 ^ x) := rfl
    have hsh := shl_flag x c1
    have hor := or_flag x c1 (flN h x) (flN_lt h x)
    generalize flB h x = fb at *
    cases fb with
    | false =>
      have hfn : flN h (x + 1) = flN h x := hfn
      repeat (first | refine n1 ?_ | refine n2 (fun b _ => ?_) | refine n3 (fun _ _ => ?_) | refine n4 ?_ | refine n5 ?_ | refine WL_nil ?_ | refine W_seq ?_ | refine W_region ?_ | refine n7 ?_ | refine n8 ?_ | refine W_block ?_ | refine W_skip ?_ | refine W_ret ?_ | refine W_exit ?_ | refine WQ_then ?_ | refine WQ_then_ret ?_ | refine WQ_then_exit ?_ | refine WQ_block_normal ?_ | refine WQ_block_ret ?_ | refine WQ_block_exit ?_ | refine n9 ?_)
      rw [← hfn]
      ((apply WQ_again (x + 1)); (focus exact c1); (focus (omega)); (focus (repeat (first | exact FrIn.nil _ | (apply FrIn.cons; exact rfl; (first | exact rfl | (congr 1; first | omega | (dsimp only; omega)) | (simp; done)))))); (focus (repeat (first | exact SubO.nil _ | (apply SubO.cons; (focus (repeat' (first | exact Pick.head _ _ | apply Pick.tail))))))); (focus (repeat (first | exact AllE.nil _ | (apply AllE.cons; (focus (first | exact ent_nilBy | exact ent_nilSl | (apply Ent.mem; repeat' (first | exact mcs | apply mct)))))))))
    | true =>
      have hfn : flN h (x + 1) = flN h x + 2 ^ x := hfn
      repeat (first | refine n1 ?_ | refine n2 (fun b _ => ?_) | refine n3 (fun _ _ => ?_) | refine n4 ?_ | refine n5 ?_ | refine WL_nil ?_ | refine W_seq ?_ | refine W_region ?_ | refine n7 ?_ | refine n8 ?_ | refine W_block ?_ | refine W_skip ?_ | refine W_ret ?_ | refine W_exit ?_ | refine WQ_then ?_ | refine WQ_then_ret ?_ | refine WQ_then_exit ?_ | refine WQ_block_normal ?_ | refine WQ_block_ret ?_ | refine WQ_block_exit ?_ | refine n9 ?_)
      refine WL_runs rfl rfl rfl (R_shl rfl rfl (by omega) hsh) ?_
      refine WL_runs rfl rfl rfl (R_or rfl rfl hor) ?_
      repeat (first | refine n1 ?_ | refine n2 (fun b _ => ?_) | refine n3 (fun _ _ => ?_) | refine n4 ?_ | refine n5 ?_ | refine WL_nil ?_ | refine W_seq ?_ | refine W_region ?_ | refine n7 ?_ | refine n8 ?_ | refine W_block ?_ | refine W_skip ?_ | refine W_ret ?_ | refine W_exit ?_ | refine WQ_then ?_ | refine WQ_then_ret ?_ | refine WQ_then_exit ?_ | refine WQ_block_normal ?_ | refine WQ_block_ret ?_ | refine WQ_block_exit ?_ | refine n9 ?_)
      rw [← hfn]
      ((apply WQ_again (x + 1)); (focus exact c1); (focus (omega)); (focus (repeat (first | exact FrIn.nil _ | (apply FrIn.cons; exact rfl; (first | exact rfl | (congr 1; first | omega | (dsimp only; omega)) | (simp; done)))))); (focus (repeat (first | exact SubO.nil _ | (apply SubO.cons; (focus (repeat' (first | exact Pick.head _ _ | apply Pick.tail))))))); (focus (repeat (first | exact AllE.nil _ | (apply AllE.cons; (focus (first | exact ent_nilBy | exact ent_nilSl | (apply Ent.mem; repeat' (first | exact mcs | apply mct)))))))))
  · obtain rfl : x = 7 := by omega
    have hf7 := flN_lt h 7
    have e7 : Value.int .u8 (flN h 7 : Int) = bcell (UInt8.ofNat (flN h 7)) := by
      show _ = Value.int .u8 ((UInt8.ofNat (flN h 7)).toNat : Int)
      rw [UInt8.toNat_ofNat', Nat.mod_eq_of_lt (by omega)]
    rw [e7]
    repeat (first | refine n1 ?_ | refine n2 (fun b _ => ?_) | refine n3 (fun _ _ => ?_) | refine n4 ?_ | refine n5 ?_ | refine WL_nil ?_ | refine W_seq ?_ | refine W_region ?_ | refine n7 ?_ | refine n8 ?_ | refine W_block ?_ | refine W_skip ?_ | refine W_ret ?_ | refine W_exit ?_ | refine WQ_then ?_ | refine WQ_then_ret ?_ | refine WQ_then_exit ?_ | refine WQ_block_normal ?_ | refine WQ_block_ret ?_ | refine WQ_block_exit ?_ | refine n9 ?_)
    refine WL_runs rfl rfl rfl (R_shl rfl rfl (by omega) (shl_kind h.kind hkl)) ?_
    repeat (first | refine n1 ?_ | refine n2 (fun b _ => ?_) | refine n3 (fun _ _ => ?_) | refine n4 ?_ | refine n5 ?_ | refine WL_nil ?_ | refine W_seq ?_ | refine W_region ?_ | refine n7 ?_ | refine n8 ?_ | refine W_block ?_ | refine W_skip ?_ | refine W_ret ?_ | refine W_exit ?_ | refine WQ_then ?_ | refine WQ_then_ret ?_ | refine WQ_then_exit ?_ | refine WQ_block_normal ?_ | refine WQ_block_ret ?_ | refine WQ_block_exit ?_ | refine n9 ?_)
    refine WL_runs rfl rfl rfl (R_shl rfl rfl (by omega) (shl_sub h.sub (by omega))) ?_
    refine WL_runs rfl rfl rfl (R_or rfl rfl (or_first h.kind.toNat h.sub.toNat hkl (by omega))) ?_
    repeat (first | refine n1 ?_ | refine n2 (fun b _ => ?_) | refine n3 (fun _ _ => ?_) | refine n4 ?_ | refine n5 ?_ | refine WL_nil ?_ | refine W_seq ?_ | refine W_region ?_ | refine n7 ?_ | refine n8 ?_ | refine W_block ?_ | refine W_skip ?_ | refine W_ret ?_ | refine W_exit ?_ | refine WQ_then ?_ | refine WQ_then_ret ?_ | refine WQ_then_exit ?_ | refine WQ_block_normal ?_ | refine WQ_block_ret ?_ | refine WQ_block_exit ?_ | refine n9 ?_)
    (apply WL_effs; exact rfl; exact rfl; exact rfl; (apply E_buildSlice; exact rfl; (focus (repeat (first | apply SeqE.nil | (apply SeqE.cons; exact rfl; (focus (first | (apply CellsE.lit; exact rfl) | (apply CellsE.one; (first | (apply OneC.lit; exact rfl) | (apply OneC.by_; (repeat' (first | exact mcs | apply mct)); done) | (apply OneC.sl; (repeat' (first | exact mcs | apply mct)); done) | (apply OneC.rw; (repeat' (first | exact mcs | apply mct)); done) | (apply OneC.row; (repeat' (first | exact Pick.head _ _ | apply Pick.tail))))))); exact rfl) | exact rfl))); exact rfl; (first | (intro _; exact (rfl : _ = Result.ok 1 _)) | (intro _; exact (rfl : _ = Result.ok 2 _)) | (intro _; exact (rfl : _ = Result.ok 3 _)) | (intro _; exact (rfl : _ = Result.ok 4 _)) | (intro _; exact (rfl : _ = Result.ok 5 _)) | (intro _; exact (rfl : _ = Result.ok 6 _)) | (intro _; exact (rfl : _ = Result.ok 7 _)) | (intro _; exact (rfl : _ = Result.ok 8 _)) | (intro _; exact (rfl : _ = Result.ok 9 _)) | (intro _; exact (rfl : _ = Result.ok 13 _)) | (intro _; exact (rfl : _ = Result.ok 14 _)) | (intro _; exact (rfl : _ = Result.ok 26 _)) | (intro _; exact (rfl : _ = Result.ok 40 _)) | (intro _; exact (rfl : _ = Result.ok 41 _)) | (intro _; exact (rfl : _ = Result.ok 42 _)) | (intro _; exact (rfl : _ = Result.ok 43 _)) | (intro _; exact (rfl : _ = Result.ok 44 _)) | (intro _; exact (rfl : _ = Result.ok 45 _)) | (intro _; exact (rfl : _ = Result.ok 46 _))); (intro _; exact rfl); exact rfl; exact Nat.le_of_ble_eq_true rfl; exact Nat.le_of_ble_eq_true rfl); skip)
    intro q _
    repeat (first | refine n1 ?_ | refine n2 (fun b _ => ?_) | refine n3 (fun _ _ => ?_) | refine n4 ?_ | refine n5 ?_ | refine WL_nil ?_ | refine W_seq ?_ | refine W_region ?_ | refine n7 ?_ | refine n8 ?_ | refine W_block ?_ | refine W_skip ?_ | refine W_ret ?_ | refine W_exit ?_ | refine WQ_then ?_ | refine WQ_then_ret ?_ | refine WQ_then_exit ?_ | refine WQ_block_normal ?_ | refine WQ_block_ret ?_ | refine WQ_block_exit ?_ | refine n9 ?_)
    have hp := put16_fn q 2 dd [UInt8.ofNat (4 * h.kind.toNat + 16 * h.sub.toNat), UInt8.ofNat (flN h 7)] rfl (by omega) (by omega)
    rw [← hdd] at hp
    have hfr : [UInt8.ofNat (4 * h.kind.toNat + 16 * h.sub.toNat), UInt8.ofNat (flN h 7)] ++ C01.leB 2 dd = frB h := by unfold frB; rw [hdd]; rfl
    rw [hfr] at hp
    (apply WL_effs; exact rfl; exact rfl; exact rfl; apply E_callO; exact rfl; (intro _ _; simp); exact hp; (first | (apply perm1; (focus (repeat' (first | exact Pick.head _ _ | apply Pick.tail)))) | (apply perm2; (focus (repeat' (first | exact Pick.head _ _ | apply Pick.tail))); (focus (repeat' (first | exact Pick.head _ _ | apply Pick.tail)))) | (apply perm3; (focus (repeat' (first | exact Pick.head _ _ | apply Pick.tail))); (focus (repeat' (first | exact Pick.head _ _ | apply Pick.tail))); (focus (repeat' (first | exact Pick.head _ _ | apply Pick.tail))))); (repeat (first | exact AllE.nil _ | (apply AllE.cons; (focus (first | exact ent_nilBy | exact ent_nilSl | (apply Ent.mem; repeat' (first | exact mcs | apply mct))))))); (intro _; exact rfl); (intro _; exact rfl))
    intro o _
    repeat (first | refine n1 ?_ | refine n2 (fun b _ => ?_) | refine n3 (fun _ _ => ?_) | refine n4 ?_ | refine n5 ?_ | refine WL_nil ?_ | refine W_seq ?_ | refine W_region ?_ | refine n7 ?_ | refine n8 ?_ | refine W_block ?_ | refine W_skip ?_ | refine W_ret ?_ | refine W_exit ?_ | refine WQ_then ?_ | refine WQ_then_ret ?_ | refine WQ_then_exit ?_ | refine WQ_block_normal ?_ | refine WQ_block_ret ?_ | refine WQ_block_exit ?_ | refine n9 ?_)
    (apply WL_effs; exact rfl; exact rfl; exact rfl; apply E_call; exact rfl; (intro _ _; simp); exact places_fn b1 h; (repeat (first | exact AllE.nil _ | (apply AllE.cons; (focus (first | exact ent_nilBy | exact ent_nilSl | (apply Ent.mem; repeat' (first | exact mcs | apply mct))))))); (intro _; exact rfl); (intro _; exact rfl))
    intro b2 _
    repeat (first | refine n1 ?_ | refine n2 (fun b _ => ?_) | refine n3 (fun _ _ => ?_) | refine n4 ?_ | refine n5 ?_ | refine WL_nil ?_ | refine W_seq ?_ | refine W_region ?_ | refine n7 ?_ | refine n8 ?_ | refine W_block ?_ | refine W_skip ?_ | refine W_ret ?_ | refine W_exit ?_ | refine WQ_then ?_ | refine WQ_then_ret ?_ | refine WQ_then_exit ?_ | refine WQ_block_normal ?_ | refine WQ_block_ret ?_ | refine WQ_block_exit ?_ | refine n9 ?_)
    have hb3 := bef3 h
    ((apply W_loopK (X := Nat × Value) [8, 69] [1] (fun x => x.1 ≤ befN h) (fun x => [(8, x.2), (69, .int .i64 (x.1 : Int))]) (fun x => [.row x.2 5 1 (4 + 6 * x.1) ((frB h ++ adrB h x.1).map bcell)]) (fun _ => []) (fun x => befN h - x.1) ((0, o))); (focus exact Nat.zero_le _); exact rfl; exact rfl; (intro _; exact rfl); (intro _; exact rfl); (intro _; exact rfl); (focus (repeat (first | exact FrIn.nil _ | (apply FrIn.cons; exact rfl; (first | exact rfl | (congr 1; first | omega | (dsimp only; omega)) | (simp; done)))))); (focus (repeat (first | exact SubO.nil _ | (apply SubO.cons; (focus (repeat' (first | exact Pick.head _ _ | apply Pick.tail))))))); (focus (repeat (first | exact AllE.nil _ | (apply AllE.cons; (focus (first | exact ent_nilBy | exact ent_nilSl | (apply Ent.mem; repeat' (first | exact mcs | apply mct)))))))); intro x hx)
    obtain ⟨x, o2⟩ := x
    replace hx : x ≤ befN h := hx
    dsimp only
    by_cases d1 : x < befN h
    · have hac := adr_cells h (show x < 4 by omega)
      have hpc := plc_get b1 (show x < 4 by omega)
      have hnx := adrB_next h x
      repeat (first | refine n1 ?_ | refine n2 (fun b _ => ?_) | refine n3 (fun _ _ => ?_) | refine n4 ?_ | refine n5 ?_ | refine WL_nil ?_ | refine W_seq ?_ | refine W_region ?_ | refine n7 ?_ | refine n8 ?_ | refine W_block ?_ | refine W_skip ?_ | refine W_ret ?_ | refine W_exit ?_ | refine WQ_then ?_ | refine WQ_then_ret ?_ | refine WQ_then_exit ?_ | refine WQ_block_normal ?_ | refine WQ_block_ret ?_ | refine WQ_block_exit ?_ | refine n9 ?_)
      refine WL_runs rfl rfl rfl (R_idxLit (i := x) rfl rfl rfl (by intro _; exact rfl) rfl d1) ?_
      refine WL_runs rfl rfl rfl (R_load1 rfl (by repeat' (first | exact Pick.head _ _ | apply Pick.tail)) (by intro _; exact rfl) hpc) ?_
      repeat (first | refine n1 ?_ | refine n2 (fun b _ => ?_) | refine n3 (fun _ _ => ?_) | refine n4 ?_ | refine n5 ?_ | refine WL_nil ?_ | refine W_seq ?_ | refine W_region ?_ | refine n7 ?_ | refine n8 ?_ | refine W_block ?_ | refine W_skip ?_ | refine W_ret ?_ | refine W_exit ?_ | refine WQ_then ?_ | refine WQ_then_ret ?_ | refine WQ_then_exit ?_ | refine WQ_block_normal ?_ | refine WQ_block_ret ?_ | refine WQ_block_exit ?_ | refine n9 ?_)
      refine WL_ent (ent_ptByO (b := b1) (off := 10 + 6 * x) (n := 6) (xs := h.cells) (bs := (adrI h x).bytes) (by repeat' (first | exact mcs | apply mct)) hac rfl (by decide) (by decide)) ?_
      refine WL_effs rfl rfl rfl (E_appendBy (bs := frB h ++ adrB h x) (news := (adrI h x).bytes) (nm := 4 + 6 * (x + 1)) (all := frB h ++ adrB h (x + 1)) rfl rfl (by repeat' (first | exact Pick.head _ _ | apply Pick.tail)) (by repeat' (first | exact mcs | apply mct)) rfl rfl rfl rfl rfl rfl (Nat.le_of_ble_eq_true rfl) (show 4 + 6 * x + 6 ≤ 1099511627776 by omega) (show 4 + 6 * x + 6 = 4 + 6 * (x + 1) by omega) (by rw [hnx, List.append_assoc])) ?_
      intro o3 _
      repeat (first | refine n1 ?_ | refine n2 (fun b _ => ?_) | refine n3 (fun _ _ => ?_) | refine n4 ?_ | refine n5 ?_ | refine WL_nil ?_ | refine W_seq ?_ | refine W_region ?_ | refine n7 ?_ | refine n8 ?_ | refine W_block ?_ | refine W_skip ?_ | refine W_ret ?_ | refine W_exit ?_ | refine WQ_then ?_ | refine WQ_then_ret ?_ | refine WQ_then_exit ?_ | refine WQ_block_normal ?_ | refine WQ_block_ret ?_ | refine WQ_block_exit ?_ | refine n9 ?_)
      ((apply WQ_again ((x + 1, o3))); (focus exact d1); (focus (exact (show befN h - (x + 1) < befN h - x by omega))); (focus (repeat (first | exact FrIn.nil _ | (apply FrIn.cons; exact rfl; (first | exact rfl | (congr 1; first | omega | (dsimp only; omega)) | (simp; done)))))); (focus (repeat (first | exact SubO.nil _ | (apply SubO.cons; (focus (repeat' (first | exact Pick.head _ _ | apply Pick.tail))))))); (focus (repeat (first | exact AllE.nil _ | (apply AllE.cons; (focus (first | exact ent_nilBy | exact ent_nilSl | (apply Ent.mem; repeat' (first | exact mcs | apply mct)))))))))
    · obtain rfl : x = befN h := by omega
      repeat ((fail_if_success apply W_isIf); (first | refine n1 ?_ | refine n2 (fun b _ => ?_) | refine n3 (fun _ _ => ?_) | refine n4 ?_ | refine n5 ?_ | refine WL_nil ?_ | refine W_seq ?_ | refine W_region ?_ | refine n7 ?_ | refine n8 ?_ | refine W_block ?_ | refine W_skip ?_ | refine W_ret ?_ | refine W_exit ?_ | refine WQ_then ?_ | refine WQ_then_ret ?_ | refine WQ_then_exit ?_ | refine WQ_block_normal ?_ | refine WQ_block_ret ?_ | refine WQ_block_exit ?_ | refine n9 ?_))
      ((apply W_cutK (X := Value) [8] [0] (fun _ => True) (fun z => [(8, z)]) (fun z => [.row z 5 1 (4 + 6 * befN h + bN (prtB h.kind) 2) ((frB h ++ adrB h (befN h) ++ sqB h).map bcell)]) (fun _ => [])); exact rfl; exact rfl; (intro _; exact rfl); (intro _; exact rfl); (intro _; exact rfl))
      · have hlen : (frB h ++ adrB h (befN h)).length = 4 + 6 * befN h := by rw [List.length_append, frB_length, adrB_length]
        have hp := put16_fn o2 (4 + 6 * befN h) (fg + 16 * sq) (frB h ++ adrB h (befN h)) hlen.symm (by omega) (by omega)
        have hshl : IntKind.i64.wrap (h.seq * 2 ^ (min (4 : Int).toNat IntKind.i64.bits)) = ((sq * 2 ^ 4 : Nat) : Int) := by rw [hsq]; exact shl_seq sq (by omega)
        have hor : bits .or .i64 h.frag ((sq * 2 ^ 4 : Nat) : Int) = ((fg + 16 * sq : Nat) : Int) := by rw [hfg]; exact or_seq fg sq (by omega) (by omega)
        have hsB : sqB h = bif prtB h.kind then C01.leB 2 (fg + 16 * sq) else [] := by unfold sqB; rw [hfg, hsq]; rfl
        rw [hsB]
        generalize prtB h.kind = pq at *
        cases pq with
        | false =>
          rw [show (bif false then C01.leB 2 (fg + 16 * sq) else []) = [] from rfl, List.append_nil]
          repeat (first | refine n1 ?_ | refine n2 (fun b _ => ?_) | refine n3 (fun _ _ => ?_) | refine n4 ?_ | refine n5 ?_ | refine WL_nil ?_ | refine W_seq ?_ | refine W_region ?_ | refine n7 ?_ | refine n8 ?_ | refine W_block ?_ | refine W_skip ?_ | refine W_ret ?_ | refine W_exit ?_ | refine WQ_then ?_ | refine WQ_then_ret ?_ | refine WQ_then_exit ?_ | refine WQ_block_normal ?_ | refine WQ_block_ret ?_ | refine WQ_block_exit ?_ | refine n9 ?_)
          ((apply WQ_meet (o2)); (focus (first | trivial | omega | assumption | exact ⟨by omega, by omega⟩ | (simp; done))); (focus (repeat (first | exact FrIn.nil _ | (apply FrIn.cons; exact rfl; (first | exact rfl | (congr 1; first | omega | (dsimp only; omega)) | (simp; done)))))); (focus (repeat (first | exact SubO.nil _ | (apply SubO.cons; (focus (repeat' (first | exact Pick.head _ _ | apply Pick.tail))))))); (focus (repeat (first | exact AllE.nil _ | (apply AllE.cons; (focus (first | exact ent_nilBy | exact ent_nilSl | (apply Ent.mem; repeat' (first | exact mcs | apply mct)))))))))
        | true =>
          repeat (first | refine n1 ?_ | refine n2 (fun b _ => ?_) | refine n3 (fun _ _ => ?_) | refine n4 ?_ | refine n5 ?_ | refine WL_nil ?_ | refine W_seq ?_ | refine W_region ?_ | refine n7 ?_ | refine n8 ?_ | refine W_block ?_ | refine W_skip ?_ | refine W_ret ?_ | refine W_exit ?_ | refine WQ_then ?_ | refine WQ_then_ret ?_ | refine WQ_then_exit ?_ | refine WQ_block_normal ?_ | refine WQ_block_ret ?_ | refine WQ_block_exit ?_ | refine n9 ?_)
          refine WL_runs rfl rfl rfl (R_shl rfl rfl (by omega) hshl) ?_
          refine WL_runs rfl rfl rfl (R_or rfl rfl hor) ?_
          (apply WL_effs; exact rfl; exact rfl; exact rfl; apply E_callO; exact rfl; (intro _ _; simp); exact hp; (first | (apply perm1; (focus (repeat' (first | exact Pick.head _ _ | apply Pick.tail)))) | (apply perm2; (focus (repeat' (first | exact Pick.head _ _ | apply Pick.tail))); (focus (repeat' (first | exact Pick.head _ _ | apply Pick.tail)))) | (apply perm3; (focus (repeat' (first | exact Pick.head _ _ | apply Pick.tail))); (focus (repeat' (first | exact Pick.head _ _ | apply Pick.tail))); (focus (repeat' (first | exact Pick.head _ _ | apply Pick.tail))))); (repeat (first | exact AllE.nil _ | (apply AllE.cons; (focus (first | exact ent_nilBy | exact ent_nilSl | (apply Ent.mem; repeat' (first | exact mcs | apply mct))))))); (intro _; exact rfl); (intro _; exact rfl))
          intro o3 _
          repeat (first | refine n1 ?_ | refine n2 (fun b _ => ?_) | refine n3 (fun _ _ => ?_) | refine n4 ?_ | refine n5 ?_ | refine WL_nil ?_ | refine W_seq ?_ | refine W_region ?_ | refine n7 ?_ | refine n8 ?_ | refine W_block ?_ | refine W_skip ?_ | refine W_ret ?_ | refine W_exit ?_ | refine WQ_then ?_ | refine WQ_then_ret ?_ | refine WQ_then_exit ?_ | refine WQ_block_normal ?_ | refine WQ_block_ret ?_ | refine WQ_block_exit ?_ | refine n9 ?_)
          ((apply WQ_meet (o3)); (focus (first | trivial | omega | assumption | exact ⟨by omega, by omega⟩ | (simp; done))); (focus (repeat (first | exact FrIn.nil _ | (apply FrIn.cons; exact rfl; (first | exact rfl | (congr 1; first | omega | (dsimp only; omega)) | (simp; done)))))); (focus (repeat (first | exact SubO.nil _ | (apply SubO.cons; (focus (repeat' (first | exact Pick.head _ _ | apply Pick.tail))))))); (focus (repeat (first | exact AllE.nil _ | (apply AllE.cons; (focus (first | exact ent_nilBy | exact ent_nilSl | (apply Ent.mem; repeat' (first | exact mcs | apply mct)))))))))
      · intro o4 _
        obtain ⟨A, ac, hlv⟩ : ∃ A c, aftV b2 h = .slice A (bN (fourB h) 1) c := by
          unfold aftV
          cases fourB h
          · exact ⟨none, 0, rfl⟩
          · exact ⟨_, 1, rfl⟩
        repeat ((fail_if_success apply W_isSB 4); (first | refine n1 ?_ | refine n2 (fun b _ => ?_) | refine n3 (fun _ _ => ?_) | refine n4 ?_ | refine n5 ?_ | refine WL_nil ?_ | refine W_seq ?_ | refine W_region ?_ | refine n7 ?_ | refine n8 ?_ | refine W_block ?_ | refine W_skip ?_ | refine W_ret ?_ | refine W_exit ?_ | refine WQ_then ?_ | refine WQ_then_ret ?_ | refine WQ_then_exit ?_ | refine WQ_block_normal ?_ | refine WQ_block_ret ?_ | refine WQ_block_exit ?_ | refine n9 ?_))
        refine WL_runs rfl rfl rfl (R_lenNil (A := A) (n := bN (fourB h) 1) (c := ac) (congrArg some hlv) rfl) ?_
        repeat ((fail_if_success apply W_isSB 4); (first | refine n1 ?_ | refine n2 (fun b _ => ?_) | refine n3 (fun _ _ => ?_) | refine n4 ?_ | refine n5 ?_ | refine WL_nil ?_ | refine W_seq ?_ | refine W_region ?_ | refine n7 ?_ | refine n8 ?_ | refine W_block ?_ | refine W_skip ?_ | refine W_ret ?_ | refine W_exit ?_ | refine WQ_then ?_ | refine WQ_then_ret ?_ | refine WQ_then_exit ?_ | refine WQ_block_normal ?_ | refine WQ_block_ret ?_ | refine WQ_block_exit ?_ | refine n9 ?_))
        have hbl : (frB h ++ adrB h (befN h) ++ sqB h).length = 4 + 6 * befN h + bN (prtB h.kind) 2 := by rw [List.length_append, List.length_append, frB_length, adrB_length, sqB_length]
        have hpb : bN (prtB h.kind) 2 ≤ 2 := by cases prtB h.kind; exact Nat.zero_le _; exact Nat.le_refl _
        generalize hbase : frB h ++ adrB h (befN h) ++ sqB h = base at *
        generalize hnb : 4 + 6 * befN h + bN (prtB h.kind) 2 = nb at *
        ((apply W_cutKT (X := Value) [8, 91] [0] (fun _ => True) (fun z => [(8, z)]) (fun z => [.row z 5 1 (nb + bN (fourB h) 6) ((base ++ a4B h).map bcell)]) (fun _ => [])); exact rfl; exact rfl; (intro _; exact rfl); (intro _; exact rfl); (intro _; exact rfl))
        · have hac := adr_cells h (show 3 < 4 by omega)
          unfold a4B
          cases hf : fourB h with
          | false =>
            have e1 : aftV b2 h = .slice none 0 0 := by unfold aftV; rw [hf]; rfl
            rw [e1]
            rw [show (bif false then h.a4.bytes else []) = [] from rfl, List.append_nil]
            repeat (first | refine n1 ?_ | refine n2 (fun b _ => ?_) | refine n3 (fun _ _ => ?_) | refine n4 ?_ | refine n5 ?_ | refine WL_nil ?_ | refine W_seq ?_ | refine W_region ?_ | refine n7 ?_ | refine n8 ?_ | refine W_block ?_ | refine W_skip ?_ | refine W_ret ?_ | refine W_exit ?_ | refine WQ_then ?_ | refine WQ_then_ret ?_ | refine WQ_then_exit ?_ | refine WQ_block_normal ?_ | refine WQ_block_ret ?_ | refine WQ_block_exit ?_ | refine n9 ?_)
            ((apply W_loopK (X := Nat) [91] [] (fun x => x = 0) (fun x => [(91, .int .i64 (x : Int))]) (fun _ => []) (fun _ => []) (fun x => 0 - x) (0)); (focus exact rfl); exact rfl; exact rfl; (intro _; exact rfl); (intro _; exact rfl); (intro _; exact rfl); (focus (repeat (first | exact FrIn.nil _ | (apply FrIn.cons; exact rfl; (first | exact rfl | (congr 1; first | omega | (dsimp only; omega)) | (simp; done)))))); (focus (repeat (first | exact SubO.nil _ | (apply SubO.cons; (focus (repeat' (first | exact Pick.head _ _ | apply Pick.tail))))))); (focus (repeat (first | exact AllE.nil _ | (apply AllE.cons; (focus (first | exact ent_nilBy | exact ent_nilSl | (apply Ent.mem; repeat' (first | exact mcs | apply mct)))))))); intro x hx)
            subst hx
            repeat (first | refine n1 ?_ | refine n2 (fun b _ => ?_) | refine n3 (fun _ _ => ?_) | refine n4 ?_ | refine n5 ?_ | refine WL_nil ?_ | refine W_seq ?_ | refine W_region ?_ | refine n7 ?_ | refine n8 ?_ | refine W_block ?_ | refine W_skip ?_ | refine W_ret ?_ | refine W_exit ?_ | refine WQ_then ?_ | refine WQ_then_ret ?_ | refine WQ_then_exit ?_ | refine WQ_block_normal ?_ | refine WQ_block_ret ?_ | refine WQ_block_exit ?_ | refine n9 ?_)
            ((apply WQ_meet (o4)); (focus (first | trivial | omega | assumption | exact ⟨by omega, by omega⟩ | (simp; done))); (focus (repeat (first | exact FrIn.nil _ | (apply FrIn.cons; exact rfl; (first | exact rfl | (congr 1; first | omega | (dsimp only; omega)) | (simp; done)))))); (focus (repeat (first | exact SubO.nil _ | (apply SubO.cons; (focus (repeat' (first | exact Pick.head _ _ | apply Pick.tail))))))); (focus (repeat (first | exact AllE.nil _ | (apply AllE.cons; (focus (first | exact ent_nilBy | exact ent_nilSl | (apply Ent.mem; repeat' (first | exact mcs | apply mct)))))))))
          | true =>
            have e1 : aftV b2 h = .slice (some ⟨b2, 3, none⟩) 1 1 := by unfold aftV; rw [hf]; rfl
            rw [e1]
            repeat (first | refine n1 ?_ | refine n2 (fun b _ => ?_) | refine n3 (fun _ _ => ?_) | refine n4 ?_ | refine n5 ?_ | refine WL_nil ?_ | refine W_seq ?_ | refine W_region ?_ | refine n7 ?_ | refine n8 ?_ | refine W_block ?_ | refine W_skip ?_ | refine W_ret ?_ | refine W_exit ?_ | refine WQ_then ?_ | refine WQ_then_ret ?_ | refine WQ_then_exit ?_ | refine WQ_block_normal ?_ | refine WQ_block_ret ?_ | refine WQ_block_exit ?_ | refine n9 ?_)
            ((apply W_loopK (X := Nat × Value × List UInt8) [8, 91] [0] (fun x => (x.1 = 0 ∧ x.2.2 = base) ∨ (x.1 = 1 ∧ x.2.2 = base ++ h.a4.bytes)) (fun x => [(8, x.2.1), (91, .int .i64 (x.1 : Int))]) (fun x => [.row x.2.1 5 1 (nb + 6 * x.1) (x.2.2.map bcell)]) (fun _ => []) (fun x => 1 - x.1) ((0, o4, base))); (focus exact .inl ⟨rfl, rfl⟩); exact rfl; exact rfl; (intro _; exact rfl); (intro _; exact rfl); (intro _; exact rfl); (focus (repeat (first | exact FrIn.nil _ | (apply FrIn.cons; exact rfl; (first | exact rfl | (congr 1; first | omega | (dsimp only; omega)) | (simp; done)))))); (focus (repeat (first | exact SubO.nil _ | (apply SubO.cons; (focus (repeat' (first | exact Pick.head _ _ | apply Pick.tail))))))); (focus (repeat (first | exact AllE.nil _ | (apply AllE.cons; (focus (first | exact ent_nilBy | exact ent_nilSl | (apply Ent.mem; repeat' (first | exact mcs | apply mct)))))))); intro x hx)
            obtain ⟨x, o5, bb⟩ := x
            dsimp only
            rcases hx with ⟨hx, hx2⟩ | ⟨hx, hx2⟩
            · replace hx : x = 0 := hx
              replace hx2 : bb = base := hx2
              subst hx; subst hx2
              repeat (first | refine n1 ?_ | refine n2 (fun b _ => ?_) | refine n3 (fun _ _ => ?_) | refine n4 ?_ | refine n5 ?_ | refine WL_nil ?_ | refine W_seq ?_ | refine W_region ?_ | refine n7 ?_ | refine n8 ?_ | refine W_block ?_ | refine W_skip ?_ | refine W_ret ?_ | refine W_exit ?_ | refine WQ_then ?_ | refine WQ_then_ret ?_ | refine WQ_then_exit ?_ | refine WQ_block_normal ?_ | refine WQ_block_ret ?_ | refine WQ_block_exit ?_ | refine n9 ?_)
              refine WL_runs rfl rfl rfl (R_idxLit (i := 0) rfl rfl rfl (by intro _; exact rfl) rfl (by decide)) ?_
              repeat (first | refine n1 ?_ | refine n2 (fun b _ => ?_) | refine n3 (fun _ _ => ?_) | refine n4 ?_ | refine n5 ?_ | refine WL_nil ?_ | refine W_seq ?_ | refine W_region ?_ | refine n7 ?_ | refine n8 ?_ | refine W_block ?_ | refine W_skip ?_ | refine W_ret ?_ | refine W_exit ?_ | refine WQ_then ?_ | refine WQ_then_ret ?_ | refine WQ_then_exit ?_ | refine WQ_block_normal ?_ | refine WQ_block_ret ?_ | refine WQ_block_exit ?_ | refine n9 ?_)
              refine WL_ent (ent_ptByO (b := b1) (off := 28) (n := 6) (xs := h.cells) (bs := h.a4.bytes) (by repeat' (first | exact mcs | apply mct)) hac rfl (by decide) (by decide)) ?_
              refine WL_effs rfl rfl rfl (E_appendBy (bs := bb) (news := h.a4.bytes) (nm := nb + 6 * 1) (all := bb ++ h.a4.bytes) rfl rfl (by repeat' (first | exact Pick.head _ _ | apply Pick.tail)) (by repeat' (first | exact mcs | apply mct)) rfl rfl rfl rfl rfl rfl (Nat.le_of_ble_eq_true rfl) (show nb + 6 * 0 + 6 ≤ 1099511627776 by omega) (show nb + 6 * 0 + 6 = nb + 6 * 1 by omega) rfl) ?_
              intro o6 _
              repeat (first | refine n1 ?_ | refine n2 (fun b _ => ?_) | refine n3 (fun _ _ => ?_) | refine n4 ?_ | refine n5 ?_ | refine WL_nil ?_ | refine W_seq ?_ | refine W_region ?_ | refine n7 ?_ | refine n8 ?_ | refine W_block ?_ | refine W_skip ?_ | refine W_ret ?_ | refine W_exit ?_ | refine WQ_then ?_ | refine WQ_then_ret ?_ | refine WQ_then_exit ?_ | refine WQ_block_normal ?_ | refine WQ_block_ret ?_ | refine WQ_block_exit ?_ | refine n9 ?_)
              ((apply WQ_again ((1, o6, bb ++ h.a4.bytes))); (focus exact .inr ⟨rfl, rfl⟩); (focus (exact (show 1 - 1 < 1 - 0 by omega))); (focus (repeat (first | exact FrIn.nil _ | (apply FrIn.cons; exact rfl; (first | exact rfl | (congr 1; first | omega | (dsimp only; omega)) | (simp; done)))))); (focus (repeat (first | exact SubO.nil _ | (apply SubO.cons; (focus (repeat' (first | exact Pick.head _ _ | apply Pick.tail))))))); (focus (repeat (first | exact AllE.nil _ | (apply AllE.cons; (focus (first | exact ent_nilBy | exact ent_nilSl | (apply Ent.mem; repeat' (first | exact mcs | apply mct)))))))))
            · replace hx : x = 1 := hx
              replace hx2 : bb = base ++ h.a4.bytes := hx2
              subst hx; subst hx2
              repeat (first | refine n1 ?_ | refine n2 (fun b _ => ?_) | refine n3 (fun _ _ => ?_) | refine n4 ?_ | refine n5 ?_ | refine WL_nil ?_ | refine W_seq ?_ | refine W_region ?_ | refine n7 ?_ | refine n8 ?_ | refine W_block ?_ | refine W_skip ?_ | refine W_ret ?_ | refine W_exit ?_ | refine WQ_then ?_ | refine WQ_then_ret ?_ | refine WQ_then_exit ?_ | refine WQ_block_normal ?_ | refine WQ_block_ret ?_ | refine WQ_block_exit ?_ | refine n9 ?_)
              ((apply WQ_meet (o5)); (focus (first | trivial | omega | assumption | exact ⟨by omega, by omega⟩ | (simp; done))); (focus (repeat (first | exact FrIn.nil _ | (apply FrIn.cons; exact rfl; (first | exact rfl | (congr 1; first | omega | (dsimp only; omega)) | (simp; done)))))); (focus (repeat (first | exact SubO.nil _ | (apply SubO.cons; (focus (repeat' (first | exact Pick.head _ _ | apply Pick.tail))))))); (focus (repeat (first | exact AllE.nil _ | (apply AllE.cons; (focus (first | exact ent_nilBy | exact ent_nilSl | (apply Ent.mem; repeat' (first | exact mcs | apply mct)))))))))
        · intro o7 _
          have hal : (a4B h).length = bN (fourB h) 6 := a4B_length h
          have h4b : bN (fourB h) 6 ≤ 6 := by cases fourB h; exact Nat.zero_le _; exact Nat.le_refl _
          have hY : hdY h = base ++ a4B h ++ qsB h := by unfold hdY; rw [hbase]
          have hS : hdS h = nb + bN (fourB h) 6 + bN (trafB h.kind h.sub) 2 := by unfold hdS; rw [hnb]
          rw [hY, hS]
          have hp := fun n => put16_fn o7 (nb + bN (fourB h) 6) n (base ++ a4B h) (by rw [List.length_append, hbl, hal]) (by omega)
          have hor : bits .or .i64 h.tid ((h.ack.toNat : Int) * 32) = ((td + 32 * h.ack.toNat : Nat) : Int) := by rw [htd]; exact or_ack td h.ack.toNat (by omega) r9
          have hoe := or_eosp td h.ack.toNat (by omega) r9
          have hqs : qsB h = bif trafB h.kind h.sub then C01.leB 2 (td + bN h.eosp 16 + 32 * h.ack.toNat + bN h.amsdu 128) else [] := by unfold qsB qN; rw [htd]; rfl
          rw [hqs]
          clear hbase hnb hY hS hqs hkf
          generalize trafB h.kind h.sub = tr at *
          cases tr with
          | false =>
            rw [show ∀ l : List UInt8, (bif false then l else []) = [] from fun _ => rfl, List.append_nil]
            repeat (first | refine n1 ?_ | refine n2 (fun b _ => ?_) | refine n3 (fun _ _ => ?_) | refine n4 ?_ | refine n5 ?_ | refine WL_nil ?_ | refine W_seq ?_ | refine W_region ?_ | refine n7 ?_ | refine n8 ?_ | refine W_block ?_ | refine W_skip ?_ | refine W_ret ?_ | refine W_exit ?_ | refine WQ_then ?_ | refine WQ_then_ret ?_ | refine WQ_then_exit ?_ | refine WQ_block_normal ?_ | refine WQ_block_ret ?_ | refine WQ_block_exit ?_ | refine n9 ?_)
            ((apply ret1 Tryd.results19 ( o7)); (focus (first | trivial | assumption | omega)); (focus (first | exact RV_tmp rfl | (apply RV_cellN; exact rfl; (repeat' (first | exact Pick.head _ _ | apply Pick.tail)); (intro _; exact rfl); (intro _; exact rfl); exact rfl) | (apply RV_cell1; exact rfl; (repeat' (first | exact Pick.head _ _ | apply Pick.tail)); (intro _; exact rfl); exact rfl)));  (focus (first | exact rfl | (simp; done))); (focus (repeat (first | exact SubO.nil _ | (apply SubO.cons; (focus (repeat' (first | exact Pick.head _ _ | apply Pick.tail))))))); (focus (repeat (first | exact AllE.nil _ | (apply AllE.cons; (focus (first | exact ent_nilBy | exact ent_nilSl | (apply Ent.mem; repeat' (first | exact mcs | apply mct)))))))))
          | true =>
            cases he : h.eosp with
            | false =>
              cases ha : h.amsdu with
              | false =>
                have hp := hp (td + 32 * h.ack.toNat) (by omega)
                repeat (first | refine n1 ?_ | refine n2 (fun b _ => ?_) | refine n3 (fun _ _ => ?_) | refine n4 ?_ | refine n5 ?_ | refine WL_nil ?_ | refine W_seq ?_ | refine W_region ?_ | refine n7 ?_ | refine n8 ?_ | refine W_block ?_ | refine W_skip ?_ | refine W_ret ?_ | refine W_exit ?_ | refine WQ_then ?_ | refine WQ_then_ret ?_ | refine WQ_then_exit ?_ | refine WQ_block_normal ?_ | refine WQ_block_ret ?_ | refine WQ_block_exit ?_ | refine n9 ?_)
                refine WL_runs rfl rfl rfl (R_or rfl rfl hor) ?_
                repeat (first | refine n1 ?_ | refine n2 (fun b _ => ?_) | refine n3 (fun _ _ => ?_) | refine n4 ?_ | refine n5 ?_ | refine WL_nil ?_ | refine W_seq ?_ | refine W_region ?_ | refine n7 ?_ | refine n8 ?_ | refine W_block ?_ | refine W_skip ?_ | refine W_ret ?_ | refine W_exit ?_ | refine WQ_then ?_ | refine WQ_then_ret ?_ | refine WQ_then_exit ?_ | refine WQ_block_normal ?_ | refine WQ_block_ret ?_ | refine WQ_block_exit ?_ | refine n9 ?_)
                (apply WL_effs; exact rfl; exact rfl; exact rfl; apply E_callO; exact rfl; (intro _ _; simp); exact hp; (first | (apply perm1; (focus (repeat' (first | exact Pick.head _ _ | apply Pick.tail)))) | (apply perm2; (focus (repeat' (first | exact Pick.head _ _ | apply Pick.tail))); (focus (repeat' (first | exact Pick.head _ _ | apply Pick.tail)))) | (apply perm3; (focus (repeat' (first | exact Pick.head _ _ | apply Pick.tail))); (focus (repeat' (first | exact Pick.head _ _ | apply Pick.tail))); (focus (repeat' (first | exact Pick.head _ _ | apply Pick.tail))))); (repeat (first | exact AllE.nil _ | (apply AllE.cons; (focus (first | exact ent_nilBy | exact ent_nilSl | (apply Ent.mem; repeat' (first | exact mcs | apply mct))))))); (intro _; exact rfl); (intro _; exact rfl))
                intro o8 _
                repeat (first | refine n1 ?_ | refine n2 (fun b _ => ?_) | refine n3 (fun _ _ => ?_) | refine n4 ?_ | refine n5 ?_ | refine WL_nil ?_ | refine W_seq ?_ | refine W_region ?_ | refine n7 ?_ | refine n8 ?_ | refine W_block ?_ | refine W_skip ?_ | refine W_ret ?_ | refine W_exit ?_ | refine WQ_then ?_ | refine WQ_then_ret ?_ | refine WQ_then_exit ?_ | refine WQ_block_normal ?_ | refine WQ_block_ret ?_ | refine WQ_block_exit ?_ | refine n9 ?_)
                ((apply ret1 Tryd.results19 ( o8)); (focus (first | trivial | assumption | omega)); (focus (first | exact RV_tmp rfl | (apply RV_cellN; exact rfl; (repeat' (first | exact Pick.head _ _ | apply Pick.tail)); (intro _; exact rfl); (intro _; exact rfl); exact rfl) | (apply RV_cell1; exact rfl; (repeat' (first | exact Pick.head _ _ | apply Pick.tail)); (intro _; exact rfl); exact rfl)));  (focus (first | exact rfl | (simp; done))); (focus (repeat (first | exact SubO.nil _ | (apply SubO.cons; (focus (repeat' (first | exact Pick.head _ _ | apply Pick.tail))))))); (focus (repeat (first | exact AllE.nil _ | (apply AllE.cons; (focus (first | exact ent_nilBy | exact ent_nilSl | (apply Ent.mem; repeat' (first | exact mcs | apply mct)))))))))
              | true =>
                have hp := hp (td + 32 * h.ack.toNat + 128) (by omega)
                repeat (first | refine n1 ?_ | refine n2 (fun b _ => ?_) | refine n3 (fun _ _ => ?_) | refine n4 ?_ | refine n5 ?_ | refine WL_nil ?_ | refine W_seq ?_ | refine W_region ?_ | refine n7 ?_ | refine n8 ?_ | refine W_block ?_ | refine W_skip ?_ | refine W_ret ?_ | refine W_exit ?_ | refine WQ_then ?_ | refine WQ_then_ret ?_ | refine WQ_then_exit ?_ | refine WQ_block_normal ?_ | refine WQ_block_ret ?_ | refine WQ_block_exit ?_ | refine n9 ?_)
                refine WL_runs rfl rfl rfl (R_or rfl rfl hor) ?_
                repeat (first | refine n1 ?_ | refine n2 (fun b _ => ?_) | refine n3 (fun _ _ => ?_) | refine n4 ?_ | refine n5 ?_ | refine WL_nil ?_ | refine W_seq ?_ | refine W_region ?_ | refine n7 ?_ | refine n8 ?_ | refine W_block ?_ | refine W_skip ?_ | refine W_ret ?_ | refine W_exit ?_ | refine WQ_then ?_ | refine WQ_then_ret ?_ | refine WQ_then_exit ?_ | refine WQ_block_normal ?_ | refine WQ_block_ret ?_ | refine WQ_block_exit ?_ | refine n9 ?_)
                refine WL_runs rfl rfl rfl (R_or rfl rfl (show bits .or .i64 ((td + 32 * h.ack.toNat : Nat) : Int) 128 = ((td + 32 * h.ack.toNat + 128 : Nat) : Int) from or_ams td h.ack.toNat 0 (by omega) r9 (.inl rfl))) ?_
                repeat (first | refine n1 ?_ | refine n2 (fun b _ => ?_) | refine n3 (fun _ _ => ?_) | refine n4 ?_ | refine n5 ?_ | refine WL_nil ?_ | refine W_seq ?_ | refine W_region ?_ | refine n7 ?_ | refine n8 ?_ | refine W_block ?_ | refine W_skip ?_ | refine W_ret ?_ | refine W_exit ?_ | refine WQ_then ?_ | refine WQ_then_ret ?_ | refine WQ_then_exit ?_ | refine WQ_block_normal ?_ | refine WQ_block_ret ?_ | refine WQ_block_exit ?_ | refine n9 ?_)
                (apply WL_effs; exact rfl; exact rfl; exact rfl; apply E_callO; exact rfl; (intro _ _; simp); exact hp; (first | (apply perm1; (focus (repeat' (first | exact Pick.head _ _ | apply Pick.tail)))) | (apply perm2; (focus (repeat' (first | exact Pick.head _ _ | apply Pick.tail))); (focus (repeat' (first | exact Pick.head _ _ | apply Pick.tail)))) | (apply perm3; (focus (repeat' (first | exact Pick.head _ _ | apply Pick.tail))); (focus (repeat' (first | exact Pick.head _ _ | apply Pick.tail))); (focus (repeat' (first | exact Pick.head _ _ | apply Pick.tail))))); (repeat (first | exact AllE.nil _ | (apply AllE.cons; (focus (first | exact ent_nilBy | exact ent_nilSl | (apply Ent.mem; repeat' (first | exact mcs | apply mct))))))); (intro _; exact rfl); (intro _; exact rfl))
                intro o8 _
                repeat (first | refine n1 ?_ | refine n2 (fun b _ => ?_) | refine n3 (fun _ _ => ?_) | refine n4 ?_ | refine n5 ?_ | refine WL_nil ?_ | refine W_seq ?_ | refine W_region ?_ | refine n7 ?_ | refine n8 ?_ | refine W_block ?_ | refine W_skip ?_ | refine W_ret ?_ | refine W_exit ?_ | refine WQ_then ?_ | refine WQ_then_ret ?_ | refine WQ_then_exit ?_ | refine WQ_block_normal ?_ | refine WQ_block_ret ?_ | refine WQ_block_exit ?_ | refine n9 ?_)
                ((apply ret1 Tryd.results19 ( o8)); (focus (first | trivial | assumption | omega)); (focus (first | exact RV_tmp rfl | (apply RV_cellN; exact rfl; (repeat' (first | exact Pick.head _ _ | apply Pick.tail)); (intro _; exact rfl); (intro _; exact rfl); exact rfl) | (apply RV_cell1; exact rfl; (repeat' (first | exact Pick.head _ _ | apply Pick.tail)); (intro _; exact rfl); exact rfl)));  (focus (first | exact rfl | (simp; done))); (focus (repeat (first | exact SubO.nil _ | (apply SubO.cons; (focus (repeat' (first | exact Pick.head _ _ | apply Pick.tail))))))); (focus (repeat (first | exact AllE.nil _ | (apply AllE.cons; (focus (first | exact ent_nilBy | exact ent_nilSl | (apply Ent.mem; repeat' (first | exact mcs | apply mct)))))))))
            | true =>
              cases ha : h.amsdu with
              | false =>
                have hp := hp (td + 16 + 32 * h.ack.toNat) (by omega)
                repeat (first | refine n1 ?_ | refine n2 (fun b _ => ?_) | refine n3 (fun _ _ => ?_) | refine n4 ?_ | refine n5 ?_ | refine WL_nil ?_ | refine W_seq ?_ | refine W_region ?_ | refine n7 ?_ | refine n8 ?_ | refine W_block ?_ | refine W_skip ?_ | refine W_ret ?_ | refine W_exit ?_ | refine WQ_then ?_ | refine WQ_then_ret ?_ | refine WQ_then_exit ?_ | refine WQ_block_normal ?_ | refine WQ_block_ret ?_ | refine WQ_block_exit ?_ | refine n9 ?_)
                refine WL_runs rfl rfl rfl (R_or rfl rfl hor) ?_
                repeat (first | refine n1 ?_ | refine n2 (fun b _ => ?_) | refine n3 (fun _ _ => ?_) | refine n4 ?_ | refine n5 ?_ | refine WL_nil ?_ | refine W_seq ?_ | refine W_region ?_ | refine n7 ?_ | refine n8 ?_ | refine W_block ?_ | refine W_skip ?_ | refine W_ret ?_ | refine W_exit ?_ | refine WQ_then ?_ | refine WQ_then_ret ?_ | refine WQ_then_exit ?_ | refine WQ_block_normal ?_ | refine WQ_block_ret ?_ | refine WQ_block_exit ?_ | refine n9 ?_)
                refine WL_runs rfl rfl rfl (R_or rfl rfl hoe) ?_
                repeat (first | refine n1 ?_ | refine n2 (fun b _ => ?_) | refine n3 (fun _ _ => ?_) | refine n4 ?_ | refine n5 ?_ | refine WL_nil ?_ | refine W_seq ?_ | refine W_region ?_ | refine n7 ?_ | refine n8 ?_ | refine W_block ?_ | refine W_skip ?_ | refine W_ret ?_ | refine W_exit ?_ | refine WQ_then ?_ | refine WQ_then_ret ?_ | refine WQ_then_exit ?_ | refine WQ_block_normal ?_ | refine WQ_block_ret ?_ | refine WQ_block_exit ?_ | refine n9 ?_)
                (apply WL_effs; exact rfl; exact rfl; exact rfl; apply E_callO; exact rfl; (intro _ _; simp); exact hp; (first | (apply perm1; (focus (repeat' (first | exact Pick.head _ _ | apply Pick.tail)))) | (apply perm2; (focus (repeat' (first | exact Pick.head _ _ | apply Pick.tail))); (focus (repeat' (first | exact Pick.head _ _ | apply Pick.tail)))) | (apply perm3; (focus (repeat' (first | exact Pick.head _ _ | apply Pick.tail))); (focus (repeat' (first | exact Pick.head _ _ | apply Pick.tail))); (focus (repeat' (first | exact Pick.head _ _ | apply Pick.tail))))); (repeat (first | exact AllE.nil _ | (apply AllE.cons; (focus (first | exact ent_nilBy | exact ent_nilSl | (apply Ent.mem; repeat' (first | exact mcs | apply mct))))))); (intro _; exact rfl); (intro _; exact rfl))
                intro o8 _
                repeat (first | refine n1 ?_ | refine n2 (fun b _ => ?_) | refine n3 (fun _ _ => ?_) | refine n4 ?_ | refine n5 ?_ | refine WL_nil ?_ | refine W_seq ?_ | refine W_region ?_ | refine n7 ?_ | refine n8 ?_ | refine W_block ?_ | refine W_skip ?_ | refine W_ret ?_ | refine W_exit ?_ | refine WQ_then ?_ | refine WQ_then_ret ?_ | refine WQ_then_exit ?_ | refine WQ_block_normal ?_ | refine WQ_block_ret ?_ | refine WQ_block_exit ?_ | refine n9 ?_)
                ((apply ret1 Tryd.results19 ( o8)); (focus (first | trivial | assumption | omega)); (focus (first | exact RV_tmp rfl | (apply RV_cellN; exact rfl; (repeat' (first | exact Pick.head _ _ | apply Pick.tail)); (intro _; exact rfl); (intro _; exact rfl); exact rfl) | (apply RV_cell1; exact rfl; (repeat' (first | exact Pick.head _ _ | apply Pick.tail)); (intro _; exact rfl); exact rfl)));  (focus (first | exact rfl | (simp; done))); (focus (repeat (first | exact SubO.nil _ | (apply SubO.cons; (focus (repeat' (first | exact Pick.head _ _ | apply Pick.tail))))))); (focus (repeat (first | exact AllE.nil _ | (apply AllE.cons; (focus (first | exact ent_nilBy | exact ent_nilSl | (apply Ent.mem; repeat' (first | exact mcs | apply mct)))))))))
              | true =>
                have hp := hp (td + 16 + 32 * h.ack.toNat + 128) (by omega)
                repeat (first | refine n1 ?_ | refine n2 (fun b _ => ?_) | refine n3 (fun _ _ => ?_) | refine n4 ?_ | refine n5 ?_ | refine WL_nil ?_ | refine W_seq ?_ | refine W_region ?_ | refine n7 ?_ | refine n8 ?_ | refine W_block ?_ | refine W_skip ?_ | refine W_ret ?_ | refine W_exit ?_ | refine WQ_then ?_ | refine WQ_then_ret ?_ | refine WQ_then_exit ?_ | refine WQ_block_normal ?_ | refine WQ_block_ret ?_ | refine WQ_block_exit ?_ | refine n9 ?_)
                refine WL_runs rfl rfl rfl (R_or rfl rfl hor) ?_
                repeat (first | refine n1 ?_ | refine n2 (fun b _ => ?_) | refine n3 (fun _ _ => ?_) | refine n4 ?_ | refine n5 ?_ | refine WL_nil ?_ | refine W_seq ?_ | refine W_region ?_ | refine n7 ?_ | refine n8 ?_ | refine W_block ?_ | refine W_skip ?_ | refine W_ret ?_ | refine W_exit ?_ | refine WQ_then ?_ | refine WQ_then_ret ?_ | refine WQ_then_exit ?_ | refine WQ_block_normal ?_ | refine WQ_block_ret ?_ | refine WQ_block_exit ?_ | refine n9 ?_)
                refine WL_runs rfl rfl rfl (R_or rfl rfl hoe) ?_
                repeat (first | refine n1 ?_ | refine n2 (fun b _ => ?_) | refine n3 (fun _ _ => ?_) | refine n4 ?_ | refine n5 ?_ | refine WL_nil ?_ | refine W_seq ?_ | refine W_region ?_ | refine n7 ?_ | refine n8 ?_ | refine W_block ?_ | refine W_skip ?_ | refine W_ret ?_ | refine W_exit ?_ | refine WQ_then ?_ | refine WQ_then_ret ?_ | refine WQ_then_exit ?_ | refine WQ_block_normal ?_ | refine WQ_block_ret ?_ | refine WQ_block_exit ?_ | refine n9 ?_)
                refine WL_runs rfl rfl rfl (R_or rfl rfl (or_ams td h.ack.toNat 16 (by omega) r9 (.inr rfl))) ?_
                repeat (first | refine n1 ?_ | refine n2 (fun b _ => ?_) | refine n3 (fun _ _ => ?_) | refine n4 ?_ | refine n5 ?_ | refine WL_nil ?_ | refine W_seq ?_ | refine W_region ?_ | refine n7 ?_ | refine n8 ?_ | refine W_block ?_ | refine W_skip ?_ | refine W_ret ?_ | refine W_exit ?_ | refine WQ_then ?_ | refine WQ_then_ret ?_ | refine WQ_then_exit ?_ | refine WQ_block_normal ?_ | refine WQ_block_ret ?_ | refine WQ_block_exit ?_ | refine n9 ?_)
                (apply WL_effs; exact rfl; exact rfl; exact rfl; apply E_callO; exact rfl; (intro _ _; simp); exact hp; (first | (apply perm1; (focus (repeat' (first | exact Pick.head _ _ | apply Pick.tail)))) | (apply perm2; (focus (repeat' (first | exact Pick.head _ _ | apply Pick.tail))); (focus (repeat' (first | exact Pick.head _ _ | apply Pick.tail)))) | (apply perm3; (focus (repeat' (first | exact Pick.head _ _ | apply Pick.tail))); (focus (repeat' (first | exact Pick.head _ _ | apply Pick.tail))); (focus (repeat' (first | exact Pick.head _ _ | apply Pick.tail))))); (repeat (first | exact AllE.nil _ | (apply AllE.cons; (focus (first | exact ent_nilBy | exact ent_nilSl | (apply Ent.mem; repeat' (first | exact mcs | apply mct))))))); (intro _; exact rfl); (intro _; exact rfl))
                intro o8 _
                repeat (first | refine n1 ?_ | refine n2 (fun b _ => ?_) | refine n3 (fun _ _ => ?_) | refine n4 ?_ | refine n5 ?_ | refine WL_nil ?_ | refine W_seq ?_ | refine W_region ?_ | refine n7 ?_ | refine n8 ?_ | refine W_block ?_ | refine W_skip ?_ | refine W_ret ?_ | refine W_exit ?_ | refine WQ_then ?_ | refine WQ_then_ret ?_ | refine WQ_then_exit ?_ | refine WQ_block_normal ?_ | refine WQ_block_ret ?_ | refine WQ_block_exit ?_ | refine n9 ?_)
                ((apply ret1 Tryd.results19 ( o8)); (focus (first | trivial | assumption | omega)); (focus (first | exact RV_tmp rfl | (apply RV_cellN; exact rfl; (repeat' (first | exact Pick.head _ _ | apply Pick.tail)); (intro _; exact rfl); (intro _; exact rfl); exact rfl) | (apply RV_cell1; exact rfl; (repeat' (first | exact Pick.head _ _ | apply Pick.tail)); (intro _; exact rfl); exact rfl)));  (focus (first | exact rfl | (simp; done))); (focus (repeat (first | exact SubO.nil _ | (apply SubO.cons; (focus (repeat' (first | exact Pick.head _ _ | apply Pick.tail))))))); (focus (repeat (first | exact AllE.nil _ | (apply AllE.cons; (focus (first | exact ent_nilBy | exact ent_nilSl | (apply Ent.mem; repeat' (first | exact mcs | apply mct)))))))))
end Go.Proofs.YteojehocflbgdaaDoor.C05

/-
  Arrays behind pointers, sliced whole. No program is named here.
-/
namespace Go.Hs
open Go Go.RowKit
def arrV (n : Nat) : Value → Value
  | .pointer A => .slice A n n
  | v => v
section
variable {C : Ctx} {fr : Fr} {Γ Γ' : List OA} {Φ : List SP} {d : Tmp} {ty : TypeId} {pos : String} {aft : Array Edge} {g : Option (Nat × Bool)}
end
end Go.Hs

/-
  From a contract to what a row asks: what was there before the call has not turned. No program is named here.
-/
namespace Go.Hs
open Go Go.RowKit Go.ChangeShapes Go.WideShapes Go.ChangeAt

theorem CtD.below {P : Program} {f : FuncId} {args : List Value} {Φ : List SP} {v : Value} {w : World} (h : CtD P f args Φ v) (hp : ∀ ψ ∈ Φ, ψ.p w (fun _ => False)) :
    Calls P f args.toArray w fun e w' => e = .returned v ∧ Below w.heap.size w w' := by
  have ha : avo (fun _ => False) [] = fun _ => False := by
    funext k
    apply propext
    constructor
    · rintro (h | ⟨x, hx, _⟩)
      · exact h
      · cases hx
    · exact False.elim
  refine (h w (fun _ => False) (fun k hk => hk.elim) trivial (fun ψ hψ => by rw [ha]; exact hp ψ hψ)).mono fun e w' ⟨_, _, he, hm, _⟩ => ?_
  refine ⟨he, hm.os, hm.tape, hm.output, hm.size, fun k hk => hm.block k hk ?_⟩
  rintro ⟨x, hx, _⟩
  cases hx

theorem trodAll_stays {H : Type} {enc : TypeId × Value → H} {P : Program} (hl : laidOutB P = true) {W W' : World} (hb : Below W.heap.size W W') :
    ∀ {ts : List TypeId} {vs : List Value} {ds : List (DataW H)} {ps : List MemPlace}, ts.all (fun t => P.readableRec t && decide (t < P.types.size)) = true →
      DataW.TrodAll enc P W 0 (fun _ => true) true ts vs ds ps → DataW.TrodAll enc P W' 0 (fun b => decide (b < W.heap.size)) true ts vs ds ps
  | [], vs, ds, ps, _, h => by
    cases vs <;> cases ds <;> simp [DataW.TrodAll] at h ⊢
    exact h
  | t :: ts, vs, ds, ps, ha, h => by
    obtain ⟨v, vs', d, ds', p, q, rfl, rfl, rfl, h1, h2⟩ := trodAll_cons h
    simp only [List.all_cons, Bool.and_eq_true, decide_eq_true_eq] at ha
    obtain ⟨⟨ha, hs⟩, hr⟩ := ha
    refine trodAll_cons_mk (Below.trod hl ha hs h1 hb ?_) (trodAll_stays hl hb hr h2)
    obtain ⟨m, hm⟩ := h1
    exact DataW.trod_lt m _ _ _ hm

theorem trodAll_length {H : Type} {enc : TypeId × Value → H} {P : Program} {W : World} {b : Nat} {sp : Nat → Bool} {hd : Bool} :
    ∀ {ts : List TypeId} {vs : List Value} {ds : List (DataW H)} {ps : List MemPlace}, DataW.TrodAll enc P W b sp hd ts vs ds ps → ds.length = ts.length
  | [], vs, ds, ps, h => by cases vs <;> cases ds <;> simp [DataW.TrodAll] at h ⊢
  | t :: ts, vs, ds, ps, h => by
    obtain ⟨v, vs', d, ds', p, q, rfl, rfl, rfl, h1, h2⟩ := trodAll_cons h
    simp [trodAll_length h2]

theorem wf_u8 {n : Int} (h : (Lit.int .u8 n).wf = true) : ∃ k : UInt8, n = (k.toNat : Int) := by
  simp [Lit.wf, IntKind.min, IntKind.max, IntKind.signed, IntKind.bits] at h
  exact ⟨UInt8.ofNat n.toNat, by simp; omega⟩

theorem wf_u32 {n : Int} (h : (Lit.int .u32 n).wf = true) : ∃ k : BitVec 32, n = (k.toNat : Int) := by
  simp [Lit.wf, IntKind.min, IntKind.max, IntKind.signed, IntKind.bits] at h
  exact ⟨BitVec.ofNat 32 n.toNat, by simp; omega⟩
theorem wf_u16 {n : Int} (h : (Lit.int .u16 n).wf = true) : ∃ k : Nat, n = (k : Int) ∧ k < 65536 := by
  simp [Lit.wf, IntKind.min, IntKind.max, IntKind.signed, IntKind.bits] at h
  exact ⟨n.toNat, by omega, by omega⟩

-- ===== what an argument is, read off its reading =====

section
variable {H : Type} {enc : TypeId × Value → H} {P : Program} {w : World} {held : Bool}

theorem cell_block {w : World} {a : Addr} {v : Value} (h : w.cell? a = some v) : a.block < w.heap.size := by
  rcases Nat.lt_or_ge a.block w.heap.size with h1 | h1
  · exact h1
  · simp [World.cell?, Array.getElem?_eq_none h1] at h

theorem op_int {t : TypeId} {k : IntKind} {fuel : Nat} {cs : List Value} {x : DataW H × List MemPlace} (ht : P.underlying t = some (.int k)) (h : DataW.trod enc P w 0 (fun _ => true) held fuel t cs = some x) :
    ∃ n, cs = [.int k n] ∧ (Lit.int k n).wf = true := by
  obtain ⟨n, h1, _, h2⟩ := DataW.trod_int ht h
  exact ⟨n, h1, h2⟩

theorem op_bool {t : TypeId} {fuel : Nat} {cs : List Value} {x : DataW H × List MemPlace} (ht : P.underlying t = some .bool) (h : DataW.trod enc P w 0 (fun _ => true) held fuel t cs = some x) : ∃ b, cs = [.bool b] := by
  cases fuel with
  | zero => simp [DataW.trod] at h
  | succ fuel =>
    unfold DataW.trod at h
    rw [ht] at h
    split at h <;> first | exact ⟨_, rfl⟩ | simp_all

theorem op_bytes {t e : TypeId} {fuel : Nat} {cs : List Value} {x : DataW H × List MemPlace} (ht : P.underlying t = some (.slice e)) (he : P.underlying e = some (.int .u8)) (hc : P.cellsOf e = 1)
    (h : DataW.trod enc P w 0 (fun _ => true) held fuel t cs = some x) : ∃ v bs, cs = [v] ∧ (By v bs).p w (fun _ => False) ∧ bs.length ≤ maxLen := by
  rcases open_ints ht he hc h with ⟨rfl, _⟩ | ⟨a, len, cap, zs, rfl, _, hl, hm, hz, _, hcell, hwz⟩
  · exact ⟨_, [], rfl, ⟨rfl, none, 0, rfl, Nat.le_refl _, by simp [maxLen], fun h => absurd h (by simp)⟩, by simp⟩
  · simp only [if_true] at hz
    have hlen : ((zs.take len).map fun z => UInt8.ofNat z.toNat).length = len := by simp; omega
    refine ⟨_, (zs.take len).map fun z => UInt8.ofNat z.toNat, rfl, ⟨by simp, some a, cap, by rw [hlen], by rw [hlen]; exact hl, hm, fun hn => ⟨a, rfl, ?_, fun h => h, fun j u hu => ?_⟩⟩, by rw [hlen]; omega⟩
    · rw [hlen] at hn
      have := cell_block (hcell 0 (by omega))
      rwa [block_add] at this
    · rw [List.map_map, List.getElem?_map] at hu
      cases hz2 : (zs.take len)[j]? with
      | none => rw [hz2] at hu; cases hu
      | some z =>
        rw [hz2] at hu
        simp only [Option.map_some, Option.some.injEq] at hu
        subst hu
        have hj : j < len := by
          have := (List.getElem?_eq_some_iff.1 hz2).1
          simp at this
          omega
        have hzj : zs[j]? = some z := by rwa [List.getElem?_take_of_lt hj] at hz2
        rw [hcell j (by omega), List.getD, hzj]
        obtain ⟨k, rfl⟩ := wf_u8 (hwz z (List.mem_of_getElem? hzj))
        simp [bcell]

theorem mapM_get {α β : Type} {g : α → Option β} : ∀ {l : List α} {ys : List β}, l.mapM g = some ys → ∀ {i : Nat} {a : α}, l[i]? = some a → ∃ y, g a = some y
  | [], _, _, i, a, h => by simp at h
  | b :: r, ys, h, i, a, ha => by
    rw [List.mapM_cons] at h
    cases hb : g b with
    | none => rw [hb] at h; simp at h
    | some y =>
      rw [hb] at h
      cases hr : r.mapM g with
      | none => rw [hr] at h; simp at h
      | some zs =>
        cases i with
        | zero =>
          simp only [List.getElem?_cons_zero, Option.some.injEq] at ha
          subst ha
          exact ⟨y, hb⟩
        | succ i =>
          rw [List.getElem?_cons_succ] at ha
          exact mapM_get hr ha

theorem op_struct {t : TypeId} {fs : Array Field} {fuel : Nat} {cs : List Value} {x : DataW H × List MemPlace} (ht : P.underlying t = some (.struct fs)) (h : DataW.trod enc P w 0 (fun _ => true) held fuel t cs = some x) :
    cs.length = P.cellsOf t ∧ ∃ fuel', ∀ {i : Nat} {f : Field}, fs[i]? = some f → ∃ y, DataW.trod enc P w 0 (fun _ => true) held fuel' f.type ((cs.drop f.offset).take (P.cellsOf f.type)) = some y := by
  cases fuel with
  | zero => simp [DataW.trod] at h
  | succ fuel =>
    unfold DataW.trod at h
    rw [ht] at h
    split at h <;> first | (rename_i heq; injection heq with heq; cases heq; done) | skip
    all_goals first | (exfalso; simp_all; done) | skip
    split at h
    · rename_i heq hl
      injection heq with heq
      injection heq with heq
      subst heq
      rw [Option.map_eq_some_iff] at h
      obtain ⟨ys, hm, _⟩ := h
      exact ⟨hl, fuel, fun {i f} hf => mapM_get hm (by simpa using hf)⟩
    · cases h

theorem fld {fs : Array Field} {fuel : Nat} {cs : List Value} (hf : ∀ {i : Nat} {f : Field}, fs[i]? = some f → ∃ y, DataW.trod enc P w 0 (fun _ => true) held fuel f.type ((cs.drop f.offset).take (P.cellsOf f.type)) = some y)
    (i T off sz : Nat) {f : Field} (h : fs[i]? = some f) (hT : f.type = T) (ho : f.offset = off) (hs : P.cellsOf T = sz) {us : List Value} (hu : (cs.drop off).take sz = us) : ∃ y, DataW.trod enc P w 0 (fun _ => true) held fuel T us = some y := by
  subst hT; subst ho; subst hs; subst hu
  exact hf h
end
end Go.Hs

/-
  Arguments that are slices of things: what is read off their reading. No program is named here.
-/
namespace Go.Hs
open Go Go.RowKit Go.ChangeShapes Go.WideShapes Go.ChangeAt

theorem rwP_congr {size : Nat} {v : Value} {n : Nat} {f g : Nat → List Value} {w : World} {O : Nat → Prop} (h : rwP size v n f w O) (e : ∀ i, i < n → f i = g i) : rwP size v n g w O := by
  obtain ⟨A, c, hv, h1, h2, hr⟩ := h
  refine ⟨A, c, hv, h1, h2, fun hn => ?_⟩
  obtain ⟨ad, hA, hlt, hO, hcell⟩ := hr hn
  exact ⟨ad, hA, hlt, hO, fun i hi j u hu => hcell i hi j u (by rw [e i hi]; exact hu)⟩

section
variable {H : Type} {enc : TypeId × Value → H} {P : Program} {w : World} {held : Bool}

theorem op_things {t e : TypeId} {size fuel : Nat} {cs : List Value} {x : DataW H × List MemPlace} (ht : P.underlying t = some (.slice e)) (hs : P.cellsOf e = size) (h0 : 0 < size)
    (hf : DataW.trod enc P w 0 (fun _ => true) held fuel t cs = some x) : ∃ (v : Value) (n : Nat) (f : Nat → List Value) (fuel' : Nat), cs = [v] ∧ (Rw size v n f).p w (fun _ => False) ∧ n ≤ maxLen ∧
      ∀ i, i < n → (f i).length = size ∧ ∃ y, DataW.trod enc P w 0 (fun _ => true) held fuel' e (f i) = some y := by
  subst hs
  rcases Deep.open_slice ht hf with ⟨rfl, _⟩ | ⟨a, len, cap, m, n, D, Pl, rfl, _, hl, hm, hmm, _, hel⟩
  · exact ⟨_, 0, fun _ => [], 0, rfl, ⟨none, 0, rfl, Nat.le_refl _, by simp [maxLen], fun h => absurd h (by omega)⟩, by simp, fun i hi => absurd hi (by omega)⟩
  · simp only [if_true] at hmm
    have hch : ∀ i, ∃ cs', i < m → w.cells? 0 (a.add (i * P.cellsOf e)) (P.cellsOf e) = some cs' ∧ DataW.trod enc P w 0 (fun _ => true) held n e cs' = some (D i, Pl i) := fun i => by
      by_cases hi : i < m
      · obtain ⟨cs', h1, h2⟩ := hel i hi
        exact ⟨cs', fun _ => ⟨h1, h2⟩⟩
      · exact ⟨[], fun h => absurd h hi⟩
    obtain ⟨f, hf'⟩ := Classical.axiomOfChoice hch
    have hcell : ∀ i, i < len → (f i).length = P.cellsOf e ∧ ∀ j u, (f i)[j]? = some u → w.cell? (a.add (i * P.cellsOf e + j)) = some u := fun i hi => by
      obtain ⟨_, h2, h3⟩ := World.cells?_some (hf' i (by omega)).1
      refine ⟨h2, fun j u hu => ?_⟩
      have hj : j < (f i).length := (List.getElem?_eq_some_iff.1 hu).1
      have h4 := h3 j (by omega)
      rw [add_add'] at h4
      rw [h4, hu]
    refine ⟨_, len, f, n, rfl, ⟨some a, cap, rfl, hl, hm, fun hn => ⟨a, rfl, ?_, fun h => h, fun i hi j u hu => (hcell i hi).2 j u hu⟩⟩, by omega, fun i hi => ⟨(hcell i hi).1, _, (hf' i (by omega)).2⟩⟩
    obtain ⟨h1, h2⟩ := hcell 0 hn
    have h3 := h2 0 ((f 0)[0]'(by omega)) (List.getElem?_eq_getElem _)
    have := cell_block h3
    rwa [block_add] at this

theorem open_things {t e : TypeId} {size : Nat} {r : Reach} {base : Nat} {v : Value} {d : DataW H} {ps : List MemPlace} (ht : P.underlying t = some (.slice e)) (hs : P.cellsOf e = size) (h0 : 0 < size)
    (hval : Value.okWide P w r base t v) (h : DataW.Trod enc P w 0 (fun _ => true) held t v d ps) : ∃ (n : Nat) (f : Nat → List Value) (fuel' : Nat), (Rw size v n f).p w (fun _ => False) ∧ n ≤ maxLen ∧
      ∀ i, i < n → (f i).length = size ∧ ∃ y, DataW.trod enc P w 0 (fun _ => true) held fuel' e (f i) = some y := by
  obtain ⟨a, len, cap, rfl⟩ := okWide_slice ht hval
  obtain ⟨fuel, hf⟩ := h
  obtain ⟨v, n, f, fuel', e0, h1, h2, h3⟩ := op_things ht hs h0 hf
  have e0 : [Value.slice a len cap] = [v] := e0
  injection e0 with e0
  subst e0
  exact ⟨n, f, fuel', h1, h2, h3⟩

end
end Go.Hs

/-
  Own rows of things of several cells each, told by a list of the things. No program is named here.
-/
namespace Go.Hs
open Go Go.RowKit

section
variable {V : Type} {cf : V → List Value} {S : Nat}
theorem fc_length (h : ∀ v, (cf v).length = S) : ∀ (l : List V), (l.flatMap cf).length = l.length * S
  | [] => by simp
  | v :: r => by rw [List.flatMap_cons, List.length_append, h, fc_length h r, List.length_cons, Nat.add_mul]; omega
theorem fc_drop (h : ∀ v, (cf v).length = S) (l : List V) (k : Nat) (hk : k ≤ l.length) : (l.flatMap cf).drop (k * S) = (l.drop k).flatMap cf := by
  have e := congrArg (List.flatMap cf) (List.take_append_drop k l)
  rw [List.flatMap_append] at e
  rw [← e, List.drop_left' (by rw [fc_length h, List.length_take, Nat.min_eq_left hk])]
theorem drop_cons_getD {l : List V} {k : Nat} (hk : k < l.length) (z : V) : l.drop k = l.getD k z :: l.drop (k + 1) := by
  rw [List.drop_eq_getElem_cons hk, List.getD_eq_getElem?_getD, List.getElem?_eq_getElem hk]; rfl
theorem fc_at (h : ∀ v, (cf v).length = S) (l : List V) (k : Nat) (hk : k < l.length) (z : V) : ((l.flatMap cf).drop (k * S)).take S = cf (l.getD k z) := by
  rw [fc_drop h l k (Nat.le_of_lt hk), drop_cons_getD hk z, List.flatMap_cons, List.take_left' (h _)]
theorem ent_slG {Φ : List SP} {v : Value} {l : List V} {n : Nat} {xs : List Value} (h : ∀ v, (cf v).length = S) (z : V) (hm : Sl S v n xs ∈ Φ) (hn : n = l.length) (hx : xs = l.flatMap cf) : Ent Φ (Rw S v n (fun i => cf (l.getD i z))) := fun w O hw => by
  subst hn; subst hx
  exact rwP_congr (ent_slRw hm w O hw) fun i hi => fc_at h l i hi z
theorem Bor.rowG {Φ : List SP} {v : Value} {et : TypeId} {l : List V} {n : Nat} {xs : List Value} (h : ∀ v, (cf v).length = S) (z : V) (hn : n = l.length) (hx : xs = l.flatMap cf) : Bor [.row v et S n xs] Φ (Rw S v n (fun i => cf (l.getD i z)) :: Φ) := fun w O ho hd hΦ ψ hψ => by
  subst hn; subst hx
  rcases List.mem_cons.1 hψ with rfl | hψ
  · have h1 : slP S v l.length (l.flatMap cf) w O := slP_of_row ho.1 fun k hk => hd k (fpL_cons.2 (.inl hk))
    exact rwP_congr (ent_slRw (Φ := [Sl S v l.length (l.flatMap cf)]) List.mem_cons_self w O (fun χ hχ => by
      rcases List.mem_cons.1 hχ with rfl | hχ
      · exact h1
      · cases hχ)) fun i hi => fc_at h l i hi z
  · exact hΦ ψ hψ
end
end Go.Hs

/-
  Bytes of headers: the reference's.
-/
namespace Go.Proofs.YteojehocflbgdaaDoor.C05
open Go Go.RowKit Go.Hs
theorem traf_eq {h : Hd} (hk : knB h.kind h.sub = true) : qosB h = trafB h.kind h.sub := by
  unfold qosB trafB
  by_cases k2 : h.kind.toNat = 2
  · rw [decide_eq_true k2, Bool.true_and, Bool.true_and]
    rcases kn_sub hk k2 with e | e | e | e <;> rw [e] <;> rfl
  · rw [decide_eq_false k2]; rfl
theorem ctl_prt {h : Hd} (hk : knB h.kind h.sub = true) : decide (h.kind.toNat = 1) = !prtB h.kind := by
  have := (kn_small hk).1
  unfold prtB
  by_cases k1 : h.kind.toNat = 1
  · rw [decide_eq_true k1, decide_eq_false (by omega)]; rfl
  · rw [decide_eq_false k1, decide_eq_true (by omega)]; rfl
attribute [local irreducible] WL W WQ PL Runs Effs AllE Ent SubO FrIn Pick OneC Ones CellsE PartsE SeqE UZ By Sl Pt Ct

end Go.Proofs.YteojehocflbgdaaDoor.C05

/-
  The mathematics of check values: a register that is fed with bits. No program is named here.
-/
namespace Go.Proofs.YteojehocflbgdaaDoor.C03
open Go

section
variable {w : Nat}

def tpb (w : Nat) (b : Bool) : BitVec w := if b then BitVec.twoPow w (w - 1) else 0#w
def zs (P r : BitVec w) : BitVec w := (r <<< 1) ^^^ (if r.msb then P else 0#w)
def stp (P r : BitVec w) (b : Bool) : BitVec w := zs P (r ^^^ tpb w b)
def feed (P r : BitVec w) (l : List Bool) : BitVec w := l.foldl (stp P) r

theorem feed_nil (P r : BitVec w) : feed P r [] = r := rfl
theorem feed_cons (P r : BitVec w) (b : Bool) (l : List Bool) : feed P r (b :: l) = feed P (stp P r b) l := rfl
theorem feed_append (P r : BitVec w) (l m : List Bool) : feed P r (l ++ m) = feed P (feed P r l) m := by simp [feed]

theorem zs_xor (P r s : BitVec w) : zs P (r ^^^ s) = zs P r ^^^ zs P s := by
  unfold zs
  rw [BitVec.shiftLeft_xor_distrib, BitVec.msb_xor]
  cases r.msb <;> cases s.msb
  · simp
  · simp; ac_rfl
  · simp; ac_rfl
  · simp only [Bool.xor_self, Bool.false_eq_true, if_false, if_true, BitVec.xor_zero]
    rw [show r <<< 1 ^^^ P ^^^ (s <<< 1 ^^^ P) = r <<< 1 ^^^ s <<< 1 ^^^ (P ^^^ P) by ac_rfl, BitVec.xor_self, BitVec.xor_zero]
theorem zs_zero (P : BitVec w) : zs P 0#w = 0#w := by simp [zs]
theorem tpb_xor (a b : Bool) : tpb w (a ^^ b) = tpb w a ^^^ tpb w b := by cases a <;> cases b <;> simp [tpb]
theorem stp_xor (P r s : BitVec w) (a b : Bool) : stp P (r ^^^ s) (a ^^ b) = stp P r a ^^^ stp P s b := by
  unfold stp
  rw [tpb_xor, ← zs_xor]
  congr 1
  ac_rfl
theorem stp_zero (P : BitVec w) : stp P 0#w false = 0#w := by simp [stp, tpb, zs_zero]

theorem feed_xor (P : BitVec w) : ∀ (l m : List Bool) (r s : BitVec w), l.length = m.length → feed P (r ^^^ s) (List.zipWith xor l m) = feed P r l ^^^ feed P s m
  | [], [], r, s, _ => rfl
  | [], _ :: _, _, _, h => by simp at h
  | _ :: _, [], _, _, h => by simp at h
  | a :: l, b :: m, r, s, h => by
    rw [List.zipWith_cons_cons, feed_cons, feed_cons, feed_cons, stp_xor]
    exact feed_xor P l m _ _ (by simpa using h)
theorem feed_zeros (P : BitVec w) : ∀ n, feed P 0#w (List.replicate n false) = 0#w
  | 0 => rfl
  | n + 1 => by rw [List.replicate_succ, feed_cons, stp_zero, feed_zeros P n]

theorem zs_inj0 {P : BitVec w} (hw : 0 < w) (hP : P.getLsbD 0 = true) {x : BitVec w} (h : zs P x = 0#w) : x = 0#w := by
  have h0 : (zs P x).getLsbD 0 = false := by rw [h]; simp
  have hm : x.msb = false := by
    unfold zs at h0
    cases hx : x.msb with
    | false => rfl
    | true =>
      rw [hx] at h0
      simp [hw] at h0
      rw [BitVec.getLsbD_eq_getElem hw, h0] at hP
      cases hP
  have h1 : x <<< 1 = 0#w := by simpa [zs, hm] using h
  apply BitVec.eq_of_getLsbD_eq
  intro i hi
  by_cases e : i = w - 1
  · subst e
    rw [BitVec.msb_eq_getLsbD_last] at hm
    simpa using hm
  · have h2 : (x <<< 1).getLsbD (i + 1) = false := by rw [h1]; simp
    rw [BitVec.getLsbD_shiftLeft] at h2
    simp [show i + 1 < w by omega] at h2
    simpa using h2
theorem zs_inj {P : BitVec w} (hw : 0 < w) (hP : P.getLsbD 0 = true) {x y : BitVec w} (h : zs P x = zs P y) : x = y := by
  have h1 : zs P (x ^^^ y) = 0#w := by rw [zs_xor, h, BitVec.xor_self]
  have h2 := zs_inj0 hw hP h1
  exact BitVec.xor_eq_zero_iff.1 h2
theorem feed_zeros_inj {P : BitVec w} (hw : 0 < w) (hP : P.getLsbD 0 = true) : ∀ (n : Nat) {x y : BitVec w}, feed P x (List.replicate n false) = feed P y (List.replicate n false) → x = y
  | 0, _, _, h => h
  | n + 1, x, y, h => by
    rw [List.replicate_succ, feed_cons, feed_cons] at h
    have h1 := zs_inj hw hP (feed_zeros_inj hw hP n h)
    simpa [tpb] using h1

/-- the bits of a list as the highest bits of a register. -/
def toTop (w : Nat) : List Bool → BitVec w
  | [] => 0#w
  | b :: q => tpb w b ^^^ (toTop w q >>> 1)

theorem tpb_msbD (hw : 0 < w) (b : Bool) (i : Nat) : (tpb w b).getMsbD i = (b && decide (i = 0)) := by
  cases b with
  | false => simp [tpb]
  | true =>
    unfold tpb
    rw [if_pos rfl, BitVec.getMsbD_twoPow]
    rw [Bool.eq_iff_iff]
    simp
    omega
theorem toTop_msbD (hw : 0 < w) : ∀ (l : List Bool) (i : Nat), i < w → (toTop w l).getMsbD i = l.getD i false
  | [], i, _ => by simp [toTop]
  | b :: q, i, hi => by
    rw [toTop, BitVec.getMsbD_xor, tpb_msbD hw]
    cases i with
    | zero => simp [BitVec.getMsbD_ushiftRight]
    | succ i =>
      rw [BitVec.getMsbD_ushiftRight]
      simp [hi]
      rw [toTop_msbD hw q i (by omega)]
      simp [List.getD]

theorem toTop_half (hw : 0 < w) {q : List Bool} (h : q.length < w) (P : BitVec w) : zs P (toTop w q >>> 1) = toTop w q := by
  have hm : (toTop w q >>> 1).msb = false := by
    rw [BitVec.msb_eq_getMsbD_zero, BitVec.getMsbD_ushiftRight]
    simp
  unfold zs
  rw [hm]
  simp
  apply BitVec.eq_of_getMsbD_eq
  intro i hi
  rw [BitVec.getMsbD_shiftLeft, BitVec.getMsbD_ushiftRight]
  by_cases e : i + 1 < w
  · simp [e]
  · simp [e]
    rw [toTop_msbD hw q i hi, List.getD_eq_getElem?_getD, List.getElem?_eq_none (by omega)]
    rfl

theorem feed_top (hw : 0 < w) (P : BitVec w) : ∀ (l : List Bool) (r : BitVec w), l.length ≤ w → feed P r l = feed P (r ^^^ toTop w l) (List.replicate l.length false)
  | [], r, _ => by simp [toTop, feed]
  | b :: q, r, h => by
    rw [List.length_cons] at h
    rw [feed_cons, feed_top hw P q _ (by omega), List.length_cons, List.replicate_succ, feed_cons]
    congr 1
    unfold stp
    rw [show tpb w false = 0#w by simp [tpb], BitVec.xor_zero]
    conv => lhs; rw [← toTop_half hw (show q.length < w by omega) P]
    rw [← zs_xor, toTop, BitVec.xor_assoc]

theorem toTop_zero (hw : 0 < w) {l : List Bool} (hl : l.length ≤ w) (h : toTop w l = 0#w) : l = List.replicate l.length false := by
  apply List.ext_getElem
  · simp
  · intro i h1 h2
    have := toTop_msbD hw l i (by omega)
    rw [h] at this
    simp [List.getD, h1] at this
    simp [← this]

theorem toTop_inj (hw : 0 < w) {l m : List Bool} (hl : l.length ≤ w) (hm : m.length = l.length) (h : toTop w l = toTop w m) : l = m := by
  apply List.ext_getElem
  · exact hm.symm
  · intro i h1 h2
    have e1 := toTop_msbD hw l i (by omega)
    have e2 := toTop_msbD hw m i (by omega)
    rw [h, e2] at e1
    simp [List.getD, h1, h2] at e1
    exact e1.symm

/-- a short string of bits that leads from nothing to nothing is nothing. -/
theorem feed_short (hw : 0 < w) {P : BitVec w} (hP : P.getLsbD 0 = true) {l : List Bool} (hl : l.length ≤ w) (h : feed P 0#w l = 0#w) : l = List.replicate l.length false := by
  rw [feed_top hw P l 0#w hl, BitVec.zero_xor] at h
  have := feed_zeros_inj hw hP _ (h.trans (feed_zeros P l.length).symm)
  exact toTop_zero hw hl this

def msbs (c : BitVec w) : List Bool := (List.range w).map c.getMsbD
theorem toTop_msbs (hw : 0 < w) (c : BitVec w) : toTop w (msbs c) = c := by
  apply BitVec.eq_of_getMsbD_eq
  intro i hi
  rw [toTop_msbD hw _ i hi]
  simp [msbs, List.getD, hi]
theorem msbs_length (c : BitVec w) : (msbs c).length = w := by simp [msbs]

-- parity
def parN (f : Nat → Bool) : Nat → Bool
  | 0 => false
  | n + 1 => parN f n ^^ f n
theorem parN_xor (f g : Nat → Bool) : ∀ n, parN (fun i => f i ^^ g i) n = (parN f n ^^ parN g n)
  | 0 => rfl
  | n + 1 => by
    simp only [parN]
    rw [parN_xor f g n]
    cases parN f n <;> cases parN g n <;> cases f n <;> cases g n <;> rfl
theorem parN_congr {f g : Nat → Bool} : ∀ {n}, (∀ i, i < n → f i = g i) → parN f n = parN g n
  | 0, _ => rfl
  | n + 1, h => by
    simp only [parN]
    rw [parN_congr fun i hi => h i (by omega), h n (by omega)]
theorem parN_one (k : Nat) : ∀ n, parN (fun i => decide (i = k)) n = decide (k < n)
  | 0 => by simp [parN]
  | n + 1 => by
    simp only [parN]
    rw [parN_one k n]
    rcases Nat.lt_trichotomy k n with h | h | h
    · simp [h, show ¬ n = k by omega, show k < n + 1 by omega]
    · subst h; simp
    · simp [show ¬ n = k by omega, show ¬ k < n by omega, show ¬ k < n + 1 by omega]
theorem parN_shift (f : Nat → Bool) : ∀ n, parN (fun i => decide (0 < i) && f (i - 1)) (n + 1) = parN f n
  | 0 => by simp [parN]
  | n + 1 => by
    rw [parN, parN_shift f n]
    simp [parN]

def par (r : BitVec w) : Bool := parN r.getLsbD w
theorem par_xor (r s : BitVec w) : par (r ^^^ s) = (par r ^^ par s) := by
  unfold par
  rw [← parN_xor]
  exact parN_congr fun i _ => by rw [BitVec.getLsbD_xor]
theorem par_zero : par 0#w = false := by
  have := par_xor 0#w 0#w
  rw [BitVec.xor_self] at this
  cases h : par 0#w with
  | false => rfl
  | true => rw [h] at this; cases this
theorem par_shl (hw : 0 < w) (r : BitVec w) : par (r <<< 1) = (par r ^^ r.msb) := by
  obtain ⟨n, rfl⟩ : ∃ n, w = n + 1 := ⟨w - 1, by omega⟩
  unfold par
  rw [show r.msb = r.getLsbD n by rw [BitVec.msb_eq_getLsbD_last]; simp]
  have e : parN (r <<< 1).getLsbD (n + 1) = parN (fun i => decide (0 < i) && r.getLsbD (i - 1)) (n + 1) := parN_congr fun i hi => by
    rw [BitVec.getLsbD_shiftLeft]
    rw [Bool.eq_iff_iff]
    simp [hi]
    omega
  rw [e, parN_shift, parN]
  cases parN r.getLsbD n <;> cases r.getLsbD n <;> rfl
theorem par_tpb (hw : 0 < w) (b : Bool) : par (tpb w b) = b := by
  cases b with
  | false => simpa [tpb] using par_zero
  | true =>
    unfold par
    rw [parN_congr (g := fun i => decide (i = w - 1)) fun i hi => ?_, parN_one]
    · simp; omega
    · unfold tpb
      rw [if_pos rfl, BitVec.getLsbD_twoPow]
      rw [Bool.eq_iff_iff]
      simp
      omega
theorem par_stp (hw : 0 < w) {P : BitVec w} (hP : par P = true) (r : BitVec w) (b : Bool) : par (stp P r b) = (par r ^^ b) := by
  unfold stp zs
  rw [par_xor, par_shl hw, par_xor, par_tpb hw]
  cases (r ^^^ tpb w b).msb with
  | false => simp [show par (0#w) = false from par_zero]
  | true => simp [hP]
theorem par_feed (hw : 0 < w) {P : BitVec w} (hP : par P = true) : ∀ (l : List Bool) (r : BitVec w), par (feed P r l) = l.foldl xor (par r)
  | [], r => rfl
  | b :: l, r => by rw [feed_cons, par_feed hw hP l, par_stp hw hP]; rfl
theorem fold_par (f : Nat → Bool) (a : Bool) : ∀ n, ((List.range n).map f).foldl xor a = (a ^^ parN f n)
  | 0 => by simp [parN]
  | n + 1 => by
    rw [List.range_succ, List.map_append, List.foldl_append, fold_par f a n]
    simp [parN]
end

-- the bits of bytes
def bitsOf (c : UInt8) : List Bool := (List.range 8).map fun k => c.toNat.testBit (7 - k)
def bitsL (xs : List UInt8) : List Bool := xs.flatMap bitsOf
def bitAt (xs : List UInt8) (j : Nat) : Bool := (xs.getD (j / 8) 0).toNat.testBit (7 - j % 8)

theorem bitsOf_length (c : UInt8) : (bitsOf c).length = 8 := by simp [bitsOf]
theorem bitsL_cons (c : UInt8) (xs : List UInt8) : bitsL (c :: xs) = bitsOf c ++ bitsL xs := by simp [bitsL]
theorem bitsL_append (xs ys : List UInt8) : bitsL (xs ++ ys) = bitsL xs ++ bitsL ys := by simp [bitsL]
theorem bitsL_length (xs : List UInt8) : (bitsL xs).length = 8 * xs.length := by
  induction xs with
  | nil => rfl
  | cons c xs ih => rw [bitsL_cons, List.length_append, ih, bitsOf_length, List.length_cons]; omega
theorem bitsL_at : ∀ (xs : List UInt8), bitsL xs = (List.range (8 * xs.length)).map (bitAt xs)
  | [] => rfl
  | c :: xs => by
    rw [bitsL_cons, bitsL_at xs, List.length_cons, Nat.mul_add, Nat.mul_one, Nat.add_comm, List.range_add, List.map_append]
    congr 1
    rw [List.map_map]
    apply List.map_congr_left
    intro k hk
    show bitAt xs k = bitAt (c :: xs) (8 + k)
    unfold bitAt
    rw [show (8 + k) / 8 = k / 8 + 1 by omega, show (8 + k) % 8 = k % 8 by omega]
    rfl

theorem zip_self {α β : Type} (f : α → α → β) : ∀ l : List α, List.zipWith f l l = l.map fun a => f a a
  | [] => rfl
  | a :: l => by rw [List.zipWith_cons_cons, zip_self f l, List.map_cons]

theorem bitsOf_inj : ∀ a b : UInt8, bitsOf a = bitsOf b → a = b := by
  have h : ∀ n : Fin 256, ((List.range 8).map fun k => n.val.testBit (7 - k)).foldl (fun n b => 2 * n + b.toNat) 0 = n.val := by decide +kernel
  have h2 : ∀ a : UInt8, (bitsOf a).foldl (fun n b => 2 * n + b.toNat) 0 = a.toNat := fun a => h ⟨a.toNat, a.toNat_lt⟩
  intro a b e
  apply UInt8.toNat_inj.1
  rw [← h2 a, e, h2 b]
theorem bitsL_inj : ∀ {xs ys : List UInt8}, xs.length = ys.length → bitsL xs = bitsL ys → xs = ys
  | [], [], _, _ => rfl
  | [], _ :: _, h, _ => by simp at h
  | _ :: _, [], h, _ => by simp at h
  | a :: xs, b :: ys, h, e => by
    rw [bitsL_cons, bitsL_cons] at e
    obtain ⟨h1, h2⟩ := List.append_inj e (by simp [bitsOf_length])
    rw [bitsOf_inj a b h1, bitsL_inj (by simpa using h) h2]

-- a bit is changed
def fl (xs : List UInt8) (k : Nat) : List UInt8 := xs.set (k / 8) (xs.getD (k / 8) 0 ^^^ (128 >>> UInt8.ofNat (k % 8)))
theorem fl_length (xs : List UInt8) (k : Nat) : (fl xs k).length = xs.length := by simp [fl]
theorem one_bit : ∀ i : Fin 8, ∀ j : Fin 8, (128 >>> UInt8.ofNat i.val : UInt8).toNat.testBit (7 - j.val) = decide (j = i) := by decide +kernel
theorem fl_at (xs : List UInt8) (k j : Nat) (hk : k < 8 * xs.length) : bitAt (fl xs k) j = (bitAt xs j ^^ decide (j = k)) := by
  unfold bitAt fl
  by_cases e : j / 8 = k / 8
  · rw [e, List.getD_eq_getElem?_getD, List.getElem?_set_self (by omega)]
    simp only [Option.getD_some]
    rw [UInt8.toNat_xor, Nat.testBit_xor]
    have := one_bit ⟨k % 8, by omega⟩ ⟨j % 8, by omega⟩
    simp only at this
    rw [this]
    congr 1
    rw [decide_eq_decide, Fin.mk.injEq]
    omega
  · rw [List.getD_eq_getElem?_getD, List.getElem?_set_ne (by omega), ← List.getD_eq_getElem?_getD]
    simp [show ¬ j = k by intro h; subst h; exact e rfl]

-- strings with a check value
section
variable {w : Nat}
def crc (P : BitVec w) (xs : List UInt8) : BitVec w := ~~~ feed P (BitVec.allOnes w) (bitsL xs)

/-- the last m bytes are the check value of those in front of them. -/
def vok (P : BitVec w) (cb : BitVec w → List UInt8) (m : Nat) (xs : List UInt8) : Prop := xs.drop (xs.length - m) = cb (crc P (xs.take (xs.length - m)))

structure Good (P : BitVec w) (cb : BitVec w → List UInt8) (m : Nat) : Prop where
  w0 : 0 < w
  wm : w = 8 * m
  low : P.getLsbD 0 = true
  odd : par P = true
  bits : ∀ c, bitsL (cb c) = msbs c

variable {P : BitVec w} {cb : BitVec w → List UInt8} {m : Nat}
theorem Good.length (g : Good P cb m) (c : BitVec w) : (cb c).length = m := by
  have := congrArg List.length (g.bits c)
  rw [bitsL_length, msbs_length] at this
  have := g.wm
  omega

theorem Good.ok_iff (g : Good P cb m) {xs : List UInt8} (h : m ≤ xs.length) : vok P cb m xs ↔ feed P (BitVec.allOnes w) (bitsL xs) = feed P (BitVec.allOnes w) (List.replicate w false) := by
  have hw := g.wm
  have e : bitsL xs = bitsL (xs.take (xs.length - m)) ++ bitsL (xs.drop (xs.length - m)) := by rw [← bitsL_append, List.take_append_drop]
  have hl : (xs.drop (xs.length - m)).length = m := by rw [List.length_drop]; omega
  have hl2 : (bitsL (xs.drop (xs.length - m))).length = w := by rw [bitsL_length, hl]; omega
  rw [e, feed_append, feed_top g.w0 P _ _ (by omega), hl2]
  unfold vok crc
  constructor
  · intro h
    rw [h, g.bits, toTop_msbs g.w0]
    congr 1
    rw [BitVec.not_def, ← BitVec.xor_assoc, BitVec.xor_comm _ (BitVec.allOnes w), BitVec.xor_assoc, BitVec.xor_self, BitVec.xor_zero]
  · intro h
    have h2 := feed_zeros_inj g.w0 g.low _ h
    apply bitsL_inj (by rw [hl, g.length])
    rw [g.bits]
    apply toTop_inj g.w0 (by omega) (by rw [msbs_length, hl2])
    rw [toTop_msbs g.w0]
    generalize feed P (BitVec.allOnes w) (bitsL (xs.take (xs.length - m))) = r at h2 ⊢
    generalize toTop w _ = t at h2 ⊢
    rw [BitVec.not_def, ← h2]
    rw [show r ^^^ t ^^^ r = t ^^^ (r ^^^ r) by ac_rfl, BitVec.xor_self, BitVec.xor_zero]

theorem Good.made (g : Good P cb m) (xs : List UInt8) : vok P cb m (xs ++ cb (crc P xs)) := by
  unfold vok
  rw [List.length_append, g.length, Nat.add_sub_cancel, List.drop_left' rfl, List.take_left' rfl]

/-- an odd number of changed bits is found. -/
theorem Good.parity (g : Good P cb m) {xs ys : List UInt8} (hx : m ≤ xs.length) (hl : ys.length = xs.length) (h1 : vok P cb m xs) (h2 : vok P cb m ys) :
    parN (bitAt xs) (8 * xs.length) = parN (bitAt ys) (8 * xs.length) := by
  rw [g.ok_iff hx] at h1
  rw [g.ok_iff (by omega)] at h2
  have e := congrArg par (h1.trans h2.symm)
  rw [par_feed g.w0 g.odd, par_feed g.w0 g.odd, bitsL_at, bitsL_at, fold_par, fold_par, hl] at e
  cases par (BitVec.allOnes w) <;> simpa using e

theorem range_split (a b n : Nat) (h : a + b ≤ n) : List.range n = List.range a ++ (List.range b).map (a + ·) ++ (List.range (n - (a + b))).map (a + b + ·) := by
  rw [← List.range_add, ← List.range_add]
  congr 1
  omega

theorem map_false {f : Nat → Bool} : ∀ {l : List Nat}, (∀ i ∈ l, f i = false) → l.map f = List.replicate l.length false
  | [], _ => rfl
  | a :: l, h => by
    rw [List.map_cons, h a (by simp), map_false fun i hi => h i (by simp [hi])]
    rfl

/-- a burst is found. -/
theorem Good.burst (g : Good P cb m) {xs ys : List UInt8} (hx : m ≤ xs.length) (hl : ys.length = xs.length) (h1 : vok P cb m xs) (e : Nat → Bool) (at_ : Nat)
    (he : ∀ j, j < 8 * xs.length → bitAt ys j = (bitAt xs j ^^ e j)) (ha : at_ ≤ 8 * xs.length) (hb : ∀ j, j < 8 * xs.length → e j = true → at_ ≤ j ∧ j < at_ + w) :
    vok P cb m ys ↔ ∀ j, j < 8 * xs.length → e j = false := by
  rw [g.ok_iff (by omega : m ≤ ys.length), ← (g.ok_iff hx).1 h1]
  have hz : bitsL ys = List.zipWith xor (bitsL xs) ((List.range (8 * xs.length)).map e) := by
    rw [bitsL_at, bitsL_at xs, hl, List.zipWith_map, zip_self]
    apply List.map_congr_left
    intro j hj
    exact he j (by simpa using hj)
  rw [hz]
  have hf := feed_xor P (bitsL xs) ((List.range (8 * xs.length)).map e) (BitVec.allOnes w) 0#w (by simp [bitsL_length])
  rw [BitVec.xor_zero] at hf
  rw [hf]
  have hn : feed P 0#w ((List.range (8 * xs.length)).map e) = 0#w ↔ ∀ j, j < 8 * xs.length → e j = false := by
    constructor
    · intro h
      have hk : at_ + min w (8 * xs.length - at_) ≤ 8 * xs.length := by omega
      rw [range_split at_ (min w (8 * xs.length - at_)) _ hk, List.map_append, List.map_append, feed_append, feed_append] at h
      have f1 : (List.range at_).map e = List.replicate at_ false := by
        have := map_false (f := e) (l := List.range at_) fun i hi => by
          have hi : i < at_ := by simpa using hi
          cases hc : e i with
          | false => rfl
          | true => have := hb i (by omega) hc; omega
        simpa using this
      have f3 : ((List.range (8 * xs.length - (at_ + min w (8 * xs.length - at_)))).map (at_ + min w (8 * xs.length - at_) + ·)).map e = List.replicate (8 * xs.length - (at_ + min w (8 * xs.length - at_))) false := by
        have := map_false (f := e) (l := (List.range (8 * xs.length - (at_ + min w (8 * xs.length - at_)))).map (at_ + min w (8 * xs.length - at_) + ·)) fun i hi => by
          rw [List.mem_map] at hi
          obtain ⟨j, hj, rfl⟩ := hi
          have hj : j < 8 * xs.length - (at_ + min w (8 * xs.length - at_)) := by simpa using hj
          cases hc : e (at_ + min w (8 * xs.length - at_) + j) with
          | false => rfl
          | true => have := hb _ (by omega) hc; omega
        simpa using this
      rw [f1, f3, feed_zeros] at h
      have h2 := feed_zeros_inj g.w0 g.low _ (h.trans (feed_zeros P _).symm)
      have h3 := feed_short g.w0 g.low (by simp; omega) h2
      intro j hj
      cases hc : e j with
      | false => rfl
      | true =>
        have hh := hb j hj hc
        have h4 := congrArg (fun l => l[j - at_]?) h3
        simp only [List.length_map, List.length_range, List.getElem?_map] at h4
        rw [List.getElem?_range (by omega), List.getElem?_replicate, if_pos (by omega)] at h4
        simp [show at_ + (j - at_) = j by omega, hc] at h4
    · intro h
      have := map_false (f := e) (l := List.range (8 * xs.length)) fun i hi => h i (by simpa using hi)
      rw [this]
      exact feed_zeros P _
  rw [← hn]
  constructor
  · intro h
    have h2 := congrArg (feed P (BitVec.allOnes w) (bitsL xs) ^^^ ·) h
    rw [← BitVec.xor_assoc, BitVec.xor_self, BitVec.zero_xor] at h2
    exact h2
  · intro h
    rw [h, BitVec.xor_zero]
end

-- the two check values
def P32 : BitVec 32 := 0x08204213#32
def P8 : BitVec 8 := 0x61#8
def cb32 (c : BitVec 32) : List UInt8 := [UInt8.ofNat (c.toNat / 16777216), UInt8.ofNat (c.toNat / 65536), UInt8.ofNat (c.toNat / 256), UInt8.ofNat c.toNat]
def cb8 (c : BitVec 8) : List UInt8 := [UInt8.ofNat c.toNat]

theorem bitsOf_ofNat (n : Nat) : bitsOf (UInt8.ofNat n) = (List.range 8).map fun k => n.testBit (7 - k) := by
  unfold bitsOf
  apply List.map_congr_left
  intro k hk
  have hk : k < 8 := by simpa using hk
  rw [UInt8.toNat_ofNat', Nat.testBit_mod_two_pow]
  simp [show 7 - k < 8 by omega]
theorem bits_cb32 (c : BitVec 32) : bitsL (cb32 c) = msbs c := by
  have h : ∀ k, c.toNat.testBit k = c.getLsbD k := fun k => BitVec.testBit_toNat c
  simp only [cb32, bitsL_cons, show bitsL [] = [] from rfl, List.append_nil, bitsOf_ofNat, msbs, show (16777216 : Nat) = 2 ^ 24 from rfl, show (65536 : Nat) = 2 ^ 16 from rfl, show (256 : Nat) = 2 ^ 8 from rfl, Nat.testBit_div_two_pow, h]
  rfl

theorem good32 : Good P32 cb32 4 := ⟨by decide, rfl, by decide, by decide, bits_cb32⟩
end Go.Proofs.YteojehocflbgdaaDoor.C03

/-
  Contracts of the tables of the check values.
-/
namespace Go.Proofs.YteojehocflbgdaaDoor.C03
open Go Go.RowKit Go.Hs
attribute [local irreducible] WL W WQ PL Runs Effs AllE Ent SubO FrIn Pick OneC Ones CellsE PartsE SeqE UZ By Sl Pt Ct

theorem lt32 (r : BitVec 32) : r.toNat < 4294967296 := r.isLt
theorem shl32 (r : BitVec 32) : IntKind.u32.wrap ((r.toNat : Int) * 2 ^ (min (1 : Int).toNat IntKind.u32.bits)) = ((r <<< 1).toNat : Int) := by
  have h := lt32 r
  rw [BitVec.toNat_shiftLeft, IntKind.wrap_u32]
  rw [show ((2 : Int) ^ (min (1 : Int).toNat IntKind.u32.bits)) = 2 from rfl, Nat.shiftLeft_eq]
  omega
theorem xor32 (r s : BitVec 32) : bits .xor .u32 (r.toNat : Int) (s.toNat : Int) = ((r ^^^ s).toNat : Int) := by
  rw [u32_xor_nat _ _ (lt32 r) (lt32 s), BitVec.toNat_xor]
theorem not32 (r : BitVec 32) : bits .xor .u32 (if IntKind.u32.signed then -1 else IntKind.u32.max) (r.toNat : Int) = ((~~~ r).toNat : Int) := by
  rw [BitVec.not_def]
  exact xor32 (BitVec.allOnes 32) r
theorem top32 (r : BitVec 32) : bits .and .u32 (r.toNat : Int) 2147483648 = if r.msb then 2147483648 else 0 := by
  have h := lt32 r
  rw [show (2147483648 : Int) = ((2147483648 : Nat) : Int) from rfl, u32_and_nat _ _ h (by decide)]
  have e : r.toNat &&& 2147483648 = if r.msb then 2147483648 else 0 := by
    apply Nat.eq_of_testBit_eq
    intro i
    rw [Nat.testBit_and, show (2147483648 : Nat) = 2 ^ (32 - 1) from rfl, Nat.testBit_two_pow]
    by_cases h1 : 32 - 1 = i
    · subst h1
      rw [BitVec.msb_eq_getLsbD_last, BitVec.testBit_toNat]
      cases r.getLsbD (32 - 1)
      · simp
      · decide
    · simp only [h1, decide_false, Bool.and_false]
      cases r.msb
      · simp
      · have h2 : Nat.testBit (2 ^ (32 - 1)) i = decide (32 - 1 = i) := Nat.testBit_two_pow
        rw [decide_eq_false h1] at h2
        exact h2.symm
  rw [e]
  split <;> rfl

/-- the table's entry i. -/
def tb32 (i : Nat) : BitVec 32 := feed P32 (BitVec.ofNat 32 i <<< (32 - 8)) (List.replicate 8 false)
def tc32 (n : Nat) : List Value := (List.range 256).map fun j => .int .u32 (if j < n then ((tb32 j).toNat : Int) else 0)
theorem tc32_length (n : Nat) : (tc32 n).length = 256 := by simp [tc32]
theorem tc32_zero : tc32 0 = List.replicate 256 (.int .u32 0) := by
  apply List.ext_getElem
  · rw [tc32_length, List.length_replicate]
  · intro i h1 h2
    rw [List.getElem_replicate]
    simp only [tc32, List.getElem_map]
    rfl
theorem tc32_set (i : Nat) (h : i < 256) : (tc32 i).set i (.int .u32 ((tb32 i).toNat : Int)) = tc32 (i + 1) := by
  apply List.ext_getElem
  · simp [tc32]
  · intro j h1 h2
    rw [List.getElem_set]
    by_cases e : i = j
    · subst e
      simp [tc32]
    · rw [if_neg e]
      simp only [tc32, List.getElem_map, List.getElem_range]
      congr 1
      by_cases h3 : j < i
      · rw [if_pos h3, if_pos (by omega)]
      · rw [if_neg h3, if_neg (by omega)]
theorem tc32_one (n : Nat) : ∀ u ∈ tc32 n, u.oneCell' = true := by
  intro u hu
  obtain ⟨j, _, rfl⟩ := List.mem_map.1 hu
  rfl
theorem tc32_get (i : Nat) (h : i < 256) : (tc32 256)[i]? = some (.int .u32 ((tb32 i).toNat : Int)) := by
  simp [tc32, h]

set_option maxRecDepth 100000 in
theorem shift32 : CtD Tryd.prog 57 [.int .u32 2147483648] [] (.int .i64 24) := by
  refine Ct_intro Tryd.func57 rfl Tryd.ntmps57 (by simp) _ rfl (fun w0 O0 => ?_)
  repeat (first | refine n1 ?_ | refine n2 (fun b _ => ?_) | refine n3 (fun _ _ => ?_) | refine n4 ?_ | refine n5 ?_ | refine WL_nil ?_ | refine W_seq ?_ | refine W_region ?_ | refine n7 ?_ | refine n8 ?_ | refine W_block ?_ | refine W_skip ?_ | refine W_ret ?_ | refine W_exit ?_ | refine WQ_then ?_ | refine WQ_then_ret ?_ | refine WQ_then_exit ?_ | refine WQ_block_normal ?_ | refine WQ_block_ret ?_ | refine WQ_block_exit ?_ | refine n9 ?_)
  ((apply W_loopK (X := Nat) [3, 4] [] (fun x => x ≤ 24) (fun x => [(3, .int .i64 (x : Int)), (4, .int .u32 ((2147483648 / 2 ^ x : Nat) : Int))]) (fun _ => []) (fun _ => []) (fun x => 24 - x) (0)); (focus exact Nat.zero_le _); exact rfl; exact rfl; (intro _; exact rfl); (intro _; exact rfl); (intro _; exact rfl); (focus (repeat (first | exact FrIn.nil _ | (apply FrIn.cons; exact rfl; (first | exact rfl | (congr 1; first | omega | (dsimp only; omega)) | (simp; done)))))); (focus (repeat (first | exact SubO.nil _ | (apply SubO.cons; (focus (repeat' (first | exact Pick.head _ _ | apply Pick.tail))))))); (focus (repeat (first | exact AllE.nil _ | (apply AllE.cons; (focus (first | exact ent_nilBy | exact ent_nilSl | (apply Ent.mem; repeat' (first | exact mcs | apply mct)))))))); intro x hx)
  by_cases h : x < 24
  · have h1 : ∀ k : Fin 24, 128 < 2147483648 / 2 ^ k.val := by decide
    have h2 : 128 < 2147483648 / 2 ^ x := h1 ⟨x, h⟩
    repeat (first | refine n1 ?_ | refine n2 (fun b _ => ?_) | refine n3 (fun _ _ => ?_) | refine n4 ?_ | refine n5 ?_ | refine WL_nil ?_ | refine W_seq ?_ | refine W_region ?_ | refine n7 ?_ | refine n8 ?_ | refine W_block ?_ | refine W_skip ?_ | refine W_ret ?_ | refine W_exit ?_ | refine WQ_then ?_ | refine WQ_then_ret ?_ | refine WQ_then_exit ?_ | refine WQ_block_normal ?_ | refine WQ_block_ret ?_ | refine WQ_block_exit ?_ | refine n9 ?_)
    refine WL_runs rfl rfl rfl (R_shr (c := ((2147483648 / 2 ^ (x + 1) : Nat) : Int)) rfl rfl (by omega) ?_) ?_
    · rw [Nat.pow_succ, ← Nat.div_div_eq_div_mul, show ((2 : Int) ^ (min (1 : Int).toNat IntKind.u32.bits)) = 2 from rfl, Int.fdiv_eq_ediv_of_nonneg _ (by decide)]
      omega
    repeat (first | refine n1 ?_ | refine n2 (fun b _ => ?_) | refine n3 (fun _ _ => ?_) | refine n4 ?_ | refine n5 ?_ | refine WL_nil ?_ | refine W_seq ?_ | refine W_region ?_ | refine n7 ?_ | refine n8 ?_ | refine W_block ?_ | refine W_skip ?_ | refine W_ret ?_ | refine W_exit ?_ | refine WQ_then ?_ | refine WQ_then_ret ?_ | refine WQ_then_exit ?_ | refine WQ_block_normal ?_ | refine WQ_block_ret ?_ | refine WQ_block_exit ?_ | refine n9 ?_)
    ((apply WQ_again (x + 1)); (focus exact h); (focus (omega)); (focus (repeat (first | exact FrIn.nil _ | (apply FrIn.cons; exact rfl; (first | exact rfl | (congr 1; first | omega | (dsimp only; omega)) | (simp; done)))))); (focus (repeat (first | exact SubO.nil _ | (apply SubO.cons; (focus (repeat' (first | exact Pick.head _ _ | apply Pick.tail))))))); (focus (repeat (first | exact AllE.nil _ | (apply AllE.cons; (focus (first | exact ent_nilBy | exact ent_nilSl | (apply Ent.mem; repeat' (first | exact mcs | apply mct)))))))))
  · obtain rfl : x = 24 := by omega
    have h2 : 2147483648 / 2 ^ 24 = 128 := by decide
    repeat (first | refine n1 ?_ | refine n2 (fun b _ => ?_) | refine n3 (fun _ _ => ?_) | refine n4 ?_ | refine n5 ?_ | refine WL_nil ?_ | refine W_seq ?_ | refine W_region ?_ | refine n7 ?_ | refine n8 ?_ | refine W_block ?_ | refine W_skip ?_ | refine W_ret ?_ | refine W_exit ?_ | refine WQ_then ?_ | refine WQ_then_ret ?_ | refine WQ_then_exit ?_ | refine WQ_block_normal ?_ | refine WQ_block_ret ?_ | refine WQ_block_exit ?_ | refine n9 ?_)
    ((apply ret1 Tryd.results57 ( ())); (focus (first | trivial | assumption | omega)); (focus (first | exact RV_tmp rfl | (apply RV_cellN; exact rfl; (repeat' (first | exact Pick.head _ _ | apply Pick.tail)); (intro _; exact rfl); (intro _; exact rfl); exact rfl) | (apply RV_cell1; exact rfl; (repeat' (first | exact Pick.head _ _ | apply Pick.tail)); (intro _; exact rfl); exact rfl)));  (focus (first | exact rfl | (simp; done))); (focus (repeat (first | exact SubO.nil _ | (apply SubO.cons; (focus (repeat' (first | exact Pick.head _ _ | apply Pick.tail))))))); (focus (repeat (first | exact AllE.nil _ | (apply AllE.cons; (focus (first | exact ent_nilBy | exact ent_nilSl | (apply Ent.mem; repeat' (first | exact mcs | apply mct)))))))))

attribute [local irreducible] tc32
set_option maxRecDepth 100000 in
set_option maxHeartbeats 1000000 in
theorem table32 : CtD Tryd.prog 54 [.int .u32 136331795, .int .u32 2147483648] [] (.agg (tc32 256).toArray) := by
  have hsf := shift32
  refine Ct_intro Tryd.func54 rfl Tryd.ntmps54 (by simp) _ rfl (fun w0 O0 => ?_)
  refine W_seq (W_region ?_)
  refine WL_effs rfl rfl rfl (E_alloc (cs := List.replicate 256 (.int .u32 0)) (by intro _; exact rfl) (by kernel_rfl)) ?_
  intro b _
  rw [← tc32_zero]
  repeat (first | refine n1 ?_ | refine n2 (fun b _ => ?_) | refine n3 (fun _ _ => ?_) | refine n4 ?_ | refine n5 ?_ | refine WL_nil ?_ | refine W_seq ?_ | refine W_region ?_ | refine n7 ?_ | refine n8 ?_ | refine W_block ?_ | refine W_skip ?_ | refine W_ret ?_ | refine W_exit ?_ | refine WQ_then ?_ | refine WQ_then_ret ?_ | refine WQ_then_exit ?_ | refine WQ_block_normal ?_ | refine WQ_block_ret ?_ | refine WQ_block_exit ?_ | refine n9 ?_)
  ((apply W_loopK (X := Nat) [8] [0] (fun x => x ≤ 256) (fun x => [(8, .int .i64 (x : Int))]) (fun x => [.blk b 108 (tc32 x)]) (fun _ => []) (fun x => 256 - x) (0)); (focus exact Nat.zero_le _); exact rfl; exact rfl; (intro _; exact rfl); (intro _; exact rfl); (intro _; exact rfl); (focus (repeat (first | exact FrIn.nil _ | (apply FrIn.cons; exact rfl; (first | exact rfl | (congr 1; first | omega | (dsimp only; omega)) | (simp; done)))))); (focus (repeat (first | exact SubO.nil _ | (apply SubO.cons; (focus (repeat' (first | exact Pick.head _ _ | apply Pick.tail))))))); (focus (repeat (first | exact AllE.nil _ | (apply AllE.cons; (focus (first | exact ent_nilBy | exact ent_nilSl | (apply Ent.mem; repeat' (first | exact mcs | apply mct)))))))); intro x hx)
  by_cases h : x < 256
  · obtain ⟨i, rfl⟩ : ∃ i, i = x := ⟨x, rfl⟩
    have e1 : ((i : Int) * 2 ^ (min (24 : Int).toNat IntKind.u32.bits)) = ((i * 2 ^ 24 : Nat) : Int) := by
      rw [show ((2 : Int) ^ (min (24 : Int).toNat IntKind.u32.bits)) = ((2 ^ 24 : Nat) : Int) from rfl, ← Int.natCast_mul]
    have e2 : IntKind.u32.wrap ((i : Int) * 2 ^ (min (24 : Int).toNat IntKind.u32.bits)) = ((BitVec.ofNat 32 i <<< (32 - 8)).toNat : Int) := by
      rw [e1, BitVec.toNat_shiftLeft, BitVec.toNat_ofNat, Nat.shiftLeft_eq, IntKind.wrap_u32, Nat.mod_eq_of_lt (by omega : i < 2 ^ 32)]
      show ((i * 2 ^ 24 : Nat) : Int) % 4294967296 = ((i * 2 ^ 24 % 4294967296 : Nat) : Int)
      omega
    repeat (first | refine n1 ?_ | refine n2 (fun b _ => ?_) | refine n3 (fun _ _ => ?_) | refine n4 ?_ | refine n5 ?_ | refine n6 (hsf) ?_ | refine n6v (hsf) ?_ | refine WL_nil ?_ | refine W_seq ?_ | refine W_region ?_ | refine n7 ?_ | refine n8 ?_ | refine W_block ?_ | refine W_skip ?_ | refine W_ret ?_ | refine W_exit ?_ | refine WQ_then ?_ | refine WQ_then_ret ?_ | refine WQ_then_exit ?_ | refine WQ_block_normal ?_ | refine WQ_block_ret ?_ | refine WQ_block_exit ?_ | refine n9 ?_)
    refine WL_runs rfl rfl rfl (R_shl rfl rfl (by decide) e2) ?_
    repeat (first | refine n1 ?_ | refine n2 (fun b _ => ?_) | refine n3 (fun _ _ => ?_) | refine n4 ?_ | refine n5 ?_ | refine WL_nil ?_ | refine W_seq ?_ | refine W_region ?_ | refine n7 ?_ | refine n8 ?_ | refine W_block ?_ | refine W_skip ?_ | refine W_ret ?_ | refine W_exit ?_ | refine WQ_then ?_ | refine WQ_then_ret ?_ | refine WQ_then_exit ?_ | refine WQ_block_normal ?_ | refine WQ_block_ret ?_ | refine WQ_block_exit ?_ | refine n9 ?_)
    ((apply W_loopK (X := Nat × BitVec 32) [16, 6] [] (fun y => y.1 ≤ 8 ∧ y.2 = feed P32 (BitVec.ofNat 32 i <<< (32 - 8)) (List.replicate y.1 false)) (fun y => [(16, .int .i64 (y.1 : Int)), (6, .int .u32 (y.2.toNat : Int))]) (fun _ => []) (fun _ => []) (fun y => 8 - y.1) ((0, BitVec.ofNat 32 i <<< (32 - 8)))); (focus exact ⟨by omega, rfl⟩); exact rfl; exact rfl; (intro _; exact rfl); (intro _; exact rfl); (intro _; exact rfl); (focus (repeat (first | exact FrIn.nil _ | (apply FrIn.cons; exact rfl; (first | exact rfl | (congr 1; first | omega | (dsimp only; omega)) | (simp; done)))))); (focus (repeat (first | exact SubO.nil _ | (apply SubO.cons; (focus (repeat' (first | exact Pick.head _ _ | apply Pick.tail))))))); (focus (repeat (first | exact AllE.nil _ | (apply AllE.cons; (focus (first | exact ent_nilBy | exact ent_nilSl | (apply Ent.mem; repeat' (first | exact mcs | apply mct)))))))); intro x hx)
    obtain ⟨n, r⟩ := x
    rename_i hi0
    obtain ⟨hn, hr⟩ := hx
    replace hn : n ≤ 8 := hn
    replace hr : r = feed P32 (BitVec.ofNat 32 i <<< (32 - 8)) (List.replicate n false) := hr
    by_cases h8 : n < 8
    · have hz : feed P32 (BitVec.ofNat 32 i <<< (32 - 8)) (List.replicate (n + 1) false) = zs P32 r := by
        rw [List.replicate_succ', feed_append, ← hr, feed_cons, feed_nil, stp, show tpb 32 false = 0#32 from rfl, BitVec.xor_zero]
      have ht := top32 r
      by_cases hm : r.msb = true
      · rw [if_pos hm] at ht
        have hz2 : zs P32 r = (r <<< 1) ^^^ P32 := by rw [zs, if_pos hm]
        repeat (first | refine n1 ?_ | refine n2 (fun b _ => ?_) | refine n3 (fun _ _ => ?_) | refine n4 ?_ | refine n5 ?_ | refine WL_nil ?_ | refine W_seq ?_ | refine W_region ?_ | refine n7 ?_ | refine n8 ?_ | refine W_block ?_ | refine W_skip ?_ | refine W_ret ?_ | refine W_exit ?_ | refine WQ_then ?_ | refine WQ_then_ret ?_ | refine WQ_then_exit ?_ | refine WQ_block_normal ?_ | refine WQ_block_ret ?_ | refine WQ_block_exit ?_ | refine n9 ?_)
        refine WL_runs rfl rfl rfl (R_and rfl rfl ht) ?_
        repeat (first | refine n1 ?_ | refine n2 (fun b _ => ?_) | refine n3 (fun _ _ => ?_) | refine n4 ?_ | refine n5 ?_ | refine WL_nil ?_ | refine W_seq ?_ | refine W_region ?_ | refine n7 ?_ | refine n8 ?_ | refine W_block ?_ | refine W_skip ?_ | refine W_ret ?_ | refine W_exit ?_ | refine WQ_then ?_ | refine WQ_then_ret ?_ | refine WQ_then_exit ?_ | refine WQ_block_normal ?_ | refine WQ_block_ret ?_ | refine WQ_block_exit ?_ | refine n9 ?_)
        refine WL_runs rfl rfl rfl (R_shl rfl rfl (by decide) (shl32 r)) ?_
        repeat (first | refine n1 ?_ | refine n2 (fun b _ => ?_) | refine n3 (fun _ _ => ?_) | refine n4 ?_ | refine n5 ?_ | refine WL_nil ?_ | refine W_seq ?_ | refine W_region ?_ | refine n7 ?_ | refine n8 ?_ | refine W_block ?_ | refine W_skip ?_ | refine W_ret ?_ | refine W_exit ?_ | refine WQ_then ?_ | refine WQ_then_ret ?_ | refine WQ_then_exit ?_ | refine WQ_block_normal ?_ | refine WQ_block_ret ?_ | refine WQ_block_exit ?_ | refine n9 ?_)
        refine WL_runs rfl rfl rfl (R_xor (b := ((P32).toNat : Int)) rfl rfl (xor32 (r <<< 1) P32)) ?_
        repeat (first | refine n1 ?_ | refine n2 (fun b _ => ?_) | refine n3 (fun _ _ => ?_) | refine n4 ?_ | refine n5 ?_ | refine WL_nil ?_ | refine W_seq ?_ | refine W_region ?_ | refine n7 ?_ | refine n8 ?_ | refine W_block ?_ | refine W_skip ?_ | refine W_ret ?_ | refine W_exit ?_ | refine WQ_then ?_ | refine WQ_then_ret ?_ | refine WQ_then_exit ?_ | refine WQ_block_normal ?_ | refine WQ_block_ret ?_ | refine WQ_block_exit ?_ | refine n9 ?_)
        ((apply WQ_again ((n + 1, r <<< 1 ^^^ P32))); (focus exact ⟨h8, by rw [hz, hz2]⟩); (focus (omega)); (focus (repeat (first | exact FrIn.nil _ | (apply FrIn.cons; exact rfl; (first | exact rfl | (congr 1; first | omega | (dsimp only; omega)) | (simp; done)))))); (focus (repeat (first | exact SubO.nil _ | (apply SubO.cons; (focus (repeat' (first | exact Pick.head _ _ | apply Pick.tail))))))); (focus (repeat (first | exact AllE.nil _ | (apply AllE.cons; (focus (first | exact ent_nilBy | exact ent_nilSl | (apply Ent.mem; repeat' (first | exact mcs | apply mct)))))))))
      · rw [if_neg hm] at ht
        have hz2 : zs P32 r = (r <<< 1) := by rw [zs, if_neg hm, BitVec.xor_zero]
        repeat (first | refine n1 ?_ | refine n2 (fun b _ => ?_) | refine n3 (fun _ _ => ?_) | refine n4 ?_ | refine n5 ?_ | refine WL_nil ?_ | refine W_seq ?_ | refine W_region ?_ | refine n7 ?_ | refine n8 ?_ | refine W_block ?_ | refine W_skip ?_ | refine W_ret ?_ | refine W_exit ?_ | refine WQ_then ?_ | refine WQ_then_ret ?_ | refine WQ_then_exit ?_ | refine WQ_block_normal ?_ | refine WQ_block_ret ?_ | refine WQ_block_exit ?_ | refine n9 ?_)
        refine WL_runs rfl rfl rfl (R_and rfl rfl ht) ?_
        repeat (first | refine n1 ?_ | refine n2 (fun b _ => ?_) | refine n3 (fun _ _ => ?_) | refine n4 ?_ | refine n5 ?_ | refine WL_nil ?_ | refine W_seq ?_ | refine W_region ?_ | refine n7 ?_ | refine n8 ?_ | refine W_block ?_ | refine W_skip ?_ | refine W_ret ?_ | refine W_exit ?_ | refine WQ_then ?_ | refine WQ_then_ret ?_ | refine WQ_then_exit ?_ | refine WQ_block_normal ?_ | refine WQ_block_ret ?_ | refine WQ_block_exit ?_ | refine n9 ?_)
        refine WL_runs rfl rfl rfl (R_shl rfl rfl (by decide) (shl32 r)) ?_
        repeat (first | refine n1 ?_ | refine n2 (fun b _ => ?_) | refine n3 (fun _ _ => ?_) | refine n4 ?_ | refine n5 ?_ | refine WL_nil ?_ | refine W_seq ?_ | refine W_region ?_ | refine n7 ?_ | refine n8 ?_ | refine W_block ?_ | refine W_skip ?_ | refine W_ret ?_ | refine W_exit ?_ | refine WQ_then ?_ | refine WQ_then_ret ?_ | refine WQ_then_exit ?_ | refine WQ_block_normal ?_ | refine WQ_block_ret ?_ | refine WQ_block_exit ?_ | refine n9 ?_)
        ((apply WQ_again ((n + 1, r <<< 1))); (focus exact ⟨h8, by rw [hz, hz2]⟩); (focus (omega)); (focus (repeat (first | exact FrIn.nil _ | (apply FrIn.cons; exact rfl; (first | exact rfl | (congr 1; first | omega | (dsimp only; omega)) | (simp; done)))))); (focus (repeat (first | exact SubO.nil _ | (apply SubO.cons; (focus (repeat' (first | exact Pick.head _ _ | apply Pick.tail))))))); (focus (repeat (first | exact AllE.nil _ | (apply AllE.cons; (focus (first | exact ent_nilBy | exact ent_nilSl | (apply Ent.mem; repeat' (first | exact mcs | apply mct)))))))))
    · obtain rfl : n = 8 := by omega
      replace hr : r = tb32 i := by rw [hr, tb32]
      subst hr
      repeat (first | refine n1 ?_ | refine n2 (fun b _ => ?_) | refine n3 (fun _ _ => ?_) | refine n4 ?_ | refine n5 ?_ | refine WL_nil ?_ | refine W_seq ?_ | refine W_region ?_ | refine n7 ?_ | refine n8 ?_ | refine W_block ?_ | refine W_skip ?_ | refine W_ret ?_ | refine W_exit ?_ | refine WQ_then ?_ | refine WQ_then_ret ?_ | refine WQ_then_exit ?_ | refine WQ_block_normal ?_ | refine WQ_block_ret ?_ | refine WQ_block_exit ?_ | refine n9 ?_)
      refine WL_do rfl rfl (E_storeAt rfl rfl (by repeat' (first | exact Pick.head _ _ | apply Pick.tail)) rfl (by intro _; exact rfl) (by rw [tc32_length]; exact h)) ?_
      intro _ _
      rw [tc32_set i h]
      repeat (first | refine n1 ?_ | refine n2 (fun b _ => ?_) | refine n3 (fun _ _ => ?_) | refine n4 ?_ | refine n5 ?_ | refine WL_nil ?_ | refine W_seq ?_ | refine W_region ?_ | refine n7 ?_ | refine n8 ?_ | refine W_block ?_ | refine W_skip ?_ | refine W_ret ?_ | refine W_exit ?_ | refine WQ_then ?_ | refine WQ_then_ret ?_ | refine WQ_then_exit ?_ | refine WQ_block_normal ?_ | refine WQ_block_ret ?_ | refine WQ_block_exit ?_ | refine n9 ?_)
      ((apply WQ_again (i + 1)); (focus exact h); (focus (omega)); (focus (repeat (first | exact FrIn.nil _ | (apply FrIn.cons; exact rfl; (first | exact rfl | (congr 1; first | omega | (dsimp only; omega)) | (simp; done)))))); (focus (repeat (first | exact SubO.nil _ | (apply SubO.cons; (focus (repeat' (first | exact Pick.head _ _ | apply Pick.tail))))))); (focus (repeat (first | exact AllE.nil _ | (apply AllE.cons; (focus (first | exact ent_nilBy | exact ent_nilSl | (apply Ent.mem; repeat' (first | exact mcs | apply mct)))))))))
  · obtain rfl : x = 256 := by omega
    repeat (first | refine n1 ?_ | refine n2 (fun b _ => ?_) | refine n3 (fun _ _ => ?_) | refine n4 ?_ | refine n5 ?_ | refine WL_nil ?_ | refine W_seq ?_ | refine W_region ?_ | refine n7 ?_ | refine n8 ?_ | refine W_block ?_ | refine W_skip ?_ | refine W_ret ?_ | refine W_exit ?_ | refine WQ_then ?_ | refine WQ_then_ret ?_ | refine WQ_then_exit ?_ | refine WQ_block_normal ?_ | refine WQ_block_ret ?_ | refine WQ_block_exit ?_ | refine n9 ?_)
    refine WL_runs rfl rfl rfl (R_loadN rfl (by repeat' (first | exact Pick.head _ _ | apply Pick.tail)) (by intro _; exact rfl) (by intro _; exact rfl) (takeN_full (tc32_length 256))) ?_
    refine WL_do rfl rfl (E_storeAll (us := tc32 256) rfl rfl (by repeat' (first | exact Pick.head _ _ | apply Pick.tail)) (tc32_one 256) (by intro _; rw [tc32_length]; exact rfl) rfl) ?_
    intro _ _
    repeat (first | refine n1 ?_ | refine n2 (fun b _ => ?_) | refine n3 (fun _ _ => ?_) | refine n4 ?_ | refine n5 ?_ | refine WL_nil ?_ | refine W_seq ?_ | refine W_region ?_ | refine n7 ?_ | refine n8 ?_ | refine W_block ?_ | refine W_skip ?_ | refine W_ret ?_ | refine W_exit ?_ | refine WQ_then ?_ | refine WQ_then_ret ?_ | refine WQ_then_exit ?_ | refine WQ_block_normal ?_ | refine WQ_block_ret ?_ | refine WQ_block_exit ?_ | refine n9 ?_)
    refine ret1 Tryd.results54 () trivial (RV_cellN rfl (by repeat' (first | exact Pick.head _ _ | apply Pick.tail)) (by intro _; exact rfl) (by intro _; exact rfl) (takeN_full (tc32_length 256))) rfl (by (repeat (first | exact SubO.nil _ | (apply SubO.cons; (focus (repeat' (first | exact Pick.head _ _ | apply Pick.tail))))))) (by (repeat (first | exact AllE.nil _ | (apply AllE.cons; (focus (first | exact ent_nilBy | exact ent_nilSl | (apply Ent.mem; repeat' (first | exact mcs | apply mct))))))))
theorem lt8 (r : BitVec 8) : r.toNat < 256 := r.isLt
theorem shl8 (r : BitVec 8) : IntKind.u8.wrap ((r.toNat : Int) * 2 ^ (min (1 : Int).toNat IntKind.u8.bits)) = ((r <<< 1).toNat : Int) := by
  have h := lt8 r
  rw [BitVec.toNat_shiftLeft, IntKind.wrap_u8]
  rw [show ((2 : Int) ^ (min (1 : Int).toNat IntKind.u8.bits)) = 2 from rfl, Nat.shiftLeft_eq]
  omega
theorem xor8 (r s : BitVec 8) : bits .xor .u8 (r.toNat : Int) (s.toNat : Int) = ((r ^^^ s).toNat : Int) := by
  rw [u8_xor_nat _ _ (lt8 r) (lt8 s), BitVec.toNat_xor]
theorem not8 (r : BitVec 8) : bits .xor .u8 (if IntKind.u8.signed then -1 else IntKind.u8.max) (r.toNat : Int) = ((~~~ r).toNat : Int) := by
  rw [BitVec.not_def]
  exact xor8 (BitVec.allOnes 8) r
theorem top8 (r : BitVec 8) : bits .and .u8 (r.toNat : Int) 128 = if r.msb then 128 else 0 := by
  have h := lt8 r
  rw [show (128 : Int) = ((128 : Nat) : Int) from rfl, u8_and_nat _ _ h (by decide)]
  have e : r.toNat &&& 128 = if r.msb then 128 else 0 := by
    apply Nat.eq_of_testBit_eq
    intro i
    rw [Nat.testBit_and, show (128 : Nat) = 2 ^ (8 - 1) from rfl, Nat.testBit_two_pow]
    by_cases h1 : 8 - 1 = i
    · subst h1
      rw [BitVec.msb_eq_getLsbD_last, BitVec.testBit_toNat]
      cases r.getLsbD (8 - 1)
      · simp
      · decide
    · simp only [h1, decide_false, Bool.and_false]
      cases r.msb
      · simp
      · have h2 : Nat.testBit (2 ^ (8 - 1)) i = decide (8 - 1 = i) := Nat.testBit_two_pow
        rw [decide_eq_false h1] at h2
        exact h2.symm
  rw [e]
  split <;> rfl

/-- the table's entry i. -/
def tb8 (i : Nat) : BitVec 8 := feed P8 (BitVec.ofNat 8 i <<< (8 - 8)) (List.replicate 8 false)
def tc8 (n : Nat) : List Value := (List.range 256).map fun j => .int .u8 (if j < n then ((tb8 j).toNat : Int) else 0)
theorem tc8_length (n : Nat) : (tc8 n).length = 256 := by simp [tc8]
theorem tc8_zero : tc8 0 = List.replicate 256 (.int .u8 0) := by
  apply List.ext_getElem
  · rw [tc8_length, List.length_replicate]
  · intro i h1 h2
    rw [List.getElem_replicate]
    simp only [tc8, List.getElem_map]
    rfl
theorem tc8_set (i : Nat) (h : i < 256) : (tc8 i).set i (.int .u8 ((tb8 i).toNat : Int)) = tc8 (i + 1) := by
  apply List.ext_getElem
  · simp [tc8]
  · intro j h1 h2
    rw [List.getElem_set]
    by_cases e : i = j
    · subst e
      simp [tc8]
    · rw [if_neg e]
      simp only [tc8, List.getElem_map, List.getElem_range]
      congr 1
      by_cases h3 : j < i
      · rw [if_pos h3, if_pos (by omega)]
      · rw [if_neg h3, if_neg (by omega)]
theorem tc8_one (n : Nat) : ∀ u ∈ tc8 n, u.oneCell' = true := by
  intro u hu
  obtain ⟨j, _, rfl⟩ := List.mem_map.1 hu
  rfl
theorem tc8_get (i : Nat) (h : i < 256) : (tc8 256)[i]? = some (.int .u8 ((tb8 i).toNat : Int)) := by
  simp [tc8, h]

set_option maxRecDepth 100000 in
theorem shift8 : CtD Tryd.prog 55 [.int .u8 128] [] (.int .i64 0) := by
  refine Ct_intro Tryd.func55 rfl Tryd.ntmps55 (by simp) _ rfl (fun w0 O0 => ?_)
  repeat (first | refine n1 ?_ | refine n2 (fun b _ => ?_) | refine n3 (fun _ _ => ?_) | refine n4 ?_ | refine n5 ?_ | refine WL_nil ?_ | refine W_seq ?_ | refine W_region ?_ | refine n7 ?_ | refine n8 ?_ | refine W_block ?_ | refine W_skip ?_ | refine W_ret ?_ | refine W_exit ?_ | refine WQ_then ?_ | refine WQ_then_ret ?_ | refine WQ_then_exit ?_ | refine WQ_block_normal ?_ | refine WQ_block_ret ?_ | refine WQ_block_exit ?_ | refine n9 ?_)
  ((apply W_loopK (X := Nat) [3, 4] [] (fun x => x ≤ 0) (fun x => [(3, .int .i64 (x : Int)), (4, .int .u8 ((128 / 2 ^ x : Nat) : Int))]) (fun _ => []) (fun _ => []) (fun x => 0 - x) (0)); (focus exact Nat.zero_le _); exact rfl; exact rfl; (intro _; exact rfl); (intro _; exact rfl); (intro _; exact rfl); (focus (repeat (first | exact FrIn.nil _ | (apply FrIn.cons; exact rfl; (first | exact rfl | (congr 1; first | omega | (dsimp only; omega)) | (simp; done)))))); (focus (repeat (first | exact SubO.nil _ | (apply SubO.cons; (focus (repeat' (first | exact Pick.head _ _ | apply Pick.tail))))))); (focus (repeat (first | exact AllE.nil _ | (apply AllE.cons; (focus (first | exact ent_nilBy | exact ent_nilSl | (apply Ent.mem; repeat' (first | exact mcs | apply mct)))))))); intro x hx)
  by_cases h : x < 0
  · have h1 : ∀ k : Fin 0, 128 < 128 / 2 ^ k.val := by decide
    have h2 : 128 < 128 / 2 ^ x := h1 ⟨x, h⟩
    repeat (first | refine n1 ?_ | refine n2 (fun b _ => ?_) | refine n3 (fun _ _ => ?_) | refine n4 ?_ | refine n5 ?_ | refine WL_nil ?_ | refine W_seq ?_ | refine W_region ?_ | refine n7 ?_ | refine n8 ?_ | refine W_block ?_ | refine W_skip ?_ | refine W_ret ?_ | refine W_exit ?_ | refine WQ_then ?_ | refine WQ_then_ret ?_ | refine WQ_then_exit ?_ | refine WQ_block_normal ?_ | refine WQ_block_ret ?_ | refine WQ_block_exit ?_ | refine n9 ?_)
    refine WL_runs rfl rfl rfl (R_shr (c := ((128 / 2 ^ (x + 1) : Nat) : Int)) rfl rfl (by omega) ?_) ?_
    · rw [Nat.pow_succ, ← Nat.div_div_eq_div_mul, show ((2 : Int) ^ (min (1 : Int).toNat IntKind.u8.bits)) = 2 from rfl, Int.fdiv_eq_ediv_of_nonneg _ (by decide)]
      omega
    repeat (first | refine n1 ?_ | refine n2 (fun b _ => ?_) | refine n3 (fun _ _ => ?_) | refine n4 ?_ | refine n5 ?_ | refine WL_nil ?_ | refine W_seq ?_ | refine W_region ?_ | refine n7 ?_ | refine n8 ?_ | refine W_block ?_ | refine W_skip ?_ | refine W_ret ?_ | refine W_exit ?_ | refine WQ_then ?_ | refine WQ_then_ret ?_ | refine WQ_then_exit ?_ | refine WQ_block_normal ?_ | refine WQ_block_ret ?_ | refine WQ_block_exit ?_ | refine n9 ?_)
    ((apply WQ_again (x + 1)); (focus exact h); (focus (omega)); (focus (repeat (first | exact FrIn.nil _ | (apply FrIn.cons; exact rfl; (first | exact rfl | (congr 1; first | omega | (dsimp only; omega)) | (simp; done)))))); (focus (repeat (first | exact SubO.nil _ | (apply SubO.cons; (focus (repeat' (first | exact Pick.head _ _ | apply Pick.tail))))))); (focus (repeat (first | exact AllE.nil _ | (apply AllE.cons; (focus (first | exact ent_nilBy | exact ent_nilSl | (apply Ent.mem; repeat' (first | exact mcs | apply mct)))))))))
  · obtain rfl : x = 0 := by omega
    have h2 : 128 / 2 ^ 0 = 128 := by decide
    repeat (first | refine n1 ?_ | refine n2 (fun b _ => ?_) | refine n3 (fun _ _ => ?_) | refine n4 ?_ | refine n5 ?_ | refine WL_nil ?_ | refine W_seq ?_ | refine W_region ?_ | refine n7 ?_ | refine n8 ?_ | refine W_block ?_ | refine W_skip ?_ | refine W_ret ?_ | refine W_exit ?_ | refine WQ_then ?_ | refine WQ_then_ret ?_ | refine WQ_then_exit ?_ | refine WQ_block_normal ?_ | refine WQ_block_ret ?_ | refine WQ_block_exit ?_ | refine n9 ?_)
    ((apply ret1 Tryd.results55 ( ())); (focus (first | trivial | assumption | omega)); (focus (first | exact RV_tmp rfl | (apply RV_cellN; exact rfl; (repeat' (first | exact Pick.head _ _ | apply Pick.tail)); (intro _; exact rfl); (intro _; exact rfl); exact rfl) | (apply RV_cell1; exact rfl; (repeat' (first | exact Pick.head _ _ | apply Pick.tail)); (intro _; exact rfl); exact rfl)));  (focus (first | exact rfl | (simp; done))); (focus (repeat (first | exact SubO.nil _ | (apply SubO.cons; (focus (repeat' (first | exact Pick.head _ _ | apply Pick.tail))))))); (focus (repeat (first | exact AllE.nil _ | (apply AllE.cons; (focus (first | exact ent_nilBy | exact ent_nilSl | (apply Ent.mem; repeat' (first | exact mcs | apply mct)))))))))

attribute [local irreducible] tc8
set_option maxRecDepth 100000 in
set_option maxHeartbeats 1000000 in
theorem table8 : CtD Tryd.prog 52 [.int .u8 97, .int .u8 128] [] (.agg (tc8 256).toArray) := by
  have hsf := shift8
  refine Ct_intro Tryd.func52 rfl Tryd.ntmps52 (by simp) _ rfl (fun w0 O0 => ?_)
  refine W_seq (W_region ?_)
  refine WL_effs rfl rfl rfl (E_alloc (cs := List.replicate 256 (.int .u8 0)) (by intro _; exact rfl) (by kernel_rfl)) ?_
  intro b _
  rw [← tc8_zero]
  repeat (first | refine n1 ?_ | refine n2 (fun b _ => ?_) | refine n3 (fun _ _ => ?_) | refine n4 ?_ | refine n5 ?_ | refine WL_nil ?_ | refine W_seq ?_ | refine W_region ?_ | refine n7 ?_ | refine n8 ?_ | refine W_block ?_ | refine W_skip ?_ | refine W_ret ?_ | refine W_exit ?_ | refine WQ_then ?_ | refine WQ_then_ret ?_ | refine WQ_then_exit ?_ | refine WQ_block_normal ?_ | refine WQ_block_ret ?_ | refine WQ_block_exit ?_ | refine n9 ?_)
  ((apply W_loopK (X := Nat) [8] [0] (fun x => x ≤ 256) (fun x => [(8, .int .i64 (x : Int))]) (fun x => [.blk b 105 (tc8 x)]) (fun _ => []) (fun x => 256 - x) (0)); (focus exact Nat.zero_le _); exact rfl; exact rfl; (intro _; exact rfl); (intro _; exact rfl); (intro _; exact rfl); (focus (repeat (first | exact FrIn.nil _ | (apply FrIn.cons; exact rfl; (first | exact rfl | (congr 1; first | omega | (dsimp only; omega)) | (simp; done)))))); (focus (repeat (first | exact SubO.nil _ | (apply SubO.cons; (focus (repeat' (first | exact Pick.head _ _ | apply Pick.tail))))))); (focus (repeat (first | exact AllE.nil _ | (apply AllE.cons; (focus (first | exact ent_nilBy | exact ent_nilSl | (apply Ent.mem; repeat' (first | exact mcs | apply mct)))))))); intro x hx)
  by_cases h : x < 256
  · obtain ⟨i, rfl⟩ : ∃ i, i = x := ⟨x, rfl⟩
    have e1 : ((i : Int) * 2 ^ (min (0 : Int).toNat IntKind.u8.bits)) = ((i * 2 ^ 0 : Nat) : Int) := by
      rw [show ((2 : Int) ^ (min (0 : Int).toNat IntKind.u8.bits)) = ((2 ^ 0 : Nat) : Int) from rfl, ← Int.natCast_mul]
    have e2 : IntKind.u8.wrap ((i : Int) * 2 ^ (min (0 : Int).toNat IntKind.u8.bits)) = ((BitVec.ofNat 8 i <<< (8 - 8)).toNat : Int) := by
      rw [e1, BitVec.toNat_shiftLeft, BitVec.toNat_ofNat, Nat.shiftLeft_eq, IntKind.wrap_u8, Nat.mod_eq_of_lt (by omega : i < 2 ^ 8)]
      show ((i * 2 ^ 0 : Nat) : Int) % 256 = ((i * 2 ^ 0 % 256 : Nat) : Int)
      omega
    repeat (first | refine n1 ?_ | refine n2 (fun b _ => ?_) | refine n3 (fun _ _ => ?_) | refine n4 ?_ | refine n5 ?_ | refine n6 (hsf) ?_ | refine n6v (hsf) ?_ | refine WL_nil ?_ | refine W_seq ?_ | refine W_region ?_ | refine n7 ?_ | refine n8 ?_ | refine W_block ?_ | refine W_skip ?_ | refine W_ret ?_ | refine W_exit ?_ | refine WQ_then ?_ | refine WQ_then_ret ?_ | refine WQ_then_exit ?_ | refine WQ_block_normal ?_ | refine WQ_block_ret ?_ | refine WQ_block_exit ?_ | refine n9 ?_)
    refine WL_runs rfl rfl rfl (R_shl rfl rfl (by decide) e2) ?_
    repeat (first | refine n1 ?_ | refine n2 (fun b _ => ?_) | refine n3 (fun _ _ => ?_) | refine n4 ?_ | refine n5 ?_ | refine WL_nil ?_ | refine W_seq ?_ | refine W_region ?_ | refine n7 ?_ | refine n8 ?_ | refine W_block ?_ | refine W_skip ?_ | refine W_ret ?_ | refine W_exit ?_ | refine WQ_then ?_ | refine WQ_then_ret ?_ | refine WQ_then_exit ?_ | refine WQ_block_normal ?_ | refine WQ_block_ret ?_ | refine WQ_block_exit ?_ | refine n9 ?_)
    ((apply W_loopK (X := Nat × BitVec 8) [16, 6] [] (fun y => y.1 ≤ 8 ∧ y.2 = feed P8 (BitVec.ofNat 8 i <<< (8 - 8)) (List.replicate y.1 false)) (fun y => [(16, .int .i64 (y.1 : Int)), (6, .int .u8 (y.2.toNat : Int))]) (fun _ => []) (fun _ => []) (fun y => 8 - y.1) ((0, BitVec.ofNat 8 i <<< (8 - 8)))); (focus exact ⟨by omega, rfl⟩); exact rfl; exact rfl; (intro _; exact rfl); (intro _; exact rfl); (intro _; exact rfl); (focus (repeat (first | exact FrIn.nil _ | (apply FrIn.cons; exact rfl; (first | exact rfl | (congr 1; first | omega | (dsimp only; omega)) | (simp; done)))))); (focus (repeat (first | exact SubO.nil _ | (apply SubO.cons; (focus (repeat' (first | exact Pick.head _ _ | apply Pick.tail))))))); (focus (repeat (first | exact AllE.nil _ | (apply AllE.cons; (focus (first | exact ent_nilBy | exact ent_nilSl | (apply Ent.mem; repeat' (first | exact mcs | apply mct)))))))); intro x hx)
    obtain ⟨n, r⟩ := x
    rename_i hi0
    obtain ⟨hn, hr⟩ := hx
    replace hn : n ≤ 8 := hn
    replace hr : r = feed P8 (BitVec.ofNat 8 i <<< (8 - 8)) (List.replicate n false) := hr
    by_cases h8 : n < 8
    · have hz : feed P8 (BitVec.ofNat 8 i <<< (8 - 8)) (List.replicate (n + 1) false) = zs P8 r := by
        rw [List.replicate_succ', feed_append, ← hr, feed_cons, feed_nil, stp, show tpb 8 false = 0#8 from rfl, BitVec.xor_zero]
      have ht := top8 r
      by_cases hm : r.msb = true
      · rw [if_pos hm] at ht
        have hz2 : zs P8 r = (r <<< 1) ^^^ P8 := by rw [zs, if_pos hm]
        repeat (first | refine n1 ?_ | refine n2 (fun b _ => ?_) | refine n3 (fun _ _ => ?_) | refine n4 ?_ | refine n5 ?_ | refine WL_nil ?_ | refine W_seq ?_ | refine W_region ?_ | refine n7 ?_ | refine n8 ?_ | refine W_block ?_ | refine W_skip ?_ | refine W_ret ?_ | refine W_exit ?_ | refine WQ_then ?_ | refine WQ_then_ret ?_ | refine WQ_then_exit ?_ | refine WQ_block_normal ?_ | refine WQ_block_ret ?_ | refine WQ_block_exit ?_ | refine n9 ?_)
        refine WL_runs rfl rfl rfl (R_and rfl rfl ht) ?_
        repeat (first | refine n1 ?_ | refine n2 (fun b _ => ?_) | refine n3 (fun _ _ => ?_) | refine n4 ?_ | refine n5 ?_ | refine WL_nil ?_ | refine W_seq ?_ | refine W_region ?_ | refine n7 ?_ | refine n8 ?_ | refine W_block ?_ | refine W_skip ?_ | refine W_ret ?_ | refine W_exit ?_ | refine WQ_then ?_ | refine WQ_then_ret ?_ | refine WQ_then_exit ?_ | refine WQ_block_normal ?_ | refine WQ_block_ret ?_ | refine WQ_block_exit ?_ | refine n9 ?_)
        refine WL_runs rfl rfl rfl (R_shl rfl rfl (by decide) (shl8 r)) ?_
        repeat (first | refine n1 ?_ | refine n2 (fun b _ => ?_) | refine n3 (fun _ _ => ?_) | refine n4 ?_ | refine n5 ?_ | refine WL_nil ?_ | refine W_seq ?_ | refine W_region ?_ | refine n7 ?_ | refine n8 ?_ | refine W_block ?_ | refine W_skip ?_ | refine W_ret ?_ | refine W_exit ?_ | refine WQ_then ?_ | refine WQ_then_ret ?_ | refine WQ_then_exit ?_ | refine WQ_block_normal ?_ | refine WQ_block_ret ?_ | refine WQ_block_exit ?_ | refine n9 ?_)
        refine WL_runs rfl rfl rfl (R_xor (b := ((P8).toNat : Int)) rfl rfl (xor8 (r <<< 1) P8)) ?_
        repeat (first | refine n1 ?_ | refine n2 (fun b _ => ?_) | refine n3 (fun _ _ => ?_) | refine n4 ?_ | refine n5 ?_ | refine WL_nil ?_ | refine W_seq ?_ | refine W_region ?_ | refine n7 ?_ | refine n8 ?_ | refine W_block ?_ | refine W_skip ?_ | refine W_ret ?_ | refine W_exit ?_ | refine WQ_then ?_ | refine WQ_then_ret ?_ | refine WQ_then_exit ?_ | refine WQ_block_normal ?_ | refine WQ_block_ret ?_ | refine WQ_block_exit ?_ | refine n9 ?_)
        ((apply WQ_again ((n + 1, r <<< 1 ^^^ P8))); (focus exact ⟨h8, by rw [hz, hz2]⟩); (focus (omega)); (focus (repeat (first | exact FrIn.nil _ | (apply FrIn.cons; exact rfl; (first | exact rfl | (congr 1; first | omega | (dsimp only; omega)) | (simp; done)))))); (focus (repeat (first | exact SubO.nil _ | (apply SubO.cons; (focus (repeat' (first | exact Pick.head _ _ | apply Pick.tail))))))); (focus (repeat (first | exact AllE.nil _ | (apply AllE.cons; (focus (first | exact ent_nilBy | exact ent_nilSl | (apply Ent.mem; repeat' (first | exact mcs | apply mct)))))))))
      · rw [if_neg hm] at ht
        have hz2 : zs P8 r = (r <<< 1) := by rw [zs, if_neg hm, BitVec.xor_zero]
        repeat (first | refine n1 ?_ | refine n2 (fun b _ => ?_) | refine n3 (fun _ _ => ?_) | refine n4 ?_ | refine n5 ?_ | refine WL_nil ?_ | refine W_seq ?_ | refine W_region ?_ | refine n7 ?_ | refine n8 ?_ | refine W_block ?_ | refine W_skip ?_ | refine W_ret ?_ | refine W_exit ?_ | refine WQ_then ?_ | refine WQ_then_ret ?_ | refine WQ_then_exit ?_ | refine WQ_block_normal ?_ | refine WQ_block_ret ?_ | refine WQ_block_exit ?_ | refine n9 ?_)
        refine WL_runs rfl rfl rfl (R_and rfl rfl ht) ?_
        repeat (first | refine n1 ?_ | refine n2 (fun b _ => ?_) | refine n3 (fun _ _ => ?_) | refine n4 ?_ | refine n5 ?_ | refine WL_nil ?_ | refine W_seq ?_ | refine W_region ?_ | refine n7 ?_ | refine n8 ?_ | refine W_block ?_ | refine W_skip ?_ | refine W_ret ?_ | refine W_exit ?_ | refine WQ_then ?_ | refine WQ_then_ret ?_ | refine WQ_then_exit ?_ | refine WQ_block_normal ?_ | refine WQ_block_ret ?_ | refine WQ_block_exit ?_ | refine n9 ?_)
        refine WL_runs rfl rfl rfl (R_shl rfl rfl (by decide) (shl8 r)) ?_
        repeat (first | refine n1 ?_ | refine n2 (fun b _ => ?_) | refine n3 (fun _ _ => ?_) | refine n4 ?_ | refine n5 ?_ | refine WL_nil ?_ | refine W_seq ?_ | refine W_region ?_ | refine n7 ?_ | refine n8 ?_ | refine W_block ?_ | refine W_skip ?_ | refine W_ret ?_ | refine W_exit ?_ | refine WQ_then ?_ | refine WQ_then_ret ?_ | refine WQ_then_exit ?_ | refine WQ_block_normal ?_ | refine WQ_block_ret ?_ | refine WQ_block_exit ?_ | refine n9 ?_)
        ((apply WQ_again ((n + 1, r <<< 1))); (focus exact ⟨h8, by rw [hz, hz2]⟩); (focus (omega)); (focus (repeat (first | exact FrIn.nil _ | (apply FrIn.cons; exact rfl; (first | exact rfl | (congr 1; first | omega | (dsimp only; omega)) | (simp; done)))))); (focus (repeat (first | exact SubO.nil _ | (apply SubO.cons; (focus (repeat' (first | exact Pick.head _ _ | apply Pick.tail))))))); (focus (repeat (first | exact AllE.nil _ | (apply AllE.cons; (focus (first | exact ent_nilBy | exact ent_nilSl | (apply Ent.mem; repeat' (first | exact mcs | apply mct)))))))))
    · obtain rfl : n = 8 := by omega
      replace hr : r = tb8 i := by rw [hr, tb8]
      subst hr
      repeat (first | refine n1 ?_ | refine n2 (fun b _ => ?_) | refine n3 (fun _ _ => ?_) | refine n4 ?_ | refine n5 ?_ | refine WL_nil ?_ | refine W_seq ?_ | refine W_region ?_ | refine n7 ?_ | refine n8 ?_ | refine W_block ?_ | refine W_skip ?_ | refine W_ret ?_ | refine W_exit ?_ | refine WQ_then ?_ | refine WQ_then_ret ?_ | refine WQ_then_exit ?_ | refine WQ_block_normal ?_ | refine WQ_block_ret ?_ | refine WQ_block_exit ?_ | refine n9 ?_)
      refine WL_do rfl rfl (E_storeAt rfl rfl (by repeat' (first | exact Pick.head _ _ | apply Pick.tail)) rfl (by intro _; exact rfl) (by rw [tc8_length]; exact h)) ?_
      intro _ _
      rw [tc8_set i h]
      repeat (first | refine n1 ?_ | refine n2 (fun b _ => ?_) | refine n3 (fun _ _ => ?_) | refine n4 ?_ | refine n5 ?_ | refine WL_nil ?_ | refine W_seq ?_ | refine W_region ?_ | refine n7 ?_ | refine n8 ?_ | refine W_block ?_ | refine W_skip ?_ | refine W_ret ?_ | refine W_exit ?_ | refine WQ_then ?_ | refine WQ_then_ret ?_ | refine WQ_then_exit ?_ | refine WQ_block_normal ?_ | refine WQ_block_ret ?_ | refine WQ_block_exit ?_ | refine n9 ?_)
      ((apply WQ_again (i + 1)); (focus exact h); (focus (omega)); (focus (repeat (first | exact FrIn.nil _ | (apply FrIn.cons; exact rfl; (first | exact rfl | (congr 1; first | omega | (dsimp only; omega)) | (simp; done)))))); (focus (repeat (first | exact SubO.nil _ | (apply SubO.cons; (focus (repeat' (first | exact Pick.head _ _ | apply Pick.tail))))))); (focus (repeat (first | exact AllE.nil _ | (apply AllE.cons; (focus (first | exact ent_nilBy | exact ent_nilSl | (apply Ent.mem; repeat' (first | exact mcs | apply mct)))))))))
  · obtain rfl : x = 256 := by omega
    repeat (first | refine n1 ?_ | refine n2 (fun b _ => ?_) | refine n3 (fun _ _ => ?_) | refine n4 ?_ | refine n5 ?_ | refine WL_nil ?_ | refine W_seq ?_ | refine W_region ?_ | refine n7 ?_ | refine n8 ?_ | refine W_block ?_ | refine W_skip ?_ | refine W_ret ?_ | refine W_exit ?_ | refine WQ_then ?_ | refine WQ_then_ret ?_ | refine WQ_then_exit ?_ | refine WQ_block_normal ?_ | refine WQ_block_ret ?_ | refine WQ_block_exit ?_ | refine n9 ?_)
    refine WL_runs rfl rfl rfl (R_loadN rfl (by repeat' (first | exact Pick.head _ _ | apply Pick.tail)) (by intro _; exact rfl) (by intro _; exact rfl) (takeN_full (tc8_length 256))) ?_
    refine WL_do rfl rfl (E_storeAll (us := tc8 256) rfl rfl (by repeat' (first | exact Pick.head _ _ | apply Pick.tail)) (tc8_one 256) (by intro _; rw [tc8_length]; exact rfl) rfl) ?_
    intro _ _
    repeat (first | refine n1 ?_ | refine n2 (fun b _ => ?_) | refine n3 (fun _ _ => ?_) | refine n4 ?_ | refine n5 ?_ | refine WL_nil ?_ | refine W_seq ?_ | refine W_region ?_ | refine n7 ?_ | refine n8 ?_ | refine W_block ?_ | refine W_skip ?_ | refine W_ret ?_ | refine W_exit ?_ | refine WQ_then ?_ | refine WQ_then_ret ?_ | refine WQ_then_exit ?_ | refine WQ_block_normal ?_ | refine WQ_block_ret ?_ | refine WQ_block_exit ?_ | refine n9 ?_)
    refine ret1 Tryd.results52 () trivial (RV_cellN rfl (by repeat' (first | exact Pick.head _ _ | apply Pick.tail)) (by intro _; exact rfl) (by intro _; exact rfl) (takeN_full (tc8_length 256))) rfl (by (repeat (first | exact SubO.nil _ | (apply SubO.cons; (focus (repeat' (first | exact Pick.head _ _ | apply Pick.tail))))))) (by (repeat (first | exact AllE.nil _ | (apply AllE.cons; (focus (first | exact ent_nilBy | exact ent_nilSl | (apply Ent.mem; repeat' (first | exact mcs | apply mct))))))))
end Go.Proofs.YteojehocflbgdaaDoor.C03
