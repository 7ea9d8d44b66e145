/-
  Bytes of headers: 'write'.
-/
import Derived.Test.YtbdcpahifcbcfaaVGe
import Derived.Test.YtbdcpahifcbcfaaXb
namespace Go.Proofs.Ytbdcpahifcbcfaa
open Go Go.RowKit Go.Hs
theorem leb2 (n : Nat) : C01.leB 2 n = [UInt8.ofNat n, UInt8.ofNat (n / 256)] := by simp [C01.leB, List.range_succ]
def bN (b : Bool) (n : Nat) : Nat := bif b then n else 0
def flB (h : Hd) (i : Nat) : Bool := [h.toDs, h.fromDs, h.more, h.retry, h.sleep, h.md, h.prot].getD i false
/-- the flags up to a place. -/
def flN (h : Hd) : Nat → Nat
  | 0 => 0
  | i + 1 => flN h i + bN (flB h i) (2 ^ i)
theorem flN_lt (h : Hd) : ∀ i, flN h i < 2 ^ i
  | 0 => by show 0 < 1; decide
  | i + 1 => by
    have := flN_lt h i
    show flN h i + bN (flB h i) (2 ^ i) < 2 ^ (i + 1)
    rw [Nat.pow_succ]
    cases flB h i
    · show flN h i + 0 < _; omega
    · show flN h i + 2 ^ i < _; omega
def adrI (h : Hd) : Nat → A6
  | 0 => h.a1
  | 1 => h.a2
  | 2 => h.a3
  | _ => h.a4
def adrB (h : Hd) (n : Nat) : List UInt8 := (List.range n).flatMap fun i => (adrI h i).bytes
theorem adrB_next (h : Hd) (n : Nat) : adrB h (n + 1) = adrB h n ++ (adrI h n).bytes := by
  unfold adrB
  rw [List.range_succ, List.flatMap_append]
  simp
theorem adrB_length (h : Hd) : ∀ n, (adrB h n).length = 6 * n
  | 0 => rfl
  | n + 1 => by rw [adrB_next, List.length_append, adrB_length h n]; rfl
def qN (h : Hd) : Nat := h.tid.toNat + bN h.eosp 16 + 32 * h.ack.toNat + bN h.amsdu 128
def frB (h : Hd) : List UInt8 := [UInt8.ofNat (4 * h.kind.toNat + 16 * h.sub.toNat), UInt8.ofNat (flN h 7)] ++ C01.leB 2 h.dur.toNat
def sqB (h : Hd) : List UInt8 := bif prtB h.kind then C01.leB 2 (h.frag.toNat + 16 * h.seq.toNat) else []
def a4B (h : Hd) : List UInt8 := bif fourB h then h.a4.bytes else []
def qsB (h : Hd) : List UInt8 := bif trafB h.kind h.sub then C01.leB 2 (qN h) else []
/-- the bytes of a header. -/
def hdY (h : Hd) : List UInt8 := frB h ++ adrB h (befN h) ++ sqB h ++ a4B h ++ qsB h
def hdS (h : Hd) : Nat := 4 + 6 * befN h + bN (prtB h.kind) 2 + bN (fourB h) 6 + bN (trafB h.kind h.sub) 2
theorem frB_length (h : Hd) : (frB h).length = 4 := rfl
theorem sqB_length (h : Hd) : (sqB h).length = bN (prtB h.kind) 2 := by unfold sqB bN; cases prtB h.kind <;> rfl
theorem a4B_length (h : Hd) : (a4B h).length = bN (fourB h) 6 := by unfold a4B bN; cases fourB h <;> rfl
theorem qsB_length (h : Hd) : (qsB h).length = bN (trafB h.kind h.sub) 2 := by unfold qsB bN; cases trafB h.kind h.sub <;> rfl
theorem hdY_length (h : Hd) : (hdY h).length = hdS h := by
  unfold hdY hdS
  rw [List.length_append, List.length_append, List.length_append, List.length_append, frB_length, adrB_length, sqB_length, a4B_length, qsB_length]
theorem hdS_le (h : Hd) : hdS h ≤ 34 := by
  unfold hdS
  have h1 : befN h ≤ 3 := by unfold befN; split; decide; split; decide; decide
  have h2 : ∀ b n, bN b n ≤ n := fun b n => by cases b; exact Nat.zero_le _; exact Nat.le_refl _
  have := h2 (prtB h.kind) 2
  have := h2 (fourB h) 6
  have := h2 (trafB h.kind h.sub) 2
  omega
theorem or_flag (x : Nat) (hx : x < 7) (f : Nat) (hf : f < 2 ^ x) : bits .or .u8 (f : Int) ((2 ^ x : Nat) : Int) = ((f + 2 ^ x : Nat) : Int) := by
  have h : ∀ x : Fin 7, ∀ f : Fin 128, f.val < 2 ^ x.val → bits .or .u8 (f.val : Int) ((2 ^ x.val : Nat) : Int) = ((f.val + 2 ^ x.val : Nat) : Int) := by decide +kernel
  have h7 : (2 : Nat) ^ x ≤ 2 ^ 7 := Nat.pow_le_pow_right (by decide) (by omega)
  exact h ⟨x, hx⟩ ⟨f, Nat.lt_of_lt_of_le hf h7⟩ hf
theorem shl_flag (x : Nat) (hx : x < 7) : IntKind.u8.wrap ((1 : Int) * 2 ^ (min (x : Int).toNat IntKind.u8.bits)) = ((2 ^ x : Nat) : Int) := by
  have h : ∀ x : Fin 7, IntKind.u8.wrap ((1 : Int) * 2 ^ (min (x.val : Int).toNat IntKind.u8.bits)) = ((2 ^ x.val : Nat) : Int) := by decide +kernel
  exact h ⟨x, hx⟩
theorem shl_kind (k : UInt8) (hk : k.toNat ≤ 2) : IntKind.u8.wrap ((k.toNat : Int) * 2 ^ (min (2 : Int).toNat IntKind.u8.bits)) = ((4 * k.toNat : Nat) : Int) := by
  have h : ∀ x : Fin 3, IntKind.u8.wrap ((x.val : Int) * 2 ^ (min (2 : Int).toNat IntKind.u8.bits)) = ((4 * x.val : Nat) : Int) := by decide +kernel
  exact h ⟨k.toNat, by omega⟩
theorem shl_sub (k : UInt8) (hk : k.toNat ≤ 15) : IntKind.u8.wrap ((k.toNat : Int) * 2 ^ (min (4 : Int).toNat IntKind.u8.bits)) = ((16 * k.toNat : Nat) : Int) := by
  have h : ∀ x : Fin 16, IntKind.u8.wrap ((x.val : Int) * 2 ^ (min (4 : Int).toNat IntKind.u8.bits)) = ((16 * x.val : Nat) : Int) := by decide +kernel
  exact h ⟨k.toNat, by omega⟩
theorem or_first (k s : Nat) (hk : k ≤ 2) (hs : s ≤ 15) : bits .or .u8 ((4 * k : Nat) : Int) ((16 * s : Nat) : Int) = (((UInt8.ofNat (4 * k + 16 * s)).toNat : Nat) : Int) := by
  have h : ∀ k : Fin 3, ∀ s : Fin 16, bits .or .u8 ((4 * k.val : Nat) : Int) ((16 * s.val : Nat) : Int) = (((UInt8.ofNat (4 * k.val + 16 * s.val)).toNat : Nat) : Int) := by decide +kernel
  exact h ⟨k, by omega⟩ ⟨s, by omega⟩
theorem shl_seq (s : Nat) (hs : s ≤ 4095) : IntKind.i64.wrap ((s : Int) * 2 ^ (min (4 : Int).toNat IntKind.i64.bits)) = ((s * 2 ^ 4 : Nat) : Int) := by
  have : (min (4 : Int).toNat IntKind.i64.bits) = 4 := rfl
  rw [this, wx_i64 (by omega)]
  omega
theorem or_seq (f s : Nat) (hf : f ≤ 15) (hs : s ≤ 4095) : bits .or .i64 (f : Int) ((s * 2 ^ 4 : Nat) : Int) = ((f + 16 * s : Nat) : Int) := by
  rw [i64_or_lo 4 f s (by omega) (by omega)]
  congr 1
  omega
theorem or_ack (t a : Nat) (ht : t ≤ 7) (ha : a ≤ 2) : bits .or .i64 (t : Int) ((a : Int) * 32) = ((t + 32 * a : Nat) : Int) := by
  have h : ∀ t : Fin 8, ∀ a : Fin 3, bits .or .i64 (t.val : Int) ((a.val : Int) * 32) = ((t.val + 32 * a.val : Nat) : Int) := by decide +kernel
  exact h ⟨t, by omega⟩ ⟨a, by omega⟩
theorem or_eosp (t a : Nat) (ht : t ≤ 7) (ha : a ≤ 2) : bits .or .i64 ((t + 32 * a : Nat) : Int) 16 = ((t + 16 + 32 * a : Nat) : Int) := by
  have h : ∀ t : Fin 8, ∀ a : Fin 3, bits .or .i64 ((t.val + 32 * a.val : Nat) : Int) 16 = ((t.val + 16 + 32 * a.val : Nat) : Int) := by decide +kernel
  exact h ⟨t, by omega⟩ ⟨a, by omega⟩
theorem or_ams (t a e : Nat) (ht : t ≤ 7) (ha : a ≤ 2) (he : e = 0 ∨ e = 16) : bits .or .i64 ((t + e + 32 * a : Nat) : Int) 128 = ((t + e + 32 * a + 128 : Nat) : Int) := by
  have h0 : ∀ t : Fin 8, ∀ a : Fin 3, bits .or .i64 ((t.val + 0 + 32 * a.val : Nat) : Int) 128 = ((t.val + 0 + 32 * a.val + 128 : Nat) : Int) := by decide +kernel
  have h1 : ∀ t : Fin 8, ∀ a : Fin 3, bits .or .i64 ((t.val + 16 + 32 * a.val : Nat) : Int) 128 = ((t.val + 16 + 32 * a.val + 128 : Nat) : Int) := by decide +kernel
  rcases he with rfl | rfl
  · exact h0 ⟨t, by omega⟩ ⟨a, by omega⟩
  · exact h1 ⟨t, by omega⟩ ⟨a, by omega⟩
theorem kn_small {h : Hd} (hk : knB h.kind h.sub = true) : h.kind.toNat ≤ 2 ∧ h.sub.toNat ≤ 13 := by
  unfold knB at hk
  by_cases k0 : h.kind.toNat = 0
  · rw [if_pos k0, decide_eq_true_eq] at hk; omega
  · rw [if_neg k0] at hk
    by_cases k1 : h.kind.toNat = 1
    · rw [if_pos k1, decide_eq_true_eq] at hk; omega
    · rw [if_neg k1] at hk
      by_cases k2 : h.kind.toNat = 2
      · rw [if_pos k2, decide_eq_true_eq] at hk; omega
      · rw [if_neg k2] at hk; cases hk
theorem hd_parts {h : Hd} (hv : hdB h = true) : knB h.kind h.sub = true ∧ restH h = h0_ ∧ rngB h = true ∧ gpsB h = true ∧ badB h = false := by
  unfold hdB at hv
  simp only [Bool.and_eq_true, decide_eq_true_eq, Bool.not_eq_true'] at hv
  exact ⟨hv.1, hv.2.1, hv.2.2.1, hv.2.2.2.1, hv.2.2.2.2⟩
/-- the goal stands at a block ahead of the rest. -/
theorem W_isSB {C : Ctx} {fr : Fr} {Γ : List OA} {Φ : List SP} {Q : Exit → Act → World → Prop} (id : Nat) {x : Code} (h : W C (.block id x) fr Γ Φ Q) : W C (.block id x) fr Γ Φ Q := h
theorem adr_cells (h : Hd) {x : Nat} (hx : x < 4) : (h.cells.drop (10 + 6 * x)).take 6 = (adrI h x).bytes.map bcell := by
  have : x = 0 ∨ x = 1 ∨ x = 2 ∨ x = 3 := by omega
  rcases this with rfl | rfl | rfl | rfl <;> rfl
theorem plc_get (b : Nat) {x : Nat} (hx : x < 4) : (plcC b)[0 + x]? = some (.pointer (some ⟨b, 10 + 6 * x, none⟩)) := by
  have : x = 0 ∨ x = 1 ∨ x = 2 ∨ x = 3 := by omega
  rcases this with rfl | rfl | rfl | rfl <;> rfl
theorem fl_get (h : Hd) {x : Nat} (hx : x < 7) : ([.bool h.toDs, .bool h.fromDs, .bool h.more, .bool h.retry, .bool h.sleep, .bool h.md, .bool h.prot] : List Value)[x]? = some (.bool (flB h x)) := by
  have : x = 0 ∨ x = 1 ∨ x = 2 ∨ x = 3 ∨ x = 4 ∨ x = 5 ∨ x = 6 := by omega
  rcases this with rfl | rfl | rfl | rfl | rfl | rfl | rfl <;> rfl
theorem bef3 (h : Hd) : befN h ≤ 3 := by unfold befN; split; decide; split; decide; decide
attribute [local irreducible] WL W WQ PL Runs Effs AllE Ent SubO FrIn Pick OneC Ones CellsE PartsE SeqE UZ By Sl Pt Ct

set_option maxRecDepth 100000 in
theorem put16_fn (r : Value) (n v : Nat) (bs : List UInt8) (hn : n = bs.length) (hb : n ≤ 1000000) (hv : v < 4611686018427387904) : Ct Try.prog 59 [r, .int .i64 (v : Int)] [.row r 5 1 n (bs.map bcell)] []
    (X := Value) (fun _ => True) (fun x => x) (fun x => [.row x 5 1 (n + 2) ((bs ++ C01.leB 2 v).map bcell)]) (fun _ => []) := by
  rw [leb2]
  have h8 := i64_shr8 v
  refine Ct_intro Try.func59 rfl Try.ntmps59 (by simp) _ rfl (fun w0 O0 => ?_)
  repeat (first | refine n1 ?_ | refine n2 (fun b _ => ?_) | refine n3 (fun _ _ => ?_) | refine n4 ?_ | refine n5 ?_ | refine WL_nil ?_ | refine W_seq ?_ | refine W_region ?_ | refine n7 ?_ | refine n8 ?_ | refine W_block ?_ | refine W_skip ?_ | refine W_ret ?_ | refine W_exit ?_ | refine WQ_then ?_ | refine WQ_then_ret ?_ | refine WQ_then_exit ?_ | refine WQ_block_normal ?_ | refine WQ_block_ret ?_ | refine WQ_block_exit ?_ | refine n9 ?_)
  refine WL_runs rfl rfl rfl (R_shr rfl rfl (by decide) h8) ?_
  repeat (first | refine n1 ?_ | refine n2 (fun b _ => ?_) | refine n3 (fun _ _ => ?_) | refine n4 ?_ | refine n5 ?_ | refine WL_nil ?_ | refine W_seq ?_ | refine W_region ?_ | refine n7 ?_ | refine n8 ?_ | refine W_block ?_ | refine W_skip ?_ | refine W_ret ?_ | refine W_exit ?_ | refine WQ_then ?_ | refine WQ_then_ret ?_ | refine WQ_then_exit ?_ | refine WQ_block_normal ?_ | refine WQ_block_ret ?_ | refine WQ_block_exit ?_ | refine n9 ?_)
  (apply WL_effs; exact rfl; exact rfl; exact rfl; (apply E_buildSlice; exact rfl; (focus (repeat (first | apply SeqE.nil | (apply SeqE.cons; exact rfl; (focus (first | (apply CellsE.lit; exact rfl) | (apply CellsE.one; (first | (apply OneC.lit; exact rfl) | (apply OneC.by_; (repeat' (first | exact mcs | apply mct)); done) | (apply OneC.sl; (repeat' (first | exact mcs | apply mct)); done) | (apply OneC.rw; (repeat' (first | exact mcs | apply mct)); done) | (apply OneC.row; (repeat' (first | exact Pick.head _ _ | apply Pick.tail))))))); exact rfl) | exact rfl))); exact rfl; (first | (intro _; exact (rfl : _ = Result.ok 1 _)) | (intro _; exact (rfl : _ = Result.ok 2 _)) | (intro _; exact (rfl : _ = Result.ok 3 _)) | (intro _; exact (rfl : _ = Result.ok 4 _)) | (intro _; exact (rfl : _ = Result.ok 5 _)) | (intro _; exact (rfl : _ = Result.ok 6 _)) | (intro _; exact (rfl : _ = Result.ok 7 _)) | (intro _; exact (rfl : _ = Result.ok 8 _)) | (intro _; exact (rfl : _ = Result.ok 9 _)) | (intro _; exact (rfl : _ = Result.ok 13 _)) | (intro _; exact (rfl : _ = Result.ok 14 _)) | (intro _; exact (rfl : _ = Result.ok 26 _)) | (intro _; exact (rfl : _ = Result.ok 40 _)) | (intro _; exact (rfl : _ = Result.ok 41 _)) | (intro _; exact (rfl : _ = Result.ok 42 _)) | (intro _; exact (rfl : _ = Result.ok 43 _)) | (intro _; exact (rfl : _ = Result.ok 44 _)) | (intro _; exact (rfl : _ = Result.ok 45 _)) | (intro _; exact (rfl : _ = Result.ok 46 _))); (intro _; exact rfl); exact rfl; exact Nat.le_of_ble_eq_true rfl; exact Nat.le_of_ble_eq_true rfl); skip)
  intro q _
  refine WL_effs rfl rfl rfl (E_appendRowB (bs := bs) (news := [UInt8.ofNat v, UInt8.ofNat (v / 256)]) (nm := n + 2) (all := bs ++ [UInt8.ofNat v, UInt8.ofNat (v / 256)]) rfl rfl (by repeat' (first | exact Pick.head _ _ | apply Pick.tail)) (by repeat' (first | exact Pick.head _ _ | apply Pick.tail)) rfl rfl rfl rfl rfl rfl rfl (Nat.le_of_ble_eq_true rfl) (by omega) rfl rfl) ?_
  intro q2 _
  repeat (first | refine n1 ?_ | refine n2 (fun b _ => ?_) | refine n3 (fun _ _ => ?_) | refine n4 ?_ | refine n5 ?_ | refine WL_nil ?_ | refine W_seq ?_ | refine W_region ?_ | refine n7 ?_ | refine n8 ?_ | refine W_block ?_ | refine W_skip ?_ | refine W_ret ?_ | refine W_exit ?_ | refine WQ_then ?_ | refine WQ_then_ret ?_ | refine WQ_then_exit ?_ | refine WQ_block_normal ?_ | refine WQ_block_ret ?_ | refine WQ_block_exit ?_ | refine n9 ?_)
  ((apply ret1 Try.results59 ( q2)); (focus (first | trivial | assumption | omega)); (focus (first | exact RV_tmp rfl | (apply RV_cellN; exact rfl; (repeat' (first | exact Pick.head _ _ | apply Pick.tail)); (intro _; exact rfl); (intro _; exact rfl); exact rfl) | (apply RV_cell1; exact rfl; (repeat' (first | exact Pick.head _ _ | apply Pick.tail)); (intro _; exact rfl); exact rfl)));  (focus (first | exact rfl | (simp; done))); (focus (repeat (first | exact SubO.nil _ | (apply SubO.cons; (focus (repeat' (first | exact Pick.head _ _ | apply Pick.tail))))))); (focus (repeat (first | exact AllE.nil _ | (apply AllE.cons; (focus (first | exact ent_nilBy | exact ent_nilSl | (apply Ent.mem; repeat' (first | exact mcs | apply mct)))))))))
set_option maxRecDepth 100000 in
set_option maxHeartbeats 16000000 in
theorem write_fn (h : Hd) (hv : hdB h = true) : Ct Try.prog 45 [h.val] [] []
    (X := Value) (fun _ => True) (fun x => x) (fun x => [.row x 5 1 (hdS h) ((hdY h).map bcell)]) (fun _ => []) := by
  obtain ⟨hk, _, hrg, _, _⟩ := hd_parts hv
  obtain ⟨hkl, hsl⟩ := kn_small hk
  obtain ⟨r1, r2, r3, r4, r5, r6, r7, r8, r9⟩ := rng_iff.1 hrg
  have hkf := known_fn h.kind h.sub
  rw [hk] at hkf
  obtain ⟨dd, hdd⟩ : ∃ d : Nat, h.dur = (d : Int) := ⟨h.dur.toNat, (Int.toNat_of_nonneg r1).symm⟩
  obtain ⟨sq, hsq⟩ : ∃ d : Nat, h.seq = (d : Int) := ⟨h.seq.toNat, (Int.toNat_of_nonneg r3).symm⟩
  obtain ⟨fg, hfg⟩ : ∃ d : Nat, h.frag = (d : Int) := ⟨h.frag.toNat, (Int.toNat_of_nonneg r5).symm⟩
  obtain ⟨td, htd⟩ : ∃ d : Nat, h.tid = (d : Int) := ⟨h.tid.toNat, (Int.toNat_of_nonneg r7).symm⟩
  refine Ct_intro Try.func45 rfl Try.ntmps45 (by simp) _ rfl (fun w0 O0 => ?_)
  (first | refine n1 ?_ | refine n2 (fun b _ => ?_) | refine n3 (fun _ _ => ?_) | refine n4 ?_ | refine n5 ?_ | refine WL_nil ?_ | refine W_seq ?_ | refine W_region ?_ | refine n7 ?_ | refine n8 ?_ | refine W_block ?_ | refine W_skip ?_ | refine W_ret ?_ | refine W_exit ?_ | refine WQ_then ?_ | refine WQ_then_ret ?_ | refine WQ_then_exit ?_ | refine WQ_block_normal ?_ | refine WQ_block_ret ?_ | refine WQ_block_exit ?_ | refine n9 ?_)
  (first | refine n1 ?_ | refine n2 (fun b _ => ?_) | refine n3 (fun _ _ => ?_) | refine n4 ?_ | refine n5 ?_ | refine WL_nil ?_ | refine W_seq ?_ | refine W_region ?_ | refine n7 ?_ | refine n8 ?_ | refine W_block ?_ | refine W_skip ?_ | refine W_ret ?_ | refine W_exit ?_ | refine WQ_then ?_ | refine WQ_then_ret ?_ | refine WQ_then_exit ?_ | refine WQ_block_normal ?_ | refine WQ_block_ret ?_ | refine WQ_block_exit ?_ | refine n9 ?_)
  (first | refine n1 ?_ | refine n2 (fun b _ => ?_) | refine n3 (fun _ _ => ?_) | refine n4 ?_ | refine n5 ?_ | refine WL_nil ?_ | refine W_seq ?_ | refine W_region ?_ | refine n7 ?_ | refine n8 ?_ | refine W_block ?_ | refine W_skip ?_ | refine W_ret ?_ | refine W_exit ?_ | refine WQ_then ?_ | refine WQ_then_ret ?_ | refine WQ_then_exit ?_ | refine WQ_block_normal ?_ | refine WQ_block_ret ?_ | refine WQ_block_exit ?_ | refine n9 ?_)
  obtain ⟨b1, rfl⟩ : ∃ b1, b1 = b := ⟨b, rfl⟩
  repeat (first | refine n1 ?_ | refine n2 (fun b _ => ?_) | refine n3 (fun _ _ => ?_) | refine n4 ?_ | refine n5 ?_ | refine n6 (hkf) ?_ | refine n6v (hkf) ?_ | refine WL_nil ?_ | refine W_seq ?_ | refine W_region ?_ | refine n7 ?_ | refine n8 ?_ | refine W_block ?_ | refine W_skip ?_ | refine W_ret ?_ | refine W_exit ?_ | refine WQ_then ?_ | refine WQ_then_ret ?_ | refine WQ_then_exit ?_ | refine WQ_block_normal ?_ | refine WQ_block_ret ?_ | refine WQ_block_exit ?_ | refine n9 ?_)
  (apply WL_effs; exact rfl; exact rfl; exact rfl; (apply E_buildSlice; exact rfl; (focus (repeat (first | apply SeqE.nil | (apply SeqE.cons; exact rfl; (focus (first | (apply CellsE.lit; exact rfl) | (apply CellsE.one; (first | (apply OneC.lit; exact rfl) | (apply OneC.by_; (repeat' (first | exact mcs | apply mct)); done) | (apply OneC.sl; (repeat' (first | exact mcs | apply mct)); done) | (apply OneC.rw; (repeat' (first | exact mcs | apply mct)); done) | (apply OneC.row; (repeat' (first | exact Pick.head _ _ | apply Pick.tail))))))); exact rfl) | exact rfl))); exact rfl; (first | (intro _; exact (rfl : _ = Result.ok 1 _)) | (intro _; exact (rfl : _ = Result.ok 2 _)) | (intro _; exact (rfl : _ = Result.ok 3 _)) | (intro _; exact (rfl : _ = Result.ok 4 _)) | (intro _; exact (rfl : _ = Result.ok 5 _)) | (intro _; exact (rfl : _ = Result.ok 6 _)) | (intro _; exact (rfl : _ = Result.ok 7 _)) | (intro _; exact (rfl : _ = Result.ok 8 _)) | (intro _; exact (rfl : _ = Result.ok 9 _)) | (intro _; exact (rfl : _ = Result.ok 13 _)) | (intro _; exact (rfl : _ = Result.ok 14 _)) | (intro _; exact (rfl : _ = Result.ok 26 _)) | (intro _; exact (rfl : _ = Result.ok 40 _)) | (intro _; exact (rfl : _ = Result.ok 41 _)) | (intro _; exact (rfl : _ = Result.ok 42 _)) | (intro _; exact (rfl : _ = Result.ok 43 _)) | (intro _; exact (rfl : _ = Result.ok 44 _)) | (intro _; exact (rfl : _ = Result.ok 45 _)) | (intro _; exact (rfl : _ = Result.ok 46 _))); (intro _; exact rfl); exact rfl; exact Nat.le_of_ble_eq_true rfl; exact Nat.le_of_ble_eq_true rfl); skip)
  intro qf _
  repeat (first | refine n1 ?_ | refine n2 (fun b _ => ?_) | refine n3 (fun _ _ => ?_) | refine n4 ?_ | refine n5 ?_ | refine WL_nil ?_ | refine W_seq ?_ | refine W_region ?_ | refine n7 ?_ | refine n8 ?_ | refine W_block ?_ | refine W_skip ?_ | refine W_ret ?_ | refine W_exit ?_ | refine WQ_then ?_ | refine WQ_then_ret ?_ | refine WQ_then_exit ?_ | refine WQ_block_normal ?_ | refine WQ_block_ret ?_ | refine WQ_block_exit ?_ | refine n9 ?_)
  refine W_letgoK (b := b1) (by repeat' (first | exact Pick.head _ _ | apply Pick.tail)) ?_
  obtain ⟨b3, rfl⟩ : ∃ b3, b3 = b := ⟨b, rfl⟩
  ((apply W_loopK (X := Nat) [5, 40] [] (fun x => x ≤ 7) (fun x => [(5, .int .u8 (flN h x : Int)), (40, .int .i64 (x : Int))]) (fun _ => []) (fun _ => []) (fun x => 7 - x) (0)); (focus exact Nat.zero_le _); exact rfl; exact rfl; (intro _; exact rfl); (intro _; exact rfl); (intro _; exact rfl); (focus (repeat (first | exact FrIn.nil _ | (apply FrIn.cons; exact rfl; (first | exact rfl | (congr 1; first | omega | (dsimp only; omega)) | (simp; done)))))); (focus (repeat (first | exact SubO.nil _ | (apply SubO.cons; (focus (repeat' (first | exact Pick.head _ _ | apply Pick.tail))))))); (focus (repeat (first | exact AllE.nil _ | (apply AllE.cons; (focus (first | exact ent_nilBy | exact ent_nilSl | (apply Ent.mem; repeat' (first | exact mcs | apply mct)))))))); intro x hx)
  by_cases c1 : x < 7
  · have hfg' := fl_get h c1
    have hfn : flN h (x + 1) = flN h x + bN (flB h x) (2 ^ x) := rfl
    have hsh := shl_flag x c1
    have hor := or_flag x c1 (flN h x) (flN_lt h x)
    generalize flB h x = fb at *
    cases fb with
    | false =>
      have hfn : flN h (x + 1) = flN h x := hfn
      repeat (first | refine n1 ?_ | refine n2 (fun b _ => ?_) | refine n3 (fun _ _ => ?_) | refine n4 ?_ | refine n5 ?_ | refine WL_nil ?_ | refine W_seq ?_ | refine W_region ?_ | refine n7 ?_ | refine n8 ?_ | refine W_block ?_ | refine W_skip ?_ | refine W_ret ?_ | refine W_exit ?_ | refine WQ_then ?_ | refine WQ_then_ret ?_ | refine WQ_then_exit ?_ | refine WQ_block_normal ?_ | refine WQ_block_ret ?_ | refine WQ_block_exit ?_ | refine n9 ?_)
      rw [← hfn]
      ((apply WQ_again (x + 1)); (focus exact c1); (focus (omega)); (focus (repeat (first | exact FrIn.nil _ | (apply FrIn.cons; exact rfl; (first | exact rfl | (congr 1; first | omega | (dsimp only; omega)) | (simp; done)))))); (focus (repeat (first | exact SubO.nil _ | (apply SubO.cons; (focus (repeat' (first | exact Pick.head _ _ | apply Pick.tail))))))); (focus (repeat (first | exact AllE.nil _ | (apply AllE.cons; (focus (first | exact ent_nilBy | exact ent_nilSl | (apply Ent.mem; repeat' (first | exact mcs | apply mct)))))))))
    | true =>
      have hfn : flN h (x + 1) = flN h x + 2 ^ x := hfn
      repeat (first | refine n1 ?_ | refine n2 (fun b _ => ?_) | refine n3 (fun _ _ => ?_) | refine n4 ?_ | refine n5 ?_ | refine WL_nil ?_ | refine W_seq ?_ | refine W_region ?_ | refine n7 ?_ | refine n8 ?_ | refine W_block ?_ | refine W_skip ?_ | refine W_ret ?_ | refine W_exit ?_ | refine WQ_then ?_ | refine WQ_then_ret ?_ | refine WQ_then_exit ?_ | refine WQ_block_normal ?_ | refine WQ_block_ret ?_ | refine WQ_block_exit ?_ | refine n9 ?_)
      refine WL_runs rfl rfl rfl (R_shl rfl rfl (by omega) hsh) ?_
      refine WL_runs rfl rfl rfl (R_or rfl rfl hor) ?_
      repeat (first | refine n1 ?_ | refine n2 (fun b _ => ?_) | refine n3 (fun _ _ => ?_) | refine n4 ?_ | refine n5 ?_ | refine WL_nil ?_ | refine W_seq ?_ | refine W_region ?_ | refine n7 ?_ | refine n8 ?_ | refine W_block ?_ | refine W_skip ?_ | refine W_ret ?_ | refine W_exit ?_ | refine WQ_then ?_ | refine WQ_then_ret ?_ | refine WQ_then_exit ?_ | refine WQ_block_normal ?_ | refine WQ_block_ret ?_ | refine WQ_block_exit ?_ | refine n9 ?_)
      rw [← hfn]
      ((apply WQ_again (x + 1)); (focus exact c1); (focus (omega)); (focus (repeat (first | exact FrIn.nil _ | (apply FrIn.cons; exact rfl; (first | exact rfl | (congr 1; first | omega | (dsimp only; omega)) | (simp; done)))))); (focus (repeat (first | exact SubO.nil _ | (apply SubO.cons; (focus (repeat' (first | exact Pick.head _ _ | apply Pick.tail))))))); (focus (repeat (first | exact AllE.nil _ | (apply AllE.cons; (focus (first | exact ent_nilBy | exact ent_nilSl | (apply Ent.mem; repeat' (first | exact mcs | apply mct)))))))))
  · obtain rfl : x = 7 := by omega
    have hf7 := flN_lt h 7
    have e7 : Value.int .u8 (flN h 7 : Int) = bcell (UInt8.ofNat (flN h 7)) := by
      show _ = Value.int .u8 ((UInt8.ofNat (flN h 7)).toNat : Int)
      rw [UInt8.toNat_ofNat', Nat.mod_eq_of_lt (by omega)]
    rw [e7]
    repeat (first | refine n1 ?_ | refine n2 (fun b _ => ?_) | refine n3 (fun _ _ => ?_) | refine n4 ?_ | refine n5 ?_ | refine WL_nil ?_ | refine W_seq ?_ | refine W_region ?_ | refine n7 ?_ | refine n8 ?_ | refine W_block ?_ | refine W_skip ?_ | refine W_ret ?_ | refine W_exit ?_ | refine WQ_then ?_ | refine WQ_then_ret ?_ | refine WQ_then_exit ?_ | refine WQ_block_normal ?_ | refine WQ_block_ret ?_ | refine WQ_block_exit ?_ | refine n9 ?_)
    refine WL_runs rfl rfl rfl (R_shl rfl rfl (by omega) (shl_kind h.kind hkl)) ?_
    repeat (first | refine n1 ?_ | refine n2 (fun b _ => ?_) | refine n3 (fun _ _ => ?_) | refine n4 ?_ | refine n5 ?_ | refine WL_nil ?_ | refine W_seq ?_ | refine W_region ?_ | refine n7 ?_ | refine n8 ?_ | refine W_block ?_ | refine W_skip ?_ | refine W_ret ?_ | refine W_exit ?_ | refine WQ_then ?_ | refine WQ_then_ret ?_ | refine WQ_then_exit ?_ | refine WQ_block_normal ?_ | refine WQ_block_ret ?_ | refine WQ_block_exit ?_ | refine n9 ?_)
    refine WL_runs rfl rfl rfl (R_shl rfl rfl (by omega) (shl_sub h.sub (by omega))) ?_
    refine WL_runs rfl rfl rfl (R_or rfl rfl (or_first h.kind.toNat h.sub.toNat hkl (by omega))) ?_
    repeat (first | refine n1 ?_ | refine n2 (fun b _ => ?_) | refine n3 (fun _ _ => ?_) | refine n4 ?_ | refine n5 ?_ | refine WL_nil ?_ | refine W_seq ?_ | refine W_region ?_ | refine n7 ?_ | refine n8 ?_ | refine W_block ?_ | refine W_skip ?_ | refine W_ret ?_ | refine W_exit ?_ | refine WQ_then ?_ | refine WQ_then_ret ?_ | refine WQ_then_exit ?_ | refine WQ_block_normal ?_ | refine WQ_block_ret ?_ | refine WQ_block_exit ?_ | refine n9 ?_)
    (apply WL_effs; exact rfl; exact rfl; exact rfl; (apply E_buildSlice; exact rfl; (focus (repeat (first | apply SeqE.nil | (apply SeqE.cons; exact rfl; (focus (first | (apply CellsE.lit; exact rfl) | (apply CellsE.one; (first | (apply OneC.lit; exact rfl) | (apply OneC.by_; (repeat' (first | exact mcs | apply mct)); done) | (apply OneC.sl; (repeat' (first | exact mcs | apply mct)); done) | (apply OneC.rw; (repeat' (first | exact mcs | apply mct)); done) | (apply OneC.row; (repeat' (first | exact Pick.head _ _ | apply Pick.tail))))))); exact rfl) | exact rfl))); exact rfl; (first | (intro _; exact (rfl : _ = Result.ok 1 _)) | (intro _; exact (rfl : _ = Result.ok 2 _)) | (intro _; exact (rfl : _ = Result.ok 3 _)) | (intro _; exact (rfl : _ = Result.ok 4 _)) | (intro _; exact (rfl : _ = Result.ok 5 _)) | (intro _; exact (rfl : _ = Result.ok 6 _)) | (intro _; exact (rfl : _ = Result.ok 7 _)) | (intro _; exact (rfl : _ = Result.ok 8 _)) | (intro _; exact (rfl : _ = Result.ok 9 _)) | (intro _; exact (rfl : _ = Result.ok 13 _)) | (intro _; exact (rfl : _ = Result.ok 14 _)) | (intro _; exact (rfl : _ = Result.ok 26 _)) | (intro _; exact (rfl : _ = Result.ok 40 _)) | (intro _; exact (rfl : _ = Result.ok 41 _)) | (intro _; exact (rfl : _ = Result.ok 42 _)) | (intro _; exact (rfl : _ = Result.ok 43 _)) | (intro _; exact (rfl : _ = Result.ok 44 _)) | (intro _; exact (rfl : _ = Result.ok 45 _)) | (intro _; exact (rfl : _ = Result.ok 46 _))); (intro _; exact rfl); exact rfl; exact Nat.le_of_ble_eq_true rfl; exact Nat.le_of_ble_eq_true rfl); skip)
    intro q _
    repeat (first | refine n1 ?_ | refine n2 (fun b _ => ?_) | refine n3 (fun _ _ => ?_) | refine n4 ?_ | refine n5 ?_ | refine WL_nil ?_ | refine W_seq ?_ | refine W_region ?_ | refine n7 ?_ | refine n8 ?_ | refine W_block ?_ | refine W_skip ?_ | refine W_ret ?_ | refine W_exit ?_ | refine WQ_then ?_ | refine WQ_then_ret ?_ | refine WQ_then_exit ?_ | refine WQ_block_normal ?_ | refine WQ_block_ret ?_ | refine WQ_block_exit ?_ | refine n9 ?_)
    have hp := put16_fn q 2 dd [UInt8.ofNat (4 * h.kind.toNat + 16 * h.sub.toNat), UInt8.ofNat (flN h 7)] rfl (by omega) (by omega)
    rw [← hdd] at hp
    have hfr : [UInt8.ofNat (4 * h.kind.toNat + 16 * h.sub.toNat), UInt8.ofNat (flN h 7)] ++ C01.leB 2 dd = frB h := by unfold frB; rw [hdd]; rfl
    rw [hfr] at hp
    (apply WL_effs; exact rfl; exact rfl; exact rfl; apply E_callO; exact rfl; (intro _ _; simp); exact hp; (first | (apply perm1; (focus (repeat' (first | exact Pick.head _ _ | apply Pick.tail)))) | (apply perm2; (focus (repeat' (first | exact Pick.head _ _ | apply Pick.tail))); (focus (repeat' (first | exact Pick.head _ _ | apply Pick.tail)))) | (apply perm3; (focus (repeat' (first | exact Pick.head _ _ | apply Pick.tail))); (focus (repeat' (first | exact Pick.head _ _ | apply Pick.tail))); (focus (repeat' (first | exact Pick.head _ _ | apply Pick.tail))))); (repeat (first | exact AllE.nil _ | (apply AllE.cons; (focus (first | exact ent_nilBy | exact ent_nilSl | (apply Ent.mem; repeat' (first | exact mcs | apply mct))))))); (intro _; exact rfl); (intro _; exact rfl))
    intro o _
    repeat (first | refine n1 ?_ | refine n2 (fun b _ => ?_) | refine n3 (fun _ _ => ?_) | refine n4 ?_ | refine n5 ?_ | refine WL_nil ?_ | refine W_seq ?_ | refine W_region ?_ | refine n7 ?_ | refine n8 ?_ | refine W_block ?_ | refine W_skip ?_ | refine W_ret ?_ | refine W_exit ?_ | refine WQ_then ?_ | refine WQ_then_ret ?_ | refine WQ_then_exit ?_ | refine WQ_block_normal ?_ | refine WQ_block_ret ?_ | refine WQ_block_exit ?_ | refine n9 ?_)
    (apply WL_effs; exact rfl; exact rfl; exact rfl; apply E_call; exact rfl; (intro _ _; simp); exact places_fn b1 h; (repeat (first | exact AllE.nil _ | (apply AllE.cons; (focus (first | exact ent_nilBy | exact ent_nilSl | (apply Ent.mem; repeat' (first | exact mcs | apply mct))))))); (intro _; exact rfl); (intro _; exact rfl))
    intro b2 _
    repeat (first | refine n1 ?_ | refine n2 (fun b _ => ?_) | refine n3 (fun _ _ => ?_) | refine n4 ?_ | refine n5 ?_ | refine WL_nil ?_ | refine W_seq ?_ | refine W_region ?_ | refine n7 ?_ | refine n8 ?_ | refine W_block ?_ | refine W_skip ?_ | refine W_ret ?_ | refine W_exit ?_ | refine WQ_then ?_ | refine WQ_then_ret ?_ | refine WQ_then_exit ?_ | refine WQ_block_normal ?_ | refine WQ_block_ret ?_ | refine WQ_block_exit ?_ | refine n9 ?_)
    have hb3 := bef3 h
    ((apply W_loopK (X := Nat × Value) [8, 69] [1] (fun x => x.1 ≤ befN h) (fun x => [(8, x.2), (69, .int .i64 (x.1 : Int))]) (fun x => [.row x.2 5 1 (4 + 6 * x.1) ((frB h ++ adrB h x.1).map bcell)]) (fun _ => []) (fun x => befN h - x.1) ((0, o))); (focus exact Nat.zero_le _); exact rfl; exact rfl; (intro _; exact rfl); (intro _; exact rfl); (intro _; exact rfl); (focus (repeat (first | exact FrIn.nil _ | (apply FrIn.cons; exact rfl; (first | exact rfl | (congr 1; first | omega | (dsimp only; omega)) | (simp; done)))))); (focus (repeat (first | exact SubO.nil _ | (apply SubO.cons; (focus (repeat' (first | exact Pick.head _ _ | apply Pick.tail))))))); (focus (repeat (first | exact AllE.nil _ | (apply AllE.cons; (focus (first | exact ent_nilBy | exact ent_nilSl | (apply Ent.mem; repeat' (first | exact mcs | apply mct)))))))); intro x hx)
    obtain ⟨x, o2⟩ := x
    replace hx : x ≤ befN h := hx
    dsimp only
    by_cases d1 : x < befN h
    · have hac := adr_cells h (show x < 4 by omega)
      have hpc := plc_get b1 (show x < 4 by omega)
      have hnx := adrB_next h x
      repeat (first | refine n1 ?_ | refine n2 (fun b _ => ?_) | refine n3 (fun _ _ => ?_) | refine n4 ?_ | refine n5 ?_ | refine WL_nil ?_ | refine W_seq ?_ | refine W_region ?_ | refine n7 ?_ | refine n8 ?_ | refine W_block ?_ | refine W_skip ?_ | refine W_ret ?_ | refine W_exit ?_ | refine WQ_then ?_ | refine WQ_then_ret ?_ | refine WQ_then_exit ?_ | refine WQ_block_normal ?_ | refine WQ_block_ret ?_ | refine WQ_block_exit ?_ | refine n9 ?_)
      refine WL_runs rfl rfl rfl (R_idxLit (i := x) rfl rfl rfl (by intro _; exact rfl) rfl d1) ?_
      refine WL_runs rfl rfl rfl (R_load1 rfl (by repeat' (first | exact Pick.head _ _ | apply Pick.tail)) (by intro _; exact rfl) hpc) ?_
      repeat (first | refine n1 ?_ | refine n2 (fun b _ => ?_) | refine n3 (fun _ _ => ?_) | refine n4 ?_ | refine n5 ?_ | refine WL_nil ?_ | refine W_seq ?_ | refine W_region ?_ | refine n7 ?_ | refine n8 ?_ | refine W_block ?_ | refine W_skip ?_ | refine W_ret ?_ | refine W_exit ?_ | refine WQ_then ?_ | refine WQ_then_ret ?_ | refine WQ_then_exit ?_ | refine WQ_block_normal ?_ | refine WQ_block_ret ?_ | refine WQ_block_exit ?_ | refine n9 ?_)
      refine WL_ent (ent_ptByO (b := b1) (off := 10 + 6 * x) (n := 6) (xs := h.cells) (bs := (adrI h x).bytes) (by repeat' (first | exact mcs | apply mct)) hac rfl (by decide) (by decide)) ?_
      refine WL_effs rfl rfl rfl (E_appendBy (bs := frB h ++ adrB h x) (news := (adrI h x).bytes) (nm := 4 + 6 * (x + 1)) (all := frB h ++ adrB h (x + 1)) rfl rfl (by repeat' (first | exact Pick.head _ _ | apply Pick.tail)) (by repeat' (first | exact mcs | apply mct)) rfl rfl rfl rfl rfl rfl (Nat.le_of_ble_eq_true rfl) (show 4 + 6 * x + 6 ≤ 1099511627776 by omega) (show 4 + 6 * x + 6 = 4 + 6 * (x + 1) by omega) (by rw [hnx, List.append_assoc])) ?_
      intro o3 _
      repeat (first | refine n1 ?_ | refine n2 (fun b _ => ?_) | refine n3 (fun _ _ => ?_) | refine n4 ?_ | refine n5 ?_ | refine WL_nil ?_ | refine W_seq ?_ | refine W_region ?_ | refine n7 ?_ | refine n8 ?_ | refine W_block ?_ | refine W_skip ?_ | refine W_ret ?_ | refine W_exit ?_ | refine WQ_then ?_ | refine WQ_then_ret ?_ | refine WQ_then_exit ?_ | refine WQ_block_normal ?_ | refine WQ_block_ret ?_ | refine WQ_block_exit ?_ | refine n9 ?_)
      ((apply WQ_again ((x + 1, o3))); (focus exact d1); (focus (exact (show befN h - (x + 1) < befN h - x by omega))); (focus (repeat (first | exact FrIn.nil _ | (apply FrIn.cons; exact rfl; (first | exact rfl | (congr 1; first | omega | (dsimp only; omega)) | (simp; done)))))); (focus (repeat (first | exact SubO.nil _ | (apply SubO.cons; (focus (repeat' (first | exact Pick.head _ _ | apply Pick.tail))))))); (focus (repeat (first | exact AllE.nil _ | (apply AllE.cons; (focus (first | exact ent_nilBy | exact ent_nilSl | (apply Ent.mem; repeat' (first | exact mcs | apply mct)))))))))
    · obtain rfl : x = befN h := by omega
      repeat ((fail_if_success apply W_isIf); (first | refine n1 ?_ | refine n2 (fun b _ => ?_) | refine n3 (fun _ _ => ?_) | refine n4 ?_ | refine n5 ?_ | refine WL_nil ?_ | refine W_seq ?_ | refine W_region ?_ | refine n7 ?_ | refine n8 ?_ | refine W_block ?_ | refine W_skip ?_ | refine W_ret ?_ | refine W_exit ?_ | refine WQ_then ?_ | refine WQ_then_ret ?_ | refine WQ_then_exit ?_ | refine WQ_block_normal ?_ | refine WQ_block_ret ?_ | refine WQ_block_exit ?_ | refine n9 ?_))
      ((apply W_cutK (X := Value) [8] [0] (fun _ => True) (fun z => [(8, z)]) (fun z => [.row z 5 1 (4 + 6 * befN h + bN (prtB h.kind) 2) ((frB h ++ adrB h (befN h) ++ sqB h).map bcell)]) (fun _ => [])); exact rfl; exact rfl; (intro _; exact rfl); (intro _; exact rfl); (intro _; exact rfl))
      · have hlen : (frB h ++ adrB h (befN h)).length = 4 + 6 * befN h := by rw [List.length_append, frB_length, adrB_length]
        have hp := put16_fn o2 (4 + 6 * befN h) (fg + 16 * sq) (frB h ++ adrB h (befN h)) hlen.symm (by omega) (by omega)
        have hshl : IntKind.i64.wrap (h.seq * 2 ^ (min (4 : Int).toNat IntKind.i64.bits)) = ((sq * 2 ^ 4 : Nat) : Int) := by rw [hsq]; exact shl_seq sq (by omega)
        have hor : bits .or .i64 h.frag ((sq * 2 ^ 4 : Nat) : Int) = ((fg + 16 * sq : Nat) : Int) := by rw [hfg]; exact or_seq fg sq (by omega) (by omega)
        have hsB : sqB h = bif prtB h.kind then C01.leB 2 (fg + 16 * sq) else [] := by unfold sqB; rw [hfg, hsq]; rfl
        rw [hsB]
        generalize prtB h.kind = pq at *
        cases pq with
        | false =>
          rw [show (bif false then C01.leB 2 (fg + 16 * sq) else []) = [] from rfl, List.append_nil]
          repeat (first | refine n1 ?_ | refine n2 (fun b _ => ?_) | refine n3 (fun _ _ => ?_) | refine n4 ?_ | refine n5 ?_ | refine WL_nil ?_ | refine W_seq ?_ | refine W_region ?_ | refine n7 ?_ | refine n8 ?_ | refine W_block ?_ | refine W_skip ?_ | refine W_ret ?_ | refine W_exit ?_ | refine WQ_then ?_ | refine WQ_then_ret ?_ | refine WQ_then_exit ?_ | refine WQ_block_normal ?_ | refine WQ_block_ret ?_ | refine WQ_block_exit ?_ | refine n9 ?_)
          ((apply WQ_meet (o2)); (focus (first | trivial | omega | assumption | exact ⟨by omega, by omega⟩ | (simp; done))); (focus (repeat (first | exact FrIn.nil _ | (apply FrIn.cons; exact rfl; (first | exact rfl | (congr 1; first | omega | (dsimp only; omega)) | (simp; done)))))); (focus (repeat (first | exact SubO.nil _ | (apply SubO.cons; (focus (repeat' (first | exact Pick.head _ _ | apply Pick.tail))))))); (focus (repeat (first | exact AllE.nil _ | (apply AllE.cons; (focus (first | exact ent_nilBy | exact ent_nilSl | (apply Ent.mem; repeat' (first | exact mcs | apply mct)))))))))
        | true =>
          repeat (first | refine n1 ?_ | refine n2 (fun b _ => ?_) | refine n3 (fun _ _ => ?_) | refine n4 ?_ | refine n5 ?_ | refine WL_nil ?_ | refine W_seq ?_ | refine W_region ?_ | refine n7 ?_ | refine n8 ?_ | refine W_block ?_ | refine W_skip ?_ | refine W_ret ?_ | refine W_exit ?_ | refine WQ_then ?_ | refine WQ_then_ret ?_ | refine WQ_then_exit ?_ | refine WQ_block_normal ?_ | refine WQ_block_ret ?_ | refine WQ_block_exit ?_ | refine n9 ?_)
          refine WL_runs rfl rfl rfl (R_shl rfl rfl (by omega) hshl) ?_
          refine WL_runs rfl rfl rfl (R_or rfl rfl hor) ?_
          (apply WL_effs; exact rfl; exact rfl; exact rfl; apply E_callO; exact rfl; (intro _ _; simp); exact hp; (first | (apply perm1; (focus (repeat' (first | exact Pick.head _ _ | apply Pick.tail)))) | (apply perm2; (focus (repeat' (first | exact Pick.head _ _ | apply Pick.tail))); (focus (repeat' (first | exact Pick.head _ _ | apply Pick.tail)))) | (apply perm3; (focus (repeat' (first | exact Pick.head _ _ | apply Pick.tail))); (focus (repeat' (first | exact Pick.head _ _ | apply Pick.tail))); (focus (repeat' (first | exact Pick.head _ _ | apply Pick.tail))))); (repeat (first | exact AllE.nil _ | (apply AllE.cons; (focus (first | exact ent_nilBy | exact ent_nilSl | (apply Ent.mem; repeat' (first | exact mcs | apply mct))))))); (intro _; exact rfl); (intro _; exact rfl))
          intro o3 _
          repeat (first | refine n1 ?_ | refine n2 (fun b _ => ?_) | refine n3 (fun _ _ => ?_) | refine n4 ?_ | refine n5 ?_ | refine WL_nil ?_ | refine W_seq ?_ | refine W_region ?_ | refine n7 ?_ | refine n8 ?_ | refine W_block ?_ | refine W_skip ?_ | refine W_ret ?_ | refine W_exit ?_ | refine WQ_then ?_ | refine WQ_then_ret ?_ | refine WQ_then_exit ?_ | refine WQ_block_normal ?_ | refine WQ_block_ret ?_ | refine WQ_block_exit ?_ | refine n9 ?_)
          ((apply WQ_meet (o3)); (focus (first | trivial | omega | assumption | exact ⟨by omega, by omega⟩ | (simp; done))); (focus (repeat (first | exact FrIn.nil _ | (apply FrIn.cons; exact rfl; (first | exact rfl | (congr 1; first | omega | (dsimp only; omega)) | (simp; done)))))); (focus (repeat (first | exact SubO.nil _ | (apply SubO.cons; (focus (repeat' (first | exact Pick.head _ _ | apply Pick.tail))))))); (focus (repeat (first | exact AllE.nil _ | (apply AllE.cons; (focus (first | exact ent_nilBy | exact ent_nilSl | (apply Ent.mem; repeat' (first | exact mcs | apply mct)))))))))
      · intro o4 _
        obtain ⟨A, ac, hlv⟩ : ∃ A c, aftV b2 h = .slice A (bN (fourB h) 1) c := by
          unfold aftV
          cases fourB h
          · exact ⟨none, 0, rfl⟩
          · exact ⟨_, 1, rfl⟩
        repeat ((fail_if_success apply W_isSB 4); (first | refine n1 ?_ | refine n2 (fun b _ => ?_) | refine n3 (fun _ _ => ?_) | refine n4 ?_ | refine n5 ?_ | refine WL_nil ?_ | refine W_seq ?_ | refine W_region ?_ | refine n7 ?_ | refine n8 ?_ | refine W_block ?_ | refine W_skip ?_ | refine W_ret ?_ | refine W_exit ?_ | refine WQ_then ?_ | refine WQ_then_ret ?_ | refine WQ_then_exit ?_ | refine WQ_block_normal ?_ | refine WQ_block_ret ?_ | refine WQ_block_exit ?_ | refine n9 ?_))
        refine WL_runs rfl rfl rfl (R_lenNil (A := A) (n := bN (fourB h) 1) (c := ac) (congrArg some hlv) rfl) ?_
        repeat ((fail_if_success apply W_isSB 4); (first | refine n1 ?_ | refine n2 (fun b _ => ?_) | refine n3 (fun _ _ => ?_) | refine n4 ?_ | refine n5 ?_ | refine WL_nil ?_ | refine W_seq ?_ | refine W_region ?_ | refine n7 ?_ | refine n8 ?_ | refine W_block ?_ | refine W_skip ?_ | refine W_ret ?_ | refine W_exit ?_ | refine WQ_then ?_ | refine WQ_then_ret ?_ | refine WQ_then_exit ?_ | refine WQ_block_normal ?_ | refine WQ_block_ret ?_ | refine WQ_block_exit ?_ | refine n9 ?_))
        have hbl : (frB h ++ adrB h (befN h) ++ sqB h).length = 4 + 6 * befN h + bN (prtB h.kind) 2 := by rw [List.length_append, List.length_append, frB_length, adrB_length, sqB_length]
        have hpb : bN (prtB h.kind) 2 ≤ 2 := by cases prtB h.kind; exact Nat.zero_le _; exact Nat.le_refl _
        generalize hbase : frB h ++ adrB h (befN h) ++ sqB h = base at *
        generalize hnb : 4 + 6 * befN h + bN (prtB h.kind) 2 = nb at *
        ((apply W_cutKT (X := Value) [8, 91] [0] (fun _ => True) (fun z => [(8, z)]) (fun z => [.row z 5 1 (nb + bN (fourB h) 6) ((base ++ a4B h).map bcell)]) (fun _ => [])); exact rfl; exact rfl; (intro _; exact rfl); (intro _; exact rfl); (intro _; exact rfl))
        · have hac := adr_cells h (show 3 < 4 by omega)
          unfold a4B
          cases hf : fourB h with
          | false =>
            have e1 : aftV b2 h = .slice none 0 0 := by unfold aftV; rw [hf]; rfl
            rw [e1]
            rw [show (bif false then h.a4.bytes else []) = [] from rfl, List.append_nil]
            repeat (first | refine n1 ?_ | refine n2 (fun b _ => ?_) | refine n3 (fun _ _ => ?_) | refine n4 ?_ | refine n5 ?_ | refine WL_nil ?_ | refine W_seq ?_ | refine W_region ?_ | refine n7 ?_ | refine n8 ?_ | refine W_block ?_ | refine W_skip ?_ | refine W_ret ?_ | refine W_exit ?_ | refine WQ_then ?_ | refine WQ_then_ret ?_ | refine WQ_then_exit ?_ | refine WQ_block_normal ?_ | refine WQ_block_ret ?_ | refine WQ_block_exit ?_ | refine n9 ?_)
            ((apply W_loopK (X := Nat) [91] [] (fun x => x = 0) (fun x => [(91, .int .i64 (x : Int))]) (fun _ => []) (fun _ => []) (fun x => 0 - x) (0)); (focus exact rfl); exact rfl; exact rfl; (intro _; exact rfl); (intro _; exact rfl); (intro _; exact rfl); (focus (repeat (first | exact FrIn.nil _ | (apply FrIn.cons; exact rfl; (first | exact rfl | (congr 1; first | omega | (dsimp only; omega)) | (simp; done)))))); (focus (repeat (first | exact SubO.nil _ | (apply SubO.cons; (focus (repeat' (first | exact Pick.head _ _ | apply Pick.tail))))))); (focus (repeat (first | exact AllE.nil _ | (apply AllE.cons; (focus (first | exact ent_nilBy | exact ent_nilSl | (apply Ent.mem; repeat' (first | exact mcs | apply mct)))))))); intro x hx)
            subst hx
            repeat (first | refine n1 ?_ | refine n2 (fun b _ => ?_) | refine n3 (fun _ _ => ?_) | refine n4 ?_ | refine n5 ?_ | refine WL_nil ?_ | refine W_seq ?_ | refine W_region ?_ | refine n7 ?_ | refine n8 ?_ | refine W_block ?_ | refine W_skip ?_ | refine W_ret ?_ | refine W_exit ?_ | refine WQ_then ?_ | refine WQ_then_ret ?_ | refine WQ_then_exit ?_ | refine WQ_block_normal ?_ | refine WQ_block_ret ?_ | refine WQ_block_exit ?_ | refine n9 ?_)
            ((apply WQ_meet (o4)); (focus (first | trivial | omega | assumption | exact ⟨by omega, by omega⟩ | (simp; done))); (focus (repeat (first | exact FrIn.nil _ | (apply FrIn.cons; exact rfl; (first | exact rfl | (congr 1; first | omega | (dsimp only; omega)) | (simp; done)))))); (focus (repeat (first | exact SubO.nil _ | (apply SubO.cons; (focus (repeat' (first | exact Pick.head _ _ | apply Pick.tail))))))); (focus (repeat (first | exact AllE.nil _ | (apply AllE.cons; (focus (first | exact ent_nilBy | exact ent_nilSl | (apply Ent.mem; repeat' (first | exact mcs | apply mct)))))))))
          | true =>
            have e1 : aftV b2 h = .slice (some ⟨b2, 3, none⟩) 1 1 := by unfold aftV; rw [hf]; rfl
            rw [e1]
            repeat (first | refine n1 ?_ | refine n2 (fun b _ => ?_) | refine n3 (fun _ _ => ?_) | refine n4 ?_ | refine n5 ?_ | refine WL_nil ?_ | refine W_seq ?_ | refine W_region ?_ | refine n7 ?_ | refine n8 ?_ | refine W_block ?_ | refine W_skip ?_ | refine W_ret ?_ | refine W_exit ?_ | refine WQ_then ?_ | refine WQ_then_ret ?_ | refine WQ_then_exit ?_ | refine WQ_block_normal ?_ | refine WQ_block_ret ?_ | refine WQ_block_exit ?_ | refine n9 ?_)
            ((apply W_loopK (X := Nat × Value × List UInt8) [8, 91] [0] (fun x => (x.1 = 0 ∧ x.2.2 = base) ∨ (x.1 = 1 ∧ x.2.2 = base ++ h.a4.bytes)) (fun x => [(8, x.2.1), (91, .int .i64 (x.1 : Int))]) (fun x => [.row x.2.1 5 1 (nb + 6 * x.1) (x.2.2.map bcell)]) (fun _ => []) (fun x => 1 - x.1) ((0, o4, base))); (focus exact .inl ⟨rfl, rfl⟩); exact rfl; exact rfl; (intro _; exact rfl); (intro _; exact rfl); (intro _; exact rfl); (focus (repeat (first | exact FrIn.nil _ | (apply FrIn.cons; exact rfl; (first | exact rfl | (congr 1; first | omega | (dsimp only; omega)) | (simp; done)))))); (focus (repeat (first | exact SubO.nil _ | (apply SubO.cons; (focus (repeat' (first | exact Pick.head _ _ | apply Pick.tail))))))); (focus (repeat (first | exact AllE.nil _ | (apply AllE.cons; (focus (first | exact ent_nilBy | exact ent_nilSl | (apply Ent.mem; repeat' (first | exact mcs | apply mct)))))))); intro x hx)
            obtain ⟨x, o5, bb⟩ := x
            dsimp only
            rcases hx with ⟨hx, hx2⟩ | ⟨hx, hx2⟩
            · replace hx : x = 0 := hx
              replace hx2 : bb = base := hx2
              subst hx; subst hx2
              repeat (first | refine n1 ?_ | refine n2 (fun b _ => ?_) | refine n3 (fun _ _ => ?_) | refine n4 ?_ | refine n5 ?_ | refine WL_nil ?_ | refine W_seq ?_ | refine W_region ?_ | refine n7 ?_ | refine n8 ?_ | refine W_block ?_ | refine W_skip ?_ | refine W_ret ?_ | refine W_exit ?_ | refine WQ_then ?_ | refine WQ_then_ret ?_ | refine WQ_then_exit ?_ | refine WQ_block_normal ?_ | refine WQ_block_ret ?_ | refine WQ_block_exit ?_ | refine n9 ?_)
              refine WL_runs rfl rfl rfl (R_idxLit (i := 0) rfl rfl rfl (by intro _; exact rfl) rfl (by decide)) ?_
              repeat (first | refine n1 ?_ | refine n2 (fun b _ => ?_) | refine n3 (fun _ _ => ?_) | refine n4 ?_ | refine n5 ?_ | refine WL_nil ?_ | refine W_seq ?_ | refine W_region ?_ | refine n7 ?_ | refine n8 ?_ | refine W_block ?_ | refine W_skip ?_ | refine W_ret ?_ | refine W_exit ?_ | refine WQ_then ?_ | refine WQ_then_ret ?_ | refine WQ_then_exit ?_ | refine WQ_block_normal ?_ | refine WQ_block_ret ?_ | refine WQ_block_exit ?_ | refine n9 ?_)
              refine WL_ent (ent_ptByO (b := b1) (off := 28) (n := 6) (xs := h.cells) (bs := h.a4.bytes) (by repeat' (first | exact mcs | apply mct)) hac rfl (by decide) (by decide)) ?_
              refine WL_effs rfl rfl rfl (E_appendBy (bs := bb) (news := h.a4.bytes) (nm := nb + 6 * 1) (all := bb ++ h.a4.bytes) rfl rfl (by repeat' (first | exact Pick.head _ _ | apply Pick.tail)) (by repeat' (first | exact mcs | apply mct)) rfl rfl rfl rfl rfl rfl (Nat.le_of_ble_eq_true rfl) (show nb + 6 * 0 + 6 ≤ 1099511627776 by omega) (show nb + 6 * 0 + 6 = nb + 6 * 1 by omega) rfl) ?_
              intro o6 _
              repeat (first | refine n1 ?_ | refine n2 (fun b _ => ?_) | refine n3 (fun _ _ => ?_) | refine n4 ?_ | refine n5 ?_ | refine WL_nil ?_ | refine W_seq ?_ | refine W_region ?_ | refine n7 ?_ | refine n8 ?_ | refine W_block ?_ | refine W_skip ?_ | refine W_ret ?_ | refine W_exit ?_ | refine WQ_then ?_ | refine WQ_then_ret ?_ | refine WQ_then_exit ?_ | refine WQ_block_normal ?_ | refine WQ_block_ret ?_ | refine WQ_block_exit ?_ | refine n9 ?_)
              ((apply WQ_again ((1, o6, bb ++ h.a4.bytes))); (focus exact .inr ⟨rfl, rfl⟩); (focus (exact (show 1 - 1 < 1 - 0 by omega))); (focus (repeat (first | exact FrIn.nil _ | (apply FrIn.cons; exact rfl; (first | exact rfl | (congr 1; first | omega | (dsimp only; omega)) | (simp; done)))))); (focus (repeat (first | exact SubO.nil _ | (apply SubO.cons; (focus (repeat' (first | exact Pick.head _ _ | apply Pick.tail))))))); (focus (repeat (first | exact AllE.nil _ | (apply AllE.cons; (focus (first | exact ent_nilBy | exact ent_nilSl | (apply Ent.mem; repeat' (first | exact mcs | apply mct)))))))))
            · replace hx : x = 1 := hx
              replace hx2 : bb = base ++ h.a4.bytes := hx2
              subst hx; subst hx2
              repeat (first | refine n1 ?_ | refine n2 (fun b _ => ?_) | refine n3 (fun _ _ => ?_) | refine n4 ?_ | refine n5 ?_ | refine WL_nil ?_ | refine W_seq ?_ | refine W_region ?_ | refine n7 ?_ | refine n8 ?_ | refine W_block ?_ | refine W_skip ?_ | refine W_ret ?_ | refine W_exit ?_ | refine WQ_then ?_ | refine WQ_then_ret ?_ | refine WQ_then_exit ?_ | refine WQ_block_normal ?_ | refine WQ_block_ret ?_ | refine WQ_block_exit ?_ | refine n9 ?_)
              ((apply WQ_meet (o5)); (focus (first | trivial | omega | assumption | exact ⟨by omega, by omega⟩ | (simp; done))); (focus (repeat (first | exact FrIn.nil _ | (apply FrIn.cons; exact rfl; (first | exact rfl | (congr 1; first | omega | (dsimp only; omega)) | (simp; done)))))); (focus (repeat (first | exact SubO.nil _ | (apply SubO.cons; (focus (repeat' (first | exact Pick.head _ _ | apply Pick.tail))))))); (focus (repeat (first | exact AllE.nil _ | (apply AllE.cons; (focus (first | exact ent_nilBy | exact ent_nilSl | (apply Ent.mem; repeat' (first | exact mcs | apply mct)))))))))
        · intro o7 _
          have hal : (a4B h).length = bN (fourB h) 6 := a4B_length h
          have h4b : bN (fourB h) 6 ≤ 6 := by cases fourB h; exact Nat.zero_le _; exact Nat.le_refl _
          have hY : hdY h = base ++ a4B h ++ qsB h := by unfold hdY; rw [hbase]
          have hS : hdS h = nb + bN (fourB h) 6 + bN (trafB h.kind h.sub) 2 := by unfold hdS; rw [hnb]
          rw [hY, hS]
          have hp := fun n => put16_fn o7 (nb + bN (fourB h) 6) n (base ++ a4B h) (by rw [List.length_append, hbl, hal]) (by omega)
          have hor : bits .or .i64 h.tid ((h.ack.toNat : Int) * 32) = ((td + 32 * h.ack.toNat : Nat) : Int) := by rw [htd]; exact or_ack td h.ack.toNat (by omega) r9
          have hoe := or_eosp td h.ack.toNat (by omega) r9
          have hqs : qsB h = bif trafB h.kind h.sub then C01.leB 2 (td + bN h.eosp 16 + 32 * h.ack.toNat + bN h.amsdu 128) else [] := by unfold qsB qN; rw [htd]; rfl
          rw [hqs]
          clear hbase hnb hY hS hqs hkf
          generalize trafB h.kind h.sub = tr at *
          cases tr with
          | false =>
            rw [show ∀ l : List UInt8, (bif false then l else []) = [] from fun _ => rfl, List.append_nil]
            repeat (first | refine n1 ?_ | refine n2 (fun b _ => ?_) | refine n3 (fun _ _ => ?_) | refine n4 ?_ | refine n5 ?_ | refine WL_nil ?_ | refine W_seq ?_ | refine W_region ?_ | refine n7 ?_ | refine n8 ?_ | refine W_block ?_ | refine W_skip ?_ | refine W_ret ?_ | refine W_exit ?_ | refine WQ_then ?_ | refine WQ_then_ret ?_ | refine WQ_then_exit ?_ | refine WQ_block_normal ?_ | refine WQ_block_ret ?_ | refine WQ_block_exit ?_ | refine n9 ?_)
            ((apply ret1 Try.results45 ( o7)); (focus (first | trivial | assumption | omega)); (focus (first | exact RV_tmp rfl | (apply RV_cellN; exact rfl; (repeat' (first | exact Pick.head _ _ | apply Pick.tail)); (intro _; exact rfl); (intro _; exact rfl); exact rfl) | (apply RV_cell1; exact rfl; (repeat' (first | exact Pick.head _ _ | apply Pick.tail)); (intro _; exact rfl); exact rfl)));  (focus (first | exact rfl | (simp; done))); (focus (repeat (first | exact SubO.nil _ | (apply SubO.cons; (focus (repeat' (first | exact Pick.head _ _ | apply Pick.tail))))))); (focus (repeat (first | exact AllE.nil _ | (apply AllE.cons; (focus (first | exact ent_nilBy | exact ent_nilSl | (apply Ent.mem; repeat' (first | exact mcs | apply mct)))))))))
          | true =>
            cases he : h.eosp with
            | false =>
              cases ha : h.amsdu with
              | false =>
                have hp := hp (td + 32 * h.ack.toNat) (by omega)
                repeat (first | refine n1 ?_ | refine n2 (fun b _ => ?_) | refine n3 (fun _ _ => ?_) | refine n4 ?_ | refine n5 ?_ | refine WL_nil ?_ | refine W_seq ?_ | refine W_region ?_ | refine n7 ?_ | refine n8 ?_ | refine W_block ?_ | refine W_skip ?_ | refine W_ret ?_ | refine W_exit ?_ | refine WQ_then ?_ | refine WQ_then_ret ?_ | refine WQ_then_exit ?_ | refine WQ_block_normal ?_ | refine WQ_block_ret ?_ | refine WQ_block_exit ?_ | refine n9 ?_)
                refine WL_runs rfl rfl rfl (R_or rfl rfl hor) ?_
                repeat (first | refine n1 ?_ | refine n2 (fun b _ => ?_) | refine n3 (fun _ _ => ?_) | refine n4 ?_ | refine n5 ?_ | refine WL_nil ?_ | refine W_seq ?_ | refine W_region ?_ | refine n7 ?_ | refine n8 ?_ | refine W_block ?_ | refine W_skip ?_ | refine W_ret ?_ | refine W_exit ?_ | refine WQ_then ?_ | refine WQ_then_ret ?_ | refine WQ_then_exit ?_ | refine WQ_block_normal ?_ | refine WQ_block_ret ?_ | refine WQ_block_exit ?_ | refine n9 ?_)
                (apply WL_effs; exact rfl; exact rfl; exact rfl; apply E_callO; exact rfl; (intro _ _; simp); exact hp; (first | (apply perm1; (focus (repeat' (first | exact Pick.head _ _ | apply Pick.tail)))) | (apply perm2; (focus (repeat' (first | exact Pick.head _ _ | apply Pick.tail))); (focus (repeat' (first | exact Pick.head _ _ | apply Pick.tail)))) | (apply perm3; (focus (repeat' (first | exact Pick.head _ _ | apply Pick.tail))); (focus (repeat' (first | exact Pick.head _ _ | apply Pick.tail))); (focus (repeat' (first | exact Pick.head _ _ | apply Pick.tail))))); (repeat (first | exact AllE.nil _ | (apply AllE.cons; (focus (first | exact ent_nilBy | exact ent_nilSl | (apply Ent.mem; repeat' (first | exact mcs | apply mct))))))); (intro _; exact rfl); (intro _; exact rfl))
                intro o8 _
                repeat (first | refine n1 ?_ | refine n2 (fun b _ => ?_) | refine n3 (fun _ _ => ?_) | refine n4 ?_ | refine n5 ?_ | refine WL_nil ?_ | refine W_seq ?_ | refine W_region ?_ | refine n7 ?_ | refine n8 ?_ | refine W_block ?_ | refine W_skip ?_ | refine W_ret ?_ | refine W_exit ?_ | refine WQ_then ?_ | refine WQ_then_ret ?_ | refine WQ_then_exit ?_ | refine WQ_block_normal ?_ | refine WQ_block_ret ?_ | refine WQ_block_exit ?_ | refine n9 ?_)
                ((apply ret1 Try.results45 ( o8)); (focus (first | trivial | assumption | omega)); (focus (first | exact RV_tmp rfl | (apply RV_cellN; exact rfl; (repeat' (first | exact Pick.head _ _ | apply Pick.tail)); (intro _; exact rfl); (intro _; exact rfl); exact rfl) | (apply RV_cell1; exact rfl; (repeat' (first | exact Pick.head _ _ | apply Pick.tail)); (intro _; exact rfl); exact rfl)));  (focus (first | exact rfl | (simp; done))); (focus (repeat (first | exact SubO.nil _ | (apply SubO.cons; (focus (repeat' (first | exact Pick.head _ _ | apply Pick.tail))))))); (focus (repeat (first | exact AllE.nil _ | (apply AllE.cons; (focus (first | exact ent_nilBy | exact ent_nilSl | (apply Ent.mem; repeat' (first | exact mcs | apply mct)))))))))
              | true =>
                have hp := hp (td + 32 * h.ack.toNat + 128) (by omega)
                repeat (first | refine n1 ?_ | refine n2 (fun b _ => ?_) | refine n3 (fun _ _ => ?_) | refine n4 ?_ | refine n5 ?_ | refine WL_nil ?_ | refine W_seq ?_ | refine W_region ?_ | refine n7 ?_ | refine n8 ?_ | refine W_block ?_ | refine W_skip ?_ | refine W_ret ?_ | refine W_exit ?_ | refine WQ_then ?_ | refine WQ_then_ret ?_ | refine WQ_then_exit ?_ | refine WQ_block_normal ?_ | refine WQ_block_ret ?_ | refine WQ_block_exit ?_ | refine n9 ?_)
                refine WL_runs rfl rfl rfl (R_or rfl rfl hor) ?_
                repeat (first | refine n1 ?_ | refine n2 (fun b _ => ?_) | refine n3 (fun _ _ => ?_) | refine n4 ?_ | refine n5 ?_ | refine WL_nil ?_ | refine W_seq ?_ | refine W_region ?_ | refine n7 ?_ | refine n8 ?_ | refine W_block ?_ | refine W_skip ?_ | refine W_ret ?_ | refine W_exit ?_ | refine WQ_then ?_ | refine WQ_then_ret ?_ | refine WQ_then_exit ?_ | refine WQ_block_normal ?_ | refine WQ_block_ret ?_ | refine WQ_block_exit ?_ | refine n9 ?_)
                refine WL_runs rfl rfl rfl (R_or rfl rfl (show bits .or .i64 ((td + 32 * h.ack.toNat : Nat) : Int) 128 = ((td + 32 * h.ack.toNat + 128 : Nat) : Int) from or_ams td h.ack.toNat 0 (by omega) r9 (.inl rfl))) ?_
                repeat (first | refine n1 ?_ | refine n2 (fun b _ => ?_) | refine n3 (fun _ _ => ?_) | refine n4 ?_ | refine n5 ?_ | refine WL_nil ?_ | refine W_seq ?_ | refine W_region ?_ | refine n7 ?_ | refine n8 ?_ | refine W_block ?_ | refine W_skip ?_ | refine W_ret ?_ | refine W_exit ?_ | refine WQ_then ?_ | refine WQ_then_ret ?_ | refine WQ_then_exit ?_ | refine WQ_block_normal ?_ | refine WQ_block_ret ?_ | refine WQ_block_exit ?_ | refine n9 ?_)
                (apply WL_effs; exact rfl; exact rfl; exact rfl; apply E_callO; exact rfl; (intro _ _; simp); exact hp; (first | (apply perm1; (focus (repeat' (first | exact Pick.head _ _ | apply Pick.tail)))) | (apply perm2; (focus (repeat' (first | exact Pick.head _ _ | apply Pick.tail))); (focus (repeat' (first | exact Pick.head _ _ | apply Pick.tail)))) | (apply perm3; (focus (repeat' (first | exact Pick.head _ _ | apply Pick.tail))); (focus (repeat' (first | exact Pick.head _ _ | apply Pick.tail))); (focus (repeat' (first | exact Pick.head _ _ | apply Pick.tail))))); (repeat (first | exact AllE.nil _ | (apply AllE.cons; (focus (first | exact ent_nilBy | exact ent_nilSl | (apply Ent.mem; repeat' (first | exact mcs | apply mct))))))); (intro _; exact rfl); (intro _; exact rfl))
                intro o8 _
                repeat (first | refine n1 ?_ | refine n2 (fun b _ => ?_) | refine n3 (fun _ _ => ?_) | refine n4 ?_ | refine n5 ?_ | refine WL_nil ?_ | refine W_seq ?_ | refine W_region ?_ | refine n7 ?_ | refine n8 ?_ | refine W_block ?_ | refine W_skip ?_ | refine W_ret ?_ | refine W_exit ?_ | refine WQ_then ?_ | refine WQ_then_ret ?_ | refine WQ_then_exit ?_ | refine WQ_block_normal ?_ | refine WQ_block_ret ?_ | refine WQ_block_exit ?_ | refine n9 ?_)
                ((apply ret1 Try.results45 ( o8)); (focus (first | trivial | assumption | omega)); (focus (first | exact RV_tmp rfl | (apply RV_cellN; exact rfl; (repeat' (first | exact Pick.head _ _ | apply Pick.tail)); (intro _; exact rfl); (intro _; exact rfl); exact rfl) | (apply RV_cell1; exact rfl; (repeat' (first | exact Pick.head _ _ | apply Pick.tail)); (intro _; exact rfl); exact rfl)));  (focus (first | exact rfl | (simp; done))); (focus (repeat (first | exact SubO.nil _ | (apply SubO.cons; (focus (repeat' (first | exact Pick.head _ _ | apply Pick.tail))))))); (focus (repeat (first | exact AllE.nil _ | (apply AllE.cons; (focus (first | exact ent_nilBy | exact ent_nilSl | (apply Ent.mem; repeat' (first | exact mcs | apply mct)))))))))
            | true =>
              cases ha : h.amsdu with
              | false =>
                have hp := hp (td + 16 + 32 * h.ack.toNat) (by omega)
                repeat (first | refine n1 ?_ | refine n2 (fun b _ => ?_) | refine n3 (fun _ _ => ?_) | refine n4 ?_ | refine n5 ?_ | refine WL_nil ?_ | refine W_seq ?_ | refine W_region ?_ | refine n7 ?_ | refine n8 ?_ | refine W_block ?_ | refine W_skip ?_ | refine W_ret ?_ | refine W_exit ?_ | refine WQ_then ?_ | refine WQ_then_ret ?_ | refine WQ_then_exit ?_ | refine WQ_block_normal ?_ | refine WQ_block_ret ?_ | refine WQ_block_exit ?_ | refine n9 ?_)
                refine WL_runs rfl rfl rfl (R_or rfl rfl hor) ?_
                repeat (first | refine n1 ?_ | refine n2 (fun b _ => ?_) | refine n3 (fun _ _ => ?_) | refine n4 ?_ | refine n5 ?_ | refine WL_nil ?_ | refine W_seq ?_ | refine W_region ?_ | refine n7 ?_ | refine n8 ?_ | refine W_block ?_ | refine W_skip ?_ | refine W_ret ?_ | refine W_exit ?_ | refine WQ_then ?_ | refine WQ_then_ret ?_ | refine WQ_then_exit ?_ | refine WQ_block_normal ?_ | refine WQ_block_ret ?_ | refine WQ_block_exit ?_ | refine n9 ?_)
                refine WL_runs rfl rfl rfl (R_or rfl rfl hoe) ?_
                repeat (first | refine n1 ?_ | refine n2 (fun b _ => ?_) | refine n3 (fun _ _ => ?_) | refine n4 ?_ | refine n5 ?_ | refine WL_nil ?_ | refine W_seq ?_ | refine W_region ?_ | refine n7 ?_ | refine n8 ?_ | refine W_block ?_ | refine W_skip ?_ | refine W_ret ?_ | refine W_exit ?_ | refine WQ_then ?_ | refine WQ_then_ret ?_ | refine WQ_then_exit ?_ | refine WQ_block_normal ?_ | refine WQ_block_ret ?_ | refine WQ_block_exit ?_ | refine n9 ?_)
                (apply WL_effs; exact rfl; exact rfl; exact rfl; apply E_callO; exact rfl; (intro _ _; simp); exact hp; (first | (apply perm1; (focus (repeat' (first | exact Pick.head _ _ | apply Pick.tail)))) | (apply perm2; (focus (repeat' (first | exact Pick.head _ _ | apply Pick.tail))); (focus (repeat' (first | exact Pick.head _ _ | apply Pick.tail)))) | (apply perm3; (focus (repeat' (first | exact Pick.head _ _ | apply Pick.tail))); (focus (repeat' (first | exact Pick.head _ _ | apply Pick.tail))); (focus (repeat' (first | exact Pick.head _ _ | apply Pick.tail))))); (repeat (first | exact AllE.nil _ | (apply AllE.cons; (focus (first | exact ent_nilBy | exact ent_nilSl | (apply Ent.mem; repeat' (first | exact mcs | apply mct))))))); (intro _; exact rfl); (intro _; exact rfl))
                intro o8 _
                repeat (first | refine n1 ?_ | refine n2 (fun b _ => ?_) | refine n3 (fun _ _ => ?_) | refine n4 ?_ | refine n5 ?_ | refine WL_nil ?_ | refine W_seq ?_ | refine W_region ?_ | refine n7 ?_ | refine n8 ?_ | refine W_block ?_ | refine W_skip ?_ | refine W_ret ?_ | refine W_exit ?_ | refine WQ_then ?_ | refine WQ_then_ret ?_ | refine WQ_then_exit ?_ | refine WQ_block_normal ?_ | refine WQ_block_ret ?_ | refine WQ_block_exit ?_ | refine n9 ?_)
                ((apply ret1 Try.results45 ( o8)); (focus (first | trivial | assumption | omega)); (focus (first | exact RV_tmp rfl | (apply RV_cellN; exact rfl; (repeat' (first | exact Pick.head _ _ | apply Pick.tail)); (intro _; exact rfl); (intro _; exact rfl); exact rfl) | (apply RV_cell1; exact rfl; (repeat' (first | exact Pick.head _ _ | apply Pick.tail)); (intro _; exact rfl); exact rfl)));  (focus (first | exact rfl | (simp; done))); (focus (repeat (first | exact SubO.nil _ | (apply SubO.cons; (focus (repeat' (first | exact Pick.head _ _ | apply Pick.tail))))))); (focus (repeat (first | exact AllE.nil _ | (apply AllE.cons; (focus (first | exact ent_nilBy | exact ent_nilSl | (apply Ent.mem; repeat' (first | exact mcs | apply mct)))))))))
              | true =>
                have hp := hp (td + 16 + 32 * h.ack.toNat + 128) (by omega)
                repeat (first | refine n1 ?_ | refine n2 (fun b _ => ?_) | refine n3 (fun _ _ => ?_) | refine n4 ?_ | refine n5 ?_ | refine WL_nil ?_ | refine W_seq ?_ | refine W_region ?_ | refine n7 ?_ | refine n8 ?_ | refine W_block ?_ | refine W_skip ?_ | refine W_ret ?_ | refine W_exit ?_ | refine WQ_then ?_ | refine WQ_then_ret ?_ | refine WQ_then_exit ?_ | refine WQ_block_normal ?_ | refine WQ_block_ret ?_ | refine WQ_block_exit ?_ | refine n9 ?_)
                refine WL_runs rfl rfl rfl (R_or rfl rfl hor) ?_
                repeat (first | refine n1 ?_ | refine n2 (fun b _ => ?_) | refine n3 (fun _ _ => ?_) | refine n4 ?_ | refine n5 ?_ | refine WL_nil ?_ | refine W_seq ?_ | refine W_region ?_ | refine n7 ?_ | refine n8 ?_ | refine W_block ?_ | refine W_skip ?_ | refine W_ret ?_ | refine W_exit ?_ | refine WQ_then ?_ | refine WQ_then_ret ?_ | refine WQ_then_exit ?_ | refine WQ_block_normal ?_ | refine WQ_block_ret ?_ | refine WQ_block_exit ?_ | refine n9 ?_)
                refine WL_runs rfl rfl rfl (R_or rfl rfl hoe) ?_
                repeat (first | refine n1 ?_ | refine n2 (fun b _ => ?_) | refine n3 (fun _ _ => ?_) | refine n4 ?_ | refine n5 ?_ | refine WL_nil ?_ | refine W_seq ?_ | refine W_region ?_ | refine n7 ?_ | refine n8 ?_ | refine W_block ?_ | refine W_skip ?_ | refine W_ret ?_ | refine W_exit ?_ | refine WQ_then ?_ | refine WQ_then_ret ?_ | refine WQ_then_exit ?_ | refine WQ_block_normal ?_ | refine WQ_block_ret ?_ | refine WQ_block_exit ?_ | refine n9 ?_)
                refine WL_runs rfl rfl rfl (R_or rfl rfl (or_ams td h.ack.toNat 16 (by omega) r9 (.inr rfl))) ?_
                repeat (first | refine n1 ?_ | refine n2 (fun b _ => ?_) | refine n3 (fun _ _ => ?_) | refine n4 ?_ | refine n5 ?_ | refine WL_nil ?_ | refine W_seq ?_ | refine W_region ?_ | refine n7 ?_ | refine n8 ?_ | refine W_block ?_ | refine W_skip ?_ | refine W_ret ?_ | refine W_exit ?_ | refine WQ_then ?_ | refine WQ_then_ret ?_ | refine WQ_then_exit ?_ | refine WQ_block_normal ?_ | refine WQ_block_ret ?_ | refine WQ_block_exit ?_ | refine n9 ?_)
                (apply WL_effs; exact rfl; exact rfl; exact rfl; apply E_callO; exact rfl; (intro _ _; simp); exact hp; (first | (apply perm1; (focus (repeat' (first | exact Pick.head _ _ | apply Pick.tail)))) | (apply perm2; (focus (repeat' (first | exact Pick.head _ _ | apply Pick.tail))); (focus (repeat' (first | exact Pick.head _ _ | apply Pick.tail)))) | (apply perm3; (focus (repeat' (first | exact Pick.head _ _ | apply Pick.tail))); (focus (repeat' (first | exact Pick.head _ _ | apply Pick.tail))); (focus (repeat' (first | exact Pick.head _ _ | apply Pick.tail))))); (repeat (first | exact AllE.nil _ | (apply AllE.cons; (focus (first | exact ent_nilBy | exact ent_nilSl | (apply Ent.mem; repeat' (first | exact mcs | apply mct))))))); (intro _; exact rfl); (intro _; exact rfl))
                intro o8 _
                repeat (first | refine n1 ?_ | refine n2 (fun b _ => ?_) | refine n3 (fun _ _ => ?_) | refine n4 ?_ | refine n5 ?_ | refine WL_nil ?_ | refine W_seq ?_ | refine W_region ?_ | refine n7 ?_ | refine n8 ?_ | refine W_block ?_ | refine W_skip ?_ | refine W_ret ?_ | refine W_exit ?_ | refine WQ_then ?_ | refine WQ_then_ret ?_ | refine WQ_then_exit ?_ | refine WQ_block_normal ?_ | refine WQ_block_ret ?_ | refine WQ_block_exit ?_ | refine n9 ?_)
                ((apply ret1 Try.results45 ( o8)); (focus (first | trivial | assumption | omega)); (focus (first | exact RV_tmp rfl | (apply RV_cellN; exact rfl; (repeat' (first | exact Pick.head _ _ | apply Pick.tail)); (intro _; exact rfl); (intro _; exact rfl); exact rfl) | (apply RV_cell1; exact rfl; (repeat' (first | exact Pick.head _ _ | apply Pick.tail)); (intro _; exact rfl); exact rfl)));  (focus (first | exact rfl | (simp; done))); (focus (repeat (first | exact SubO.nil _ | (apply SubO.cons; (focus (repeat' (first | exact Pick.head _ _ | apply Pick.tail))))))); (focus (repeat (first | exact AllE.nil _ | (apply AllE.cons; (focus (first | exact ent_nilBy | exact ent_nilSl | (apply Ent.mem; repeat' (first | exact mcs | apply mct)))))))))
end Go.Proofs.Ytbdcpahifcbcfaa
