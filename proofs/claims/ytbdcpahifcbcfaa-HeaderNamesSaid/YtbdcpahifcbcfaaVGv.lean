/-
  A valid header's bytes are read back: plain law.
-/
import Derived.Test.YtbdcpahifcbcfaaVGu
namespace Go.Proofs.Ytbdcpahifcbcfaa
open Go Go.RowKit Go.Hs
def baseH (h : Hd) : Hd := { h with dur := 0, a1 := zA6, a2 := zA6, a3 := zA6, a4 := zA6, seq := 0, frag := 0, tid := 0, ack := 0, amsdu := false, eosp := false }
theorem tw_le {n : Nat} (h : n < 65536) : (UInt8.ofNat n).toNat + 256 * (UInt8.ofNat (n / 256)).toNat = n := by
  rw [UInt8.toNat_ofNat', UInt8.toNat_ofNat']
  omega
theorem hd_prts {h : Hd} (hv : hdB h = true) : knB h.kind h.sub = true ∧ restH h = h0_ ∧ rngB h = true ∧ gpsB h = true ∧ badB h = false := by
  unfold hdB at hv
  rw [Bool.and_eq_true, Bool.and_eq_true, Bool.and_eq_true, Bool.and_eq_true, decide_eq_true_iff, Bool.not_eq_true'] at hv
  exact ⟨hv.1, hv.2.1, hv.2.2.1, hv.2.2.2.1, hv.2.2.2.2⟩
theorem hd_unused {h : Hd} (hv : hdB h = true) : (ctsB h = true → h.a2 = zA6) ∧ (ctlB h = true → h.a3 = zA6) ∧ (fourB h = false → h.a4 = zA6) ∧ (prtB h.kind = false → h.seq = 0 ∧ h.frag = 0) ∧ (trafB h.kind h.sub = false → h.tid = 0 ∧ h.ack = 0 ∧ h.amsdu = false ∧ h.eosp = false) := by
  obtain ⟨hk, hr, -, -, -⟩ := hd_prts hv
  have hu : h = usedH h := (used_iff hk).2 hr
  have ht := traf_eq hk
  have hc : ctlN h = prtB h.kind := by unfold ctlN; rw [ctl_prt hk, Bool.not_not]
  unfold usedH usedC at hu
  rw [ht, hc] at hu
  refine ⟨fun c => ?_, fun c => ?_, fun c => ?_, fun c => ?_, fun c => ?_⟩
  · have e := congrArg Hd.a2 hu
    dsimp only at e
    have hf : fourB h = false := by
      unfold fourB; unfold ctsB at c; rw [decide_eq_true_iff] at c; rw [c.1]; rfl
    have : adN h = 1 := by unfold adN befN; rw [hf, c]; rfl
    rw [this] at e
    exact e
  · have e := congrArg Hd.a3 hu
    dsimp only at e
    have hf : fourB h = false := by
      unfold fourB; unfold ctlB at c; rw [decide_eq_true_iff] at c; rw [c]; rfl
    have : adN h ≤ 2 := by
      unfold adN befN; rw [hf, c]
      show (if ctsB h = true then 1 else 2) ≤ 2
      split <;> omega
    rw [decide_eq_false (by omega : ¬ 2 < adN h)] at e
    exact e
  · have e := congrArg Hd.a4 hu
    dsimp only at e
    have : adN h ≤ 3 := by
      unfold adN befN; rw [c]
      show (if ctsB h = true then 1 else if ctlB h = true then 2 else 3) ≤ 3
      split
      · omega
      · split <;> omega
    rw [decide_eq_false (by omega : ¬ 3 < adN h)] at e
    exact e
  · have e := congrArg Hd.seq hu
    have e2 := congrArg Hd.frag hu
    dsimp only at e e2
    rw [c] at e e2
    exact ⟨e, e2⟩
  · have e := congrArg Hd.tid hu
    have e2 := congrArg Hd.ack hu
    have e3 := congrArg Hd.amsdu hu
    have e4 := congrArg Hd.eosp hu
    dsimp only at e e2 e3 e4
    rw [c] at e e2 e3 e4
    exact ⟨e, e2, e3, e4⟩
theorem kn_le {k s : UInt8} (h : knB k s = true) : k.toNat ≤ 2 ∧ s.toNat ≤ 15 := by
  refine ⟨by have := kn_kind h; omega, ?_⟩
  unfold knB at h
  split at h
  · rw [decide_eq_true_iff] at h; omega
  · split at h
    · rw [decide_eq_true_iff] at h; omega
    · split at h
      · rw [decide_eq_true_iff] at h; omega
      · cases h
theorem first_fwd (k s : UInt8) (hk : k.toNat ≤ 2) (hs : s.toNat ≤ 15) : UInt8.ofNat ((UInt8.ofNat (4 * k.toNat + 16 * s.toNat)).toNat / 4 % 4) = k ∧ UInt8.ofNat ((UInt8.ofNat (4 * k.toNat + 16 * s.toNat)).toNat / 16) = s ∧ (UInt8.ofNat (4 * k.toNat + 16 * s.toNat)).toNat % 4 = 0 := by
  have hh : ∀ k : Fin 3, ∀ s : Fin 16, UInt8.ofNat ((UInt8.ofNat (4 * k.val + 16 * s.val)).toNat / 4 % 4) = UInt8.ofNat k.val ∧ UInt8.ofNat ((UInt8.ofNat (4 * k.val + 16 * s.val)).toNat / 16) = UInt8.ofNat s.val ∧ (UInt8.ofNat (4 * k.val + 16 * s.val)).toNat % 4 = 0 := by decide +kernel
  have := hh ⟨k.toNat, by omega⟩ ⟨s.toNat, by omega⟩
  simp only [UInt8.ofNat_toNat] at this
  exact this
theorem flags_fwd : ∀ a b c d e f g : Bool, flg (UInt8.ofNat (flS a b c d e f g)) 0 = a ∧ flg (UInt8.ofNat (flS a b c d e f g)) 1 = b ∧ flg (UInt8.ofNat (flS a b c d e f g)) 2 = c ∧ flg (UInt8.ofNat (flS a b c d e f g)) 3 = d ∧ flg (UInt8.ofNat (flS a b c d e f g)) 4 = e ∧ flg (UInt8.ofNat (flS a b c d e f g)) 5 = f ∧ flg (UInt8.ofNat (flS a b c d e f g)) 6 = g ∧ (UInt8.ofNat (flS a b c d e f g)).toNat < 128 := by decide +kernel
theorem qos_fwd : ∀ t : Fin 8, ∀ e : Bool, ∀ k : Fin 3, ∀ m : Bool, (t.val + bN e 16 + 32 * k.val + bN m 128) % 8 = t.val ∧ flq (t.val + bN e 16 + 32 * k.val + bN m 128) 4 = e ∧ (t.val + bN e 16 + 32 * k.val + bN m 128) / 32 % 4 = k.val ∧ flq (t.val + bN e 16 + 32 * k.val + bN m 128) 7 = m ∧ oddV (t.val + bN e 16 + 32 * k.val + bN m 128) = false ∧ t.val + bN e 16 + 32 * k.val + bN m 128 < 65536 := by decide +kernel
theorem qN_fwd (h : Hd) (h0 : 0 ≤ h.tid) (h1 : h.tid ≤ 7) (h2 : h.ack.toNat ≤ 2) : ((qN h % 8 : Nat) : Int) = h.tid ∧ flq (qN h) 4 = h.eosp ∧ UInt8.ofNat (qN h / 32 % 4) = h.ack ∧ flq (qN h) 7 = h.amsdu ∧ oddV (qN h) = false ∧ qN h < 65536 := by
  obtain ⟨a, b, c, d, e, f⟩ := qos_fwd ⟨h.tid.toNat, by omega⟩ h.eosp ⟨h.ack.toNat, by omega⟩ h.amsdu
  dsimp only at a b c d e f
  unfold qN
  rw [a, b, c, d, e]
  exact ⟨by omega, rfl, UInt8.ofNat_toNat, rfl, rfl, f⟩
theorem hd_ext {a b : Hd} (e1 : a.kind = b.kind) (e2 : a.sub = b.sub) (e3 : a.toDs = b.toDs) (e4 : a.fromDs = b.fromDs) (e5 : a.more = b.more) (e6 : a.retry = b.retry) (e7 : a.sleep = b.sleep) (e8 : a.md = b.md) (e9 : a.prot = b.prot) (e10 : a.dur = b.dur) (e11 : a.a1 = b.a1) (e12 : a.a2 = b.a2) (e13 : a.a3 = b.a3) (e14 : a.a4 = b.a4) (e15 : a.seq = b.seq) (e16 : a.frag = b.frag) (e17 : a.tid = b.tid) (e18 : a.ack = b.ack) (e19 : a.amsdu = b.amsdu) (e20 : a.eosp = b.eosp) : a = b := by
  cases a; cases b
  dsimp only at *
  subst e1 e2 e3 e4 e5 e6 e7 e8 e9 e10 e11 e12 e13 e14 e15 e16 e17 e18 e19 e20
  rfl
theorem hA_back {h : Hd} (hv : hdB h = true) (body : List UInt8) : hA (hdY h ++ body) = baseH h ∧ (dB (hdY h ++ body) 0).toNat % 4 = 0 ∧ (dB (hdY h ++ body) 1).toNat < 128 := by
  obtain ⟨hk, -, -, -, -⟩ := hd_prts hv
  obtain ⟨k1, k2⟩ := kn_le hk
  obtain ⟨f1, f2, f3⟩ := first_fwd h.kind h.sub k1 k2
  have hl : 2 ≤ (hdY h ++ body).length := by rw [List.length_append, hdY_length]; unfold hdS; omega
  have d0 : dB (hdY h ++ body) 0 = UInt8.ofNat (4 * h.kind.toNat + 16 * h.sub.toNat) := by rw [dB_at _ _ (by decide) hl]; rfl
  have d1 : dB (hdY h ++ body) 1 = UInt8.ofNat (flS h.toDs h.fromDs h.more h.retry h.sleep h.md h.prot) := by rw [dB_at _ _ (by decide) hl]; rfl
  obtain ⟨g0, g1, g2, g3, g4, g5, g6, g7⟩ := flags_fwd h.toDs h.fromDs h.more h.retry h.sleep h.md h.prot
  refine ⟨?_, by rw [d0]; exact f3, by rw [d1]; exact g7⟩
  unfold hA
  rw [d0, d1]
  unfold hdA
  rw [f1, f2, g0, g1, g2, g3, g4, g5, g6]
  rfl
theorem base_S (h : Hd) : hdS (baseH h) = hdS h := rfl
set_option maxRecDepth 10000 in
theorem hF_back {h : Hd} (hv : hdB h = true) (body : List UInt8) : hF (hdY h ++ body) = h ∧ oddB (hdY h ++ body) = false ∧ s6 (hdY h ++ body) = (body, false) := by
  obtain ⟨hk, -, hg, -, -⟩ := hd_prts hv
  obtain ⟨u1, u2, u3, u4, u5⟩ := hd_unused hv
  obtain ⟨ha, -, -⟩ := hA_back hv body
  have hl : (hdY h ++ body).length = hdS h + body.length := by rw [List.length_append, hdY_length]
  have hs : s6 (hdY h ++ body) = (body, false) := by
    rw [s6_at, ha, base_S]
    unfold at_
    rw [if_pos (by omega), ← hdY_length, List.drop_left]
  obtain ⟨e1, e2⟩ := hF_at (hdY h ++ body) (by rw [ha]; exact hk) (by rw [ha, base_S]; omega)
  rw [e1, e2]
  have ht : trB (hdY h ++ body) = trafB h.kind h.sub := by unfold trB; rw [ha]; rfl
  rw [ht, ha, base_S]
  rw [rng_iff] at hg
  obtain ⟨r1, r2, r3, r4, r5, r6, r7, r8, r9⟩ := hg
  have x1 : ctsB (baseH h) = ctsB h := rfl
  have x2 : ctlB (baseH h) = ctlB h := rfl
  have x3 : (baseH h).kind = h.kind := rfl
  have x4 : fourB (baseH h) = fourB h := rfl
  have x5 : (baseH h).sub = h.sub := rfl
  have hdr : tw (hdY h ++ body) 2 = h.dur.toNat := by
    have e : frB h = [UInt8.ofNat (4 * h.kind.toNat + 16 * h.sub.toNat), UInt8.ofNat (flN h 7), UInt8.ofNat h.dur.toNat, UInt8.ofNat (h.dur.toNat / 256)] := by unfold frB; rw [leb2]; rfl
    unfold hdY
    rw [e]
    exact tw_le (n := h.dur.toNat) (by omega)
  have hdr' : ((tw (hdY h ++ body) 2 : Nat) : Int) = h.dur := by rw [hdr]; omega
  unfold hG
  rw [x1, x2, x3, x4, x5, hdr', base_S]
  have hS : hdS h = 4 + 6 * befN h + bN (prtB h.kind) 2 + bN (fourB h) 6 + bN (trafB h.kind h.sub) 2 := rfl
  have sqv : h.frag.toNat + 16 * h.seq.toNat < 65536 := by omega
  rcases forms hk with ⟨z1, z2, z3, z4, z5, z6⟩ | ⟨z1, z2, z3, z4, z5, z6⟩ | ⟨z1, z2, z3, z4⟩
  · have eY : hdY h = frB h ++ h.a1.bytes ++ [] ++ [] ++ [] := by unfold hdY sqB a4B qsB; rw [z3, z4, z5, z6, adr1]; rfl
    rw [z1, z2, z4, z5, z6]
    obtain ⟨v1, v2⟩ := u4 z4
    obtain ⟨w1, w2, w3, w4⟩ := u5 z6
    refine ⟨hd_ext rfl rfl rfl rfl rfl rfl rfl rfl rfl rfl ?_ (u1 z1).symm (u2 z2).symm (u3 z5).symm v1.symm v2.symm w1.symm w2.symm w3.symm w4.symm, rfl, hs⟩
    rw [eY]; rfl
  · have eY : hdY h = frB h ++ (h.a1.bytes ++ h.a2.bytes) ++ [] ++ [] ++ [] := by unfold hdY sqB a4B qsB; rw [z3, z4, z5, z6, adr2]; rfl
    rw [z1, z2, z4, z5, z6]
    obtain ⟨v1, v2⟩ := u4 z4
    obtain ⟨w1, w2, w3, w4⟩ := u5 z6
    refine ⟨hd_ext rfl rfl rfl rfl rfl rfl rfl rfl rfl rfl ?_ ?_ (u2 z2).symm (u3 z5).symm v1.symm v2.symm w1.symm w2.symm w3.symm w4.symm, rfl, hs⟩
    · rw [eY]; rfl
    · rw [eY]; rfl
  · obtain ⟨q1, q2, q3, q4, q5, q6⟩ := qN_fwd h r7 r8 r9
    rw [z3, z4] at hS
    rw [z1, z2, z4]
    have eYp : ∀ A B, h.a1 = aAt (frB h ++ (h.a1.bytes ++ h.a2.bytes ++ h.a3.bytes) ++ C01.leB 2 (h.frag.toNat + 16 * h.seq.toNat) ++ A ++ B ++ body) 4 ∧ h.a2 = aAt (frB h ++ (h.a1.bytes ++ h.a2.bytes ++ h.a3.bytes) ++ C01.leB 2 (h.frag.toNat + 16 * h.seq.toNat) ++ A ++ B ++ body) 10 ∧ h.a3 = aAt (frB h ++ (h.a1.bytes ++ h.a2.bytes ++ h.a3.bytes) ++ C01.leB 2 (h.frag.toNat + 16 * h.seq.toNat) ++ A ++ B ++ body) 16 ∧ tw (frB h ++ (h.a1.bytes ++ h.a2.bytes ++ h.a3.bytes) ++ C01.leB 2 (h.frag.toNat + 16 * h.seq.toNat) ++ A ++ B ++ body) 22 = h.frag.toNat + 16 * h.seq.toNat := by
      intro A B
      refine ⟨rfl, rfl, rfl, ?_⟩
      rw [leb2]
      exact tw_le sqv
    have eY : hdY h = frB h ++ (h.a1.bytes ++ h.a2.bytes ++ h.a3.bytes) ++ C01.leB 2 (h.frag.toNat + 16 * h.seq.toNat) ++ a4B h ++ qsB h := by unfold hdY sqB; rw [z3, z4, adr3_]; rfl
    obtain ⟨y1, y2, y3, y4⟩ := eYp (a4B h) (qsB h)
    rw [← eY] at y1 y2 y3 y4
    have sg1 : (((h.frag.toNat + 16 * h.seq.toNat) / 16 : Nat) : Int) = h.seq := by omega
    have sg2 : (((h.frag.toNat + 16 * h.seq.toNat) % 16 : Nat) : Int) = h.frag := by omega
    have y5 : fourB h = true → h.a4 = aAt (hdY h ++ body) 24 := fun c => by
      rw [eY, show a4B h = h.a4.bytes by unfold a4B; rw [c]; rfl]; rfl
    have y6 : trafB h.kind h.sub = true → tw (hdY h ++ body) (hdS h - 2) = qN h := fun c => by
      have : qsB h = C01.leB 2 (qN h) := by unfold qsB; rw [c]; rfl
      cases f5 : fourB h
      · rw [show hdS h = 26 by rw [hS, f5, c]; rfl, eY, this, show a4B h = [] by unfold a4B; rw [f5]; rfl]
        rw [leb2, leb2]
        exact tw_le q6
      · rw [show hdS h = 32 by rw [hS, f5, c]; rfl, eY, this, show a4B h = h.a4.bytes by unfold a4B; rw [f5]; rfl]
        rw [leb2, leb2]
        exact tw_le q6
    rw [y4, sg1, sg2]
    have z4' : (bif fourB h then aAt (hdY h ++ body) 24 else zA6) = h.a4 := by
      cases f5 : fourB h
      · exact (u3 f5).symm
      · exact (y5 f5).symm
    cases f6 : trafB h.kind h.sub
    · obtain ⟨w1, w2, w3, w4⟩ := u5 f6
      exact ⟨hd_ext rfl rfl rfl rfl rfl rfl rfl rfl rfl rfl y1.symm y2.symm y3.symm z4' rfl rfl w1.symm w2.symm w3.symm w4.symm, rfl, hs⟩
    · rw [y6 f6, q1, q2, q3, q4, q5]
      exact ⟨hd_ext rfl rfl rfl rfl rfl rfl rfl rfl rfl rfl y1.symm y2.symm y3.symm z4' rfl rfl rfl rfl rfl rfl, rfl, hs⟩
end Go.Proofs.Ytbdcpahifcbcfaa
