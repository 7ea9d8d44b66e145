/-
  Headers and their bytes: plain law, both ways.
-/
import Derived.Test.YtbdcpahifcbcfaaVGt
namespace Go.Proofs.Ytbdcpahifcbcfaa
open Go Go.RowKit Go.Hs
theorem take_range (ys : List UInt8) (n : Nat) (h : n ≤ ys.length) : ys.take n = (List.range n).map fun i => ys.getD i 0 := by
  apply List.ext_getElem
  · rw [List.length_take, List.length_map, List.length_range]; omega
  · intro i h1 h2
    rw [List.length_take] at h1
    rw [List.getElem_take, List.getElem_map, List.getElem_range, List.getD_eq_getElem?_getD, List.getElem?_eq_getElem (by omega)]
    rfl
theorem le_ofs (x y : UInt8) : C01.leB 2 (x.toNat + 256 * y.toNat) = [x, y] := by
  have hx := x.toNat_lt
  rw [leb2]
  congr 1
  · apply UInt8.toNat_inj.mp
    rw [UInt8.toNat_ofNat']
    omega
  · congr 1
    rw [show (x.toNat + 256 * y.toNat) / 256 = y.toNat by omega]
    exact UInt8.ofNat_toNat
theorem le_tw (ys : List UInt8) (k : Nat) : C01.leB 2 (tw ys k) = [ys.getD k 0, ys.getD (k + 1) 0] := le_ofs _ _
theorem le_inj {a b : Nat} (ha : a < 65536) (hb : b < 65536) : C01.leB 2 a = C01.leB 2 b ↔ a = b := by
  constructor
  · intro h
    rw [leb2, leb2] at h
    injection h with h1 h2
    injection h2 with h2 _
    have e1 := congrArg UInt8.toNat h1
    have e2 := congrArg UInt8.toNat h2
    rw [UInt8.toNat_ofNat', UInt8.toNat_ofNat'] at e1 e2
    omega
  · intro h; rw [h]
theorem first_back (b : UInt8) (h : b.toNat % 4 = 0) : UInt8.ofNat (4 * (UInt8.ofNat (b.toNat / 4 % 4)).toNat + 16 * (UInt8.ofNat (b.toNat / 16)).toNat) = b := by
  have hh : ∀ n : Fin 256, n.val % 4 = 0 → UInt8.ofNat (4 * (UInt8.ofNat (n.val / 4 % 4)).toNat + 16 * (UInt8.ofNat (n.val / 16)).toNat) = UInt8.ofNat n.val := by decide +kernel
  have := hh ⟨b.toNat, b.toNat_lt⟩ h
  simp only [UInt8.ofNat_toNat] at this
  exact this
def flS (a b c d e f g : Bool) : Nat := 0 + bN a 1 + bN b 2 + bN c 4 + bN d 8 + bN e 16 + bN f 32 + bN g 64
theorem flN_S (h : Hd) : flN h 7 = flS h.toDs h.fromDs h.more h.retry h.sleep h.md h.prot := rfl
theorem flags_back (b : UInt8) (h : b.toNat < 128) : UInt8.ofNat (flS (flg b 0) (flg b 1) (flg b 2) (flg b 3) (flg b 4) (flg b 5) (flg b 6)) = b := by
  have hh : ∀ n : Fin 128, UInt8.ofNat (flS (flq n.val 0) (flq n.val 1) (flq n.val 2) (flq n.val 3) (flq n.val 4) (flq n.val 5) (flq n.val 6)) = UInt8.ofNat n.val := by decide +kernel
  have := hh ⟨b.toNat, h⟩
  simp only [UInt8.ofNat_toNat] at this
  exact this
theorem qos_back (q : Nat) (hq : q < 65536) : ((q % 8 : Nat) : Int).toNat + bN (flq q 4) 16 + 32 * (UInt8.ofNat (q / 32 % 4)).toNat + bN (flq q 7) 128 = q ↔ oddV q = false := by
  have h4 : bN (flq q 4) 16 = q / 16 % 2 * 16 := by
    unfold flq bN
    have : q / 16 % 2 = 0 ∨ q / 16 % 2 = 1 := by omega
    show (bif decide (q / 16 % 2 = 1) then 16 else 0) = _
    rcases this with e | e <;> rw [e] <;> rfl
  have h7 : bN (flq q 7) 128 = q / 128 % 2 * 128 := by
    unfold flq bN
    have : q / 128 % 2 = 0 ∨ q / 128 % 2 = 1 := by omega
    show (bif decide (q / 128 % 2 = 1) then 128 else 0) = _
    rcases this with e | e <;> rw [e] <;> rfl
  rw [h4, h7, Int.toNat_natCast, UInt8.toNat_ofNat']
  unfold oddV flq
  rw [Bool.or_eq_false_iff, decide_eq_false_iff_not, decide_eq_false_iff_not]
  show _ ↔ ¬ q / 8 % 2 = 1 ∧ ¬ q / 256 ≠ 0
  omega
/-- which of the six forms a header has. -/
theorem forms {h : Hd} (hk : knB h.kind h.sub = true) :
    (ctsB h = true ∧ ctlB h = true ∧ befN h = 1 ∧ prtB h.kind = false ∧ fourB h = false ∧ trafB h.kind h.sub = false) ∨
    (ctsB h = false ∧ ctlB h = true ∧ befN h = 2 ∧ prtB h.kind = false ∧ fourB h = false ∧ trafB h.kind h.sub = false) ∨
    (ctsB h = false ∧ ctlB h = false ∧ befN h = 3 ∧ prtB h.kind = true) := by
  have hkk := kn_kind hk
  unfold befN ctsB ctlB prtB fourB trafB
  rcases hkk with k | k | k
  · refine .inr (.inr ?_); rw [k]; exact ⟨rfl, rfl, rfl, rfl⟩
  · rw [k]
    by_cases d : h.sub.toNat = 12 ∨ h.sub.toNat = 13
    · refine .inl ?_
      rw [decide_eq_true (show 1 = 1 ∧ (h.sub.toNat = 12 ∨ h.sub.toNat = 13) from ⟨rfl, d⟩)]
      exact ⟨rfl, rfl, rfl, rfl, rfl, rfl⟩
    · refine .inr (.inl ?_)
      rw [decide_eq_false (show ¬ (1 = 1 ∧ (h.sub.toNat = 12 ∨ h.sub.toNat = 13)) from fun h => d h.2)]
      exact ⟨rfl, rfl, rfl, rfl, rfl, rfl⟩
  · refine .inr (.inr ?_); rw [k]; exact ⟨rfl, rfl, rfl, rfl⟩
theorem adr1 (h : Hd) : adrB h 1 = h.a1.bytes := by rw [adrB_next]; rfl
theorem adr2 (h : Hd) : adrB h 2 = h.a1.bytes ++ h.a2.bytes := by rw [adrB_next, adr1]; rfl
theorem adr3_ (h : Hd) : adrB h 3 = h.a1.bytes ++ h.a2.bytes ++ h.a3.bytes := by rw [adrB_next, adr2]; rfl
/-- the first four bytes of the header at the front. -/
theorem frB_G (ys : List UInt8) (hn : 2 ≤ ys.length) (h0 : (dB ys 0).toNat % 4 = 0) (h1 : (dB ys 1).toNat < 128) : frB (hG ys (hA ys)) = [ys.getD 0 0, ys.getD 1 0, ys.getD 2 0, ys.getD 3 0] := by
  show [UInt8.ofNat (4 * (UInt8.ofNat ((dB ys 0).toNat / 4 % 4)).toNat + 16 * (UInt8.ofNat ((dB ys 0).toNat / 16)).toNat), UInt8.ofNat (flS (flg (dB ys 1) 0) (flg (dB ys 1) 1) (flg (dB ys 1) 2) (flg (dB ys 1) 3) (flg (dB ys 1) 4) (flg (dB ys 1) 5) (flg (dB ys 1) 6))] ++ C01.leB 2 (tw ys 2) = _
  rw [first_back _ h0, flags_back _ h1, dB_at _ _ (by decide) hn, dB_at _ _ (by decide) hn, le_tw]
  rfl
theorem sq_back (ys : List UInt8) : C01.leB 2 (((tw ys 22 % 16 : Nat) : Int).toNat + 16 * ((tw ys 22 / 16 : Nat) : Int).toNat) = [ys.getD 22 0, ys.getD 23 0] := by
  rw [Int.toNat_natCast, Int.toNat_natCast, show tw ys 22 % 16 + 16 * (tw ys 22 / 16) = tw ys 22 by omega, le_tw]
set_option maxRecDepth 10000 in
/-- the bytes of the header that is read are the front, iff no odd bit is set. -/
theorem hdY_dec (ys : List UInt8) (hk : knB (hA ys).kind (hA ys).sub = true) (h0 : (dB ys 0).toNat % 4 = 0) (h1 : (dB ys 1).toNat < 128) (hn : hdS (hA ys) ≤ ys.length) : hdY (hF ys) = ys.take (hdS (hA ys)) ↔ oddB ys = false := by
  obtain ⟨e1, e2⟩ := hF_at ys hk hn
  rw [e1, e2]
  have ht : trB ys = trafB (hA ys).kind (hA ys).sub := rfl
  rw [ht, take_range _ _ hn]
  have h2 : 2 ≤ ys.length := by refine Nat.le_trans ?_ hn; unfold hdS; omega
  have ef := frB_G ys h2 h0 h1
  have x1 : ctsB (hG ys (hA ys)) = ctsB (hA ys) := rfl
  have x2 : befN (hG ys (hA ys)) = befN (hA ys) := rfl
  have x3 : prtB (hG ys (hA ys)).kind = prtB (hA ys).kind := rfl
  have x4 : fourB (hG ys (hA ys)) = fourB (hA ys) := rfl
  have x5 : trafB (hG ys (hA ys)).kind (hG ys (hA ys)).sub = trafB (hA ys).kind (hA ys).sub := rfl
  have hS : hdS (hA ys) = 4 + 6 * befN (hA ys) + bN (prtB (hA ys).kind) 2 + bN (fourB (hA ys)) 6 + bN (trafB (hA ys).kind (hA ys).sub) 2 := rfl
  unfold hdY sqB a4B qsB
  rw [x2, x3, x4, x5, ef]
  rcases forms hk with ⟨z1, z2, z3, z4, z5, z6⟩ | ⟨z1, z2, z3, z4, z5, z6⟩ | ⟨z1, z2, z3, z4⟩
  · rw [z3, z4, z5, z6] at hS ⊢
    rw [hS, adr1]
    exact ⟨fun _ => rfl, fun _ => rfl⟩
  · rw [z3, z4, z5, z6] at hS ⊢
    have a2 : (hG ys (hA ys)).a2 = aAt ys 10 := by show (bif !ctsB (hA ys) then aAt ys 10 else (hA ys).a2) = _; rw [z1]; rfl
    rw [hS, adr2, a2]
    exact ⟨fun _ => rfl, fun _ => rfl⟩
  · rw [z3, z4] at hS ⊢
    have a2 : (hG ys (hA ys)).a2 = aAt ys 10 := by show (bif !ctsB (hA ys) then aAt ys 10 else (hA ys).a2) = _; rw [z1]; rfl
    have a3 : (hG ys (hA ys)).a3 = aAt ys 16 := by show (bif !ctlB (hA ys) then aAt ys 16 else (hA ys).a3) = _; rw [z2]; rfl
    have as_ : (bif true then C01.leB 2 ((hG ys (hA ys)).frag.toNat + 16 * (hG ys (hA ys)).seq.toNat) else []) = [ys.getD 22 0, ys.getD 23 0] := by
      show C01.leB 2 ((bif prtB (hA ys).kind then ((tw ys 22 % 16 : Nat) : Int) else (hA ys).frag).toNat + 16 * (bif prtB (hA ys).kind then ((tw ys 22 / 16 : Nat) : Int) else (hA ys).seq).toNat) = _
      rw [z4]
      exact sq_back ys
    rw [adr3_, a2, a3, as_]
    cases z5 : fourB (hA ys) <;> cases z6 : trafB (hA ys).kind (hA ys).sub
    · rw [z5, z6] at hS
      rw [hS]
      exact ⟨fun _ => rfl, fun _ => rfl⟩
    · rw [z5, z6] at hS
      have hq : qN (hG ys (hA ys)) = ((tw ys 24 % 8 : Nat) : Int).toNat + bN (flq (tw ys 24) 4) 16 + 32 * (UInt8.ofNat (tw ys 24 / 32 % 4)).toNat + bN (flq (tw ys 24) 7) 128 := by
        unfold qN hG
        dsimp only
        rw [z6, hS]
        rfl
      have hb := qos_back (tw ys 24) (tw_lt _ _)
      rw [← hq] at hb
      have hlt : qN (hG ys (hA ys)) < 65536 := by
        rw [hq, Int.toNat_natCast, UInt8.toNat_ofNat']
        have : ∀ b n, bN b n ≤ n := fun b n => by cases b; exact Nat.zero_le _; exact Nat.le_refl _
        have := this (flq (tw ys 24) 4) 16
        have := ‹∀ b n, bN b n ≤ n› (flq (tw ys 24) 7) 128
        omega
      have hS' : hdS (hA ys) = 26 := hS
      generalize qN (hG ys (hA ys)) = q at *
      rw [hS', Bool.true_and, ← hb, ← le_inj hlt (tw_lt _ _), le_tw]
      show _ = _ ↔ _
      change [ys.getD 0 0, ys.getD 1 0, ys.getD 2 0, ys.getD 3 0] ++ ((aAt ys 4).bytes ++ (aAt ys 10).bytes ++ (aAt ys 16).bytes) ++ [ys.getD 22 0, ys.getD 23 0] ++ [] ++ C01.leB 2 q = ([ys.getD 0 0, ys.getD 1 0, ys.getD 2 0, ys.getD 3 0] ++ ((aAt ys 4).bytes ++ (aAt ys 10).bytes ++ (aAt ys 16).bytes) ++ [ys.getD 22 0, ys.getD 23 0] ++ []) ++ [ys.getD 24 0, ys.getD 25 0] ↔ _
      exact List.append_right_inj _
    · rw [z5, z6] at hS
      have a4 : (hG ys (hA ys)).a4 = aAt ys 24 := by show (bif fourB (hA ys) then aAt ys 24 else (hA ys).a4) = _; rw [z5]; rfl
      rw [hS, a4]
      exact ⟨fun _ => rfl, fun _ => rfl⟩
    · rw [z5, z6] at hS
      have a4 : (hG ys (hA ys)).a4 = aAt ys 24 := by show (bif fourB (hA ys) then aAt ys 24 else (hA ys).a4) = _; rw [z5]; rfl
      have hq : qN (hG ys (hA ys)) = ((tw ys 30 % 8 : Nat) : Int).toNat + bN (flq (tw ys 30) 4) 16 + 32 * (UInt8.ofNat (tw ys 30 / 32 % 4)).toNat + bN (flq (tw ys 30) 7) 128 := by
        unfold qN hG
        dsimp only
        rw [z6, hS]
        rfl
      have hb := qos_back (tw ys 30) (tw_lt _ _)
      rw [← hq] at hb
      have hlt : qN (hG ys (hA ys)) < 65536 := by
        rw [hq, Int.toNat_natCast, UInt8.toNat_ofNat']
        have : ∀ b n, bN b n ≤ n := fun b n => by cases b; exact Nat.zero_le _; exact Nat.le_refl _
        have := this (flq (tw ys 30) 4) 16
        have := ‹∀ b n, bN b n ≤ n› (flq (tw ys 30) 7) 128
        omega
      rw [a4]
      have hS' : hdS (hA ys) = 32 := hS
      generalize qN (hG ys (hA ys)) = q at *
      rw [hS', Bool.true_and, ← hb, ← le_inj hlt (tw_lt _ _), le_tw]
      show _ = _ ↔ _
      change [ys.getD 0 0, ys.getD 1 0, ys.getD 2 0, ys.getD 3 0] ++ ((aAt ys 4).bytes ++ (aAt ys 10).bytes ++ (aAt ys 16).bytes) ++ [ys.getD 22 0, ys.getD 23 0] ++ (aAt ys 24).bytes ++ C01.leB 2 q = ([ys.getD 0 0, ys.getD 1 0, ys.getD 2 0, ys.getD 3 0] ++ ((aAt ys 4).bytes ++ (aAt ys 10).bytes ++ (aAt ys 16).bytes) ++ [ys.getD 22 0, ys.getD 23 0] ++ (aAt ys 24).bytes) ++ [ys.getD 30 0, ys.getD 31 0] ↔ _
      exact List.append_right_inj _
end Go.Proofs.Ytbdcpahifcbcfaa
