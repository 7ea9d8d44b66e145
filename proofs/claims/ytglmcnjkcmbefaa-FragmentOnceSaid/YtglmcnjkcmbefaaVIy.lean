/-
  Plain law: the fragments of a frame in order give the frame once.
-/
import Derived.Test.YtglmcnjkcmbefaaVIv
namespace Go.Proofs.Ytglmcnjkcmbefaa
open Go Go.RowKit Go.Hs C05
/-- a frame that may be cut. -/
def Cx.sd (c : Cx) : Prop := sndB c.h c.b = true ∧ ¬ c.h.kind.toNat = 1 ∧ grpB c.h.a1 = false ∧ c.b.length ≤ 2304
theorem pc_snd {c : Cx} (hok : c.ok) (hsd : c.sd) {j : Nat} (hj : j < c.n) : sndB (c.pc j c.h.retry) (pcB c.b c.s j) = true := by
  obtain ⟨o1, o2, o3, o4⟩ := hok
  obtain ⟨hs, hk, hg, _⟩ := hsd
  by_cases hn : c.b.length = 0
  · have hn1 : c.n = 1 := by unfold Cx.n manyN; rw [if_pos hn]
    obtain rfl : j = 0 := by omega
    have e1 : c.pc 0 c.h.retry = c.h := by
      unfold Cx.pc
      rw [hn1, show ((0 : Nat) : Int) = c.h.frag from o2.symm, show decide (0 + 1 < 1) = c.h.more from o1.symm]
    have e2 : pcB c.b c.s 0 = c.b := by
      rw [List.length_eq_zero_iff.1 hn]; unfold pcB; simp
    rw [e1, e2]; exact hs
  · unfold sndB at hs ⊢
    rw [Bool.and_eq_true] at hs
    obtain ⟨hv, hb⟩ := hs
    have hba : barB c.h = false := by
      cases e : barB c.h
      · rfl
      · rw [e, decide_eq_true (by omega : 0 < c.b.length)] at hb; cases hb
    have hba' : barB (c.pc j c.h.retry) = false := hba
    rw [hba', Bool.false_and, Bool.not_false, Bool.and_true]
    obtain ⟨h1, h2, h3, h4, h5⟩ := hd_parts hv
    have hkd : prtB c.h.kind = true := by
      unfold prtB
      unfold knB at h1
      rw [decide_eq_true_eq]
      by_cases k0 : c.h.kind.toNat = 0
      · exact .inl k0
      · by_cases k2 : c.h.kind.toNat = 2
        · exact .inr k2
        · rw [if_neg k0, if_neg hk, if_neg k2] at h1; cases h1
    have g2 : restH (c.pc j c.h.retry) = h0_ := by
      show restP (adN c.h) (decide (c.h.kind.toNat = 2)) (prtB c.h.kind) (trafB c.h.kind c.h.sub) (c.pc j c.h.retry) = h0_
      unfold restH at h2
      rw [hkd] at h2 ⊢
      exact h2
    have g3 : rngB (c.pc j c.h.retry) = true := by
      unfold rngB at h3 ⊢
      simp only [Bool.and_eq_true, decide_eq_true_eq] at h3 ⊢
      refine ⟨h3.1, h3.2.1, ⟨?_, ?_⟩, h3.2.2.2.1, h3.2.2.2.2⟩
      · show (0 : Int) ≤ (j : Int); omega
      · show (j : Int) ≤ 15; omega
    have g4 : gpsB (c.pc j c.h.retry) = true := by
      unfold gpsB at h4 ⊢
      rw [Bool.and_eq_true] at h4 ⊢
      refine ⟨h4.1, ?_⟩
      show (whoB (c.pc j c.h.retry) || !grpB c.h.a1) = true
      rw [hg]; simp
    have hnu : nulB c.h = false := by
      unfold barB at hba
      exact (Bool.or_eq_false_iff.1 hba).1
    have g5 : badB (c.pc j c.h.retry) = false := by
      unfold badB
      rw [show nulB (c.pc j c.h.retry) = nulB c.h from rfl, hnu]; rfl
    unfold hdB
    rw [show knB (c.pc j c.h.retry).kind (c.pc j c.h.retry).sub = true from h1, decide_eq_true g2, g3, g4, g5]; rfl
theorem pc_len4 {c : Cx} (hsd : c.sd) (j : Nat) : (pcB c.b c.s j).length ≤ 2304 := by
  obtain ⟨_, _, _, h⟩ := hsd
  unfold pcB
  rw [List.length_take, List.length_drop]
  omega
theorem colR_in {L : List Pz} {h : Hd} {b : List UInt8} {now : Int} (v : validC L = true) (n0 : 0 ≤ now) (n1 : now ≤ maxT) (hf : ∀ q ∈ L, now - q.since ≤ 500000) (hs : sndB h b = true) (hb : b.length ≤ 2304) (hk : ¬ h.kind.toNat = 1) : colR L h b now = colG L h b now := by
  have he : exE L now = 0 := by
    unfold exE
    rw [if_pos (chk_valid.2 v), late_iff.2 ⟨n0, n1⟩]; rfl
  have hL : exL L now = L := by
    unfold exL
    rw [if_pos he]
    refine List.filter_eq_self.2 fun q hq => ?_
    unfold freshP
    exact decide_eq_true (hf q hq)
  unfold colR
  rw [if_neg (fun e => e he), if_neg (by rw [hs]; rintro (h | h); cases h; omega), if_neg hk, hL]
/-- the part that belongs to the frame. -/
def Has (c : Cx) (i : Nat) (L : List Pz) : Prop := ∃ p ∈ L, p.head = c.pc 0 c.h.retry ∧ p.next = (i : Int) ∧ p.body = c.b.take (i * c.s)
def Tim (L : List Pz) : Prop := ∀ q ∈ L, 20000 ≤ q.since ∧ q.since ≤ 320000
/-- what stands ahead of fragment i. -/
def InvO (c : Cx) (i : Nat) (L : List Pz) : Prop := validC L = true ∧ Tim L ∧ L.length ≤ i + 1 ∧ (i = 0 → L = []) ∧ (0 < i → i < c.n → Has c i L)
/-- what stands behind fragment i. -/
def MidO (c : Cx) (i : Nat) (L : List Pz) : Prop := validC L = true ∧ Tim L ∧ L.length ≤ i + 1 ∧ (i + 1 < c.n → Has c (i + 1) L)
theorem MidO.inv {c : Cx} {i : Nat} {L : List Pz} (h : MidO c i L) : InvO c (i + 1) L := ⟨h.1, h.2.1, by have := h.2.2.1; omega, fun e => absurd e (by omega), fun _ e => h.2.2.2 e⟩
theorem wh_pc {c : Cx} (hok : c.ok) : whH (c.pc 0 c.h.retry) = { c.h with retry := false } := by
  obtain ⟨o1, o2, _, _⟩ := hok
  unfold whH Cx.pc
  show ({ c.h with frag := ((0 : Nat) : Int), more := false, retry := false } : Hd) = _
  rw [show ((0 : Nat) : Int) = c.h.frag from o2.symm]
  show ({ c.h with more := false, retry := false } : Hd) = _
  rw [← o1]
theorem has_at {c : Cx} {i : Nat} {L : List Pz} (hv : validC L = true) {p : Pz} (hp : p ∈ L) (h1 : p.head = c.pc 0 c.h.retry) (j : Nat) (f : Pz → Pz) : inS (c.pc j c.h.retry) p = true ∧ ∃ k, L[k]? = some p ∧
    (L.filter fun q => !inS (c.pc j c.h.retry) q) = L.eraseIdx k ∧ L.find? (inS (c.pc j c.h.retry)) = some p ∧ (L.map fun q => if inS (c.pc j c.h.retry) q = true then f q else q) = L.set k (f p) := by
  have hi : inS (c.pc j c.h.retry) p = true := inS_iff.2 (by unfold stP; rw [h1]; rfl)
  obtain ⟨k, hk⟩ := List.mem_iff_getElem?.1 hp
  obtain ⟨a, b, d⟩ := nd_at f (valid_nd hv).2.1 hk hi
  exact ⟨hi, k, hk, a, b, d⟩
theorem once_step {c : Cx} (hok : c.ok) (hsd : c.sd) {i : Nat} (hi : i < c.n) {L : List Pz} (hI : InvO c i L) : ∃ nl, MidO c i nl ∧
    ((i + 1 < c.n ∧ colR L (c.pc i c.h.retry) (pcB c.b c.s i) (20000 * ((i : Int) + 1)) = ⟨0, false, h0_, [], nl⟩) ∨ (¬ i + 1 < c.n ∧ colR L (c.pc i c.h.retry) (pcB c.b c.s i) (20000 * ((i : Int) + 1)) = ⟨0, true, { c.h with retry := false }, c.b, nl⟩)) := by
  obtain ⟨v, ti, hl, hz, hs⟩ := hI
  have hn16 := hok.2.2.2
  have hps := pc_snd hok hsd hi
  have hpl := pc_len4 hsd i
  have hpk : ¬ (c.pc i c.h.retry).kind.toNat = 1 := hsd.2.1
  have n0 : (0 : Int) ≤ 20000 * ((i : Int) + 1) := by omega
  have n2 : 20000 * ((i : Int) + 1) ≤ 320000 := by omega
  have n1 : 20000 * ((i : Int) + 1) ≤ maxT := by unfold maxT; omega
  have hG := colR_in v n0 n1 (fun q hq => by have := (ti q hq).1; omega) hps hpl hpk
  have hvl := @colG_valid L (c.pc i c.h.retry) (pcB c.b c.s i) (20000 * ((i : Int) + 1)) v ⟨n0, n1⟩ hps hpl hpk
  rw [hG]
  have hmo : (c.pc i c.h.retry).more = decide (i + 1 < c.n) := rfl
  have hfr : (c.pc i c.h.retry).frag = (i : Int) := rfl
  by_cases i0 : i = 0
  · subst i0
    obtain rfl := hz rfl
    have hg : colG [] (c.pc 0 c.h.retry) (pcB c.b c.s 0) (20000 * (((0 : Nat) : Int) + 1)) = colF [] (c.pc 0 c.h.retry) (pcB c.b c.s 0) (20000 * (((0 : Nat) : Int) + 1)) := by
      unfold colG
      rw [if_pos (show (c.pc 0 c.h.retry).frag = 0 from rfl)]; rfl
    rw [hg] at hvl ⊢
    unfold colF at hvl ⊢
    by_cases hm : 0 + 1 < c.n
    · rw [if_pos (by rw [hmo]; exact decide_eq_true hm)] at hvl ⊢
      refine ⟨_, ⟨hvl rfl, fun q hq => ?_, ?_, fun _ => ⟨_, List.mem_append_right _ (List.mem_singleton.2 rfl), rfl, rfl, ?_⟩⟩, .inl ⟨hm, rfl⟩⟩
      · rcases List.mem_append.1 hq with hq | hq
        · cases (room_sub []).subset hq
        · rcases List.mem_singleton.1 hq with rfl
          exact ⟨by show (20000 : Int) ≤ 20000 * (((0 : Nat) : Int) + 1); omega, n2⟩
      · exact Nat.le_refl 1
      · show pcB c.b c.s 0 = _
        unfold pcB
        rw [Nat.zero_mul, List.drop_zero, Nat.zero_add, Nat.one_mul]
    · rw [if_neg (by rw [hmo, decide_eq_false hm]; decide)] at hvl ⊢
      have hbb : pcB c.b c.s 0 = c.b := by
        have hall := pc_all (b := c.b) hok.2.2.1
        have : manyN c.b.length c.s = 1 := by
          have h1 : c.n = manyN c.b.length c.s := rfl
          omega
        rw [this, Nat.one_mul] at hall
        unfold pcB
        rw [Nat.zero_mul, List.drop_zero]
        exact hall
      rw [wh_pc hok, hbb] at *
      exact ⟨[], ⟨rfl, (fun q (hq : q ∈ []) => absurd hq List.not_mem_nil), Nat.zero_le _, fun h => absurd h hm⟩, .inr ⟨hm, rfl⟩⟩
  · obtain ⟨p, hp, e1, e2, e3⟩ := hs (by omega) hi
    have hbd : p.body ++ pcB c.b c.s i = c.b.take ((i + 1) * c.s) := by rw [e3]; exact pc_next c.b c.s i
    have hbl : p.body.length + (pcB c.b c.s i).length ≤ 2304 := by
      rw [← List.length_append, hbd, List.length_take]
      have := hsd.2.2.2
      omega
    obtain ⟨hin, k, hk, f1, f2, f3⟩ := has_at (i := i) v hp e1 i (fun q => ⟨q.head, q.next + 1, q.body ++ pcB c.b c.s i, q.since⟩)
    have hg : colG L (c.pc i c.h.retry) (pcB c.b c.s i) (20000 * ((i : Int) + 1)) = colN p L (c.pc i c.h.retry) (pcB c.b c.s i) := by
      unfold colG
      rw [if_neg (by rw [hfr]; omega), f2]
    rw [hg] at hvl ⊢
    unfold colN at hvl ⊢
    rw [if_neg (fun h => h (by rw [e1]; rfl)), if_neg (by rw [hfr, e2]; omega), if_neg (by rw [hfr, e2]; omega), if_neg (by omega)] at hvl ⊢
    have hkl : k < L.length := (List.getElem?_eq_some_iff.1 hk).1
    by_cases hm : i + 1 < c.n
    · rw [if_pos (by rw [hmo]; exact decide_eq_true hm)] at hvl ⊢
      rw [f3] at hvl ⊢
      refine ⟨_, ⟨hvl rfl, fun q hq => ?_, ?_, fun _ => ⟨⟨p.head, p.next + 1, p.body ++ pcB c.b c.s i, p.since⟩, ?_, e1, ?_, hbd⟩⟩, .inl ⟨hm, rfl⟩⟩
      · rcases List.mem_or_eq_of_mem_set hq with hq | rfl
        · exact ti q hq
        · exact ti p hp
      · show (L.set k _).length ≤ i + 1
        rw [List.length_set]
        exact hl
      · exact List.mem_set hkl _
      · show p.next + 1 = ((i + 1 : Nat) : Int)
        rw [e2]; rfl
    · rw [if_neg (by rw [hmo, decide_eq_false hm]; decide)] at hvl ⊢
      rw [f1] at hvl ⊢
      have hn : i + 1 = c.n := by omega
      have hall : p.body ++ pcB c.b c.s i = c.b := by rw [hbd, hn]; exact pc_all hok.2.2.1
      refine ⟨_, ⟨hvl rfl, fun q hq => ti q (List.mem_of_mem_eraseIdx hq), ?_, fun h => absurd h hm⟩, .inr ⟨hm, ?_⟩⟩
      · have := List.length_eraseIdx_le L k
        show (L.eraseIdx k).length ≤ i + 1
        omega
      · rw [hall, e1, wh_pc hok]
theorem once_again {c : Cx} (hok : c.ok) (hsd : c.sd) {i j : Nat} (hi : i + 1 < c.n) (h1 : 1 ≤ j) (h2 : j ≤ i) {L : List Pz} (hI : MidO c i L) : colR L (c.pc j c.h.retry) (pcB c.b c.s j) (20000 * ((i : Int) + 1)) = badR 21 := by
  obtain ⟨v, ti, hl, hs⟩ := hI
  have hn16 := hok.2.2.2
  have n0 : (0 : Int) ≤ 20000 * ((i : Int) + 1) := by omega
  have n1 : 20000 * ((i : Int) + 1) ≤ maxT := by unfold maxT; omega
  rw [colR_in v n0 n1 (fun q hq => by have := (ti q hq).1; omega) (pc_snd hok hsd (j := j) (by omega)) (pc_len4 hsd j) hsd.2.1]
  obtain ⟨p, hp, e1, e2, e3⟩ := hs hi
  obtain ⟨hin, k, hk, f1, f2, f3⟩ := has_at (i := i) v hp e1 j id
  have hfr : (c.pc j c.h.retry).frag = (j : Int) := rfl
  unfold colG
  rw [if_neg (by rw [hfr]; omega), f2]
  show colN p L _ _ = _
  unfold colN
  rw [if_neg (fun h => h (by rw [e1]; rfl)), if_pos (by rw [hfr, e2]; omega)]
theorem once_other {c : Cx} {i : Nat} (hi : i ≤ 6) (hc : c.n ≤ 16) {L : List Pz} (hI : MidO c i L) {h : Hd} {b : List UInt8} (hf : h.frag = 0) (hne : hdB h = true → stO h ≠ stO c.h) (he : (colR L h b (20000 * ((i : Int) + 1))).e = 0) :
    InvO c (i + 1) (colR L h b (20000 * ((i : Int) + 1))).nl := by
  have hvl := col_valid he
  obtain ⟨v, ti, hl, hs⟩ := hI
  rcases col_cases (L := L) (h := h) (b := b) (now := 20000 * ((i : Int) + 1)) with ⟨_, h2⟩ | ⟨h1, _, n1, n2, hsn, hb, hk⟩
  · exact absurd he h2
  have hfa : L.filter (freshP (20000 * ((i : Int) + 1))) = L := by
    refine List.filter_eq_self.2 fun q hq => ?_
    unfold freshP
    have := (ti q hq).1
    exact decide_eq_true (by omega)
  rw [hfa] at h1
  rw [h1] at he hvl ⊢
  have hst := hne (snd_hd hsn)
  have hflt : ∀ q ∈ L, stP q = stO c.h → q ∈ L.filter fun q => !inS h q := fun q hq e => List.mem_filter.2 ⟨hq, by
    cases e2 : inS h q
    · rfl
    · exact absurd ((inS_iff.1 e2).symm.trans e) hst⟩
  have hfl := List.length_filter_le (fun q => !inS h q) L
  have hroom : roomL (L.filter fun q => !inS h q) = L.filter fun q => !inS h q := by
    unfold roomL
    rw [if_neg (by omega)]
  have hhas : i + 1 < c.n → Has c (i + 1) (L.filter fun q => !inS h q) := fun hm => by
    obtain ⟨p, hp, e1, e2, e3⟩ := hs hm
    exact ⟨p, hflt p hp (by unfold stP; rw [e1]; rfl), e1, e2, e3⟩
  rcases colG_cases L h b (20000 * ((i : Int) + 1)) with ⟨e, g1, g2⟩ | ⟨_, _, g3⟩ | ⟨_, _, g3⟩ | ⟨g1, _⟩
  · rw [g2] at he
    exact absurd he g1
  · rw [g3, hroom] at hvl ⊢
    refine ⟨hvl, fun q hq => ?_, ?_, fun e => absurd e (by omega), fun _ hm => ?_⟩
    · rcases List.mem_append.1 hq with hq | hq
      · exact ti q (List.mem_filter.1 hq).1
      · rcases List.mem_singleton.1 hq with rfl
        exact ⟨by show (20000 : Int) ≤ 20000 * ((i : Int) + 1); omega, by show 20000 * ((i : Int) + 1) ≤ 320000; omega⟩
    · rw [List.length_append]
      show _ + 1 ≤ _
      omega
    · obtain ⟨p, hp, h⟩ := hhas hm
      exact ⟨p, List.mem_append_left _ hp, h⟩
  · rw [g3] at hvl ⊢
    exact ⟨hvl, fun q hq => ti q (List.mem_filter.1 hq).1, by show (L.filter _).length ≤ _; omega, fun e => absurd e (by omega), fun _ hm => hhas hm⟩
  · exact absurd hf g1
end Go.Proofs.Ytglmcnjkcmbefaa
