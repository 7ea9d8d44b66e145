/-
  'Decode' of any bytes, and of encodings: plain law.
-/
import Derived.Test.YtbdcpahifcbcfaaVGv
import Derived.Test.YtbdcpahifcbcfaaVGp
import Derived.Test.YtbdcpahifcbcfaaXc
namespace Go.Proofs.Ytbdcpahifcbcfaa
open Go Go.RowKit Go.Hs
def vrE (xs : List UInt8) : Int := C03.vE C03.P32 C03.cb32 4 xs
def vrB (xs : List UInt8) : List UInt8 := C03.vB C03.P32 C03.cb32 4 xs
def dcE (xs : List UInt8) : Int := if vrE xs = 0 then decE (vrB xs) else vrE xs
def dcH (xs : List UInt8) : Hd := if dcE xs = 0 then hF (vrB xs) else h0_
def dcY (xs : List UInt8) : List UInt8 := if dcE xs = 0 then (s6 (vrB xs)).1 else []
theorem dc_fn (dv : Value) (xs : List UInt8) (hx : xs.length ≤ 1000000) :
    Ct Try.prog 10 [dv] [] [By dv xs]
    (X := Value) (fun _ => True) (fun x => .tuple #[(⟨dcH xs, x, dcY xs⟩ : Fm).val, .int .i64 (dcE xs)]) (fun _ => []) (fun x => [By x (dcY xs)]) :=
  decode_fn dv xs hx (vrB xs) rfl (dcE xs) rfl
theorem dcH_w (xs : List UInt8) : (dcH xs).w := by
  unfold dcH
  split
  · exact hF_w _
  · exact h0_w
theorem vr_made (xs : List UInt8) : vrE (crcB xs) = 0 ∧ vrB (crcB xs) = xs := ⟨C03.made_e C03.good32 xs, C03.made_b C03.good32 xs⟩
theorem dc_zero {xs : List UInt8} (h : ¬ dcE xs = 0) : dcH xs = h0_ ∧ dcY xs = [] := ⟨if_neg h, if_neg h⟩
/-- what is encoded is decoded. -/
theorem dc_enc {h : Hd} {body : List UInt8} (e : encE h body = 0) : dcE (encY h body) = 0 ∧ dcH (encY h body) = h ∧ dcY (encY h body) = body := by
  obtain ⟨k1, k2, k3⟩ := encE0 e
  obtain ⟨p1, p2, p3⟩ := hF_back k1 body
  obtain ⟨q1, q2, q3⟩ := hA_back k1 body
  have hY : encY h body = crcB (hdY h ++ body) := if_pos e
  obtain ⟨m1, m2⟩ := vr_made (hdY h ++ body)
  have hd : decE (hdY h ++ body) = 0 := by
    unfold decE
    have hl : 4 ≤ (hdY h ++ body).length := by rw [List.length_append, hdY_length]; unfold hdS; omega
    rw [if_neg (by omega), if_neg, p3, if_neg (show ¬ false = true from Bool.false_ne_true), if_neg, if_neg (by show ¬ 2304 < body.length; omega)]
    · unfold refB
      rw [p1, p2, p3, k1, k2]
      decide
    · rw [q1]
      rintro (c | c | c)
      · have : knB h.kind h.sub = true := (hd_prts k1).1
        rw [show knB (baseH h).kind (baseH h).sub = knB h.kind h.sub from rfl, this] at c
        cases c
      · exact c q2
      · omega
  have e0 : dcE (encY h body) = 0 := by unfold dcE; rw [hY, m1, if_pos rfl, m2, hd]
  refine ⟨e0, ?_, ?_⟩
  · unfold dcH; rw [if_pos e0, hY, m2, p1]
  · unfold dcY; rw [if_pos e0, hY, m2, p3]
/-- what is decoded is encoded to the same bytes. -/
theorem enc_dc {b : List UInt8} (e : dcE b = 0) : encE (dcH b) (dcY b) = 0 ∧ encY (dcH b) (dcY b) = b := by
  have hv : vrE b = 0 := by
    unfold dcE at e
    by_cases c : vrE b = 0
    · exact c
    · rw [if_neg c] at e; exact absurd e c
  have hd : decE (vrB b) = 0 := by unfold dcE at e; rw [if_pos hv] at e; exact e
  have e1 : dcH b = hF (vrB b) := if_pos e
  have e2 : dcY b = (s6 (vrB b)).1 := if_pos e
  rw [e1, e2]
  have hb : crcB (vrB b) = b := by
    rcases C03.vE_cases C03.P32 C03.cb32 4 b with ⟨-, h⟩ | h
    · have : vrB b = b.take (b.length - 4) := if_pos hv
      unfold crcB
      rw [this]
      exact h
    · exact absurd hv h
  generalize vrB b = ys at *
  unfold decE at hd
  by_cases c1 : ys.length < 2
  · rw [if_pos c1] at hd; cases hd
  rw [if_neg c1] at hd
  by_cases c2 : knB (hA ys).kind (hA ys).sub = false ∨ (dB ys 0).toNat % 4 ≠ 0 ∨ 128 ≤ (dB ys 1).toNat
  · rw [if_pos c2] at hd; cases hd
  rw [if_neg c2] at hd
  by_cases c3 : (s6 ys).2 = true
  · rw [if_pos c3] at hd; cases hd
  rw [if_neg c3] at hd
  by_cases c4 : refB ys = true
  · rw [if_pos c4] at hd; cases hd
  rw [if_neg c4] at hd
  by_cases c5 : 2304 < (s6 ys).1.length
  · rw [if_pos c5] at hd; cases hd
  have k1 : knB (hA ys).kind (hA ys).sub = true := by
    cases h : knB (hA ys).kind (hA ys).sub
    · exact absurd (.inl h) c2
    · rfl
  have k2 : (dB ys 0).toNat % 4 = 0 := by
    apply Decidable.byContradiction
    exact fun h => c2 (.inr (.inl h))
  have k3 : (dB ys 1).toNat < 128 := by
    apply Decidable.byContradiction
    exact fun h => c2 (.inr (.inr (by omega)))
  have k4 : hdS (hA ys) ≤ ys.length := by
    rw [s6_short, decide_eq_true_iff] at c3
    omega
  have c4' : refB ys = false := by cases h : refB ys; rfl; exact absurd h c4
  unfold refB at c4'
  rw [Bool.or_eq_false_iff, Bool.or_eq_false_iff, Bool.not_eq_false'] at c4'
  obtain ⟨o1, o2, o3⟩ := c4'
  have hE0 : encE (hF ys) (s6 ys).1 = 0 := by
    unfold encE
    rw [o2, o3]
    exact if_neg c5
  refine ⟨hE0, ?_⟩
  unfold encY
  rw [if_pos hE0, (hdY_dec ys k1 k2 k3 k4).2 o1]
  have : (s6 ys).1 = ys.drop (hdS (hA ys)) := by
    rw [s6_at]; unfold at_; rw [if_pos k4]
  rw [this, List.take_append_drop, hb]
end Go.Proofs.Ytbdcpahifcbcfaa
