/-
  The mathematics of encoding and decoding: what is encoded is decoded to the same, and what is decoded was encoded so. No program is named here.
-/
import Derived.Test.YtahkcidnmdcaaaaEc
namespace Go.Proofs.Ytahkcidnmdcaaaa
open Go Go.RowKit Go.Hs

/-- a content after the Id, part by part. -/
def bod : Nat → List UInt8 → List UInt8
  | 0, c => UInt8.ofNat c.length :: c
  | f + 1, c => if 255 ≤ c.length then 255 :: (c.take 255 ++ 254 :: bod f (c.drop 255)) else UInt8.ofNat c.length :: c
def withX (id ext : UInt8) (c : List UInt8) : List UInt8 := if id = 255 then ext :: c else c
def inn (id : UInt8) (data sub : List UInt8) : List UInt8 := if contB id then sub else data
def enc : Fo → List UInt8
  | .nil => []
  | .cons id ext data subs next => (id :: bod (withX id ext (inn id data (enc subs))).length (withX id ext (inn id data (enc subs)))) ++ enc next
def cnt : Fo → Nat
  | .nil => 0
  | .cons _ _ _ subs next => 1 + cnt subs + cnt next
def dep : Fo → Nat
  | .nil => 0
  | .cons _ _ _ subs next => max (1 + dep subs) (dep next)
def isN : Fo → Bool
  | .nil => true
  | _ => false
/-- an element by itself, its list aside. -/
def own (id ext : UInt8) (data : List UInt8) (subs : Fo) : Bool :=
  (! decide (id = 254)) && (decide (id = 255) || decide (ext = 0)) && (if contB id then data.isEmpty else isN subs)
def val : Fo → Bool
  | .nil => true
  | .cons id ext data subs next => own id ext data subs && val subs && val next
def fit : Fo → Bool
  | .nil => true
  | .cons id _ data subs next => decide ((inn id data (enc subs)).length ≤ 1024) && (! contB id || fit subs) && fit next
def chk (t : Fo) : Int := if 64 < cnt t ∨ 4 < dep t then 4 else if val t = false then 8 else if fit t = false then 11 else 0

theorem isN_iff {t : Fo} : isN t = true ↔ t = .nil := by cases t <;> simp [isN]
theorem bod_fuel : ∀ (f : Nat) (c : List UInt8), c.length ≤ f → bod f c = bod c.length c := by
  intro f
  induction f using Nat.strongRecOn with
  | _ f ih =>
    intro c h
    cases f with
    | zero =>
      obtain rfl : c = [] := List.eq_nil_of_length_eq_zero (by omega)
      rfl
    | succ f =>
      by_cases h1 : 255 ≤ c.length
      · obtain ⟨k, hk⟩ : ∃ k, c.length = k + 1 := ⟨c.length - 1, by omega⟩
        rw [hk, bod, bod, if_pos h1, if_pos h1, ih f (by omega) _ (by rw [List.length_drop]; omega), ih k (by omega) _ (by rw [List.length_drop]; omega)]
      · have e : ∀ g, bod g c = UInt8.ofNat c.length :: c := fun g => by
          cases g with
          | zero => rfl
          | succ g => rw [bod, if_neg h1]
        rw [e, e]
theorem bod_small {f : Nat} {c : List UInt8} (h : c.length < 255) : bod f c = UInt8.ofNat c.length :: c := by
  cases f with
  | zero => rfl
  | succ g => rw [bod, if_neg (by omega)]
theorem bod_big {c : List UInt8} (h : 255 ≤ c.length) : bod c.length c = 255 :: (c.take 255 ++ 254 :: bod (c.drop 255).length (c.drop 255)) := by
  obtain ⟨k, hk⟩ : ∃ k, c.length = k + 1 := ⟨c.length - 1, by omega⟩
  rw [hk, bod, if_pos h, bod_fuel k _ (by rw [List.length_drop]; omega)]
theorem bod_pos (f : Nat) (c : List UInt8) : 0 < (bod f c).length := by
  cases f with
  | zero => simp [bod]
  | succ f =>
    rw [bod]
    split <;> simp

theorem whole_bod : ∀ (n : Nat) (c rest : List UInt8) (g : Nat), c.length = n → (bod c.length c ++ rest).length ≤ g → whole g (bod c.length c ++ rest) = (c, rest, 0) := by
  intro n
  induction n using Nat.strongRecOn with
  | _ n ih =>
    intro c rest g hn hg
    cases g with
    | zero =>
      have := bod_pos c.length c
      rw [List.length_append] at hg
      omega
    | succ g =>
      by_cases h1 : 255 ≤ c.length
      · rw [bod_big h1] at hg ⊢
        have e1 : ((255 :: (c.take 255 ++ 254 :: bod (c.drop 255).length (c.drop 255)) ++ rest : List UInt8)) = 255 :: (c.take 255 ++ 254 :: (bod (c.drop 255).length (c.drop 255) ++ rest)) := by simp
        rw [e1] at hg ⊢
        have hl : (c.take 255).length = 255 := by rw [List.length_take]; omega
        have hp := bod_pos (c.drop 255).length (c.drop 255)
        have e2 : (c.take 255 ++ 254 :: (bod (c.drop 255).length (c.drop 255) ++ rest)).length = 256 + (bod (c.drop 255).length (c.drop 255)).length + rest.length := by
          simp only [List.length_append, List.length_cons, hl]
          omega
        rw [List.length_cons, e2] at hg
        have h255 : (255 : UInt8).toNat = 255 := rfl
        rw [whole, if_neg (by rw [List.length_cons, e2]; simp only [List.getD_cons_zero, h255]; omega), if_neg (by simp only [List.getD_cons_zero, h255]; omega), if_neg (by rw [List.length_cons, e2]; omega)]
        have e3 : (255 :: (c.take 255 ++ 254 :: (bod (c.drop 255).length (c.drop 255) ++ rest))).getD 256 0 = 254 := by
          rw [List.getD_cons_succ, List.getD_eq_getElem?_getD, List.getElem?_append_right (by omega), hl]
          rfl
        have e4 : (255 :: (c.take 255 ++ 254 :: (bod (c.drop 255).length (c.drop 255) ++ rest))).drop 257 = bod (c.drop 255).length (c.drop 255) ++ rest := by
          rw [show (257 : Nat) = 256 + 1 from rfl, List.drop_succ_cons]
          generalize c.take 255 = u at hl
          rw [List.drop_append, List.drop_of_length_le (by omega), hl]
          rfl
        have e5 : ((255 :: (c.take 255 ++ 254 :: (bod (c.drop 255).length (c.drop 255) ++ rest))).drop 1).take 255 = c.take 255 := by
          rw [List.drop_succ_cons, List.drop_zero]
          exact List.take_left' hl
        rw [if_neg (fun h => h e3), e4, e5]
        have hd : (c.drop 255).length = n - 255 := by rw [List.length_drop, hn]
        rw [ih (n - 255) (by omega) (c.drop 255) rest g hd (by rw [List.length_append]; omega), wcat, if_pos rfl, List.take_append_drop]
      · rw [bod_small (by omega)] at hg ⊢
        have ec : (UInt8.ofNat c.length).toNat = c.length := by rw [UInt8.toNat_ofNat']; omega
        rw [List.cons_append] at hg ⊢
        rw [whole, if_neg (by simp only [List.length_cons, List.getD_cons_zero, ec, List.length_append]; omega), if_pos (by simp only [List.getD_cons_zero, ec]; omega)]
        simp only [List.getD_cons_zero, ec, List.drop_succ_cons, List.drop_zero, Nat.add_comm 1]
        rw [List.take_left' rfl, List.drop_left' rfl]

theorem getD_cons_drop {b : List UInt8} {i : Nat} (h : i < b.length) : b.drop i = b.getD i 0 :: b.drop (i + 1) := by
  rw [List.getD_eq_getElem?_getD, List.getElem?_eq_getElem h]
  exact List.drop_eq_getElem_cons h
theorem whole_inv : ∀ (g : Nat) (b c rest : List UInt8), whole g b = (c, rest, 0) → b = bod c.length c ++ rest
  | 0, _, _, _, h => by cases h
  | g + 1, b, c, rest, h => by
    rw [whole] at h
    split at h
    · cases h
    · next h1 =>
      have h0 : 0 < b.length := by omega
      have hn := u8le (b.getD 0 0)
      have hb := getD_cons_drop h0
      rw [List.drop_zero] at hb
      split at h
      · next h2 =>
        injection h with e1 e2
        injection e2 with e2 e3
        have hl : c.length = (b.getD 0 0).toNat := by rw [← e1, List.length_take, List.length_drop]; omega
        rw [bod_small (by omega), hl]
        have e0 : UInt8.ofNat (b.getD 0 0).toNat = b.getD 0 0 := UInt8.ofNat_toNat
        rw [e0, List.cons_append, ← e1, ← e2, ← List.drop_drop, List.take_append_drop]
        exact hb
      · next h2 =>
        split at h
        · cases h
        · next h3 =>
          split at h
          · cases h
          · next h4 =>
            rw [wcat] at h
            split at h
            · next h5 =>
              obtain ⟨c', r', e'⟩ : ∃ c' r', whole g (b.drop 257) = (c', r', 0) := ⟨_, _, by rw [← h5]⟩
              have ih := whole_inv g _ _ _ e'
              rw [e'] at h
              injection h with e1 e2
              injection e2 with e2 e3
              subst e1
              subst e2
              have h255 : b.getD 0 0 = 255 := by
                apply UInt8.toNat_inj.1
                rw [show (255 : UInt8).toNat = 255 from rfl]
                omega
              have hl : ((b.drop 1).take 255).length = 255 := by rw [List.length_take, List.length_drop]; omega
              have hl2 : ((b.drop 1).take 255 ++ c').length = 255 + c'.length := by rw [List.length_append, hl]
              rw [bod_big (show 255 ≤ ((b.drop 1).take 255 ++ c').length by omega), List.take_left' hl, List.drop_left' hl]
              have h256 := getD_cons_drop (b := b) (i := 256) (by omega)
              rw [Decidable.not_not.1 h4, ih] at h256
              have e6 : b = 255 :: b.drop 1 := by rw [← h255]; exact hb
              have e7 : b.drop 1 = (b.drop 1).take 255 ++ b.drop 256 := by
                have := (List.take_append_drop 255 (b.drop 1)).symm
                rwa [List.drop_drop] at this
              rw [h256] at e7
              rw [List.cons_append, List.append_assoc, List.cons_append, ← e7]
              exact e6
            · next h5 => exact absurd (by injection h with _ e2; injection e2) h5

theorem bod_head {id : UInt8} {c rest : List UInt8} : ((id :: bod c.length c) ++ rest).getD 0 0 = id := rfl
theorem whole_at {id : UInt8} {c rest : List UInt8} : whole (((id :: bod c.length c) ++ rest).length - 1) (((id :: bod c.length c) ++ rest).drop 1) = (c, rest, 0) :=
  whole_bod _ c rest _ rfl (by simp)
theorem cont255 : contB 255 = false := rfl
theorem cont254 : contB 254 = false := rfl

theorem dec_enc : ∀ (t : Fo) (F d m : Nat), val t = true → fit t = true → d + dep t ≤ 5 → (enc t).length ≤ F → m ≤ 64 →
    dec F (enc t) d m = if m + cnt t ≤ 64 then (t, m + cnt t, 0) else (.nil, 64, 4)
  | .nil, F, d, m, _, _, _, _, hm => by
    rw [enc, dec_nil, cnt, if_pos (by omega)]
    rfl
  | .cons id ext data subs next, F, d, m, hv, hf, hd, hF, hm => by
    simp only [val, fit, dep, Bool.and_eq_true, decide_eq_true_eq] at hv hf hd
    obtain ⟨⟨hv1, hv2⟩, hv3⟩ := hv
    obtain ⟨⟨hf1, hf2⟩, hf3⟩ := hf
    simp only [own, Bool.and_eq_true, Bool.or_eq_true, decide_eq_true_eq, Bool.not_eq_true', decide_eq_false_iff_not] at hv1
    obtain ⟨⟨o1, o2⟩, o3⟩ := hv1
    rw [enc] at hF ⊢
    cases F with
    | zero => simp at hF
    | succ F =>
      have hlen : (enc next).length ≤ F ∧ (withX id ext (inn id data (enc subs))).length ≤ F := by
        have h1 := bod_pos (withX id ext (inn id data (enc subs))).length (withX id ext (inn id data (enc subs)))
        have h2 := whole_len _ _ (show (whole (((id :: bod (withX id ext (inn id data (enc subs))).length (withX id ext (inn id data (enc subs)))) ++ enc next).length - 1) (((id :: bod (withX id ext (inn id data (enc subs))).length (withX id ext (inn id data (enc subs)))) ++ enc next).drop 1)).2.2 = 0 by rw [whole_at])
        rw [whole_at] at h2
        simp only [List.length_drop] at h2
        omega
      have ihs := fun (hc : contB id = true) (h1 : m + 1 ≤ 64) => dec_enc subs F (d + 1) (m + 1) hv2 (by rw [hc] at hf2; simpa using hf2) (by omega) (by
        have := hlen.2
        rw [inn, if_pos hc, withX] at this
        split at this
        · simp at this; omega
        · exact this) h1
      have ihn := fun m' (h : m' ≤ 64) => dec_enc next F d m' hv3 hf3 (by omega) hlen.1 h
      rw [dec, if_neg (by simp)]
      by_cases c1 : m = 64
      · have e1 : one1 (dec F) ((id :: bod (withX id ext (inn id data (enc subs))).length (withX id ext (inn id data (enc subs)))) ++ enc next) d m = ⟨0, 0, [], .nil, [], m, 4⟩ := if_pos c1
        rw [e1, if_pos (show ¬ (4 : Int) = 0 by decide), cnt, if_neg (by omega), c1]
      · have base : one1 (dec F) ((id :: bod (withX id ext (inn id data (enc subs))).length (withX id ext (inn id data (enc subs)))) ++ enc next) d m =
            if lim id < (withX id ext (inn id data (enc subs))).length then ⟨id, 0, [], .nil, [], m + 1, 11⟩
            else if id = 255 then
              (if (withX id ext (inn id data (enc subs))).length = 0 then ⟨id, 0, [], .nil, [], m + 1, 12⟩
               else ⟨id, (withX id ext (inn id data (enc subs))).getD 0 0, (withX id ext (inn id data (enc subs))).drop 1, .nil, enc next, m + 1, 0⟩)
            else if contB id = false then ⟨id, 0, (withX id ext (inn id data (enc subs))), .nil, enc next, m + 1, 0⟩
            else if d = 4 ∧ 0 < (withX id ext (inn id data (enc subs))).length then ⟨id, 0, [], .nil, [], m + 1, 4⟩
            else ⟨id, 0, [], (dec F (withX id ext (inn id data (enc subs))) (d + 1) (m + 1)).1, enc next, (dec F (withX id ext (inn id data (enc subs))) (d + 1) (m + 1)).2.1, (dec F (withX id ext (inn id data (enc subs))) (d + 1) (m + 1)).2.2⟩ := by
          rw [one1, if_neg c1, bod_head, if_neg o1, whole_at, if_neg (fun h => h rfl)]
        have fin : ∀ (id ext : UInt8) (data : List UInt8) (subs : Fo) (k : Nat), m + 1 + k ≤ 64 → dcat (.cons id ext data subs .nil) (dec F (enc next) d (m + 1 + k)) = if m + (1 + k + cnt next) ≤ 64 then (.cons id ext data subs next, m + (1 + k + cnt next), 0) else (.nil, 64, 4) := fun id ext data subs k hk => by
          rw [ihn _ hk]
          by_cases h5 : m + 1 + k + cnt next ≤ 64
          · rw [if_pos h5, if_pos (by omega), dcat, if_pos rfl]
            simp only [fapp, Prod.mk.injEq, and_true, true_and]
            omega
          · rw [if_neg h5, if_neg (by omega), dcat, if_neg (by decide)]
        by_cases c2 : id = 255
        · subst c2
          have hw : withX 255 ext (inn 255 data (enc subs)) = ext :: data := rfl
          rw [show inn 255 data (enc subs) = data from rfl] at hf1
          have hs : subs = .nil := isN_iff.1 o3
          subst hs
          have e1 : one1 (dec F) ((255 :: bod (withX 255 ext (inn 255 data (enc .nil))).length (withX 255 ext (inn 255 data (enc .nil)))) ++ enc next) d m = ⟨255, ext, data, .nil, enc next, m + 1, 0⟩ := by
            rw [base, hw, if_neg (by rw [lim, if_pos rfl, List.length_cons]; omega), if_pos rfl, if_neg (by simp)]
            rfl
          rw [e1, if_neg (fun h => h rfl), cnt, cnt]
          exact fin 255 ext data .nil 0 (by omega)
        · have he : ext = 0 := o2.resolve_left c2
          subst he
          have hw : withX id 0 (inn id data (enc subs)) = inn id data (enc subs) := if_neg c2
          rw [hw] at hlen base ⊢
          rw [if_neg (by rw [lim, if_neg c2]; omega), if_neg c2] at base
          cases c3 : contB id with
          | false =>
            rw [c3] at o3
            have hs : subs = .nil := isN_iff.1 o3
            subst hs
            rw [if_pos c3, show inn id data (enc .nil) = data by rw [inn, c3]; rfl] at base
            rw [show inn id data (enc .nil) = data by rw [inn, c3]; rfl, base, if_neg (fun h => h rfl), cnt, cnt]
            exact fin id 0 data .nil 0 (by omega)
          | true =>
            rw [c3] at o3
            have hdt : data = [] := List.isEmpty_iff.1 o3
            subst hdt
            have hi : inn id [] (enc subs) = enc subs := by rw [inn, c3]; rfl
            have ihs' := ihs c3 (by omega)
            rw [hi] at hf1 hlen base ⊢
            have c4 : ¬ (d = 4 ∧ 0 < (enc subs).length) := fun ⟨h1, h2⟩ => by
              cases subs with
              | nil => simp [enc] at h2
              | cons _ _ _ s n => simp only [dep] at hd; omega
            rw [if_neg (by rw [c3]; exact Bool.noConfusion), if_neg c4, ihs'] at base
            rw [base]
            by_cases h4 : m + 1 + cnt subs ≤ 64
            · rw [if_pos h4, if_neg (fun h => h rfl), cnt]
              exact fin id 0 [] subs (cnt subs) h4
            · rw [if_neg h4, if_pos (show ¬ (4 : Int) = 0 by decide), cnt, if_neg (by omega)]

theorem cat_inv {acc t : Fo} {q : DR} {m' : Nat} (h : dcat acc q = (t, m', 0)) : t = fapp acc q.1 ∧ q.2.1 = m' ∧ q.2.2 = 0 := by
  obtain ⟨q1, q2, q3⟩ := q
  rw [dcat] at h
  split at h
  · next h0 =>
    injection h with e1 e2
    injection e2 with e2 e3
    exact ⟨e1.symm, e2, e3⟩
  · next h0 =>
    injection h with e1 e2
    injection e2 with e2 e3
    exact absurd e3 h0

theorem dec_inv : ∀ (F : Nat) (b : List UInt8) (d m : Nat) (t : Fo) (m' : Nat), dec F b d m = (t, m', 0) → b.length ≤ F → d ≤ 4 ∨ b.length = 0 → d ≤ 5 → m ≤ 64 →
    enc t = b ∧ val t = true ∧ fit t = true ∧ d + dep t ≤ 5 ∧ m' = m + cnt t
  | 0, b, d, m, t, m', h, hF, hd, hd5, hm => by
    have hb : b = [] := List.eq_nil_of_length_eq_zero (by omega)
    subst hb
    rw [dec] at h
    injection h with e1 e2
    injection e2 with e2 _
    subst e1
    subst e2
    exact ⟨rfl, rfl, rfl, hd5, rfl⟩
  | F + 1, b, d, m, t, m', h, hF, hd, hd5, hm => by
    rw [dec] at h
    split at h
    · next h0 =>
      have hb : b = [] := List.eq_nil_of_length_eq_zero h0
      subst hb
      injection h with e1 e2
      injection e2 with e2 _
      subst e1
      subst e2
      exact ⟨rfl, rfl, rfl, hd5, rfl⟩
    · next h0 =>
      have hd4 : d ≤ 4 := hd.resolve_right h0
      split at h
      · next h1 => exact absurd (by injection h with _ e2; injection e2) h1
      · next h1 =>
        have h1 := Decidable.not_not.1 h1
        obtain ⟨et, em, ee⟩ := cat_inv h
        have hrest := one1_rest h1
        have hmany := one1_many (rec := dec F) (b := b) (d := d) (fun c d m h => dec_many F c d m h) hm
        generalize hdn : dec F (one1 (dec F) b d m).rest d (one1 (dec F) b d m).many = q at *
        obtain ⟨q1, q2, q3⟩ := q
        simp only at em ee et
        subst em
        subst ee
        have ihn := dec_inv F _ d _ q1 q2 hdn (by omega) (.inl hd4) hd5 hmany
        obtain ⟨n1, n2, n3, n4, n5⟩ := ihn
        have hb := getD_cons_drop (b := b) (i := 0) (by omega)
        rw [List.drop_zero] at hb
        generalize hid : b.getD 0 0 = id at *
        rw [one1, hid] at h1 n1 n5 et
        split at h1
        · cases h1
        · next c1 =>
          rw [if_neg c1] at n1 n5 et
          split at h1
          · cases h1
          · next c2 =>
            rw [if_neg c2] at n1 n5 et
            split at h1
            · next c3 => exact absurd h1 c3
            · next c3 =>
              rw [if_neg c3] at n1 n5 et
              have hl := whole_len _ _ (Decidable.not_not.1 c3)
              generalize hw : whole (b.length - 1) (b.drop 1) = w at *
              obtain ⟨c, r, e⟩ := w
              obtain rfl : e = 0 := Decidable.not_not.1 c3
              have hinv := whole_inv _ _ _ _ hw
              simp only at h1 n1 n5 et hl
              rw [List.length_drop] at hl
              split at h1
              · cases h1
              · next c4 =>
                rw [if_neg c4] at n1 n5 et
                split at h1
                · next c5 =>
                  rw [if_pos c5] at n1 n5 et
                  subst c5
                  split at h1
                  · cases h1
                  · next c6 =>
                    rw [if_neg c6] at n1 n5 et
                    simp only [fapp] at n1 n5 et
                    subst et
                    have hc : c.getD 0 0 :: c.drop 1 = c := (getD_cons_drop (b := c) (i := 0) (by omega)).symm
                    have hlim : c.length ≤ 1025 := by simpa [lim] using c4
                    refine ⟨?_, ?_, ?_, ?_, ?_⟩
                    · rw [enc, show inn 255 (c.drop 1) (enc .nil) = c.drop 1 from rfl, show withX 255 (c.getD 0 0) (c.drop 1) = c from hc, n1, List.cons_append, ← hinv]
                      exact hb.symm
                    · simp [val, own, n2, cont255, isN]
                    · simp only [fit, n3, show inn 255 (c.drop 1) (enc .nil) = c.drop 1 from rfl, cont255, List.length_drop]
                      simp
                      omega
                    · simp only [dep] at n4 ⊢; omega
                    · simp only [cnt]; omega
                · next c5 =>
                  rw [if_neg c5] at n1 n5 et
                  have hlim : c.length ≤ 1024 := by simpa [lim, c5] using c4
                  split at h1
                  · next c6 =>
                    rw [if_pos c6] at n1 n5 et
                    simp only [fapp] at n1 n5 et
                    subst et
                    have hi : inn id c (enc .nil) = c := by rw [inn, c6]; rfl
                    refine ⟨?_, ?_, ?_, ?_, ?_⟩
                    · rw [enc, hi, show withX id 0 c = c from if_neg c5, n1, List.cons_append, ← hinv]
                      exact hb.symm
                    · simp [val, own, n2, c2, c6, isN]
                    · simp only [fit, n3, hi, c6]
                      simpa using hlim
                    · simp only [dep] at n4 ⊢; omega
                    · simp only [cnt]; omega
                  · next c6 =>
                    rw [if_neg c6] at n1 n5 et
                    have c6' : contB id = true := by simpa using c6
                    split at h1
                    · cases h1
                    · next c7 =>
                      rw [if_neg c7] at n1 n5 et
                      generalize hds : dec F c (d + 1) (m + 1) = s at *
                      obtain ⟨s1, s2, s3⟩ := s
                      simp only at h1
                      subst h1
                      simp only [fapp] at n1 n5 et
                      subst et
                      have ihs := dec_inv F c (d + 1) (m + 1) s1 s2 hds (by omega) (by omega) (by omega) (by omega)
                      obtain ⟨s4, s5, s6, s7, s8⟩ := ihs
                      have hi : inn id [] (enc s1) = c := by rw [inn, c6', s4]; rfl
                      refine ⟨?_, ?_, ?_, ?_, ?_⟩
                      · rw [enc, hi, show withX id 0 c = c from if_neg c5, n1, List.cons_append, ← hinv]
                        exact hb.symm
                      · simp [val, own, n2, s5, c2, c6']
                      · simp only [fit, n3, s6, hi, c6']
                        simpa using hlim
                      · simp only [dep] at n4 ⊢; omega
                      · simp only [cnt]; omega
end Go.Proofs.Ytahkcidnmdcaaaa
