/-
  The mathematics of encoding and decoding: what is encoded is decoded to the same, and what is decoded was encoded so. No program is named here.
-/
import Derived.Test.YtahkcidnmdcaaaaVEc
namespace Go.Proofs.Ytahkcidnmdcaaaa
open Go Go.RowKit Go.Hs

/-- a content after the Id, part by part. -/
def bod : Nat → List UInt8 → List UInt8
  | 0, c => UInt8.ofNat c.length :: c
  | f + 1, c => if 255 ≤ c.length then 255 :: (c.take 255 ++ 254 :: bod f (c.drop 255)) else UInt8.ofNat c.length :: c
def withX (id ext : UInt8) (c : List UInt8) : List UInt8 := if id = 255 then ext :: c else c
def inn (id : UInt8) (data sub : List UInt8) : List UInt8 := if contB id then sub else data
def enc : Fo → List UInt8
  | .nil => []
  | .cons id ext data subs next => (id :: bod (withX id ext (inn id data (enc subs))).length (withX id ext (inn id data (enc subs)))) ++ enc next
def cnt : Fo → Nat
  | .nil => 0
  | .cons _ _ _ subs next => 1 + cnt subs + cnt next
def dep : Fo → Nat
  | .nil => 0
  | .cons _ _ _ subs next => max (1 + dep subs) (dep next)
def isN : Fo → Bool
  | .nil => true
  | _ => false
/-- an element by itself, its list aside. -/
def own (id ext : UInt8) (data : List UInt8) (subs : Fo) : Bool :=
  (! decide (id = 254)) && (decide (id = 255) || decide (ext = 0)) && (if contB id then data.isEmpty else isN subs)
def val : Fo → Bool
  | .nil => true
  | .cons id ext data subs next => own id ext data subs && val subs && val next
def fit : Fo → Bool
  | .nil => true
  | .cons id _ data subs next => decide ((inn id data (enc subs)).length ≤ 1024) && (! contB id || fit subs) && fit next
def chk (t : Fo) : Int := if 64 < cnt t ∨ 4 < dep t then 4 else if val t = false then 8 else if fit t = false then 11 else 0

theorem isN_iff {t : Fo} : isN t = true ↔ t = .nil := by cases t <;> simp [isN]
theorem bod_fuel : ∀ (f : Nat) (c : List UInt8), c.length ≤ f → bod f c = bod c.length c := by
  intro f
  induction f using Nat.strongRecOn with
  | _ f ih =>
    intro c h
    cases f with
    | zero =>
      obtain rfl : c = [] := List.eq_nil_of_length_eq_zero (by omega)
      rfl
    | succ f =>
      by_cases h1 : 255 ≤ c.length
      · obtain ⟨k, hk⟩ : ∃ k, c.length = k + 1 := ⟨c.length - 1, by omega⟩
        rw [hk, bod, bod, if_pos h1, if_pos h1, ih f (by omega) _ (by rw [List.length_drop]; omega), ih k (by omega) _ (by rw [List.length_drop]; omega)]
      · have e : ∀ g, bod g c = UInt8.ofNat c.length :: c := fun g => by
          cases g with
          | zero => rfl
          | succ g => rw [bod, if_neg h1]
        rw [e, e]
theorem bod_small {f : Nat} {c : List UInt8} (h : c.length < 255) : bod f c = UInt8.ofNat c.length :: c := by
  cases f with
  | zero => rfl
  | succ g => rw [bod, if_neg (by omega)]
theorem bod_big {c : List UInt8} (h : 255 ≤ c.length) : bod c.length c = 255 :: (c.take 255 ++ 254 :: bod (c.drop 255).length (c.drop 255)) := by
  obtain ⟨k, hk⟩ : ∃ k, c.length = k + 1 := ⟨c.length - 1, by omega⟩
  rw [hk, bod, if_pos h, bod_fuel k _ (by rw [List.length_drop]; omega)]
theorem bod_pos (f : Nat) (c : List UInt8) : 0 < (bod f c).length := by
  cases f with
  | zero => simp [bod]
  | succ f =>
    rw [bod]
    split <;> simp

theorem whole_bod : ∀ (n : Nat) (c rest : List UInt8) (g : Nat), c.length = n → (bod c.length c ++ rest).length ≤ g → whole g (bod c.length c ++ rest) = (c, rest, 0) := by
  intro n
  induction n using Nat.strongRecOn with
  | _ n ih =>
    intro c rest g hn hg
    cases g with
    | zero =>
      have := bod_pos c.length c
      rw [List.length_append] at hg
      omega
    | succ g =>
      by_cases h1 : 255 ≤ c.length
      · rw [bod_big h1] at hg ⊢
        have e1 : ((255 :: (c.take 255 ++ 254 :: bod (c.drop 255).length (c.drop 255)) ++ rest : List UInt8)) = 255 :: (c.take 255 ++ 254 :: (bod (c.drop 255).length (c.drop 255) ++ rest)) := by simp
        rw [e1] at hg ⊢
        have hl : (c.take 255).length = 255 := by rw [List.length_take]; omega
        have hp := bod_pos (c.drop 255).length (c.drop 255)
        have e2 : (c.take 255 ++ 254 :: (bod (c.drop 255).length (c.drop 255) ++ rest)).length = 256 + (bod (c.drop 255).length (c.drop 255)).length + rest.length := by
          simp only [List.length_append, List.length_cons, hl]
          omega
        rw [List.length_cons, e2] at hg
        have h255 : (255 : UInt8).toNat = 255 := rfl
        rw [whole, if_neg (by rw [List.length_cons, e2]; simp only [List.getD_cons_zero, h255]; omega), if_neg (by simp only [List.getD_cons_zero, h255]; omega), if_neg (by rw [List.length_cons, e2]; omega)]
        have e3 : (255 :: (c.take 255 ++ 254 :: (bod (c.drop 255).length (c.drop 255) ++ rest))).getD 256 0 = 254 := by
          rw [List.getD_cons_succ, List.getD_eq_getElem?_getD, List.getElem?_append_right (by omega), hl]
          rfl
        have e4 : (255 :: (c.take 255 ++ 254 :: (bod (c.drop 255).length (c.drop 255) ++ rest))).drop 257 = bod (c.drop 255).length (c.drop 255) ++ rest := by
          rw [show (257 : Nat) = 256 + 1 from rfl, List.drop_succ_cons]
          generalize c.take 255 = u at hl
          rw [List.drop_append, List.drop_of_length_le (by omega), hl]
          rfl
        have e5 : ((255 :: (c.take 255 ++ 254 :: (bod (c.drop 255).length (c.drop 255) ++ rest))).drop 1).take 255 = c.take 255 := by
          rw [List.drop_succ_cons, List.drop_zero]
          exact List.take_left' hl
        rw [if_neg (fun h => h e3), e4, e5]
        have hd : (c.drop 255).length = n - 255 := by rw [List.length_drop, hn]
        rw [ih (n - 255) (by omega) (c.drop 255) rest g hd (by rw [List.length_append]; omega), wcat, if_pos rfl, List.take_append_drop]
      · rw [bod_small (by omega)] at hg ⊢
        have ec : (UInt8.ofNat c.length).toNat = c.length := by rw [UInt8.toNat_ofNat']; omega
        rw [List.cons_append] at hg ⊢
        rw [whole, if_neg (by simp only [List.length_cons, List.getD_cons_zero, ec, List.length_append]; omega), if_pos (by simp only [List.getD_cons_zero, ec]; omega)]
        simp only [List.getD_cons_zero, ec, List.drop_succ_cons, List.drop_zero, Nat.add_comm 1]
        rw [List.take_left' rfl, List.drop_left' rfl]

theorem bod_head {id : UInt8} {c rest : List UInt8} : ((id :: bod c.length c) ++ rest).getD 0 0 = id := rfl
theorem whole_at {id : UInt8} {c rest : List UInt8} : whole (((id :: bod c.length c) ++ rest).length - 1) (((id :: bod c.length c) ++ rest).drop 1) = (c, rest, 0) :=
  whole_bod _ c rest _ rfl (by simp)
theorem cont255 : contB 255 = false := rfl
theorem cont254 : contB 254 = false := rfl

theorem dec_enc : ∀ (t : Fo) (F d m : Nat), val t = true → fit t = true → d + dep t ≤ 5 → (enc t).length ≤ F → m ≤ 64 →
    dec F (enc t) d m = if m + cnt t ≤ 64 then (t, m + cnt t, 0) else (.nil, 64, 4)
  | .nil, F, d, m, _, _, _, _, hm => by
    rw [enc, dec_nil, cnt, if_pos (by omega)]
    rfl
  | .cons id ext data subs next, F, d, m, hv, hf, hd, hF, hm => by
    simp only [val, fit, dep, Bool.and_eq_true, decide_eq_true_eq] at hv hf hd
    obtain ⟨⟨hv1, hv2⟩, hv3⟩ := hv
    obtain ⟨⟨hf1, hf2⟩, hf3⟩ := hf
    simp only [own, Bool.and_eq_true, Bool.or_eq_true, decide_eq_true_eq, Bool.not_eq_true', decide_eq_false_iff_not] at hv1
    obtain ⟨⟨o1, o2⟩, o3⟩ := hv1
    rw [enc] at hF ⊢
    cases F with
    | zero => simp at hF
    | succ F =>
      have hlen : (enc next).length ≤ F ∧ (withX id ext (inn id data (enc subs))).length ≤ F := by
        have h1 := bod_pos (withX id ext (inn id data (enc subs))).length (withX id ext (inn id data (enc subs)))
        have h2 := whole_len _ _ (show (whole (((id :: bod (withX id ext (inn id data (enc subs))).length (withX id ext (inn id data (enc subs)))) ++ enc next).length - 1) (((id :: bod (withX id ext (inn id data (enc subs))).length (withX id ext (inn id data (enc subs)))) ++ enc next).drop 1)).2.2 = 0 by rw [whole_at])
        rw [whole_at] at h2
        simp only [List.length_drop] at h2
        omega
      have ihs := fun (hc : contB id = true) (h1 : m + 1 ≤ 64) => dec_enc subs F (d + 1) (m + 1) hv2 (by rw [hc] at hf2; simpa using hf2) (by omega) (by
        have := hlen.2
        rw [inn, if_pos hc, withX] at this
        split at this
        · simp at this; omega
        · exact this) h1
      have ihn := fun m' (h : m' ≤ 64) => dec_enc next F d m' hv3 hf3 (by omega) hlen.1 h
      rw [dec, if_neg (by simp)]
      by_cases c1 : m = 64
      · have e1 : one1 (dec F) ((id :: bod (withX id ext (inn id data (enc subs))).length (withX id ext (inn id data (enc subs)))) ++ enc next) d m = ⟨0, 0, [], .nil, [], m, 4⟩ := if_pos c1
        rw [e1, if_pos (show ¬ (4 : Int) = 0 by decide), cnt, if_neg (by omega), c1]
      · have base : one1 (dec F) ((id :: bod (withX id ext (inn id data (enc subs))).length (withX id ext (inn id data (enc subs)))) ++ enc next) d m =
            if lim id < (withX id ext (inn id data (enc subs))).length then ⟨id, 0, [], .nil, [], m + 1, 11⟩
            else if id = 255 then
              (if (withX id ext (inn id data (enc subs))).length = 0 then ⟨id, 0, [], .nil, [], m + 1, 12⟩
               else ⟨id, (withX id ext (inn id data (enc subs))).getD 0 0, (withX id ext (inn id data (enc subs))).drop 1, .nil, enc next, m + 1, 0⟩)
            else if contB id = false then ⟨id, 0, (withX id ext (inn id data (enc subs))), .nil, enc next, m + 1, 0⟩
            else if d = 4 ∧ 0 < (withX id ext (inn id data (enc subs))).length then ⟨id, 0, [], .nil, [], m + 1, 4⟩
            else ⟨id, 0, [], (dec F (withX id ext (inn id data (enc subs))) (d + 1) (m + 1)).1, enc next, (dec F (withX id ext (inn id data (enc subs))) (d + 1) (m + 1)).2.1, (dec F (withX id ext (inn id data (enc subs))) (d + 1) (m + 1)).2.2⟩ := by
          rw [one1, if_neg c1, bod_head, if_neg o1, whole_at, if_neg (fun h => h rfl)]
        have fin : ∀ (id ext : UInt8) (data : List UInt8) (subs : Fo) (k : Nat), m + 1 + k ≤ 64 → dcat (.cons id ext data subs .nil) (dec F (enc next) d (m + 1 + k)) = if m + (1 + k + cnt next) ≤ 64 then (.cons id ext data subs next, m + (1 + k + cnt next), 0) else (.nil, 64, 4) := fun id ext data subs k hk => by
          rw [ihn _ hk]
          by_cases h5 : m + 1 + k + cnt next ≤ 64
          · rw [if_pos h5, if_pos (by omega), dcat, if_pos rfl]
            simp only [fapp, Prod.mk.injEq, and_true, true_and]
            omega
          · rw [if_neg h5, if_neg (by omega), dcat, if_neg (by decide)]
        by_cases c2 : id = 255
        · subst c2
          have hw : withX 255 ext (inn 255 data (enc subs)) = ext :: data := rfl
          rw [show inn 255 data (enc subs) = data from rfl] at hf1
          have hs : subs = .nil := isN_iff.1 o3
          subst hs
          have e1 : one1 (dec F) ((255 :: bod (withX 255 ext (inn 255 data (enc .nil))).length (withX 255 ext (inn 255 data (enc .nil)))) ++ enc next) d m = ⟨255, ext, data, .nil, enc next, m + 1, 0⟩ := by
            rw [base, hw, if_neg (by rw [lim, if_pos rfl, List.length_cons]; omega), if_pos rfl, if_neg (by simp)]
            rfl
          rw [e1, if_neg (fun h => h rfl), cnt, cnt]
          exact fin 255 ext data .nil 0 (by omega)
        · have he : ext = 0 := o2.resolve_left c2
          subst he
          have hw : withX id 0 (inn id data (enc subs)) = inn id data (enc subs) := if_neg c2
          rw [hw] at hlen base ⊢
          rw [if_neg (by rw [lim, if_neg c2]; omega), if_neg c2] at base
          cases c3 : contB id with
          | false =>
            rw [c3] at o3
            have hs : subs = .nil := isN_iff.1 o3
            subst hs
            rw [if_pos c3, show inn id data (enc .nil) = data by rw [inn, c3]; rfl] at base
            rw [show inn id data (enc .nil) = data by rw [inn, c3]; rfl, base, if_neg (fun h => h rfl), cnt, cnt]
            exact fin id 0 data .nil 0 (by omega)
          | true =>
            rw [c3] at o3
            have hdt : data = [] := List.isEmpty_iff.1 o3
            subst hdt
            have hi : inn id [] (enc subs) = enc subs := by rw [inn, c3]; rfl
            have ihs' := ihs c3 (by omega)
            rw [hi] at hf1 hlen base ⊢
            have c4 : ¬ (d = 4 ∧ 0 < (enc subs).length) := fun ⟨h1, h2⟩ => by
              cases subs with
              | nil => simp [enc] at h2
              | cons _ _ _ s n => simp only [dep] at hd; omega
            rw [if_neg (by rw [c3]; exact Bool.noConfusion), if_neg c4, ihs'] at base
            rw [base]
            by_cases h4 : m + 1 + cnt subs ≤ 64
            · rw [if_pos h4, if_neg (fun h => h rfl), cnt]
              exact fin id 0 [] subs (cnt subs) h4
            · rw [if_neg h4, if_pos (show ¬ (4 : Int) = 0 by decide), cnt, if_neg (by omega)]

end Go.Proofs.Ytahkcidnmdcaaaa
