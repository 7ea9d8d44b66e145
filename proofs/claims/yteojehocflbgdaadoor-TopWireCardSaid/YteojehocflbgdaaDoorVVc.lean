/-
  What is sent, and what hits leave of it: no program in sight.
-/
import Derived.Test.YteojehocflbgdaaDoorVVb
import Derived.Test.YteojehocflbgdaaDoorXg
namespace Go.Proofs.YteojehocflbgdaaDoor
open Go Go.RowKit Go.Hs C05 C08 C08d
structure En where
  f : Fm
  many : Bool
  idx : Nat
  pv : Value
def en0 : En := ⟨⟨h0_, .slice none 0 0, []⟩, false, 0, .slice none 0 0⟩
def En.y (e : En) : List UInt8 := encY e.f.head e.f.body
structure EnOk (its : List It) (e : En) : Prop where
  idx : e.idx < its.length
  w : e.f.head.w
  enc : encE e.f.head e.f.body = 0
  pk : e.many = true → (jkE (its.getD e.idx it0).pks).2 = 0 ∧ e.f.body = (jkE (its.getD e.idx it0).pks).1
theorem en_len {h : Hd} {b : List UInt8} (k : encE h b = 0) : 4 ≤ (encY h b).length ∧ (encY h b).length ≤ 2342 := by
  have h1 := (enc_parts k).1
  have h2 := (encE0 k).2.2
  have h3 := hdS_le h
  omega
def AllOk (its : List It) (E : List En) : Prop := ∀ e ∈ E, EnOk its e
theorem AllOk.at {its : List It} {E : List En} (h : AllOk its E) {i : Nat} (hi : i < E.length) : EnOk its (E.getD i en0) := by
  rw [List.getD_eq_getElem?_getD, List.getElem?_eq_getElem hi]
  exact h _ (List.getElem_mem hi)
theorem AllOk.snoc {its : List It} {E : List En} {e : En} (h : AllOk its E) (he : EnOk its e) : AllOk its (E ++ [e]) := fun x hx => by
  rcases List.mem_append.1 hx with hx | hx
  · exact h x hx
  · rcases List.mem_singleton.1 hx with rfl
    exact he
theorem map_getD {α β : Type} (f : α → β) (l : List α) (i : Nat) (a : α) (b : β) (h : i < l.length) : (l.map f).getD i b = f (l.getD i a) := by
  rw [List.getD_eq_getElem?_getD, List.getD_eq_getElem?_getD, List.getElem?_map, List.getElem?_eq_getElem h]
  rfl
theorem ok_ys {its : List It} {E : List En} (h : AllOk its E) : okL (E.map En.y) := fun p hp => by
  obtain ⟨e, he, rfl⟩ := List.mem_map.1 hp
  have := en_len (h e he).enc
  exact ⟨show 1 ≤ (encY e.f.head e.f.body).length by omega, show (encY e.f.head e.f.body).length ≤ 2400 by omega⟩
theorem jn_errs {fs : List (List UInt8)} (hf : okL fs) (hl : fs.length ≤ 64) (h : ¬ (jnE fs).2 = 0) : fs.length = 0 ∨ (jnE fs).2 = 11 := by
  unfold jnE at h ⊢
  by_cases c : fs.length = 0
  · exact .inl c
  · rw [if_neg c, if_neg (by omega), if_pos (pieE_ok.2 hf)] at h ⊢
    by_cases c2 : 65535 < (jn fs).length
    · rw [if_pos c2]
      exact .inr rfl
    · rw [if_neg c2] at h
      exact absurd rfl h
theorem st_len {l m : List (List UInt8)} (hl : l.length = m.length) (h : ∀ k, k < m.length → (l.getD k []).length = (m.getD k []).length) : ∀ k, k ≤ m.length → st l k = st m k
  | 0, _ => by cases l <;> cases m <;> simp [st]
  | k + 1, hk => by rw [st_succ l k (by omega), st_succ m k (by omega), st_len hl h k (by omega), h k (by omega)]
def fA (ds : List (List UInt8)) (k : Nat) : List UInt8 := pj ((ds.take k).map entp) ++ dlm (ds.getD k []).length
theorem fA_length {ds : List (List UInt8)} {k : Nat} (hk : k < ds.length) : (fA ds k).length = st ds k + 4 := by
  unfold fA
  rw [List.length_append, st_pj ds k (Nat.le_of_lt hk), dlm_length]
theorem jn_mid {ds : List (List UInt8)} {k : Nat} (hk : k < ds.length) : jn ds = fA ds k ++ ds.getD k [] ++ tl_ ds k := by
  rw [jn_at hk]
  unfold fA entp
  simp only [List.append_assoc]
theorem jn_mid2 {ds : List (List UInt8)} {k : Nat} (hk : k < ds.length) {ys : List UInt8} (hy : ys.length = (ds.getD k []).length) : jn (ds.set k ys) = fA ds k ++ ys ++ tl_ ds k := by
  rw [jn_set hk ys hy]
  unfold fA
  simp only [List.append_assoc]
/-- the pieces after i hits. -/
structure DS (fs ds : List (List UInt8)) (ts : List Nat) (i : Nat) : Prop where
  dl : ds.length = fs.length
  tl : ts.length = fs.length
  len : ∀ k, k < fs.length → (ds.getD k []).length = (fs.getD k []).length
  zero : ∀ k, k < fs.length → ts.getD k 0 = 0 → ds.getD k [] = fs.getD k []
  one : ∀ k, k < fs.length → ts.getD k 0 = 1 → ∃ r p s, r ≤ 8 * (fs.getD k []).length ∧ HB (fs.getD k []) r p 32 (ds.getD k []) s
  le : ∀ k, k < fs.length → ts.getD k 0 ≤ i
  jl : (jn ds).length = (jn fs).length
theorem rep0 (n k : Nat) : (List.replicate n 0).getD k 0 = 0 := by
  rw [List.getD_eq_getElem?_getD, List.getElem?_replicate]
  split <;> rfl
theorem DS.start (fs : List (List UInt8)) : DS fs fs (List.replicate fs.length 0) 0 :=
  ⟨rfl, List.length_replicate, fun _ _ => rfl, fun _ _ _ => rfl, fun k _ h => (by rw [rep0] at h; cases h), fun k _ => (by rw [rep0]; exact Nat.le_refl _), rfl⟩
theorem DS.step {fs ds : List (List UInt8)} {ts : List Nat} {i k r : Nat} {p : BitVec 32} {ys : List UInt8} {s : Bool} (h : DS fs ds ts i) (hk : k < fs.length) (hb : HB (ds.getD k []) r p 32 ys s) (hr : r ≤ 8 * (ds.getD k []).length) :
    DS fs (ds.set k ys) (ts.set k (ts.getD k 0 + 1)) (i + 1) := by
  have hkd : k < ds.length := by rw [h.dl]; exact hk
  have hkt : k < ts.length := by rw [h.tl]; exact hk
  have hyl := hb.bs.len
  refine ⟨by rw [List.length_set]; exact h.dl, by rw [List.length_set]; exact h.tl, fun j hj => ?_, fun j hj e => ?_, fun j hj e => ?_, fun j hj => ?_, ?_⟩
  · by_cases c : j = k
    · subst c
      rw [getD_set1 hkd, hyl]
      exact h.len j hj
    · rw [getD_set2 c]
      exact h.len j hj
  · by_cases c : j = k
    · subst c
      rw [getD_set1 hkt] at e
      cases e
    · rw [getD_set2 c] at e ⊢
      exact h.zero j hj e
  · by_cases c : j = k
    · subst c
      rw [getD_set1 hkt] at e
      have e0 := h.zero j hj (by omega)
      rw [getD_set1 hkd]
      rw [e0] at hb hr
      exact ⟨r, p, s, hr, hb⟩
    · rw [getD_set2 c] at e ⊢
      exact h.one j hj e
  · by_cases c : j = k
    · subst c
      rw [getD_set1 hkt]
      have := h.le j hj
      omega
    · rw [getD_set2 c]
      have := h.le j hj
      omega
  · rw [← h.jl, jn_mid2 hkd hyl, jn_mid hkd]
    simp only [List.length_append, hyl]
theorem DS.okL {fs ds : List (List UInt8)} {ts : List Nat} {i : Nat} (h : DS fs ds ts i) (hf : okL fs) : C08.okL ds := fun p hp => by
  obtain ⟨k, hk, rfl⟩ := List.getElem_of_mem hp
  have h1 := h.len k (by rw [← h.dl]; exact hk)
  have h2 : ds.getD k [] = ds[k] := getD_of hk []
  have hk2 : k < fs.length := by rw [← h.dl]; exact hk
  have h3 := hf (fs.getD k []) (by rw [getD_of hk2 []]; exact List.getElem_mem hk2)
  rw [h2] at h1
  exact ⟨by rw [h1]; exact h3.1, by rw [h1]; exact h3.2⟩
theorem DS.scan {fs ds : List (List UInt8)} {ts : List Nat} {i : Nat} (h : DS fs ds ts i) (hf : C08.okL fs) : sc (jn ds) = (ds, 0) := sc_jn ds (h.okL hf)
theorem DS.start_at {fs ds : List (List UInt8)} {ts : List Nat} {i k : Nat} (h : DS fs ds ts i) (hk : k < fs.length) : (fA ds k).length = st fs k + 4 := by
  rw [fA_length (by rw [h.dl]; exact hk), st_len h.dl h.len k (Nat.le_of_lt hk)]
/-- a piece that was hit once and is not what it was, is found. -/
theorem DS.found {its : List It} {E : List En} {ds : List (List UInt8)} {ts : List Nat} {i k : Nat} (h : DS (E.map En.y) ds ts i) (hE : AllOk its E) (hk : k < E.length) (h1 : ts.getD k 0 = 1) (hne : ¬ ds.getD k [] = (E.map En.y).getD k []) : dcE (ds.getD k []) = 31 := by
  have hok := hE.at hk
  have e1 : (E.map En.y).getD k [] = encY (E.getD k en0).f.head (E.getD k en0).f.body := map_getD En.y E k en0 [] hk
  obtain ⟨r, p, s, hr, hb⟩ := h.one k (by rw [List.length_map]; exact hk) h1
  have hY : encY (E.getD k en0).f.head (E.getD k en0).f.body = crcB (hdY (E.getD k en0).f.head ++ (E.getD k en0).f.body) := if_pos hok.enc
  have hl := en_len hok.enc
  cases s with
  | false => exact absurd (hb.no rfl) hne
  | true =>
    rw [e1] at hb hr
    have k1 : C03.vok C03.P32 C03.cb32 4 (encY (E.getD k en0).f.head (E.getD k en0).f.body) := by rw [hY]; exact C03.good32.made _
    exact dcE_31 ((C03.burst_e C03.good32 hl.1 k1 hr (by decide) hb.bs).2 rfl).1
end Go.Proofs.YteojehocflbgdaaDoor
