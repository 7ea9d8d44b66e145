/-
  The law 'FragmentPieces' walked.
-/
import Derived.Test.YtglmcnjkcmbefaaVIr
namespace Go.Proofs.Ytglmcnjkcmbefaa
open Go Go.RowKit Go.Hs C05
theorem ent_rwExt {Φ : List SP} {size n : Nat} {v : Value} {f g : Nat → List Value} (hm : Rw size v n f ∈ Φ) (h : ∀ i, i < n → f i = g i) : Ent Φ (Rw size v n g) := fun w O hw => by
  obtain ⟨A, c, hv, h1, h2, hr⟩ := hw _ hm
  refine ⟨A, c, hv, h1, h2, fun hn => ?_⟩
  obtain ⟨ad, q1, q2, q3, hcell⟩ := hr hn
  exact ⟨ad, q1, q2, q3, fun i hi j u hu => hcell i hi j u (by rw [h i hi]; exact hu)⟩
theorem pc_next (b : List UInt8) (s i : Nat) : b.take (i * s) ++ pcB b s i = b.take ((i + 1) * s) := by
  unfold pcB
  rw [Nat.succ_mul, List.take_add]
theorem pc_all {b : List UInt8} {s : Nat} (hs : 1 ≤ s) : b.take (manyN b.length s * s) = b := by
  apply List.take_of_length_le
  rcases Nat.eq_zero_or_pos b.length with e | e
  · omega
  · apply Nat.le_of_not_lt
    intro h
    exact Nat.lt_irrefl _ ((many_lt hs e).2 h)
/-- what is known of a frame that is cut. -/
theorem cut_ok {h : Hd} {b : List UInt8} {size : Int} (he : cutE h b size = 0) : (sndB h b = true ∧ ¬ h.kind.toNat = 1 ∧ grpB h.a1 = false ∧ h.more = false ∧ h.amsdu = false ∧ h.frag = 0) ∧ b.length ≤ 2304 ∧ 1 ≤ size ∧ manyN b.length size.toNat ≤ 16 := by
  unfold cutE at he
  split at he
  · cases he
  · next hp =>
    split at he
    · cases he
    · split at he
      · cases he
      · split at he
        · cases he
        · refine ⟨⟨?_, ?_, ?_, ?_, ?_, ?_⟩, by omega, by omega, by omega⟩
          · cases e : sndB h b
            · exact absurd (.inl e) hp
            · rfl
          · exact fun e => hp (.inr (.inl e))
          · cases e : grpB h.a1
            · rfl
            · exact absurd (.inr (.inr (.inl e))) hp
          · cases e : h.more
            · rfl
            · exact absurd (.inr (.inr (.inr (.inl e)))) hp
          · cases e : h.amsdu
            · rfl
            · exact absurd (.inr (.inr (.inr (.inr (.inl e))))) hp
          · apply Classical.byContradiction
            exact fun e => hp (.inr (.inr (.inr (.inr (.inr e)))))
theorem cut_l {h : Hd} {b : List UInt8} {size : Int} {D : List Fm} (hD : D.map Fmz = cutL h b size) (he : cutE h b size = 0) : D.length = manyN b.length size.toNat ∧ ∀ i, i < D.length → D.getD i f0_ = ⟨pcH h (manyN b.length size.toNat) i, (D.getD i f0_).bv, pcB b size.toNat i⟩ := by
  unfold cutL at hD
  rw [if_pos he] at hD
  have hl : D.length = manyN b.length size.toNat := by
    have := congrArg List.length hD
    rwa [List.length_map, List.length_map, List.length_range] at this
  refine ⟨hl, fun i hi => ?_⟩
  have h1 : (D.map Fmz)[i]? = some (pcH h (manyN b.length size.toNat) i, pcB b size.toNat i) := by
    rw [hD, List.getElem?_map, List.getElem?_range (by omega)]
    rfl
  rw [List.getElem?_map, List.getElem?_eq_getElem hi] at h1
  have h2 : D.getD i f0_ = D[i] := by rw [List.getD_eq_getElem?_getD, List.getElem?_eq_getElem hi]; rfl
  rw [h2]
  exact fm_of D[i] (Option.some.inj h1)
theorem ent_bfAt {Φ : List SP} {D : List Fm} {x : Nat} {h : Hd} {v : Value} {b : List UInt8} (hm : Bf D ∈ Φ) (hx : x < D.length) (e : D.getD x f0_ = ⟨h, v, b⟩) : Ent Φ (By v b) := fun w O hw => by
  have := hw _ hm _ (getF hx)
  rw [e] at this
  exact this
attribute [local irreducible] WL W WQ PL Runs Effs AllE Ent SubO FrIn Pick OneC Ones CellsE PartsE SeqE UZ By Sl Pt Ct

end Go.Proofs.Ytglmcnjkcmbefaa
