/-
  Lists of 'HeaderNames'.
-/
import Derived.Test.YtbdcpahifcbcfaaVGw
import Derived.Test.YtbdcpahifcbcfaaVGq
namespace Go.Proofs.Ytbdcpahifcbcfaa
open Go Go.RowKit Go.Hs
def dataH : Hd := ⟨2, 8, true, false, false, false, false, false, false, 0, ⟨2, 1, 0, 0, 0, 0⟩, ⟨2, 2, 0, 0, 0, 0⟩, ⟨2, 3, 0, 0, 0, 0⟩, zA6, 7, 0, 5, 2, false, false⟩
theorem dataH_w : dataH.w := ⟨w64_zero, w64_nat 7 (by decide), w64_zero, w64_nat 5 (by decide)⟩
def badHs : List Hd := [{ h0_ with kind := 3 }, { h0_ with kind := 2, sub := 1 }, { h0_ with kind := 1, sub := 13, a2 := ⟨2, 0, 0, 0, 0, 0⟩ }, { h0_ with kind := 1, sub := 13, retry := true }, { h0_ with toDs := true }, { h0_ with seq := 4096 }, { h0_ with a2 := ⟨1, 0, 0, 0, 0, 0⟩ }, { h0_ with a1 := ⟨1, 0, 0, 0, 0, 0⟩, more := true }, { h0_ with kind := 2, tid := 1 }, { h0_ with kind := 2, sub := 4, prot := true }, { h0_ with kind := 2, sub := 8, ack := 3 }, { h0_ with kind := 2, a4 := ⟨2, 0, 0, 0, 0, 0⟩ }, { h0_ with dur := -1 }]
theorem w64_m1 : w64 (-1) := by unfold w64; decide
theorem badHs_all : ∀ h ∈ badHs, h.w ∧ hdB h = false := by
  intro h hh
  unfold badHs at hh
  simp only [List.mem_cons, List.not_mem_nil, or_false] at hh
  rcases hh with rfl | rfl | rfl | rfl | rfl | rfl | rfl | rfl | rfl | rfl | rfl | rfl | rfl
  · exact ⟨⟨w64_zero, w64_zero, w64_zero, w64_zero⟩, by decide +kernel⟩
  · exact ⟨⟨w64_zero, w64_zero, w64_zero, w64_zero⟩, by decide +kernel⟩
  · exact ⟨⟨w64_zero, w64_zero, w64_zero, w64_zero⟩, by decide +kernel⟩
  · exact ⟨⟨w64_zero, w64_zero, w64_zero, w64_zero⟩, by decide +kernel⟩
  · exact ⟨⟨w64_zero, w64_zero, w64_zero, w64_zero⟩, by decide +kernel⟩
  · exact ⟨⟨w64_zero, w64_nat 4096 (by decide), w64_zero, w64_zero⟩, by decide +kernel⟩
  · exact ⟨⟨w64_zero, w64_zero, w64_zero, w64_zero⟩, by decide +kernel⟩
  · exact ⟨⟨w64_zero, w64_zero, w64_zero, w64_zero⟩, by decide +kernel⟩
  · exact ⟨⟨w64_zero, w64_zero, w64_zero, w64_nat 1 (by decide)⟩, by decide +kernel⟩
  · exact ⟨⟨w64_zero, w64_zero, w64_zero, w64_zero⟩, by decide +kernel⟩
  · exact ⟨⟨w64_zero, w64_zero, w64_zero, w64_zero⟩, by decide +kernel⟩
  · exact ⟨⟨w64_zero, w64_zero, w64_zero, w64_zero⟩, by decide +kernel⟩
  · exact ⟨⟨w64_m1, w64_zero, w64_zero, w64_zero⟩, by decide +kernel⟩
theorem getD_mem' {l : List Hd} {j : Nat} (h : j < l.length) : l.getD j h0_ ∈ l := by
  rw [List.getD_eq_getElem?_getD, List.getElem?_eq_getElem h]
  exact List.getElem_mem h
theorem bad_enc {h : Hd} (e : hdB h = false) (b : List UInt8) : encE h b = 8 ∧ encY h b = [] := by
  have : encE h b = 8 := by unfold encE; rw [e]; rfl
  refine ⟨this, ?_⟩
  unfold encY
  rw [this]
  rfl
def lstC (c : List UInt8 → List UInt8) : List (List UInt8) := [[1, 2, 3], [0, 0, 0, 1], c [212], c [213, 0], c [212, 128], c [16, 0], c [20, 0], c [212, 0, 1], c [212, 0, 0, 128, 0, 0, 0, 0, 0, 0], c [212, 0, 0, 0, 0, 0, 0, 0, 0, 0, 0], c [212, 8, 0, 0, 0, 0, 0, 0, 0, 0]]
def lstY : List (List UInt8) := lstC crcB
def lstE : List Int := [10, 31, 10, 12, 12, 10, 12, 10, 12, 12, 12]
theorem lst_ok : lstY.map dcE = lstE := by kernel_rfl
theorem lst_len (c : List UInt8 → List UInt8) (hc : ∀ x, (c x).length = x.length + 4) : ∀ l ∈ lstC c, l.length ≤ 1000000 := by
  intro l hl
  unfold lstC at hl
  simp only [List.mem_cons, List.not_mem_nil, or_false] at hl
  rcases hl with rfl | rfl | rfl | rfl | rfl | rfl | rfl | rfl | rfl | rfl | rfl
  all_goals first | decide | (rw [hc]; exact Nat.le_of_ble_eq_true rfl)
theorem map_at {α β : Type} (f : α → β) (l : List α) (a : α) (b : β) (j : Nat) (hj : j < l.length) : (l.map f).getD j b = f (l.getD j a) := by
  rw [List.getD_eq_getElem?_getD, List.getD_eq_getElem?_getD, List.getElem?_map, List.getElem?_eq_getElem hj]
  rfl
theorem mem_at {α : Type} (l : List α) (a : α) (j : Nat) (hj : j < l.length) : l.getD j a ∈ l := by
  rw [List.getD_eq_getElem?_getD, List.getElem?_eq_getElem hj]
  exact List.getElem_mem hj
theorem lst_n (c : List UInt8 → List UInt8) : (lstC c).length = 11 := rfl
theorem lst_at (j : Nat) (hj : j < 11) : (lstY.getD j []).length ≤ 1000000 ∧ dcE (lstY.getD j []) = lstE.getD j 0 ∧ (lstE.map (Value.int .i64)).getD j undef = .int .i64 (lstE.getD j 0) := by
  have hl : j < lstY.length := by unfold lstY; rw [lst_n]; exact hj
  refine ⟨lst_len crcB crcB_length _ (mem_at _ _ _ hl), ?_, map_at _ _ _ _ _ hj⟩
  rw [← map_at dcE lstY [] 0 j hl, lst_ok]
theorem lg0 (c : List UInt8 → List UInt8) : (lstC c).getD 0 [] = [1, 2, 3] := rfl
theorem lg1 (c : List UInt8 → List UInt8) : (lstC c).getD 1 [] = [0, 0, 0, 1] := rfl
theorem lg2 (c : List UInt8 → List UInt8) : (lstC c).getD 2 [] = c [212] := rfl
theorem lg3 (c : List UInt8 → List UInt8) : (lstC c).getD 3 [] = c [213, 0] := rfl
theorem lg4 (c : List UInt8 → List UInt8) : (lstC c).getD 4 [] = c [212, 128] := rfl
theorem lg5 (c : List UInt8 → List UInt8) : (lstC c).getD 5 [] = c [16, 0] := rfl
theorem lg6 (c : List UInt8 → List UInt8) : (lstC c).getD 6 [] = c [20, 0] := rfl
theorem lg7 (c : List UInt8 → List UInt8) : (lstC c).getD 7 [] = c [212, 0, 1] := rfl
theorem lg8 (c : List UInt8 → List UInt8) : (lstC c).getD 8 [] = c [212, 0, 0, 128, 0, 0, 0, 0, 0, 0] := rfl
theorem lg9 (c : List UInt8 → List UInt8) : (lstC c).getD 9 [] = c [212, 0, 0, 0, 0, 0, 0, 0, 0, 0, 0] := rfl
theorem lg10 (c : List UInt8 → List UInt8) : (lstC c).getD 10 [] = c [212, 8, 0, 0, 0, 0, 0, 0, 0, 0] := rfl
theorem long_e : encE dataH (List.replicate 2305 0) = 11 ∧ encY dataH (List.replicate 2305 0) = [] := by
  have e : encE dataH (List.replicate 2305 0) = 11 := by
    unfold encE
    rw [show hdB dataH = true by decide +kernel, show barB dataH = false by decide +kernel, List.length_replicate]
    rfl
  exact ⟨e, by unfold encY; rw [e]; rfl⟩
theorem full_e : encE ackH [1] = 8 ∧ encY ackH [1] = [] := by
  have e : encE ackH [1] = 8 := by decide +kernel
  exact ⟨e, by unfold encY; rw [e]; rfl⟩
end Go.Proofs.Ytbdcpahifcbcfaa
