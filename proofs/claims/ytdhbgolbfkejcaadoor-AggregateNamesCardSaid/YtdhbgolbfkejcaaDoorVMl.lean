/-
  The two tables, as the rows lay them.
-/
import Derived.Test.YtdhbgolbfkejcaaDoorRows
import Derived.Test.YtdhbgolbfkejcaaDoorXc
import Derived.Test.YtdhbgolbfkejcaaDoorVMa
import Derived.Lib.LaidU8T
import Derived.PinnedBridge
namespace Go.Proofs.YtdhbgolbfkejcaaDoor
open Go Go.ChangeShapes Go.WideShapes Go.ChangeAt Go.RowKit Go.Hs
def u8ren : Go.Shelf.Ren := ⟨fun f => f, fun t => if t = 119 then 73 else if t = 138 then 80 else if t = 139 then 81 else if t = 5 then 5 else t, fun g => if g = 3 then 0 else 1⟩
def laidT : List (String × DataW Unit) := [("unicode/utf8.acceptRanges", Rows.laid_unicode_utf8_acceptRanges), ("unicode/utf8.first", Rows.laid_unicode_utf8_first)]
theorem tabs_of {W : World} (h : laidMetH Tryd.prog laidT W) : Lib.Utf8Tabs 0 1 W := by
  rw [MakeChecks.laidMetH_plain _ _ _ (by kernel_rfl)] at h
  have hA : (Rows.laid_unicode_utf8_acceptRanges : DataW Unit) = Lib.acceptData := by kernel_rfl
  have hF : Rows.laid_unicode_utf8_first = Lib.firstData := Pinned.utf8First_eq
  exact utf8Tabs_of_readsT (P := Tryd.prog) (ρ := u8ren) ⟨by kernel_rfl, by kernel_rfl, by kernel_rfl, by kernel_rfl⟩ ⟨by kernel_rfl, by kernel_rfl, by kernel_rfl, by kernel_rfl, by kernel_rfl, by kernel_rfl, by kernel_rfl⟩
    (hF ▸ Lib.laidMet.reads h (.tail _ (.head _))) (hA ▸ Lib.laidMet.reads h (.head _))
theorem tbF_of {W : World} (h : Lib.Utf8Tabs 0 1 W) : tbF.p W (fun _ => False) := by
  refine ⟨⟨0, 0, none⟩, rfl, ?_, fun h => h, fun j u hu => ?_⟩
  · have := cell_block (h.1 0 (by decide))
    exact this
  · rw [List.getElem?_map] at hu
    have hj : j < 256 := by
      rcases Nat.lt_or_ge j 256 with hj | hj
      · exact hj
      · rw [List.getElem?_eq_none (by rw [List.length_range]; omega)] at hu
        cases hu
    rw [List.getElem?_range hj] at hu
    injection hu with hu
    subst hu
    rw [add_at, Nat.zero_add]
    exact h.1 j hj
theorem tbA_of {W : World} (h : Lib.Utf8Tabs 0 1 W) : tbA.p W (fun _ => False) := by
  refine ⟨⟨1, 0, none⟩, rfl, ?_, fun h => h, fun j u hu => ?_⟩
  · have := cell_block (h.2 0 (by decide)).1
    exact this
  · have hl : ((List.range 16).flatMap fun i => [Value.int .u8 (Lib.accLo i : Int), Value.int .u8 (Lib.accHi i : Int)]).length = 32 := by decide +kernel
    have hj : j < 32 := by
      have := (List.getElem?_eq_some_iff.1 hu).1
      omega
    rw [add_at, Nat.zero_add]
    have key : ∀ i, i < 16 → (((List.range 16).flatMap fun i => [Value.int .u8 (Lib.accLo i : Int), Value.int .u8 (Lib.accHi i : Int)])[2 * i]? = some (.int .u8 (Lib.accLo i : Int)) ∧ ((List.range 16).flatMap fun i => [Value.int .u8 (Lib.accLo i : Int), Value.int .u8 (Lib.accHi i : Int)])[2 * i + 1]? = some (.int .u8 (Lib.accHi i : Int))) := fun i hi => by
      have hi : i = 0 ∨ i = 1 ∨ i = 2 ∨ i = 3 ∨ i = 4 ∨ i = 5 ∨ i = 6 ∨ i = 7 ∨ i = 8 ∨ i = 9 ∨ i = 10 ∨ i = 11 ∨ i = 12 ∨ i = 13 ∨ i = 14 ∨ i = 15 := by omega
      rcases hi with rfl | rfl | rfl | rfl | rfl | rfl | rfl | rfl | rfl | rfl | rfl | rfl | rfl | rfl | rfl | rfl <;> exact ⟨rfl, rfl⟩
    obtain ⟨q, hq⟩ : ∃ q, j / 2 = q := ⟨_, rfl⟩
    obtain ⟨k1, k2⟩ := key q (by omega)
    obtain ⟨a1, a2⟩ := h.2 q (by omega)
    rcases Nat.mod_two_eq_zero_or_one j with e | e
    · obtain rfl : j = 2 * q := by omega
      rw [k1] at hu
      injection hu with hu
      subst hu
      exact a1
    · obtain rfl : j = 2 * q + 1 := by omega
      rw [k2] at hu
      injection hu with hu
      subst hu
      exact a2
end Go.Proofs.YtdhbgolbfkejcaaDoor
