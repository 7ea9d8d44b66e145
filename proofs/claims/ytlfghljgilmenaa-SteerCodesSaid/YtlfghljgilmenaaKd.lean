/-
  Bytes copied into a part of an own block.
-/
import Derived.Test.YtlfghljgilmenaaKc
namespace Go.Hs
open Go Go.RowKit
section
variable {C : Ctx} {fr : Fr} {Γ Γ' : List OA} {Φ : List SP} {d : Tmp} {ty : TypeId} {pos : String} {aft : Array Edge} {g : Option (Nat × Bool)}
theorem E_copyBlk {t t' e bt : TypeId} {x y : Operand} {u : Value} {b o n : Nat} {bs : List UInt8} {cs ds : List Value} (hx : evO fr x = some (.slice (some ⟨b, o, none⟩) n n)) (hy : evO fr y = some u) (hp : Pick (.blk b bt cs) Γ Γ') (hm : By u bs ∈ Φ)
    (ht : C.P.underlying t = some (.slice e)) (hs : (C.P.info? e).map (·.size) = some 1) (hn : bs.length = n) (h0 : 0 < n) (hf : o + n ≤ cs.length) (hu : cs.take o ++ bs.map bcell ++ cs.drop (o + n) = ds) :
    Effs C fr Γ Φ ⟨some d, .call { callee := .builtin .copy, args := #[x, y], argTypes := #[t, t'] }, ty, pos, aft, g⟩ (X := Unit) (fun _ => True) (fun _ => .int .i64 (bs.length : Int)) (fun _ => .blk b bt ds :: Γ') (fun _ => Φ) := by
  subst hu
  refine ⟨fun _ => AllIn.refl _, fun R a w ha hw => ?_⟩
  have hw' := pick_holds (pick_app hp R) hw
  obtain ⟨hl, B, c', hu', _, _, hr⟩ := hw'.sp _ hm
  obtain ⟨ad, rfl, _, _, hcell⟩ := hr (by omega)
  subst hu'
  have hb : w.heap[b]? = some (.cells cs.toArray bt (0, 0)) := hw'.own.1
  have hrun := run_copy_row (P := C.P) w t t' ty e b o n n ad bs.length c' cs.toArray bt (bs.map bcell) ht hs hb (by rw [List.length_map]; exact (Nat.min_eq_left (Nat.le_of_eq hn)).symm) hcell (by rw [List.length_map, hn]; exact hf) (bcells_one _)
  refine .val (v := .int .i64 (bs.length : Int)) (w' := _) ?_ ⟨(), trivial, rfl, setRow_holds (ds := cs.take o ++ bs.map bcell ++ cs.drop (o + n)) hw'⟩
  have e2 : (bs.map bcell).length = n := by rw [List.length_map, hn]
  rw [e2] at hrun
  simp only [execOp, resolve, invoke, builtin, Sem.run_bind, Sem.run_pure, Result.andThen_ok, List.map_toArray, List.map_cons, List.map_nil, evO_sound ha hx, evO_sound ha hy, hrun]
  simp only [Result.andThen_ok, goInt, hn]
end
end Go.Hs
