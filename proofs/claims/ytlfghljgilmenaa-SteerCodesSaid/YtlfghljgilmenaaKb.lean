/-
  Own rows of things of several cells each, told by a list of the things. No program is named here.
-/
import Derived.Test.YtlfghljgilmenaaLj
import Derived.Test.YtlfghljgilmenaaLv
namespace Go.Hs
open Go Go.RowKit

section
variable {V : Type} {cf : V → List Value} {S : Nat}
theorem fc_length (h : ∀ v, (cf v).length = S) : ∀ (l : List V), (l.flatMap cf).length = l.length * S
  | [] => by simp
  | v :: r => by rw [List.flatMap_cons, List.length_append, h, fc_length h r, List.length_cons, Nat.add_mul]; omega
theorem fc_take (h : ∀ v, (cf v).length = S) (l : List V) (k : Nat) (hk : k ≤ l.length) : (l.flatMap cf).take (k * S) = (l.take k).flatMap cf := by
  have e := congrArg (List.flatMap cf) (List.take_append_drop k l)
  rw [List.flatMap_append] at e
  rw [← e, List.take_left' (by rw [fc_length h, List.length_take, Nat.min_eq_left hk])]
theorem fc_drop (h : ∀ v, (cf v).length = S) (l : List V) (k : Nat) (hk : k ≤ l.length) : (l.flatMap cf).drop (k * S) = (l.drop k).flatMap cf := by
  have e := congrArg (List.flatMap cf) (List.take_append_drop k l)
  rw [List.flatMap_append] at e
  rw [← e, List.drop_left' (by rw [fc_length h, List.length_take, Nat.min_eq_left hk])]
theorem drop_cons_getD {l : List V} {k : Nat} (hk : k < l.length) (z : V) : l.drop k = l.getD k z :: l.drop (k + 1) := by
  rw [List.drop_eq_getElem_cons hk, List.getD_eq_getElem?_getD, List.getElem?_eq_getElem hk]; rfl
theorem fc_at (h : ∀ v, (cf v).length = S) (l : List V) (k : Nat) (hk : k < l.length) (z : V) : ((l.flatMap cf).drop (k * S)).take S = cf (l.getD k z) := by
  rw [fc_drop h l k (Nat.le_of_lt hk), drop_cons_getD hk z, List.flatMap_cons, List.take_left' (h _)]
theorem ent_slG {Φ : List SP} {v : Value} {l : List V} {n : Nat} {xs : List Value} (h : ∀ v, (cf v).length = S) (z : V) (hm : Sl S v n xs ∈ Φ) (hn : n = l.length) (hx : xs = l.flatMap cf) : Ent Φ (Rw S v n (fun i => cf (l.getD i z))) := fun w O hw => by
  subst hn; subst hx
  exact rwP_congr (ent_slRw hm w O hw) fun i hi => fc_at h l i hi z
theorem Bor.rowG {Φ : List SP} {v : Value} {et : TypeId} {l : List V} {n : Nat} {xs : List Value} (h : ∀ v, (cf v).length = S) (z : V) (hn : n = l.length) (hx : xs = l.flatMap cf) : Bor [.row v et S n xs] Φ (Rw S v n (fun i => cf (l.getD i z)) :: Φ) := fun w O ho hd hΦ ψ hψ => by
  subst hn; subst hx
  rcases List.mem_cons.1 hψ with rfl | hψ
  · have h1 : slP S v l.length (l.flatMap cf) w O := slP_of_row ho.1 fun k hk => hd k (fpL_cons.2 (.inl hk))
    exact rwP_congr (ent_slRw (Φ := [Sl S v l.length (l.flatMap cf)]) List.mem_cons_self w O (fun χ hχ => by
      rcases List.mem_cons.1 hχ with rfl | hχ
      · exact h1
      · cases hχ)) fun i hi => fc_at h l i hi z
  · exact hΦ ψ hψ
theorem ent_rwG {Φ : List SP} {v : Value} {l : List V} (h : ∀ v, (cf v).length = S) (h0 : 0 < S) (z : V) (hm : Rw S v l.length (fun i => cf (l.getD i z)) ∈ Φ) : Ent Φ (Sl S v l.length (l.flatMap cf)) :=
  ent_rwSl h0 (fc_length h l) (fun i hi => fc_at h l i hi z) hm
end
end Go.Hs
