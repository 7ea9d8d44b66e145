/-
  Own rows sliced, own trees lent, rows let go by parts. No program is named here.
-/
import Derived.Test.YtlfghljgilmenaaLq
namespace Go.Hs
open Go Go.RowKit

section
variable {C : Ctx} {ops : Array Oper} {l : List Oper} {fr : Fr} {Γ Γ' Γ1 : List OA} {Φ : List SP} {Q : Exit → Act → World → Prop}
  {d : Nat} {ty : TypeId} {pos : String} {aft : Array Edge} {g : Option (Nat × Bool)}

/-- the end of an own row, as a value. -/
theorem R_sliceRow {t e rt : TypeId} {x y : Operand} {v : Value} {size n j : Nat} {kd : IntKind} {ii : Int} {xs : List Value} (hx : evO fr x = some v) (hy : evO fr y = some (.int kd ii)) (hp : Pick (.row v rt size n xs) Γ Γ')
    (ht : C.P.underlying t = some (.slice e)) (hs : ∀ w, (sizeOf e).run C.P w = .ok size w) (hii : ii = (j : Int)) (hj : j ≤ n) :
    Runs C fr Γ Φ ⟨some d, .slice t x (some y) none none, ty, pos, aft, g⟩ (cutV size j n v) :=
  Runs.pure fun a w ha hw => by
    subst hii
    obtain ⟨A, c, rfl, hc, _⟩ := row_nil_or (pick_holds hp hw).own.1
    have h := run_slice_data_l (P := C.P) (w := w) (n := n) (A := A) (c := c) (kl := kd) ht hs hj
    simp [execOp, evO_sound ha hx, evO_sound ha hy, h, cutV]

theorem Ones.lits {us : List Value} (h : ∀ u ∈ us, u.oneCell' = true) : Ones C Γ Φ us := fun u hu => OneC.lit (h u hu)

theorem Holds.dropAll : ∀ {Δ Γ : List OA} {w : World}, Holds C (Δ ++ Γ) Φ w → Holds C Γ Φ w
  | [], _, _, h => h
  | _ :: Δ, _, _, h => Holds.dropAll (Δ := Δ) (Holds.drop h)
/-- of many rows some. -/
theorem Holds.subL {bt : TypeId} {L L' K : List (Value × List UInt8)} {w : World} (hp : L.Perm (L' ++ K)) (h : Holds C (pk (rowsL bt L) :: Γ) Φ w) : Holds C (pk (rowsL bt L') :: Γ) Φ w := by
  have h1 := h.unpack
  have h2 : Holds C ((rowsL bt L' ++ rowsL bt K) ++ Γ) Φ w := by
    rw [← rowsL_append]
    exact h1.perm ((hp.map fun (p : Value × List UInt8) => OA.row p.1 bt 1 p.2.length (p.2.map bcell)).append_right Γ)
  have h3 : Holds C (rowsL bt K ++ (rowsL bt L' ++ Γ)) Φ w := h2.perm (by
    rw [← List.append_assoc]
    exact List.perm_append_comm.append_right Γ)
  exact h3.dropAll.pack
theorem WL_subL {bt : TypeId} {L L' K : List (Value × List UInt8)} (hpk : Pick (pk (rowsL bt L)) Γ Γ1) (hp : L.Perm (L' ++ K)) (h : WL C ops l fr (pk (rowsL bt L') :: Γ1) Φ Q) : WL C ops l fr Γ Φ Q := fun a w ha hw => h a w ha ((pick_holds hpk hw).subL hp)
theorem WQ_subL {e : Exit} {bt : TypeId} {L L' K : List (Value × List UInt8)} (hpk : Pick (pk (rowsL bt L)) Γ Γ1) (hp : L.Perm (L' ++ K)) (h : WQ C e fr (pk (rowsL bt L') :: Γ1) Φ Q) : WQ C e fr Γ Φ Q := fun a w ha hw => h a w ha ((pick_holds hpk hw).subL hp)

theorem WL_takeL {bt : TypeId} {L : List (Value × List UInt8)} {i : Nat} {p : Value × List UInt8} (hi : L[i]? = some p) (hp : Pick (pk (rowsL bt L)) Γ Γ1)
    (h : WL C ops l fr (.row p.1 bt 1 p.2.length (p.2.map bcell) :: pk (rowsL bt (L.eraseIdx i)) :: Γ1) Φ Q) : WL C ops l fr Γ Φ Q := fun a w ha hw => h a w ha ((pick_holds hp hw).takeL hi)

theorem slT_rw {v : Value} {t : T} {w : World} {O : Nat → Prop} (h : slP 4 v t.len t.cells w O) : rwP 4 v t.len t.at_ w O := by
  have h1 := ent_slT (Φ := [Sl 4 v t.len t.cells]) (v := v) (t := t) List.mem_cons_self w O (fun χ hχ => by rcases List.mem_singleton.1 hχ with rfl; exact h)
  exact h1
/-- an own list of elements lent. -/
theorem Bor.rowT {v : Value} {et : TypeId} {t : T} : Bor [.row v et 4 t.len t.cells] Φ (Rw 4 v t.len t.at_ :: Φ) := fun w O ho hd hΦ ψ hψ => by
  rcases List.mem_cons.1 hψ with rfl | hψ
  · exact slT_rw (slP_of_row ho.1 fun k hk => hd k (fpL_cons.2 (.inl hk)))
  · exact hΦ ψ hψ
theorem Bor.both {v : Value} {et bt : TypeId} {t : T} (hm : t.ts ∈ Φ) : Bor [.row v et 4 t.len t.cells, pk (rowsL bt t.dls)] Φ (Rw 4 v t.len t.at_ :: t.tf :: Φ) := fun w O ho hd hΦ ψ hψ => by
  rcases List.mem_cons.1 hψ with rfl | hψ
  · exact slT_rw (slP_of_row ho.1 fun k hk => hd k (fpL_cons.2 (.inl hk)))
  · rcases List.mem_cons.1 hψ with rfl | hψ
    · exact T.tf_of_ts ho.2.2.1 (fun k hk => hd k (fpL_cons.2 (.inr (fpL_cons.2 (.inl hk))))) (hΦ _ hm)
    · exact hΦ ψ hψ
theorem Bor.sub {Γb : List OA} {Φb Φc : List SP} (h : Bor Γb Φ Φb) (hs : AllIn Φc Φb) : Bor Γb Φ Φc := fun w O ho hd hΦ ψ hψ => h w O ho hd hΦ ψ (hs ψ hψ)

/-- the cells of an own tree are one each. -/
theorem tree_ones {bt : TypeId} {t : T} (hp : Pick (pk (rowsL bt t.dls)) Γ Γ1) (hm : t.ts ∈ Φ) : ∀ w, Holds C Γ Φ w → ∀ u ∈ t.cells, u.oneCell' = true := fun w hw => by
  have key : ∀ (t : T), Own (rowsL bt t.dls) w → t.tsP w (avo C.O0 Γ) → ∀ u ∈ t.cells, u.oneCell' = true := by
    intro t
    induction t with
    | nil => intro _ _ u hu; cases hu
    | cons id ext dv data sv subs next _ ih =>
      intro ho h u hu
      simp only [T.cells, List.mem_cons] at hu
      rcases hu with rfl | rfl | rfl | rfl | hu
      · rfl
      · rfl
      · obtain ⟨A, c, hu, _⟩ := row_nil_or ho.1
        have hu : u = .slice A data.length c := hu
        rw [hu]
        rfl
      · obtain ⟨A, c, rfl, _⟩ := (show rwP 4 u subs.len subs.at_ w _ from h.1)
        rfl
      · exact ih ho.2.2 h.2.2 u hu
  exact key t (pick_holds hp hw).own.1 (hw.sp _ hm)

/-- a list of elements that is made, told as lasting at once. -/
theorem Effs.letT {o : Oper} {X : Type} {pf : X → Prop} {vx : X → Value} {G : X → List OA} {H : X → List SP} {v : X → Value} {et : TypeId} {n : Nat} {cs : List Value} (t : T) (hn : n = t.len) (hc : cs = t.cells)
    (h : Effs C fr Γ Φ o pf vx (fun x => .row (v x) et 4 n cs :: G x) H) : Effs C fr Γ Φ o pf vx G (fun x => Rw 4 (v x) t.len t.at_ :: H x) := by
  subst hn; subst hc
  refine ⟨fun x ψ hψ => List.mem_cons_of_mem _ (h.1 x ψ hψ), fun R a w ha hw => (h.2 R a w ha hw).mono fun v' w' ⟨x, hp, hv, hw'⟩ => ⟨x, hp, hv, ?_⟩⟩
  have h1 : Holds C (G x ++ R) (Sl 4 (v x) t.len t.cells :: H x) w' := Holds.letgo hw'
  refine ⟨h1.mod, h1.own, h1.ofp, h1.o0, fun ψ hψ => ?_⟩
  rcases List.mem_cons.1 hψ with rfl | hψ
  · exact slT_rw (h1.sp _ List.mem_cons_self)
  · exact h1.sp ψ (List.mem_cons_of_mem _ hψ)
end
end Go.Hs
