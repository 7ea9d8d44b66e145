/-
  Rules for walks, merged.
-/
import Derived.Test.YtoohgnegoaoleaaXa
import Derived.RangeFuncLeaves
import Derived.Test.YtoohgnegoaoleaaRows
/-
  The steps of a walk, with the reckoning of each side goal by default. No program is named here.
-/
namespace Go.Hs
open Go Go.RowKit
attribute [local irreducible] WL W WQ PL Runs Effs AllE Ent SubO FrIn Pick OneC Ones CellsE PartsE SeqE UZ By Sl Pt Ct

section
variable {C : Ctx} {ops : Array Oper} {l : List Oper} {o : Oper} {d : Nat} {v : Value} {fr : Fr} {Γ Γs : List OA} {Φ : List SP} {Q : Exit → Act → World → Prop} {ψ : SP}
  {X : Type} {pf : X → Prop} {vx : X → Value} {Γ' : X → List OA} {Φ' : X → List SP} {es us π : List Nat} {i : Nat}

theorem n1 (k : WL C ops l ((d, v) :: fr) Γ Φ Q) (hg : gv ops fr o.guard = some true := by exact rfl) (hd : o.dst = some d := by exact rfl) (hn : Nat.blt d C.n = true := by exact rfl)
    (h : Runs C fr Γ Φ o v := by (first | (apply Go.Hs.R_move; exact rfl) | (apply Go.Hs.R_assign; exact rfl) | (apply Go.Hs.R_extract; exact rfl; exact rfl) | (apply Go.Hs.R_pick_t; exact rfl; exact rfl) | (apply Go.Hs.R_pick_f; exact rfl; exact rfl) | (apply Go.Hs.G_bin; (first | (apply Go.Hs.R_cmp; exact rfl; exact rfl; exact rfl; (first | exact decide_eq_true (by omega) | exact decide_eq_false (by omega) | exact rfl)) | (apply Go.Hs.R_ari; exact rfl; exact rfl; exact rfl; (first | exact Go.Hs.wx_i64 (by omega) | exact Go.Hs.wx_u8 (by omega) | exact Go.Hs.wx_u64 (by omega) | exact Go.Hs.wx_u32 (by omega) | exact Go.Hs.wx_u16 (by omega) | exact Go.Hs.wx_b8 _ | exact rfl)) | (apply Go.Hs.R_eqB; exact rfl; exact rfl; exact rfl; exact rfl) | (apply Go.Hs.R_neB; exact rfl; exact rfl; exact rfl; exact rfl) | (apply Go.Hs.R_eqS; exact rfl; exact rfl; (first | exact decide_eq_true rfl | exact decide_eq_true (by assumption) | exact decide_eq_false (by assumption) | exact rfl)) | (apply Go.Hs.R_neS; exact rfl; exact rfl; (first | exact Go.Hs.neS_f rfl | exact Go.Hs.neS_f (by assumption) | exact Go.Hs.neS_t (by assumption) | exact rfl)) | (apply Go.Hs.R_addS; exact rfl; exact rfl; (first | omega | (simp only [List.length_take, List.length_drop, List.length_append, List.length_cons, List.length_nil, List.length_map, List.length_replicate]; omega))) | (apply Go.Hs.R_eqA; exact rfl; exact rfl; exact rfl; exact rfl; (first | exact rfl | kernel_rfl); (first | exact rfl | kernel_rfl); (first | exact rfl | kernel_rfl); (first | exact Go.Hs.Bc.self _ | exact Go.Hs.Bc.zero | exact Go.Hs.Bc.lit _ rfl); (first | exact Go.Hs.Bc.self _ | exact Go.Hs.Bc.zero | exact Go.Hs.Bc.lit _ rfl); (first | exact Go.Hs.Bc.self _ | exact Go.Hs.Bc.zero | exact Go.Hs.Bc.lit _ rfl); (first | exact Go.Hs.Bc.self _ | exact Go.Hs.Bc.zero | exact Go.Hs.Bc.lit _ rfl); (first | exact Go.Hs.Bc.self _ | exact Go.Hs.Bc.zero | exact Go.Hs.Bc.lit _ rfl); (first | exact Go.Hs.Bc.self _ | exact Go.Hs.Bc.zero | exact Go.Hs.Bc.lit _ rfl); (first | exact Go.Hs.Bc.self _ | exact Go.Hs.Bc.zero | exact Go.Hs.Bc.lit _ rfl); (first | exact Go.Hs.Bc.self _ | exact Go.Hs.Bc.zero | exact Go.Hs.Bc.lit _ rfl); (first | exact Go.Hs.Bc.self _ | exact Go.Hs.Bc.zero | exact Go.Hs.Bc.lit _ rfl); (first | exact Go.Hs.Bc.self _ | exact Go.Hs.Bc.zero | exact Go.Hs.Bc.lit _ rfl); (first | exact Go.Hs.Bc.self _ | exact Go.Hs.Bc.zero | exact Go.Hs.Bc.lit _ rfl); (first | exact Go.Hs.Bc.self _ | exact Go.Hs.Bc.zero | exact Go.Hs.Bc.lit _ rfl); (first | exact decide_eq_true (by assumption) | exact decide_eq_false (by assumption) | exact decide_eq_true rfl | exact decide_eq_false (by decide) | exact rfl)) | (apply Go.Hs.R_neA; exact rfl; exact rfl; exact rfl; exact rfl; (first | exact rfl | kernel_rfl); (first | exact rfl | kernel_rfl); (first | exact rfl | kernel_rfl); (first | exact Go.Hs.Bc.self _ | exact Go.Hs.Bc.zero | exact Go.Hs.Bc.lit _ rfl); (first | exact Go.Hs.Bc.self _ | exact Go.Hs.Bc.zero | exact Go.Hs.Bc.lit _ rfl); (first | exact Go.Hs.Bc.self _ | exact Go.Hs.Bc.zero | exact Go.Hs.Bc.lit _ rfl); (first | exact Go.Hs.Bc.self _ | exact Go.Hs.Bc.zero | exact Go.Hs.Bc.lit _ rfl); (first | exact Go.Hs.Bc.self _ | exact Go.Hs.Bc.zero | exact Go.Hs.Bc.lit _ rfl); (first | exact Go.Hs.Bc.self _ | exact Go.Hs.Bc.zero | exact Go.Hs.Bc.lit _ rfl); (first | exact Go.Hs.Bc.self _ | exact Go.Hs.Bc.zero | exact Go.Hs.Bc.lit _ rfl); (first | exact Go.Hs.Bc.self _ | exact Go.Hs.Bc.zero | exact Go.Hs.Bc.lit _ rfl); (first | exact Go.Hs.Bc.self _ | exact Go.Hs.Bc.zero | exact Go.Hs.Bc.lit _ rfl); (first | exact Go.Hs.Bc.self _ | exact Go.Hs.Bc.zero | exact Go.Hs.Bc.lit _ rfl); (first | exact Go.Hs.Bc.self _ | exact Go.Hs.Bc.zero | exact Go.Hs.Bc.lit _ rfl); (first | exact Go.Hs.Bc.self _ | exact Go.Hs.Bc.zero | exact Go.Hs.Bc.lit _ rfl); (first | exact Go.Hs.neS_f' (by assumption) | exact Go.Hs.neS_t' (by assumption) | exact Go.Hs.neS_f' rfl | exact Go.Hs.neS_t' (by decide) | exact rfl)))) | (apply Go.Hs.G_load; (first | (apply Go.Hs.R_load1; exact rfl; (repeat' (first | exact Go.Hs.Pick.head _ _ | apply Go.Hs.Pick.tail)); (intro _; exact rfl); exact rfl) | (apply Go.Hs.R_loadN; exact rfl; (repeat' (first | exact Go.Hs.Pick.head _ _ | apply Go.Hs.Pick.tail)); (intro _; exact rfl); (intro _; exact rfl); exact rfl) | (apply Go.Hs.R_loadP; exact rfl; (repeat' (first | exact Go.Hs.mcs | apply Go.Hs.mct)); (intro _; exact rfl); exact rfl) | (apply Go.Hs.R_loadPN; exact rfl; (repeat' (first | exact Go.Hs.mcs | apply Go.Hs.mct)); (intro _; exact rfl); (intro _; exact rfl)) | (apply Go.Hs.R_loadPT; exact rfl; (repeat' (first | exact Go.Hs.mcs | apply Go.Hs.mct)); (intro _; exact rfl); (intro _; exact rfl); exact rfl) | (apply Go.Hs.R_loadPO; exact rfl; (repeat' (first | exact Go.Hs.mcs | apply Go.Hs.mct)); (intro _; exact rfl); exact rfl) | (apply Go.Hs.R_loadPON; exact rfl; (repeat' (first | exact Go.Hs.mcs | apply Go.Hs.mct)); (intro _; exact rfl); (intro _; exact rfl); exact rfl) | (apply Go.Hs.R_loadRow; exact rfl; (repeat' (first | exact Go.Hs.Pick.head _ _ | apply Go.Hs.Pick.tail)); (intro _; exact rfl); (first | omega | (simp only [List.length_take, List.length_drop, List.length_append, List.length_cons, List.length_nil, List.length_map, List.length_replicate]; omega)); (assumption)) | (apply Go.Hs.R_loadRowF; exact rfl; (repeat' (first | exact Go.Hs.Pick.head _ _ | apply Go.Hs.Pick.tail)); (intro _; exact rfl); (assumption)))) | (apply Go.Hs.R_fieldO0; exact rfl; exact rfl; exact rfl; (intro _; exact rfl); exact rfl) | (apply Go.Hs.R_fieldO; exact rfl; exact rfl; exact rfl; (intro _; exact rfl); exact rfl) | (apply Go.Hs.R_not; exact rfl; exact rfl) | (apply Go.Hs.G_call; (first | (apply Go.Hs.R_lenBy; exact rfl; (repeat' (first | exact Go.Hs.mcs | apply Go.Hs.mct)); exact rfl) | (apply Go.Hs.R_lenRow; exact rfl; (repeat' (first | exact Go.Hs.Pick.head _ _ | apply Go.Hs.Pick.tail)); exact rfl) | (apply Go.Hs.R_lenSl; exact rfl; (repeat' (first | exact Go.Hs.mcs | apply Go.Hs.mct)); exact rfl) | (apply Go.Hs.R_lenRw; exact rfl; (repeat' (first | exact Go.Hs.mcs | apply Go.Hs.mct)); exact rfl) | (apply Go.Hs.R_lenNil; exact rfl; exact rfl) | (apply Go.Hs.R_max2; exact rfl; exact rfl; (first | exact if_pos (by omega) | exact if_neg (by omega))) | (apply Go.Hs.R_min2; exact rfl; exact rfl; (first | exact if_pos (by omega) | exact if_neg (by omega))))) | (apply Go.Hs.R_convi; exact rfl; exact rfl; exact rfl; (first | exact Go.Hs.wx_i64 (by omega) | exact Go.Hs.wx_u8 (by omega) | exact Go.Hs.wx_u64 (by omega) | exact Go.Hs.wx_u32 (by omega) | exact Go.Hs.wx_u16 (by omega) | exact Go.Hs.wx_b8 _ | exact rfl)) | (apply Go.Hs.R_toStr; exact rfl; (repeat' (first | exact Go.Hs.mcs | apply Go.Hs.mct)); exact rfl; exact rfl; exact rfl) | (apply Go.Hs.R_toStrRow; exact rfl; (repeat' (first | exact Go.Hs.Pick.head _ _ | apply Go.Hs.Pick.tail)); (first | exact Go.Hs.nil_map | exact Go.Hs.one_map _ | exact Go.Hs.two_map _ _ | exact rfl); exact rfl; exact rfl; exact rfl) | (apply Go.Hs.R_build; exact rfl; (focus (repeat (first | apply Go.Hs.PartsE.nil | (apply Go.Hs.PartsE.cons; (focus (first | (apply Go.Hs.CellsE.lit; exact rfl) | (apply Go.Hs.CellsE.one; (first | (apply Go.Hs.OneC.lit; exact rfl) | (apply Go.Hs.OneC.by_; (repeat' (first | exact Go.Hs.mcs | apply Go.Hs.mct)); done) | (apply Go.Hs.OneC.sl; (repeat' (first | exact Go.Hs.mcs | apply Go.Hs.mct)); done) | (apply Go.Hs.OneC.rw; (repeat' (first | exact Go.Hs.mcs | apply Go.Hs.mct)); done) | (apply Go.Hs.OneC.row; (repeat' (first | exact Go.Hs.Pick.head _ _ | apply Go.Hs.Pick.tail))))))))))); (intro _; exact rfl); exact rfl; exact rfl; (intro _; go_simp; exact rfl); exact rfl) | (apply Go.Hs.R_buildArr; exact rfl; (focus (repeat (first | apply Go.Hs.SeqE.nil | (apply Go.Hs.SeqE.cons; exact rfl; (focus (first | (apply Go.Hs.CellsE.lit; exact rfl) | (apply Go.Hs.CellsE.one; (first | (apply Go.Hs.OneC.lit; exact rfl) | (apply Go.Hs.OneC.by_; (repeat' (first | exact Go.Hs.mcs | apply Go.Hs.mct)); done) | (apply Go.Hs.OneC.sl; (repeat' (first | exact Go.Hs.mcs | apply Go.Hs.mct)); done) | (apply Go.Hs.OneC.rw; (repeat' (first | exact Go.Hs.mcs | apply Go.Hs.mct)); done) | (apply Go.Hs.OneC.row; (repeat' (first | exact Go.Hs.Pick.head _ _ | apply Go.Hs.Pick.tail))))))); exact rfl) | exact rfl))); (intro _; exact rfl); exact rfl; exact rfl; (intro _; exact rfl); exact rfl; exact rfl) | (apply Go.Hs.R_field1; exact rfl; exact rfl; exact rfl; (intro _; exact rfl); exact rfl) | (apply Go.Hs.R_fieldN; exact rfl; exact rfl; exact rfl; (intro _; exact rfl); (intro _; exact rfl); exact rfl) | (apply Go.Hs.R_nilCheck; exact rfl) | (apply Go.Hs.R_makeFunc; exact rfl) | (apply Go.Hs.R_makeFunc1; exact rfl) | (apply Go.Hs.R_idxRow; exact rfl; exact rfl; (repeat' (first | exact Go.Hs.Pick.head _ _ | apply Go.Hs.Pick.tail)); exact rfl; (intro _; exact rfl); (focus (first | exact Go.Hs.lit0 | exact Go.Hs.lit1 | exact Go.Hs.lit2 | exact Go.Hs.lit3 | exact Go.Hs.lit4 | exact Go.Hs.lit5 | exact Go.Hs.lit6 | exact Go.Hs.lit7 | exact Go.Hs.lit8 | exact rfl | (simp; done) | omega)); (first | omega | (simp only [List.length_take, List.length_drop, List.length_append, List.length_cons, List.length_nil, List.length_map, List.length_replicate]; omega))) | (apply Go.Hs.R_fieldRow; exact rfl; (repeat' (first | exact Go.Hs.Pick.head _ _ | apply Go.Hs.Pick.tail)); (first | omega | (simp only [List.length_take, List.length_drop, List.length_append, List.length_cons, List.length_nil, List.length_map, List.length_replicate]; omega)); exact rfl; exact rfl; (intro _; exact rfl); exact rfl) | (apply Go.Hs.R_idxArr; exact rfl; exact rfl; exact rfl; (intro _; exact rfl); (focus (first | exact Go.Hs.lit0 | exact Go.Hs.lit1 | exact Go.Hs.lit2 | exact Go.Hs.lit3 | exact Go.Hs.lit4 | exact Go.Hs.lit5 | exact Go.Hs.lit6 | exact Go.Hs.lit7 | exact Go.Hs.lit8 | exact rfl | (simp; done) | omega)); (first | omega | (simp only [List.length_take, List.length_drop, List.length_append, List.length_cons, List.length_nil, List.length_map, List.length_replicate]; omega))) | (apply Go.Hs.R_sliceArr; exact rfl; exact rfl; (intro _; exact rfl); exact rfl))) : WL C ops (o :: l) fr Γ Φ Q := WL_runs hg hd hn h k
theorem n2 (k : ∀ x, pf x → WL C ops l ((d, vx x) :: fr) (Γ' x) (Φ' x) Q) (hg : gv ops fr o.guard = some true := by exact rfl) (hd : o.dst = some d := by exact rfl) (hn : Nat.blt d C.n = true := by exact rfl)
    (h : Effs C fr Γ Φ o pf vx Γ' Φ' := by (first | (apply Go.Hs.E_alloc; (intro _; exact rfl); exact rfl) | (apply Go.Hs.E_box; exact rfl; (focus (first | (apply Go.Hs.CellsE.lit; exact rfl) | (apply Go.Hs.CellsE.one; (first | (apply Go.Hs.OneC.lit; exact rfl) | (apply Go.Hs.OneC.by_; (repeat' (first | exact Go.Hs.mcs | apply Go.Hs.mct)); done) | (apply Go.Hs.OneC.sl; (repeat' (first | exact Go.Hs.mcs | apply Go.Hs.mct)); done) | (apply Go.Hs.OneC.rw; (repeat' (first | exact Go.Hs.mcs | apply Go.Hs.mct)); done) | (apply Go.Hs.OneC.row; (repeat' (first | exact Go.Hs.Pick.head _ _ | apply Go.Hs.Pick.tail)))))))))) : WL C ops (o :: l) fr Γ Φ Q := WL_effs hg hd hn h k
theorem n3 (k : ∀ x, pf x → WL C ops l fr (Γ' x) (Φ' x) Q) (hg : gv ops fr o.guard = some true := by exact rfl) (hd : o.dst = none := by exact rfl)
    (h : Effs C fr Γ Φ o pf vx Γ' Φ' := by (first | (apply Go.Hs.E_store; exact rfl; exact rfl; (repeat' (first | exact Go.Hs.Pick.head _ _ | apply Go.Hs.Pick.tail)); (focus (first | (apply Go.Hs.CellsE.lit; exact rfl) | (apply Go.Hs.CellsE.one; (first | (apply Go.Hs.OneC.lit; exact rfl) | (apply Go.Hs.OneC.by_; (repeat' (first | exact Go.Hs.mcs | apply Go.Hs.mct)); done) | (apply Go.Hs.OneC.sl; (repeat' (first | exact Go.Hs.mcs | apply Go.Hs.mct)); done) | (apply Go.Hs.OneC.rw; (repeat' (first | exact Go.Hs.mcs | apply Go.Hs.mct)); done) | (apply Go.Hs.OneC.row; (repeat' (first | exact Go.Hs.Pick.head _ _ | apply Go.Hs.Pick.tail))))))); (intro _; exact rfl); (focus (repeat (first | apply Go.Hs.Ones.nil | exact Go.Hs.Ones.bytes | (apply Go.Hs.Ones.cons; (focus (first | (apply Go.Hs.OneC.lit; exact rfl) | (apply Go.Hs.OneC.by_; (repeat' (first | exact Go.Hs.mcs | apply Go.Hs.mct)); done) | (apply Go.Hs.OneC.sl; (repeat' (first | exact Go.Hs.mcs | apply Go.Hs.mct)); done) | (apply Go.Hs.OneC.rw; (repeat' (first | exact Go.Hs.mcs | apply Go.Hs.mct)); done) | (apply Go.Hs.OneC.row; (repeat' (first | exact Go.Hs.Pick.head _ _ | apply Go.Hs.Pick.tail))))))))); exact rfl))) : WL C ops (o :: l) fr Γ Φ Q := WL_do hg hd h k
theorem n4 (k : WL C ops l ((d, v) :: fr) Γ (ψ :: Φ) Q) (hg : gv ops fr o.guard = some true := by exact rfl) (hd : o.dst = some d := by exact rfl) (hn : Nat.blt d C.n = true := by exact rfl)
    (h : Runs C fr Γ Φ o v ∧ Ent Φ ψ := by (first | (apply Go.Hs.R_idxBy; exact rfl; exact rfl; (repeat' (first | exact Go.Hs.mcs | apply Go.Hs.mct)); exact rfl; (intro _; exact rfl); (focus (first | exact Go.Hs.lit0 | exact Go.Hs.lit1 | exact Go.Hs.lit2 | exact Go.Hs.lit3 | exact Go.Hs.lit4 | exact Go.Hs.lit5 | exact Go.Hs.lit6 | exact Go.Hs.lit7 | exact Go.Hs.lit8 | exact rfl | (simp; done) | omega)); (first | omega | (simp only [List.length_take, List.length_drop, List.length_append, List.length_cons, List.length_nil, List.length_map, List.length_replicate]; omega))) | (apply Go.Hs.R_idxRw; exact rfl; exact rfl; (repeat' (first | exact Go.Hs.mcs | apply Go.Hs.mct)); exact rfl; (intro _; exact rfl); (focus (first | exact Go.Hs.lit0 | exact Go.Hs.lit1 | exact Go.Hs.lit2 | exact Go.Hs.lit3 | exact Go.Hs.lit4 | exact Go.Hs.lit5 | exact Go.Hs.lit6 | exact Go.Hs.lit7 | exact Go.Hs.lit8 | exact rfl | (simp; done) | omega)); (first | omega | (simp only [List.length_take, List.length_drop, List.length_append, List.length_cons, List.length_nil, List.length_map, List.length_replicate]; omega)); (first | assumption | exact rfl)) | (apply Go.Hs.R_cutBy; exact rfl; (repeat' (first | exact Go.Hs.mcs | apply Go.Hs.mct)); exact rfl; (intro _; exact rfl); exact rfl; exact rfl; (focus (first | exact Go.Hs.lit0 | exact Go.Hs.lit1 | exact Go.Hs.lit2 | exact Go.Hs.lit3 | exact Go.Hs.lit4 | exact Go.Hs.lit5 | exact Go.Hs.lit6 | exact Go.Hs.lit7 | exact Go.Hs.lit8 | exact rfl | (simp; done) | omega)); (focus (first | exact Go.Hs.lit0 | exact Go.Hs.lit1 | exact Go.Hs.lit2 | exact Go.Hs.lit3 | exact Go.Hs.lit4 | exact Go.Hs.lit5 | exact Go.Hs.lit6 | exact Go.Hs.lit7 | exact Go.Hs.lit8 | exact rfl | (simp; done) | omega)); (first | omega | (simp only [List.length_take, List.length_drop, List.length_append, List.length_cons, List.length_nil, List.length_map, List.length_replicate]; omega)); (first | omega | (simp only [List.length_take, List.length_drop, List.length_append, List.length_cons, List.length_nil, List.length_map, List.length_replicate]; omega)); (focus ((try (conv => lhs; simp only [Nat.add_sub_cancel_left, Nat.sub_zero, List.drop_zero, List.nil_append])); (first | done | exact rfl)))) | (apply Go.Hs.R_fieldP; exact rfl; (repeat' (first | exact Go.Hs.mcs | apply Go.Hs.mct)); exact rfl; exact rfl; (intro _; exact rfl); exact rfl; exact rfl))) : WL C ops (o :: l) fr Γ Φ Q := WL_runsF hg hd hn h k
theorem n5 (k : WL C ops l ((d, undef) :: fr) Γ Φ Q) (hg : gv ops fr o.guard = some false := by exact rfl) (hd : o.dst = some d := by exact rfl) (hn : Nat.blt d C.n = true := by exact rfl) :
    WL C ops (o :: l) fr Γ Φ Q := WL_pass hg hd hn k
theorem n6 {f : FuncId} {args : List Operand} {argTypes : Array TypeId} {vs : List Value} {Φp : List SP} {ty : TypeId} {pos : String} {aft : Array Edge} {g : Option (Nat × Bool)} (hfn : CtD C.P f vs Φp v) (k : WL C ops l ((d, v) :: fr) Γ Φ Q)
    (hg : gv ops fr g = some true := by exact rfl) (hn : Nat.blt d C.n = true := by exact rfl) (ha : evOs fr args = some vs := by exact rfl)
    (hrun : ∀ (aas : Array Value) (w : World), (callFunc f aas).run C.P w = .ok (.enter f aas) w := by (intro _ _; simp)) (hin : AllE Φp Φ := by (first | ((repeat (first | exact Go.Hs.AllE.nil _ | (apply Go.Hs.AllE.cons; (focus (first | exact Go.Hs.ent_nilBy | exact Go.Hs.ent_nilSl | (apply Go.Hs.Ent.mem; repeat' (first | exact Go.Hs.mcs | apply Go.Hs.mct))))))); done) | fail)) : WL C ops (⟨some d, .call { callee := .value (.func f), args := args.toArray, argTypes := argTypes }, ty, pos, aft, g⟩ :: l) fr Γ Φ Q :=
  WL_runs hg rfl hn (R_call ha hrun hfn hin) k
theorem n6v {fn : FuncId} {callee : Operand} {first captured : Array Value} {aas : List Value} {args : List Operand} {argTypes : Array TypeId} {vs : List Value} {Φp : List SP} {ty : TypeId} {pos : String} {aft : Array Edge} {g : Option (Nat × Bool)} (hfn : CtD C.P fn aas Φp v) (k : WL C ops l ((d, v) :: fr) Γ Φ Q)
    (hc : evO fr callee = some (.func (.func fn) first captured) := by exact rfl) (hg : gv ops fr g = some true := by exact rfl) (hn : Nat.blt d C.n = true := by exact rfl) (ha : evOs fr args = some vs := by exact rfl) (has : first.toList ++ vs ++ captured.toList = aas := by exact rfl)
    (hrun : ∀ (aas : Array Value) (w : World), (callFunc fn aas).run C.P w = .ok (.enter fn aas) w := by (intro _ _; simp)) (hin : AllE Φp Φ := by (first | ((repeat (first | exact Go.Hs.AllE.nil _ | (apply Go.Hs.AllE.cons; (focus (first | exact Go.Hs.ent_nilBy | exact Go.Hs.ent_nilSl | (apply Go.Hs.Ent.mem; repeat' (first | exact Go.Hs.mcs | apply Go.Hs.mct))))))); done) | fail)) : WL C ops (⟨some d, .call { callee := .value callee, args := args.toArray, argTypes := argTypes }, ty, pos, aft, g⟩ :: l) fr Γ Φ Q :=
  WL_runs hg rfl hn (R_callG hc ha has hrun hfn hin) k
theorem n7 {c : Operand} {x y : Code} (h : W C x fr Γ Φ Q) (hc : evO fr c = some (.bool true) := by exact rfl) : W C (.cond c x y) fr Γ Φ Q := W_cond_t hc h
theorem n8 {c : Operand} {x y : Code} (h : W C y fr Γ Φ Q) (hc : evO fr c = some (.bool false) := by exact rfl) : W C (.cond c x y) fr Γ Φ Q := W_cond_f hc h
theorem n9 {id i : Nat} (h : WQ C (.exit i) fr Γ Φ Q) (hne : Nat.beq i id = false := by exact rfl) : WQ C (.exit i) fr Γ Φ (Exit.inBlock id Q) := WQ_block_other hne h

theorem p1 (k : PL C ops Γs es us Q π ((d, v) :: fr) Γ Φ) (he : clsOf es us i = 0 := by exact rfl) (ho : lget ops.toList i = some o := by exact rfl) (hg : gv ops fr o.guard = some true := by exact rfl) (hd : o.dst = some d := by exact rfl) (hn : Nat.blt d C.n = true := by exact rfl)
    (h : Runs C fr Γs Φ o v := by (first | (apply Go.Hs.R_move; exact rfl) | (apply Go.Hs.R_assign; exact rfl) | (apply Go.Hs.R_extract; exact rfl; exact rfl) | (apply Go.Hs.R_pick_t; exact rfl; exact rfl) | (apply Go.Hs.R_pick_f; exact rfl; exact rfl) | (apply Go.Hs.G_bin; (first | (apply Go.Hs.R_cmp; exact rfl; exact rfl; exact rfl; (first | exact decide_eq_true (by omega) | exact decide_eq_false (by omega) | exact rfl)) | (apply Go.Hs.R_ari; exact rfl; exact rfl; exact rfl; (first | exact Go.Hs.wx_i64 (by omega) | exact Go.Hs.wx_u8 (by omega) | exact Go.Hs.wx_u64 (by omega) | exact Go.Hs.wx_u32 (by omega) | exact Go.Hs.wx_u16 (by omega) | exact Go.Hs.wx_b8 _ | exact rfl)) | (apply Go.Hs.R_eqB; exact rfl; exact rfl; exact rfl; exact rfl) | (apply Go.Hs.R_neB; exact rfl; exact rfl; exact rfl; exact rfl) | (apply Go.Hs.R_eqS; exact rfl; exact rfl; (first | exact decide_eq_true rfl | exact decide_eq_true (by assumption) | exact decide_eq_false (by assumption) | exact rfl)) | (apply Go.Hs.R_neS; exact rfl; exact rfl; (first | exact Go.Hs.neS_f rfl | exact Go.Hs.neS_f (by assumption) | exact Go.Hs.neS_t (by assumption) | exact rfl)) | (apply Go.Hs.R_addS; exact rfl; exact rfl; (first | omega | (simp only [List.length_take, List.length_drop, List.length_append, List.length_cons, List.length_nil, List.length_map, List.length_replicate]; omega))) | (apply Go.Hs.R_eqA; exact rfl; exact rfl; exact rfl; exact rfl; (first | exact rfl | kernel_rfl); (first | exact rfl | kernel_rfl); (first | exact rfl | kernel_rfl); (first | exact Go.Hs.Bc.self _ | exact Go.Hs.Bc.zero | exact Go.Hs.Bc.lit _ rfl); (first | exact Go.Hs.Bc.self _ | exact Go.Hs.Bc.zero | exact Go.Hs.Bc.lit _ rfl); (first | exact Go.Hs.Bc.self _ | exact Go.Hs.Bc.zero | exact Go.Hs.Bc.lit _ rfl); (first | exact Go.Hs.Bc.self _ | exact Go.Hs.Bc.zero | exact Go.Hs.Bc.lit _ rfl); (first | exact Go.Hs.Bc.self _ | exact Go.Hs.Bc.zero | exact Go.Hs.Bc.lit _ rfl); (first | exact Go.Hs.Bc.self _ | exact Go.Hs.Bc.zero | exact Go.Hs.Bc.lit _ rfl); (first | exact Go.Hs.Bc.self _ | exact Go.Hs.Bc.zero | exact Go.Hs.Bc.lit _ rfl); (first | exact Go.Hs.Bc.self _ | exact Go.Hs.Bc.zero | exact Go.Hs.Bc.lit _ rfl); (first | exact Go.Hs.Bc.self _ | exact Go.Hs.Bc.zero | exact Go.Hs.Bc.lit _ rfl); (first | exact Go.Hs.Bc.self _ | exact Go.Hs.Bc.zero | exact Go.Hs.Bc.lit _ rfl); (first | exact Go.Hs.Bc.self _ | exact Go.Hs.Bc.zero | exact Go.Hs.Bc.lit _ rfl); (first | exact Go.Hs.Bc.self _ | exact Go.Hs.Bc.zero | exact Go.Hs.Bc.lit _ rfl); (first | exact decide_eq_true (by assumption) | exact decide_eq_false (by assumption) | exact decide_eq_true rfl | exact decide_eq_false (by decide) | exact rfl)) | (apply Go.Hs.R_neA; exact rfl; exact rfl; exact rfl; exact rfl; (first | exact rfl | kernel_rfl); (first | exact rfl | kernel_rfl); (first | exact rfl | kernel_rfl); (first | exact Go.Hs.Bc.self _ | exact Go.Hs.Bc.zero | exact Go.Hs.Bc.lit _ rfl); (first | exact Go.Hs.Bc.self _ | exact Go.Hs.Bc.zero | exact Go.Hs.Bc.lit _ rfl); (first | exact Go.Hs.Bc.self _ | exact Go.Hs.Bc.zero | exact Go.Hs.Bc.lit _ rfl); (first | exact Go.Hs.Bc.self _ | exact Go.Hs.Bc.zero | exact Go.Hs.Bc.lit _ rfl); (first | exact Go.Hs.Bc.self _ | exact Go.Hs.Bc.zero | exact Go.Hs.Bc.lit _ rfl); (first | exact Go.Hs.Bc.self _ | exact Go.Hs.Bc.zero | exact Go.Hs.Bc.lit _ rfl); (first | exact Go.Hs.Bc.self _ | exact Go.Hs.Bc.zero | exact Go.Hs.Bc.lit _ rfl); (first | exact Go.Hs.Bc.self _ | exact Go.Hs.Bc.zero | exact Go.Hs.Bc.lit _ rfl); (first | exact Go.Hs.Bc.self _ | exact Go.Hs.Bc.zero | exact Go.Hs.Bc.lit _ rfl); (first | exact Go.Hs.Bc.self _ | exact Go.Hs.Bc.zero | exact Go.Hs.Bc.lit _ rfl); (first | exact Go.Hs.Bc.self _ | exact Go.Hs.Bc.zero | exact Go.Hs.Bc.lit _ rfl); (first | exact Go.Hs.Bc.self _ | exact Go.Hs.Bc.zero | exact Go.Hs.Bc.lit _ rfl); (first | exact Go.Hs.neS_f' (by assumption) | exact Go.Hs.neS_t' (by assumption) | exact Go.Hs.neS_f' rfl | exact Go.Hs.neS_t' (by decide) | exact rfl)))) | (apply Go.Hs.G_load; (first | (apply Go.Hs.R_load1; exact rfl; (repeat' (first | exact Go.Hs.Pick.head _ _ | apply Go.Hs.Pick.tail)); (intro _; exact rfl); exact rfl) | (apply Go.Hs.R_loadN; exact rfl; (repeat' (first | exact Go.Hs.Pick.head _ _ | apply Go.Hs.Pick.tail)); (intro _; exact rfl); (intro _; exact rfl); exact rfl) | (apply Go.Hs.R_loadP; exact rfl; (repeat' (first | exact Go.Hs.mcs | apply Go.Hs.mct)); (intro _; exact rfl); exact rfl) | (apply Go.Hs.R_loadPN; exact rfl; (repeat' (first | exact Go.Hs.mcs | apply Go.Hs.mct)); (intro _; exact rfl); (intro _; exact rfl)) | (apply Go.Hs.R_loadPT; exact rfl; (repeat' (first | exact Go.Hs.mcs | apply Go.Hs.mct)); (intro _; exact rfl); (intro _; exact rfl); exact rfl) | (apply Go.Hs.R_loadPO; exact rfl; (repeat' (first | exact Go.Hs.mcs | apply Go.Hs.mct)); (intro _; exact rfl); exact rfl) | (apply Go.Hs.R_loadPON; exact rfl; (repeat' (first | exact Go.Hs.mcs | apply Go.Hs.mct)); (intro _; exact rfl); (intro _; exact rfl); exact rfl) | (apply Go.Hs.R_loadRow; exact rfl; (repeat' (first | exact Go.Hs.Pick.head _ _ | apply Go.Hs.Pick.tail)); (intro _; exact rfl); (first | omega | (simp only [List.length_take, List.length_drop, List.length_append, List.length_cons, List.length_nil, List.length_map, List.length_replicate]; omega)); (assumption)) | (apply Go.Hs.R_loadRowF; exact rfl; (repeat' (first | exact Go.Hs.Pick.head _ _ | apply Go.Hs.Pick.tail)); (intro _; exact rfl); (assumption)))) | (apply Go.Hs.R_fieldO0; exact rfl; exact rfl; exact rfl; (intro _; exact rfl); exact rfl) | (apply Go.Hs.R_fieldO; exact rfl; exact rfl; exact rfl; (intro _; exact rfl); exact rfl) | (apply Go.Hs.R_not; exact rfl; exact rfl) | (apply Go.Hs.G_call; (first | (apply Go.Hs.R_lenBy; exact rfl; (repeat' (first | exact Go.Hs.mcs | apply Go.Hs.mct)); exact rfl) | (apply Go.Hs.R_lenRow; exact rfl; (repeat' (first | exact Go.Hs.Pick.head _ _ | apply Go.Hs.Pick.tail)); exact rfl) | (apply Go.Hs.R_lenSl; exact rfl; (repeat' (first | exact Go.Hs.mcs | apply Go.Hs.mct)); exact rfl) | (apply Go.Hs.R_lenRw; exact rfl; (repeat' (first | exact Go.Hs.mcs | apply Go.Hs.mct)); exact rfl) | (apply Go.Hs.R_lenNil; exact rfl; exact rfl) | (apply Go.Hs.R_max2; exact rfl; exact rfl; (first | exact if_pos (by omega) | exact if_neg (by omega))) | (apply Go.Hs.R_min2; exact rfl; exact rfl; (first | exact if_pos (by omega) | exact if_neg (by omega))))) | (apply Go.Hs.R_convi; exact rfl; exact rfl; exact rfl; (first | exact Go.Hs.wx_i64 (by omega) | exact Go.Hs.wx_u8 (by omega) | exact Go.Hs.wx_u64 (by omega) | exact Go.Hs.wx_u32 (by omega) | exact Go.Hs.wx_u16 (by omega) | exact Go.Hs.wx_b8 _ | exact rfl)) | (apply Go.Hs.R_toStr; exact rfl; (repeat' (first | exact Go.Hs.mcs | apply Go.Hs.mct)); exact rfl; exact rfl; exact rfl) | (apply Go.Hs.R_toStrRow; exact rfl; (repeat' (first | exact Go.Hs.Pick.head _ _ | apply Go.Hs.Pick.tail)); (first | exact Go.Hs.nil_map | exact Go.Hs.one_map _ | exact Go.Hs.two_map _ _ | exact rfl); exact rfl; exact rfl; exact rfl) | (apply Go.Hs.R_build; exact rfl; (focus (repeat (first | apply Go.Hs.PartsE.nil | (apply Go.Hs.PartsE.cons; (focus (first | (apply Go.Hs.CellsE.lit; exact rfl) | (apply Go.Hs.CellsE.one; (first | (apply Go.Hs.OneC.lit; exact rfl) | (apply Go.Hs.OneC.by_; (repeat' (first | exact Go.Hs.mcs | apply Go.Hs.mct)); done) | (apply Go.Hs.OneC.sl; (repeat' (first | exact Go.Hs.mcs | apply Go.Hs.mct)); done) | (apply Go.Hs.OneC.rw; (repeat' (first | exact Go.Hs.mcs | apply Go.Hs.mct)); done) | (apply Go.Hs.OneC.row; (repeat' (first | exact Go.Hs.Pick.head _ _ | apply Go.Hs.Pick.tail))))))))))); (intro _; exact rfl); exact rfl; exact rfl; (intro _; go_simp; exact rfl); exact rfl) | (apply Go.Hs.R_buildArr; exact rfl; (focus (repeat (first | apply Go.Hs.SeqE.nil | (apply Go.Hs.SeqE.cons; exact rfl; (focus (first | (apply Go.Hs.CellsE.lit; exact rfl) | (apply Go.Hs.CellsE.one; (first | (apply Go.Hs.OneC.lit; exact rfl) | (apply Go.Hs.OneC.by_; (repeat' (first | exact Go.Hs.mcs | apply Go.Hs.mct)); done) | (apply Go.Hs.OneC.sl; (repeat' (first | exact Go.Hs.mcs | apply Go.Hs.mct)); done) | (apply Go.Hs.OneC.rw; (repeat' (first | exact Go.Hs.mcs | apply Go.Hs.mct)); done) | (apply Go.Hs.OneC.row; (repeat' (first | exact Go.Hs.Pick.head _ _ | apply Go.Hs.Pick.tail))))))); exact rfl) | exact rfl))); (intro _; exact rfl); exact rfl; exact rfl; (intro _; exact rfl); exact rfl; exact rfl) | (apply Go.Hs.R_field1; exact rfl; exact rfl; exact rfl; (intro _; exact rfl); exact rfl) | (apply Go.Hs.R_fieldN; exact rfl; exact rfl; exact rfl; (intro _; exact rfl); (intro _; exact rfl); exact rfl) | (apply Go.Hs.R_nilCheck; exact rfl) | (apply Go.Hs.R_makeFunc; exact rfl) | (apply Go.Hs.R_makeFunc1; exact rfl) | (apply Go.Hs.R_idxRow; exact rfl; exact rfl; (repeat' (first | exact Go.Hs.Pick.head _ _ | apply Go.Hs.Pick.tail)); exact rfl; (intro _; exact rfl); (focus (first | exact Go.Hs.lit0 | exact Go.Hs.lit1 | exact Go.Hs.lit2 | exact Go.Hs.lit3 | exact Go.Hs.lit4 | exact Go.Hs.lit5 | exact Go.Hs.lit6 | exact Go.Hs.lit7 | exact Go.Hs.lit8 | exact rfl | (simp; done) | omega)); (first | omega | (simp only [List.length_take, List.length_drop, List.length_append, List.length_cons, List.length_nil, List.length_map, List.length_replicate]; omega))) | (apply Go.Hs.R_fieldRow; exact rfl; (repeat' (first | exact Go.Hs.Pick.head _ _ | apply Go.Hs.Pick.tail)); (first | omega | (simp only [List.length_take, List.length_drop, List.length_append, List.length_cons, List.length_nil, List.length_map, List.length_replicate]; omega)); exact rfl; exact rfl; (intro _; exact rfl); exact rfl) | (apply Go.Hs.R_idxArr; exact rfl; exact rfl; exact rfl; (intro _; exact rfl); (focus (first | exact Go.Hs.lit0 | exact Go.Hs.lit1 | exact Go.Hs.lit2 | exact Go.Hs.lit3 | exact Go.Hs.lit4 | exact Go.Hs.lit5 | exact Go.Hs.lit6 | exact Go.Hs.lit7 | exact Go.Hs.lit8 | exact rfl | (simp; done) | omega)); (first | omega | (simp only [List.length_take, List.length_drop, List.length_append, List.length_cons, List.length_nil, List.length_map, List.length_replicate]; omega))) | (apply Go.Hs.R_sliceArr; exact rfl; exact rfl; (intro _; exact rfl); exact rfl))) : PL C ops Γs es us Q (i :: π) fr Γ Φ := PL_runs he ho hg hd hn h k
theorem p2 (k : ∀ x, pf x → PL C ops Γs es us Q π ((d, vx x) :: fr) (Γ' x) (Φ' x)) (he : clsOf es us i = 1 := by exact rfl) (ho : lget ops.toList i = some o := by exact rfl) (hg : gv ops fr o.guard = some true := by exact rfl) (hd : o.dst = some d := by exact rfl) (hn : Nat.blt d C.n = true := by exact rfl)
    (h : Effs C fr Γ Φ o pf vx Γ' Φ' := by (first | (apply Go.Hs.E_alloc; (intro _; exact rfl); exact rfl) | (apply Go.Hs.E_box; exact rfl; (focus (first | (apply Go.Hs.CellsE.lit; exact rfl) | (apply Go.Hs.CellsE.one; (first | (apply Go.Hs.OneC.lit; exact rfl) | (apply Go.Hs.OneC.by_; (repeat' (first | exact Go.Hs.mcs | apply Go.Hs.mct)); done) | (apply Go.Hs.OneC.sl; (repeat' (first | exact Go.Hs.mcs | apply Go.Hs.mct)); done) | (apply Go.Hs.OneC.rw; (repeat' (first | exact Go.Hs.mcs | apply Go.Hs.mct)); done) | (apply Go.Hs.OneC.row; (repeat' (first | exact Go.Hs.Pick.head _ _ | apply Go.Hs.Pick.tail)))))))))) (hs : ∀ x, SubO (Γ' x) Γs := by (intro _; (first | ((repeat (first | exact Go.Hs.SubO.nil _ | (apply Go.Hs.SubO.cons; (focus (repeat' (first | exact Go.Hs.Pick.head _ _ | apply Go.Hs.Pick.tail)))))); done) | fail))) : PL C ops Γs es us Q (i :: π) fr Γ Φ := PL_effs he ho hg hd hn h hs k
theorem p3 (k : ∀ x, pf x → PL C ops Γs es us Q π fr (Γ' x) (Φ' x)) (he : clsOf es us i = 1 := by exact rfl) (ho : lget ops.toList i = some o := by exact rfl) (hg : gv ops fr o.guard = some true := by exact rfl) (hd : o.dst = none := by exact rfl)
    (h : Effs C fr Γ Φ o pf vx Γ' Φ' := by (first | (apply Go.Hs.E_store; exact rfl; exact rfl; (repeat' (first | exact Go.Hs.Pick.head _ _ | apply Go.Hs.Pick.tail)); (focus (first | (apply Go.Hs.CellsE.lit; exact rfl) | (apply Go.Hs.CellsE.one; (first | (apply Go.Hs.OneC.lit; exact rfl) | (apply Go.Hs.OneC.by_; (repeat' (first | exact Go.Hs.mcs | apply Go.Hs.mct)); done) | (apply Go.Hs.OneC.sl; (repeat' (first | exact Go.Hs.mcs | apply Go.Hs.mct)); done) | (apply Go.Hs.OneC.rw; (repeat' (first | exact Go.Hs.mcs | apply Go.Hs.mct)); done) | (apply Go.Hs.OneC.row; (repeat' (first | exact Go.Hs.Pick.head _ _ | apply Go.Hs.Pick.tail))))))); (intro _; exact rfl); (focus (repeat (first | apply Go.Hs.Ones.nil | exact Go.Hs.Ones.bytes | (apply Go.Hs.Ones.cons; (focus (first | (apply Go.Hs.OneC.lit; exact rfl) | (apply Go.Hs.OneC.by_; (repeat' (first | exact Go.Hs.mcs | apply Go.Hs.mct)); done) | (apply Go.Hs.OneC.sl; (repeat' (first | exact Go.Hs.mcs | apply Go.Hs.mct)); done) | (apply Go.Hs.OneC.rw; (repeat' (first | exact Go.Hs.mcs | apply Go.Hs.mct)); done) | (apply Go.Hs.OneC.row; (repeat' (first | exact Go.Hs.Pick.head _ _ | apply Go.Hs.Pick.tail))))))))); exact rfl))) (hs : ∀ x, SubO (Γ' x) Γs := by (intro _; (first | ((repeat (first | exact Go.Hs.SubO.nil _ | (apply Go.Hs.SubO.cons; (focus (repeat' (first | exact Go.Hs.Pick.head _ _ | apply Go.Hs.Pick.tail)))))); done) | fail))) : PL C ops Γs es us Q (i :: π) fr Γ Φ := PL_do he ho hg hd h hs k
theorem p4 (k : PL C ops Γs es us Q π ((d, v) :: fr) Γ (ψ :: Φ)) (he : clsOf es us i = 0 := by exact rfl) (ho : lget ops.toList i = some o := by exact rfl) (hg : gv ops fr o.guard = some true := by exact rfl) (hd : o.dst = some d := by exact rfl) (hn : Nat.blt d C.n = true := by exact rfl)
    (h : Runs C fr Γs Φ o v ∧ Ent Φ ψ := by (first | (apply Go.Hs.R_idxBy; exact rfl; exact rfl; (repeat' (first | exact Go.Hs.mcs | apply Go.Hs.mct)); exact rfl; (intro _; exact rfl); (focus (first | exact Go.Hs.lit0 | exact Go.Hs.lit1 | exact Go.Hs.lit2 | exact Go.Hs.lit3 | exact Go.Hs.lit4 | exact Go.Hs.lit5 | exact Go.Hs.lit6 | exact Go.Hs.lit7 | exact Go.Hs.lit8 | exact rfl | (simp; done) | omega)); (first | omega | (simp only [List.length_take, List.length_drop, List.length_append, List.length_cons, List.length_nil, List.length_map, List.length_replicate]; omega))) | (apply Go.Hs.R_idxRw; exact rfl; exact rfl; (repeat' (first | exact Go.Hs.mcs | apply Go.Hs.mct)); exact rfl; (intro _; exact rfl); (focus (first | exact Go.Hs.lit0 | exact Go.Hs.lit1 | exact Go.Hs.lit2 | exact Go.Hs.lit3 | exact Go.Hs.lit4 | exact Go.Hs.lit5 | exact Go.Hs.lit6 | exact Go.Hs.lit7 | exact Go.Hs.lit8 | exact rfl | (simp; done) | omega)); (first | omega | (simp only [List.length_take, List.length_drop, List.length_append, List.length_cons, List.length_nil, List.length_map, List.length_replicate]; omega)); (first | assumption | exact rfl)) | (apply Go.Hs.R_cutBy; exact rfl; (repeat' (first | exact Go.Hs.mcs | apply Go.Hs.mct)); exact rfl; (intro _; exact rfl); exact rfl; exact rfl; (focus (first | exact Go.Hs.lit0 | exact Go.Hs.lit1 | exact Go.Hs.lit2 | exact Go.Hs.lit3 | exact Go.Hs.lit4 | exact Go.Hs.lit5 | exact Go.Hs.lit6 | exact Go.Hs.lit7 | exact Go.Hs.lit8 | exact rfl | (simp; done) | omega)); (focus (first | exact Go.Hs.lit0 | exact Go.Hs.lit1 | exact Go.Hs.lit2 | exact Go.Hs.lit3 | exact Go.Hs.lit4 | exact Go.Hs.lit5 | exact Go.Hs.lit6 | exact Go.Hs.lit7 | exact Go.Hs.lit8 | exact rfl | (simp; done) | omega)); (first | omega | (simp only [List.length_take, List.length_drop, List.length_append, List.length_cons, List.length_nil, List.length_map, List.length_replicate]; omega)); (first | omega | (simp only [List.length_take, List.length_drop, List.length_append, List.length_cons, List.length_nil, List.length_map, List.length_replicate]; omega)); (focus ((try (conv => lhs; simp only [Nat.add_sub_cancel_left, Nat.sub_zero, List.drop_zero, List.nil_append])); (first | done | exact rfl)))) | (apply Go.Hs.R_fieldP; exact rfl; (repeat' (first | exact Go.Hs.mcs | apply Go.Hs.mct)); exact rfl; exact rfl; (intro _; exact rfl); exact rfl; exact rfl))) : PL C ops Γs es us Q (i :: π) fr Γ Φ := PL_runsF he ho hg hd hn h k
theorem p5 (k : PL C ops Γs es us Q π ((d, undef) :: fr) Γ Φ) (he : clsOf es us i = 0 := by exact rfl) (ho : lget ops.toList i = some o := by exact rfl) (hg : gv ops fr o.guard = some false := by exact rfl) (hd : o.dst = some d := by exact rfl) (hn : Nat.blt d C.n = true := by exact rfl) :
    PL C ops Γs es us Q (i :: π) fr Γ Φ := PL_pass he ho hg hd hn k
theorem p7 {t ty : TypeId} {pos : String} {aft : Array Edge} {z : Value} {cs : List Value} (k : ∀ b, PL C ops Γs es us Q π ((d, .pointer (some ⟨b, 0, none⟩)) :: fr) (.blk b t cs :: Γ) Φ) (he : clsOf es us i = 2 := by exact rfl) (ho : lget ops.toList i = some ⟨some d, .alloc t, ty, pos, aft, none⟩ := by exact rfl) (hn : Nat.blt d C.n = true := by exact rfl)
    (hz : ∀ w, (zeroValue t).run C.P w = .ok z w := by (intro _; exact rfl)) (hcs : listO z.cells.toList = some cs := by exact rfl) : PL C ops Γs es us Q (i :: π) fr Γ Φ :=
  PL_new he ho hn hz hcs k
end
end Go.Hs

/-
  Arrays in own blocks, elements of own rows, calls of function values. No program is named here.
-/
namespace Go.Hs
open Go Go.RowKit

section
variable {C : Ctx} {fr : Fr} {Γ Γ' Γ1 : List OA} {Φ : List SP}
  {d : Nat} {ty : TypeId} {pos : String} {aft : Array Edge} {g : Option (Nat × Bool)}

theorem R_idxArr {t e : TypeId} {x y : Operand} {b len i : Nat} {kd : IntKind} {ii : Int} (hx : evO fr x = some (.pointer (some ⟨b, 0, none⟩))) (hy : evO fr y = some (.int kd ii))
    (ht : C.P.underlying t = some (.array len e)) (hs : ∀ w, (sizeOf e).run C.P w = .ok 1 w) (hii : ii = (i : Int)) (hi : i < len) :
    Runs C fr Γ Φ ⟨some d, .indexAddr t x y, ty, pos, aft, g⟩ (.pointer (some ⟨b, i, none⟩)) := by
  subst hii
  refine Runs.pure fun a w ha hw => ?_
  have h2 : (i : Int) < (len : Int) := by omega
  simp [execOp, evO_sound ha hx, evO_sound ha hy, Instr.indexAt, asIntOf, run_underlying ht, Instr.sureAddr, hs, hi, Addr.add_lit]

/-- an element's address in an own row. -/
theorem R_idxRow {t e rt : TypeId} {x y : Operand} {v : Value} {size n : Nat} {xs : List Value} {kd : IntKind} {ii : Int} {i : Nat} (hx : evO fr x = some v) (hy : evO fr y = some (.int kd ii)) (hp : Pick (.row v rt size n xs) Γ Γ')
    (ht : C.P.underlying t = some (.slice e)) (hs : ∀ w, (sizeOf e).run C.P w = .ok size w) (hii : ii = (i : Int)) (hi : i < n) :
    Runs C fr Γ Φ ⟨some d, .indexAddr t x y, ty, pos, aft, g⟩ (idxV size i v) := by
  subst hii
  refine Runs.pure fun a w ha hw => ?_
  have hown := (pick_holds hp hw).own.1
  rcases hown with ⟨hl, h2⟩
  rcases h2 with ⟨h2, _⟩ | ⟨b, cap, cur, hv, _, hb, hc, hm, hsz, htk⟩
  · omega
  · simp [execOp, evO_sound ha hx, evO_sound ha hy, hv, run_indexAt_some ht hs hi, idxV]

/-- a one-cell element of an own row is loaded. -/
theorem R_loadRow {t rt : TypeId} {x : Operand} {v u : Value} {n i : Nat} {xs : List Value} (hx : evO fr x = some (idxV 1 i v)) (hp : Pick (.row v rt 1 n xs) Γ Γ') (hagg : ∀ w, (isAgg t).run C.P w = .ok false w)
    (hi : i < n) (hc : xs[i]? = some u) : Runs C fr Γ Φ ⟨some d, .load t x, ty, pos, aft, g⟩ u := by
  refine Runs.pure fun a w ha hw => ?_
  have hown := (pick_holds hp hw).own.1
  rcases hown with ⟨hl, h2⟩
  rcases h2 with ⟨h2, _⟩ | ⟨b, cap, cur, hv, _, hb, hcc, hm, hsz, htk⟩
  · omega
  · subst hv
    have h0 : w.cell? ((⟨b, 0, none⟩ : Addr).add i) = some u := by
      rw [Addr.add_lit, Nat.zero_add]
      rw [← htk, List.getElem?_take_of_lt (by omega)] at hc
      simp only [World.cell?, hb]
      simpa using hc
    simp [execOp, evO_sound ha hx, idxV, Instr.loadAt, Instr.sureAddr, run_loadVar_one hagg h0]

end

section
variable {C : Ctx} {ops : Array Oper} {l : List Oper} {fr : Fr} {Γ Γ1 : List OA} {Φ : List SP} {Q : Exit → Act → World → Prop}
/-- nothing, told as an own row. -/
theorem Holds.nilRow {w : World} (t : TypeId) (size : Nat) (h : Holds C Γ Φ w) : Holds C (.row (.slice none 0 0) t size 0 [] :: Γ) Φ w := by
  have hf : ∀ k, ¬ (OA.row (.slice none 0 0) t size 0 []).fp k := fun k (e : (none : Option Nat) = some k) => by cases e
  refine h.move (Mod.refl _ _) ⟨⟨by simp, .inl ⟨rfl, rfl⟩⟩, fun k hk => (hf k hk).elim, h.own⟩ fun k _ hk => ?_
  rcases fpL_cons.1 hk with e | e
  · exact (hf k e).elim
  · exact e
theorem W_nilRow {c : Code} (t : TypeId) (size : Nat) (h : W C c fr (.row (.slice none 0 0) t size 0 [] :: Γ) Φ Q) : W C c fr Γ Φ Q := fun a w ha hw => h a w ha (hw.nilRow t size)
theorem WL_nilRow (t : TypeId) (size : Nat) (h : WL C ops l fr (.row (.slice none 0 0) t size 0 [] :: Γ) Φ Q) : WL C ops l fr Γ Φ Q := fun a w ha hw => h a w ha (hw.nilRow t size)
theorem WQ_nilRow {e : Exit} (t : TypeId) (size : Nat) (h : WQ C e fr (.row (.slice none 0 0) t size 0 [] :: Γ) Φ Q) : WQ C e fr Γ Φ Q := fun a w ha hw => h a w ha (hw.nilRow t size)

theorem WL_letgo {v : Value} {t : TypeId} {size n : Nat} {xs : List Value} (hp : Pick (.row v t size n xs) Γ Γ1) (h : WL C ops l fr Γ1 (Sl size v n xs :: Φ) Q) : WL C ops l fr Γ Φ Q := fun a w ha hw => h a w ha (pick_holds hp hw).letgo
end

section
variable {C : Ctx} {fr : Fr} {Γ Γ' : List OA} {Φ : List SP} {d : Nat} {ty : TypeId} {pos : String} {aft : Array Edge} {g : Option (Nat × Bool)}

end
end Go.Hs

/-
  A range over a function: the loop's own walk, the function's, and where it ends. No program is named here.
-/
namespace Go.Hs
open Go Go.RowKit

/-- several own things as one. -/
def pk (Γ : List OA) : OA := .abs ⟨fpL Γ, Own Γ, fun h => Own.lt h, fun h k => h.keep k⟩
/-- a block that is no cells. -/
def ob (b : Nat) (o : Obj) : OA := .abs ⟨fun k => k = b, fun w => w.heap[b]? = some o, fun h _ e => by subst e; exact (Array.getElem?_eq_some_iff.1 h).1, fun h hk => (hk b (Array.getElem?_eq_some_iff.1 h).1 rfl).trans h⟩
/-- several lasting facts as one. -/
def cj (Φ : List SP) : SP := ⟨fun w O => ∀ ψ ∈ Φ, ψ.p w O, fun h hm ho ψ hψ => ψ.st (h ψ hψ) hm ho⟩

theorem Own.pk {Γ Δ : List OA} {w : World} : Own (pk Γ :: Δ) w ↔ Own (Γ ++ Δ) w := by
  rw [Own.append]
  constructor
  · rintro ⟨h1, h2, h3⟩
    exact ⟨h1, h3, h2⟩
  · rintro ⟨h1, h2, h3⟩
    exact ⟨h1, h3, h2⟩
theorem fpL_pk {Γ Δ : List OA} {k : Nat} : fpL (pk Γ :: Δ) k ↔ fpL (Γ ++ Δ) k := by
  rw [fpL_cons, fpL_append]
  exact Iff.rfl

/-- what a call of yield comes to: with these arguments, where it is handed Γ and Φ holds. -/
def Yc (P : Program) (l : Nat) (args : List Value) (Γ : List OA) (Φ : List SP) {X : Type} (pf : X → Prop) (ret : X → Value) (Γ' : X → List OA) (Φ' : X → List SP) : Prop :=
  ∀ w O0, (∀ k, O0 k → k < w.heap.size ∧ ¬ fpL Γ k) → Own Γ w → (∀ ψ ∈ Φ, ψ.p w (avo O0 Γ)) →
    ∃ fn tmps assign body, (Instr.yield l args.toArray).run P w = .ok (.round l fn tmps assign body) w ∧ RoundIn Fence.wide 0 P l fn tmps assign body w (FnPost w O0 (fpL Γ) pf ret Γ' Φ')

section
variable {C : Ctx} {fr : Fr} {Γ : List OA} {Φ : List SP} {ty : TypeId} {pos : String} {aft : Array Edge} {g : Option (Nat × Bool)}

theorem E_yield {dst : Option Tmp} {callee : Operand} {l : Nat} {args : List Operand} {argTypes : Array TypeId} {vs : List Value}
    {Γp Γr : List OA} {Φp : List SP} {X : Type} {pf : X → Prop} {ret : X → Value} {Γ' : X → List OA} {Φ' : X → List SP} {Γ'' : X → List OA} {Φ'' : X → List SP}
    (hc : evO fr callee = some (.func (.yield l) #[] #[])) (ha : evOs fr args = some vs)
    (hfn : Yc C.P l vs Γp Φp pf ret Γ' Φ')
    (hp : Γ.Perm (Γp ++ Γr)) (hin : AllE Φp Φ) (hΓ : ∀ x, Γ' x ++ Γr = Γ'' x) (hΦ : ∀ x, Φ' x ++ Φ = Φ'' x) :
    Effs C fr Γ Φ ⟨dst, .call { callee := .value callee, args := args.toArray, argTypes := argTypes }, ty, pos, aft, g⟩ pf ret Γ'' Φ'' := by
  refine ⟨fun x ψ hψ => by rw [← hΦ]; exact List.mem_append.2 (.inr hψ), fun R a w hfa hw => ?_⟩
  have hw' := hw.perm (hp.append_right R)
  rw [List.append_assoc] at hw'
  obtain ⟨ho1, ho2, ho3⟩ := Own.append.1 hw'.own
  have hO : ∀ k, avo C.O0 (Γr ++ R) k → k < w.heap.size ∧ ¬ fpL Γp k := fun k hk => by
    rcases hk with hk | hk
    · have h1 := hw'.o0 k hk
      refine ⟨Nat.lt_of_lt_of_le h1.1 hw'.mod.size, fun hn => ?_⟩
      rcases hw'.ofp k (fpL_append.2 (.inl hn)) with h2 | h2
      · exact h1.2 h2
      · omega
    · exact ⟨Own.lt ho2 hk, fun hn => ho3 k hn hk⟩
  obtain ⟨fn, tmps, assign, body, hy, hcall⟩ := hfn w (avo C.O0 (Γr ++ R)) hO ho1 (fun ψ hψ => ψ.st (hin ψ hψ _ _ hw'.sp) (Mod.refl _ _) fun k _ hk => avo_append.2 hk)
  have hrun' : (execOp a.eval ⟨dst, .call { callee := .value callee, args := args.toArray, argTypes := argTypes }, ty, pos, aft, g⟩).run C.P w = .ok (.round l fn tmps assign body) w := by
    have e1 := evO_sound hfa hc
    have e2 := evOs_sound hfa ha
    simp only [execOp, resolve, e1, Deferred.ofValue, List.map_toArray, e2, Sem.run_bind, Sem.run_pure, Result.andThen_ok, invoke]
    rw [show (#[] : Array Value) ++ vs.toArray = vs.toArray by simp]
    exact hy
  rw [hrun']
  show RoundIn _ _ _ _ _ _ _ _ _ _
  refine hcall.mono fun e w1 ⟨x, hx, he, hm, ho, hf, hs⟩ => ⟨_, he, x, hx, rfl, ?_⟩
  have hdis : ∀ k, fpL (Γ' x) k → ¬ fpL (Γr ++ R) k := fun k hk hn => by
    rcases hf k hk with h1 | h1
    · exact ho3 k h1 hn
    · have := Own.lt ho2 hn
      omega
  have hmove : Holds C (Γ' x ++ (Γr ++ R)) Φ w1 := by
    refine hw'.move (hm.mono fun k _ hk => fpL_append.2 (.inl hk)) (Own.append.2 ⟨ho, ho2.keep fun k hlt hk => hm.block k hlt fun hn => ho3 k hn hk, hdis⟩) fun k hlt hk => ?_
    rcases fpL_append.1 hk with hk | hk
    · rcases hf k hk with h1 | h1
      · exact fpL_append.2 (.inl h1)
      · omega
    · exact fpL_append.2 (.inr hk)
  rw [← hΓ, ← hΦ, List.append_assoc]
  refine ⟨hmove.mod, hmove.own, hmove.ofp, hmove.o0, fun ψ hψ => ?_⟩
  rcases List.mem_append.1 hψ with hψ | hψ
  · exact ψ.st (hs ψ hψ) (Mod.refl _ _) fun k _ hk => avo_append.1 hk
  · exact hmove.sp ψ hψ
end

-- ===== moves of memory at a block that is no cells =====

section
variable {C : Ctx} {Γ Δ : List OA} {Φ : List SP}
theorem Holds.allocO {w : World} (h : Holds C Γ Φ w) (o : Obj) : Holds C (ob w.heap.size o :: Γ) Φ (w.alloc o) := by
  refine h.move (Mod.alloc _ w _) ⟨heap_alloc_new w o, fun k hk hn => ?_, h.own.keep fun _ hk _ => heap_alloc_old w _ hk⟩ fun k hk hk' => ?_
  · have hk : k = w.heap.size := hk
    have := Own.lt h.own hn
    omega
  · rcases fpL_cons.1 hk' with hk' | hk'
    · have hk' : k = w.heap.size := hk'
      omega
    · exact hk'
theorem Holds.putO {w : World} {l : Nat} {o : Obj} (h : Holds C (ob l o :: Γ) Φ w) (o' : Obj) : Holds C (ob l o' :: Γ) Φ (w.putObj l o') := by
  have hl : l < w.heap.size := (Array.getElem?_eq_some_iff.1 (show w.heap[l]? = some o from h.own.1)).1
  have hother : ∀ k, k ≠ l → (w.putObj l o').heap[k]? = w.heap[k]? := fun k hk => World.putObj_heap_other hk
  refine h.move ⟨rfl, rfl, rfl, by simp, fun k _ hn => hother k fun e => hn (fpL_cons.2 (.inl e))⟩ ⟨World.putObj_heap_same hl, h.own.2.1, h.own.2.2.keep fun k _ hk => hother k fun e => h.own.2.1 k e hk⟩
    fun k _ hk => by
      rcases fpL_cons.1 hk with e | e
      · exact fpL_cons.2 (.inl e)
      · exact fpL_cons.2 (.inr e)
theorem Holds.pack {w : World} (h : Holds C (Γ ++ Δ) Φ w) : Holds C (pk Γ :: Δ) Φ w :=
  h.move (Mod.refl _ _) (Own.pk.2 h.own) fun _ _ hk => fpL_pk.1 hk
theorem Holds.unpack {w : World} (h : Holds C (pk Γ :: Δ) Φ w) : Holds C (Γ ++ Δ) Φ w :=
  h.move (Mod.refl _ _) (Own.pk.1 h.own) fun _ _ hk => fpL_pk.2 hk
theorem Holds.ctx {C' : Ctx} {w : World} (h : Holds C Γ Φ w) (h1 : C'.w0 = C.w0) (h2 : C'.O0 = C.O0) (h3 : C'.M = C.M) : Holds C' Γ Φ w :=
  ⟨by rw [h1, h3]; exact h.mod, h.own, by rw [h1, h3]; exact h.ofp, by rw [h1, h2, h3]; exact h.o0, by rw [h2]; exact h.sp⟩
theorem Holds.facts {Ψ : List SP} {w : World} (h : Holds C Γ Φ w) (k : ∀ ψ ∈ Ψ, ψ.p w (avo C.O0 Γ)) : Holds C Γ Ψ w := ⟨h.mod, h.own, h.ofp, h.o0, k⟩
theorem ob_at {w : World} {l : Nat} {o : Obj} (h : Holds C (ob l o :: Γ) Φ w) : w.heap[l]? = some o := h.own.1

/-- a call, by what it leaves. -/
theorem call_holds {f : FuncId} {aas : List Value} {Γp Γr : List OA} {Φp : List SP} {X : Type} {pf : X → Prop} {ret : X → Value} {Γ' : X → List OA} {Φ' : X → List SP} {w : World}
    (hfn : Ct C.P f aas Γp Φp pf ret Γ' Φ') (hw : Holds C (Γp ++ Γr) Φ w) (hin : AllE Φp Φ) :
    Calls C.P f aas.toArray w fun e w1 => ∃ x, pf x ∧ e = .returned (ret x) ∧ Holds C (Γ' x ++ Γr) (Φ' x ++ Φ) w1 := by
  obtain ⟨ho1, ho2, ho3⟩ := Own.append.1 hw.own
  have hO : ∀ k, avo C.O0 Γr k → k < w.heap.size ∧ ¬ fpL Γp k := fun k hk => by
    rcases hk with hk | hk
    · have h1 := hw.o0 k hk
      refine ⟨Nat.lt_of_lt_of_le h1.1 hw.mod.size, fun hn => ?_⟩
      rcases hw.ofp k (fpL_append.2 (.inl hn)) with h2 | h2
      · exact h1.2 h2
      · omega
    · exact ⟨Own.lt ho2 hk, fun hn => ho3 k hn hk⟩
  refine (hfn w (avo C.O0 Γr) hO ho1 (fun ψ hψ => ψ.st (hin ψ hψ _ _ hw.sp) (Mod.refl _ _) fun k _ hk => avo_append.2 hk)).mono fun e w1 ⟨x, hx, he, hm, ho, hf, hs⟩ => ⟨x, hx, he, ?_⟩
  have hdis : ∀ k, fpL (Γ' x) k → ¬ fpL Γr k := fun k hk hn => by
    rcases hf k hk with h1 | h1
    · exact ho3 k h1 hn
    · have := Own.lt ho2 hn
      omega
  have hmove : Holds C (Γ' x ++ Γr) Φ w1 := by
    refine hw.move (hm.mono fun k _ hk => fpL_append.2 (.inl hk)) (Own.append.2 ⟨ho, ho2.keep fun k hlt hk => hm.block k hlt fun hn => ho3 k hn hk, hdis⟩) fun k hlt hk => ?_
    rcases fpL_append.1 hk with hk | hk
    · rcases hf k hk with h1 | h1
      · exact fpL_append.2 (.inl h1)
      · omega
    · exact fpL_append.2 (.inr hk)
  refine hmove.facts fun ψ hψ => ?_
  rcases List.mem_append.1 hψ with hψ | hψ
  · exact ψ.st (hs ψ hψ) (Mod.refl _ _) fun k _ hk => avo_append.1 hk
  · exact hmove.sp ψ hψ
end

-- ===== the rounds =====

/-- the jump that a round leaves behind. -/
def jumpOf : Exit → Option (Option Code)
  | .normal => some none
  | .ret => some (some .ret)
  | .exit i => some (some (.exit i))
  | .goto t => some (some (.goto t))
  | _ => none

def recOf (fn : FuncId) (t0 : Array Value) (ps : Array Tmp) (assign body : Code) (D : Nat) (j : Option Code) : Loop :=
  { state := if j.isNone then .ready else .done, pending := j, fn := fn, tmps := t0, params := ps, assign := assign, body := body, defers := D }

/-- how a round's body is left: the jump is told by the new state. -/
def RQ (C : Ctx) (l : Nat) (o : Obj) {α : Type} (step : α → Prop) (Y : α → List OA) (Ψ : α → List SP) (e : α → Option Code) : Exit → Act → World → Prop :=
  fun ex _ w => ∃ y, step y ∧ jumpOf ex = some (e y) ∧ Holds C (ob l o :: Y y) (Ψ y) w
def AQ (C : Ctx) (fr : Fr) (Γ : List OA) (Φ : List SP) : Exit → Act → World → Prop := fun ex a w => ex = .normal ∧ fok C fr a ∧ Holds C Γ Φ w

theorem WQ_round {C : Ctx} {l : Nat} {o : Obj} {α : Type} {step : α → Prop} {Y : α → List OA} {Ψ : α → List SP} {e : α → Option Code} {ex : Exit} {fr : Fr} {Γ : List OA} {Φ : List SP} (y : α) (hs : step y) (hj : jumpOf ex = some (e y))
    (h2 : SubO Γ (ob l o :: Y y)) (h3 : AllE (Ψ y) Φ) : WQ C ex fr Γ Φ (RQ C l o step Y Ψ e) := fun _ _ _ hw => ⟨y, hs, hj, (hw.subOwn h2).allE h3⟩
theorem WQ_assign {C : Ctx} {fr fr' : Fr} {Γ Γ' : List OA} {Φ Φ' : List SP} (h1 : FrIn fr fr') (h2 : SubO Γ Γ') (h3 : AllE Φ' Φ) : WQ C .normal fr Γ Φ (AQ C fr' Γ' Φ') := fun _ _ ha hw => ⟨rfl, ha.sub h1, (hw.subOwn h2).allE h3⟩

theorem Yc_round {P : Program} {l D : Nat} {fn : FuncId} {t0 : Array Value} {p : Tmp} {assign body : Code} {n : Nat} {fr fr1 : Fr} {α : Type} {Y : α → List OA} {Ψ : α → List SP} {e : α → Option Code} {y : α} {v : Value} {Φa : List SP} {step : α → Prop}
    (he : e y = none) (ht : t0.size = n) (hfr : ∀ t v, fget fr t = some v → t0.getD t undef = v) (hpn : Nat.blt p n = true)
    (hassign : ∀ w0 O0 M o, W ⟨P, n, w0, O0, M, some l, []⟩ assign ((p, v) :: fr) (ob l o :: Y y) (Φa ++ Ψ y) (AQ ⟨P, n, w0, O0, M, some l, []⟩ fr1 (ob l o :: Y y) (Φa ++ Ψ y)))
    (hbody : ∀ w0 O0 M o, W ⟨P, n, w0, O0, M, some l, []⟩ body fr1 (ob l o :: Y y) (Φa ++ Ψ y) (RQ ⟨P, n, w0, O0, M, some l, []⟩ l o step Y Ψ e)) :
    Yc P l [v] [pk (ob l (.loop (recOf fn t0 #[p] assign body D (e y))) :: Y y)] (Φa ++ [cj (Ψ y)]) (X := α) step (fun y' => .bool (e y').isNone) (fun y' => [pk (ob l (.loop (recOf fn t0 #[p] assign body D (e y'))) :: Y y')]) (fun y' => [cj (Ψ y')]) := by
  intro w O0 hO ho hΦ
  have hw0 : Holds ⟨P, n, w, O0, fpL [pk (ob l (.loop (recOf fn t0 #[p] assign body D (e y))) :: Y y)], some l, []⟩ (ob l (.loop (recOf fn t0 #[p] assign body D (e y))) :: Y y) (Φa ++ Ψ y) w := by
    have h1 : Holds ⟨P, n, w, O0, fpL [pk (ob l (.loop (recOf fn t0 #[p] assign body D (e y))) :: Y y)], some l, []⟩ [pk (ob l (.loop (recOf fn t0 #[p] assign body D (e y))) :: Y y)] (Φa ++ [cj (Ψ y)]) w := ⟨Mod.refl _ _, ho, fun k hk => .inl hk, hO, hΦ⟩
    have h2 := h1.unpack
    rw [List.append_nil] at h2
    refine h2.facts fun ψ hψ => ?_
    rcases List.mem_append.1 hψ with hψ | hψ
    · exact h2.sp ψ (List.mem_append.2 (.inl hψ))
    · exact h2.sp (cj (Ψ y)) (List.mem_append.2 (.inr (by simp))) ψ hψ
  have hat := ob_at hw0
  refine ⟨_, _, _, _, run_yield hat (by rfl), roundIn_of_wpIn trivial ?_⟩
  have hfo : fok ⟨P, n, w, O0, fpL [pk (ob l (.loop (recOf fn t0 #[p] assign body D (e y))) :: Y y)], some l, []⟩ ((p, v) :: fr) { tmps := t0.setIfInBounds p v, defers := [] } := by
    have h0 : fok ⟨P, n, w, O0, fpL [pk (ob l (.loop (recOf fn t0 #[p] assign body D (e y))) :: Y y)], some l, []⟩ fr { tmps := t0, defers := [] } := ⟨rfl, ht, hfr⟩
    exact h0.put (Nat.lt_of_lt_of_le (Nat.lt_succ_self p) (Nat.le_of_ble_eq_true hpn))
  have hz : ((recOf fn t0 #[p] assign body D (e y)).params.zip #[v]).foldl (fun tmps (t, a) => tmps.setIfInBounds t a) (recOf fn t0 #[p] assign body D (e y)).tmps = t0.setIfInBounds p v := by simp [recOf]
  rw [show ([v] : List Value).toArray = #[v] from rfl, hz]
  refine wpIn_mono (hassign _ _ _ _ _ w hfo hw0) ?_
  rintro ex a1 w1 ⟨rfl, hfa, hw1⟩
  have hat1 := ob_at hw1
  refine ⟨_, run_beginRound hat1 (by rw [he]; rfl), ?_⟩
  have hw2 := hw1.putO (.loop { recOf fn t0 #[p] assign body D (e y) with state := .busy })
  refine wpIn_mono (hbody _ _ _ _ a1 _ hfa hw2) ?_
  rintro ex a2 w3 ⟨y', hst, hj, hw3⟩
  have hat3 := ob_at hw3
  have hend := run_endRound (P := P) (e y') hat3
  have hw4 := hw3.putO (.loop (recOf fn t0 #[p] assign body D (e y')))
  have hpost : FnPost w O0 (fpL [pk (ob l (.loop (recOf fn t0 #[p] assign body D (e y))) :: Y y)]) step (fun y' => .bool (e y').isNone) (fun y' => [pk (ob l (.loop (recOf fn t0 #[p] assign body D (e y'))) :: Y y')]) (fun y' => [cj (Ψ y')])
      (.returned (.bool (e y').isNone)) (w3.putObj l (.loop (recOf fn t0 #[p] assign body D (e y')))) := by
    have h5 : Holds ⟨P, n, w, O0, fpL [pk (ob l (.loop (recOf fn t0 #[p] assign body D (e y))) :: Y y)], some l, []⟩ [pk (ob l (.loop (recOf fn t0 #[p] assign body D (e y'))) :: Y y')] (Ψ y') (w3.putObj l (.loop (recOf fn t0 #[p] assign body D (e y')))) := by
      apply Holds.pack
      rw [List.append_nil]
      exact hw4
    refine ⟨y', hst, rfl, h5.mod, h5.own, h5.ofp, fun ψ hψ => ?_⟩
    rcases List.mem_singleton.1 hψ with rfl
    exact h5.sp
  cases ex with
  | normal =>
    injection hj with hj
    rw [← hj] at hend hpost
    exact ⟨_, _, hend, hpost⟩
  | ret =>
    injection hj with hj
    rw [← hj] at hend hpost
    exact ⟨_, _, hend, hpost⟩
  | exit id =>
    injection hj with hj
    rw [← hj] at hend hpost
    exact ⟨_, _, hend, hpost⟩
  | goto t =>
    injection hj with hj
    rw [← hj] at hend hpost
    exact ⟨_, _, hend, hpost⟩
  | panic ch => cases hj
  | outgrown => cases hj

/-- the statement. -/
theorem W_rangeFunc {P : Program} {ds : List Deferred} {n : Nat} {w0 : World} {O0 M : Nat → Prop} {g : Operand} {p : Tmp} {assign body : Code} {fr : Fr} {Γ : List OA} {Φ : List SP} {Q : Exit → Act → World → Prop} {gf : FuncId} {lb : Array Value}
    {α β : Type} (Y : α → List OA) (Ψ : α → List SP) (e : α → Option Code) (y0 : α) (av : β → Value) (aΦ : β → List SP) (pre : α → β → Prop) (step : α → β → α → Prop) (fr1 : β → Fr)
    {Γi Γr : List OA} {Φi : List SP} {X : Type} {pf : X → Prop} {ret : X → Value} {yx : X → α} {Γ' : X → List OA} {Φ' : X → List SP}
    (hg : evO fr g = some (.func (.func gf) #[] lb)) (hcf : ∀ (args : Array Value) (w : World), (callFunc gf args).run P w = .ok (.enter gf args) w)
    (he0 : e y0 = none) (hp : Γ.Perm (Γi ++ (Y y0 ++ Γr))) (hΨ : AllE (Ψ y0) Φ) (hΦi : AllE Φi Φ) (hpn : Nat.blt p n = true) (hpre : ∀ y b, pre y b → e y = none)
    (hassign : ∀ l y b, pre y b → ∀ w0 O0 M o, W ⟨P, n, w0, O0, M, some l, []⟩ assign ((p, av b) :: fr) (ob l o :: Y y) (aΦ b ++ Ψ y) (AQ ⟨P, n, w0, O0, M, some l, []⟩ (fr1 b) (ob l o :: Y y) (aΦ b ++ Ψ y)))
    (hbody : ∀ l y b, pre y b → ∀ w0 O0 M o, W ⟨P, n, w0, O0, M, some l, []⟩ body (fr1 b) (ob l o :: Y y) (aΦ b ++ Ψ y) (RQ ⟨P, n, w0, O0, M, some l, []⟩ l o (step y b) Y Ψ e))
    (hiter : ∀ (l : Nat) (YO : α → OA) (YS : α → SP), (∀ y b, pre y b → Yc P l [av b] [YO y] (aΦ b ++ [YS y]) (X := α) (step y b) (fun y' => .bool (e y').isNone) (fun y' => [YO y']) (fun y' => [YS y'])) →
      Ct P gf (.func (.yield l) #[] #[] :: lb.toList) (Γi ++ [YO y0]) (Φi ++ [YS y0]) pf ret (fun x => YO (yx x) :: Γ' x) (fun x => YS (yx x) :: Φ' x))
    (hk : ∀ D x, pf x → (e (yx x) = none → WQ ⟨P, n, w0, O0, M, none, ⟨.collected D, #[]⟩ :: ds⟩ .normal fr (ob D (.deferred (some [])) :: (Y (yx x) ++ (Γ' x ++ Γr))) (Ψ (yx x) ++ (Φ' x ++ Φ)) Q) ∧
      ∀ c, e (yx x) = some c → W ⟨P, n, w0, O0, M, none, ⟨.collected D, #[]⟩ :: ds⟩ c fr (ob D (.deferred (some [])) :: (Y (yx x) ++ (Γ' x ++ Γr))) (Ψ (yx x) ++ (Φ' x ++ Φ)) Q) :
    W ⟨P, n, w0, O0, M, none, ds⟩ (.rangeFunc g #[p] assign body) fr Γ Φ Q := by
  intro a w ha hw
  show Code.wpIn Fence.wide 0 P _ Q a w
  refine wpIn_rangeFunc fun fn _ => ?_
  have hres : ∀ w1 : World, (resolve a.eval (rangeCall g (w.heap.size + 1)) 0).run P w1 = .ok ⟨.fn (.func gf) lb, #[.func (.yield (w.heap.size + 1)) #[] #[]]⟩ w1 := fun w1 => by
    have e1 := evO_sound ha hg
    simp only [resolve, e1, Deferred.ofValue]
    simp
    rfl
  have hinv : ∀ w1 : World, (invoke (.fn (.func gf) lb) #[.func (.yield (w.heap.size + 1)) #[] #[]]).run P w1 = .ok (.enter gf (#[.func (.yield (w.heap.size + 1)) #[] #[]] ++ lb)) w1 := fun w1 => by
    simp only [invoke]
    exact hcf _ _
  refine ⟨_, _, _, _, _, gf, _, _, run_enterLoop_outer fn a.tmps #[p] assign body, hres _, fun _ _ => trivial, hinv _, fenceOf_depth none, ?_⟩
  obtain ⟨w1, hw1⟩ : ∃ w1, w1 = (w.alloc (.deferred (some []))).alloc (.loop (recOf fn a.tmps #[p] assign body w.heap.size none)) := ⟨_, rfl⟩
  have h1 := ((hw.perm hp).allocO (.deferred (some []))).allocO (.loop (recOf fn a.tmps #[p] assign body w.heap.size none))
  rw [World.size_alloc, ← hw1] at h1
  have h2 : Holds ⟨P, n, w0, O0, M, none, ds⟩ ((Γi ++ [pk (ob (w.heap.size + 1) (.loop (recOf fn a.tmps #[p] assign body w.heap.size (e y0))) :: Y y0)]) ++ (ob w.heap.size (.deferred (some [])) :: Γr)) (cj (Ψ y0) :: Φ) w1 := by
    have h3 : Holds ⟨P, n, w0, O0, M, none, ds⟩ ((ob (w.heap.size + 1) (.loop (recOf fn a.tmps #[p] assign body w.heap.size (e y0))) :: Y y0) ++ (Γi ++ (ob w.heap.size (.deferred (some [])) :: Γr))) Φ w1 := by
      rw [he0]
      refine h1.perm ?_
      show (ob (w.heap.size + 1) _ :: (ob w.heap.size (.deferred (some [])) :: (Γi ++ (Y y0 ++ Γr)))).Perm (ob (w.heap.size + 1) _ :: (Y y0 ++ (Γi ++ (ob w.heap.size (.deferred (some [])) :: Γr))))
      refine List.Perm.cons _ ?_
      have e1 : (Γi ++ (Y y0 ++ Γr)).Perm (Y y0 ++ (Γi ++ Γr)) := by
        rw [← List.append_assoc, ← List.append_assoc]
        exact List.perm_append_comm.append_right Γr
      refine (List.Perm.cons _ e1).trans ?_
      rw [← List.append_assoc, ← List.append_assoc]
      exact List.perm_middle.symm
    have h4 := h3.pack
    have h5 := h4.perm (Γ' := (Γi ++ [pk (ob (w.heap.size + 1) (.loop (recOf fn a.tmps #[p] assign body w.heap.size (e y0))) :: Y y0)]) ++ (ob w.heap.size (.deferred (some [])) :: Γr)) (by
      rw [List.append_assoc]
      exact List.perm_middle.symm)
    exact h5.cons fun ψ hψ => hΨ ψ hψ _ _ h5.sp
  have hcall := call_holds (hiter (w.heap.size + 1) (fun y => pk (ob (w.heap.size + 1) (.loop (recOf fn a.tmps #[p] assign body w.heap.size (e y))) :: Y y)) (fun y => cj (Ψ y)) fun y b hb =>
    Yc_round (hpre y b hb) ha.2.1 ha.2.2 hpn (hassign _ y b hb) (hbody _ y b hb)) h2 (fun ψ hψ => by
      rcases List.mem_append.1 hψ with hψ | hψ
      · exact fun W O hh => hΦi ψ hψ W O fun χ hχ => hh χ (List.mem_cons_of_mem _ hχ)
      · rcases List.mem_singleton.1 hψ with rfl
        exact Ent.mem List.mem_cons_self)
  have eargs : (#[.func (.yield (w.heap.size + 1)) #[] #[]] ++ lb : Array Value) = (Value.func (.yield (w.heap.size + 1)) #[] #[] :: lb.toList).toArray := by
    apply Array.ext'
    simp
  rw [← eargs, hw1] at hcall
  refine (callsIn_wide (n := 0 - 1)).2 (hcall.mono ?_)
  rintro en w' ⟨x, hx, rfl, hw'⟩
  have h6 : Holds ⟨P, n, w0, O0, M, none, ds⟩ (ob (w.heap.size + 1) (.loop (recOf fn a.tmps #[p] assign body w.heap.size (e (yx x)))) :: (Y (yx x) ++ (Γ' x ++ (ob w.heap.size (.deferred (some [])) :: Γr)))) (cj (Ψ (yx x)) :: Φ' x ++ (cj (Ψ y0) :: Φ)) w' := hw'.unpack
  have hat := ob_at h6
  have hend := run_endLoop (P := P) hat (by
    show (if (e (yx x)).isNone then LoopState.ready else .done) ≠ .busy
    split <;> intro h <;> cases h)
  refine ⟨_, _, hend, ?_⟩
  have h7 := (h6.putO (.loop { recOf fn a.tmps #[p] assign body w.heap.size (e (yx x)) with state := .exhausted })).drop
  have h8 : Holds ⟨P, n, w0, O0, M, none, ⟨.collected w.heap.size, #[]⟩ :: ds⟩ (ob w.heap.size (.deferred (some [])) :: (Y (yx x) ++ (Γ' x ++ Γr))) (Ψ (yx x) ++ (Φ' x ++ Φ)) (w'.putObj (w.heap.size + 1) (.loop { recOf fn a.tmps #[p] assign body w.heap.size (e (yx x)) with state := .exhausted })) := by
    have h9 := (h7.perm (Γ' := ob w.heap.size (.deferred (some [])) :: (Y (yx x) ++ (Γ' x ++ Γr))) (by
      rw [← List.append_assoc, ← List.append_assoc]
      exact List.perm_middle)).ctx (C' := ⟨P, n, w0, O0, M, none, ⟨.collected w.heap.size, #[]⟩ :: ds⟩) rfl rfl rfl
    refine h9.facts fun ψ hψ => ?_
    rcases List.mem_append.1 hψ with hψ | hψ
    · exact h9.sp (cj (Ψ (yx x))) (by simp) ψ hψ
    · rcases List.mem_append.1 hψ with hψ | hψ
      · exact h9.sp ψ (by simp [hψ])
      · exact h9.sp ψ (by simp [hψ])
  have hfa : fok ⟨P, n, w0, O0, M, none, ⟨.collected w.heap.size, #[]⟩ :: ds⟩ fr { a with defers := [⟨.collected w.heap.size, #[]⟩] ++ a.defers } := ⟨by rw [ha.1]; rfl, ha.2.1, ha.2.2⟩
  obtain ⟨k1, k2⟩ := hk w.heap.size x hx
  generalize w'.putObj (w.heap.size + 1) (.loop { recOf fn a.tmps #[p] assign body w.heap.size (e (yx x)) with state := .exhausted }) = w4 at h8 ⊢
  show match e (yx x) with | none => _ | some c => _
  cases hc : e (yx x) with
  | none => exact k1 hc _ _ hfa h8
  | some c => exact k2 c hc _ _ hfa h8

-- ===== a function that holds such a loop =====

theorem Ct_introM {P : Program} {f : FuncId} {fn : Func} {c : Code} {args : List Value} {Γ : List OA} {Φ : List SP} {X : Type} {pf : X → Prop} {ret : X → Value} {Γ' : X → List OA} {Φ' : X → List SP} {n : Nat}
    (hf : P.funcs[f]? = some fn) (hb : fn.body = some c) (hn : fn.ntmps = n) (hl : args.length ≤ n) (fr : Fr) (hfr : listO (argFr 0 args) = some fr)
    (h : ∀ w0 O0, W ⟨P, n, w0, O0, fpL Γ, none, []⟩ c fr Γ Φ (bodyPostM Fence.wide 0 P fn (FnPost w0 O0 (fpL Γ) pf ret Γ' Φ'))) : Ct P f args Γ Φ pf ret Γ' Φ' := by
  intro w O0 hO ho hΦ
  have hfr := listO_eq hfr
  refine (callsIn_wide (n := 0)).1 (callsIn_of_wp_marks hf hb trivial (h w O0 _ w ⟨rfl, ?_, fun t v hv => ?_⟩ ⟨Mod.refl _ _, ho, fun k hk => .inl hk, hO, hΦ⟩))
  · subst hn
    simp
    omega
  · rw [← hfr] at hv
    obtain ⟨_, h2⟩ := argFr_get args 0 t v hv
    rw [Nat.sub_zero] at h2
    have hlt : t < args.length := (List.getElem?_eq_some_iff.1 h2).1
    have h3 := (List.getElem?_eq_some_iff.1 h2).2
    simp [Array.getElem?_append, hlt, h3]

abbrev CtxM (P : Program) (n : Nat) (w0 : World) (O0 M : Nat → Prop) (D : Nat) : Ctx := ⟨P, n, w0, O0, M, none, [⟨.collected D, #[]⟩]⟩

section
variable {P : Program} {n D : Nat} {w0 : World} {O0 M : Nat → Prop} {fn : Func} {fr : Fr} {Γ Γ1 : List OA} {Φ : List SP} {X : Type} {pf : X → Prop} {ret : X → Value} {Γ' : X → List OA} {Φ' : X → List SP}
end

section
variable {C : Ctx} {fr : Fr} {Γ Γ' Γ1 : List OA} {Φ : List SP} {d : Nat} {ty : TypeId} {pos : String} {aft : Array Edge} {g : Option (Nat × Bool)}
theorem R_makeFunc {fn : Fn} {caps : Array Operand} {vs : List Value} (hc : evOs fr caps.toList = some vs) : Runs C fr Γ Φ ⟨some d, .makeFunc fn #[] caps, ty, pos, aft, g⟩ (.func fn #[] vs.toArray) :=
  Runs.pure fun a w ha _ => by
    have e := evOs_sound ha hc
    have e2 : caps.map a.eval = vs.toArray := by
      apply Array.ext'
      simpa using e
    simp [execOp, Instr.makeFunc, e2]
theorem R_nilCheck {x : Operand} {A : Addr} (hx : evO fr x = some (.pointer (some A))) : Runs C fr Γ Φ ⟨some d, .nilCheck x, ty, pos, aft, g⟩ (.pointer (some A)) :=
  Runs.pure fun a w ha _ => by simp [execOp, evO_sound ha hx]

/-- a byte row that is made, told as lasting at once. -/
theorem Effs.letB {o : Oper} {X : Type} {pf : X → Prop} {vx : X → Value} {G : X → List OA} {H : X → List SP} {v : X → Value} {t : TypeId} {n : X → Nat} {bs : X → List UInt8}
    (h : Effs C fr Γ Φ o pf vx (fun x => .row (v x) t 1 (n x) ((bs x).map bcell) :: G x) H) : Effs C fr Γ Φ o pf vx G (fun x => By (v x) (bs x) :: H x) := by
  refine ⟨fun x ψ hψ => List.mem_cons_of_mem _ (h.1 x ψ hψ), fun R a w ha hw => (h.2 R a w ha hw).mono fun v' w' ⟨x, hp, hv, hw'⟩ => ⟨x, hp, hv, ?_⟩⟩
  exact Holds.letgoB hw' rfl

end

end Go.Hs

/-
  Trees of elements in memory; own things lent to a call; rows of bytes of which only the lengths matter. No program is named here.
-/
namespace Go.Hs
open Go Go.RowKit

-- ===== a call that looks at what is owned =====

/-- while Γb is owned and Φ holds, the facts Φb hold too (where Γb itself is not forbidden). -/
def Bor (Γb : List OA) (Φ Φb : List SP) : Prop := ∀ w O, Own Γb w → (∀ k, fpL Γb k → ¬ O k) → (∀ ψ ∈ Φ, ψ.p w O) → ∀ ψ ∈ Φb, ψ.p w O

section
variable {C : Ctx} {ops : Array Oper} {l : List Oper} {fr : Fr} {Γ Γ' Γ1 : List OA} {Φ : List SP} {Q : Exit → Act → World → Prop}
  {d : Nat} {ty : TypeId} {pos : String} {aft : Array Edge} {g : Option (Nat × Bool)}

theorem Bor.row {v : Value} {t : TypeId} {n : Nat} {bs : List UInt8} {Γr : List OA} (hn : n = bs.length) : Bor [.row v t 1 n (bs.map bcell)] Φ (By v bs :: Φ) := fun w O ho hd hΦ ψ hψ => by
  rcases List.mem_cons.1 hψ with rfl | hψ
  · subst hn
    exact slP_of_row ho.1 fun k hk => hd k (fpL_cons.2 (.inl hk))
  · exact hΦ ψ hψ

/-- a plain truth drawn from what holds. -/
theorem W_pure {c : Code} {p : Prop} (hp : ∀ w, Holds C Γ Φ w → p) (h : p → W C c fr Γ Φ Q) : W C c fr Γ Φ Q := fun a w ha hw => h (hp w hw) a w ha hw
def isNilV : Value → Bool
  | .slice none _ _ => true
  | _ => false

/-- a method's value: the receiver is kept. -/
theorem R_makeFunc1 {fn : FuncId} {x : Operand} {v : Value} (hx : evO fr x = some v) : Runs C fr Γ Φ ⟨some d, .makeFunc (.func fn) #[x] #[], ty, pos, aft, g⟩ (.func (.func fn) #[v] #[]) :=
  Runs.pure fun a w ha _ => by simp [execOp, Instr.makeFunc, evO_sound ha hx]
end

theorem perm1 {x : OA} {Γ Γr : List OA} (h : Pick x Γ Γr) : Γ.Perm ([x] ++ Γr) := h
theorem perm2 {x y : OA} {Γ Γ1 Γr : List OA} (h : Pick x Γ Γ1) (k : Pick y Γ1 Γr) : Γ.Perm ([x, y] ++ Γr) := h.trans (List.Perm.cons x k)
theorem perm3 {x y z : OA} {Γ Γ1 Γ2 Γr : List OA} (h : Pick x Γ Γ1) (k : Pick y Γ1 Γ2) (l : Pick z Γ2 Γr) : Γ.Perm ([x, y, z] ++ Γr) := h.trans (List.Perm.cons x (k.trans (List.Perm.cons y l)))

-- ===== many rows of bytes aas one thing =====

def rowsL (bt : TypeId) (L : List (Value × List UInt8)) : List OA := L.map fun p => .row p.1 bt 1 p.2.length (p.2.map bcell)
section
variable {C : Ctx} {ops : Array Oper} {l : List Oper} {fr : Fr} {Γ Γ1 Γ2 : List OA} {Φ : List SP} {Q : Exit → Act → World → Prop}
end

-- ===== trees =====

/-- a list of elements as it stands in memory, each with its own list; the values that lead to the data and to the list are told too. -/
inductive T where
  | nil
  | cons (id ext : UInt8) (dv : Value) (data : List UInt8) (sv : Value) (subs next : T)

/-- the same without the values. -/
inductive Fo where
  | nil
  | cons (id ext : UInt8) (data : List UInt8) (subs next : Fo)
deriving DecidableEq

namespace T
def er : T → Fo
  | .nil => .nil
  | .cons id ext _ data _ subs next => .cons id ext data subs.er next.er
def len : T → Nat
  | .nil => 0
  | .cons _ _ _ _ _ _ next => next.len + 1
def drop : Nat → T → T
  | 0, t => t
  | _ + 1, .nil => .nil
  | k + 1, .cons _ _ _ _ _ _ next => drop k next
def app : T → T → T
  | .nil, u => u
  | .cons id ext dv data sv subs next, u => .cons id ext dv data sv subs (next.app u)
def head : T → List Value
  | .nil => []
  | .cons id ext dv _ sv _ _ => [bcell id, bcell ext, dv, sv]
def at_ (t : T) (i : Nat) : List Value := (t.drop i).head
def cells : T → List Value
  | .nil => []
  | .cons id ext dv _ sv _ next => bcell id :: bcell ext :: dv :: sv :: next.cells
def dls : T → List (Value × List UInt8)
  | .nil => []
  | .cons _ _ dv data _ _ next => (dv, data) :: next.dls

def tfP : T → World → (Nat → Prop) → Prop
  | .nil, _, _ => True
  | .cons _ _ dv data sv subs next, w, O => (By dv data).p w O ∧ (Rw 4 sv subs.len subs.at_).p w O ∧ subs.tfP w O ∧ next.tfP w O
theorem tfP.st : ∀ {t : T} {w w' : World} {O O' : Nat → Prop}, t.tfP w O → Mod O w w' → (∀ k, k < w.heap.size → O' k → O k) → t.tfP w' O'
  | .nil, _, _, _, _, _, _, _ => trivial
  | .cons _ _ _ _ _ _ _, _, _, _, _, h, hm, ho => ⟨SP.st _ h.1 hm ho, SP.st _ h.2.1 hm ho, tfP.st h.2.2.1 hm ho, tfP.st h.2.2.2 hm ho⟩
/-- what hangs on the elements lasts. -/
def tf (t : T) : SP := ⟨t.tfP, tfP.st⟩

def tsP : T → World → (Nat → Prop) → Prop
  | .nil, _, _ => True
  | .cons _ _ _ _ sv subs next, w, O => (Rw 4 sv subs.len subs.at_).p w O ∧ subs.tfP w O ∧ next.tsP w O
theorem tsP.st : ∀ {t : T} {w w' : World} {O O' : Nat → Prop}, t.tsP w O → Mod O w w' → (∀ k, k < w.heap.size → O' k → O k) → t.tsP w' O'
  | .nil, _, _, _, _, _, _, _ => trivial
  | .cons _ _ _ _ _ _ _, _, _, _, _, h, hm, ho => ⟨SP.st _ h.1 hm ho, tfP.st h.2.1 hm ho, tsP.st h.2.2 hm ho⟩
/-- the same of the elements' lists alone: the data are owned. -/
def ts (t : T) : SP := ⟨t.tsP, tsP.st⟩

theorem drop_len : ∀ (t : T) (k : Nat), k ≤ t.len → (t.drop k).len = t.len - k
  | t, 0, _ => rfl
  | .nil, k + 1, h => by simp [len] at h
  | .cons _ _ _ _ _ _ next, k + 1, h => by
    simp only [len] at h
    simp only [drop, len, drop_len next k (by omega)]
    omega
theorem drop_nil : ∀ (k : Nat), drop k .nil = .nil
  | 0 => rfl
  | _ + 1 => rfl
theorem drop_next : ∀ {t : T} {k : Nat} {id ext : UInt8} {dv : Value} {data : List UInt8} {sv : Value} {subs next : T}, t.drop k = .cons id ext dv data sv subs next → t.drop (k + 1) = next
  | .nil, k, _, _, _, _, _, _, _, h => by rw [drop_nil] at h; cases h
  | .cons _ _ _ _ _ _ _, 0, _, _, _, _, _, _, _, h => by
    simp only [drop, cons.injEq] at h
    simp only [drop]
    exact h.2.2.2.2.2.2
  | .cons _ _ _ _ _ _ n, k + 1, _, _, _, _, _, _, _, h => by
    show drop (k + 1) n = _
    exact drop_next (t := n) h
/-- the k-th element. -/
theorem get {t : T} {k : Nat} (h : k < t.len) : ∃ id ext dv data sv subs next, t.drop k = .cons id ext dv data sv subs next := by
  cases e : t.drop k with
  | nil =>
    have := drop_len t k (by omega)
    rw [e] at this
    simp only [len] at this
    omega
  | cons id ext dv data sv subs next => exact ⟨_, _, _, _, _, _, _, rfl⟩
theorem at_cons {t : T} {k : Nat} {id ext : UInt8} {dv : Value} {data : List UInt8} {sv : Value} {subs next : T} (h : t.drop k = .cons id ext dv data sv subs next) : t.at_ k = [bcell id, bcell ext, dv, sv] := by
  rw [at_, h]
  rfl
def size : T → Nat
  | .nil => 0
  | .cons _ _ _ _ _ subs next => subs.size + next.size + 1
theorem drop_size : ∀ {t : T} {k : Nat} {id ext : UInt8} {dv : Value} {data : List UInt8} {sv : Value} {subs next : T}, t.drop k = .cons id ext dv data sv subs next → subs.size < t.size
  | .nil, k, _, _, _, _, _, _, _, h => by rw [drop_nil] at h; cases h
  | .cons _ _ _ _ _ _ _, 0, _, _, _, _, _, _, _, h => by
    simp only [drop, cons.injEq] at h
    obtain ⟨_, _, _, _, _, rfl, rfl⟩ := h
    simp only [size]
    omega
  | .cons _ _ _ _ _ _ n, k + 1, _, _, _, _, _, _, _, h => by
    have := drop_size (t := n) h
    simp only [size]
    omega

theorem tf_at : ∀ {t : T} {k : Nat} {id ext : UInt8} {dv : Value} {data : List UInt8} {sv : Value} {subs next : T} {w : World} {O : Nat → Prop}, t.drop k = .cons id ext dv data sv subs next → t.tfP w O →
    (By dv data).p w O ∧ (Rw 4 sv subs.len subs.at_).p w O ∧ subs.tfP w O
  | .nil, k, _, _, _, _, _, _, _, _, _, h, _ => by rw [drop_nil] at h; cases h
  | .cons _ _ _ _ _ _ _, 0, _, _, _, _, _, _, _, _, _, h, hp => by
    simp only [drop, cons.injEq] at h
    obtain ⟨rfl, rfl, rfl, rfl, rfl, rfl, rfl⟩ := h
    exact ⟨hp.1, hp.2.1, hp.2.2.1⟩
  | .cons _ _ _ _ _ _ n, k + 1, _, _, _, _, _, _, _, _, _, h, hp => tf_at (t := n) h hp.2.2.2
end T

section
variable {C : Ctx} {fr : Fr} {Γ Γ1 : List OA} {Φ : List SP}
theorem ent_tree {t : T} {k : Nat} {id ext : UInt8} {dv : Value} {data : List UInt8} {sv : Value} {subs next : T} (hm : t.tf ∈ Φ) (h : t.drop k = .cons id ext dv data sv subs next) :
    Ent Φ (By dv data) ∧ Ent Φ (Rw 4 sv subs.len subs.at_) ∧ Ent Φ subs.tf := ⟨fun _ _ hw => (T.tf_at h (hw _ hm)).1, fun _ _ hw => (T.tf_at h (hw _ hm)).2.1, fun _ _ hw => (T.tf_at h (hw _ hm)).2.2⟩
end
theorem rw_le {C : Ctx} {Γ : List OA} {Φ : List SP} {size n : Nat} {v : Value} {f : Nat → List Value} (hm : Rw size v n f ∈ Φ) : ∀ w, Holds C Γ Φ w → n ≤ 9223372036854775807 := fun w h => by
  obtain ⟨A, c, _, h1, h2, _⟩ := h.sp _ hm
  have : maxLen = 9223372036854775807 := rfl
  omega
theorem by_le {C : Ctx} {Γ : List OA} {Φ : List SP} {v : Value} {bs : List UInt8} (hm : By v bs ∈ Φ) : ∀ w, Holds C Γ Φ w → bs.length ≤ 9223372036854775807 := fun w h => by
  obtain ⟨_, A, c, _, h1, h2, _⟩ := (show slP 1 v bs.length (bs.map bcell) w _ from h.sp _ hm)
  have : maxLen = 9223372036854775807 := rfl
  omega
end Go.Hs

/-
  The content of an element, read part by part: what it is, and that both texts read it.
-/
namespace Go.Proofs.Ytoohgnegoaoleaa.C04
open Go Go.RowKit Go.Hs
attribute [local irreducible] WL W WQ PL Runs Effs AllE Ent SubO FrIn Pick OneC Ones CellsE PartsE SeqE UZ By Sl Pt Ct

abbrev WR := List UInt8 × List UInt8 × Int
def wcat (acc : List UInt8) (q : WR) : WR := if q.2.2 = 0 then (acc ++ q.1, q.2.1, 0) else ([], [], q.2.2)
/-- the content, the bytes after it, the error. -/
def whole : Nat → List UInt8 → WR
  | 0, _ => ([], [], 10)
  | f + 1, b =>
    if b.length = 0 ∨ b.length - 1 < (b.getD 0 0).toNat then ([], [], 10)
    else if (b.getD 0 0).toNat < 255 then ((b.drop 1).take (b.getD 0 0).toNat, b.drop (1 + (b.getD 0 0).toNat), 0)
    else if b.length = 256 then ([], [], 10)
    else if ¬ b.getD 256 0 = 254 then ([], [], 12)
    else wcat ((b.drop 1).take 255) (whole f (b.drop 257))

theorem take_end (xs : List UInt8) (p : Nat) : (xs.drop p).take (xs.length - p) = xs.drop p := List.take_of_length_le (by simp)

end Go.Proofs.Ytoohgnegoaoleaa.C04

/-
  The content of an element, as the reference reads it.
-/
namespace Go.Proofs.Ytoohgnegoaoleaa.C04
open Go Go.RowKit Go.Hs
attribute [local irreducible] WL W WQ PL Runs Effs AllE Ent SubO FrIn Pick OneC Ones CellsE PartsE SeqE UZ By Sl Pt Ct

end Go.Proofs.Ytoohgnegoaoleaa.C04

/-
  What a list of elements is decoded to; small contracts.
-/
namespace Go.Proofs.Ytoohgnegoaoleaa.C04
open Go Go.RowKit Go.Hs
attribute [local irreducible] WL W WQ PL Runs Effs AllE Ent SubO FrIn Pick OneC Ones CellsE PartsE SeqE UZ By Sl Pt Ct

abbrev DR := Fo × Nat × Int
def fapp : Fo → Fo → Fo
  | .nil, u => u
  | .cons id ext data subs next, u => .cons id ext data subs (fapp next u)
def dcat (acc : Fo) (q : DR) : DR := if q.2.2 = 0 then (fapp acc q.1, q.2) else (.nil, q.2)
def lim (id : UInt8) : Nat := if id = 255 then 1025 else 1024
def contB (id : UInt8) : Bool := decide (200 ≤ id.toNat) && decide (id.toNat < 220)
structure ON where
  id : UInt8
  ext : UInt8
  data : List UInt8
  subs : Fo
  rest : List UInt8
  many : Nat
  err : Int
/-- one element from the front of bytes. -/
def one1 (rec : List UInt8 → Nat → Nat → DR) (b : List UInt8) (depth many : Nat) : ON :=
  if many = 64 then ⟨0, 0, [], .nil, [], many, 4⟩
  else if b.getD 0 0 = 254 then ⟨0, 0, [], .nil, [], many + 1, 12⟩
  else if ¬ (whole (b.length - 1) (b.drop 1)).2.2 = 0 then ⟨b.getD 0 0, 0, [], .nil, [], many + 1, (whole (b.length - 1) (b.drop 1)).2.2⟩
  else if lim (b.getD 0 0) < (whole (b.length - 1) (b.drop 1)).1.length then ⟨b.getD 0 0, 0, [], .nil, [], many + 1, 11⟩
  else if b.getD 0 0 = 255 then
    (if (whole (b.length - 1) (b.drop 1)).1.length = 0 then ⟨b.getD 0 0, 0, [], .nil, [], many + 1, 12⟩
     else ⟨b.getD 0 0, (whole (b.length - 1) (b.drop 1)).1.getD 0 0, (whole (b.length - 1) (b.drop 1)).1.drop 1, .nil, (whole (b.length - 1) (b.drop 1)).2.1, many + 1, 0⟩)
  else if contB (b.getD 0 0) = false then ⟨b.getD 0 0, 0, (whole (b.length - 1) (b.drop 1)).1, .nil, (whole (b.length - 1) (b.drop 1)).2.1, many + 1, 0⟩
  else if depth = 4 ∧ 0 < (whole (b.length - 1) (b.drop 1)).1.length then ⟨b.getD 0 0, 0, [], .nil, [], many + 1, 4⟩
  else ⟨b.getD 0 0, 0, [], (rec (whole (b.length - 1) (b.drop 1)).1 (depth + 1) (many + 1)).1, (whole (b.length - 1) (b.drop 1)).2.1, (rec (whole (b.length - 1) (b.drop 1)).1 (depth + 1) (many + 1)).2.1, (rec (whole (b.length - 1) (b.drop 1)).1 (depth + 1) (many + 1)).2.2⟩
def dec : Nat → List UInt8 → Nat → Nat → DR
  | 0, _, _, m => (.nil, m, 0)
  | f + 1, b, d, m =>
    if b.length = 0 then (.nil, m, 0)
    else if ¬ (one1 (dec f) b d m).err = 0 then (.nil, (one1 (dec f) b d m).many, (one1 (dec f) b d m).err)
    else dcat (.cons (one1 (dec f) b d m).id (one1 (dec f) b d m).ext (one1 (dec f) b d m).data (one1 (dec f) b d m).subs .nil) (dec f (one1 (dec f) b d m).rest d (one1 (dec f) b d m).many)

set_option maxRecDepth 100000 in
theorem cont_fn (id : UInt8) : CtD Try.prog 102 [bcell id] [] (.bool (contB id)) := by
  by_cases h1 : 200 ≤ id.toNat
  · by_cases h2 : id.toNat < 220
    · rw [contB, decide_eq_true h1, decide_eq_true h2]
      refine Ct_intro Try.func102 rfl Try.ntmps102 (by simp) _ rfl (fun w0 O0 => ?_)
      repeat (first | refine n1 ?_ | refine n2 (fun b _ => ?_) | refine n3 (fun _ _ => ?_) | refine n4 ?_ | refine n5 ?_ | refine WL_nil ?_ | refine W_seq ?_ | refine W_region ?_ | refine n7 ?_ | refine n8 ?_ | refine W_block ?_ | refine W_skip ?_ | refine W_ret ?_ | refine W_exit ?_ | refine WQ_then ?_ | refine WQ_then_ret ?_ | refine WQ_then_exit ?_ | refine WQ_block_normal ?_ | refine WQ_block_ret ?_ | refine WQ_block_exit ?_ | refine n9 ?_)
      ((apply ret1 Try.results102 ( ())); (focus (first | trivial | assumption | omega)); (focus (first | exact RV_tmp rfl | (apply RV_cellN; exact rfl; (repeat' (first | exact Pick.head _ _ | apply Pick.tail)); (intro _; exact rfl); (intro _; exact rfl); exact rfl) | (apply RV_cell1; exact rfl; (repeat' (first | exact Pick.head _ _ | apply Pick.tail)); (intro _; exact rfl); exact rfl)));  (focus (first | exact rfl | (simp; done))); (focus (repeat (first | exact SubO.nil _ | (apply SubO.cons; (focus (repeat' (first | exact Pick.head _ _ | apply Pick.tail))))))); (focus (repeat (first | exact AllE.nil _ | (apply AllE.cons; (focus (first | exact ent_nilBy | exact ent_nilSl | (apply Ent.mem; repeat' (first | exact mcs | apply mct)))))))))
    · rw [contB, decide_eq_true h1, decide_eq_false h2]
      refine Ct_intro Try.func102 rfl Try.ntmps102 (by simp) _ rfl (fun w0 O0 => ?_)
      repeat (first | refine n1 ?_ | refine n2 (fun b _ => ?_) | refine n3 (fun _ _ => ?_) | refine n4 ?_ | refine n5 ?_ | refine WL_nil ?_ | refine W_seq ?_ | refine W_region ?_ | refine n7 ?_ | refine n8 ?_ | refine W_block ?_ | refine W_skip ?_ | refine W_ret ?_ | refine W_exit ?_ | refine WQ_then ?_ | refine WQ_then_ret ?_ | refine WQ_then_exit ?_ | refine WQ_block_normal ?_ | refine WQ_block_ret ?_ | refine WQ_block_exit ?_ | refine n9 ?_)
      ((apply ret1 Try.results102 ( ())); (focus (first | trivial | assumption | omega)); (focus (first | exact RV_tmp rfl | (apply RV_cellN; exact rfl; (repeat' (first | exact Pick.head _ _ | apply Pick.tail)); (intro _; exact rfl); (intro _; exact rfl); exact rfl) | (apply RV_cell1; exact rfl; (repeat' (first | exact Pick.head _ _ | apply Pick.tail)); (intro _; exact rfl); exact rfl)));  (focus (first | exact rfl | (simp; done))); (focus (repeat (first | exact SubO.nil _ | (apply SubO.cons; (focus (repeat' (first | exact Pick.head _ _ | apply Pick.tail))))))); (focus (repeat (first | exact AllE.nil _ | (apply AllE.cons; (focus (first | exact ent_nilBy | exact ent_nilSl | (apply Ent.mem; repeat' (first | exact mcs | apply mct)))))))))
  · rw [contB, decide_eq_false h1]
    refine Ct_intro Try.func102 rfl Try.ntmps102 (by simp) _ rfl (fun w0 O0 => ?_)
    repeat (first | refine n1 ?_ | refine n2 (fun b _ => ?_) | refine n3 (fun _ _ => ?_) | refine n4 ?_ | refine n5 ?_ | refine WL_nil ?_ | refine W_seq ?_ | refine W_region ?_ | refine n7 ?_ | refine n8 ?_ | refine W_block ?_ | refine W_skip ?_ | refine W_ret ?_ | refine W_exit ?_ | refine WQ_then ?_ | refine WQ_then_ret ?_ | refine WQ_then_exit ?_ | refine WQ_block_normal ?_ | refine WQ_block_ret ?_ | refine WQ_block_exit ?_ | refine n9 ?_)
    ((apply ret1 Try.results102 ( ())); (focus (first | trivial | assumption | omega)); (focus (first | exact RV_tmp rfl | (apply RV_cellN; exact rfl; (repeat' (first | exact Pick.head _ _ | apply Pick.tail)); (intro _; exact rfl); (intro _; exact rfl); exact rfl) | (apply RV_cell1; exact rfl; (repeat' (first | exact Pick.head _ _ | apply Pick.tail)); (intro _; exact rfl); exact rfl)));  (focus (first | exact rfl | (simp; done))); (focus (repeat (first | exact SubO.nil _ | (apply SubO.cons; (focus (repeat' (first | exact Pick.head _ _ | apply Pick.tail))))))); (focus (repeat (first | exact AllE.nil _ | (apply AllE.cons; (focus (first | exact ent_nilBy | exact ent_nilSl | (apply Ent.mem; repeat' (first | exact mcs | apply mct)))))))))
set_option maxRecDepth 100000 in
theorem rcont_fn (id : UInt8) : CtD Try.prog 98 [bcell id] [] (.bool (contB id)) := by
  by_cases h1 : 200 ≤ id.toNat
  · by_cases h2 : id.toNat < 220
    · rw [contB, decide_eq_true h1, decide_eq_true h2]
      refine Ct_intro Try.func98 rfl Try.ntmps98 (by simp) _ rfl (fun w0 O0 => ?_)
      repeat (first | refine n1 ?_ | refine n2 (fun b _ => ?_) | refine n3 (fun _ _ => ?_) | refine n4 ?_ | refine n5 ?_ | refine WL_nil ?_ | refine W_seq ?_ | refine W_region ?_ | refine n7 ?_ | refine n8 ?_ | refine W_block ?_ | refine W_skip ?_ | refine W_ret ?_ | refine W_exit ?_ | refine WQ_then ?_ | refine WQ_then_ret ?_ | refine WQ_then_exit ?_ | refine WQ_block_normal ?_ | refine WQ_block_ret ?_ | refine WQ_block_exit ?_ | refine n9 ?_)
      ((apply ret1 Try.results98 ( ())); (focus (first | trivial | assumption | omega)); (focus (first | exact RV_tmp rfl | (apply RV_cellN; exact rfl; (repeat' (first | exact Pick.head _ _ | apply Pick.tail)); (intro _; exact rfl); (intro _; exact rfl); exact rfl) | (apply RV_cell1; exact rfl; (repeat' (first | exact Pick.head _ _ | apply Pick.tail)); (intro _; exact rfl); exact rfl)));  (focus (first | exact rfl | (simp; done))); (focus (repeat (first | exact SubO.nil _ | (apply SubO.cons; (focus (repeat' (first | exact Pick.head _ _ | apply Pick.tail))))))); (focus (repeat (first | exact AllE.nil _ | (apply AllE.cons; (focus (first | exact ent_nilBy | exact ent_nilSl | (apply Ent.mem; repeat' (first | exact mcs | apply mct)))))))))
    · rw [contB, decide_eq_true h1, decide_eq_false h2]
      refine Ct_intro Try.func98 rfl Try.ntmps98 (by simp) _ rfl (fun w0 O0 => ?_)
      repeat (first | refine n1 ?_ | refine n2 (fun b _ => ?_) | refine n3 (fun _ _ => ?_) | refine n4 ?_ | refine n5 ?_ | refine WL_nil ?_ | refine W_seq ?_ | refine W_region ?_ | refine n7 ?_ | refine n8 ?_ | refine W_block ?_ | refine W_skip ?_ | refine W_ret ?_ | refine W_exit ?_ | refine WQ_then ?_ | refine WQ_then_ret ?_ | refine WQ_then_exit ?_ | refine WQ_block_normal ?_ | refine WQ_block_ret ?_ | refine WQ_block_exit ?_ | refine n9 ?_)
      ((apply ret1 Try.results98 ( ())); (focus (first | trivial | assumption | omega)); (focus (first | exact RV_tmp rfl | (apply RV_cellN; exact rfl; (repeat' (first | exact Pick.head _ _ | apply Pick.tail)); (intro _; exact rfl); (intro _; exact rfl); exact rfl) | (apply RV_cell1; exact rfl; (repeat' (first | exact Pick.head _ _ | apply Pick.tail)); (intro _; exact rfl); exact rfl)));  (focus (first | exact rfl | (simp; done))); (focus (repeat (first | exact SubO.nil _ | (apply SubO.cons; (focus (repeat' (first | exact Pick.head _ _ | apply Pick.tail))))))); (focus (repeat (first | exact AllE.nil _ | (apply AllE.cons; (focus (first | exact ent_nilBy | exact ent_nilSl | (apply Ent.mem; repeat' (first | exact mcs | apply mct)))))))))
  · rw [contB, decide_eq_false h1]
    refine Ct_intro Try.func98 rfl Try.ntmps98 (by simp) _ rfl (fun w0 O0 => ?_)
    repeat (first | refine n1 ?_ | refine n2 (fun b _ => ?_) | refine n3 (fun _ _ => ?_) | refine n4 ?_ | refine n5 ?_ | refine WL_nil ?_ | refine W_seq ?_ | refine W_region ?_ | refine n7 ?_ | refine n8 ?_ | refine W_block ?_ | refine W_skip ?_ | refine W_ret ?_ | refine W_exit ?_ | refine WQ_then ?_ | refine WQ_then_ret ?_ | refine WQ_then_exit ?_ | refine WQ_block_normal ?_ | refine WQ_block_ret ?_ | refine WQ_block_exit ?_ | refine n9 ?_)
    ((apply ret1 Try.results98 ( ())); (focus (first | trivial | assumption | omega)); (focus (first | exact RV_tmp rfl | (apply RV_cellN; exact rfl; (repeat' (first | exact Pick.head _ _ | apply Pick.tail)); (intro _; exact rfl); (intro _; exact rfl); exact rfl) | (apply RV_cell1; exact rfl; (repeat' (first | exact Pick.head _ _ | apply Pick.tail)); (intro _; exact rfl); exact rfl)));  (focus (first | exact rfl | (simp; done))); (focus (repeat (first | exact SubO.nil _ | (apply SubO.cons; (focus (repeat' (first | exact Pick.head _ _ | apply Pick.tail))))))); (focus (repeat (first | exact AllE.nil _ | (apply AllE.cons; (focus (first | exact ent_nilBy | exact ent_nilSl | (apply Ent.mem; repeat' (first | exact mcs | apply mct)))))))))

end Go.Proofs.Ytoohgnegoaoleaa.C04

/-
  The mathematics of encoding and decoding: what is encoded is decoded to the same, and what is decoded was encoded so. No program is named here.
-/
namespace Go.Proofs.Ytoohgnegoaoleaa.C04
open Go Go.RowKit Go.Hs

/-- a content after the Id, part by part. -/
def bod : Nat → List UInt8 → List UInt8
  | 0, c => UInt8.ofNat c.length :: c
  | f + 1, c => if 255 ≤ c.length then 255 :: (c.take 255 ++ 254 :: bod f (c.drop 255)) else UInt8.ofNat c.length :: c
def withX (id ext : UInt8) (c : List UInt8) : List UInt8 := if id = 255 then ext :: c else c
def inn (id : UInt8) (data sub : List UInt8) : List UInt8 := if contB id then sub else data
def enc : Fo → List UInt8
  | .nil => []
  | .cons id ext data subs next => (id :: bod (withX id ext (inn id data (enc subs))).length (withX id ext (inn id data (enc subs)))) ++ enc next
def cnt : Fo → Nat
  | .nil => 0
  | .cons _ _ _ subs next => 1 + cnt subs + cnt next
def dep : Fo → Nat
  | .nil => 0
  | .cons _ _ _ subs next => max (1 + dep subs) (dep next)
def isN : Fo → Bool
  | .nil => true
  | _ => false
/-- an element by itself, its list aside. -/
def own (id ext : UInt8) (data : List UInt8) (subs : Fo) : Bool :=
  (! decide (id = 254)) && (decide (id = 255) || decide (ext = 0)) && (if contB id then data.isEmpty else isN subs)
def val : Fo → Bool
  | .nil => true
  | .cons id ext data subs next => own id ext data subs && val subs && val next
def fit : Fo → Bool
  | .nil => true
  | .cons id _ data subs next => decide ((inn id data (enc subs)).length ≤ 1024) && (! contB id || fit subs) && fit next
def chk (t : Fo) : Int := if 64 < cnt t ∨ 4 < dep t then 4 else if val t = false then 8 else if fit t = false then 11 else 0

theorem isN_iff {t : Fo} : isN t = true ↔ t = .nil := by cases t <;> simp [isN]
theorem bod_fuel : ∀ (f : Nat) (c : List UInt8), c.length ≤ f → bod f c = bod c.length c := by
  intro f
  induction f using Nat.strongRecOn with
  | _ f ih =>
    intro c h
    cases f with
    | zero =>
      obtain rfl : c = [] := List.eq_nil_of_length_eq_zero (by omega)
      rfl
    | succ f =>
      by_cases h1 : 255 ≤ c.length
      · obtain ⟨k, hk⟩ : ∃ k, c.length = k + 1 := ⟨c.length - 1, by omega⟩
        rw [hk, bod, bod, if_pos h1, if_pos h1, ih f (by omega) _ (by rw [List.length_drop]; omega), ih k (by omega) _ (by rw [List.length_drop]; omega)]
      · have e : ∀ g, bod g c = UInt8.ofNat c.length :: c := fun g => by
          cases g with
          | zero => rfl
          | succ g => rw [bod, if_neg h1]
        rw [e, e]
theorem bod_small {f : Nat} {c : List UInt8} (h : c.length < 255) : bod f c = UInt8.ofNat c.length :: c := by
  cases f with
  | zero => rfl
  | succ g => rw [bod, if_neg (by omega)]
theorem bod_big {c : List UInt8} (h : 255 ≤ c.length) : bod c.length c = 255 :: (c.take 255 ++ 254 :: bod (c.drop 255).length (c.drop 255)) := by
  obtain ⟨k, hk⟩ : ∃ k, c.length = k + 1 := ⟨c.length - 1, by omega⟩
  rw [hk, bod, if_pos h, bod_fuel k _ (by rw [List.length_drop]; omega)]
theorem cont255 : contB 255 = false := rfl
theorem cont254 : contB 254 = false := rfl

end Go.Proofs.Ytoohgnegoaoleaa.C04

/-
  Contracts of the decoder's functions: one element, a list.
-/
namespace Go.Proofs.Ytoohgnegoaoleaa.C04
open Go Go.RowKit Go.Hs
attribute [local irreducible] WL W WQ PL Runs Effs AllE Ent SubO FrIn Pick OneC Ones CellsE PartsE SeqE UZ By Sl Pt Ct

structure OX where
  id : UInt8
  ext : UInt8
  dv : Value
  data : List UInt8
  sv : Value
  subs : T
  rv : Value
  rest : List UInt8
  many : Nat
  err : Int

def ListCt (f : Nat) : Prop := ∀ (d : Nat) (v : Value) (xs : List UInt8) (dep m : Nat), xs.length ≤ f → xs.length ≤ 1000000000 → (dep ≤ 4 ∨ xs.length = 0) → m ≤ 64 →
  Ct Try.prog 79 [.pointer (some ⟨d, 0, none⟩), v, .int .i64 (dep : Int)] [.blk d 156 [.int .i64 (m : Int)]] [By v xs]
    (X := Value × T × Nat × Int) (fun x => dec f xs dep m = (x.2.1.er, x.2.2.1, x.2.2.2)) (fun x => .tuple #[x.1, .int .i64 x.2.2.2])
    (fun x => [.row x.1 106 4 x.2.1.len x.2.1.cells, pk (rowsL 5 x.2.1.dls), .blk d 156 [.int .i64 (x.2.2.1 : Int)]]) (fun x => [x.2.1.ts])

end Go.Proofs.Ytoohgnegoaoleaa.C04

/-
  Contract of the decoder's list.
-/
namespace Go.Proofs.Ytoohgnegoaoleaa.C04
open Go Go.RowKit Go.Hs
attribute [local irreducible] WL W WQ PL Runs Effs AllE Ent SubO FrIn Pick OneC Ones CellsE PartsE SeqE UZ By Sl Pt Ct

end Go.Proofs.Ytoohgnegoaoleaa.C04

/-
  What the reference decodes.
-/
namespace Go.Proofs.Ytoohgnegoaoleaa.C04
open Go Go.RowKit Go.Hs
attribute [local irreducible] WL W WQ PL Runs Effs AllE Ent SubO FrIn Pick OneC Ones CellsE PartsE SeqE UZ By Sl Pt Ct

def RdecCt (f : Nat) : Prop := ∀ (v : Value) (xs : List UInt8) (dep m : Nat), xs.length ≤ f → xs.length ≤ 1000000000 → (dep ≤ 4 ∨ xs.length = 0) → m ≤ 64 →
  Ct Try.prog 88 [v, .int .i64 (dep : Int), .int .i64 (m : Int)] [] [By v xs]
    (X := Value × T × Nat × Int) (fun x => dec f xs dep m = (x.2.1.er, x.2.2.1, x.2.2.2)) (fun x => .tuple #[x.1, .int .i64 (x.2.2.1 : Int), .int .i64 x.2.2.2])
    (fun _ => []) (fun x => [Rw 4 x.1 x.2.1.len x.2.1.at_, x.2.1.tf])

end Go.Proofs.Ytoohgnegoaoleaa.C04

/-
  Contracts of both Decode, of the reference's Same, and of the law 'ElementDecodes'.
-/
namespace Go.Proofs.Ytoohgnegoaoleaa.C04
open Go Go.RowKit Go.Hs
attribute [local irreducible] WL W WQ PL Runs Effs AllE Ent SubO FrIn Pick OneC Ones CellsE PartsE SeqE UZ By Sl Pt Ct

def flen : Fo → Nat
  | .nil => 0
  | .cons _ _ _ _ next => flen next + 1
theorem flen_er : ∀ (t : T), flen t.er = t.len
  | .nil => rfl
  | .cons _ _ _ _ _ _ next => by simp only [T.er, flen, T.len, flen_er next]
theorem drop_end {t : T} {k : Nat} (h : k = t.len) : t.drop k = .nil := by
  subst h
  induction t with
  | nil => rfl
  | cons id ext dv data sv subs next _ ih => exact ih

end Go.Proofs.Ytoohgnegoaoleaa.C04

/-
  Elements of own rows of structs, boxes let go, own rows cut and cleared, max. No program is named here.
-/
namespace Go.Hs
open Go Go.RowKit

/-- a truth kept out of the way of reckoning tactics. -/
structure Kp (p : Prop) : Prop where
  out : p

theorem row_cell {w : World} {v : Value} {t : TypeId} {size n : Nat} {xs : List Value} (h : w.ownsRow 0 t size v n xs) {k : Nat} {u : Value} (hk : xs[k]? = some u) :
    ∃ b c cur, v = .slice (some ⟨b, 0, none⟩) n c ∧ w.heap[b]? = some (.cells cur t (0, 0)) ∧ n ≤ c ∧ cur.size = c * size ∧ cur.toList.take (n * size) = xs ∧ w.cell? ⟨b, k, none⟩ = some u := by
  obtain ⟨h1, h2⟩ := h
  have hlt := (List.getElem?_eq_some_iff.1 hk).1
  rcases h2 with ⟨rfl, rfl⟩ | ⟨g, cap, cur, rfl, _, hh, hc, hm, hs, ht⟩
  · omega
  · refine ⟨g, cap, cur, rfl, hh, hc, hs, ht, ?_⟩
    simp only [World.cell?, hh]
    rw [← ht, List.getElem?_take_of_lt (by omega)] at hk
    simpa using hk

section
variable {C : Ctx} {ops : Array Oper} {l : List Oper} {fr : Fr} {Γ Γ' Γ1 : List OA} {Φ : List SP} {Q : Exit → Act → World → Prop}
  {d : Nat} {ty : TypeId} {pos : String} {aft : Array Edge} {g : Option (Nat × Bool)}

theorem R_max2 {x y : Operand} {kd : IntKind} {a b m : Int} {ts : Array TypeId} (hx : evO fr x = some (.int kd a)) (hy : evO fr y = some (.int kd b))
    (hr : (if b > a then b else a) = m) : Runs C fr Γ Φ ⟨some d, .call { callee := .builtin .max, args := #[x, y], argTypes := ts }, ty, pos, aft, g⟩ (.int kd m) :=
  Runs.pure fun a' w ha _ => by
    subst hr
    simp [execOp, resolve, invoke, builtin, evO_sound ha hx, evO_sound ha hy, Builtin.max_, Builtin.max2]
theorem R_min2 {x y : Operand} {kd : IntKind} {a b m : Int} {ts : Array TypeId} (hx : evO fr x = some (.int kd a)) (hy : evO fr y = some (.int kd b))
    (hr : (if b < a then b else a) = m) : Runs C fr Γ Φ ⟨some d, .call { callee := .builtin .min, args := #[x, y], argTypes := ts }, ty, pos, aft, g⟩ (.int kd m) :=
  Runs.pure fun a' w ha _ => by
    subst hr
    simp [execOp, resolve, invoke, builtin, evO_sound ha hx, evO_sound ha hy, Builtin.min_, Builtin.min2]

theorem R_addS {x y : Operand} {t t' : TypeId} {a b : List UInt8} (hx : evO fr x = some (strV a)) (hy : evO fr y = some (strV b)) (hl : a.length + b.length ≤ 9223372036854775807) :
    Runs C fr Γ Φ ⟨some d, .binOp .add t x y t', ty, pos, aft, g⟩ (strV (a ++ b)) :=
  Runs.pure fun a' w ha _ => by
    have e1 := evO_sound ha hx
    have e2 := evO_sound ha hy
    simp only [strV] at e1 e2
    have hb : (⟨a.toArray⟩ : ByteArray) ++ ⟨b.toArray⟩ = ⟨(a ++ b).toArray⟩ := by
      apply ByteArray.ext
      rw [ByteArray.data_append]
      simp
    have hn : ¬ ((((⟨a.toArray⟩ : ByteArray).size + (⟨b.toArray⟩ : ByteArray).size : Nat) : Int) > IntKind.i64.max) := by
      have e3 : (⟨a.toArray⟩ : ByteArray).size = a.length := by simp [ByteArray.size]
      have e4 : (⟨b.toArray⟩ : ByteArray).size = b.length := by simp [ByteArray.size]
      rw [e3, e4]
      have : IntKind.i64.max = 9223372036854775807 := rfl
      omega
    have hg : (eqGuard .add t x y (.string ⟨a.toArray⟩) (.string ⟨b.toArray⟩)).run C.P w = .ok () w := by simp [eqGuard]
    simp only [execOp, e1, e2, hg, binOp, Op.stringOp, Sem.run_bind, if_neg hn, Sem.run_pure, Result.andThen_ok, hb, strV]

theorem Ones.append {us vs : List Value} (h : Ones C Γ Φ us) (k : Ones C Γ Φ vs) : Ones C Γ Φ (us ++ vs) := fun u hu => (List.mem_append.1 hu).elim (h u) (k u)
/-- a field's address in an element of an own row. -/
theorem R_fieldRow {t ft rt : TypeId} {fs : Array Field} {x : Operand} {v : Value} {i j n fo bo size sz : Nat} {xs : List Value} {nm tag pk : String} {emb : Bool} (hx : evO fr x = some (idxV size i v))
    (hp : Pick (.row v rt size n xs) Γ Γ') (hi : i < n)
    (ht : C.P.underlying t = some (.struct fs)) (hf : fs[j]? = some ⟨nm, ft, fo, emb, tag, pk, bo⟩) (hs : ∀ w, (sizeOf ft).run C.P w = .ok sz w) (hn : Nat.beq sz 0 = false) :
    Runs C fr Γ Φ ⟨some d, .fieldAddr t x j, ty, pos, aft, g⟩ (fldV fo (idxV size i v)) :=
  Runs.pure fun a w ha hw => by
    obtain ⟨hl, h2⟩ := (pick_holds hp hw).own.1
    rcases h2 with ⟨h2, _⟩ | ⟨b, cap, cur, rfl, _, hb, hc, hm, hsz, htk⟩
    · omega
    · have h := run_fieldAt (P := C.P) (a := (⟨b, 0, none⟩ : Addr).add (i * size)) ht hf hs hn w
      simp only [execOp, evO_sound ha hx, idxV, Sem.run_bind, h, Result.andThen_ok, Sem.run_pure, fldV]

theorem R_loadRowF {t rt : TypeId} {x : Operand} {v u : Value} {n i off size : Nat} {xs : List Value} (hx : evO fr x = some (fldV off (idxV size i v))) (hp : Pick (.row v rt size n xs) Γ Γ') (hagg : ∀ w, (isAgg t).run C.P w = .ok false w)
    (hc : xs[i * size + off]? = some u) : Runs C fr Γ Φ ⟨some d, .load t x, ty, pos, aft, g⟩ u :=
  Runs.pure fun a w ha hw => by
    obtain ⟨b, c, cur, rfl, hb, _, _, _, h0⟩ := row_cell (pick_holds hp hw).own.1 hc
    have h0 : w.cell? (((⟨b, 0, none⟩ : Addr).add (i * size)).add off) = some u := by
      rw [Addr.add_lit, Addr.add_lit, Nat.zero_add]
      exact h0
    simp [execOp, evO_sound ha hx, idxV, fldV, Instr.loadAt, Instr.sureAddr, run_loadVar_one hagg h0]

/-- an own block, let go. -/
theorem Holds.letgoK {b : Nat} {t : TypeId} {cs : List Value} {w : World} (h : Holds C (.blk b t cs :: Γ) Φ w) : Holds C Γ (Pt (.pointer (some ⟨b, 0, none⟩)) cs :: Φ) w := by
  have ho := h.own
  refine h.drop.cons ⟨⟨b, 0, none⟩, rfl, OA.lt ho.1 rfl, fun hO => ?_, fun j u hu => ?_⟩
  · rcases hO with hO | hO
    · have h1 := h.o0 b hO
      rcases h.ofp b (fpL_cons.2 (.inl rfl)) with h2 | h2
      · exact h1.2 h2
      · have := h1.1
        omega
    · exact ho.2.1 b rfl hO
  · rw [Addr.add_lit, Nat.zero_add, blk_cell ho.1]
    exact hu
theorem W_letgoK {c : Code} {b : Nat} {t : TypeId} {cs : List Value} (hp : Pick (.blk b t cs) Γ Γ1) (h : W C c fr Γ1 (Pt (.pointer (some ⟨b, 0, none⟩)) cs :: Φ) Q) : W C c fr Γ Φ Q := fun a w ha hw => h a w ha (pick_holds hp hw).letgoK
theorem WL_letgoK {b : Nat} {t : TypeId} {cs : List Value} (hp : Pick (.blk b t cs) Γ Γ1) (h : WL C ops l fr Γ1 (Pt (.pointer (some ⟨b, 0, none⟩)) cs :: Φ) Q) : WL C ops l fr Γ Φ Q := fun a w ha hw => h a w ha (pick_holds hp hw).letgoK
/-- where ways meet again, ahead of what follows. -/
theorem W_cutKT {x y : Code} {X : Type} (ds ps : List Nat) (I : X → Prop) (ch : X → Fr) (gn : X → List OA) (hn : X → List SP) {fr1 : Fr} {Γ1 : List OA} {F : X → Fr} {G : X → List OA} {H : X → List SP}
    (hf : keepO ds fr = some fr1) (hg : dropO ps 0 Γ = some Γ1) (hF : ∀ x, appO (ch x) fr1 = some (F x)) (hG : ∀ x, appO (gn x) Γ1 = some (G x)) (hH : ∀ x, appO (hn x) Φ = some (H x))
    (h : W C x fr Γ Φ (Exit.then (fun a w => ∃ z, I z ∧ fok C (F z) a ∧ Holds C (G z) (H z) w) Q)) (k : ∀ z, I z → W C y (F z) (G z) (H z) Q) : W C x fr Γ Φ (Exit.then (y.wpIn (fenceOf C.rd) 0 C.P Q) Q) := by
  intro a w ha hw
  refine wpIn_mono (h a w ha hw) fun e a' w' he => ?_
  cases e <;> first | exact he | (obtain ⟨z, h0, h1, h2⟩ := he; exact k z h0 a' w' h1 h2)
end
end Go.Hs

/-
  Sizes of lists, and the reference's Count, Depth, weight, Great.
-/
namespace Go.Proofs.Ytoohgnegoaoleaa.C04
open Go Go.RowKit Go.Hs
attribute [local irreducible] WL W WQ PL Runs Effs AllE Ent SubO FrIn Pick OneC Ones CellsE PartsE SeqE UZ By Sl Pt Ct

def dat : Fo → Nat
  | .nil => 0
  | .cons _ _ data subs next => data.length + dat subs + dat next
/-- a list as the statements bound it. -/
def Sm (t : Fo) : Prop := cnt t ≤ 400 ∧ dep t ≤ 10 ∧ dat t ≤ 50000
theorem dep_cnt : ∀ (t : Fo), dep t ≤ cnt t
  | .nil => Nat.le_refl _
  | .cons _ _ _ subs next => by
    have h1 := dep_cnt subs
    have h2 := dep_cnt next
    simp only [dep, cnt]
    omega
theorem flen_cnt : ∀ (t : Fo), flen t ≤ cnt t
  | .nil => Nat.le_refl _
  | .cons _ _ _ subs next => by
    have h2 := flen_cnt next
    simp only [flen, cnt]
    omega
theorem len_cnt (t : T) : t.len ≤ cnt t.er := by
  rw [← flen_er]
  exact flen_cnt _
theorem at_sub : ∀ {t : T} {k : Nat} {id ext : UInt8} {dv : Value} {data : List UInt8} {sv : Value} {subs next : T}, t.drop k = .cons id ext dv data sv subs next →
    1 + cnt subs.er + cnt next.er ≤ cnt t.er ∧ 1 + dep subs.er ≤ dep t.er ∧ dep next.er ≤ dep t.er ∧ data.length + dat subs.er + dat next.er ≤ dat t.er
  | .nil, k, _, _, _, _, _, _, _, h => by rw [T.drop_nil] at h; cases h
  | .cons _ _ _ _ _ _ _, 0, _, _, _, _, _, _, _, h => by
    simp only [T.drop, T.cons.injEq] at h
    obtain ⟨rfl, rfl, rfl, rfl, rfl, rfl, rfl⟩ := h
    simp only [T.er, cnt, dep, dat]
    omega
  | .cons _ _ _ _ _ s n, k + 1, _, _, _, _, _, _, _, h => by
    have := at_sub (t := n) h
    simp only [T.er, cnt, dep, dat]
    omega
theorem Sm.sub {t : T} {k : Nat} {id ext : UInt8} {dv : Value} {data : List UInt8} {sv : Value} {subs next : T} (h : Sm t.er) (e : t.drop k = .cons id ext dv data sv subs next) : Sm subs.er := by
  obtain ⟨h1, h2, h3⟩ := h
  have := at_sub e
  exact ⟨by omega, by omega, by omega⟩

set_option maxRecDepth 100000 in
set_option maxHeartbeats 4000000 in
theorem count_fn : ∀ (N : Nat) (t : T) (v : Value), t.size < N → cnt t.er ≤ 1000000 → CtD Try.prog 82 [v] [Rw 4 v t.len t.at_, t.tf] (.int .i64 (cnt t.er : Int)) := by
  intro N
  induction N with
  | zero => intro t v h; omega
  | succ N IH =>
    intro t v hN hc
    have hlc := len_cnt t
    refine Ct_intro Try.func82 rfl Try.ntmps82 (by simp) _ rfl (fun w0 O0 => ?_)
    repeat (first | refine n1 ?_ | refine n2 (fun b _ => ?_) | refine n3 (fun _ _ => ?_) | refine n4 ?_ | refine n5 ?_ | refine WL_nil ?_ | refine W_seq ?_ | refine W_region ?_ | refine n7 ?_ | refine n8 ?_ | refine W_block ?_ | refine W_skip ?_ | refine W_ret ?_ | refine W_exit ?_ | refine WQ_then ?_ | refine WQ_then_ret ?_ | refine WQ_then_exit ?_ | refine WQ_block_normal ?_ | refine WQ_block_ret ?_ | refine WQ_block_exit ?_ | refine n9 ?_)
    ((apply W_loopK (X := Nat × Nat) [3, 4] [] (fun x => x.1 ≤ t.len ∧ x.2 + cnt (t.drop x.1).er = cnt t.er) (fun x => [(3, .int .i64 (x.2 : Int)), (4, .int .i64 (x.1 : Int))]) (fun _ => []) (fun _ => []) (fun x => t.len - x.1) ((0, 0))); (focus exact ⟨Nat.zero_le _, Nat.zero_add _⟩); exact rfl; exact rfl; (intro _; exact rfl); (intro _; exact rfl); (intro _; exact rfl); (focus (repeat (first | exact FrIn.nil _ | (apply FrIn.cons; exact rfl; (first | exact rfl | (congr 1; first | omega | (dsimp only; omega)) | (simp; done)))))); (focus (repeat (first | exact SubO.nil _ | (apply SubO.cons; (focus (repeat' (first | exact Pick.head _ _ | apply Pick.tail))))))); (focus (repeat (first | exact AllE.nil _ | (apply AllE.cons; (focus (first | exact ent_nilBy | exact ent_nilSl | (apply Ent.mem; repeat' (first | exact mcs | apply mct)))))))); intro x hx)
    obtain ⟨k, n⟩ := x
    obtain ⟨hk, hi⟩ := hx
    replace hk : k ≤ t.len := hk
    replace hi : n + cnt (t.drop k).er = cnt t.er := hi
    dsimp only
    by_cases c2 : k < t.len
    · obtain ⟨id, ext, dv, data, sv, subs, next, e1⟩ := T.get c2
      rw [e1] at hi
      simp only [T.er, cnt] at hi
      have a1 := T.at_cons e1
      have hs := IH subs sv (by have := T.drop_size e1; omega) (by omega)
      refine W_ent (ent_tree (t := t) (by repeat' (first | exact mcs | apply mct)) e1).1 (W_ent (ent_tree (t := t) (by repeat' (first | exact mcs | apply mct)) e1).2.1 (W_ent (ent_tree (t := t) (by repeat' (first | exact mcs | apply mct)) e1).2.2 ?_))
      repeat (first | refine n1 ?_ | refine n2 (fun b _ => ?_) | refine n3 (fun _ _ => ?_) | refine n4 ?_ | refine n5 ?_ | refine n6 (hs) ?_ | refine n6v (hs) ?_ | refine WL_nil ?_ | refine W_seq ?_ | refine W_region ?_ | refine n7 ?_ | refine n8 ?_ | refine W_block ?_ | refine W_skip ?_ | refine W_ret ?_ | refine W_exit ?_ | refine WQ_then ?_ | refine WQ_then_ret ?_ | refine WQ_then_exit ?_ | refine WQ_block_normal ?_ | refine WQ_block_ret ?_ | refine WQ_block_exit ?_ | refine n9 ?_)
      have hn : k + 1 ≤ t.len ∧ n + 1 + cnt subs.er + cnt (t.drop (k + 1)).er = cnt t.er := ⟨c2, by rw [T.drop_next e1]; omega⟩
      ((apply WQ_again ((k + 1, n + 1 + cnt subs.er))); (focus exact hn); (focus (omega)); (focus (repeat (first | exact FrIn.nil _ | (apply FrIn.cons; exact rfl; (first | exact rfl | (congr 1; first | omega | (dsimp only; omega)) | (simp; done)))))); (focus (repeat (first | exact SubO.nil _ | (apply SubO.cons; (focus (repeat' (first | exact Pick.head _ _ | apply Pick.tail))))))); (focus (repeat (first | exact AllE.nil _ | (apply AllE.cons; (focus (first | exact ent_nilBy | exact ent_nilSl | (apply Ent.mem; repeat' (first | exact mcs | apply mct)))))))))
    · rw [drop_end (by omega)] at hi
      replace hi : n = cnt t.er := by simpa [T.er, cnt] using hi
      subst hi
      repeat (first | refine n1 ?_ | refine n2 (fun b _ => ?_) | refine n3 (fun _ _ => ?_) | refine n4 ?_ | refine n5 ?_ | refine WL_nil ?_ | refine W_seq ?_ | refine W_region ?_ | refine n7 ?_ | refine n8 ?_ | refine W_block ?_ | refine W_skip ?_ | refine W_ret ?_ | refine W_exit ?_ | refine WQ_then ?_ | refine WQ_then_ret ?_ | refine WQ_then_exit ?_ | refine WQ_block_normal ?_ | refine WQ_block_ret ?_ | refine WQ_block_exit ?_ | refine n9 ?_)
      ((apply ret1 Try.results82 ( ())); (focus (first | trivial | assumption | omega)); (focus (first | exact RV_tmp rfl | (apply RV_cellN; exact rfl; (repeat' (first | exact Pick.head _ _ | apply Pick.tail)); (intro _; exact rfl); (intro _; exact rfl); exact rfl) | (apply RV_cell1; exact rfl; (repeat' (first | exact Pick.head _ _ | apply Pick.tail)); (intro _; exact rfl); exact rfl)));  (focus (first | exact rfl | (simp; done))); (focus (repeat (first | exact SubO.nil _ | (apply SubO.cons; (focus (repeat' (first | exact Pick.head _ _ | apply Pick.tail))))))); (focus (repeat (first | exact AllE.nil _ | (apply AllE.cons; (focus (first | exact ent_nilBy | exact ent_nilSl | (apply Ent.mem; repeat' (first | exact mcs | apply mct)))))))))

set_option maxRecDepth 100000 in
set_option maxHeartbeats 4000000 in
theorem depth_fn : ∀ (N : Nat) (t : T) (v : Value), t.size < N → cnt t.er ≤ 1000000 → CtD Try.prog 107 [v] [Rw 4 v t.len t.at_, t.tf] (.int .i64 (dep t.er : Int)) := by
  intro N
  induction N with
  | zero => intro t v h; omega
  | succ N IH =>
    intro t v hN hc
    have hlc := len_cnt t
    have hdc := dep_cnt t.er
    refine Ct_intro Try.func107 rfl Try.ntmps107 (by simp) _ rfl (fun w0 O0 => ?_)
    repeat (first | refine n1 ?_ | refine n2 (fun b _ => ?_) | refine n3 (fun _ _ => ?_) | refine n4 ?_ | refine n5 ?_ | refine WL_nil ?_ | refine W_seq ?_ | refine W_region ?_ | refine n7 ?_ | refine n8 ?_ | refine W_block ?_ | refine W_skip ?_ | refine W_ret ?_ | refine W_exit ?_ | refine WQ_then ?_ | refine WQ_then_ret ?_ | refine WQ_then_exit ?_ | refine WQ_block_normal ?_ | refine WQ_block_ret ?_ | refine WQ_block_exit ?_ | refine n9 ?_)
    ((apply W_loopK (X := Nat × Nat) [3, 4] [] (fun x => x.1 ≤ t.len ∧ max x.2 (dep (t.drop x.1).er) = dep t.er) (fun x => [(3, .int .i64 (x.2 : Int)), (4, .int .i64 (x.1 : Int))]) (fun _ => []) (fun _ => []) (fun x => t.len - x.1) ((0, 0))); (focus exact ⟨Nat.zero_le _, Nat.zero_max _⟩); exact rfl; exact rfl; (intro _; exact rfl); (intro _; exact rfl); (intro _; exact rfl); (focus (repeat (first | exact FrIn.nil _ | (apply FrIn.cons; exact rfl; (first | exact rfl | (congr 1; first | omega | (dsimp only; omega)) | (simp; done)))))); (focus (repeat (first | exact SubO.nil _ | (apply SubO.cons; (focus (repeat' (first | exact Pick.head _ _ | apply Pick.tail))))))); (focus (repeat (first | exact AllE.nil _ | (apply AllE.cons; (focus (first | exact ent_nilBy | exact ent_nilSl | (apply Ent.mem; repeat' (first | exact mcs | apply mct)))))))); intro x hx)
    obtain ⟨k, n⟩ := x
    obtain ⟨hk, hi⟩ := hx
    replace hk : k ≤ t.len := hk
    replace hi : max n (dep (t.drop k).er) = dep t.er := hi
    dsimp only
    by_cases c2 : k < t.len
    · obtain ⟨id, ext, dv, data, sv, subs, next, e1⟩ := T.get c2
      rw [e1] at hi
      simp only [T.er, dep] at hi
      have a1 := T.at_cons e1
      have has := at_sub e1
      have hs := IH subs sv (by have := T.drop_size e1; omega) (by omega)
      refine W_ent (ent_tree (t := t) (by repeat' (first | exact mcs | apply mct)) e1).1 (W_ent (ent_tree (t := t) (by repeat' (first | exact mcs | apply mct)) e1).2.1 (W_ent (ent_tree (t := t) (by repeat' (first | exact mcs | apply mct)) e1).2.2 ?_))
      have hn : k + 1 ≤ t.len ∧ max (max n (1 + dep subs.er)) (dep (t.drop (k + 1)).er) = dep t.er := ⟨c2, by rw [T.drop_next e1]; omega⟩
      by_cases c3 : n < 1 + dep subs.er
      · rw [show max n (1 + dep subs.er) = 1 + dep subs.er by omega] at hn
        repeat (first | refine n1 ?_ | refine n2 (fun b _ => ?_) | refine n3 (fun _ _ => ?_) | refine n4 ?_ | refine n5 ?_ | refine n6 (hs) ?_ | refine n6v (hs) ?_ | refine WL_nil ?_ | refine W_seq ?_ | refine W_region ?_ | refine n7 ?_ | refine n8 ?_ | refine W_block ?_ | refine W_skip ?_ | refine W_ret ?_ | refine W_exit ?_ | refine WQ_then ?_ | refine WQ_then_ret ?_ | refine WQ_then_exit ?_ | refine WQ_block_normal ?_ | refine WQ_block_ret ?_ | refine WQ_block_exit ?_ | refine n9 ?_)
        ((apply WQ_again ((k + 1, 1 + dep subs.er))); (focus exact hn); (focus (omega)); (focus (repeat (first | exact FrIn.nil _ | (apply FrIn.cons; exact rfl; (first | exact rfl | (congr 1; first | omega | (dsimp only; omega)) | (simp; done)))))); (focus (repeat (first | exact SubO.nil _ | (apply SubO.cons; (focus (repeat' (first | exact Pick.head _ _ | apply Pick.tail))))))); (focus (repeat (first | exact AllE.nil _ | (apply AllE.cons; (focus (first | exact ent_nilBy | exact ent_nilSl | (apply Ent.mem; repeat' (first | exact mcs | apply mct)))))))))
      · rw [show max n (1 + dep subs.er) = n by omega] at hn
        repeat (first | refine n1 ?_ | refine n2 (fun b _ => ?_) | refine n3 (fun _ _ => ?_) | refine n4 ?_ | refine n5 ?_ | refine n6 (hs) ?_ | refine n6v (hs) ?_ | refine WL_nil ?_ | refine W_seq ?_ | refine W_region ?_ | refine n7 ?_ | refine n8 ?_ | refine W_block ?_ | refine W_skip ?_ | refine W_ret ?_ | refine W_exit ?_ | refine WQ_then ?_ | refine WQ_then_ret ?_ | refine WQ_then_exit ?_ | refine WQ_block_normal ?_ | refine WQ_block_ret ?_ | refine WQ_block_exit ?_ | refine n9 ?_)
        ((apply WQ_again ((k + 1, n))); (focus exact hn); (focus (omega)); (focus (repeat (first | exact FrIn.nil _ | (apply FrIn.cons; exact rfl; (first | exact rfl | (congr 1; first | omega | (dsimp only; omega)) | (simp; done)))))); (focus (repeat (first | exact SubO.nil _ | (apply SubO.cons; (focus (repeat' (first | exact Pick.head _ _ | apply Pick.tail))))))); (focus (repeat (first | exact AllE.nil _ | (apply AllE.cons; (focus (first | exact ent_nilBy | exact ent_nilSl | (apply Ent.mem; repeat' (first | exact mcs | apply mct)))))))))
    · rw [drop_end (by omega)] at hi
      replace hi : n = dep t.er := by simpa [T.er, dep] using hi
      subst hi
      repeat (first | refine n1 ?_ | refine n2 (fun b _ => ?_) | refine n3 (fun _ _ => ?_) | refine n4 ?_ | refine n5 ?_ | refine WL_nil ?_ | refine W_seq ?_ | refine W_region ?_ | refine n7 ?_ | refine n8 ?_ | refine W_block ?_ | refine W_skip ?_ | refine W_ret ?_ | refine W_exit ?_ | refine WQ_then ?_ | refine WQ_then_ret ?_ | refine WQ_then_exit ?_ | refine WQ_block_normal ?_ | refine WQ_block_ret ?_ | refine WQ_block_exit ?_ | refine n9 ?_)
      ((apply ret1 Try.results107 ( ())); (focus (first | trivial | assumption | omega)); (focus (first | exact RV_tmp rfl | (apply RV_cellN; exact rfl; (repeat' (first | exact Pick.head _ _ | apply Pick.tail)); (intro _; exact rfl); (intro _; exact rfl); exact rfl) | (apply RV_cell1; exact rfl; (repeat' (first | exact Pick.head _ _ | apply Pick.tail)); (intro _; exact rfl); exact rfl)));  (focus (first | exact rfl | (simp; done))); (focus (repeat (first | exact SubO.nil _ | (apply SubO.cons; (focus (repeat' (first | exact Pick.head _ _ | apply Pick.tail))))))); (focus (repeat (first | exact AllE.nil _ | (apply AllE.cons; (focus (first | exact ent_nilBy | exact ent_nilSl | (apply Ent.mem; repeat' (first | exact mcs | apply mct)))))))))

set_option maxRecDepth 100000 in
set_option maxHeartbeats 4000000 in
theorem weight_fn : ∀ (N : Nat) (t : T) (v : Value) (left depth : Nat), t.size < N → left ≤ 1000000 → depth ≤ 1000 → Ct Try.prog 81 [v, .int .i64 (left : Int), .int .i64 (depth : Int)] [] [Rw 4 v t.len t.at_, t.tf]
    (X := Option Nat) (fun x => ∀ k, x = some k → k + cnt t.er + dat t.er = left ∧ dep t.er ≤ depth) (fun x => .tuple #[.int .i64 (match x with | some k => (k : Int) | none => -1), .bool x.isSome]) (fun _ => []) (fun _ => []) := by
  intro N
  induction N with
  | zero => intro t v _ _ h; omega
  | succ N IH =>
    intro t v left depth hN hleft hdepth
    have bad : ∀ k, (none : Option Nat) = some k → k + cnt t.er + dat t.er = left ∧ dep t.er ≤ depth := fun k h => by cases h
    refine Ct_intro Try.func81 rfl Try.ntmps81 (by simp) _ rfl (fun w0 O0 => ?_)
    refine W_pure (rw_le (n := t.len) (by repeat' (first | exact mcs | apply mct))) fun hle => ?_
    by_cases c0 : depth = 0 ∧ 0 < t.len
    · obtain ⟨c0, c1⟩ := c0
      repeat (first | refine n1 ?_ | refine n2 (fun b _ => ?_) | refine n3 (fun _ _ => ?_) | refine n4 ?_ | refine n5 ?_ | refine WL_nil ?_ | refine W_seq ?_ | refine W_region ?_ | refine n7 ?_ | refine n8 ?_ | refine W_block ?_ | refine W_skip ?_ | refine W_ret ?_ | refine W_exit ?_ | refine WQ_then ?_ | refine WQ_then_ret ?_ | refine WQ_then_exit ?_ | refine WQ_block_normal ?_ | refine WQ_block_ret ?_ | refine WQ_block_exit ?_ | refine n9 ?_)
      ((apply ret2 Try.results81 ( none)); (focus (first | trivial | assumption | omega)); (focus (first | exact RV_tmp rfl | (apply RV_cellN; exact rfl; (repeat' (first | exact Pick.head _ _ | apply Pick.tail)); (intro _; exact rfl); (intro _; exact rfl); exact rfl) | (apply RV_cell1; exact rfl; (repeat' (first | exact Pick.head _ _ | apply Pick.tail)); (intro _; exact rfl); exact rfl))); (focus (first | exact RV_tmp rfl | (apply RV_cellN; exact rfl; (repeat' (first | exact Pick.head _ _ | apply Pick.tail)); (intro _; exact rfl); (intro _; exact rfl); exact rfl) | (apply RV_cell1; exact rfl; (repeat' (first | exact Pick.head _ _ | apply Pick.tail)); (intro _; exact rfl); exact rfl)));  (focus (first | exact rfl | (simp; done))); (focus (repeat (first | exact SubO.nil _ | (apply SubO.cons; (focus (repeat' (first | exact Pick.head _ _ | apply Pick.tail))))))); (focus (repeat (first | exact AllE.nil _ | (apply AllE.cons; (focus (first | exact ent_nilBy | exact ent_nilSl | (apply Ent.mem; repeat' (first | exact mcs | apply mct)))))))))
    · by_cases c1 : 200 < t.len
      · repeat (first | refine n1 ?_ | refine n2 (fun b _ => ?_) | refine n3 (fun _ _ => ?_) | refine n4 ?_ | refine n5 ?_ | refine WL_nil ?_ | refine W_seq ?_ | refine W_region ?_ | refine n7 ?_ | refine n8 ?_ | refine W_block ?_ | refine W_skip ?_ | refine W_ret ?_ | refine W_exit ?_ | refine WQ_then ?_ | refine WQ_then_ret ?_ | refine WQ_then_exit ?_ | refine WQ_block_normal ?_ | refine WQ_block_ret ?_ | refine WQ_block_exit ?_ | refine n9 ?_)
        ((apply ret2 Try.results81 ( none)); (focus (first | trivial | assumption | omega)); (focus (first | exact RV_tmp rfl | (apply RV_cellN; exact rfl; (repeat' (first | exact Pick.head _ _ | apply Pick.tail)); (intro _; exact rfl); (intro _; exact rfl); exact rfl) | (apply RV_cell1; exact rfl; (repeat' (first | exact Pick.head _ _ | apply Pick.tail)); (intro _; exact rfl); exact rfl))); (focus (first | exact RV_tmp rfl | (apply RV_cellN; exact rfl; (repeat' (first | exact Pick.head _ _ | apply Pick.tail)); (intro _; exact rfl); (intro _; exact rfl); exact rfl) | (apply RV_cell1; exact rfl; (repeat' (first | exact Pick.head _ _ | apply Pick.tail)); (intro _; exact rfl); exact rfl)));  (focus (first | exact rfl | (simp; done))); (focus (repeat (first | exact SubO.nil _ | (apply SubO.cons; (focus (repeat' (first | exact Pick.head _ _ | apply Pick.tail))))))); (focus (repeat (first | exact AllE.nil _ | (apply AllE.cons; (focus (first | exact ent_nilBy | exact ent_nilSl | (apply Ent.mem; repeat' (first | exact mcs | apply mct)))))))))
      · by_cases c2 : depth = 0
        · have c3 : t.len = 0 := by omega
          have c4 : t = .nil := by cases t with
            | nil => rfl
            | cons _ _ _ _ _ _ _ => simp [T.len] at c3
          have good : ∀ k, some left = some k → k + cnt t.er + dat t.er = left ∧ dep t.er ≤ depth := fun k h => by
            injection h with h
            subst h
            subst c4
            simp [T.er, cnt, dat, dep]
          repeat (first | refine n1 ?_ | refine n2 (fun b _ => ?_) | refine n3 (fun _ _ => ?_) | refine n4 ?_ | refine n5 ?_ | refine WL_nil ?_ | refine W_seq ?_ | refine W_region ?_ | refine n7 ?_ | refine n8 ?_ | refine W_block ?_ | refine W_skip ?_ | refine W_ret ?_ | refine W_exit ?_ | refine WQ_then ?_ | refine WQ_then_ret ?_ | refine WQ_then_exit ?_ | refine WQ_block_normal ?_ | refine WQ_block_ret ?_ | refine WQ_block_exit ?_ | refine n9 ?_)
          ((apply W_loopK (X := Unit) [8] [] (fun _ => True) (fun _ => [(8, .int .i64 0)]) (fun _ => []) (fun _ => []) (fun _ => 0) (())); (focus (trivial)); exact rfl; exact rfl; (intro _; exact rfl); (intro _; exact rfl); (intro _; exact rfl); (focus (repeat (first | exact FrIn.nil _ | (apply FrIn.cons; exact rfl; (first | exact rfl | (congr 1; first | omega | (dsimp only; omega)) | (simp; done)))))); (focus (repeat (first | exact SubO.nil _ | (apply SubO.cons; (focus (repeat' (first | exact Pick.head _ _ | apply Pick.tail))))))); (focus (repeat (first | exact AllE.nil _ | (apply AllE.cons; (focus (first | exact ent_nilBy | exact ent_nilSl | (apply Ent.mem; repeat' (first | exact mcs | apply mct)))))))); intro x hx)
          repeat (first | refine n1 ?_ | refine n2 (fun b _ => ?_) | refine n3 (fun _ _ => ?_) | refine n4 ?_ | refine n5 ?_ | refine WL_nil ?_ | refine W_seq ?_ | refine W_region ?_ | refine n7 ?_ | refine n8 ?_ | refine W_block ?_ | refine W_skip ?_ | refine W_ret ?_ | refine W_exit ?_ | refine WQ_then ?_ | refine WQ_then_ret ?_ | refine WQ_then_exit ?_ | refine WQ_block_normal ?_ | refine WQ_block_ret ?_ | refine WQ_block_exit ?_ | refine n9 ?_)
          ((apply ret2 Try.results81 ( some left)); (focus (first | trivial | assumption | omega)); (focus (first | exact RV_tmp rfl | (apply RV_cellN; exact rfl; (repeat' (first | exact Pick.head _ _ | apply Pick.tail)); (intro _; exact rfl); (intro _; exact rfl); exact rfl) | (apply RV_cell1; exact rfl; (repeat' (first | exact Pick.head _ _ | apply Pick.tail)); (intro _; exact rfl); exact rfl))); (focus (first | exact RV_tmp rfl | (apply RV_cellN; exact rfl; (repeat' (first | exact Pick.head _ _ | apply Pick.tail)); (intro _; exact rfl); (intro _; exact rfl); exact rfl) | (apply RV_cell1; exact rfl; (repeat' (first | exact Pick.head _ _ | apply Pick.tail)); (intro _; exact rfl); exact rfl)));  (focus (first | exact rfl | (simp; done))); (focus (repeat (first | exact SubO.nil _ | (apply SubO.cons; (focus (repeat' (first | exact Pick.head _ _ | apply Pick.tail))))))); (focus (repeat (first | exact AllE.nil _ | (apply AllE.cons; (focus (first | exact ent_nilBy | exact ent_nilSl | (apply Ent.mem; repeat' (first | exact mcs | apply mct)))))))))
        · repeat (first | refine n1 ?_ | refine n2 (fun b _ => ?_) | refine n3 (fun _ _ => ?_) | refine n4 ?_ | refine n5 ?_ | refine WL_nil ?_ | refine W_seq ?_ | refine W_region ?_ | refine n7 ?_ | refine n8 ?_ | refine W_block ?_ | refine W_skip ?_ | refine W_ret ?_ | refine W_exit ?_ | refine WQ_then ?_ | refine WQ_then_ret ?_ | refine WQ_then_exit ?_ | refine WQ_block_normal ?_ | refine WQ_block_ret ?_ | refine WQ_block_exit ?_ | refine n9 ?_)
          ((apply W_loopK (X := Nat × Nat) [8, 1] [] (fun x => x.1 ≤ t.len ∧ x.2 + (cnt t.er + dat t.er) = left + (cnt (t.drop x.1).er + dat (t.drop x.1).er) ∧ (dep (t.drop x.1).er ≤ depth → dep t.er ≤ depth)) (fun x => [(8, .int .i64 (x.1 : Int)), (1, .int .i64 (x.2 : Int))]) (fun _ => []) (fun _ => []) (fun x => t.len - x.1) ((0, left))); (focus exact ⟨Nat.zero_le _, rfl, fun h => h⟩); exact rfl; exact rfl; (intro _; exact rfl); (intro _; exact rfl); (intro _; exact rfl); (focus (repeat (first | exact FrIn.nil _ | (apply FrIn.cons; exact rfl; (first | exact rfl | (congr 1; first | omega | (dsimp only; omega)) | (simp; done)))))); (focus (repeat (first | exact SubO.nil _ | (apply SubO.cons; (focus (repeat' (first | exact Pick.head _ _ | apply Pick.tail))))))); (focus (repeat (first | exact AllE.nil _ | (apply AllE.cons; (focus (first | exact ent_nilBy | exact ent_nilSl | (apply Ent.mem; repeat' (first | exact mcs | apply mct)))))))); intro x hx)
          obtain ⟨k, n⟩ := x
          obtain ⟨hk, hi, hd⟩ := hx
          replace hk : k ≤ t.len := hk
          replace hi : n + (cnt t.er + dat t.er) = left + (cnt (t.drop k).er + dat (t.drop k).er) := hi
          replace hd : dep (t.drop k).er ≤ depth → dep t.er ≤ depth := hd
          dsimp only
          by_cases c3 : k < t.len
          · obtain ⟨id, ext, dv, data, sv, subs, next, e1⟩ := T.get c3
            rw [e1] at hi hd
            simp only [T.er, cnt, dat, dep] at hi hd
            have a1 := T.at_cons e1
            have has := at_sub e1
            refine W_ent (ent_tree (t := t) (by repeat' (first | exact mcs | apply mct)) e1).1 (W_ent (ent_tree (t := t) (by repeat' (first | exact mcs | apply mct)) e1).2.1 (W_ent (ent_tree (t := t) (by repeat' (first | exact mcs | apply mct)) e1).2.2 ?_))
            refine W_pure (by_le (bs := data) (by repeat' (first | exact mcs | apply mct))) fun hdl => ?_
            by_cases c4 : n < data.length + 1
            · repeat (first | refine n1 ?_ | refine n2 (fun b _ => ?_) | refine n3 (fun _ _ => ?_) | refine n4 ?_ | refine n5 ?_ | refine WL_nil ?_ | refine W_seq ?_ | refine W_region ?_ | refine n7 ?_ | refine n8 ?_ | refine W_block ?_ | refine W_skip ?_ | refine W_ret ?_ | refine W_exit ?_ | refine WQ_then ?_ | refine WQ_then_ret ?_ | refine WQ_then_exit ?_ | refine WQ_block_normal ?_ | refine WQ_block_ret ?_ | refine WQ_block_exit ?_ | refine n9 ?_)
              ((apply ret2 Try.results81 ( none)); (focus (first | trivial | assumption | omega)); (focus (first | exact RV_tmp rfl | (apply RV_cellN; exact rfl; (repeat' (first | exact Pick.head _ _ | apply Pick.tail)); (intro _; exact rfl); (intro _; exact rfl); exact rfl) | (apply RV_cell1; exact rfl; (repeat' (first | exact Pick.head _ _ | apply Pick.tail)); (intro _; exact rfl); exact rfl))); (focus (first | exact RV_tmp rfl | (apply RV_cellN; exact rfl; (repeat' (first | exact Pick.head _ _ | apply Pick.tail)); (intro _; exact rfl); (intro _; exact rfl); exact rfl) | (apply RV_cell1; exact rfl; (repeat' (first | exact Pick.head _ _ | apply Pick.tail)); (intro _; exact rfl); exact rfl)));  (focus (first | exact rfl | (simp; done))); (focus (repeat (first | exact SubO.nil _ | (apply SubO.cons; (focus (repeat' (first | exact Pick.head _ _ | apply Pick.tail))))))); (focus (repeat (first | exact AllE.nil _ | (apply AllE.cons; (focus (first | exact ent_nilBy | exact ent_nilSl | (apply Ent.mem; repeat' (first | exact mcs | apply mct)))))))))
            · have e3 : (n : Int) - (data.length : Int) - 1 = ((n - data.length - 1 : Nat) : Int) := by omega
              have hs := IH subs sv (n - data.length - 1) (depth - 1) (by have := T.drop_size e1; omega) (by omega) (by omega)
              rw [show ((depth - 1 : Nat) : Int) = (depth : Int) - 1 by omega] at hs
              repeat (first | refine n1 ?_ | refine n2 (fun b _ => ?_) | refine n3 (fun _ _ => ?_) | refine n4 ?_ | refine n5 ?_ | refine WL_nil ?_ | refine W_seq ?_ | refine W_region ?_ | refine n7 ?_ | refine n8 ?_ | refine W_block ?_ | refine W_skip ?_ | refine W_ret ?_ | refine W_exit ?_ | refine WQ_then ?_ | refine WQ_then_ret ?_ | refine WQ_then_exit ?_ | refine WQ_block_normal ?_ | refine WQ_block_ret ?_ | refine WQ_block_exit ?_ | refine n9 ?_)
              rw [e3]
              repeat (first | refine n1 ?_ | refine n2 (fun b _ => ?_) | refine n3 (fun _ _ => ?_) | refine n4 ?_ | refine n5 ?_ | refine WL_nil ?_ | refine W_seq ?_ | refine W_region ?_ | refine n7 ?_ | refine n8 ?_ | refine W_block ?_ | refine W_skip ?_ | refine W_ret ?_ | refine W_exit ?_ | refine WQ_then ?_ | refine WQ_then_ret ?_ | refine WQ_then_exit ?_ | refine WQ_block_normal ?_ | refine WQ_block_ret ?_ | refine WQ_block_exit ?_ | refine n9 ?_)
              (apply WL_effs; exact rfl; exact rfl; exact rfl; apply E_call; exact rfl; (intro _ _; simp); exact hs; (repeat (first | exact AllE.nil _ | (apply AllE.cons; (focus (first | exact ent_nilBy | exact ent_nilSl | (apply Ent.mem; repeat' (first | exact mcs | apply mct))))))); (intro _; exact rfl); (intro _; exact rfl))
              intro q hq
              cases q with
              | none =>
                repeat (first | refine n1 ?_ | refine n2 (fun b _ => ?_) | refine n3 (fun _ _ => ?_) | refine n4 ?_ | refine n5 ?_ | refine WL_nil ?_ | refine W_seq ?_ | refine W_region ?_ | refine n7 ?_ | refine n8 ?_ | refine W_block ?_ | refine W_skip ?_ | refine W_ret ?_ | refine W_exit ?_ | refine WQ_then ?_ | refine WQ_then_ret ?_ | refine WQ_then_exit ?_ | refine WQ_block_normal ?_ | refine WQ_block_ret ?_ | refine WQ_block_exit ?_ | refine n9 ?_)
                ((apply ret2 Try.results81 ( none)); (focus (first | trivial | assumption | omega)); (focus (first | exact RV_tmp rfl | (apply RV_cellN; exact rfl; (repeat' (first | exact Pick.head _ _ | apply Pick.tail)); (intro _; exact rfl); (intro _; exact rfl); exact rfl) | (apply RV_cell1; exact rfl; (repeat' (first | exact Pick.head _ _ | apply Pick.tail)); (intro _; exact rfl); exact rfl))); (focus (first | exact RV_tmp rfl | (apply RV_cellN; exact rfl; (repeat' (first | exact Pick.head _ _ | apply Pick.tail)); (intro _; exact rfl); (intro _; exact rfl); exact rfl) | (apply RV_cell1; exact rfl; (repeat' (first | exact Pick.head _ _ | apply Pick.tail)); (intro _; exact rfl); exact rfl)));  (focus (first | exact rfl | (simp; done))); (focus (repeat (first | exact SubO.nil _ | (apply SubO.cons; (focus (repeat' (first | exact Pick.head _ _ | apply Pick.tail))))))); (focus (repeat (first | exact AllE.nil _ | (apply AllE.cons; (focus (first | exact ent_nilBy | exact ent_nilSl | (apply Ent.mem; repeat' (first | exact mcs | apply mct)))))))))
              | some m =>
                obtain ⟨q1, q2⟩ := hq m rfl
                repeat (first | refine n1 ?_ | refine n2 (fun b _ => ?_) | refine n3 (fun _ _ => ?_) | refine n4 ?_ | refine n5 ?_ | refine WL_nil ?_ | refine W_seq ?_ | refine W_region ?_ | refine n7 ?_ | refine n8 ?_ | refine W_block ?_ | refine W_skip ?_ | refine W_ret ?_ | refine W_exit ?_ | refine WQ_then ?_ | refine WQ_then_ret ?_ | refine WQ_then_exit ?_ | refine WQ_block_normal ?_ | refine WQ_block_ret ?_ | refine WQ_block_exit ?_ | refine n9 ?_)
                have hn : k + 1 ≤ t.len ∧ m + (cnt t.er + dat t.er) = left + (cnt (t.drop (k + 1)).er + dat (t.drop (k + 1)).er) ∧ (dep (t.drop (k + 1)).er ≤ depth → dep t.er ≤ depth) := by
                  rw [T.drop_next e1]
                  exact ⟨c3, by omega, fun h => hd (by omega)⟩
                ((apply WQ_again ((k + 1, m))); (focus exact hn); (focus (omega)); (focus (repeat (first | exact FrIn.nil _ | (apply FrIn.cons; exact rfl; (first | exact rfl | (congr 1; first | omega | (dsimp only; omega)) | (simp; done)))))); (focus (repeat (first | exact SubO.nil _ | (apply SubO.cons; (focus (repeat' (first | exact Pick.head _ _ | apply Pick.tail))))))); (focus (repeat (first | exact AllE.nil _ | (apply AllE.cons; (focus (first | exact ent_nilBy | exact ent_nilSl | (apply Ent.mem; repeat' (first | exact mcs | apply mct)))))))))
          · rw [drop_end (by omega)] at hi hd
            simp only [T.er, cnt, dat, dep] at hi hd
            have good : ∀ k, some n = some k → k + cnt t.er + dat t.er = left ∧ dep t.er ≤ depth := fun k h => by
              injection h with h
              subst h
              exact ⟨by omega, hd (Nat.zero_le _)⟩
            repeat (first | refine n1 ?_ | refine n2 (fun b _ => ?_) | refine n3 (fun _ _ => ?_) | refine n4 ?_ | refine n5 ?_ | refine WL_nil ?_ | refine W_seq ?_ | refine W_region ?_ | refine n7 ?_ | refine n8 ?_ | refine W_block ?_ | refine W_skip ?_ | refine W_ret ?_ | refine W_exit ?_ | refine WQ_then ?_ | refine WQ_then_ret ?_ | refine WQ_then_exit ?_ | refine WQ_block_normal ?_ | refine WQ_block_ret ?_ | refine WQ_block_exit ?_ | refine n9 ?_)
            ((apply ret2 Try.results81 ( some n)); (focus (first | trivial | assumption | omega)); (focus (first | exact RV_tmp rfl | (apply RV_cellN; exact rfl; (repeat' (first | exact Pick.head _ _ | apply Pick.tail)); (intro _; exact rfl); (intro _; exact rfl); exact rfl) | (apply RV_cell1; exact rfl; (repeat' (first | exact Pick.head _ _ | apply Pick.tail)); (intro _; exact rfl); exact rfl))); (focus (first | exact RV_tmp rfl | (apply RV_cellN; exact rfl; (repeat' (first | exact Pick.head _ _ | apply Pick.tail)); (intro _; exact rfl); (intro _; exact rfl); exact rfl) | (apply RV_cell1; exact rfl; (repeat' (first | exact Pick.head _ _ | apply Pick.tail)); (intro _; exact rfl); exact rfl)));  (focus (first | exact rfl | (simp; done))); (focus (repeat (first | exact SubO.nil _ | (apply SubO.cons; (focus (repeat' (first | exact Pick.head _ _ | apply Pick.tail))))))); (focus (repeat (first | exact AllE.nil _ | (apply AllE.cons; (focus (first | exact ent_nilBy | exact ent_nilSl | (apply Ent.mem; repeat' (first | exact mcs | apply mct)))))))))

set_option maxRecDepth 100000 in
set_option maxHeartbeats 4000000 in
theorem great_fn (t : T) (v : Value) : Ct Try.prog 49 [v] [] [Rw 4 v t.len t.at_, t.tf]
    (X := Bool) (fun x => x = false → Sm t.er ∧ dat t.er ≤ 20000) (fun x => .bool x) (fun _ => []) (fun _ => []) := by
  have bad : true = false → Sm t.er ∧ dat t.er ≤ 20000 := fun h => by cases h
  refine Ct_intro Try.func49 rfl Try.ntmps49 (by simp) _ rfl (fun w0 O0 => ?_)
  repeat (first | refine n1 ?_ | refine n2 (fun b _ => ?_) | refine n3 (fun _ _ => ?_) | refine n4 ?_ | refine n5 ?_ | refine WL_nil ?_ | refine W_seq ?_ | refine W_region ?_ | refine n7 ?_ | refine n8 ?_ | refine W_block ?_ | refine W_skip ?_ | refine W_ret ?_ | refine W_exit ?_ | refine WQ_then ?_ | refine WQ_then_ret ?_ | refine WQ_then_exit ?_ | refine WQ_block_normal ?_ | refine WQ_block_ret ?_ | refine WQ_block_exit ?_ | refine n9 ?_)
  (apply WL_effs; exact rfl; exact rfl; exact rfl; apply E_call; exact rfl; (intro _ _; simp); (exact weight_fn (t.size + 1) t v 20000 10 (Nat.lt_succ_self _) (by decide) (by decide)); (repeat (first | exact AllE.nil _ | (apply AllE.cons; (focus (first | exact ent_nilBy | exact ent_nilSl | (apply Ent.mem; repeat' (first | exact mcs | apply mct))))))); (intro _; exact rfl); (intro _; exact rfl))
  intro q hq
  cases q with
  | none =>
    repeat (first | refine n1 ?_ | refine n2 (fun b _ => ?_) | refine n3 (fun _ _ => ?_) | refine n4 ?_ | refine n5 ?_ | refine WL_nil ?_ | refine W_seq ?_ | refine W_region ?_ | refine n7 ?_ | refine n8 ?_ | refine W_block ?_ | refine W_skip ?_ | refine W_ret ?_ | refine W_exit ?_ | refine WQ_then ?_ | refine WQ_then_ret ?_ | refine WQ_then_exit ?_ | refine WQ_block_normal ?_ | refine WQ_block_ret ?_ | refine WQ_block_exit ?_ | refine n9 ?_)
    ((apply ret1 Try.results49 ( true)); (focus (first | trivial | assumption | omega)); (focus (first | exact RV_tmp rfl | (apply RV_cellN; exact rfl; (repeat' (first | exact Pick.head _ _ | apply Pick.tail)); (intro _; exact rfl); (intro _; exact rfl); exact rfl) | (apply RV_cell1; exact rfl; (repeat' (first | exact Pick.head _ _ | apply Pick.tail)); (intro _; exact rfl); exact rfl)));  (focus (first | exact rfl | (simp; done))); (focus (repeat (first | exact SubO.nil _ | (apply SubO.cons; (focus (repeat' (first | exact Pick.head _ _ | apply Pick.tail))))))); (focus (repeat (first | exact AllE.nil _ | (apply AllE.cons; (focus (first | exact ent_nilBy | exact ent_nilSl | (apply Ent.mem; repeat' (first | exact mcs | apply mct)))))))))
  | some m =>
    obtain ⟨q1, q2⟩ := hq m rfl
    have hc := count_fn (t.size + 1) t v (by omega) (by omega)
    by_cases c1 : 200 < cnt t.er
    · repeat (first | refine n1 ?_ | refine n2 (fun b _ => ?_) | refine n3 (fun _ _ => ?_) | refine n4 ?_ | refine n5 ?_ | refine n6 (hc) ?_ | refine n6v (hc) ?_ | refine WL_nil ?_ | refine W_seq ?_ | refine W_region ?_ | refine n7 ?_ | refine n8 ?_ | refine W_block ?_ | refine W_skip ?_ | refine W_ret ?_ | refine W_exit ?_ | refine WQ_then ?_ | refine WQ_then_ret ?_ | refine WQ_then_exit ?_ | refine WQ_block_normal ?_ | refine WQ_block_ret ?_ | refine WQ_block_exit ?_ | refine n9 ?_)
      ((apply ret1 Try.results49 ( true)); (focus (first | trivial | assumption | omega)); (focus (first | exact RV_tmp rfl | (apply RV_cellN; exact rfl; (repeat' (first | exact Pick.head _ _ | apply Pick.tail)); (intro _; exact rfl); (intro _; exact rfl); exact rfl) | (apply RV_cell1; exact rfl; (repeat' (first | exact Pick.head _ _ | apply Pick.tail)); (intro _; exact rfl); exact rfl)));  (focus (first | exact rfl | (simp; done))); (focus (repeat (first | exact SubO.nil _ | (apply SubO.cons; (focus (repeat' (first | exact Pick.head _ _ | apply Pick.tail))))))); (focus (repeat (first | exact AllE.nil _ | (apply AllE.cons; (focus (first | exact ent_nilBy | exact ent_nilSl | (apply Ent.mem; repeat' (first | exact mcs | apply mct)))))))))
    · have good : false = false → Sm t.er ∧ dat t.er ≤ 20000 := fun _ => ⟨⟨by omega, by omega, by omega⟩, by omega⟩
      repeat (first | refine n1 ?_ | refine n2 (fun b _ => ?_) | refine n3 (fun _ _ => ?_) | refine n4 ?_ | refine n5 ?_ | refine n6 (hc) ?_ | refine n6v (hc) ?_ | refine WL_nil ?_ | refine W_seq ?_ | refine W_region ?_ | refine n7 ?_ | refine n8 ?_ | refine W_block ?_ | refine W_skip ?_ | refine W_ret ?_ | refine W_exit ?_ | refine WQ_then ?_ | refine WQ_then_ret ?_ | refine WQ_then_exit ?_ | refine WQ_block_normal ?_ | refine WQ_block_ret ?_ | refine WQ_block_exit ?_ | refine n9 ?_)
      ((apply ret1 Try.results49 ( false)); (focus (first | trivial | assumption | omega)); (focus (first | exact RV_tmp rfl | (apply RV_cellN; exact rfl; (repeat' (first | exact Pick.head _ _ | apply Pick.tail)); (intro _; exact rfl); (intro _; exact rfl); exact rfl) | (apply RV_cell1; exact rfl; (repeat' (first | exact Pick.head _ _ | apply Pick.tail)); (intro _; exact rfl); exact rfl)));  (focus (first | exact rfl | (simp; done))); (focus (repeat (first | exact SubO.nil _ | (apply SubO.cons; (focus (repeat' (first | exact Pick.head _ _ | apply Pick.tail))))))); (focus (repeat (first | exact AllE.nil _ | (apply AllE.cons; (focus (first | exact ent_nilBy | exact ent_nilSl | (apply Ent.mem; repeat' (first | exact mcs | apply mct)))))))))
end Go.Proofs.Ytoohgnegoaoleaa.C04

/-
  The reference's Valid, Bytes, long, Check, Encode.
-/
namespace Go.Proofs.Ytoohgnegoaoleaa.C04
open Go Go.RowKit Go.Hs
attribute [local irreducible] WL W WQ PL Runs Effs AllE Ent SubO FrIn Pick OneC Ones CellsE PartsE SeqE UZ By Sl Pt Ct

theorem bod_len : ∀ (n : Nat) (c : List UInt8), c.length = n → (bod c.length c).length ≤ 2 * c.length + 1 := by
  intro n
  induction n using Nat.strongRecOn with
  | _ n ih =>
    intro c hn
    by_cases h1 : 255 ≤ c.length
    · rw [bod_big h1]
      have := ih (n - 255) (by omega) (c.drop 255) (by rw [List.length_drop]; omega)
      simp only [List.length_cons, List.length_append, List.length_take]
      rw [List.length_drop] at this ⊢
      omega
    · rw [bod_small (by omega)]
      simp only [List.length_cons]
      omega
theorem enc_len : ∀ (t : Fo), (enc t).length ≤ 2 ^ dep t * (dat t + 4 * cnt t)
  | .nil => by simp [enc]
  | .cons id ext data subs next => by
    have h1 := enc_len subs
    have h2 := enc_len next
    have h3 := bod_len _ (withX id ext (inn id data (enc subs))) rfl
    have h4 : (withX id ext (inn id data (enc subs))).length ≤ data.length + (enc subs).length + 1 := by
      have : (inn id data (enc subs)).length ≤ data.length + (enc subs).length := by
        unfold inn
        split <;> omega
      unfold withX
      split
      · simp only [List.length_cons]; omega
      · omega
    have p1 : 2 * 2 ^ dep subs ≤ 2 ^ dep (.cons id ext data subs next) := by
      rw [← Nat.pow_succ']
      exact Nat.pow_le_pow_right (by decide) (by simp only [dep]; omega)
    have p2 : 2 ^ dep next ≤ 2 ^ dep (.cons id ext data subs next) := Nat.pow_le_pow_right (by decide) (by simp only [dep]; omega)
    have p0 : 1 ≤ 2 ^ dep subs := Nat.one_le_two_pow
    generalize 2 ^ dep (.cons id ext data subs next) = A at *
    have q1 := Nat.mul_le_mul_right (dat subs + 4 * cnt subs) p1
    have q2 := Nat.mul_le_mul_right (dat next + 4 * cnt next) p2
    have q3 : 2 * (data.length + 4) ≤ A * (data.length + 4) := Nat.mul_le_mul_right _ (by omega)
    rw [Nat.mul_assoc] at q1
    have e : A * (dat (.cons id ext data subs next) + 4 * cnt (.cons id ext data subs next)) = A * (data.length + 4) + A * (dat subs + 4 * cnt subs) + A * (dat next + 4 * cnt next) := by
      rw [← Nat.mul_add, ← Nat.mul_add]
      congr 1
      simp only [dat, cnt]
      omega
    rw [e, enc, List.length_append, List.length_cons]
    omega
theorem Sm.enc_le {t : Fo} (h : Sm t) : (enc t).length ≤ 60000000 := by
  have h1 := enc_len t
  have h2 : 2 ^ dep t ≤ 2 ^ 10 := Nat.pow_le_pow_right (by decide) h.2.1
  have h3 := Nat.mul_le_mul_right (dat t + 4 * cnt t) h2
  have := h.1
  have := h.2.2
  omega
theorem u8is {id : UInt8} {n : Nat} (hn : n < 256) : id = UInt8.ofNat n ↔ id.toNat = n := by
  constructor
  · intro h
    rw [h, UInt8.toNat_ofNat']
    omega
  · intro h
    apply UInt8.toNat_inj.1
    rw [UInt8.toNat_ofNat', h]
    omega

set_option maxRecDepth 100000 in
set_option maxHeartbeats 8000000 in
theorem valid_fn : ∀ (N : Nat) (t : T) (v : Value), t.size < N → CtD Try.prog 108 [v] [Rw 4 v t.len t.at_, t.tf] (.bool (val t.er)) := by
  intro N
  induction N with
  | zero => intro t v h; omega
  | succ N IH =>
    intro t v hN
    refine Ct_intro Try.func108 rfl Try.ntmps108 (by simp) _ rfl (fun w0 O0 => ?_)
    refine W_pure (rw_le (n := t.len) (by repeat' (first | exact mcs | apply mct))) fun hle => ?_
    repeat (first | refine n1 ?_ | refine n2 (fun b _ => ?_) | refine n3 (fun _ _ => ?_) | refine n4 ?_ | refine n5 ?_ | refine WL_nil ?_ | refine W_seq ?_ | refine W_region ?_ | refine n7 ?_ | refine n8 ?_ | refine W_block ?_ | refine W_skip ?_ | refine W_ret ?_ | refine W_exit ?_ | refine WQ_then ?_ | refine WQ_then_ret ?_ | refine WQ_then_exit ?_ | refine WQ_block_normal ?_ | refine WQ_block_ret ?_ | refine WQ_block_exit ?_ | refine n9 ?_)
    ((apply W_loopK (X := Nat) [3] [] (fun x => x ≤ t.len ∧ val (t.drop x).er = val t.er) (fun x => [(3, .int .i64 (x : Int))]) (fun _ => []) (fun _ => []) (fun x => t.len - x) (0)); (focus exact ⟨Nat.zero_le _, rfl⟩); exact rfl; exact rfl; (intro _; exact rfl); (intro _; exact rfl); (intro _; exact rfl); (focus (repeat (first | exact FrIn.nil _ | (apply FrIn.cons; exact rfl; (first | exact rfl | (congr 1; first | omega | (dsimp only; omega)) | (simp; done)))))); (focus (repeat (first | exact SubO.nil _ | (apply SubO.cons; (focus (repeat' (first | exact Pick.head _ _ | apply Pick.tail))))))); (focus (repeat (first | exact AllE.nil _ | (apply AllE.cons; (focus (first | exact ent_nilBy | exact ent_nilSl | (apply Ent.mem; repeat' (first | exact mcs | apply mct)))))))); intro x hx)
    obtain ⟨hk, hi⟩ := hx
    by_cases c0 : x < t.len
    · obtain ⟨id, ext, dv, data, sv, subs, next, e1⟩ := T.get c0
      rw [e1] at hi
      simp only [T.er, val] at hi
      have a1 := T.at_cons e1
      have hs := IH subs sv (by have := T.drop_size e1; omega)
      have hcf := rcont_fn id
      refine W_ent (ent_tree (t := t) (by repeat' (first | exact mcs | apply mct)) e1).1 (W_ent (ent_tree (t := t) (by repeat' (first | exact mcs | apply mct)) e1).2.1 (W_ent (ent_tree (t := t) (by repeat' (first | exact mcs | apply mct)) e1).2.2 ?_))
      have go : own id ext data subs.er = true → val subs.er = true → x + 1 ≤ t.len ∧ val (t.drop (x + 1)).er = val t.er := fun h1 h2 => by
        rw [h1, h2] at hi
        exact ⟨c0, by rw [T.drop_next e1]; simpa using hi⟩
      have bad : own id ext data subs.er = false ∨ val subs.er = false → val t.er = false := fun h => by
        rcases h with h | h
        · rw [h] at hi; simpa using hi.symm
        · rw [h] at hi; simpa using hi.symm
      have hlen := flen_er subs
      by_cases c1 : id.toNat = 254
      · rw [bad (.inl (by rw [own, decide_eq_true (show id = 254 from (u8is (n := 254) (by decide)).2 c1)]; rfl))]
        repeat (first | refine n1 ?_ | refine n2 (fun b _ => ?_) | refine n3 (fun _ _ => ?_) | refine n4 ?_ | refine n5 ?_ | refine WL_nil ?_ | refine W_seq ?_ | refine W_region ?_ | refine n7 ?_ | refine n8 ?_ | refine W_block ?_ | refine W_skip ?_ | refine W_ret ?_ | refine W_exit ?_ | refine WQ_then ?_ | refine WQ_then_ret ?_ | refine WQ_then_exit ?_ | refine WQ_block_normal ?_ | refine WQ_block_ret ?_ | refine WQ_block_exit ?_ | refine n9 ?_)
        ((apply ret1 Try.results108 ( ())); (focus (first | trivial | assumption | omega)); (focus (first | exact RV_tmp rfl | (apply RV_cellN; exact rfl; (repeat' (first | exact Pick.head _ _ | apply Pick.tail)); (intro _; exact rfl); (intro _; exact rfl); exact rfl) | (apply RV_cell1; exact rfl; (repeat' (first | exact Pick.head _ _ | apply Pick.tail)); (intro _; exact rfl); exact rfl)));  (focus (first | exact rfl | (simp; done))); (focus (repeat (first | exact SubO.nil _ | (apply SubO.cons; (focus (repeat' (first | exact Pick.head _ _ | apply Pick.tail))))))); (focus (repeat (first | exact AllE.nil _ | (apply AllE.cons; (focus (first | exact ent_nilBy | exact ent_nilSl | (apply Ent.mem; repeat' (first | exact mcs | apply mct)))))))))
      · have c1' : ¬ id = 254 := fun h => c1 ((u8is (n := 254) (by decide)).1 h)
        by_cases c2 : id.toNat = 255
        · obtain rfl : id = 255 := (u8is (n := 255) (by decide)).2 c2
          rw [cont255] at hcf
          by_cases c3 : 0 < subs.len
          · rw [bad (.inl (by cases subs <;> simp_all [T.len, own, cont255, isN, T.er]))]
            repeat (first | refine n1 ?_ | refine n2 (fun b _ => ?_) | refine n3 (fun _ _ => ?_) | refine n4 ?_ | refine n5 ?_ | refine n6 (hcf) ?_ | refine n6v (hcf) ?_ | refine WL_nil ?_ | refine W_seq ?_ | refine W_region ?_ | refine n7 ?_ | refine n8 ?_ | refine W_block ?_ | refine W_skip ?_ | refine W_ret ?_ | refine W_exit ?_ | refine WQ_then ?_ | refine WQ_then_ret ?_ | refine WQ_then_exit ?_ | refine WQ_block_normal ?_ | refine WQ_block_ret ?_ | refine WQ_block_exit ?_ | refine n9 ?_)
            ((apply ret1 Try.results108 ( ())); (focus (first | trivial | assumption | omega)); (focus (first | exact RV_tmp rfl | (apply RV_cellN; exact rfl; (repeat' (first | exact Pick.head _ _ | apply Pick.tail)); (intro _; exact rfl); (intro _; exact rfl); exact rfl) | (apply RV_cell1; exact rfl; (repeat' (first | exact Pick.head _ _ | apply Pick.tail)); (intro _; exact rfl); exact rfl)));  (focus (first | exact rfl | (simp; done))); (focus (repeat (first | exact SubO.nil _ | (apply SubO.cons; (focus (repeat' (first | exact Pick.head _ _ | apply Pick.tail))))))); (focus (repeat (first | exact AllE.nil _ | (apply AllE.cons; (focus (first | exact ent_nilBy | exact ent_nilSl | (apply Ent.mem; repeat' (first | exact mcs | apply mct)))))))))
          · have c4 : subs = .nil := by cases subs <;> simp_all [T.len]
            subst c4
            have hs' : CtD Try.prog 108 [sv] [Rw 4 sv T.nil.len T.nil.at_, T.nil.tf] (.bool true) := hs
            have hn := go rfl rfl
            repeat (first | refine n1 ?_ | refine n2 (fun b _ => ?_) | refine n3 (fun _ _ => ?_) | refine n4 ?_ | refine n5 ?_ | refine n6 (hcf) ?_ | refine n6 (hs') ?_ | refine n6v (hcf) ?_ | refine n6v (hs') ?_ | refine WL_nil ?_ | refine W_seq ?_ | refine W_region ?_ | refine n7 ?_ | refine n8 ?_ | refine W_block ?_ | refine W_skip ?_ | refine W_ret ?_ | refine W_exit ?_ | refine WQ_then ?_ | refine WQ_then_ret ?_ | refine WQ_then_exit ?_ | refine WQ_block_normal ?_ | refine WQ_block_ret ?_ | refine WQ_block_exit ?_ | refine n9 ?_)
            ((apply WQ_again (x + 1)); (focus exact hn); (focus (omega)); (focus (repeat (first | exact FrIn.nil _ | (apply FrIn.cons; exact rfl; (first | exact rfl | (congr 1; first | omega | (dsimp only; omega)) | (simp; done)))))); (focus (repeat (first | exact SubO.nil _ | (apply SubO.cons; (focus (repeat' (first | exact Pick.head _ _ | apply Pick.tail))))))); (focus (repeat (first | exact AllE.nil _ | (apply AllE.cons; (focus (first | exact ent_nilBy | exact ent_nilSl | (apply Ent.mem; repeat' (first | exact mcs | apply mct)))))))))
        · have c2' : ¬ id = 255 := fun h => c2 ((u8is (n := 255) (by decide)).1 h)
          by_cases c3 : ext.toNat = 0
          · obtain rfl : ext = 0 := (u8is (n := 0) (by decide)).2 c3
            cases c4 : contB id with
            | true =>
              rw [c4] at hcf
              by_cases c5 : 0 < data.length
              · rw [bad (.inl (by cases data <;> simp_all [own]))]
                repeat (first | refine n1 ?_ | refine n2 (fun b _ => ?_) | refine n3 (fun _ _ => ?_) | refine n4 ?_ | refine n5 ?_ | refine n6 (hcf) ?_ | refine n6v (hcf) ?_ | refine WL_nil ?_ | refine W_seq ?_ | refine W_region ?_ | refine n7 ?_ | refine n8 ?_ | refine W_block ?_ | refine W_skip ?_ | refine W_ret ?_ | refine W_exit ?_ | refine WQ_then ?_ | refine WQ_then_ret ?_ | refine WQ_then_exit ?_ | refine WQ_block_normal ?_ | refine WQ_block_ret ?_ | refine WQ_block_exit ?_ | refine n9 ?_)
                ((apply ret1 Try.results108 ( ())); (focus (first | trivial | assumption | omega)); (focus (first | exact RV_tmp rfl | (apply RV_cellN; exact rfl; (repeat' (first | exact Pick.head _ _ | apply Pick.tail)); (intro _; exact rfl); (intro _; exact rfl); exact rfl) | (apply RV_cell1; exact rfl; (repeat' (first | exact Pick.head _ _ | apply Pick.tail)); (intro _; exact rfl); exact rfl)));  (focus (first | exact rfl | (simp; done))); (focus (repeat (first | exact SubO.nil _ | (apply SubO.cons; (focus (repeat' (first | exact Pick.head _ _ | apply Pick.tail))))))); (focus (repeat (first | exact AllE.nil _ | (apply AllE.cons; (focus (first | exact ent_nilBy | exact ent_nilSl | (apply Ent.mem; repeat' (first | exact mcs | apply mct)))))))))
              · have c6 : data = [] := List.eq_nil_of_length_eq_zero (by omega)
                subst c6
                cases c7 : val subs.er with
                | true =>
                  rw [c7] at hs
                  have hn := go (by simp [own, c1', c4]) c7
                  repeat (first | refine n1 ?_ | refine n2 (fun b _ => ?_) | refine n3 (fun _ _ => ?_) | refine n4 ?_ | refine n5 ?_ | refine n6 (hcf) ?_ | refine n6 (hs) ?_ | refine n6v (hcf) ?_ | refine n6v (hs) ?_ | refine WL_nil ?_ | refine W_seq ?_ | refine W_region ?_ | refine n7 ?_ | refine n8 ?_ | refine W_block ?_ | refine W_skip ?_ | refine W_ret ?_ | refine W_exit ?_ | refine WQ_then ?_ | refine WQ_then_ret ?_ | refine WQ_then_exit ?_ | refine WQ_block_normal ?_ | refine WQ_block_ret ?_ | refine WQ_block_exit ?_ | refine n9 ?_)
                  ((apply WQ_again (x + 1)); (focus exact hn); (focus (omega)); (focus (repeat (first | exact FrIn.nil _ | (apply FrIn.cons; exact rfl; (first | exact rfl | (congr 1; first | omega | (dsimp only; omega)) | (simp; done)))))); (focus (repeat (first | exact SubO.nil _ | (apply SubO.cons; (focus (repeat' (first | exact Pick.head _ _ | apply Pick.tail))))))); (focus (repeat (first | exact AllE.nil _ | (apply AllE.cons; (focus (first | exact ent_nilBy | exact ent_nilSl | (apply Ent.mem; repeat' (first | exact mcs | apply mct)))))))))
                | false =>
                  rw [c7] at hs
                  rw [bad (.inr c7)]
                  repeat (first | refine n1 ?_ | refine n2 (fun b _ => ?_) | refine n3 (fun _ _ => ?_) | refine n4 ?_ | refine n5 ?_ | refine n6 (hcf) ?_ | refine n6 (hs) ?_ | refine n6v (hcf) ?_ | refine n6v (hs) ?_ | refine WL_nil ?_ | refine W_seq ?_ | refine W_region ?_ | refine n7 ?_ | refine n8 ?_ | refine W_block ?_ | refine W_skip ?_ | refine W_ret ?_ | refine W_exit ?_ | refine WQ_then ?_ | refine WQ_then_ret ?_ | refine WQ_then_exit ?_ | refine WQ_block_normal ?_ | refine WQ_block_ret ?_ | refine WQ_block_exit ?_ | refine n9 ?_)
                  ((apply ret1 Try.results108 ( ())); (focus (first | trivial | assumption | omega)); (focus (first | exact RV_tmp rfl | (apply RV_cellN; exact rfl; (repeat' (first | exact Pick.head _ _ | apply Pick.tail)); (intro _; exact rfl); (intro _; exact rfl); exact rfl) | (apply RV_cell1; exact rfl; (repeat' (first | exact Pick.head _ _ | apply Pick.tail)); (intro _; exact rfl); exact rfl)));  (focus (first | exact rfl | (simp; done))); (focus (repeat (first | exact SubO.nil _ | (apply SubO.cons; (focus (repeat' (first | exact Pick.head _ _ | apply Pick.tail))))))); (focus (repeat (first | exact AllE.nil _ | (apply AllE.cons; (focus (first | exact ent_nilBy | exact ent_nilSl | (apply Ent.mem; repeat' (first | exact mcs | apply mct)))))))))
            | false =>
              rw [c4] at hcf
              by_cases c5 : 0 < subs.len
              · rw [bad (.inl (by cases subs <;> simp_all [T.len, own, isN, T.er]))]
                repeat (first | refine n1 ?_ | refine n2 (fun b _ => ?_) | refine n3 (fun _ _ => ?_) | refine n4 ?_ | refine n5 ?_ | refine n6 (hcf) ?_ | refine n6v (hcf) ?_ | refine WL_nil ?_ | refine W_seq ?_ | refine W_region ?_ | refine n7 ?_ | refine n8 ?_ | refine W_block ?_ | refine W_skip ?_ | refine W_ret ?_ | refine W_exit ?_ | refine WQ_then ?_ | refine WQ_then_ret ?_ | refine WQ_then_exit ?_ | refine WQ_block_normal ?_ | refine WQ_block_ret ?_ | refine WQ_block_exit ?_ | refine n9 ?_)
                ((apply ret1 Try.results108 ( ())); (focus (first | trivial | assumption | omega)); (focus (first | exact RV_tmp rfl | (apply RV_cellN; exact rfl; (repeat' (first | exact Pick.head _ _ | apply Pick.tail)); (intro _; exact rfl); (intro _; exact rfl); exact rfl) | (apply RV_cell1; exact rfl; (repeat' (first | exact Pick.head _ _ | apply Pick.tail)); (intro _; exact rfl); exact rfl)));  (focus (first | exact rfl | (simp; done))); (focus (repeat (first | exact SubO.nil _ | (apply SubO.cons; (focus (repeat' (first | exact Pick.head _ _ | apply Pick.tail))))))); (focus (repeat (first | exact AllE.nil _ | (apply AllE.cons; (focus (first | exact ent_nilBy | exact ent_nilSl | (apply Ent.mem; repeat' (first | exact mcs | apply mct)))))))))
              · have c6 : subs = .nil := by cases subs <;> simp_all [T.len]
                subst c6
                have hs' : CtD Try.prog 108 [sv] [Rw 4 sv T.nil.len T.nil.at_, T.nil.tf] (.bool true) := hs
                have hn := go (by simp [own, c1', c4, T.er, isN]) rfl
                repeat (first | refine n1 ?_ | refine n2 (fun b _ => ?_) | refine n3 (fun _ _ => ?_) | refine n4 ?_ | refine n5 ?_ | refine n6 (hcf) ?_ | refine n6 (hs') ?_ | refine n6v (hcf) ?_ | refine n6v (hs') ?_ | refine WL_nil ?_ | refine W_seq ?_ | refine W_region ?_ | refine n7 ?_ | refine n8 ?_ | refine W_block ?_ | refine W_skip ?_ | refine W_ret ?_ | refine W_exit ?_ | refine WQ_then ?_ | refine WQ_then_ret ?_ | refine WQ_then_exit ?_ | refine WQ_block_normal ?_ | refine WQ_block_ret ?_ | refine WQ_block_exit ?_ | refine n9 ?_)
                ((apply WQ_again (x + 1)); (focus exact hn); (focus (omega)); (focus (repeat (first | exact FrIn.nil _ | (apply FrIn.cons; exact rfl; (first | exact rfl | (congr 1; first | omega | (dsimp only; omega)) | (simp; done)))))); (focus (repeat (first | exact SubO.nil _ | (apply SubO.cons; (focus (repeat' (first | exact Pick.head _ _ | apply Pick.tail))))))); (focus (repeat (first | exact AllE.nil _ | (apply AllE.cons; (focus (first | exact ent_nilBy | exact ent_nilSl | (apply Ent.mem; repeat' (first | exact mcs | apply mct)))))))))
          · have c3' : ¬ ext = 0 := fun h => c3 ((u8is (n := 0) (by decide)).1 h)
            rw [bad (.inl (by simp [own, c1', c2', c3']))]
            repeat (first | refine n1 ?_ | refine n2 (fun b _ => ?_) | refine n3 (fun _ _ => ?_) | refine n4 ?_ | refine n5 ?_ | refine WL_nil ?_ | refine W_seq ?_ | refine W_region ?_ | refine n7 ?_ | refine n8 ?_ | refine W_block ?_ | refine W_skip ?_ | refine W_ret ?_ | refine W_exit ?_ | refine WQ_then ?_ | refine WQ_then_ret ?_ | refine WQ_then_exit ?_ | refine WQ_block_normal ?_ | refine WQ_block_ret ?_ | refine WQ_block_exit ?_ | refine n9 ?_)
            ((apply ret1 Try.results108 ( ())); (focus (first | trivial | assumption | omega)); (focus (first | exact RV_tmp rfl | (apply RV_cellN; exact rfl; (repeat' (first | exact Pick.head _ _ | apply Pick.tail)); (intro _; exact rfl); (intro _; exact rfl); exact rfl) | (apply RV_cell1; exact rfl; (repeat' (first | exact Pick.head _ _ | apply Pick.tail)); (intro _; exact rfl); exact rfl)));  (focus (first | exact rfl | (simp; done))); (focus (repeat (first | exact SubO.nil _ | (apply SubO.cons; (focus (repeat' (first | exact Pick.head _ _ | apply Pick.tail))))))); (focus (repeat (first | exact AllE.nil _ | (apply AllE.cons; (focus (first | exact ent_nilBy | exact ent_nilSl | (apply Ent.mem; repeat' (first | exact mcs | apply mct)))))))))
    · rw [drop_end (by omega)] at hi
      replace hi : true = val t.er := hi
      rw [← hi]
      repeat (first | refine n1 ?_ | refine n2 (fun b _ => ?_) | refine n3 (fun _ _ => ?_) | refine n4 ?_ | refine n5 ?_ | refine WL_nil ?_ | refine W_seq ?_ | refine W_region ?_ | refine n7 ?_ | refine n8 ?_ | refine W_block ?_ | refine W_skip ?_ | refine W_ret ?_ | refine W_exit ?_ | refine WQ_then ?_ | refine WQ_then_ret ?_ | refine WQ_then_exit ?_ | refine WQ_block_normal ?_ | refine WQ_block_ret ?_ | refine WQ_block_exit ?_ | refine n9 ?_)
      ((apply ret1 Try.results108 ( ())); (focus (first | trivial | assumption | omega)); (focus (first | exact RV_tmp rfl | (apply RV_cellN; exact rfl; (repeat' (first | exact Pick.head _ _ | apply Pick.tail)); (intro _; exact rfl); (intro _; exact rfl); exact rfl) | (apply RV_cell1; exact rfl; (repeat' (first | exact Pick.head _ _ | apply Pick.tail)); (intro _; exact rfl); exact rfl)));  (focus (first | exact rfl | (simp; done))); (focus (repeat (first | exact SubO.nil _ | (apply SubO.cons; (focus (repeat' (first | exact Pick.head _ _ | apply Pick.tail))))))); (focus (repeat (first | exact AllE.nil _ | (apply AllE.cons; (focus (first | exact ent_nilBy | exact ent_nilSl | (apply Ent.mem; repeat' (first | exact mcs | apply mct)))))))))
end Go.Proofs.Ytoohgnegoaoleaa.C04

/-
  The reference's Bytes, long, Check, Encode.
-/
namespace Go.Proofs.Ytoohgnegoaoleaa.C04
open Go Go.RowKit Go.Hs
attribute [local irreducible] WL W WQ PL Runs Effs AllE Ent SubO FrIn Pick OneC Ones CellsE PartsE SeqE UZ By Sl Pt Ct

def BytesCt (N : Nat) : Prop := ∀ (t : T) (v : Value), t.size < N → Sm t.er → Ct Try.prog 96 [v] [] [Rw 4 v t.len t.at_, t.tf]
    (X := Value) (fun _ => True) (fun x => x) (fun x => [.row x 5 1 (enc t.er).length ((enc t.er).map bcell)]) (fun _ => [])
def LF (t : T) (v : Value) : List SP := [Rw 4 v t.len t.at_, t.tf]

set_option maxRecDepth 100000 in
set_option maxHeartbeats 8000000 in
theorem inner_fn (N : Nat) (IH : BytesCt N) (id ext : UInt8) (dv : Value) (data : List UInt8) (sv : Value) (subs : T) (hN : subs.size < N) (hs : Sm subs.er) : Ct Try.prog 110 [.agg #[bcell id, bcell ext, dv, sv]] [] [By dv data, Rw 4 sv subs.len subs.at_, subs.tf]
    (X := Value) (fun _ => True) (fun x => x) (fun _ => []) (fun x => [By x (inn id data (enc subs.er))]) := by
  have hcf := rcont_fn id
  cases h : contB id with
  | true =>
    rw [h] at hcf
    rw [show inn id data (enc subs.er) = enc subs.er by rw [inn, h]; rfl]
    refine Ct_intro Try.func110 rfl Try.ntmps110 (by simp) _ rfl (fun w0 O0 => ?_)
    repeat (first | refine n1 ?_ | refine n2 (fun b _ => ?_) | refine n3 (fun _ _ => ?_) | refine n4 ?_ | refine n5 ?_ | refine n6 (hcf) ?_ | refine n6v (hcf) ?_ | refine WL_nil ?_ | refine W_seq ?_ | refine W_region ?_ | refine n7 ?_ | refine n8 ?_ | refine W_block ?_ | refine W_skip ?_ | refine W_ret ?_ | refine W_exit ?_ | refine WQ_then ?_ | refine WQ_then_ret ?_ | refine WQ_then_exit ?_ | refine WQ_block_normal ?_ | refine WQ_block_ret ?_ | refine WQ_block_exit ?_ | refine n9 ?_)
    (apply WL_effs; exact rfl; exact rfl; exact rfl; apply E_call; exact rfl; (intro _ _; simp); exact IH subs sv hN hs; (repeat (first | exact AllE.nil _ | (apply AllE.cons; (focus (first | exact ent_nilBy | exact ent_nilSl | (apply Ent.mem; repeat' (first | exact mcs | apply mct))))))); (intro _; exact rfl); (intro _; exact rfl))
    intro x _
    repeat (first | refine n1 ?_ | refine n2 (fun b _ => ?_) | refine n3 (fun _ _ => ?_) | refine n4 ?_ | refine n5 ?_ | refine WL_nil ?_ | refine W_seq ?_ | refine W_region ?_ | refine n7 ?_ | refine n8 ?_ | refine W_block ?_ | refine W_skip ?_ | refine W_ret ?_ | refine W_exit ?_ | refine WQ_then ?_ | refine WQ_then_ret ?_ | refine WQ_then_exit ?_ | refine WQ_block_normal ?_ | refine WQ_block_ret ?_ | refine WQ_block_exit ?_ | refine n9 ?_)
    refine WQ_letgoB (v := x) (by repeat' (first | exact Pick.head _ _ | apply Pick.tail)) rfl ?_
    ((apply ret1 Try.results110 ( x)); (focus (first | trivial | assumption | omega)); (focus (first | exact RV_tmp rfl | (apply RV_cellN; exact rfl; (repeat' (first | exact Pick.head _ _ | apply Pick.tail)); (intro _; exact rfl); (intro _; exact rfl); exact rfl) | (apply RV_cell1; exact rfl; (repeat' (first | exact Pick.head _ _ | apply Pick.tail)); (intro _; exact rfl); exact rfl)));  (focus (first | exact rfl | (simp; done))); (focus (repeat (first | exact SubO.nil _ | (apply SubO.cons; (focus (repeat' (first | exact Pick.head _ _ | apply Pick.tail))))))); (focus (repeat (first | exact AllE.nil _ | (apply AllE.cons; (focus (first | exact ent_nilBy | exact ent_nilSl | (apply Ent.mem; repeat' (first | exact mcs | apply mct)))))))))
  | false =>
    rw [h] at hcf
    rw [show inn id data (enc subs.er) = data by rw [inn, h]; rfl]
    refine Ct_intro Try.func110 rfl Try.ntmps110 (by simp) _ rfl (fun w0 O0 => ?_)
    repeat (first | refine n1 ?_ | refine n2 (fun b _ => ?_) | refine n3 (fun _ _ => ?_) | refine n4 ?_ | refine n5 ?_ | refine n6 (hcf) ?_ | refine n6v (hcf) ?_ | refine WL_nil ?_ | refine W_seq ?_ | refine W_region ?_ | refine n7 ?_ | refine n8 ?_ | refine W_block ?_ | refine W_skip ?_ | refine W_ret ?_ | refine W_exit ?_ | refine WQ_then ?_ | refine WQ_then_ret ?_ | refine WQ_then_exit ?_ | refine WQ_block_normal ?_ | refine WQ_block_ret ?_ | refine WQ_block_exit ?_ | refine n9 ?_)
    ((apply ret1 Try.results110 ( dv)); (focus (first | trivial | assumption | omega)); (focus (first | exact RV_tmp rfl | (apply RV_cellN; exact rfl; (repeat' (first | exact Pick.head _ _ | apply Pick.tail)); (intro _; exact rfl); (intro _; exact rfl); exact rfl) | (apply RV_cell1; exact rfl; (repeat' (first | exact Pick.head _ _ | apply Pick.tail)); (intro _; exact rfl); exact rfl)));  (focus (first | exact rfl | (simp; done))); (focus (repeat (first | exact SubO.nil _ | (apply SubO.cons; (focus (repeat' (first | exact Pick.head _ _ | apply Pick.tail))))))); (focus (repeat (first | exact AllE.nil _ | (apply AllE.cons; (focus (first | exact ent_nilBy | exact ent_nilSl | (apply Ent.mem; repeat' (first | exact mcs | apply mct)))))))))

theorem inn_le {t : T} {k : Nat} {id ext : UInt8} {dv : Value} {data : List UInt8} {sv : Value} {subs next : T} (h : Sm t.er) (e : t.drop k = .cons id ext dv data sv subs next) : (inn id data (enc subs.er)).length ≤ 60000000 := by
  have h1 := (h.sub e).enc_le
  have h2 := (at_sub e).2.2.2
  have h3 := h.2.2
  unfold inn
  split <;> omega
theorem enc_drop {t : T} {k : Nat} {id ext : UInt8} {dv : Value} {data : List UInt8} {sv : Value} {subs next : T} (e : t.drop k = .cons id ext dv data sv subs next) :
    enc (t.drop k).er = (id :: bod (withX id ext (inn id data (enc subs.er))).length (withX id ext (inn id data (enc subs.er)))) ++ enc (t.drop (k + 1)).er := by
  rw [T.drop_next e, e]
  rfl

set_option maxRecDepth 100000 in
set_option maxHeartbeats 8000000 in
theorem bytes_fn (N : Nat) : BytesCt N := by
  induction N with
  | zero => intro t v h; omega
  | succ N IH =>
    intro t v hN hsm
    have hE := hsm.enc_le
    refine Ct_intro Try.func96 rfl Try.ntmps96 (by simp) _ rfl (fun w0 O0 => ?_)
    refine W_pure (rw_le (n := t.len) (by repeat' (first | exact mcs | apply mct))) fun hle => ?_
    repeat (first | refine n1 ?_ | refine n2 (fun b _ => ?_) | refine n3 (fun _ _ => ?_) | refine n4 ?_ | refine n5 ?_ | refine WL_nil ?_ | refine W_seq ?_ | refine W_region ?_ | refine n7 ?_ | refine n8 ?_ | refine W_block ?_ | refine W_skip ?_ | refine W_ret ?_ | refine W_exit ?_ | refine WQ_then ?_ | refine WQ_then_ret ?_ | refine WQ_then_exit ?_ | refine WQ_block_normal ?_ | refine WQ_block_ret ?_ | refine WQ_block_exit ?_ | refine n9 ?_)
    apply W_nilRow 5 1
    ((apply W_loopK (X := Nat × List UInt8 × Value) [3, 4] [0] (fun x => x.1 ≤ t.len ∧ x.2.1 ++ enc (t.drop x.1).er = enc t.er) (fun x => [(3, x.2.2), (4, .int .i64 (x.1 : Int))]) (fun x => [.row x.2.2 5 1 x.2.1.length (x.2.1.map bcell)]) (fun _ => []) (fun x => t.len - x.1) ((0, [], .slice none 0 0))); (focus exact ⟨Nat.zero_le _, rfl⟩); exact rfl; exact rfl; (intro _; exact rfl); (intro _; exact rfl); (intro _; exact rfl); (focus (repeat (first | exact FrIn.nil _ | (apply FrIn.cons; exact rfl; (first | exact rfl | (congr 1; first | omega | (dsimp only; omega)) | (simp; done)))))); (focus (repeat (first | exact SubO.nil _ | (apply SubO.cons; (focus (repeat' (first | exact Pick.head _ _ | apply Pick.tail))))))); (focus (repeat (first | exact AllE.nil _ | (apply AllE.cons; (focus (first | exact ent_nilBy | exact ent_nilSl | (apply Ent.mem; repeat' (first | exact mcs | apply mct)))))))); intro x hx)
    obtain ⟨k, out, o⟩ := x
    obtain ⟨hk, hi⟩ := hx
    replace hk : k ≤ t.len := hk
    replace hi : out ++ enc (t.drop k).er = enc t.er := hi
    dsimp only
    by_cases c0 : k < t.len
    · obtain ⟨id, ext, dv, data, sv, subs, next, e1⟩ := T.get c0
      rw [enc_drop e1, ← List.append_assoc] at hi
      have a1 := T.at_cons e1
      have hin := inn_le hsm e1
      have hout : out.length ≤ 60000000 := by
        have := congrArg List.length hi
        simp only [List.length_append] at this
        omega
      refine W_ent (ent_tree (t := t) (by repeat' (first | exact mcs | apply mct)) e1).1 (W_ent (ent_tree (t := t) (by repeat' (first | exact mcs | apply mct)) e1).2.1 (W_ent (ent_tree (t := t) (by repeat' (first | exact mcs | apply mct)) e1).2.2 ?_))
      repeat (first | refine n1 ?_ | refine n2 (fun b _ => ?_) | refine n3 (fun _ _ => ?_) | refine n4 ?_ | refine n5 ?_ | refine WL_nil ?_ | refine W_seq ?_ | refine W_region ?_ | refine n7 ?_ | refine n8 ?_ | refine W_block ?_ | refine W_skip ?_ | refine W_ret ?_ | refine W_exit ?_ | refine WQ_then ?_ | refine WQ_then_ret ?_ | refine WQ_then_exit ?_ | refine WQ_block_normal ?_ | refine WQ_block_ret ?_ | refine WQ_block_exit ?_ | refine n9 ?_)
      (apply WL_effs; exact rfl; exact rfl; exact rfl; (apply E_buildSlice; exact rfl; (focus (repeat (first | apply SeqE.nil | (apply SeqE.cons; exact rfl; (focus (first | (apply CellsE.lit; exact rfl) | (apply CellsE.one; (first | (apply OneC.lit; exact rfl) | (apply OneC.by_; (repeat' (first | exact mcs | apply mct)); done) | (apply OneC.sl; (repeat' (first | exact mcs | apply mct)); done) | (apply OneC.rw; (repeat' (first | exact mcs | apply mct)); done) | (apply OneC.row; (repeat' (first | exact Pick.head _ _ | apply Pick.tail))))))); exact rfl) | exact rfl))); exact rfl; (first | (intro _; exact (rfl : _ = Result.ok 1 _)) | (intro _; exact (rfl : _ = Result.ok 2 _)) | (intro _; exact (rfl : _ = Result.ok 3 _)) | (intro _; exact (rfl : _ = Result.ok 4 _)) | (intro _; exact (rfl : _ = Result.ok 5 _)) | (intro _; exact (rfl : _ = Result.ok 6 _)) | (intro _; exact (rfl : _ = Result.ok 7 _)) | (intro _; exact (rfl : _ = Result.ok 8 _)) | (intro _; exact (rfl : _ = Result.ok 9 _)) | (intro _; exact (rfl : _ = Result.ok 13 _)) | (intro _; exact (rfl : _ = Result.ok 14 _)) | (intro _; exact (rfl : _ = Result.ok 26 _)) | (intro _; exact (rfl : _ = Result.ok 40 _)) | (intro _; exact (rfl : _ = Result.ok 41 _)) | (intro _; exact (rfl : _ = Result.ok 42 _)) | (intro _; exact (rfl : _ = Result.ok 43 _)) | (intro _; exact (rfl : _ = Result.ok 44 _)) | (intro _; exact (rfl : _ = Result.ok 45 _)) | (intro _; exact (rfl : _ = Result.ok 46 _))); (intro _; exact rfl); exact rfl; exact Nat.le_of_ble_eq_true rfl; exact Nat.le_of_ble_eq_true rfl); skip)
      intro q0 _
      repeat (first | refine n1 ?_ | refine n2 (fun b _ => ?_) | refine n3 (fun _ _ => ?_) | refine n4 ?_ | refine n5 ?_ | refine WL_nil ?_ | refine W_seq ?_ | refine W_region ?_ | refine n7 ?_ | refine n8 ?_ | refine W_block ?_ | refine W_skip ?_ | refine W_ret ?_ | refine W_exit ?_ | refine WQ_then ?_ | refine WQ_then_ret ?_ | refine WQ_then_exit ?_ | refine WQ_block_normal ?_ | refine WQ_block_ret ?_ | refine WQ_block_exit ?_ | refine n9 ?_)
      (apply WL_effs; exact rfl; exact rfl; exact rfl; apply E_call; exact rfl; (intro _ _; simp); (exact inner_fn N IH id ext dv data sv subs (by have := T.drop_size e1; omega) (hsm.sub e1)); (repeat (first | exact AllE.nil _ | (apply AllE.cons; (focus (first | exact ent_nilBy | exact ent_nilSl | (apply Ent.mem; repeat' (first | exact mcs | apply mct))))))); (intro _; exact rfl); (intro _; exact rfl))
      intro c1 _
      repeat (first | refine n1 ?_ | refine n2 (fun b _ => ?_) | refine n3 (fun _ _ => ?_) | refine n4 ?_ | refine n5 ?_ | refine WL_nil ?_ | refine W_seq ?_ | refine W_region ?_ | refine n7 ?_ | refine n8 ?_ | refine W_block ?_ | refine W_skip ?_ | refine W_ret ?_ | refine W_exit ?_ | refine WQ_then ?_ | refine WQ_then_ret ?_ | refine WQ_then_exit ?_ | refine WQ_block_normal ?_ | refine WQ_block_ret ?_ | refine WQ_block_exit ?_ | refine n9 ?_)
      refine WL_effs rfl rfl rfl (E_appendBy (bs := []) rfl rfl (by repeat' (first | exact Pick.head _ _ | apply Pick.tail)) (by repeat' (first | exact mcs | apply mct)) rfl rfl rfl rfl rfl rfl (Nat.le_of_ble_eq_true rfl) (by omega) (Nat.zero_add _) rfl) ?_
      intro c2 _
      rw [List.nil_append]
      repeat (first | refine n1 ?_ | refine n2 (fun b _ => ?_) | refine n3 (fun _ _ => ?_) | refine n4 ?_ | refine n5 ?_ | refine WL_nil ?_ | refine W_seq ?_ | refine W_region ?_ | refine n7 ?_ | refine n8 ?_ | refine W_block ?_ | refine W_skip ?_ | refine W_ret ?_ | refine W_exit ?_ | refine WQ_then ?_ | refine WQ_then_ret ?_ | refine WQ_then_exit ?_ | refine WQ_block_normal ?_ | refine WQ_block_ret ?_ | refine WQ_block_exit ?_ | refine n9 ?_)
      ((apply W_cutKT (X := Value) [5] [0] (fun _ => True) (fun z => [(5, z)]) (fun z => [.row z 5 1 (withX id ext (inn id data (enc subs.er))).length ((withX id ext (inn id data (enc subs.er))).map bcell)]) (fun _ => [])); exact rfl; exact rfl; (intro _; exact rfl); (intro _; exact rfl); (intro _; exact rfl))
      · refine W_cond_d (p := (id.toNat : Int) = 255) rfl (fun h => ?_) (fun h => ?_)
        · have hw : withX id ext (inn id data (enc subs.er)) = ext :: inn id data (enc subs.er) := if_pos ((u8is (n := 255) (by decide)).2 (by omega))
          rw [hw]
          repeat (first | refine n1 ?_ | refine n2 (fun b _ => ?_) | refine n3 (fun _ _ => ?_) | refine n4 ?_ | refine n5 ?_ | refine WL_nil ?_ | refine W_seq ?_ | refine W_region ?_ | refine n7 ?_ | refine n8 ?_ | refine W_block ?_ | refine W_skip ?_ | refine W_ret ?_ | refine W_exit ?_ | refine WQ_then ?_ | refine WQ_then_ret ?_ | refine WQ_then_exit ?_ | refine WQ_block_normal ?_ | refine WQ_block_ret ?_ | refine WQ_block_exit ?_ | refine n9 ?_)
          (apply WL_effs; exact rfl; exact rfl; exact rfl; (apply E_buildSlice; exact rfl; (focus (repeat (first | apply SeqE.nil | (apply SeqE.cons; exact rfl; (focus (first | (apply CellsE.lit; exact rfl) | (apply CellsE.one; (first | (apply OneC.lit; exact rfl) | (apply OneC.by_; (repeat' (first | exact mcs | apply mct)); done) | (apply OneC.sl; (repeat' (first | exact mcs | apply mct)); done) | (apply OneC.rw; (repeat' (first | exact mcs | apply mct)); done) | (apply OneC.row; (repeat' (first | exact Pick.head _ _ | apply Pick.tail))))))); exact rfl) | exact rfl))); exact rfl; (first | (intro _; exact (rfl : _ = Result.ok 1 _)) | (intro _; exact (rfl : _ = Result.ok 2 _)) | (intro _; exact (rfl : _ = Result.ok 3 _)) | (intro _; exact (rfl : _ = Result.ok 4 _)) | (intro _; exact (rfl : _ = Result.ok 5 _)) | (intro _; exact (rfl : _ = Result.ok 6 _)) | (intro _; exact (rfl : _ = Result.ok 7 _)) | (intro _; exact (rfl : _ = Result.ok 8 _)) | (intro _; exact (rfl : _ = Result.ok 9 _)) | (intro _; exact (rfl : _ = Result.ok 13 _)) | (intro _; exact (rfl : _ = Result.ok 14 _)) | (intro _; exact (rfl : _ = Result.ok 26 _)) | (intro _; exact (rfl : _ = Result.ok 40 _)) | (intro _; exact (rfl : _ = Result.ok 41 _)) | (intro _; exact (rfl : _ = Result.ok 42 _)) | (intro _; exact (rfl : _ = Result.ok 43 _)) | (intro _; exact (rfl : _ = Result.ok 44 _)) | (intro _; exact (rfl : _ = Result.ok 45 _)) | (intro _; exact (rfl : _ = Result.ok 46 _))); (intro _; exact rfl); exact rfl; exact Nat.le_of_ble_eq_true rfl; exact Nat.le_of_ble_eq_true rfl); skip)
          intro q1 _
          repeat (first | refine n1 ?_ | refine n2 (fun b _ => ?_) | refine n3 (fun _ _ => ?_) | refine n4 ?_ | refine n5 ?_ | refine WL_nil ?_ | refine W_seq ?_ | refine W_region ?_ | refine n7 ?_ | refine n8 ?_ | refine W_block ?_ | refine W_skip ?_ | refine W_ret ?_ | refine W_exit ?_ | refine WQ_then ?_ | refine WQ_then_ret ?_ | refine WQ_then_exit ?_ | refine WQ_block_normal ?_ | refine WQ_block_ret ?_ | refine WQ_block_exit ?_ | refine n9 ?_)
          refine WL_effs rfl rfl rfl (E_appendRowB (bs := [ext]) rfl rfl (by repeat' (first | exact Pick.head _ _ | apply Pick.tail)) (by repeat' (first | exact Pick.head _ _ | apply Pick.tail)) rfl rfl rfl rfl rfl rfl rfl (Nat.le_of_ble_eq_true rfl) (by omega) (Nat.add_comm 1 _) rfl) ?_
          intro c3 _
          repeat (first | refine n1 ?_ | refine n2 (fun b _ => ?_) | refine n3 (fun _ _ => ?_) | refine n4 ?_ | refine n5 ?_ | refine WL_nil ?_ | refine W_seq ?_ | refine W_region ?_ | refine n7 ?_ | refine n8 ?_ | refine W_block ?_ | refine W_skip ?_ | refine W_ret ?_ | refine W_exit ?_ | refine WQ_then ?_ | refine WQ_then_ret ?_ | refine WQ_then_exit ?_ | refine WQ_block_normal ?_ | refine WQ_block_ret ?_ | refine WQ_block_exit ?_ | refine n9 ?_)
          ((apply WQ_meet (c3)); (focus (first | trivial | omega | assumption | exact ⟨by omega, by omega⟩ | (simp; done))); (focus (repeat (first | exact FrIn.nil _ | (apply FrIn.cons; exact rfl; (first | exact rfl | (congr 1; first | omega | (dsimp only; omega)) | (simp; done)))))); (focus (repeat (first | exact SubO.nil _ | (apply SubO.cons; (focus (repeat' (first | exact Pick.head _ _ | apply Pick.tail))))))); (focus (repeat (first | exact AllE.nil _ | (apply AllE.cons; (focus (first | exact ent_nilBy | exact ent_nilSl | (apply Ent.mem; repeat' (first | exact mcs | apply mct)))))))))
        · have hw : withX id ext (inn id data (enc subs.er)) = inn id data (enc subs.er) := if_neg (fun h' => h (by rw [h']; rfl))
          rw [hw]
          repeat (first | refine n1 ?_ | refine n2 (fun b _ => ?_) | refine n3 (fun _ _ => ?_) | refine n4 ?_ | refine n5 ?_ | refine WL_nil ?_ | refine W_seq ?_ | refine W_region ?_ | refine n7 ?_ | refine n8 ?_ | refine W_block ?_ | refine W_skip ?_ | refine W_ret ?_ | refine W_exit ?_ | refine WQ_then ?_ | refine WQ_then_ret ?_ | refine WQ_then_exit ?_ | refine WQ_block_normal ?_ | refine WQ_block_ret ?_ | refine WQ_block_exit ?_ | refine n9 ?_)
          ((apply WQ_meet (c2)); (focus (first | trivial | omega | assumption | exact ⟨by omega, by omega⟩ | (simp; done))); (focus (repeat (first | exact FrIn.nil _ | (apply FrIn.cons; exact rfl; (first | exact rfl | (congr 1; first | omega | (dsimp only; omega)) | (simp; done)))))); (focus (repeat (first | exact SubO.nil _ | (apply SubO.cons; (focus (repeat' (first | exact Pick.head _ _ | apply Pick.tail))))))); (focus (repeat (first | exact AllE.nil _ | (apply AllE.cons; (focus (first | exact ent_nilBy | exact ent_nilSl | (apply Ent.mem; repeat' (first | exact mcs | apply mct)))))))))
      · intro c3 _
        have hwl : (withX id ext (inn id data (enc subs.er))).length ≤ 60000001 := by
          unfold withX
          split
          · simp only [List.length_cons]; omega
          · omega
        generalize withX id ext (inn id data (enc subs.er)) = c at hi hwl ⊢
        repeat (first | refine n1 ?_ | refine n2 (fun b _ => ?_) | refine n3 (fun _ _ => ?_) | refine n4 ?_ | refine n5 ?_ | refine WL_nil ?_ | refine W_seq ?_ | refine W_region ?_ | refine n7 ?_ | refine n8 ?_ | refine W_block ?_ | refine W_skip ?_ | refine W_ret ?_ | refine W_exit ?_ | refine WQ_then ?_ | refine WQ_then_ret ?_ | refine WQ_then_exit ?_ | refine WQ_block_normal ?_ | refine WQ_block_ret ?_ | refine WQ_block_exit ?_ | refine n9 ?_)
        refine W_letgoB (v := c3) (by repeat' (first | exact Pick.head _ _ | apply Pick.tail)) rfl ?_
        ((apply W_loopK (X := List UInt8 × UInt8 × List UInt8 × Value × Value) [6, 3, 5] [0] (fun x => x.1 ++ (x.2.1 :: bod x.2.2.1.length x.2.2.1) = out ++ (id :: bod c.length c) ∧ x.2.2.1.length ≤ 60000001) (fun x => [(6, bcell x.2.1), (3, x.2.2.2.1), (5, x.2.2.2.2)]) (fun x => [.row x.2.2.2.1 5 1 x.1.length (x.1.map bcell)]) (fun x => [By x.2.2.2.2 x.2.2.1]) (fun x => x.2.2.1.length) ((out, id, c, o, c3))); (focus exact ⟨rfl, hwl⟩); exact rfl; exact rfl; (intro _; exact rfl); (intro _; exact rfl); (intro _; exact rfl); (focus (repeat (first | exact FrIn.nil _ | (apply FrIn.cons; exact rfl; (first | exact rfl | (congr 1; first | omega | (dsimp only; omega)) | (simp; done)))))); (focus (repeat (first | exact SubO.nil _ | (apply SubO.cons; (focus (repeat' (first | exact Pick.head _ _ | apply Pick.tail))))))); (focus (repeat (first | exact AllE.nil _ | (apply AllE.cons; (focus (first | exact ent_nilBy | exact ent_nilSl | (apply Ent.mem; repeat' (first | exact mcs | apply mct)))))))); intro x hx)
        obtain ⟨u, i2, cur, ov, cv⟩ := x
        obtain ⟨hu, hcl⟩ := hx
        replace hu : u ++ (i2 :: bod cur.length cur) = out ++ (id :: bod c.length c) := hu
        replace hcl : cur.length ≤ 60000001 := hcl
        dsimp only
        have hul : u.length + cur.length ≤ 130000000 := by
          have h1 := congrArg List.length hu
          have h2 := congrArg List.length hi
          simp only [List.length_append, List.length_cons] at h1 h2
          omega
        by_cases c4 : 255 ≤ cur.length
        · rw [bod_big c4] at hu
          repeat (first | refine n1 ?_ | refine n2 (fun b _ => ?_) | refine n3 (fun _ _ => ?_) | refine n4 ?_ | refine n5 ?_ | refine WL_nil ?_ | refine W_seq ?_ | refine W_region ?_ | refine n7 ?_ | refine n8 ?_ | refine W_block ?_ | refine W_skip ?_ | refine W_ret ?_ | refine W_exit ?_ | refine WQ_then ?_ | refine WQ_then_ret ?_ | refine WQ_then_exit ?_ | refine WQ_block_normal ?_ | refine WQ_block_ret ?_ | refine WQ_block_exit ?_ | refine n9 ?_)
          (refine W_regionP' [2, 3, 6] [] [0, 1, 4, 5, 2, 3, 6, 7] [0] (by kernel_rfl) (by kernel_rfl) (by repeat (first | exact UZ.nil _ _ | (apply UZ.cons; exact rfl; (intro _; exact rfl)))) (by exact rfl) (by (repeat (first | exact SubO.nil _ | (apply SubO.cons; (focus (repeat' (first | exact Pick.head _ _ | apply Pick.tail))))))) ?_)
          repeat (first | refine p1 ?_ | refine p2 (fun b _ => ?_) | refine p3 (fun _ _ => ?_) | refine p4 ?_ | refine p5 ?_ | refine p7 (fun b => ?_) | refine PL_nil ?_)
          (apply PL_effs; exact rfl; exact rfl; exact rfl; exact rfl; exact rfl; (apply E_buildSlice; exact rfl; (focus (repeat (first | apply SeqE.nil | (apply SeqE.cons; exact rfl; (focus (first | (apply CellsE.lit; exact rfl) | (apply CellsE.one; (first | (apply OneC.lit; exact rfl) | (apply OneC.by_; (repeat' (first | exact mcs | apply mct)); done) | (apply OneC.sl; (repeat' (first | exact mcs | apply mct)); done) | (apply OneC.rw; (repeat' (first | exact mcs | apply mct)); done) | (apply OneC.row; (repeat' (first | exact Pick.head _ _ | apply Pick.tail))))))); exact rfl) | exact rfl))); exact rfl; (first | (intro _; exact (rfl : _ = Result.ok 1 _)) | (intro _; exact (rfl : _ = Result.ok 2 _)) | (intro _; exact (rfl : _ = Result.ok 3 _)) | (intro _; exact (rfl : _ = Result.ok 4 _)) | (intro _; exact (rfl : _ = Result.ok 5 _)) | (intro _; exact (rfl : _ = Result.ok 6 _)) | (intro _; exact (rfl : _ = Result.ok 7 _)) | (intro _; exact (rfl : _ = Result.ok 8 _)) | (intro _; exact (rfl : _ = Result.ok 9 _)) | (intro _; exact (rfl : _ = Result.ok 13 _)) | (intro _; exact (rfl : _ = Result.ok 14 _)) | (intro _; exact (rfl : _ = Result.ok 26 _)) | (intro _; exact (rfl : _ = Result.ok 40 _)) | (intro _; exact (rfl : _ = Result.ok 41 _)) | (intro _; exact (rfl : _ = Result.ok 42 _)) | (intro _; exact (rfl : _ = Result.ok 43 _)) | (intro _; exact (rfl : _ = Result.ok 44 _)) | (intro _; exact (rfl : _ = Result.ok 45 _)) | (intro _; exact (rfl : _ = Result.ok 46 _))); (intro _; exact rfl); exact rfl; exact Nat.le_of_ble_eq_true rfl; exact Nat.le_of_ble_eq_true rfl); (intro _; (repeat (first | exact SubO.nil _ | (apply SubO.cons; (focus (repeat' (first | exact Pick.head _ _ | apply Pick.tail))))))); skip)
          intro q1 _
          have l1 : u.length + 2 = (u ++ [i2, 255]).length := by simp
          have l2 : (u ++ [i2, 255]).length + (cur.take 255).length = (u ++ [i2, 255] ++ cur.take 255).length := by simp only [List.length_append]
          have l3 : (u ++ [i2, 255]).length + (cur.take 255).length ≤ 140000000 := by simp only [List.length_append, List.length_cons, List.length_nil, List.length_take]; omega
          refine PL_effs rfl rfl rfl rfl rfl (E_appendRowB (bs := u) (news := [i2, 255]) rfl rfl (by repeat' (first | exact Pick.head _ _ | apply Pick.tail)) (by repeat' (first | exact Pick.head _ _ | apply Pick.tail)) rfl rfl rfl rfl rfl rfl rfl (Nat.le_of_ble_eq_true rfl) (by omega) l1 rfl) (by intro _; exact (by (repeat (first | exact SubO.nil _ | (apply SubO.cons; (focus (repeat' (first | exact Pick.head _ _ | apply Pick.tail)))))))) ?_
          intro o2 _
          refine PL_effs rfl rfl rfl rfl rfl (E_appendBy (bs := u ++ [i2, 255]) rfl rfl (by repeat' (first | exact Pick.head _ _ | apply Pick.tail)) (by repeat' (first | exact mcs | apply mct)) rfl rfl rfl rfl rfl rfl (Nat.le_of_ble_eq_true rfl) (by omega) l2 rfl) (by intro _; exact (by (repeat (first | exact SubO.nil _ | (apply SubO.cons; (focus (repeat' (first | exact Pick.head _ _ | apply Pick.tail)))))))) ?_
          intro o3 _
          repeat (first | refine p1 ?_ | refine p2 (fun b _ => ?_) | refine p3 (fun _ _ => ?_) | refine p4 ?_ | refine p5 ?_ | refine p7 (fun b => ?_) | refine PL_nil ?_)
          repeat (first | refine n1 ?_ | refine n2 (fun b _ => ?_) | refine n3 (fun _ _ => ?_) | refine n4 ?_ | refine n5 ?_ | refine WL_nil ?_ | refine W_seq ?_ | refine W_region ?_ | refine n7 ?_ | refine n8 ?_ | refine W_block ?_ | refine W_skip ?_ | refine W_ret ?_ | refine W_exit ?_ | refine WQ_then ?_ | refine WQ_then_ret ?_ | refine WQ_then_exit ?_ | refine WQ_block_normal ?_ | refine WQ_block_ret ?_ | refine WQ_block_exit ?_ | refine n9 ?_)
          rw [take_end]
          repeat (first | refine n1 ?_ | refine n2 (fun b _ => ?_) | refine n3 (fun _ _ => ?_) | refine n4 ?_ | refine n5 ?_ | refine WL_nil ?_ | refine W_seq ?_ | refine W_region ?_ | refine n7 ?_ | refine n8 ?_ | refine W_block ?_ | refine W_skip ?_ | refine W_ret ?_ | refine W_exit ?_ | refine WQ_then ?_ | refine WQ_then_ret ?_ | refine WQ_then_exit ?_ | refine WQ_block_normal ?_ | refine WQ_block_ret ?_ | refine WQ_block_exit ?_ | refine n9 ?_)
          have n1 : u ++ [i2, 255] ++ cur.take 255 ++ (254 :: bod (cur.drop 255).length (cur.drop 255)) = out ++ (id :: bod c.length c) := by
            rw [← hu]
            simp
          have n2 : (cur.drop 255).length ≤ 60000001 := by rw [List.length_drop]; omega
          have n3 : (cur.drop 255).length < cur.length := by rw [List.length_drop]; omega
          ((apply WQ_again ((u ++ [i2, 255] ++ cur.take 255, 254, cur.drop 255, o3, cutV 1 255 cur.length cv))); (focus exact ⟨n1, n2⟩); (focus exact n3); (focus (repeat (first | exact FrIn.nil _ | (apply FrIn.cons; exact rfl; (first | exact rfl | (congr 1; first | omega | (dsimp only; omega)) | (simp; done)))))); (focus (repeat (first | exact SubO.nil _ | (apply SubO.cons; (focus (repeat' (first | exact Pick.head _ _ | apply Pick.tail))))))); (focus (repeat (first | exact AllE.nil _ | (apply AllE.cons; (focus (first | exact ent_nilBy | exact ent_nilSl | (apply Ent.mem; repeat' (first | exact mcs | apply mct)))))))))
        · rw [bod_small (by omega)] at hu
          repeat (first | refine n1 ?_ | refine n2 (fun b _ => ?_) | refine n3 (fun _ _ => ?_) | refine n4 ?_ | refine n5 ?_ | refine WL_nil ?_ | refine W_seq ?_ | refine W_region ?_ | refine n7 ?_ | refine n8 ?_ | refine W_block ?_ | refine W_skip ?_ | refine W_ret ?_ | refine W_exit ?_ | refine WQ_then ?_ | refine WQ_then_ret ?_ | refine WQ_then_exit ?_ | refine WQ_block_normal ?_ | refine WQ_block_ret ?_ | refine WQ_block_exit ?_ | refine n9 ?_)
          (apply WL_effs; exact rfl; exact rfl; exact rfl; (apply E_buildSlice; exact rfl; (focus (repeat (first | apply SeqE.nil | (apply SeqE.cons; exact rfl; (focus (first | (apply CellsE.lit; exact rfl) | (apply CellsE.one; (first | (apply OneC.lit; exact rfl) | (apply OneC.by_; (repeat' (first | exact mcs | apply mct)); done) | (apply OneC.sl; (repeat' (first | exact mcs | apply mct)); done) | (apply OneC.rw; (repeat' (first | exact mcs | apply mct)); done) | (apply OneC.row; (repeat' (first | exact Pick.head _ _ | apply Pick.tail))))))); exact rfl) | exact rfl))); exact rfl; (first | (intro _; exact (rfl : _ = Result.ok 1 _)) | (intro _; exact (rfl : _ = Result.ok 2 _)) | (intro _; exact (rfl : _ = Result.ok 3 _)) | (intro _; exact (rfl : _ = Result.ok 4 _)) | (intro _; exact (rfl : _ = Result.ok 5 _)) | (intro _; exact (rfl : _ = Result.ok 6 _)) | (intro _; exact (rfl : _ = Result.ok 7 _)) | (intro _; exact (rfl : _ = Result.ok 8 _)) | (intro _; exact (rfl : _ = Result.ok 9 _)) | (intro _; exact (rfl : _ = Result.ok 13 _)) | (intro _; exact (rfl : _ = Result.ok 14 _)) | (intro _; exact (rfl : _ = Result.ok 26 _)) | (intro _; exact (rfl : _ = Result.ok 40 _)) | (intro _; exact (rfl : _ = Result.ok 41 _)) | (intro _; exact (rfl : _ = Result.ok 42 _)) | (intro _; exact (rfl : _ = Result.ok 43 _)) | (intro _; exact (rfl : _ = Result.ok 44 _)) | (intro _; exact (rfl : _ = Result.ok 45 _)) | (intro _; exact (rfl : _ = Result.ok 46 _))); (intro _; exact rfl); exact rfl; exact Nat.le_of_ble_eq_true rfl; exact Nat.le_of_ble_eq_true rfl); skip)
          intro q1 _
          have l1 : u.length + 2 = (u ++ [i2, UInt8.ofNat cur.length]).length := by simp
          have l2 : (u ++ [i2, UInt8.ofNat cur.length]).length + cur.length = (u ++ [i2, UInt8.ofNat cur.length] ++ cur).length := by simp only [List.length_append]
          have l3 : (u ++ [i2, UInt8.ofNat cur.length]).length + cur.length ≤ 140000000 := by simp only [List.length_append, List.length_cons, List.length_nil]; omega
          have cc : [bcell i2, Value.int .u8 (cur.length : Int)] = [i2, UInt8.ofNat cur.length].map bcell := by
            simp only [List.map_cons, List.map_nil, bcell, UInt8.toNat_ofNat']
            rw [Nat.mod_eq_of_lt (by omega)]
          refine WL_effs rfl rfl rfl (E_appendRowB (bs := u) (news := [i2, UInt8.ofNat cur.length]) rfl rfl (by repeat' (first | exact Pick.head _ _ | apply Pick.tail)) (by repeat' (first | exact Pick.head _ _ | apply Pick.tail)) rfl cc rfl rfl rfl rfl rfl (Nat.le_of_ble_eq_true rfl) (by omega) l1 rfl) ?_
          intro o2 _
          repeat (first | refine n1 ?_ | refine n2 (fun b _ => ?_) | refine n3 (fun _ _ => ?_) | refine n4 ?_ | refine n5 ?_ | refine WL_nil ?_ | refine W_seq ?_ | refine W_region ?_ | refine n7 ?_ | refine n8 ?_ | refine W_block ?_ | refine W_skip ?_ | refine W_ret ?_ | refine W_exit ?_ | refine WQ_then ?_ | refine WQ_then_ret ?_ | refine WQ_then_exit ?_ | refine WQ_block_normal ?_ | refine WQ_block_ret ?_ | refine WQ_block_exit ?_ | refine n9 ?_)
          refine WL_effs rfl rfl rfl (E_appendBy (bs := u ++ [i2, UInt8.ofNat cur.length]) rfl rfl (by repeat' (first | exact Pick.head _ _ | apply Pick.tail)) (by repeat' (first | exact mcs | apply mct)) rfl rfl rfl rfl rfl rfl (Nat.le_of_ble_eq_true rfl) (by omega) l2 rfl) ?_
          intro o3 _
          repeat (first | refine n1 ?_ | refine n2 (fun b _ => ?_) | refine n3 (fun _ _ => ?_) | refine n4 ?_ | refine n5 ?_ | refine WL_nil ?_ | refine W_seq ?_ | refine W_region ?_ | refine n7 ?_ | refine n8 ?_ | refine W_block ?_ | refine W_skip ?_ | refine W_ret ?_ | refine W_exit ?_ | refine WQ_then ?_ | refine WQ_then_ret ?_ | refine WQ_then_exit ?_ | refine WQ_block_normal ?_ | refine WQ_block_ret ?_ | refine WQ_block_exit ?_ | refine n9 ?_)
          have n1 : u ++ [i2, UInt8.ofNat cur.length] ++ cur ++ enc (t.drop (k + 1)).er = enc t.er := by
            rw [← hi, ← hu]
            simp
          ((apply WQ_again ((k + 1, u ++ [i2, UInt8.ofNat cur.length] ++ cur, o3))); (focus exact ⟨c0, n1⟩); (focus (omega)); (focus (repeat (first | exact FrIn.nil _ | (apply FrIn.cons; exact rfl; (first | exact rfl | (congr 1; first | omega | (dsimp only; omega)) | (simp; done)))))); (focus (repeat (first | exact SubO.nil _ | (apply SubO.cons; (focus (repeat' (first | exact Pick.head _ _ | apply Pick.tail))))))); (focus (repeat (first | exact AllE.nil _ | (apply AllE.cons; (focus (first | exact ent_nilBy | exact ent_nilSl | (apply Ent.mem; repeat' (first | exact mcs | apply mct)))))))))
    · rw [drop_end (by omega)] at hi
      replace hi : out = enc t.er := by simpa [T.er, enc] using hi
      subst hi
      repeat (first | refine n1 ?_ | refine n2 (fun b _ => ?_) | refine n3 (fun _ _ => ?_) | refine n4 ?_ | refine n5 ?_ | refine WL_nil ?_ | refine W_seq ?_ | refine W_region ?_ | refine n7 ?_ | refine n8 ?_ | refine W_block ?_ | refine W_skip ?_ | refine W_ret ?_ | refine W_exit ?_ | refine WQ_then ?_ | refine WQ_then_ret ?_ | refine WQ_then_exit ?_ | refine WQ_block_normal ?_ | refine WQ_block_ret ?_ | refine WQ_block_exit ?_ | refine n9 ?_)
      ((apply ret1 Try.results96 ( o)); (focus (first | trivial | assumption | omega)); (focus (first | exact RV_tmp rfl | (apply RV_cellN; exact rfl; (repeat' (first | exact Pick.head _ _ | apply Pick.tail)); (intro _; exact rfl); (intro _; exact rfl); exact rfl) | (apply RV_cell1; exact rfl; (repeat' (first | exact Pick.head _ _ | apply Pick.tail)); (intro _; exact rfl); exact rfl)));  (focus (first | exact rfl | (simp; done))); (focus (repeat (first | exact SubO.nil _ | (apply SubO.cons; (focus (repeat' (first | exact Pick.head _ _ | apply Pick.tail))))))); (focus (repeat (first | exact AllE.nil _ | (apply AllE.cons; (focus (first | exact ent_nilBy | exact ent_nilSl | (apply Ent.mem; repeat' (first | exact mcs | apply mct)))))))))
end Go.Proofs.Ytoohgnegoaoleaa.C04

/-
  The reference's long, Check, Encode.
-/
namespace Go.Proofs.Ytoohgnegoaoleaa.C04
open Go Go.RowKit Go.Hs
attribute [local irreducible] WL W WQ PL Runs Effs AllE Ent SubO FrIn Pick OneC Ones CellsE PartsE SeqE UZ By Sl Pt Ct

def lng : Fo → Bool
  | .nil => false
  | .cons id _ data subs next => decide (1024 < (inn id data (enc subs)).length) || lng subs || lng next
theorem lng_fit : ∀ (t : Fo), val t = true → lng t = ! fit t
  | .nil, _ => rfl
  | .cons id ext data subs next, h => by
    simp only [val, Bool.and_eq_true] at h
    obtain ⟨⟨h1, h2⟩, h3⟩ := h
    have e1 := lng_fit subs h2
    have e2 := lng_fit next h3
    simp only [lng, fit, e1, e2]
    simp only [own, Bool.and_eq_true] at h1
    have h4 := h1.2
    by_cases c : 1024 < (inn id data (enc subs)).length
    · rw [decide_eq_true c, decide_eq_false (by omega)]
      simp
    · rw [decide_eq_false c, decide_eq_true (by omega)]
      cases c2 : contB id with
      | true => simp
      | false =>
        rw [c2] at h4
        have h5 : subs = .nil := isN_iff.1 h4
        subst h5
        simp [fit]

set_option maxRecDepth 100000 in
set_option maxHeartbeats 8000000 in
theorem long_fn : ∀ (N : Nat) (t : T) (v : Value), t.size < N → Sm t.er → CtD Try.prog 109 [v] [Rw 4 v t.len t.at_, t.tf] (.bool (lng t.er)) := by
  intro N
  induction N with
  | zero => intro t v h; omega
  | succ N IH =>
    intro t v hN hsm
    refine Ct_intro Try.func109 rfl Try.ntmps109 (by simp) _ rfl (fun w0 O0 => ?_)
    refine W_pure (rw_le (n := t.len) (by repeat' (first | exact mcs | apply mct))) fun hle => ?_
    repeat (first | refine n1 ?_ | refine n2 (fun b _ => ?_) | refine n3 (fun _ _ => ?_) | refine n4 ?_ | refine n5 ?_ | refine WL_nil ?_ | refine W_seq ?_ | refine W_region ?_ | refine n7 ?_ | refine n8 ?_ | refine W_block ?_ | refine W_skip ?_ | refine W_ret ?_ | refine W_exit ?_ | refine WQ_then ?_ | refine WQ_then_ret ?_ | refine WQ_then_exit ?_ | refine WQ_block_normal ?_ | refine WQ_block_ret ?_ | refine WQ_block_exit ?_ | refine n9 ?_)
    ((apply W_loopK (X := Nat) [3] [] (fun x => x ≤ t.len ∧ lng (t.drop x).er = lng t.er) (fun x => [(3, .int .i64 (x : Int))]) (fun _ => []) (fun _ => []) (fun x => t.len - x) (0)); (focus exact ⟨Nat.zero_le _, rfl⟩); exact rfl; exact rfl; (intro _; exact rfl); (intro _; exact rfl); (intro _; exact rfl); (focus (repeat (first | exact FrIn.nil _ | (apply FrIn.cons; exact rfl; (first | exact rfl | (congr 1; first | omega | (dsimp only; omega)) | (simp; done)))))); (focus (repeat (first | exact SubO.nil _ | (apply SubO.cons; (focus (repeat' (first | exact Pick.head _ _ | apply Pick.tail))))))); (focus (repeat (first | exact AllE.nil _ | (apply AllE.cons; (focus (first | exact ent_nilBy | exact ent_nilSl | (apply Ent.mem; repeat' (first | exact mcs | apply mct)))))))); intro x hx)
    obtain ⟨hk, hi⟩ := hx
    by_cases c0 : x < t.len
    · obtain ⟨id, ext, dv, data, sv, subs, next, e1⟩ := T.get c0
      rw [e1] at hi
      simp only [T.er, lng] at hi
      have a1 := T.at_cons e1
      have hlt := T.drop_size e1
      have hs := IH subs sv (by omega) (hsm.sub e1)
      refine W_ent (ent_tree (t := t) (by repeat' (first | exact mcs | apply mct)) e1).1 (W_ent (ent_tree (t := t) (by repeat' (first | exact mcs | apply mct)) e1).2.1 (W_ent (ent_tree (t := t) (by repeat' (first | exact mcs | apply mct)) e1).2.2 ?_))
      repeat (first | refine n1 ?_ | refine n2 (fun b _ => ?_) | refine n3 (fun _ _ => ?_) | refine n4 ?_ | refine n5 ?_ | refine WL_nil ?_ | refine W_seq ?_ | refine W_region ?_ | refine n7 ?_ | refine n8 ?_ | refine W_block ?_ | refine W_skip ?_ | refine W_ret ?_ | refine W_exit ?_ | refine WQ_then ?_ | refine WQ_then_ret ?_ | refine WQ_then_exit ?_ | refine WQ_block_normal ?_ | refine WQ_block_ret ?_ | refine WQ_block_exit ?_ | refine n9 ?_)
      (apply WL_effs; exact rfl; exact rfl; exact rfl; apply E_call; exact rfl; (intro _ _; simp); (exact inner_fn N (bytes_fn N) id ext dv data sv subs (by omega) (hsm.sub e1)); (repeat (first | exact AllE.nil _ | (apply AllE.cons; (focus (first | exact ent_nilBy | exact ent_nilSl | (apply Ent.mem; repeat' (first | exact mcs | apply mct))))))); (intro _; exact rfl); (intro _; exact rfl))
      intro c1 _
      by_cases c2 : 1024 < (inn id data (enc subs.er)).length
      · rw [decide_eq_true c2, Bool.true_or, Bool.true_or] at hi
        rw [← hi]
        repeat (first | refine n1 ?_ | refine n2 (fun b _ => ?_) | refine n3 (fun _ _ => ?_) | refine n4 ?_ | refine n5 ?_ | refine WL_nil ?_ | refine W_seq ?_ | refine W_region ?_ | refine n7 ?_ | refine n8 ?_ | refine W_block ?_ | refine W_skip ?_ | refine W_ret ?_ | refine W_exit ?_ | refine WQ_then ?_ | refine WQ_then_ret ?_ | refine WQ_then_exit ?_ | refine WQ_block_normal ?_ | refine WQ_block_ret ?_ | refine WQ_block_exit ?_ | refine n9 ?_)
        ((apply ret1 Try.results109 ( ())); (focus (first | trivial | assumption | omega)); (focus (first | exact RV_tmp rfl | (apply RV_cellN; exact rfl; (repeat' (first | exact Pick.head _ _ | apply Pick.tail)); (intro _; exact rfl); (intro _; exact rfl); exact rfl) | (apply RV_cell1; exact rfl; (repeat' (first | exact Pick.head _ _ | apply Pick.tail)); (intro _; exact rfl); exact rfl)));  (focus (first | exact rfl | (simp; done))); (focus (repeat (first | exact SubO.nil _ | (apply SubO.cons; (focus (repeat' (first | exact Pick.head _ _ | apply Pick.tail))))))); (focus (repeat (first | exact AllE.nil _ | (apply AllE.cons; (focus (first | exact ent_nilBy | exact ent_nilSl | (apply Ent.mem; repeat' (first | exact mcs | apply mct)))))))))
      · rw [decide_eq_false c2, Bool.false_or] at hi
        cases c3 : lng subs.er with
        | true =>
          rw [c3] at hs hi
          rw [Bool.true_or] at hi
          rw [← hi]
          repeat (first | refine n1 ?_ | refine n2 (fun b _ => ?_) | refine n3 (fun _ _ => ?_) | refine n4 ?_ | refine n5 ?_ | refine n6 (hs) ?_ | refine n6v (hs) ?_ | refine WL_nil ?_ | refine W_seq ?_ | refine W_region ?_ | refine n7 ?_ | refine n8 ?_ | refine W_block ?_ | refine W_skip ?_ | refine W_ret ?_ | refine W_exit ?_ | refine WQ_then ?_ | refine WQ_then_ret ?_ | refine WQ_then_exit ?_ | refine WQ_block_normal ?_ | refine WQ_block_ret ?_ | refine WQ_block_exit ?_ | refine n9 ?_)
          ((apply ret1 Try.results109 ( ())); (focus (first | trivial | assumption | omega)); (focus (first | exact RV_tmp rfl | (apply RV_cellN; exact rfl; (repeat' (first | exact Pick.head _ _ | apply Pick.tail)); (intro _; exact rfl); (intro _; exact rfl); exact rfl) | (apply RV_cell1; exact rfl; (repeat' (first | exact Pick.head _ _ | apply Pick.tail)); (intro _; exact rfl); exact rfl)));  (focus (first | exact rfl | (simp; done))); (focus (repeat (first | exact SubO.nil _ | (apply SubO.cons; (focus (repeat' (first | exact Pick.head _ _ | apply Pick.tail))))))); (focus (repeat (first | exact AllE.nil _ | (apply AllE.cons; (focus (first | exact ent_nilBy | exact ent_nilSl | (apply Ent.mem; repeat' (first | exact mcs | apply mct)))))))))
        | false =>
          rw [c3] at hs hi
          rw [Bool.false_or] at hi
          have hn : x + 1 ≤ t.len ∧ lng (t.drop (x + 1)).er = lng t.er := ⟨c0, by rw [T.drop_next e1]; exact hi⟩
          repeat (first | refine n1 ?_ | refine n2 (fun b _ => ?_) | refine n3 (fun _ _ => ?_) | refine n4 ?_ | refine n5 ?_ | refine n6 (hs) ?_ | refine n6v (hs) ?_ | refine WL_nil ?_ | refine W_seq ?_ | refine W_region ?_ | refine n7 ?_ | refine n8 ?_ | refine W_block ?_ | refine W_skip ?_ | refine W_ret ?_ | refine W_exit ?_ | refine WQ_then ?_ | refine WQ_then_ret ?_ | refine WQ_then_exit ?_ | refine WQ_block_normal ?_ | refine WQ_block_ret ?_ | refine WQ_block_exit ?_ | refine n9 ?_)
          ((apply WQ_again (x + 1)); (focus exact hn); (focus (omega)); (focus (repeat (first | exact FrIn.nil _ | (apply FrIn.cons; exact rfl; (first | exact rfl | (congr 1; first | omega | (dsimp only; omega)) | (simp; done)))))); (focus (repeat (first | exact SubO.nil _ | (apply SubO.cons; (focus (repeat' (first | exact Pick.head _ _ | apply Pick.tail))))))); (focus (repeat (first | exact AllE.nil _ | (apply AllE.cons; (focus (first | exact ent_nilBy | exact ent_nilSl | (apply Ent.mem; repeat' (first | exact mcs | apply mct)))))))))
    · rw [drop_end (by omega)] at hi
      replace hi : false = lng t.er := hi
      rw [← hi]
      repeat (first | refine n1 ?_ | refine n2 (fun b _ => ?_) | refine n3 (fun _ _ => ?_) | refine n4 ?_ | refine n5 ?_ | refine WL_nil ?_ | refine W_seq ?_ | refine W_region ?_ | refine n7 ?_ | refine n8 ?_ | refine W_block ?_ | refine W_skip ?_ | refine W_ret ?_ | refine W_exit ?_ | refine WQ_then ?_ | refine WQ_then_ret ?_ | refine WQ_then_exit ?_ | refine WQ_block_normal ?_ | refine WQ_block_ret ?_ | refine WQ_block_exit ?_ | refine n9 ?_)
      ((apply ret1 Try.results109 ( ())); (focus (first | trivial | assumption | omega)); (focus (first | exact RV_tmp rfl | (apply RV_cellN; exact rfl; (repeat' (first | exact Pick.head _ _ | apply Pick.tail)); (intro _; exact rfl); (intro _; exact rfl); exact rfl) | (apply RV_cell1; exact rfl; (repeat' (first | exact Pick.head _ _ | apply Pick.tail)); (intro _; exact rfl); exact rfl)));  (focus (first | exact rfl | (simp; done))); (focus (repeat (first | exact SubO.nil _ | (apply SubO.cons; (focus (repeat' (first | exact Pick.head _ _ | apply Pick.tail))))))); (focus (repeat (first | exact AllE.nil _ | (apply AllE.cons; (focus (first | exact ent_nilBy | exact ent_nilSl | (apply Ent.mem; repeat' (first | exact mcs | apply mct)))))))))

set_option maxRecDepth 100000 in
set_option maxHeartbeats 8000000 in
theorem rcheck_fn (t : T) (v : Value) (hsm : Sm t.er) : CtD Try.prog 95 [v] [Rw 4 v t.len t.at_, t.tf] (.int .i64 (chk t.er)) := by
  have h1 := count_fn (t.size + 1) t v (Nat.lt_succ_self _) (by have := hsm.1; omega)
  have h2 := depth_fn (t.size + 1) t v (Nat.lt_succ_self _) (by have := hsm.1; omega)
  have h3 := valid_fn (t.size + 1) t v (Nat.lt_succ_self _)
  have h4 := long_fn (t.size + 1) t v (Nat.lt_succ_self _) hsm
  have hb1 := hsm.1
  have hb2 := hsm.2.1
  unfold chk
  by_cases c1 : 64 < cnt t.er
  · rw [if_pos (.inl c1)]
    refine Ct_intro Try.func95 rfl Try.ntmps95 (by simp) _ rfl (fun w0 O0 => ?_)
    repeat (first | refine n1 ?_ | refine n2 (fun b _ => ?_) | refine n3 (fun _ _ => ?_) | refine n4 ?_ | refine n5 ?_ | refine n6 (h1) ?_ | refine n6 (h2) ?_ | refine n6 (h3) ?_ | refine n6 (h4) ?_ | refine n6v (h1) ?_ | refine n6v (h2) ?_ | refine n6v (h3) ?_ | refine n6v (h4) ?_ | refine WL_nil ?_ | refine W_seq ?_ | refine W_region ?_ | refine n7 ?_ | refine n8 ?_ | refine W_block ?_ | refine W_skip ?_ | refine W_ret ?_ | refine W_exit ?_ | refine WQ_then ?_ | refine WQ_then_ret ?_ | refine WQ_then_exit ?_ | refine WQ_block_normal ?_ | refine WQ_block_ret ?_ | refine WQ_block_exit ?_ | refine n9 ?_)
    ((apply ret1 Try.results95 ( ())); (focus (first | trivial | assumption | omega)); (focus (first | exact RV_tmp rfl | (apply RV_cellN; exact rfl; (repeat' (first | exact Pick.head _ _ | apply Pick.tail)); (intro _; exact rfl); (intro _; exact rfl); exact rfl) | (apply RV_cell1; exact rfl; (repeat' (first | exact Pick.head _ _ | apply Pick.tail)); (intro _; exact rfl); exact rfl)));  (focus (first | exact rfl | (simp; done))); (focus (repeat (first | exact SubO.nil _ | (apply SubO.cons; (focus (repeat' (first | exact Pick.head _ _ | apply Pick.tail))))))); (focus (repeat (first | exact AllE.nil _ | (apply AllE.cons; (focus (first | exact ent_nilBy | exact ent_nilSl | (apply Ent.mem; repeat' (first | exact mcs | apply mct)))))))))
  · by_cases c2 : 4 < dep t.er
    · rw [if_pos (.inr c2)]
      refine Ct_intro Try.func95 rfl Try.ntmps95 (by simp) _ rfl (fun w0 O0 => ?_)
      repeat (first | refine n1 ?_ | refine n2 (fun b _ => ?_) | refine n3 (fun _ _ => ?_) | refine n4 ?_ | refine n5 ?_ | refine n6 (h1) ?_ | refine n6 (h2) ?_ | refine n6 (h3) ?_ | refine n6 (h4) ?_ | refine n6v (h1) ?_ | refine n6v (h2) ?_ | refine n6v (h3) ?_ | refine n6v (h4) ?_ | refine WL_nil ?_ | refine W_seq ?_ | refine W_region ?_ | refine n7 ?_ | refine n8 ?_ | refine W_block ?_ | refine W_skip ?_ | refine W_ret ?_ | refine W_exit ?_ | refine WQ_then ?_ | refine WQ_then_ret ?_ | refine WQ_then_exit ?_ | refine WQ_block_normal ?_ | refine WQ_block_ret ?_ | refine WQ_block_exit ?_ | refine n9 ?_)
      ((apply ret1 Try.results95 ( ())); (focus (first | trivial | assumption | omega)); (focus (first | exact RV_tmp rfl | (apply RV_cellN; exact rfl; (repeat' (first | exact Pick.head _ _ | apply Pick.tail)); (intro _; exact rfl); (intro _; exact rfl); exact rfl) | (apply RV_cell1; exact rfl; (repeat' (first | exact Pick.head _ _ | apply Pick.tail)); (intro _; exact rfl); exact rfl)));  (focus (first | exact rfl | (simp; done))); (focus (repeat (first | exact SubO.nil _ | (apply SubO.cons; (focus (repeat' (first | exact Pick.head _ _ | apply Pick.tail))))))); (focus (repeat (first | exact AllE.nil _ | (apply AllE.cons; (focus (first | exact ent_nilBy | exact ent_nilSl | (apply Ent.mem; repeat' (first | exact mcs | apply mct)))))))))
    · rw [if_neg (fun h => h.elim c1 c2)]
      cases c3 : val t.er with
      | false =>
        rw [c3] at h3
        rw [if_pos rfl]
        refine Ct_intro Try.func95 rfl Try.ntmps95 (by simp) _ rfl (fun w0 O0 => ?_)
        repeat (first | refine n1 ?_ | refine n2 (fun b _ => ?_) | refine n3 (fun _ _ => ?_) | refine n4 ?_ | refine n5 ?_ | refine n6 (h1) ?_ | refine n6 (h2) ?_ | refine n6 (h3) ?_ | refine n6 (h4) ?_ | refine n6v (h1) ?_ | refine n6v (h2) ?_ | refine n6v (h3) ?_ | refine n6v (h4) ?_ | refine WL_nil ?_ | refine W_seq ?_ | refine W_region ?_ | refine n7 ?_ | refine n8 ?_ | refine W_block ?_ | refine W_skip ?_ | refine W_ret ?_ | refine W_exit ?_ | refine WQ_then ?_ | refine WQ_then_ret ?_ | refine WQ_then_exit ?_ | refine WQ_block_normal ?_ | refine WQ_block_ret ?_ | refine WQ_block_exit ?_ | refine n9 ?_)
        ((apply ret1 Try.results95 ( ())); (focus (first | trivial | assumption | omega)); (focus (first | exact RV_tmp rfl | (apply RV_cellN; exact rfl; (repeat' (first | exact Pick.head _ _ | apply Pick.tail)); (intro _; exact rfl); (intro _; exact rfl); exact rfl) | (apply RV_cell1; exact rfl; (repeat' (first | exact Pick.head _ _ | apply Pick.tail)); (intro _; exact rfl); exact rfl)));  (focus (first | exact rfl | (simp; done))); (focus (repeat (first | exact SubO.nil _ | (apply SubO.cons; (focus (repeat' (first | exact Pick.head _ _ | apply Pick.tail))))))); (focus (repeat (first | exact AllE.nil _ | (apply AllE.cons; (focus (first | exact ent_nilBy | exact ent_nilSl | (apply Ent.mem; repeat' (first | exact mcs | apply mct)))))))))
      | true =>
        rw [c3] at h3
        rw [lng_fit _ c3] at h4
        rw [if_neg Bool.noConfusion]
        cases c4 : fit t.er with
        | false =>
          rw [c4] at h4
          rw [if_pos rfl]
          refine Ct_intro Try.func95 rfl Try.ntmps95 (by simp) _ rfl (fun w0 O0 => ?_)
          repeat (first | refine n1 ?_ | refine n2 (fun b _ => ?_) | refine n3 (fun _ _ => ?_) | refine n4 ?_ | refine n5 ?_ | refine n6 (h1) ?_ | refine n6 (h2) ?_ | refine n6 (h3) ?_ | refine n6 (h4) ?_ | refine n6v (h1) ?_ | refine n6v (h2) ?_ | refine n6v (h3) ?_ | refine n6v (h4) ?_ | refine WL_nil ?_ | refine W_seq ?_ | refine W_region ?_ | refine n7 ?_ | refine n8 ?_ | refine W_block ?_ | refine W_skip ?_ | refine W_ret ?_ | refine W_exit ?_ | refine WQ_then ?_ | refine WQ_then_ret ?_ | refine WQ_then_exit ?_ | refine WQ_block_normal ?_ | refine WQ_block_ret ?_ | refine WQ_block_exit ?_ | refine n9 ?_)
          ((apply ret1 Try.results95 ( ())); (focus (first | trivial | assumption | omega)); (focus (first | exact RV_tmp rfl | (apply RV_cellN; exact rfl; (repeat' (first | exact Pick.head _ _ | apply Pick.tail)); (intro _; exact rfl); (intro _; exact rfl); exact rfl) | (apply RV_cell1; exact rfl; (repeat' (first | exact Pick.head _ _ | apply Pick.tail)); (intro _; exact rfl); exact rfl)));  (focus (first | exact rfl | (simp; done))); (focus (repeat (first | exact SubO.nil _ | (apply SubO.cons; (focus (repeat' (first | exact Pick.head _ _ | apply Pick.tail))))))); (focus (repeat (first | exact AllE.nil _ | (apply AllE.cons; (focus (first | exact ent_nilBy | exact ent_nilSl | (apply Ent.mem; repeat' (first | exact mcs | apply mct)))))))))
        | true =>
          rw [c4] at h4
          rw [if_neg Bool.noConfusion]
          refine Ct_intro Try.func95 rfl Try.ntmps95 (by simp) _ rfl (fun w0 O0 => ?_)
          repeat (first | refine n1 ?_ | refine n2 (fun b _ => ?_) | refine n3 (fun _ _ => ?_) | refine n4 ?_ | refine n5 ?_ | refine n6 (h1) ?_ | refine n6 (h2) ?_ | refine n6 (h3) ?_ | refine n6 (h4) ?_ | refine n6v (h1) ?_ | refine n6v (h2) ?_ | refine n6v (h3) ?_ | refine n6v (h4) ?_ | refine WL_nil ?_ | refine W_seq ?_ | refine W_region ?_ | refine n7 ?_ | refine n8 ?_ | refine W_block ?_ | refine W_skip ?_ | refine W_ret ?_ | refine W_exit ?_ | refine WQ_then ?_ | refine WQ_then_ret ?_ | refine WQ_then_exit ?_ | refine WQ_block_normal ?_ | refine WQ_block_ret ?_ | refine WQ_block_exit ?_ | refine n9 ?_)
          ((apply ret1 Try.results95 ( ())); (focus (first | trivial | assumption | omega)); (focus (first | exact RV_tmp rfl | (apply RV_cellN; exact rfl; (repeat' (first | exact Pick.head _ _ | apply Pick.tail)); (intro _; exact rfl); (intro _; exact rfl); exact rfl) | (apply RV_cell1; exact rfl; (repeat' (first | exact Pick.head _ _ | apply Pick.tail)); (intro _; exact rfl); exact rfl)));  (focus (first | exact rfl | (simp; done))); (focus (repeat (first | exact SubO.nil _ | (apply SubO.cons; (focus (repeat' (first | exact Pick.head _ _ | apply Pick.tail))))))); (focus (repeat (first | exact AllE.nil _ | (apply AllE.cons; (focus (first | exact ent_nilBy | exact ent_nilSl | (apply Ent.mem; repeat' (first | exact mcs | apply mct)))))))))

/-- the bytes that Encode hands back. -/
def encE (t : Fo) : List UInt8 := if chk t = 0 then enc t else []
theorem encE_ok {t : Fo} (h : chk t = 0) : encE t = enc t := if_pos h
theorem encE_bad {t : Fo} (h : ¬ chk t = 0) : encE t = [] := if_neg h
set_option maxRecDepth 100000 in
set_option maxHeartbeats 8000000 in
theorem rencode_fn (t : T) (v : Value) (hsm : Sm t.er) : Ct Try.prog 86 [v] [] [Rw 4 v t.len t.at_, t.tf]
    (X := Value) (fun _ => True) (fun x => .tuple #[x, .int .i64 (chk t.er)]) (fun _ => []) (fun x => [By x (encE t.er)]) := by
  have h1 := rcheck_fn t v hsm
  by_cases c : chk t.er = 0
  · rw [encE_ok c]
    rw [c] at h1 ⊢
    refine Ct_intro Try.func86 rfl Try.ntmps86 (by simp) _ rfl (fun w0 O0 => ?_)
    repeat (first | refine n1 ?_ | refine n2 (fun b _ => ?_) | refine n3 (fun _ _ => ?_) | refine n4 ?_ | refine n5 ?_ | refine n6 (h1) ?_ | refine n6v (h1) ?_ | refine WL_nil ?_ | refine W_seq ?_ | refine W_region ?_ | refine n7 ?_ | refine n8 ?_ | refine W_block ?_ | refine W_skip ?_ | refine W_ret ?_ | refine W_exit ?_ | refine WQ_then ?_ | refine WQ_then_ret ?_ | refine WQ_then_exit ?_ | refine WQ_block_normal ?_ | refine WQ_block_ret ?_ | refine WQ_block_exit ?_ | refine n9 ?_)
    (apply WL_effs; exact rfl; exact rfl; exact rfl; apply E_call; exact rfl; (intro _ _; simp); (exact bytes_fn (t.size + 1) t v (Nat.lt_succ_self _) hsm); (repeat (first | exact AllE.nil _ | (apply AllE.cons; (focus (first | exact ent_nilBy | exact ent_nilSl | (apply Ent.mem; repeat' (first | exact mcs | apply mct))))))); (intro _; exact rfl); (intro _; exact rfl))
    intro x _
    repeat (first | refine n1 ?_ | refine n2 (fun b _ => ?_) | refine n3 (fun _ _ => ?_) | refine n4 ?_ | refine n5 ?_ | refine WL_nil ?_ | refine W_seq ?_ | refine W_region ?_ | refine n7 ?_ | refine n8 ?_ | refine W_block ?_ | refine W_skip ?_ | refine W_ret ?_ | refine W_exit ?_ | refine WQ_then ?_ | refine WQ_then_ret ?_ | refine WQ_then_exit ?_ | refine WQ_block_normal ?_ | refine WQ_block_ret ?_ | refine WQ_block_exit ?_ | refine n9 ?_)
    refine WQ_letgoB (v := x) (by repeat' (first | exact Pick.head _ _ | apply Pick.tail)) rfl ?_
    ((apply ret2 Try.results86 ( x)); (focus (first | trivial | assumption | omega)); (focus (first | exact RV_tmp rfl | (apply RV_cellN; exact rfl; (repeat' (first | exact Pick.head _ _ | apply Pick.tail)); (intro _; exact rfl); (intro _; exact rfl); exact rfl) | (apply RV_cell1; exact rfl; (repeat' (first | exact Pick.head _ _ | apply Pick.tail)); (intro _; exact rfl); exact rfl))); (focus (first | exact RV_tmp rfl | (apply RV_cellN; exact rfl; (repeat' (first | exact Pick.head _ _ | apply Pick.tail)); (intro _; exact rfl); (intro _; exact rfl); exact rfl) | (apply RV_cell1; exact rfl; (repeat' (first | exact Pick.head _ _ | apply Pick.tail)); (intro _; exact rfl); exact rfl)));  (focus (first | exact rfl | (simp; done))); (focus (repeat (first | exact SubO.nil _ | (apply SubO.cons; (focus (repeat' (first | exact Pick.head _ _ | apply Pick.tail))))))); (focus (repeat (first | exact AllE.nil _ | (apply AllE.cons; (focus (first | exact ent_nilBy | exact ent_nilSl | (apply Ent.mem; repeat' (first | exact mcs | apply mct)))))))))
  · rw [encE_bad c]
    refine Ct_intro Try.func86 rfl Try.ntmps86 (by simp) _ rfl (fun w0 O0 => ?_)
    repeat (first | refine n1 ?_ | refine n2 (fun b _ => ?_) | refine n3 (fun _ _ => ?_) | refine n4 ?_ | refine n5 ?_ | refine n6 (h1) ?_ | refine n6v (h1) ?_ | refine WL_nil ?_ | refine W_seq ?_ | refine W_region ?_ | refine n7 ?_ | refine n8 ?_ | refine W_block ?_ | refine W_skip ?_ | refine W_ret ?_ | refine W_exit ?_ | refine WQ_then ?_ | refine WQ_then_ret ?_ | refine WQ_then_exit ?_ | refine WQ_block_normal ?_ | refine WQ_block_ret ?_ | refine WQ_block_exit ?_ | refine n9 ?_)
    ((apply ret2 Try.results86 ( Value.slice none 0 0)); (focus (first | trivial | assumption | omega)); (focus (first | exact RV_tmp rfl | (apply RV_cellN; exact rfl; (repeat' (first | exact Pick.head _ _ | apply Pick.tail)); (intro _; exact rfl); (intro _; exact rfl); exact rfl) | (apply RV_cell1; exact rfl; (repeat' (first | exact Pick.head _ _ | apply Pick.tail)); (intro _; exact rfl); exact rfl))); (focus (first | exact RV_tmp rfl | (apply RV_cellN; exact rfl; (repeat' (first | exact Pick.head _ _ | apply Pick.tail)); (intro _; exact rfl); (intro _; exact rfl); exact rfl) | (apply RV_cell1; exact rfl; (repeat' (first | exact Pick.head _ _ | apply Pick.tail)); (intro _; exact rfl); exact rfl)));  (focus (first | exact rfl | (simp; done))); (focus (repeat (first | exact SubO.nil _ | (apply SubO.cons; (focus (repeat' (first | exact Pick.head _ _ | apply Pick.tail))))))); (focus (repeat (first | exact AllE.nil _ | (apply AllE.cons; (focus (first | exact ent_nilBy | exact ent_nilSl | (apply Ent.mem; repeat' (first | exact mcs | apply mct)))))))))
end Go.Proofs.Ytoohgnegoaoleaa.C04

/-
  The program's walk over a list, as Check uses it.
-/
namespace Go.Proofs.Ytoohgnegoaoleaa.C04
open Go Go.RowKit Go.Hs
attribute [local irreducible] WL W WQ PL Runs Effs AllE Ent SubO FrIn Pick OneC Ones CellsE PartsE SeqE UZ By Sl Pt Ct

def nB (b : Bool) : Bool := ! b
set_option maxRecDepth 100000 in
set_option maxHeartbeats 8000000 in
theorem visit_fn (b1 b2 b3 n m dp : Nat) (b r : Bool) (id ext : UInt8) (dv : Value) (data : List UInt8) (sv : Value) (subs : T) (hn : n ≤ 1000000) (hm : m ≤ 1000000) (hd : dp ≤ 1000000) (hr : r = (b || ! own id ext data subs.er)) :
    Ct Try.prog 105 [.agg #[bcell id, bcell ext, dv, sv], .int .i64 (dp : Int), .pointer (some ⟨b1, 0, none⟩), .pointer (some ⟨b2, 0, none⟩), .pointer (some ⟨b3, 0, none⟩)]
      [.blk b1 3 [.int .i64 (n : Int)], .blk b2 3 [.int .i64 (m : Int)], .blk b3 4 [.bool b]] [By dv data, Rw 4 sv subs.len subs.at_]
      (X := Unit) (fun _ => True) (fun _ => .tuple #[]) (fun _ => [.blk b1 3 [.int .i64 ((n + 1 : Nat) : Int)], .blk b2 3 [.int .i64 ((max m dp : Nat) : Int)], .blk b3 4 [.bool r]]) (fun _ => []) := by
  have hcf := cont_fn id
  have hmx : (m < dp ∧ max m dp = dp) ∨ (¬ m < dp ∧ max m dp = m) := by omega
  have hsl : subs.len = 0 ↔ isN subs.er = true := by cases subs <;> simp [T.len, T.er, isN]
  rcases hmx with ⟨c0, hmx⟩ | ⟨c0, hmx⟩
  all_goals rw [hmx]
  all_goals
    cases b with
    | true =>
      obtain rfl : r = true := by simpa using hr
      cases c4 : contB id with
      | true =>
        rw [c4] at hcf
        refine Ct_intro Try.func105 rfl Try.ntmps105 (by simp) _ rfl (fun w0 O0 => ?_)
        repeat (first | refine n1 ?_ | refine n2 (fun b _ => ?_) | refine n3 (fun _ _ => ?_) | refine n4 ?_ | refine n5 ?_ | refine n6 (hcf) ?_ | refine n6v (hcf) ?_ | refine WL_nil ?_ | refine W_seq ?_ | refine W_region ?_ | refine n7 ?_ | refine n8 ?_ | refine W_block ?_ | refine W_skip ?_ | refine W_ret ?_ | refine W_exit ?_ | refine WQ_then ?_ | refine WQ_then_ret ?_ | refine WQ_then_exit ?_ | refine WQ_block_normal ?_ | refine WQ_block_ret ?_ | refine WQ_block_exit ?_ | refine n9 ?_)
        ((apply ret0 (by first | exact .inl rfl | exact .inr rfl) Try.results105 ( ())); (focus (first | trivial | assumption | omega)); (focus (first | exact rfl | (simp; done))); (focus (repeat (first | exact SubO.nil _ | (apply SubO.cons; (focus (repeat' (first | exact Pick.head _ _ | apply Pick.tail))))))); (focus (repeat (first | exact AllE.nil _ | (apply AllE.cons; (focus (first | exact ent_nilBy | exact ent_nilSl | (apply Ent.mem; repeat' (first | exact mcs | apply mct)))))))))
      | false =>
        rw [c4] at hcf
        refine Ct_intro Try.func105 rfl Try.ntmps105 (by simp) _ rfl (fun w0 O0 => ?_)
        repeat (first | refine n1 ?_ | refine n2 (fun b _ => ?_) | refine n3 (fun _ _ => ?_) | refine n4 ?_ | refine n5 ?_ | refine n6 (hcf) ?_ | refine n6v (hcf) ?_ | refine WL_nil ?_ | refine W_seq ?_ | refine W_region ?_ | refine n7 ?_ | refine n8 ?_ | refine W_block ?_ | refine W_skip ?_ | refine W_ret ?_ | refine W_exit ?_ | refine WQ_then ?_ | refine WQ_then_ret ?_ | refine WQ_then_exit ?_ | refine WQ_block_normal ?_ | refine WQ_block_ret ?_ | refine WQ_block_exit ?_ | refine n9 ?_)
        ((apply ret0 (by first | exact .inl rfl | exact .inr rfl) Try.results105 ( ())); (focus (first | trivial | assumption | omega)); (focus (first | exact rfl | (simp; done))); (focus (repeat (first | exact SubO.nil _ | (apply SubO.cons; (focus (repeat' (first | exact Pick.head _ _ | apply Pick.tail))))))); (focus (repeat (first | exact AllE.nil _ | (apply AllE.cons; (focus (first | exact ent_nilBy | exact ent_nilSl | (apply Ent.mem; repeat' (first | exact mcs | apply mct)))))))))
    | false =>
      rw [Bool.false_or] at hr
      by_cases c1 : id.toNat = 254
      · obtain rfl : id = 254 := (u8is (n := 254) (by decide)).2 c1
        obtain rfl : r = true := by simpa [own] using hr
        rw [cont254] at hcf
        refine Ct_intro Try.func105 rfl Try.ntmps105 (by simp) _ rfl (fun w0 O0 => ?_)
        repeat (first | refine n1 ?_ | refine n2 (fun b _ => ?_) | refine n3 (fun _ _ => ?_) | refine n4 ?_ | refine n5 ?_ | refine n6 (hcf) ?_ | refine n6v (hcf) ?_ | refine WL_nil ?_ | refine W_seq ?_ | refine W_region ?_ | refine n7 ?_ | refine n8 ?_ | refine W_block ?_ | refine W_skip ?_ | refine W_ret ?_ | refine W_exit ?_ | refine WQ_then ?_ | refine WQ_then_ret ?_ | refine WQ_then_exit ?_ | refine WQ_block_normal ?_ | refine WQ_block_ret ?_ | refine WQ_block_exit ?_ | refine n9 ?_)
        ((apply ret0 (by first | exact .inl rfl | exact .inr rfl) Try.results105 ( ())); (focus (first | trivial | assumption | omega)); (focus (first | exact rfl | (simp; done))); (focus (repeat (first | exact SubO.nil _ | (apply SubO.cons; (focus (repeat' (first | exact Pick.head _ _ | apply Pick.tail))))))); (focus (repeat (first | exact AllE.nil _ | (apply AllE.cons; (focus (first | exact ent_nilBy | exact ent_nilSl | (apply Ent.mem; repeat' (first | exact mcs | apply mct)))))))))
      · have c1' : ¬ id = 254 := fun h => c1 ((u8is (n := 254) (by decide)).1 h)
        by_cases c2 : id.toNat = 255
        · obtain rfl : id = 255 := (u8is (n := 255) (by decide)).2 c2
          rw [cont255] at hcf
          obtain rfl : r = ! decide ((subs.len : Int) = 0) := by
            rw [hr]
            simp only [own, cont255]
            by_cases h : subs.len = 0
            · simp [h, hsl.1 h]
            · have : isN subs.er = false := by simpa using fun h' => h (hsl.2 h')
              simp [h, this]
          refine Ct_intro Try.func105 rfl Try.ntmps105 (by simp) _ rfl (fun w0 O0 => ?_)
          repeat (first | refine n1 ?_ | refine n2 (fun b _ => ?_) | refine n3 (fun _ _ => ?_) | refine n4 ?_ | refine n5 ?_ | refine n6 (hcf) ?_ | refine n6v (hcf) ?_ | refine WL_nil ?_ | refine W_seq ?_ | refine W_region ?_ | refine n7 ?_ | refine n8 ?_ | refine W_block ?_ | refine W_skip ?_ | refine W_ret ?_ | refine W_exit ?_ | refine WQ_then ?_ | refine WQ_then_ret ?_ | refine WQ_then_exit ?_ | refine WQ_block_normal ?_ | refine WQ_block_ret ?_ | refine WQ_block_exit ?_ | refine n9 ?_)
          ((apply ret0 (by first | exact .inl rfl | exact .inr rfl) Try.results105 ( ())); (focus (first | trivial | assumption | omega)); (focus (first | exact rfl | (simp; done))); (focus (repeat (first | exact SubO.nil _ | (apply SubO.cons; (focus (repeat' (first | exact Pick.head _ _ | apply Pick.tail))))))); (focus (repeat (first | exact AllE.nil _ | (apply AllE.cons; (focus (first | exact ent_nilBy | exact ent_nilSl | (apply Ent.mem; repeat' (first | exact mcs | apply mct)))))))))
        · have c2' : ¬ id = 255 := fun h => c2 ((u8is (n := 255) (by decide)).1 h)
          by_cases c3 : ext.toNat = 0
          · obtain rfl : ext = 0 := (u8is (n := 0) (by decide)).2 c3
            cases c4 : contB id with
            | true =>
              rw [c4] at hcf
              obtain rfl : r = ! decide ((data.length : Int) = 0) := by
                rw [hr]
                cases data <;> simp [own, c1', c4]
                omega
              refine Ct_intro Try.func105 rfl Try.ntmps105 (by simp) _ rfl (fun w0 O0 => ?_)
              repeat (first | refine n1 ?_ | refine n2 (fun b _ => ?_) | refine n3 (fun _ _ => ?_) | refine n4 ?_ | refine n5 ?_ | refine n6 (hcf) ?_ | refine n6v (hcf) ?_ | refine WL_nil ?_ | refine W_seq ?_ | refine W_region ?_ | refine n7 ?_ | refine n8 ?_ | refine W_block ?_ | refine W_skip ?_ | refine W_ret ?_ | refine W_exit ?_ | refine WQ_then ?_ | refine WQ_then_ret ?_ | refine WQ_then_exit ?_ | refine WQ_block_normal ?_ | refine WQ_block_ret ?_ | refine WQ_block_exit ?_ | refine n9 ?_)
              ((apply ret0 (by first | exact .inl rfl | exact .inr rfl) Try.results105 ( ())); (focus (first | trivial | assumption | omega)); (focus (first | exact rfl | (simp; done))); (focus (repeat (first | exact SubO.nil _ | (apply SubO.cons; (focus (repeat' (first | exact Pick.head _ _ | apply Pick.tail))))))); (focus (repeat (first | exact AllE.nil _ | (apply AllE.cons; (focus (first | exact ent_nilBy | exact ent_nilSl | (apply Ent.mem; repeat' (first | exact mcs | apply mct)))))))))
            | false =>
              rw [c4] at hcf
              obtain rfl : r = ! decide ((subs.len : Int) = 0) := by
                rw [hr]
                by_cases h : subs.len = 0
                · simp [own, c1', c4, h, hsl.1 h]
                · have : isN subs.er = false := by simpa using fun h' => h (hsl.2 h')
                  simp [own, c1', c4, h, this]
              refine Ct_intro Try.func105 rfl Try.ntmps105 (by simp) _ rfl (fun w0 O0 => ?_)
              repeat (first | refine n1 ?_ | refine n2 (fun b _ => ?_) | refine n3 (fun _ _ => ?_) | refine n4 ?_ | refine n5 ?_ | refine n6 (hcf) ?_ | refine n6v (hcf) ?_ | refine WL_nil ?_ | refine W_seq ?_ | refine W_region ?_ | refine n7 ?_ | refine n8 ?_ | refine W_block ?_ | refine W_skip ?_ | refine W_ret ?_ | refine W_exit ?_ | refine WQ_then ?_ | refine WQ_then_ret ?_ | refine WQ_then_exit ?_ | refine WQ_block_normal ?_ | refine WQ_block_ret ?_ | refine WQ_block_exit ?_ | refine n9 ?_)
              ((apply ret0 (by first | exact .inl rfl | exact .inr rfl) Try.results105 ( ())); (focus (first | trivial | assumption | omega)); (focus (first | exact rfl | (simp; done))); (focus (repeat (first | exact SubO.nil _ | (apply SubO.cons; (focus (repeat' (first | exact Pick.head _ _ | apply Pick.tail))))))); (focus (repeat (first | exact AllE.nil _ | (apply AllE.cons; (focus (first | exact ent_nilBy | exact ent_nilSl | (apply Ent.mem; repeat' (first | exact mcs | apply mct)))))))))
          · have c3' : ¬ ext = 0 := fun h => c3 ((u8is (n := 0) (by decide)).1 h)
            obtain rfl : r = true := by simpa [own, c1', c2', c3'] using hr
            cases c4 : contB id with
            | true =>
              rw [c4] at hcf
              refine Ct_intro Try.func105 rfl Try.ntmps105 (by simp) _ rfl (fun w0 O0 => ?_)
              repeat (first | refine n1 ?_ | refine n2 (fun b _ => ?_) | refine n3 (fun _ _ => ?_) | refine n4 ?_ | refine n5 ?_ | refine n6 (hcf) ?_ | refine n6v (hcf) ?_ | refine WL_nil ?_ | refine W_seq ?_ | refine W_region ?_ | refine n7 ?_ | refine n8 ?_ | refine W_block ?_ | refine W_skip ?_ | refine W_ret ?_ | refine W_exit ?_ | refine WQ_then ?_ | refine WQ_then_ret ?_ | refine WQ_then_exit ?_ | refine WQ_block_normal ?_ | refine WQ_block_ret ?_ | refine WQ_block_exit ?_ | refine n9 ?_)
              ((apply ret0 (by first | exact .inl rfl | exact .inr rfl) Try.results105 ( ())); (focus (first | trivial | assumption | omega)); (focus (first | exact rfl | (simp; done))); (focus (repeat (first | exact SubO.nil _ | (apply SubO.cons; (focus (repeat' (first | exact Pick.head _ _ | apply Pick.tail))))))); (focus (repeat (first | exact AllE.nil _ | (apply AllE.cons; (focus (first | exact ent_nilBy | exact ent_nilSl | (apply Ent.mem; repeat' (first | exact mcs | apply mct)))))))))
            | false =>
              rw [c4] at hcf
              refine Ct_intro Try.func105 rfl Try.ntmps105 (by simp) _ rfl (fun w0 O0 => ?_)
              repeat (first | refine n1 ?_ | refine n2 (fun b _ => ?_) | refine n3 (fun _ _ => ?_) | refine n4 ?_ | refine n5 ?_ | refine n6 (hcf) ?_ | refine n6v (hcf) ?_ | refine WL_nil ?_ | refine W_seq ?_ | refine W_region ?_ | refine n7 ?_ | refine n8 ?_ | refine W_block ?_ | refine W_skip ?_ | refine W_ret ?_ | refine W_exit ?_ | refine WQ_then ?_ | refine WQ_then_ret ?_ | refine WQ_then_exit ?_ | refine WQ_block_normal ?_ | refine WQ_block_ret ?_ | refine WQ_block_exit ?_ | refine n9 ?_)
              ((apply ret0 (by first | exact .inl rfl | exact .inr rfl) Try.results105 ( ())); (focus (first | trivial | assumption | omega)); (focus (first | exact rfl | (simp; done))); (focus (repeat (first | exact SubO.nil _ | (apply SubO.cons; (focus (repeat' (first | exact Pick.head _ _ | apply Pick.tail))))))); (focus (repeat (first | exact AllE.nil _ | (apply AllE.cons; (focus (first | exact ent_nilBy | exact ent_nilSl | (apply Ent.mem; repeat' (first | exact mcs | apply mct)))))))))
end Go.Proofs.Ytoohgnegoaoleaa.C04
