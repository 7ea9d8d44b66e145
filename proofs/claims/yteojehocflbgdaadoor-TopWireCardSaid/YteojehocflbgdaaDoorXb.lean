/-
  Rules for walks, merged.
-/
import Derived.Test.YteojehocflbgdaaDoorXa
import Derived.RangeFuncLeaves
import Derived.DeepKeys
import Derived.Test.YteojehocflbgdaaDoorRows
import Derived.Lib.AppendZerosOnto
/-
  The steps of a walk, with the reckoning of each side goal by default. No program is named here.
-/
namespace Go.Hs
open Go Go.RowKit
attribute [local irreducible] WL W WQ PL Runs Effs AllE Ent SubO FrIn Pick OneC Ones CellsE PartsE SeqE UZ By Sl Pt Ct

section
variable {C : Ctx} {ops : Array Oper} {l : List Oper} {o : Oper} {d : Nat} {v : Value} {fr : Fr} {Γ Γs : List OA} {Φ : List SP} {Q : Exit → Act → World → Prop} {ψ : SP}
  {X : Type} {pf : X → Prop} {vx : X → Value} {Γ' : X → List OA} {Φ' : X → List SP} {es us π : List Nat} {i : Nat}

theorem n1 (k : WL C ops l ((d, v) :: fr) Γ Φ Q) (hg : gv ops fr o.guard = some true := by exact rfl) (hd : o.dst = some d := by exact rfl) (hn : Nat.blt d C.n = true := by exact rfl)
    (h : Runs C fr Γ Φ o v := by (first | (apply Go.Hs.R_move; exact rfl) | (apply Go.Hs.R_assign; exact rfl) | (apply Go.Hs.R_extract; exact rfl; exact rfl) | (apply Go.Hs.R_pick_t; exact rfl; exact rfl) | (apply Go.Hs.R_pick_f; exact rfl; exact rfl) | (apply Go.Hs.G_bin; (first | (apply Go.Hs.R_cmp; exact rfl; exact rfl; exact rfl; (first | exact decide_eq_true (by omega) | exact decide_eq_false (by omega) | exact rfl)) | (apply Go.Hs.R_ari; exact rfl; exact rfl; exact rfl; (first | exact Go.Hs.wx_i64 (by omega) | exact Go.Hs.wx_u8 (by omega) | exact Go.Hs.wx_u64 (by omega) | exact Go.Hs.wx_u32 (by omega) | exact Go.Hs.wx_u16 (by omega) | exact Go.Hs.wx_b8 _ | exact rfl)) | (apply Go.Hs.R_eqB; exact rfl; exact rfl; exact rfl; exact rfl) | (apply Go.Hs.R_neB; exact rfl; exact rfl; exact rfl; exact rfl) | (apply Go.Hs.R_eqS; exact rfl; exact rfl; (first | exact decide_eq_true rfl | exact decide_eq_true (by assumption) | exact decide_eq_false (by assumption) | exact rfl)) | (apply Go.Hs.R_neS; exact rfl; exact rfl; (first | exact Go.Hs.neS_f rfl | exact Go.Hs.neS_f (by assumption) | exact Go.Hs.neS_t (by assumption) | exact rfl)) | (apply Go.Hs.R_addS; exact rfl; exact rfl; (first | omega | (simp only [List.length_take, List.length_drop, List.length_append, List.length_cons, List.length_nil, List.length_map, List.length_replicate]; omega))) | (apply Go.Hs.R_eqA; exact rfl; exact rfl; exact rfl; exact rfl; (first | exact rfl | kernel_rfl); (first | exact rfl | kernel_rfl); (first | exact rfl | kernel_rfl); (first | exact Go.Hs.Bc.self _ | exact Go.Hs.Bc.zero | exact Go.Hs.Bc.lit _ rfl); (first | exact Go.Hs.Bc.self _ | exact Go.Hs.Bc.zero | exact Go.Hs.Bc.lit _ rfl); (first | exact Go.Hs.Bc.self _ | exact Go.Hs.Bc.zero | exact Go.Hs.Bc.lit _ rfl); (first | exact Go.Hs.Bc.self _ | exact Go.Hs.Bc.zero | exact Go.Hs.Bc.lit _ rfl); (first | exact Go.Hs.Bc.self _ | exact Go.Hs.Bc.zero | exact Go.Hs.Bc.lit _ rfl); (first | exact Go.Hs.Bc.self _ | exact Go.Hs.Bc.zero | exact Go.Hs.Bc.lit _ rfl); (first | exact Go.Hs.Bc.self _ | exact Go.Hs.Bc.zero | exact Go.Hs.Bc.lit _ rfl); (first | exact Go.Hs.Bc.self _ | exact Go.Hs.Bc.zero | exact Go.Hs.Bc.lit _ rfl); (first | exact Go.Hs.Bc.self _ | exact Go.Hs.Bc.zero | exact Go.Hs.Bc.lit _ rfl); (first | exact Go.Hs.Bc.self _ | exact Go.Hs.Bc.zero | exact Go.Hs.Bc.lit _ rfl); (first | exact Go.Hs.Bc.self _ | exact Go.Hs.Bc.zero | exact Go.Hs.Bc.lit _ rfl); (first | exact Go.Hs.Bc.self _ | exact Go.Hs.Bc.zero | exact Go.Hs.Bc.lit _ rfl); (first | exact decide_eq_true (by assumption) | exact decide_eq_false (by assumption) | exact decide_eq_true rfl | exact decide_eq_false (by decide) | exact rfl)) | (apply Go.Hs.R_neA; exact rfl; exact rfl; exact rfl; exact rfl; (first | exact rfl | kernel_rfl); (first | exact rfl | kernel_rfl); (first | exact rfl | kernel_rfl); (first | exact Go.Hs.Bc.self _ | exact Go.Hs.Bc.zero | exact Go.Hs.Bc.lit _ rfl); (first | exact Go.Hs.Bc.self _ | exact Go.Hs.Bc.zero | exact Go.Hs.Bc.lit _ rfl); (first | exact Go.Hs.Bc.self _ | exact Go.Hs.Bc.zero | exact Go.Hs.Bc.lit _ rfl); (first | exact Go.Hs.Bc.self _ | exact Go.Hs.Bc.zero | exact Go.Hs.Bc.lit _ rfl); (first | exact Go.Hs.Bc.self _ | exact Go.Hs.Bc.zero | exact Go.Hs.Bc.lit _ rfl); (first | exact Go.Hs.Bc.self _ | exact Go.Hs.Bc.zero | exact Go.Hs.Bc.lit _ rfl); (first | exact Go.Hs.Bc.self _ | exact Go.Hs.Bc.zero | exact Go.Hs.Bc.lit _ rfl); (first | exact Go.Hs.Bc.self _ | exact Go.Hs.Bc.zero | exact Go.Hs.Bc.lit _ rfl); (first | exact Go.Hs.Bc.self _ | exact Go.Hs.Bc.zero | exact Go.Hs.Bc.lit _ rfl); (first | exact Go.Hs.Bc.self _ | exact Go.Hs.Bc.zero | exact Go.Hs.Bc.lit _ rfl); (first | exact Go.Hs.Bc.self _ | exact Go.Hs.Bc.zero | exact Go.Hs.Bc.lit _ rfl); (first | exact Go.Hs.Bc.self _ | exact Go.Hs.Bc.zero | exact Go.Hs.Bc.lit _ rfl); (first | exact Go.Hs.neS_f' (by assumption) | exact Go.Hs.neS_t' (by assumption) | exact Go.Hs.neS_f' rfl | exact Go.Hs.neS_t' (by decide) | exact rfl)))) | (apply Go.Hs.G_load; (first | (apply Go.Hs.R_load1; exact rfl; (repeat' (first | exact Go.Hs.Pick.head _ _ | apply Go.Hs.Pick.tail)); (intro _; exact rfl); exact rfl) | (apply Go.Hs.R_loadN; exact rfl; (repeat' (first | exact Go.Hs.Pick.head _ _ | apply Go.Hs.Pick.tail)); (intro _; exact rfl); (intro _; exact rfl); exact rfl) | (apply Go.Hs.R_loadP; exact rfl; (repeat' (first | exact Go.Hs.mcs | apply Go.Hs.mct)); (intro _; exact rfl); exact rfl) | (apply Go.Hs.R_loadPN; exact rfl; (repeat' (first | exact Go.Hs.mcs | apply Go.Hs.mct)); (intro _; exact rfl); (intro _; exact rfl)) | (apply Go.Hs.R_loadPT; exact rfl; (repeat' (first | exact Go.Hs.mcs | apply Go.Hs.mct)); (intro _; exact rfl); (intro _; exact rfl); exact rfl) | (apply Go.Hs.R_loadPO; exact rfl; (repeat' (first | exact Go.Hs.mcs | apply Go.Hs.mct)); (intro _; exact rfl); exact rfl) | (apply Go.Hs.R_loadPON; exact rfl; (repeat' (first | exact Go.Hs.mcs | apply Go.Hs.mct)); (intro _; exact rfl); (intro _; exact rfl); exact rfl) | (apply Go.Hs.R_loadRow; exact rfl; (repeat' (first | exact Go.Hs.Pick.head _ _ | apply Go.Hs.Pick.tail)); (intro _; exact rfl); (first | omega | (simp only [List.length_take, List.length_drop, List.length_append, List.length_cons, List.length_nil, List.length_map, List.length_replicate]; omega)); (assumption)) | (apply Go.Hs.R_loadRowF; exact rfl; (repeat' (first | exact Go.Hs.Pick.head _ _ | apply Go.Hs.Pick.tail)); (intro _; exact rfl); (assumption)))) | (apply Go.Hs.R_fieldO0; exact rfl; exact rfl; exact rfl; (intro _; exact rfl); exact rfl) | (apply Go.Hs.R_fieldO; exact rfl; exact rfl; exact rfl; (intro _; exact rfl); exact rfl) | (apply Go.Hs.R_not; exact rfl; exact rfl) | (apply Go.Hs.G_call; (first | (apply Go.Hs.R_lenBy; exact rfl; (repeat' (first | exact Go.Hs.mcs | apply Go.Hs.mct)); exact rfl) | (apply Go.Hs.R_lenRow; exact rfl; (repeat' (first | exact Go.Hs.Pick.head _ _ | apply Go.Hs.Pick.tail)); exact rfl) | (apply Go.Hs.R_lenSl; exact rfl; (repeat' (first | exact Go.Hs.mcs | apply Go.Hs.mct)); exact rfl) | (apply Go.Hs.R_lenRw; exact rfl; (repeat' (first | exact Go.Hs.mcs | apply Go.Hs.mct)); exact rfl) | (apply Go.Hs.R_lenNil; exact rfl; exact rfl) | (apply Go.Hs.R_max2; exact rfl; exact rfl; (first | exact if_pos (by omega) | exact if_neg (by omega))) | (apply Go.Hs.R_min2; exact rfl; exact rfl; (first | exact if_pos (by omega) | exact if_neg (by omega))))) | (apply Go.Hs.R_convi; exact rfl; exact rfl; exact rfl; (first | exact Go.Hs.wx_i64 (by omega) | exact Go.Hs.wx_u8 (by omega) | exact Go.Hs.wx_u64 (by omega) | exact Go.Hs.wx_u32 (by omega) | exact Go.Hs.wx_u16 (by omega) | exact Go.Hs.wx_b8 _ | exact rfl)) | (apply Go.Hs.R_toStr; exact rfl; (repeat' (first | exact Go.Hs.mcs | apply Go.Hs.mct)); exact rfl; exact rfl; exact rfl) | (apply Go.Hs.R_toStrRow; exact rfl; (repeat' (first | exact Go.Hs.Pick.head _ _ | apply Go.Hs.Pick.tail)); (first | exact Go.Hs.nil_map | exact Go.Hs.one_map _ | exact Go.Hs.two_map _ _ | exact rfl); exact rfl; exact rfl; exact rfl) | (apply Go.Hs.R_build; exact rfl; (focus (repeat (first | apply Go.Hs.PartsE.nil | (apply Go.Hs.PartsE.cons; (focus (first | (apply Go.Hs.CellsE.lit; exact rfl) | (apply Go.Hs.CellsE.one; (first | (apply Go.Hs.OneC.lit; exact rfl) | (apply Go.Hs.OneC.by_; (repeat' (first | exact Go.Hs.mcs | apply Go.Hs.mct)); done) | (apply Go.Hs.OneC.sl; (repeat' (first | exact Go.Hs.mcs | apply Go.Hs.mct)); done) | (apply Go.Hs.OneC.rw; (repeat' (first | exact Go.Hs.mcs | apply Go.Hs.mct)); done) | (apply Go.Hs.OneC.row; (repeat' (first | exact Go.Hs.Pick.head _ _ | apply Go.Hs.Pick.tail))))))))))); (intro _; exact rfl); exact rfl; exact rfl; (intro _; go_simp; exact rfl); exact rfl) | (apply Go.Hs.R_buildArr; exact rfl; (focus (repeat (first | apply Go.Hs.SeqE.nil | (apply Go.Hs.SeqE.cons; exact rfl; (focus (first | (apply Go.Hs.CellsE.lit; exact rfl) | (apply Go.Hs.CellsE.one; (first | (apply Go.Hs.OneC.lit; exact rfl) | (apply Go.Hs.OneC.by_; (repeat' (first | exact Go.Hs.mcs | apply Go.Hs.mct)); done) | (apply Go.Hs.OneC.sl; (repeat' (first | exact Go.Hs.mcs | apply Go.Hs.mct)); done) | (apply Go.Hs.OneC.rw; (repeat' (first | exact Go.Hs.mcs | apply Go.Hs.mct)); done) | (apply Go.Hs.OneC.row; (repeat' (first | exact Go.Hs.Pick.head _ _ | apply Go.Hs.Pick.tail))))))); exact rfl) | exact rfl))); (intro _; exact rfl); exact rfl; exact rfl; (intro _; exact rfl); exact rfl; exact rfl) | (apply Go.Hs.R_field1; exact rfl; exact rfl; exact rfl; (intro _; exact rfl); exact rfl) | (apply Go.Hs.R_fieldN; exact rfl; exact rfl; exact rfl; (intro _; exact rfl); (intro _; exact rfl); exact rfl) | (apply Go.Hs.R_nilCheck; exact rfl) | (apply Go.Hs.R_makeFunc; exact rfl) | (apply Go.Hs.R_makeFunc1; exact rfl) | (apply Go.Hs.R_idxRow; exact rfl; exact rfl; (repeat' (first | exact Go.Hs.Pick.head _ _ | apply Go.Hs.Pick.tail)); exact rfl; (intro _; exact rfl); (focus (first | exact Go.Hs.lit0 | exact Go.Hs.lit1 | exact Go.Hs.lit2 | exact Go.Hs.lit3 | exact Go.Hs.lit4 | exact Go.Hs.lit5 | exact Go.Hs.lit6 | exact Go.Hs.lit7 | exact Go.Hs.lit8 | exact rfl | (simp; done) | omega)); (first | omega | (simp only [List.length_take, List.length_drop, List.length_append, List.length_cons, List.length_nil, List.length_map, List.length_replicate]; omega))) | (apply Go.Hs.R_fieldRow; exact rfl; (repeat' (first | exact Go.Hs.Pick.head _ _ | apply Go.Hs.Pick.tail)); (first | omega | (simp only [List.length_take, List.length_drop, List.length_append, List.length_cons, List.length_nil, List.length_map, List.length_replicate]; omega)); exact rfl; exact rfl; (intro _; exact rfl); exact rfl) | (apply Go.Hs.R_idxArr; exact rfl; exact rfl; exact rfl; (intro _; exact rfl); (focus (first | exact Go.Hs.lit0 | exact Go.Hs.lit1 | exact Go.Hs.lit2 | exact Go.Hs.lit3 | exact Go.Hs.lit4 | exact Go.Hs.lit5 | exact Go.Hs.lit6 | exact Go.Hs.lit7 | exact Go.Hs.lit8 | exact rfl | (simp; done) | omega)); (first | omega | (simp only [List.length_take, List.length_drop, List.length_append, List.length_cons, List.length_nil, List.length_map, List.length_replicate]; omega))) | (apply Go.Hs.R_sliceArr; exact rfl; exact rfl; (intro _; exact rfl); exact rfl))) : WL C ops (o :: l) fr Γ Φ Q := WL_runs hg hd hn h k
theorem n2 (k : ∀ x, pf x → WL C ops l ((d, vx x) :: fr) (Γ' x) (Φ' x) Q) (hg : gv ops fr o.guard = some true := by exact rfl) (hd : o.dst = some d := by exact rfl) (hn : Nat.blt d C.n = true := by exact rfl)
    (h : Effs C fr Γ Φ o pf vx Γ' Φ' := by (first | (apply Go.Hs.E_alloc; (intro _; exact rfl); exact rfl) | (apply Go.Hs.E_box; exact rfl; (focus (first | (apply Go.Hs.CellsE.lit; exact rfl) | (apply Go.Hs.CellsE.one; (first | (apply Go.Hs.OneC.lit; exact rfl) | (apply Go.Hs.OneC.by_; (repeat' (first | exact Go.Hs.mcs | apply Go.Hs.mct)); done) | (apply Go.Hs.OneC.sl; (repeat' (first | exact Go.Hs.mcs | apply Go.Hs.mct)); done) | (apply Go.Hs.OneC.rw; (repeat' (first | exact Go.Hs.mcs | apply Go.Hs.mct)); done) | (apply Go.Hs.OneC.row; (repeat' (first | exact Go.Hs.Pick.head _ _ | apply Go.Hs.Pick.tail)))))))))) : WL C ops (o :: l) fr Γ Φ Q := WL_effs hg hd hn h k
theorem n3 (k : ∀ x, pf x → WL C ops l fr (Γ' x) (Φ' x) Q) (hg : gv ops fr o.guard = some true := by exact rfl) (hd : o.dst = none := by exact rfl)
    (h : Effs C fr Γ Φ o pf vx Γ' Φ' := by (first | (apply Go.Hs.E_store; exact rfl; exact rfl; (repeat' (first | exact Go.Hs.Pick.head _ _ | apply Go.Hs.Pick.tail)); (focus (first | (apply Go.Hs.CellsE.lit; exact rfl) | (apply Go.Hs.CellsE.one; (first | (apply Go.Hs.OneC.lit; exact rfl) | (apply Go.Hs.OneC.by_; (repeat' (first | exact Go.Hs.mcs | apply Go.Hs.mct)); done) | (apply Go.Hs.OneC.sl; (repeat' (first | exact Go.Hs.mcs | apply Go.Hs.mct)); done) | (apply Go.Hs.OneC.rw; (repeat' (first | exact Go.Hs.mcs | apply Go.Hs.mct)); done) | (apply Go.Hs.OneC.row; (repeat' (first | exact Go.Hs.Pick.head _ _ | apply Go.Hs.Pick.tail))))))); (intro _; exact rfl); (focus (repeat (first | apply Go.Hs.Ones.nil | exact Go.Hs.Ones.bytes | (apply Go.Hs.Ones.cons; (focus (first | (apply Go.Hs.OneC.lit; exact rfl) | (apply Go.Hs.OneC.by_; (repeat' (first | exact Go.Hs.mcs | apply Go.Hs.mct)); done) | (apply Go.Hs.OneC.sl; (repeat' (first | exact Go.Hs.mcs | apply Go.Hs.mct)); done) | (apply Go.Hs.OneC.rw; (repeat' (first | exact Go.Hs.mcs | apply Go.Hs.mct)); done) | (apply Go.Hs.OneC.row; (repeat' (first | exact Go.Hs.Pick.head _ _ | apply Go.Hs.Pick.tail))))))))); exact rfl))) : WL C ops (o :: l) fr Γ Φ Q := WL_do hg hd h k
theorem n4 (k : WL C ops l ((d, v) :: fr) Γ (ψ :: Φ) Q) (hg : gv ops fr o.guard = some true := by exact rfl) (hd : o.dst = some d := by exact rfl) (hn : Nat.blt d C.n = true := by exact rfl)
    (h : Runs C fr Γ Φ o v ∧ Ent Φ ψ := by (first | (apply Go.Hs.R_idxBy; exact rfl; exact rfl; (repeat' (first | exact Go.Hs.mcs | apply Go.Hs.mct)); exact rfl; (intro _; exact rfl); (focus (first | exact Go.Hs.lit0 | exact Go.Hs.lit1 | exact Go.Hs.lit2 | exact Go.Hs.lit3 | exact Go.Hs.lit4 | exact Go.Hs.lit5 | exact Go.Hs.lit6 | exact Go.Hs.lit7 | exact Go.Hs.lit8 | exact rfl | (simp; done) | omega)); (first | omega | (simp only [List.length_take, List.length_drop, List.length_append, List.length_cons, List.length_nil, List.length_map, List.length_replicate]; omega))) | (apply Go.Hs.R_idxRw; exact rfl; exact rfl; (repeat' (first | exact Go.Hs.mcs | apply Go.Hs.mct)); exact rfl; (intro _; exact rfl); (focus (first | exact Go.Hs.lit0 | exact Go.Hs.lit1 | exact Go.Hs.lit2 | exact Go.Hs.lit3 | exact Go.Hs.lit4 | exact Go.Hs.lit5 | exact Go.Hs.lit6 | exact Go.Hs.lit7 | exact Go.Hs.lit8 | exact rfl | (simp; done) | omega)); (first | omega | (simp only [List.length_take, List.length_drop, List.length_append, List.length_cons, List.length_nil, List.length_map, List.length_replicate]; omega)); (first | assumption | exact rfl)) | (apply Go.Hs.R_cutBy; exact rfl; (repeat' (first | exact Go.Hs.mcs | apply Go.Hs.mct)); exact rfl; (intro _; exact rfl); exact rfl; exact rfl; (focus (first | exact Go.Hs.lit0 | exact Go.Hs.lit1 | exact Go.Hs.lit2 | exact Go.Hs.lit3 | exact Go.Hs.lit4 | exact Go.Hs.lit5 | exact Go.Hs.lit6 | exact Go.Hs.lit7 | exact Go.Hs.lit8 | exact rfl | (simp; done) | omega)); (focus (first | exact Go.Hs.lit0 | exact Go.Hs.lit1 | exact Go.Hs.lit2 | exact Go.Hs.lit3 | exact Go.Hs.lit4 | exact Go.Hs.lit5 | exact Go.Hs.lit6 | exact Go.Hs.lit7 | exact Go.Hs.lit8 | exact rfl | (simp; done) | omega)); (first | omega | (simp only [List.length_take, List.length_drop, List.length_append, List.length_cons, List.length_nil, List.length_map, List.length_replicate]; omega)); (first | omega | (simp only [List.length_take, List.length_drop, List.length_append, List.length_cons, List.length_nil, List.length_map, List.length_replicate]; omega)); (focus ((try (conv => lhs; simp only [Nat.add_sub_cancel_left, Nat.sub_zero, List.drop_zero, List.nil_append])); (first | done | exact rfl)))) | (apply Go.Hs.R_fieldP; exact rfl; (repeat' (first | exact Go.Hs.mcs | apply Go.Hs.mct)); exact rfl; exact rfl; (intro _; exact rfl); exact rfl; exact rfl))) : WL C ops (o :: l) fr Γ Φ Q := WL_runsF hg hd hn h k
theorem n5 (k : WL C ops l ((d, undef) :: fr) Γ Φ Q) (hg : gv ops fr o.guard = some false := by exact rfl) (hd : o.dst = some d := by exact rfl) (hn : Nat.blt d C.n = true := by exact rfl) :
    WL C ops (o :: l) fr Γ Φ Q := WL_pass hg hd hn k
theorem n6 {f : FuncId} {args : List Operand} {argTypes : Array TypeId} {vs : List Value} {Φp : List SP} {ty : TypeId} {pos : String} {aft : Array Edge} {g : Option (Nat × Bool)} (hfn : CtD C.P f vs Φp v) (k : WL C ops l ((d, v) :: fr) Γ Φ Q)
    (hg : gv ops fr g = some true := by exact rfl) (hn : Nat.blt d C.n = true := by exact rfl) (ha : evOs fr args = some vs := by exact rfl)
    (hrun : ∀ (aas : Array Value) (w : World), (callFunc f aas).run C.P w = .ok (.enter f aas) w := by (intro _ _; simp)) (hin : AllE Φp Φ := by (first | ((repeat (first | exact Go.Hs.AllE.nil _ | (apply Go.Hs.AllE.cons; (focus (first | exact Go.Hs.ent_nilBy | exact Go.Hs.ent_nilSl | (apply Go.Hs.Ent.mem; repeat' (first | exact Go.Hs.mcs | apply Go.Hs.mct))))))); done) | fail)) : WL C ops (⟨some d, .call { callee := .value (.func f), args := args.toArray, argTypes := argTypes }, ty, pos, aft, g⟩ :: l) fr Γ Φ Q :=
  WL_runs hg rfl hn (R_call ha hrun hfn hin) k
theorem n6v {fn : FuncId} {callee : Operand} {first captured : Array Value} {aas : List Value} {args : List Operand} {argTypes : Array TypeId} {vs : List Value} {Φp : List SP} {ty : TypeId} {pos : String} {aft : Array Edge} {g : Option (Nat × Bool)} (hfn : CtD C.P fn aas Φp v) (k : WL C ops l ((d, v) :: fr) Γ Φ Q)
    (hc : evO fr callee = some (.func (.func fn) first captured) := by exact rfl) (hg : gv ops fr g = some true := by exact rfl) (hn : Nat.blt d C.n = true := by exact rfl) (ha : evOs fr args = some vs := by exact rfl) (has : first.toList ++ vs ++ captured.toList = aas := by exact rfl)
    (hrun : ∀ (aas : Array Value) (w : World), (callFunc fn aas).run C.P w = .ok (.enter fn aas) w := by (intro _ _; simp)) (hin : AllE Φp Φ := by (first | ((repeat (first | exact Go.Hs.AllE.nil _ | (apply Go.Hs.AllE.cons; (focus (first | exact Go.Hs.ent_nilBy | exact Go.Hs.ent_nilSl | (apply Go.Hs.Ent.mem; repeat' (first | exact Go.Hs.mcs | apply Go.Hs.mct))))))); done) | fail)) : WL C ops (⟨some d, .call { callee := .value callee, args := args.toArray, argTypes := argTypes }, ty, pos, aft, g⟩ :: l) fr Γ Φ Q :=
  WL_runs hg rfl hn (R_callG hc ha has hrun hfn hin) k
theorem n7 {c : Operand} {x y : Code} (h : W C x fr Γ Φ Q) (hc : evO fr c = some (.bool true) := by exact rfl) : W C (.cond c x y) fr Γ Φ Q := W_cond_t hc h
theorem n8 {c : Operand} {x y : Code} (h : W C y fr Γ Φ Q) (hc : evO fr c = some (.bool false) := by exact rfl) : W C (.cond c x y) fr Γ Φ Q := W_cond_f hc h
theorem n9 {id i : Nat} (h : WQ C (.exit i) fr Γ Φ Q) (hne : Nat.beq i id = false := by exact rfl) : WQ C (.exit i) fr Γ Φ (Exit.inBlock id Q) := WQ_block_other hne h

theorem p1 (k : PL C ops Γs es us Q π ((d, v) :: fr) Γ Φ) (he : clsOf es us i = 0 := by exact rfl) (ho : lget ops.toList i = some o := by exact rfl) (hg : gv ops fr o.guard = some true := by exact rfl) (hd : o.dst = some d := by exact rfl) (hn : Nat.blt d C.n = true := by exact rfl)
    (h : Runs C fr Γs Φ o v := by (first | (apply Go.Hs.R_move; exact rfl) | (apply Go.Hs.R_assign; exact rfl) | (apply Go.Hs.R_extract; exact rfl; exact rfl) | (apply Go.Hs.R_pick_t; exact rfl; exact rfl) | (apply Go.Hs.R_pick_f; exact rfl; exact rfl) | (apply Go.Hs.G_bin; (first | (apply Go.Hs.R_cmp; exact rfl; exact rfl; exact rfl; (first | exact decide_eq_true (by omega) | exact decide_eq_false (by omega) | exact rfl)) | (apply Go.Hs.R_ari; exact rfl; exact rfl; exact rfl; (first | exact Go.Hs.wx_i64 (by omega) | exact Go.Hs.wx_u8 (by omega) | exact Go.Hs.wx_u64 (by omega) | exact Go.Hs.wx_u32 (by omega) | exact Go.Hs.wx_u16 (by omega) | exact Go.Hs.wx_b8 _ | exact rfl)) | (apply Go.Hs.R_eqB; exact rfl; exact rfl; exact rfl; exact rfl) | (apply Go.Hs.R_neB; exact rfl; exact rfl; exact rfl; exact rfl) | (apply Go.Hs.R_eqS; exact rfl; exact rfl; (first | exact decide_eq_true rfl | exact decide_eq_true (by assumption) | exact decide_eq_false (by assumption) | exact rfl)) | (apply Go.Hs.R_neS; exact rfl; exact rfl; (first | exact Go.Hs.neS_f rfl | exact Go.Hs.neS_f (by assumption) | exact Go.Hs.neS_t (by assumption) | exact rfl)) | (apply Go.Hs.R_addS; exact rfl; exact rfl; (first | omega | (simp only [List.length_take, List.length_drop, List.length_append, List.length_cons, List.length_nil, List.length_map, List.length_replicate]; omega))) | (apply Go.Hs.R_eqA; exact rfl; exact rfl; exact rfl; exact rfl; (first | exact rfl | kernel_rfl); (first | exact rfl | kernel_rfl); (first | exact rfl | kernel_rfl); (first | exact Go.Hs.Bc.self _ | exact Go.Hs.Bc.zero | exact Go.Hs.Bc.lit _ rfl); (first | exact Go.Hs.Bc.self _ | exact Go.Hs.Bc.zero | exact Go.Hs.Bc.lit _ rfl); (first | exact Go.Hs.Bc.self _ | exact Go.Hs.Bc.zero | exact Go.Hs.Bc.lit _ rfl); (first | exact Go.Hs.Bc.self _ | exact Go.Hs.Bc.zero | exact Go.Hs.Bc.lit _ rfl); (first | exact Go.Hs.Bc.self _ | exact Go.Hs.Bc.zero | exact Go.Hs.Bc.lit _ rfl); (first | exact Go.Hs.Bc.self _ | exact Go.Hs.Bc.zero | exact Go.Hs.Bc.lit _ rfl); (first | exact Go.Hs.Bc.self _ | exact Go.Hs.Bc.zero | exact Go.Hs.Bc.lit _ rfl); (first | exact Go.Hs.Bc.self _ | exact Go.Hs.Bc.zero | exact Go.Hs.Bc.lit _ rfl); (first | exact Go.Hs.Bc.self _ | exact Go.Hs.Bc.zero | exact Go.Hs.Bc.lit _ rfl); (first | exact Go.Hs.Bc.self _ | exact Go.Hs.Bc.zero | exact Go.Hs.Bc.lit _ rfl); (first | exact Go.Hs.Bc.self _ | exact Go.Hs.Bc.zero | exact Go.Hs.Bc.lit _ rfl); (first | exact Go.Hs.Bc.self _ | exact Go.Hs.Bc.zero | exact Go.Hs.Bc.lit _ rfl); (first | exact decide_eq_true (by assumption) | exact decide_eq_false (by assumption) | exact decide_eq_true rfl | exact decide_eq_false (by decide) | exact rfl)) | (apply Go.Hs.R_neA; exact rfl; exact rfl; exact rfl; exact rfl; (first | exact rfl | kernel_rfl); (first | exact rfl | kernel_rfl); (first | exact rfl | kernel_rfl); (first | exact Go.Hs.Bc.self _ | exact Go.Hs.Bc.zero | exact Go.Hs.Bc.lit _ rfl); (first | exact Go.Hs.Bc.self _ | exact Go.Hs.Bc.zero | exact Go.Hs.Bc.lit _ rfl); (first | exact Go.Hs.Bc.self _ | exact Go.Hs.Bc.zero | exact Go.Hs.Bc.lit _ rfl); (first | exact Go.Hs.Bc.self _ | exact Go.Hs.Bc.zero | exact Go.Hs.Bc.lit _ rfl); (first | exact Go.Hs.Bc.self _ | exact Go.Hs.Bc.zero | exact Go.Hs.Bc.lit _ rfl); (first | exact Go.Hs.Bc.self _ | exact Go.Hs.Bc.zero | exact Go.Hs.Bc.lit _ rfl); (first | exact Go.Hs.Bc.self _ | exact Go.Hs.Bc.zero | exact Go.Hs.Bc.lit _ rfl); (first | exact Go.Hs.Bc.self _ | exact Go.Hs.Bc.zero | exact Go.Hs.Bc.lit _ rfl); (first | exact Go.Hs.Bc.self _ | exact Go.Hs.Bc.zero | exact Go.Hs.Bc.lit _ rfl); (first | exact Go.Hs.Bc.self _ | exact Go.Hs.Bc.zero | exact Go.Hs.Bc.lit _ rfl); (first | exact Go.Hs.Bc.self _ | exact Go.Hs.Bc.zero | exact Go.Hs.Bc.lit _ rfl); (first | exact Go.Hs.Bc.self _ | exact Go.Hs.Bc.zero | exact Go.Hs.Bc.lit _ rfl); (first | exact Go.Hs.neS_f' (by assumption) | exact Go.Hs.neS_t' (by assumption) | exact Go.Hs.neS_f' rfl | exact Go.Hs.neS_t' (by decide) | exact rfl)))) | (apply Go.Hs.G_load; (first | (apply Go.Hs.R_load1; exact rfl; (repeat' (first | exact Go.Hs.Pick.head _ _ | apply Go.Hs.Pick.tail)); (intro _; exact rfl); exact rfl) | (apply Go.Hs.R_loadN; exact rfl; (repeat' (first | exact Go.Hs.Pick.head _ _ | apply Go.Hs.Pick.tail)); (intro _; exact rfl); (intro _; exact rfl); exact rfl) | (apply Go.Hs.R_loadP; exact rfl; (repeat' (first | exact Go.Hs.mcs | apply Go.Hs.mct)); (intro _; exact rfl); exact rfl) | (apply Go.Hs.R_loadPN; exact rfl; (repeat' (first | exact Go.Hs.mcs | apply Go.Hs.mct)); (intro _; exact rfl); (intro _; exact rfl)) | (apply Go.Hs.R_loadPT; exact rfl; (repeat' (first | exact Go.Hs.mcs | apply Go.Hs.mct)); (intro _; exact rfl); (intro _; exact rfl); exact rfl) | (apply Go.Hs.R_loadPO; exact rfl; (repeat' (first | exact Go.Hs.mcs | apply Go.Hs.mct)); (intro _; exact rfl); exact rfl) | (apply Go.Hs.R_loadPON; exact rfl; (repeat' (first | exact Go.Hs.mcs | apply Go.Hs.mct)); (intro _; exact rfl); (intro _; exact rfl); exact rfl) | (apply Go.Hs.R_loadRow; exact rfl; (repeat' (first | exact Go.Hs.Pick.head _ _ | apply Go.Hs.Pick.tail)); (intro _; exact rfl); (first | omega | (simp only [List.length_take, List.length_drop, List.length_append, List.length_cons, List.length_nil, List.length_map, List.length_replicate]; omega)); (assumption)) | (apply Go.Hs.R_loadRowF; exact rfl; (repeat' (first | exact Go.Hs.Pick.head _ _ | apply Go.Hs.Pick.tail)); (intro _; exact rfl); (assumption)))) | (apply Go.Hs.R_fieldO0; exact rfl; exact rfl; exact rfl; (intro _; exact rfl); exact rfl) | (apply Go.Hs.R_fieldO; exact rfl; exact rfl; exact rfl; (intro _; exact rfl); exact rfl) | (apply Go.Hs.R_not; exact rfl; exact rfl) | (apply Go.Hs.G_call; (first | (apply Go.Hs.R_lenBy; exact rfl; (repeat' (first | exact Go.Hs.mcs | apply Go.Hs.mct)); exact rfl) | (apply Go.Hs.R_lenRow; exact rfl; (repeat' (first | exact Go.Hs.Pick.head _ _ | apply Go.Hs.Pick.tail)); exact rfl) | (apply Go.Hs.R_lenSl; exact rfl; (repeat' (first | exact Go.Hs.mcs | apply Go.Hs.mct)); exact rfl) | (apply Go.Hs.R_lenRw; exact rfl; (repeat' (first | exact Go.Hs.mcs | apply Go.Hs.mct)); exact rfl) | (apply Go.Hs.R_lenNil; exact rfl; exact rfl) | (apply Go.Hs.R_max2; exact rfl; exact rfl; (first | exact if_pos (by omega) | exact if_neg (by omega))) | (apply Go.Hs.R_min2; exact rfl; exact rfl; (first | exact if_pos (by omega) | exact if_neg (by omega))))) | (apply Go.Hs.R_convi; exact rfl; exact rfl; exact rfl; (first | exact Go.Hs.wx_i64 (by omega) | exact Go.Hs.wx_u8 (by omega) | exact Go.Hs.wx_u64 (by omega) | exact Go.Hs.wx_u32 (by omega) | exact Go.Hs.wx_u16 (by omega) | exact Go.Hs.wx_b8 _ | exact rfl)) | (apply Go.Hs.R_toStr; exact rfl; (repeat' (first | exact Go.Hs.mcs | apply Go.Hs.mct)); exact rfl; exact rfl; exact rfl) | (apply Go.Hs.R_toStrRow; exact rfl; (repeat' (first | exact Go.Hs.Pick.head _ _ | apply Go.Hs.Pick.tail)); (first | exact Go.Hs.nil_map | exact Go.Hs.one_map _ | exact Go.Hs.two_map _ _ | exact rfl); exact rfl; exact rfl; exact rfl) | (apply Go.Hs.R_build; exact rfl; (focus (repeat (first | apply Go.Hs.PartsE.nil | (apply Go.Hs.PartsE.cons; (focus (first | (apply Go.Hs.CellsE.lit; exact rfl) | (apply Go.Hs.CellsE.one; (first | (apply Go.Hs.OneC.lit; exact rfl) | (apply Go.Hs.OneC.by_; (repeat' (first | exact Go.Hs.mcs | apply Go.Hs.mct)); done) | (apply Go.Hs.OneC.sl; (repeat' (first | exact Go.Hs.mcs | apply Go.Hs.mct)); done) | (apply Go.Hs.OneC.rw; (repeat' (first | exact Go.Hs.mcs | apply Go.Hs.mct)); done) | (apply Go.Hs.OneC.row; (repeat' (first | exact Go.Hs.Pick.head _ _ | apply Go.Hs.Pick.tail))))))))))); (intro _; exact rfl); exact rfl; exact rfl; (intro _; go_simp; exact rfl); exact rfl) | (apply Go.Hs.R_buildArr; exact rfl; (focus (repeat (first | apply Go.Hs.SeqE.nil | (apply Go.Hs.SeqE.cons; exact rfl; (focus (first | (apply Go.Hs.CellsE.lit; exact rfl) | (apply Go.Hs.CellsE.one; (first | (apply Go.Hs.OneC.lit; exact rfl) | (apply Go.Hs.OneC.by_; (repeat' (first | exact Go.Hs.mcs | apply Go.Hs.mct)); done) | (apply Go.Hs.OneC.sl; (repeat' (first | exact Go.Hs.mcs | apply Go.Hs.mct)); done) | (apply Go.Hs.OneC.rw; (repeat' (first | exact Go.Hs.mcs | apply Go.Hs.mct)); done) | (apply Go.Hs.OneC.row; (repeat' (first | exact Go.Hs.Pick.head _ _ | apply Go.Hs.Pick.tail))))))); exact rfl) | exact rfl))); (intro _; exact rfl); exact rfl; exact rfl; (intro _; exact rfl); exact rfl; exact rfl) | (apply Go.Hs.R_field1; exact rfl; exact rfl; exact rfl; (intro _; exact rfl); exact rfl) | (apply Go.Hs.R_fieldN; exact rfl; exact rfl; exact rfl; (intro _; exact rfl); (intro _; exact rfl); exact rfl) | (apply Go.Hs.R_nilCheck; exact rfl) | (apply Go.Hs.R_makeFunc; exact rfl) | (apply Go.Hs.R_makeFunc1; exact rfl) | (apply Go.Hs.R_idxRow; exact rfl; exact rfl; (repeat' (first | exact Go.Hs.Pick.head _ _ | apply Go.Hs.Pick.tail)); exact rfl; (intro _; exact rfl); (focus (first | exact Go.Hs.lit0 | exact Go.Hs.lit1 | exact Go.Hs.lit2 | exact Go.Hs.lit3 | exact Go.Hs.lit4 | exact Go.Hs.lit5 | exact Go.Hs.lit6 | exact Go.Hs.lit7 | exact Go.Hs.lit8 | exact rfl | (simp; done) | omega)); (first | omega | (simp only [List.length_take, List.length_drop, List.length_append, List.length_cons, List.length_nil, List.length_map, List.length_replicate]; omega))) | (apply Go.Hs.R_fieldRow; exact rfl; (repeat' (first | exact Go.Hs.Pick.head _ _ | apply Go.Hs.Pick.tail)); (first | omega | (simp only [List.length_take, List.length_drop, List.length_append, List.length_cons, List.length_nil, List.length_map, List.length_replicate]; omega)); exact rfl; exact rfl; (intro _; exact rfl); exact rfl) | (apply Go.Hs.R_idxArr; exact rfl; exact rfl; exact rfl; (intro _; exact rfl); (focus (first | exact Go.Hs.lit0 | exact Go.Hs.lit1 | exact Go.Hs.lit2 | exact Go.Hs.lit3 | exact Go.Hs.lit4 | exact Go.Hs.lit5 | exact Go.Hs.lit6 | exact Go.Hs.lit7 | exact Go.Hs.lit8 | exact rfl | (simp; done) | omega)); (first | omega | (simp only [List.length_take, List.length_drop, List.length_append, List.length_cons, List.length_nil, List.length_map, List.length_replicate]; omega))) | (apply Go.Hs.R_sliceArr; exact rfl; exact rfl; (intro _; exact rfl); exact rfl))) : PL C ops Γs es us Q (i :: π) fr Γ Φ := PL_runs he ho hg hd hn h k
theorem p2 (k : ∀ x, pf x → PL C ops Γs es us Q π ((d, vx x) :: fr) (Γ' x) (Φ' x)) (he : clsOf es us i = 1 := by exact rfl) (ho : lget ops.toList i = some o := by exact rfl) (hg : gv ops fr o.guard = some true := by exact rfl) (hd : o.dst = some d := by exact rfl) (hn : Nat.blt d C.n = true := by exact rfl)
    (h : Effs C fr Γ Φ o pf vx Γ' Φ' := by (first | (apply Go.Hs.E_alloc; (intro _; exact rfl); exact rfl) | (apply Go.Hs.E_box; exact rfl; (focus (first | (apply Go.Hs.CellsE.lit; exact rfl) | (apply Go.Hs.CellsE.one; (first | (apply Go.Hs.OneC.lit; exact rfl) | (apply Go.Hs.OneC.by_; (repeat' (first | exact Go.Hs.mcs | apply Go.Hs.mct)); done) | (apply Go.Hs.OneC.sl; (repeat' (first | exact Go.Hs.mcs | apply Go.Hs.mct)); done) | (apply Go.Hs.OneC.rw; (repeat' (first | exact Go.Hs.mcs | apply Go.Hs.mct)); done) | (apply Go.Hs.OneC.row; (repeat' (first | exact Go.Hs.Pick.head _ _ | apply Go.Hs.Pick.tail)))))))))) (hs : ∀ x, SubO (Γ' x) Γs := by (intro _; (first | ((repeat (first | exact Go.Hs.SubO.nil _ | (apply Go.Hs.SubO.cons; (focus (repeat' (first | exact Go.Hs.Pick.head _ _ | apply Go.Hs.Pick.tail)))))); done) | fail))) : PL C ops Γs es us Q (i :: π) fr Γ Φ := PL_effs he ho hg hd hn h hs k
theorem p3 (k : ∀ x, pf x → PL C ops Γs es us Q π fr (Γ' x) (Φ' x)) (he : clsOf es us i = 1 := by exact rfl) (ho : lget ops.toList i = some o := by exact rfl) (hg : gv ops fr o.guard = some true := by exact rfl) (hd : o.dst = none := by exact rfl)
    (h : Effs C fr Γ Φ o pf vx Γ' Φ' := by (first | (apply Go.Hs.E_store; exact rfl; exact rfl; (repeat' (first | exact Go.Hs.Pick.head _ _ | apply Go.Hs.Pick.tail)); (focus (first | (apply Go.Hs.CellsE.lit; exact rfl) | (apply Go.Hs.CellsE.one; (first | (apply Go.Hs.OneC.lit; exact rfl) | (apply Go.Hs.OneC.by_; (repeat' (first | exact Go.Hs.mcs | apply Go.Hs.mct)); done) | (apply Go.Hs.OneC.sl; (repeat' (first | exact Go.Hs.mcs | apply Go.Hs.mct)); done) | (apply Go.Hs.OneC.rw; (repeat' (first | exact Go.Hs.mcs | apply Go.Hs.mct)); done) | (apply Go.Hs.OneC.row; (repeat' (first | exact Go.Hs.Pick.head _ _ | apply Go.Hs.Pick.tail))))))); (intro _; exact rfl); (focus (repeat (first | apply Go.Hs.Ones.nil | exact Go.Hs.Ones.bytes | (apply Go.Hs.Ones.cons; (focus (first | (apply Go.Hs.OneC.lit; exact rfl) | (apply Go.Hs.OneC.by_; (repeat' (first | exact Go.Hs.mcs | apply Go.Hs.mct)); done) | (apply Go.Hs.OneC.sl; (repeat' (first | exact Go.Hs.mcs | apply Go.Hs.mct)); done) | (apply Go.Hs.OneC.rw; (repeat' (first | exact Go.Hs.mcs | apply Go.Hs.mct)); done) | (apply Go.Hs.OneC.row; (repeat' (first | exact Go.Hs.Pick.head _ _ | apply Go.Hs.Pick.tail))))))))); exact rfl))) (hs : ∀ x, SubO (Γ' x) Γs := by (intro _; (first | ((repeat (first | exact Go.Hs.SubO.nil _ | (apply Go.Hs.SubO.cons; (focus (repeat' (first | exact Go.Hs.Pick.head _ _ | apply Go.Hs.Pick.tail)))))); done) | fail))) : PL C ops Γs es us Q (i :: π) fr Γ Φ := PL_do he ho hg hd h hs k
theorem p4 (k : PL C ops Γs es us Q π ((d, v) :: fr) Γ (ψ :: Φ)) (he : clsOf es us i = 0 := by exact rfl) (ho : lget ops.toList i = some o := by exact rfl) (hg : gv ops fr o.guard = some true := by exact rfl) (hd : o.dst = some d := by exact rfl) (hn : Nat.blt d C.n = true := by exact rfl)
    (h : Runs C fr Γs Φ o v ∧ Ent Φ ψ := by (first | (apply Go.Hs.R_idxBy; exact rfl; exact rfl; (repeat' (first | exact Go.Hs.mcs | apply Go.Hs.mct)); exact rfl; (intro _; exact rfl); (focus (first | exact Go.Hs.lit0 | exact Go.Hs.lit1 | exact Go.Hs.lit2 | exact Go.Hs.lit3 | exact Go.Hs.lit4 | exact Go.Hs.lit5 | exact Go.Hs.lit6 | exact Go.Hs.lit7 | exact Go.Hs.lit8 | exact rfl | (simp; done) | omega)); (first | omega | (simp only [List.length_take, List.length_drop, List.length_append, List.length_cons, List.length_nil, List.length_map, List.length_replicate]; omega))) | (apply Go.Hs.R_idxRw; exact rfl; exact rfl; (repeat' (first | exact Go.Hs.mcs | apply Go.Hs.mct)); exact rfl; (intro _; exact rfl); (focus (first | exact Go.Hs.lit0 | exact Go.Hs.lit1 | exact Go.Hs.lit2 | exact Go.Hs.lit3 | exact Go.Hs.lit4 | exact Go.Hs.lit5 | exact Go.Hs.lit6 | exact Go.Hs.lit7 | exact Go.Hs.lit8 | exact rfl | (simp; done) | omega)); (first | omega | (simp only [List.length_take, List.length_drop, List.length_append, List.length_cons, List.length_nil, List.length_map, List.length_replicate]; omega)); (first | assumption | exact rfl)) | (apply Go.Hs.R_cutBy; exact rfl; (repeat' (first | exact Go.Hs.mcs | apply Go.Hs.mct)); exact rfl; (intro _; exact rfl); exact rfl; exact rfl; (focus (first | exact Go.Hs.lit0 | exact Go.Hs.lit1 | exact Go.Hs.lit2 | exact Go.Hs.lit3 | exact Go.Hs.lit4 | exact Go.Hs.lit5 | exact Go.Hs.lit6 | exact Go.Hs.lit7 | exact Go.Hs.lit8 | exact rfl | (simp; done) | omega)); (focus (first | exact Go.Hs.lit0 | exact Go.Hs.lit1 | exact Go.Hs.lit2 | exact Go.Hs.lit3 | exact Go.Hs.lit4 | exact Go.Hs.lit5 | exact Go.Hs.lit6 | exact Go.Hs.lit7 | exact Go.Hs.lit8 | exact rfl | (simp; done) | omega)); (first | omega | (simp only [List.length_take, List.length_drop, List.length_append, List.length_cons, List.length_nil, List.length_map, List.length_replicate]; omega)); (first | omega | (simp only [List.length_take, List.length_drop, List.length_append, List.length_cons, List.length_nil, List.length_map, List.length_replicate]; omega)); (focus ((try (conv => lhs; simp only [Nat.add_sub_cancel_left, Nat.sub_zero, List.drop_zero, List.nil_append])); (first | done | exact rfl)))) | (apply Go.Hs.R_fieldP; exact rfl; (repeat' (first | exact Go.Hs.mcs | apply Go.Hs.mct)); exact rfl; exact rfl; (intro _; exact rfl); exact rfl; exact rfl))) : PL C ops Γs es us Q (i :: π) fr Γ Φ := PL_runsF he ho hg hd hn h k
theorem p5 (k : PL C ops Γs es us Q π ((d, undef) :: fr) Γ Φ) (he : clsOf es us i = 0 := by exact rfl) (ho : lget ops.toList i = some o := by exact rfl) (hg : gv ops fr o.guard = some false := by exact rfl) (hd : o.dst = some d := by exact rfl) (hn : Nat.blt d C.n = true := by exact rfl) :
    PL C ops Γs es us Q (i :: π) fr Γ Φ := PL_pass he ho hg hd hn k
theorem p6 {f : FuncId} {args : List Operand} {argTypes : Array TypeId} {vs : List Value} {Φp : List SP} {ty : TypeId} {pos : String} {aft : Array Edge} {g : Option (Nat × Bool)} (hfn : CtD C.P f vs Φp v) (k : PL C ops Γs es us Q π ((d, v) :: fr) Γ Φ)
    (he : clsOf es us i = 0 := by exact rfl) (ho : lget ops.toList i = some ⟨some d, .call { callee := .value (.func f), args := args.toArray, argTypes := argTypes }, ty, pos, aft, g⟩ := by exact rfl)
    (hg : gv ops fr g = some true := by exact rfl) (hn : Nat.blt d C.n = true := by exact rfl) (ha : evOs fr args = some vs := by exact rfl)
    (hrun : ∀ (aas : Array Value) (w : World), (callFunc f aas).run C.P w = .ok (.enter f aas) w := by (intro _ _; simp)) (hin : AllE Φp Φ := by (first | ((repeat (first | exact Go.Hs.AllE.nil _ | (apply Go.Hs.AllE.cons; (focus (first | exact Go.Hs.ent_nilBy | exact Go.Hs.ent_nilSl | (apply Go.Hs.Ent.mem; repeat' (first | exact Go.Hs.mcs | apply Go.Hs.mct))))))); done) | fail)) : PL C ops Γs es us Q (i :: π) fr Γ Φ :=
  PL_runs he ho hg rfl hn (R_call ha hrun hfn hin) k
theorem p6v {fn : FuncId} {callee : Operand} {first captured : Array Value} {aas : List Value} {args : List Operand} {argTypes : Array TypeId} {vs : List Value} {Φp : List SP} {ty : TypeId} {pos : String} {aft : Array Edge} {g : Option (Nat × Bool)} (hfn : CtD C.P fn aas Φp v) (k : PL C ops Γs es us Q π ((d, v) :: fr) Γ Φ)
    (he : clsOf es us i = 0 := by exact rfl) (ho : lget ops.toList i = some ⟨some d, .call { callee := .value callee, args := args.toArray, argTypes := argTypes }, ty, pos, aft, g⟩ := by exact rfl) (hc : evO fr callee = some (.func (.func fn) first captured) := by exact rfl)
    (hg : gv ops fr g = some true := by exact rfl) (hn : Nat.blt d C.n = true := by exact rfl) (ha : evOs fr args = some vs := by exact rfl) (has : first.toList ++ vs ++ captured.toList = aas := by exact rfl)
    (hrun : ∀ (aas : Array Value) (w : World), (callFunc fn aas).run C.P w = .ok (.enter fn aas) w := by (intro _ _; simp)) (hin : AllE Φp Φ := by (first | ((repeat (first | exact Go.Hs.AllE.nil _ | (apply Go.Hs.AllE.cons; (focus (first | exact Go.Hs.ent_nilBy | exact Go.Hs.ent_nilSl | (apply Go.Hs.Ent.mem; repeat' (first | exact Go.Hs.mcs | apply Go.Hs.mct))))))); done) | fail)) : PL C ops Γs es us Q (i :: π) fr Γ Φ :=
  PL_runs he ho hg rfl hn (R_callG hc ha has hrun hfn hin) k
theorem p7 {t ty : TypeId} {pos : String} {aft : Array Edge} {z : Value} {cs : List Value} (k : ∀ b, PL C ops Γs es us Q π ((d, .pointer (some ⟨b, 0, none⟩)) :: fr) (.blk b t cs :: Γ) Φ) (he : clsOf es us i = 2 := by exact rfl) (ho : lget ops.toList i = some ⟨some d, .alloc t, ty, pos, aft, none⟩ := by exact rfl) (hn : Nat.blt d C.n = true := by exact rfl)
    (hz : ∀ w, (zeroValue t).run C.P w = .ok z w := by (intro _; exact rfl)) (hcs : listO z.cells.toList = some cs := by exact rfl) : PL C ops Γs es us Q (i :: π) fr Γ Φ :=
  PL_new he ho hn hz hcs k
end
end Go.Hs

/-
  Arrays in own blocks, elements of own rows, calls of function values. No program is named here.
-/
namespace Go.Hs
open Go Go.RowKit

theorem takeN_all : ∀ (cs : List Value), takeN 0 cs.length cs = some cs
  | [] => rfl
  | c :: cs => by simp only [List.length_cons, takeN, takeN_all cs]
theorem takeN_full {n : Nat} {cs : List Value} (h : cs.length = n) : takeN 0 n cs = some cs := h ▸ takeN_all cs
theorem putN_nil (cs : List Value) : putN 0 [] cs = some cs := by cases cs <;> rfl
theorem putN_all : ∀ (us cs : List Value), us.length = cs.length → putN 0 us cs = some us
  | [], [], _ => rfl
  | [], _ :: _, h => by simp at h
  | _ :: _, [], h => by simp at h
  | u :: us, c :: cs, h => by simp only [putN, putN_all us cs (by simpa using h)]
theorem putN_one : ∀ (i : Nat) (v : Value) (cs : List Value), i < cs.length → putN i [v] cs = some (cs.set i v)
  | _, _, [], h => by simp at h
  | 0, v, c :: cs, _ => by simp [putN, putN_nil]
  | i + 1, v, c :: cs, h => by simp only [putN, putN_one i v cs (by simpa using h), List.set_cons_succ]

section
variable {C : Ctx} {fr : Fr} {Γ Γ' Γ1 : List OA} {Φ : List SP}
  {d : Nat} {ty : TypeId} {pos : String} {aft : Array Edge} {g : Option (Nat × Bool)}

theorem R_idxArr {t e : TypeId} {x y : Operand} {b len i : Nat} {kd : IntKind} {ii : Int} (hx : evO fr x = some (.pointer (some ⟨b, 0, none⟩))) (hy : evO fr y = some (.int kd ii))
    (ht : C.P.underlying t = some (.array len e)) (hs : ∀ w, (sizeOf e).run C.P w = .ok 1 w) (hii : ii = (i : Int)) (hi : i < len) :
    Runs C fr Γ Φ ⟨some d, .indexAddr t x y, ty, pos, aft, g⟩ (.pointer (some ⟨b, i, none⟩)) := by
  subst hii
  refine Runs.pure fun a w ha hw => ?_
  have h2 : (i : Int) < (len : Int) := by omega
  simp [execOp, evO_sound ha hx, evO_sound ha hy, Instr.indexAt, asIntOf, run_underlying ht, Instr.sureAddr, hs, hi, Addr.add_lit]

/-- a store of one cell at some place of an own block. -/
theorem E_storeAt {t bt : TypeId} {x y : Operand} {b off : Nat} {cs : List Value} {v : Value} (hx : evO fr x = some (.pointer (some ⟨b, off, none⟩))) (hy : evO fr y = some v)
    (hp : Pick (.blk b bt cs) Γ Γ') (h1 : v.oneCell' = true) (hs : ∀ w, (sizeOf t).run C.P w = .ok 1 w) (hn : off < cs.length) :
    Effs C fr Γ Φ ⟨none, .store t x y, ty, pos, aft, g⟩ (X := Unit) (fun _ => True) (fun _ => undef) (fun _ => .blk b bt (cs.set off v) :: Γ') (fun _ => Φ) :=
  E_store (us := [v]) hx hy hp (CellsE.one (OneC.lit h1)) hs (Ones.cons (OneC.lit h1) Ones.nil) (putN_one off v cs hn)

/-- a whole block written over. -/
theorem E_storeAll {t bt : TypeId} {x y : Operand} {b : Nat} {cs us : List Value} (hx : evO fr x = some (.pointer (some ⟨b, 0, none⟩))) (hy : evO fr y = some (.agg us.toArray))
    (hp : Pick (.blk b bt cs) Γ Γ') (h1 : ∀ u ∈ us, u.oneCell' = true) (hs : ∀ w, (sizeOf t).run C.P w = .ok us.length w) (hn : us.length = cs.length) :
    Effs C fr Γ Φ ⟨none, .store t x y, ty, pos, aft, g⟩ (X := Unit) (fun _ => True) (fun _ => undef) (fun _ => .blk b bt us :: Γ') (fun _ => Φ) :=
  E_store (us := us) hx hy hp (fun _ _ _ => rfl) hs (fun u hu => OneC.lit (h1 u hu)) (putN_all us cs hn)

/-- an element's address in an own row. -/
theorem R_idxRow {t e rt : TypeId} {x y : Operand} {v : Value} {size n : Nat} {xs : List Value} {kd : IntKind} {ii : Int} {i : Nat} (hx : evO fr x = some v) (hy : evO fr y = some (.int kd ii)) (hp : Pick (.row v rt size n xs) Γ Γ')
    (ht : C.P.underlying t = some (.slice e)) (hs : ∀ w, (sizeOf e).run C.P w = .ok size w) (hii : ii = (i : Int)) (hi : i < n) :
    Runs C fr Γ Φ ⟨some d, .indexAddr t x y, ty, pos, aft, g⟩ (idxV size i v) := by
  subst hii
  refine Runs.pure fun a w ha hw => ?_
  have hown := (pick_holds hp hw).own.1
  rcases hown with ⟨hl, h2⟩
  rcases h2 with ⟨h2, _⟩ | ⟨b, cap, cur, hv, _, hb, hc, hm, hsz, htk⟩
  · omega
  · simp [execOp, evO_sound ha hx, evO_sound ha hy, hv, run_indexAt_some ht hs hi, idxV]

/-- a one-cell element of an own row is loaded. -/
theorem R_loadRow {t rt : TypeId} {x : Operand} {v u : Value} {n i : Nat} {xs : List Value} (hx : evO fr x = some (idxV 1 i v)) (hp : Pick (.row v rt 1 n xs) Γ Γ') (hagg : ∀ w, (isAgg t).run C.P w = .ok false w)
    (hi : i < n) (hc : xs[i]? = some u) : Runs C fr Γ Φ ⟨some d, .load t x, ty, pos, aft, g⟩ u := by
  refine Runs.pure fun a w ha hw => ?_
  have hown := (pick_holds hp hw).own.1
  rcases hown with ⟨hl, h2⟩
  rcases h2 with ⟨h2, _⟩ | ⟨b, cap, cur, hv, _, hb, hcc, hm, hsz, htk⟩
  · omega
  · subst hv
    have h0 : w.cell? ((⟨b, 0, none⟩ : Addr).add i) = some u := by
      rw [Addr.add_lit, Nat.zero_add]
      rw [← htk, List.getElem?_take_of_lt (by omega)] at hc
      simp only [World.cell?, hb]
      simpa using hc
    simp [execOp, evO_sound ha hx, idxV, Instr.loadAt, Instr.sureAddr, run_loadVar_one hagg h0]

/-- a one-cell element of an own row is written. -/
theorem E_storeRow {t rt : TypeId} {x y : Operand} {v u : Value} {n i : Nat} {xs : List Value} (hx : evO fr x = some (idxV 1 i v)) (hy : evO fr y = some u) (hp : Pick (.row v rt 1 n xs) Γ Γ') (h1 : u.oneCell' = true)
    (hs : ∀ w, (sizeOf t).run C.P w = .ok 1 w) (hi : i < n) :
    Effs C fr Γ Φ ⟨none, .store t x y, ty, pos, aft, g⟩ (X := Unit) (fun _ => True) (fun _ => undef) (fun _ => .row v rt 1 n (xs.set i u) :: Γ') (fun _ => Φ) := by
  refine ⟨fun _ => AllIn.refl _, fun R a w ha hw => ?_⟩
  have hw' := pick_holds (pick_app hp R) hw
  have hown := hw'.own.1
  rcases hown with ⟨hl, h2⟩
  rcases h2 with ⟨h2, _⟩ | ⟨b, cap, cur, hv, _, hb, hcc, hm, hsz, htk⟩
  · omega
  · subst hv
    have hu : u.cells = [u].toArray := by cases u <;> first | rfl | cases h1
    have hb' : w.heap[b]? = some (.cells cur.toList.toArray rt (0, 0)) := by simpa using hb
    have hst := run_storeVar_own (P := C.P) (w := w) (t := t) (us := [u]) (ds := cur.toList.set i u) (off := i) hb' hs hu (by simpa using h1) (putN_one i u cur.toList (by simp; omega))
    refine .skip (w' := w.setRow b (cur.toList.set i u).toArray) ?_ ⟨(), trivial, rfl, setRow_row hw' hb (by simp) ?_⟩
    · simp [execOp, evO_sound ha hx, evO_sound ha hy, Instr.storeAt, Instr.sureAddr, idxV, Addr.add_lit, hst]
    · rw [← htk]
      simp only [Nat.mul_one, List.take_set]

end

section
variable {C : Ctx} {ops : Array Oper} {l : List Oper} {fr : Fr} {Γ Γ1 : List OA} {Φ : List SP} {Q : Exit → Act → World → Prop}
/-- nothing, told as an own row. -/
theorem Holds.nilRow {w : World} (t : TypeId) (size : Nat) (h : Holds C Γ Φ w) : Holds C (.row (.slice none 0 0) t size 0 [] :: Γ) Φ w := by
  have hf : ∀ k, ¬ (OA.row (.slice none 0 0) t size 0 []).fp k := fun k (e : (none : Option Nat) = some k) => by cases e
  refine h.move (Mod.refl _ _) ⟨⟨by simp, .inl ⟨rfl, rfl⟩⟩, fun k hk => (hf k hk).elim, h.own⟩ fun k _ hk => ?_
  rcases fpL_cons.1 hk with e | e
  · exact (hf k e).elim
  · exact e
theorem W_nilRow {c : Code} (t : TypeId) (size : Nat) (h : W C c fr (.row (.slice none 0 0) t size 0 [] :: Γ) Φ Q) : W C c fr Γ Φ Q := fun a w ha hw => h a w ha (hw.nilRow t size)
theorem WQ_nilRow {e : Exit} (t : TypeId) (size : Nat) (h : WQ C e fr (.row (.slice none 0 0) t size 0 [] :: Γ) Φ Q) : WQ C e fr Γ Φ Q := fun a w ha hw => h a w ha (hw.nilRow t size)

theorem W_letgo {c : Code} {v : Value} {t : TypeId} {size n : Nat} {xs : List Value} (hp : Pick (.row v t size n xs) Γ Γ1) (h : W C c fr Γ1 (Sl size v n xs :: Φ) Q) : W C c fr Γ Φ Q := fun a w ha hw => h a w ha (pick_holds hp hw).letgo
theorem WL_letgo {v : Value} {t : TypeId} {size n : Nat} {xs : List Value} (hp : Pick (.row v t size n xs) Γ Γ1) (h : WL C ops l fr Γ1 (Sl size v n xs :: Φ) Q) : WL C ops l fr Γ Φ Q := fun a w ha hw => h a w ha (pick_holds hp hw).letgo
theorem WQ_letgo {e : Exit} {v : Value} {t : TypeId} {size n : Nat} {xs : List Value} (hp : Pick (.row v t size n xs) Γ Γ1) (h : WQ C e fr Γ1 (Sl size v n xs :: Φ) Q) : WQ C e fr Γ Φ Q := fun a w ha hw => h a w ha (pick_holds hp hw).letgo
end

theorem ent_alI {Φ : List SP} {n : Nat} {ψ : Nat → SP} (h : ∀ i, i < n → Ent Φ (ψ i)) : Ent Φ (Al n ψ) := fun w O hw i hi => h i hi w O hw

section
variable {C : Ctx} {fr : Fr} {Γ Γ' : List OA} {Φ : List SP} {d : Nat} {ty : TypeId} {pos : String} {aft : Array Edge} {g : Option (Nat × Bool)}

end
end Go.Hs

/-
  A range over a function: the loop's own walk, the function's, and where it ends. No program is named here.
-/
namespace Go.Hs
open Go Go.RowKit

/-- several own things as one. -/
def pk (Γ : List OA) : OA := .abs ⟨fpL Γ, Own Γ, fun h => Own.lt h, fun h k => h.keep k⟩
/-- a block that is no cells. -/
def ob (b : Nat) (o : Obj) : OA := .abs ⟨fun k => k = b, fun w => w.heap[b]? = some o, fun h _ e => by subst e; exact (Array.getElem?_eq_some_iff.1 h).1, fun h hk => (hk b (Array.getElem?_eq_some_iff.1 h).1 rfl).trans h⟩
/-- several lasting facts as one. -/
def cj (Φ : List SP) : SP := ⟨fun w O => ∀ ψ ∈ Φ, ψ.p w O, fun h hm ho ψ hψ => ψ.st (h ψ hψ) hm ho⟩

theorem Own.pk {Γ Δ : List OA} {w : World} : Own (pk Γ :: Δ) w ↔ Own (Γ ++ Δ) w := by
  rw [Own.append]
  constructor
  · rintro ⟨h1, h2, h3⟩
    exact ⟨h1, h3, h2⟩
  · rintro ⟨h1, h2, h3⟩
    exact ⟨h1, h3, h2⟩
theorem fpL_pk {Γ Δ : List OA} {k : Nat} : fpL (pk Γ :: Δ) k ↔ fpL (Γ ++ Δ) k := by
  rw [fpL_cons, fpL_append]
  exact Iff.rfl

/-- what a call of yield comes to: with these arguments, where it is handed Γ and Φ holds. -/
def Yc (P : Program) (l : Nat) (args : List Value) (Γ : List OA) (Φ : List SP) {X : Type} (pf : X → Prop) (ret : X → Value) (Γ' : X → List OA) (Φ' : X → List SP) : Prop :=
  ∀ w O0, (∀ k, O0 k → k < w.heap.size ∧ ¬ fpL Γ k) → Own Γ w → (∀ ψ ∈ Φ, ψ.p w (avo O0 Γ)) →
    ∃ fn tmps assign body, (Instr.yield l args.toArray).run P w = .ok (.round l fn tmps assign body) w ∧ RoundIn Fence.wide 0 P l fn tmps assign body w (FnPost w O0 (fpL Γ) pf ret Γ' Φ')

section
variable {C : Ctx} {fr : Fr} {Γ : List OA} {Φ : List SP} {ty : TypeId} {pos : String} {aft : Array Edge} {g : Option (Nat × Bool)}

end

-- ===== moves of memory at a block that is no cells =====

section
variable {C : Ctx} {Γ Δ : List OA} {Φ : List SP}
theorem Holds.pack {w : World} (h : Holds C (Γ ++ Δ) Φ w) : Holds C (pk Γ :: Δ) Φ w :=
  h.move (Mod.refl _ _) (Own.pk.2 h.own) fun _ _ hk => fpL_pk.1 hk
theorem Holds.unpack {w : World} (h : Holds C (pk Γ :: Δ) Φ w) : Holds C (Γ ++ Δ) Φ w :=
  h.move (Mod.refl _ _) (Own.pk.1 h.own) fun _ _ hk => fpL_pk.2 hk
end

-- ===== the rounds =====

/-- the jump that a round leaves behind. -/
def jumpOf : Exit → Option (Option Code)
  | .normal => some none
  | .ret => some (some .ret)
  | .exit i => some (some (.exit i))
  | .goto t => some (some (.goto t))
  | _ => none

def recOf (fn : FuncId) (t0 : Array Value) (ps : Array Tmp) (assign body : Code) (D : Nat) (j : Option Code) : Loop :=
  { state := if j.isNone then .ready else .done, pending := j, fn := fn, tmps := t0, params := ps, assign := assign, body := body, defers := D }

/-- how a round's body is left: the jump is told by the new state. -/
def RQ (C : Ctx) (l : Nat) (o : Obj) {α : Type} (step : α → Prop) (Y : α → List OA) (Ψ : α → List SP) (e : α → Option Code) : Exit → Act → World → Prop :=
  fun ex _ w => ∃ y, step y ∧ jumpOf ex = some (e y) ∧ Holds C (ob l o :: Y y) (Ψ y) w
def AQ (C : Ctx) (fr : Fr) (Γ : List OA) (Φ : List SP) : Exit → Act → World → Prop := fun ex a w => ex = .normal ∧ fok C fr a ∧ Holds C Γ Φ w

-- ===== a function that holds such a loop =====

abbrev CtxM (P : Program) (n : Nat) (w0 : World) (O0 M : Nat → Prop) (D : Nat) : Ctx := ⟨P, n, w0, O0, M, none, [⟨.collected D, #[]⟩]⟩

section
variable {P : Program} {n D : Nat} {w0 : World} {O0 M : Nat → Prop} {fn : Func} {fr : Fr} {Γ Γ1 : List OA} {Φ : List SP} {X : Type} {pf : X → Prop} {ret : X → Value} {Γ' : X → List OA} {Φ' : X → List SP}
end

section
variable {C : Ctx} {fr : Fr} {Γ Γ' Γ1 : List OA} {Φ : List SP} {d : Nat} {ty : TypeId} {pos : String} {aft : Array Edge} {g : Option (Nat × Bool)}
theorem R_makeFunc {fn : Fn} {caps : Array Operand} {vs : List Value} (hc : evOs fr caps.toList = some vs) : Runs C fr Γ Φ ⟨some d, .makeFunc fn #[] caps, ty, pos, aft, g⟩ (.func fn #[] vs.toArray) :=
  Runs.pure fun a w ha _ => by
    have e := evOs_sound ha hc
    have e2 : caps.map a.eval = vs.toArray := by
      apply Array.ext'
      simpa using e
    simp [execOp, Instr.makeFunc, e2]
theorem R_nilCheck {x : Operand} {A : Addr} (hx : evO fr x = some (.pointer (some A))) : Runs C fr Γ Φ ⟨some d, .nilCheck x, ty, pos, aft, g⟩ (.pointer (some A)) :=
  Runs.pure fun a w ha _ => by simp [execOp, evO_sound ha hx]

/-- a byte row that is made, told as lasting at once. -/
theorem Effs.letB {o : Oper} {X : Type} {pf : X → Prop} {vx : X → Value} {G : X → List OA} {H : X → List SP} {v : X → Value} {t : TypeId} {n : X → Nat} {bs : X → List UInt8}
    (h : Effs C fr Γ Φ o pf vx (fun x => .row (v x) t 1 (n x) ((bs x).map bcell) :: G x) H) : Effs C fr Γ Φ o pf vx G (fun x => By (v x) (bs x) :: H x) := by
  refine ⟨fun x ψ hψ => List.mem_cons_of_mem _ (h.1 x ψ hψ), fun R a w ha hw => (h.2 R a w ha hw).mono fun v' w' ⟨x, hp, hv, hw'⟩ => ⟨x, hp, hv, ?_⟩⟩
  exact Holds.letgoB hw' rfl

/-- things appended that are themselves slices. -/
theorem E_appendRowO {t e : TypeId} {x y : Operand} {v u : Value} {size n m nm : Nat} {xs news all : List Value} {i : TypeInfo} {z : Value}
    (hx : evO fr x = some v) (hy : evO fr y = some u) (hp : Pick (.row v e size n xs) Γ Γ') (hp' : Pick (.row u e size m news) Γ' Γ1)
    (ht : C.P.underlying t = some (.slice e)) (hi : C.P.info? e = some i) (hz : i.zero = some z) (hsize : i.size = size) (hzs : z.cells.size = size) (hsz : 0 < size) (h1 : Ones C Γ Φ news)
    (hby : i.bytes ≤ 128) (hb : n + m ≤ 1099511627776) (hnm : n + m = nm) (hall : xs ++ news = all) :
    Effs C fr Γ Φ ⟨some d, .call { callee := .builtin .append, args := #[x, y], argTypes := #[t, t] }, ty, pos, aft, g⟩ (X := Value) (fun _ => True) (fun q => q) (fun v' => .row v' e size nm all :: Γ1) (fun _ => Φ) := by
  refine ⟨fun _ => AllIn.refl _, fun R a w ha hw => ?_⟩
  exact (E_appendRow hx hy hp hp' ht hi hz hsize hzs hsz (fun u hu => h1 u hu R w hw) hby hb hnm hall).2 R a w ha hw
end

theorem ent_alS {Φ : List SP} {n : Nat} {ψ ψ' : Nat → SP} {χ : SP} (hm : Al n ψ ∈ Φ) (hc : χ ∈ Φ) (h1 : ∀ i, i < n → ψ i = ψ' i) (h2 : χ = ψ' n) : Ent Φ (Al (n + 1) ψ') := fun w O h i hi => by
  by_cases e : i < n
  · rw [← h1 i e]
    exact h _ hm i e
  · obtain rfl : i = n := by omega
    rw [← h2]
    exact h _ hc
theorem ent_al0 {Φ : List SP} {ψ : Nat → SP} : Ent Φ (Al 0 ψ) := ent_alI fun i hi => absurd hi (by omega)
end Go.Hs

/-
  Trees of elements in memory; own things lent to a call; rows of bytes of which only the lengths matter. No program is named here.
-/
namespace Go.Hs
open Go Go.RowKit

-- ===== a call that looks at what is owned =====

/-- while Γb is owned and Φ holds, the facts Φb hold too (where Γb itself is not forbidden). -/
def Bor (Γb : List OA) (Φ Φb : List SP) : Prop := ∀ w O, Own Γb w → (∀ k, fpL Γb k → ¬ O k) → (∀ ψ ∈ Φ, ψ.p w O) → ∀ ψ ∈ Φb, ψ.p w O

section
variable {C : Ctx} {ops : Array Oper} {l : List Oper} {fr : Fr} {Γ Γ' Γ1 : List OA} {Φ : List SP} {Q : Exit → Act → World → Prop}
  {d : Nat} {ty : TypeId} {pos : String} {aft : Array Edge} {g : Option (Nat × Bool)}

theorem Bor.row {v : Value} {t : TypeId} {n : Nat} {bs : List UInt8} {Γr : List OA} (hn : n = bs.length) : Bor [.row v t 1 n (bs.map bcell)] Φ (By v bs :: Φ) := fun w O ho hd hΦ ψ hψ => by
  rcases List.mem_cons.1 hψ with rfl | hψ
  · subst hn
    exact slP_of_row ho.1 fun k hk => hd k (fpL_cons.2 (.inl hk))
  · exact hΦ ψ hψ

theorem R_callB {dst : Option Tmp} {f : FuncId} {args : List Operand} {argTypes : Array TypeId} {vs : List Value} {Φp : List SP} {v : Value} {Γb Γr : List OA}
    (ha : evOs fr args = some vs)
    (hrun : ∀ (aas : Array Value) (w : World), (callFunc f aas).run C.P w = .ok (.enter f aas) w)
    (hfn : CtD C.P f vs Φp v) (hp : Γ.Perm (Γb ++ Γr)) (hb : Bor Γb Φ Φp) :
    Runs C fr Γ Φ ⟨dst, .call { callee := .value (.func f), args := args.toArray, argTypes := argTypes }, ty, pos, aft, g⟩ v := by
  intro a w hfa hw0
  have hw := hw0.perm hp
  obtain ⟨ho1, ho2, ho3⟩ := Own.append.1 hw.own
  have hO : ∀ k, avo C.O0 Γr k → k < w.heap.size ∧ ¬ fpL [] k := fun k hk => by
    refine ⟨?_, fun ⟨_, hx, _⟩ => by cases hx⟩
    rcases hk with hk | hk
    · exact Nat.lt_of_lt_of_le (hw.o0 k hk).1 hw.mod.size
    · exact Own.lt ho2 hk
  have hd : ∀ k, fpL Γb k → ¬ avo C.O0 Γr k := fun k hk hn => by
    rcases hn with hn | hn
    · have h1 := hw.o0 k hn
      rcases hw.ofp k (fpL_append.2 (.inl hk)) with h2 | h2
      · exact h1.2 h2
      · omega
    · exact ho3 k hk hn
  have hΦ : ∀ ψ ∈ Φ, ψ.p w (avo C.O0 Γr) := fun ψ hψ => ψ.st (hw.sp ψ hψ) (Mod.refl _ _) fun k _ hk => hk.elim .inl fun h => .inr (fpL_append.2 (.inr h))
  have hcall := hfn w (avo C.O0 Γr) hO trivial (fun ψ hψ => ψ.st (hb w _ ho1 hd hΦ ψ hψ) (Mod.refl _ _) fun k _ hk => hk.elim id fun ⟨_, hx, _⟩ => by cases hx)
  have hrun' : (execOp a.eval ⟨dst, .call { callee := .value (.func f), args := args.toArray, argTypes := argTypes }, ty, pos, aft, g⟩).run C.P w = .ok (.enter f vs.toArray) w := by
    have e2 := evOs_sound hfa ha
    simp only [execOp, resolve, Act.eval, Deferred.ofValue, List.map_toArray, e2, Sem.run_bind, Sem.run_pure, Result.andThen_ok, invoke]
    rw [hrun]
    congr 2
    apply Array.ext'
    simp
  rw [hrun']
  show Calls _ _ _ _ _
  exact hcall.mono fun e w1 ⟨_, _, he, hm, _⟩ => ⟨_, he, rfl, hm.mono fun k _ ⟨_, hx, _⟩ => by cases hx⟩

/-- a plain truth drawn from what holds. -/
theorem W_pure {c : Code} {p : Prop} (hp : ∀ w, Holds C Γ Φ w → p) (h : p → W C c fr Γ Φ Q) : W C c fr Γ Φ Q := fun a w ha hw => h (hp w hw) a w ha hw
def isNilV : Value → Bool
  | .slice none _ _ => true
  | _ => false

theorem R_eqNil {x y : Operand} {t e t' : TypeId} {v : Value} {size n : Nat} {xs : List Value} (hx : evO fr x = some v) (hy : evO fr y = some (.slice none 0 0)) (hm : Sl size v n xs ∈ Φ) (ht : C.P.underlying t = some (.slice e)) :
    Runs C fr Γ Φ ⟨some d, .binOp .eql t x y t', ty, pos, aft, g⟩ (.bool (isNilV v)) :=
  Runs.pure fun a w ha hw => by
    obtain ⟨_, A, c, hv, _⟩ := hw.sp _ hm
    subst hv
    have h := Lib.run_eql_slice_nil (P := C.P) w t e A n c 0 0 ht
    have hg : (eqGuard .eql t x y (.slice A n c) (.slice none 0 0)).run C.P w = .ok () w := by simp [eqGuard]
    simp only [execOp, evO_sound ha hx, evO_sound ha hy, Sem.run_bind, hg, Result.andThen_ok, h, Sem.run_pure]
    cases A <;> rfl
theorem R_eqNilB {x y : Operand} {t e t' : TypeId} {v : Value} {bs : List UInt8} (hx : evO fr x = some v) (hy : evO fr y = some (.slice none 0 0)) (hm : By v bs ∈ Φ) (ht : C.P.underlying t = some (.slice e)) :
    Runs C fr Γ Φ ⟨some d, .binOp .eql t x y t', ty, pos, aft, g⟩ (.bool (isNilV v)) := R_eqNil (xs := bs.map bcell) (size := 1) hx hy hm ht
theorem by_nil {v : Value} {bs : List UInt8} (h : isNilV v = true) (hm : By v bs ∈ Φ) : ∀ w, Holds C Γ Φ w → bs = [] := fun w hw => by
  obtain ⟨_, A, c, rfl, _, _, hr⟩ := hw.sp _ hm
  cases A with
  | some A => cases h
  | none =>
    cases bs with
    | nil => rfl
    | cons b r =>
      obtain ⟨ad, h, _⟩ := hr (by simp)
      cases h
/-- a method's value: the receiver is kept. -/
theorem R_makeFunc1 {fn : FuncId} {x : Operand} {v : Value} (hx : evO fr x = some v) : Runs C fr Γ Φ ⟨some d, .makeFunc (.func fn) #[x] #[], ty, pos, aft, g⟩ (.func (.func fn) #[v] #[]) :=
  Runs.pure fun a w ha _ => by simp [execOp, Instr.makeFunc, evO_sound ha hx]
end

theorem perm1 {x : OA} {Γ Γr : List OA} (h : Pick x Γ Γr) : Γ.Perm ([x] ++ Γr) := h
theorem perm2 {x y : OA} {Γ Γ1 Γr : List OA} (h : Pick x Γ Γ1) (k : Pick y Γ1 Γr) : Γ.Perm ([x, y] ++ Γr) := h.trans (List.Perm.cons x k)
theorem perm3 {x y z : OA} {Γ Γ1 Γ2 Γr : List OA} (h : Pick x Γ Γ1) (k : Pick y Γ1 Γ2) (l : Pick z Γ2 Γr) : Γ.Perm ([x, y, z] ++ Γr) := h.trans (List.Perm.cons x (k.trans (List.Perm.cons y l)))

-- ===== many rows of bytes aas one thing =====

def rowsL (bt : TypeId) (L : List (Value × List UInt8)) : List OA := L.map fun p => .row p.1 bt 1 p.2.length (p.2.map bcell)
theorem rowsL_append (bt : TypeId) (L K : List (Value × List UInt8)) : rowsL bt (L ++ K) = rowsL bt L ++ rowsL bt K := List.map_append ..

section
variable {C : Ctx} {ops : Array Oper} {l : List Oper} {fr : Fr} {Γ Γ1 Γ2 : List OA} {Φ : List SP} {Q : Exit → Act → World → Prop}
theorem Holds.addL {bt : TypeId} {L : List (Value × List UInt8)} {v : Value} {n : Nat} {xs : List Value} {bs : List UInt8} {w : World} (h : Holds C (.row v bt 1 n xs :: pk (rowsL bt L) :: Γ) Φ w) (hx : xs = bs.map bcell) :
    Holds C (pk (rowsL bt (L ++ [(v, bs)])) :: Γ) Φ w := by
  have hn : n = bs.length := by
    have := h.own.1.1
    subst hx
    simpa using this.symm
  subst hx
  subst hn
  have h1 := (h.perm (.swap _ _ _)).unpack
  have h2 : Holds C (rowsL bt (L ++ [(v, bs)]) ++ Γ) Φ w := by
    rw [rowsL_append, List.append_assoc]
    exact h1
  exact h2.pack
theorem Holds.nilL {w : World} (bt : TypeId) (h : Holds C Γ Φ w) : Holds C (pk (rowsL bt []) :: Γ) Φ w := Holds.pack h

theorem WQ_addL {e : Exit} {bt : TypeId} {L : List (Value × List UInt8)} {n : Nat} {v : Value} {xs : List Value} (bs : List UInt8) (hx : xs = bs.map bcell) (hp : Pick (.row v bt 1 n xs) Γ Γ1) (hp' : Pick (pk (rowsL bt L)) Γ1 Γ2)
    (h : WQ C e fr (pk (rowsL bt (L ++ [(v, bs)])) :: Γ2) Φ Q) : WQ C e fr Γ Φ Q := fun a w ha hw => h a w ha (((pick_holds hp hw).perm (List.Perm.cons _ hp')).addL hx)
theorem W_nilL {c : Code} (bt : TypeId) (h : W C c fr (pk (rowsL bt []) :: Γ) Φ Q) : W C c fr Γ Φ Q := fun a w ha hw => h a w ha (hw.nilL bt)
theorem WQ_nilL {e : Exit} (bt : TypeId) (h : WQ C e fr (pk (rowsL bt []) :: Γ) Φ Q) : WQ C e fr Γ Φ Q := fun a w ha hw => h a w ha (hw.nilL bt)
end

-- ===== trees =====

/-- a list of elements as it stands in memory, each with its own list; the values that lead to the data and to the list are told too. -/
inductive T where
  | nil
  | cons (id ext : UInt8) (dv : Value) (data : List UInt8) (sv : Value) (subs next : T)

/-- the same without the values. -/
inductive Fo where
  | nil
  | cons (id ext : UInt8) (data : List UInt8) (subs next : Fo)
deriving DecidableEq

namespace T
def er : T → Fo
  | .nil => .nil
  | .cons id ext _ data _ subs next => .cons id ext data subs.er next.er
def len : T → Nat
  | .nil => 0
  | .cons _ _ _ _ _ _ next => next.len + 1
def drop : Nat → T → T
  | 0, t => t
  | _ + 1, .nil => .nil
  | k + 1, .cons _ _ _ _ _ _ next => drop k next
def app : T → T → T
  | .nil, u => u
  | .cons id ext dv data sv subs next, u => .cons id ext dv data sv subs (next.app u)
def head : T → List Value
  | .nil => []
  | .cons id ext dv _ sv _ _ => [bcell id, bcell ext, dv, sv]
def at_ (t : T) (i : Nat) : List Value := (t.drop i).head
def cells : T → List Value
  | .nil => []
  | .cons id ext dv _ sv _ next => bcell id :: bcell ext :: dv :: sv :: next.cells
def dls : T → List (Value × List UInt8)
  | .nil => []
  | .cons _ _ dv data _ _ next => (dv, data) :: next.dls

def tfP : T → World → (Nat → Prop) → Prop
  | .nil, _, _ => True
  | .cons _ _ dv data sv subs next, w, O => (By dv data).p w O ∧ (Rw 4 sv subs.len subs.at_).p w O ∧ subs.tfP w O ∧ next.tfP w O
theorem tfP.st : ∀ {t : T} {w w' : World} {O O' : Nat → Prop}, t.tfP w O → Mod O w w' → (∀ k, k < w.heap.size → O' k → O k) → t.tfP w' O'
  | .nil, _, _, _, _, _, _, _ => trivial
  | .cons _ _ _ _ _ _ _, _, _, _, _, h, hm, ho => ⟨SP.st _ h.1 hm ho, SP.st _ h.2.1 hm ho, tfP.st h.2.2.1 hm ho, tfP.st h.2.2.2 hm ho⟩
/-- what hangs on the elements lasts. -/
def tf (t : T) : SP := ⟨t.tfP, tfP.st⟩

def tsP : T → World → (Nat → Prop) → Prop
  | .nil, _, _ => True
  | .cons _ _ _ _ sv subs next, w, O => (Rw 4 sv subs.len subs.at_).p w O ∧ subs.tfP w O ∧ next.tsP w O
theorem tsP.st : ∀ {t : T} {w w' : World} {O O' : Nat → Prop}, t.tsP w O → Mod O w w' → (∀ k, k < w.heap.size → O' k → O k) → t.tsP w' O'
  | .nil, _, _, _, _, _, _, _ => trivial
  | .cons _ _ _ _ _ _ _, _, _, _, _, h, hm, ho => ⟨SP.st _ h.1 hm ho, tfP.st h.2.1 hm ho, tsP.st h.2.2 hm ho⟩
/-- the same of the elements' lists alone: the data are owned. -/
def ts (t : T) : SP := ⟨t.tsP, tsP.st⟩

theorem drop_nil : ∀ (k : Nat), drop k .nil = .nil
  | 0 => rfl
  | _ + 1 => rfl
def size : T → Nat
  | .nil => 0
  | .cons _ _ _ _ _ subs next => subs.size + next.size + 1
end T

section
variable {C : Ctx} {fr : Fr} {Γ Γ1 : List OA} {Φ : List SP}
end
theorem rw_le {C : Ctx} {Γ : List OA} {Φ : List SP} {size n : Nat} {v : Value} {f : Nat → List Value} (hm : Rw size v n f ∈ Φ) : ∀ w, Holds C Γ Φ w → n ≤ 9223372036854775807 := fun w h => by
  obtain ⟨A, c, _, h1, h2, _⟩ := h.sp _ hm
  have : maxLen = 9223372036854775807 := rfl
  omega
theorem by_le {C : Ctx} {Γ : List OA} {Φ : List SP} {v : Value} {bs : List UInt8} (hm : By v bs ∈ Φ) : ∀ w, Holds C Γ Φ w → bs.length ≤ 9223372036854775807 := fun w h => by
  obtain ⟨_, A, c, _, h1, h2, _⟩ := (show slP 1 v bs.length (bs.map bcell) w _ from h.sp _ hm)
  have : maxLen = 9223372036854775807 := rfl
  omega
end Go.Hs

/-
  Elements of own rows of structs, boxes let go, own rows cut and cleared, max. No program is named here.
-/
namespace Go.Hs
open Go Go.RowKit

/-- a truth kept out of the way of reckoning tactics. -/
structure Kp (p : Prop) : Prop where
  out : p

theorem row_cell {w : World} {v : Value} {t : TypeId} {size n : Nat} {xs : List Value} (h : w.ownsRow 0 t size v n xs) {k : Nat} {u : Value} (hk : xs[k]? = some u) :
    ∃ b c cur, v = .slice (some ⟨b, 0, none⟩) n c ∧ w.heap[b]? = some (.cells cur t (0, 0)) ∧ n ≤ c ∧ cur.size = c * size ∧ cur.toList.take (n * size) = xs ∧ w.cell? ⟨b, k, none⟩ = some u := by
  obtain ⟨h1, h2⟩ := h
  have hlt := (List.getElem?_eq_some_iff.1 hk).1
  rcases h2 with ⟨rfl, rfl⟩ | ⟨g, cap, cur, rfl, _, hh, hc, hm, hs, ht⟩
  · omega
  · refine ⟨g, cap, cur, rfl, hh, hc, hs, ht, ?_⟩
    simp only [World.cell?, hh]
    rw [← ht, List.getElem?_take_of_lt (by omega)] at hk
    simpa using hk

section
variable {C : Ctx} {ops : Array Oper} {l : List Oper} {fr : Fr} {Γ Γ' Γ1 : List OA} {Φ : List SP} {Q : Exit → Act → World → Prop}
  {d : Nat} {ty : TypeId} {pos : String} {aft : Array Edge} {g : Option (Nat × Bool)}

/-- an 'if' stands next. -/
theorem W_isIf {id : Nat} {o : Array Oper} {bb : Bool} {c : Operand} {x y z : Code} (h : W C (.seq (.seq (.region id o bb) (.cond c x y)) z) fr Γ Φ Q) : W C (.seq (.seq (.region id o bb) (.cond c x y)) z) fr Γ Φ Q := h

theorem R_max2 {x y : Operand} {kd : IntKind} {a b m : Int} {ts : Array TypeId} (hx : evO fr x = some (.int kd a)) (hy : evO fr y = some (.int kd b))
    (hr : (if b > a then b else a) = m) : Runs C fr Γ Φ ⟨some d, .call { callee := .builtin .max, args := #[x, y], argTypes := ts }, ty, pos, aft, g⟩ (.int kd m) :=
  Runs.pure fun a' w ha _ => by
    subst hr
    simp [execOp, resolve, invoke, builtin, evO_sound ha hx, evO_sound ha hy, Builtin.max_, Builtin.max2]
theorem R_min2 {x y : Operand} {kd : IntKind} {a b m : Int} {ts : Array TypeId} (hx : evO fr x = some (.int kd a)) (hy : evO fr y = some (.int kd b))
    (hr : (if b < a then b else a) = m) : Runs C fr Γ Φ ⟨some d, .call { callee := .builtin .min, args := #[x, y], argTypes := ts }, ty, pos, aft, g⟩ (.int kd m) :=
  Runs.pure fun a' w ha _ => by
    subst hr
    simp [execOp, resolve, invoke, builtin, evO_sound ha hx, evO_sound ha hy, Builtin.min_, Builtin.min2]

theorem R_addS {x y : Operand} {t t' : TypeId} {a b : List UInt8} (hx : evO fr x = some (strV a)) (hy : evO fr y = some (strV b)) (hl : a.length + b.length ≤ 9223372036854775807) :
    Runs C fr Γ Φ ⟨some d, .binOp .add t x y t', ty, pos, aft, g⟩ (strV (a ++ b)) :=
  Runs.pure fun a' w ha _ => by
    have e1 := evO_sound ha hx
    have e2 := evO_sound ha hy
    simp only [strV] at e1 e2
    have hb : (⟨a.toArray⟩ : ByteArray) ++ ⟨b.toArray⟩ = ⟨(a ++ b).toArray⟩ := by
      apply ByteArray.ext
      rw [ByteArray.data_append]
      simp
    have hn : ¬ ((((⟨a.toArray⟩ : ByteArray).size + (⟨b.toArray⟩ : ByteArray).size : Nat) : Int) > IntKind.i64.max) := by
      have e3 : (⟨a.toArray⟩ : ByteArray).size = a.length := by simp [ByteArray.size]
      have e4 : (⟨b.toArray⟩ : ByteArray).size = b.length := by simp [ByteArray.size]
      rw [e3, e4]
      have : IntKind.i64.max = 9223372036854775807 := rfl
      omega
    have hg : (eqGuard .add t x y (.string ⟨a.toArray⟩) (.string ⟨b.toArray⟩)).run C.P w = .ok () w := by simp [eqGuard]
    simp only [execOp, e1, e2, hg, binOp, Op.stringOp, Sem.run_bind, if_neg hn, Sem.run_pure, Result.andThen_ok, hb, strV]

theorem Ones.append {us vs : List Value} (h : Ones C Γ Φ us) (k : Ones C Γ Φ vs) : Ones C Γ Φ (us ++ vs) := fun u hu => (List.mem_append.1 hu).elim (h u) (k u)
/-- append to an own row, of lasting data whose cells are each one. -/
theorem E_appendO {t e : TypeId} {x y : Operand} {v u : Value} {size n m nm : Nat} {xs news all : List Value} {i : TypeInfo} {z : Value}
    (hx : evO fr x = some v) (hy : evO fr y = some u) (hp : Pick (.row v e size n xs) Γ Γ') (hm : Sl size u m news ∈ Φ)
    (ht : C.P.underlying t = some (.slice e)) (hi : C.P.info? e = some i) (hz : i.zero = some z) (hsize : i.size = size) (hzs : z.cells.size = size) (hsz : 0 < size) (h1 : Ones C Γ Φ news)
    (hby : i.bytes ≤ 128) (hb : n + m ≤ 1099511627776) (hnm : n + m = nm) (hall : xs ++ news = all) :
    Effs C fr Γ Φ ⟨some d, .call { callee := .builtin .append, args := #[x, y], argTypes := #[t, t] }, ty, pos, aft, g⟩ (X := Value) (fun _ => True) (fun q => q) (fun v' => .row v' e size nm all :: Γ') (fun _ => Φ) := by
  refine ⟨fun _ => AllIn.refl _, fun R a w ha hw => ?_⟩
  exact (E_append hx hy hp hm ht hi hz hsize hzs hsz (fun u hu => h1 u hu R w hw) hby hb hnm hall).2 R a w ha hw

/-- a field's address in an element of an own row. -/
theorem R_fieldRow {t ft rt : TypeId} {fs : Array Field} {x : Operand} {v : Value} {i j n fo bo size sz : Nat} {xs : List Value} {nm tag pk : String} {emb : Bool} (hx : evO fr x = some (idxV size i v))
    (hp : Pick (.row v rt size n xs) Γ Γ') (hi : i < n)
    (ht : C.P.underlying t = some (.struct fs)) (hf : fs[j]? = some ⟨nm, ft, fo, emb, tag, pk, bo⟩) (hs : ∀ w, (sizeOf ft).run C.P w = .ok sz w) (hn : Nat.beq sz 0 = false) :
    Runs C fr Γ Φ ⟨some d, .fieldAddr t x j, ty, pos, aft, g⟩ (fldV fo (idxV size i v)) :=
  Runs.pure fun a w ha hw => by
    obtain ⟨hl, h2⟩ := (pick_holds hp hw).own.1
    rcases h2 with ⟨h2, _⟩ | ⟨b, cap, cur, rfl, _, hb, hc, hm, hsz, htk⟩
    · omega
    · have h := run_fieldAt (P := C.P) (a := (⟨b, 0, none⟩ : Addr).add (i * size)) ht hf hs hn w
      simp only [execOp, evO_sound ha hx, idxV, Sem.run_bind, h, Result.andThen_ok, Sem.run_pure, fldV]

theorem R_loadRowF {t rt : TypeId} {x : Operand} {v u : Value} {n i off size : Nat} {xs : List Value} (hx : evO fr x = some (fldV off (idxV size i v))) (hp : Pick (.row v rt size n xs) Γ Γ') (hagg : ∀ w, (isAgg t).run C.P w = .ok false w)
    (hc : xs[i * size + off]? = some u) : Runs C fr Γ Φ ⟨some d, .load t x, ty, pos, aft, g⟩ u :=
  Runs.pure fun a w ha hw => by
    obtain ⟨b, c, cur, rfl, hb, _, _, _, h0⟩ := row_cell (pick_holds hp hw).own.1 hc
    have h0 : w.cell? (((⟨b, 0, none⟩ : Addr).add (i * size)).add off) = some u := by
      rw [Addr.add_lit, Addr.add_lit, Nat.zero_add]
      exact h0
    simp [execOp, evO_sound ha hx, idxV, fldV, Instr.loadAt, Instr.sureAddr, run_loadVar_one hagg h0]

/-- an own block, let go. -/
theorem Holds.letgoK {b : Nat} {t : TypeId} {cs : List Value} {w : World} (h : Holds C (.blk b t cs :: Γ) Φ w) : Holds C Γ (Pt (.pointer (some ⟨b, 0, none⟩)) cs :: Φ) w := by
  have ho := h.own
  refine h.drop.cons ⟨⟨b, 0, none⟩, rfl, OA.lt ho.1 rfl, fun hO => ?_, fun j u hu => ?_⟩
  · rcases hO with hO | hO
    · have h1 := h.o0 b hO
      rcases h.ofp b (fpL_cons.2 (.inl rfl)) with h2 | h2
      · exact h1.2 h2
      · have := h1.1
        omega
    · exact ho.2.1 b rfl hO
  · rw [Addr.add_lit, Nat.zero_add, blk_cell ho.1]
    exact hu
theorem W_letgoK {c : Code} {b : Nat} {t : TypeId} {cs : List Value} (hp : Pick (.blk b t cs) Γ Γ1) (h : W C c fr Γ1 (Pt (.pointer (some ⟨b, 0, none⟩)) cs :: Φ) Q) : W C c fr Γ Φ Q := fun a w ha hw => h a w ha (pick_holds hp hw).letgoK
/-- the front of an own row. -/
theorem E_cutRow {t e rt : TypeId} {x y : Operand} {v : Value} {size n j : Nat} {kd : IntKind} {ii : Int} {xs us : List Value} (hx : evO fr x = some v) (hy : evO fr y = some (.int kd ii)) (hp : Pick (.row v rt size n xs) Γ Γ')
    (ht : C.P.underlying t = some (.slice e)) (hs : ∀ w, (sizeOf e).run C.P w = .ok size w) (hii : ii = (j : Int)) (hj : j ≤ n) (hu : xs.take (j * size) = us) :
    Effs C fr Γ Φ ⟨some d, .slice t x none (some y) none, ty, pos, aft, g⟩ (X := Unit) (fun _ => True) (fun _ => cutV size 0 j v) (fun _ => .row (cutV size 0 j v) rt size j us :: Γ') (fun _ => Φ) := by
  subst hii
  subst hu
  refine ⟨fun _ => AllIn.refl _, fun R a w ha hw => ?_⟩
  have hw' := pick_holds (pick_app hp R) hw
  obtain ⟨hl, h2⟩ := hw'.own.1
  have hrun : ∀ A c, v = .slice A n c → n ≤ c → (execOp a.eval ⟨some d, .slice t x none (some y) none, ty, pos, aft, g⟩).run C.P w = .ok (.value (cutV size 0 j v)) w := fun A c hv hc => by
    subst hv
    have h := run_slice_data_h (P := C.P) (w := w) (n := n) (A := A) (c := c) (kh := kd) ht hs (show j ≤ c by omega)
    simp [execOp, evO_sound ha hx, evO_sound ha hy, h, cutV]
  rcases h2 with ⟨rfl, rfl⟩ | ⟨b, cap, cur, rfl, _, hb, hcc, hm, hsz, htk⟩
  · obtain rfl : j = 0 := by omega
    refine .val (hrun none 0 rfl (Nat.le_refl _)) ⟨(), trivial, rfl, ?_⟩
    have e : cutV size 0 0 (.slice none 0 0) = .slice none 0 0 := rfl
    rw [e]
    refine hw'.move (Mod.refl _ _) ⟨⟨by simp, .inl ⟨rfl, rfl⟩⟩, hw'.own.2.1, hw'.own.2.2⟩ fun k _ hk => ?_
    rcases fpL_cons.1 hk with hk | hk
    · exact fpL_cons.2 (.inl hk)
    · exact fpL_cons.2 (.inr hk)
  · refine .val (hrun _ cap rfl hcc) ⟨(), trivial, rfl, ?_⟩
    have e : cutV size 0 j (.slice (some ⟨b, 0, none⟩) n cap) = .slice (some ⟨b, 0, none⟩) j cap := by
      simp only [cutV, Nat.zero_mul, Nat.sub_zero, Option.map_some, Addr.add_lit, Nat.zero_add]
      split <;> rfl
    rw [e]
    have hj2 : j * size ≤ n * size := Nat.mul_le_mul_right _ hj
    refine hw'.move (Mod.refl _ _) ⟨⟨by simp; omega, .inr ⟨b, cap, cur, rfl, Nat.zero_le _, hb, by omega, hm, hsz, ?_⟩⟩, hw'.own.2.1, hw'.own.2.2⟩ fun k _ hk => ?_
    · rw [← htk, List.take_take, Nat.min_eq_left hj2]
    · rcases fpL_cons.1 hk with hk | hk
      · exact fpL_cons.2 (.inl hk)
      · exact fpL_cons.2 (.inr hk)

/-- where ways meet again, ahead of what follows. -/
theorem W_cutKT {x y : Code} {X : Type} (ds ps : List Nat) (I : X → Prop) (ch : X → Fr) (gn : X → List OA) (hn : X → List SP) {fr1 : Fr} {Γ1 : List OA} {F : X → Fr} {G : X → List OA} {H : X → List SP}
    (hf : keepO ds fr = some fr1) (hg : dropO ps 0 Γ = some Γ1) (hF : ∀ x, appO (ch x) fr1 = some (F x)) (hG : ∀ x, appO (gn x) Γ1 = some (G x)) (hH : ∀ x, appO (hn x) Φ = some (H x))
    (h : W C x fr Γ Φ (Exit.then (fun a w => ∃ z, I z ∧ fok C (F z) a ∧ Holds C (G z) (H z) w) Q)) (k : ∀ z, I z → W C y (F z) (G z) (H z) Q) : W C x fr Γ Φ (Exit.then (y.wpIn (fenceOf C.rd) 0 C.P Q) Q) := by
  intro a w ha hw
  refine wpIn_mono (h a w ha hw) fun e a' w' he => ?_
  cases e <;> first | exact he | (obtain ⟨z, h0, h1, h2⟩ := he; exact k z h0 a' w' h1 h2)
end
end Go.Hs

/-
  Loops whose rounds hold a range over a function: the marks that such a statement leaves. No program is named here.
-/
namespace Go.Hs
open Go Go.RowKit

/-- the marks of ranges over functions, and their blocks. -/
def Mk (Ds : List Nat) : List Deferred := Ds.map fun D => ⟨.collected D, #[]⟩
def mkO (Ds : List Nat) : List OA := Ds.map fun D => ob D (.deferred (some []))

section
variable {P : Program} {n : Nat} {w0 : World} {O0 M : Nat → Prop} {fr : Fr} {Γ Γ1 : List OA} {Φ : List SP} {Q : Exit → Act → World → Prop}

end

section
variable {P : Program} {n : Nat} {w0 : World} {O0 M : Nat → Prop} {fn : Func} {fr : Fr} {Γ Γ1 : List OA} {Φ : List SP} {X : Type} {pf : X → Prop} {ret : X → Value} {Γ' : X → List OA} {Φ' : X → List SP}
end
end Go.Hs

/-
  Own rows sliced, own trees lent, rows let go by parts. No program is named here.
-/
namespace Go.Hs
open Go Go.RowKit

section
variable {C : Ctx} {ops : Array Oper} {l : List Oper} {fr : Fr} {Γ Γ' Γ1 : List OA} {Φ : List SP} {Q : Exit → Act → World → Prop}
  {d : Nat} {ty : TypeId} {pos : String} {aft : Array Edge} {g : Option (Nat × Bool)}

theorem Ones.lits {us : List Value} (h : ∀ u ∈ us, u.oneCell' = true) : Ones C Γ Φ us := fun u hu => OneC.lit (h u hu)

theorem Bor.sub {Γb : List OA} {Φb Φc : List SP} (h : Bor Γb Φ Φb) (hs : AllIn Φc Φb) : Bor Γb Φ Φc := fun w O ho hd hΦ ψ hψ => h w O ho hd hΦ ψ (hs ψ hψ)

end
end Go.Hs

/-
  A call that is handed some own things and reads others. No program is named here.
-/
namespace Go.Hs
open Go Go.RowKit
section
variable {C : Ctx} {fr : Fr} {Γ : List OA} {Φ : List SP}
  {ty : TypeId} {pos : String} {aft : Array Edge} {g : Option (Nat × Bool)}
theorem E_callOB {dst : Option Tmp} {f : FuncId} {args : List Operand} {argTypes : Array TypeId} {vs : List Value}
    {Γp Γb Γr : List OA} {Φp : List SP} {X : Type} {pf : X → Prop} {ret : X → Value} {Γ' : X → List OA} {Γ'' : X → List OA}
    (ha : evOs fr args = some vs)
    (hrun : ∀ (aas : Array Value) (w : World), (callFunc f aas).run C.P w = .ok (.enter f aas) w)
    (hfn : Ct C.P f vs Γp Φp pf ret Γ' (fun _ => [])) (hp : Γ.Perm (Γp ++ (Γb ++ Γr))) (hb : Bor Γb Φ Φp) (hΓ : ∀ x, appO (Γ' x) (Γb ++ Γr) = some (Γ'' x)) :
    Effs C fr Γ Φ ⟨dst, .call { callee := .value (.func f), args := args.toArray, argTypes := argTypes }, ty, pos, aft, g⟩ pf ret Γ'' (fun _ => Φ) := by
  refine ⟨fun x => AllIn.refl _, fun R a w hfa hw => ?_⟩
  have hw' := hw.perm (hp.append_right R)
  rw [List.append_assoc] at hw'
  obtain ⟨ho1, ho2, ho3⟩ := Own.append.1 hw'.own
  have ho2' := ho2
  rw [List.append_assoc] at ho2'
  obtain ⟨hb1, hb2, hb3⟩ := Own.append.1 ho2'
  have hin : ∀ k, fpL (Γr ++ R) k → fpL ((Γb ++ Γr) ++ R) k := fun k hk => by
    rw [List.append_assoc]
    exact fpL_append.2 (.inr hk)
  have hO : ∀ k, avo C.O0 (Γr ++ R) k → k < w.heap.size ∧ ¬ fpL Γp k := fun k hk => by
    rcases hk with hk | hk
    · have h1 := hw'.o0 k hk
      refine ⟨Nat.lt_of_lt_of_le h1.1 hw'.mod.size, fun hn => ?_⟩
      rcases hw'.ofp k (fpL_append.2 (.inl hn)) with h2 | h2
      · exact h1.2 h2
      · omega
    · exact ⟨Own.lt hb2 hk, fun hn => ho3 k hn (hin k hk)⟩
  have hd : ∀ k, fpL Γb k → ¬ avo (avo C.O0 (Γr ++ R)) Γp k := fun k hk hn => by
    have hk' : fpL ((Γb ++ Γr) ++ R) k := fpL_append.2 (.inl (fpL_append.2 (.inl hk)))
    rcases hn with (hn | hn) | hn
    · have h1 := hw'.o0 k hn
      rcases hw'.ofp k (fpL_append.2 (.inr hk')) with h2 | h2
      · exact h1.2 h2
      · omega
    · exact hb3 k hk hn
    · exact ho3 k hn hk'
  have hΦ : ∀ ψ ∈ Φ, ψ.p w (avo (avo C.O0 (Γr ++ R)) Γp) := fun ψ hψ => ψ.st (hw'.sp ψ hψ) (Mod.refl _ _) fun k _ hk => by
    rcases hk with (hk | hk) | hk
    · exact .inl hk
    · exact .inr (fpL_append.2 (.inr (hin k hk)))
    · exact .inr (fpL_append.2 (.inl hk))
  have hcall := hfn w (avo C.O0 (Γr ++ R)) hO ho1 (fun ψ hψ => hb w _ hb1 hd hΦ ψ hψ)
  have hrun' : (execOp a.eval ⟨dst, .call { callee := .value (.func f), args := args.toArray, argTypes := argTypes }, ty, pos, aft, g⟩).run C.P w = .ok (.enter f vs.toArray) w := by
    have e2 := evOs_sound hfa ha
    simp only [execOp, resolve, Act.eval, Deferred.ofValue, List.map_toArray, e2, Sem.run_bind, Sem.run_pure, Result.andThen_ok, invoke]
    rw [hrun]
    congr 2
    apply Array.ext'
    simp
  rw [hrun']
  show Calls _ _ _ _ _
  refine hcall.mono fun e w1 ⟨x, hx, he, hm, ho, hf, _⟩ => ⟨_, he, x, hx, rfl, ?_⟩
  have hdis : ∀ k, fpL (Γ' x) k → ¬ fpL ((Γb ++ Γr) ++ R) k := fun k hk hn => by
    rcases hf k hk with h1 | h1
    · exact ho3 k h1 hn
    · have := Own.lt ho2 hn
      omega
  have hmove : Holds C (Γ' x ++ ((Γb ++ Γr) ++ R)) Φ w1 := by
    refine hw'.move (hm.mono fun k _ hk => fpL_append.2 (.inl hk)) (Own.append.2 ⟨ho, ho2.keep fun k hlt hk => hm.block k hlt fun hn => ho3 k hn hk, hdis⟩) fun k hlt hk => ?_
    rcases fpL_append.1 hk with hk | hk
    · rcases hf k hk with h1 | h1
      · exact fpL_append.2 (.inl h1)
      · omega
    · exact fpL_append.2 (.inr hk)
  rw [← appO_eq (hΓ x), List.append_assoc (Γ' x)]
  exact hmove
/-- own blocks lent: what they hold. -/
theorem Bor.blks {Φ : List SP} {bs : List (Nat × TypeId × List Value)} : Bor (bs.map fun b => .blk b.1 b.2.1 b.2.2) Φ ((bs.map fun b => Pt (.pointer (some ⟨b.1, 0, none⟩)) b.2.2) ++ Φ) := fun w O ho hd hΦ ψ hψ => by
  rcases List.mem_append.1 hψ with hψ | hψ
  · obtain ⟨q, hq, rfl⟩ := List.mem_map.1 hψ
    have key : ∀ (l : List (Nat × TypeId × List Value)), Own (l.map fun b => .blk b.1 b.2.1 b.2.2) w → q ∈ l → w.heap[q.1]? = some (.cells q.2.2.toArray q.2.1 (0, 0)) := by
      intro l
      induction l with
      | nil => intro _ h; cases h
      | cons p r ih =>
        intro h1 h2
        rcases List.mem_cons.1 h2 with rfl | h2
        · exact h1.1
        · exact ih h1.2.2 h2
    have hh := key bs ho hq
    refine ⟨⟨q.1, 0, none⟩, rfl, (Array.getElem?_eq_some_iff.1 hh).1, hd q.1 ⟨.blk q.1 q.2.1 q.2.2, List.mem_map.2 ⟨q, hq, rfl⟩, rfl⟩, fun j u hu => ?_⟩
    rw [Addr.add_lit, Nat.zero_add]
    simp only [World.cell?, hh]
    simpa using hu
  · exact hΦ ψ hψ
theorem Bor.ent {Γb : List OA} {Φb Φc : List SP} (h : Bor Γb Φ Φb) (hs : AllE Φc Φb) : Bor Γb Φ Φc := fun w O ho hd hΦ ψ hψ => hs ψ hψ w O (h w O ho hd hΦ)
end
end Go.Hs

/-
  The rules of the small logic for arrays of six bytes, for slices of arrays, and for comparing things of several cells. No program is named here.
-/
namespace Go.Hs
open Go Go.RowKit

/-- six bytes. -/
structure A6 where
  a0 : UInt8
  a1 : UInt8
  a2 : UInt8
  a3 : UInt8
  a4 : UInt8
  a5 : UInt8
deriving DecidableEq
def A6.bytes (a : A6) : List UInt8 := [a.a0, a.a1, a.a2, a.a3, a.a4, a.a5]
def A6.cells (a : A6) : List Value := [bcell a.a0, bcell a.a1, bcell a.a2, bcell a.a3, bcell a.a4, bcell a.a5]
theorem A6.bytes_inj {a b : A6} (h : a.bytes = b.bytes) : a = b := by
  obtain ⟨a0, a1, a2, a3, a4, a5⟩ := a
  obtain ⟨b0, b1, b2, b3, b4, b5⟩ := b
  simp only [A6.bytes, List.cons.injEq, and_true] at h
  obtain ⟨rfl, rfl, rfl, rfl, rfl, rfl⟩ := h
  rfl
def A6.of (l : List UInt8) : A6 := ⟨l.getD 0 0, l.getD 1 0, l.getD 2 0, l.getD 3 0, l.getD 4 0, l.getD 5 0⟩
def zA6 : A6 := ⟨0, 0, 0, 0, 0, 0⟩
/-- a cell that holds a byte. -/
def Bc (v : Value) (b : UInt8) : Prop := v = bcell b
theorem Bc.self (b : UInt8) : Bc (bcell b) b := rfl
theorem Bc.zero : Bc (.int .u8 0) 0 := rfl
theorem Bc.lit (n : Nat) (h : Nat.blt n 256 = true) : Bc (.int .u8 (Int.ofNat n)) (UInt8.ofNat n) := by
  have h : n < 256 := Nat.le_of_ble_eq_true h
  show Value.int .u8 (Int.ofNat n) = .int .u8 ((UInt8.ofNat n).toNat : Int)
  rw [UInt8.toNat_ofNat', Nat.mod_eq_of_lt h]
  rfl

/-- a cell and what it tells when compared. -/
def Kc (P : Program) (t : TypeId) (cs : List Value) (ls : List Lit) : Prop := ∃ D, P.keyLits D t cs = some ls

section
variable {P : Program}
theorem keyLits_mono_u8 {e : TypeId} (he : P.underlying e = some (.int .u8)) (b : UInt8) : P.keyLits 1 e [bcell b] = some [.int .u8 (b.toNat : Int)] := by
  have h : (Lit.int .u8 (b.toNat : Int)).wf = true := by
    have := b.toNat_lt
    simp [Lit.wf, IntKind.min, IntKind.max, IntKind.signed, IntKind.bits] <;> omega
  simp [Program.keyLits, he, bcell, h]
theorem keyLits_a6 {t e : TypeId} (ht : P.underlying t = some (.array 6 e)) (he : P.underlying e = some (.int .u8)) (hce : P.cellsOf e = 1) (hct : P.cellsOf t = 6) (a : A6) :
    P.keyLits 2 t a.cells = some (a.bytes.map fun b => .int .u8 (b.toNat : Int)) := by
  have h := fun b => keyLits_mono_u8 he b
  have hr : List.range 6 = [0, 1, 2, 3, 4, 5] := rfl
  rw [show (2 : Nat) = 1 + 1 from rfl]
  unfold Program.keyLits
  simp only [ht, hct, hce, A6.cells, List.length_cons, List.length_nil, if_true, hr, List.mapM_cons, List.mapM_nil, Nat.zero_mul, Nat.one_mul, Nat.mul_one, List.drop_zero, List.drop_succ_cons, List.take_succ_cons, List.take_zero, h,
    Option.pure_def, Option.bind_eq_bind, Option.bind_some, Option.map_some]
  rfl
theorem a6_lits_inj {a b : A6} : (a.bytes.map fun b => Lit.int .u8 (b.toNat : Int)) = (b.bytes.map fun b => Lit.int .u8 (b.toNat : Int)) ↔ a = b := by
  constructor
  · intro h
    apply A6.bytes_inj
    refine List.map_inj_right (fun x y hxy => ?_) |>.1 h
    injection hxy with _ hxy
    exact UInt8.toNat_inj.1 (by omega)
  · rintro rfl; rfl
end

section
variable {C : Ctx} {ops : Array Oper} {l : List Oper} {fr : Fr} {Γ Γ' Γ1 : List OA} {Φ : List SP} {Q : Exit → Act → World → Prop}
  {d : Nat} {ty : TypeId} {pos : String} {aft : Array Edge} {g : Option (Nat × Bool)}

theorem neS_t' {α : Type} {a b : α} [Decidable (a = b)] (h : ¬ a = b) : (!decide (a = b)) = true := by rw [decide_eq_false h]; rfl
theorem neS_f' {α : Type} {a b : α} [Decidable (a = b)] (h : a = b) : (!decide (a = b)) = false := by rw [decide_eq_true h]; rfl
/-- two things of several cells compared. -/
theorem R_eqG {x y : Operand} {t t' : TypeId} {cs ds : List Value} {D D' : Nat} {la lb : List Lit} {c : Bool} {m : Nat} (hx : evO fr x = some (.agg cs.toArray)) (hy : evO fr y = some (.agg ds.toArray))
    (hk : C.P.keyTypeAt m t = true) (hm : Nat.ble m 10000 = true) (hg : C.P.eqGuardType C.P.depth t = false)
    (fx : (Value.agg cs.toArray).formed C.P t = true) (fy : (Value.agg ds.toArray).formed C.P t = true) {p : Prop} [Decidable p] (ka : C.P.keyLits D t cs = some la) (kb : C.P.keyLits D' t ds = some lb) (hp : la = lb ↔ p) (hr : decide p = c) :
    Runs C fr Γ Φ ⟨some d, .binOp .eql t x y t', ty, pos, aft, g⟩ (.bool c) :=
  Runs.pure fun a w ha hw => by
    subst hr
    obtain ⟨r, hr, hi⟩ := run_equalIn_deep (P := C.P) (10000 - m) m t hk w D D' (.agg cs.toArray) (.agg ds.toArray) la lb fx fy (by simpa [Value.cells] using ka) (by simpa [Value.cells] using kb)
    rw [show 10000 - m + m = 10000 from Nat.sub_add_cancel (Nat.le_of_ble_eq_true hm)] at hr
    have hd : r = decide p := by
      cases r
      · exact (decide_eq_false fun e => by simpa using hi.2 (hp.2 e)).symm
      · exact (decide_eq_true (hp.1 (hi.1 rfl))).symm
    subst hd
    simp only [execOp, evO_sound ha hx, evO_sound ha hy, Sem.run_bind, run_eqGuard_agg w .eql t x y _ _ hg, Result.andThen_ok, run_eql_struct, hr, Sem.run_pure]
theorem R_neG {x y : Operand} {t t' : TypeId} {cs ds : List Value} {D D' : Nat} {la lb : List Lit} {c : Bool} {m : Nat} (hx : evO fr x = some (.agg cs.toArray)) (hy : evO fr y = some (.agg ds.toArray))
    (hk : C.P.keyTypeAt m t = true) (hm : Nat.ble m 10000 = true) (hg : C.P.eqGuardType C.P.depth t = false)
    (fx : (Value.agg cs.toArray).formed C.P t = true) (fy : (Value.agg ds.toArray).formed C.P t = true) {p : Prop} [Decidable p] (ka : C.P.keyLits D t cs = some la) (kb : C.P.keyLits D' t ds = some lb) (hp : la = lb ↔ p) (hr : (!decide p) = c) :
    Runs C fr Γ Φ ⟨some d, .binOp .neq t x y t', ty, pos, aft, g⟩ (.bool c) :=
  Runs.pure fun a w ha hw => by
    subst hr
    obtain ⟨r, hr, hi⟩ := run_equalIn_deep (P := C.P) (10000 - m) m t hk w D D' (.agg cs.toArray) (.agg ds.toArray) la lb fx fy (by simpa [Value.cells] using ka) (by simpa [Value.cells] using kb)
    rw [show 10000 - m + m = 10000 from Nat.sub_add_cancel (Nat.le_of_ble_eq_true hm)] at hr
    have hd : r = decide p := by
      cases r
      · exact (decide_eq_false fun e => by simpa using hi.2 (hp.2 e)).symm
      · exact (decide_eq_true (hp.1 (hi.1 rfl))).symm
    subst hd
    simp only [execOp, evO_sound ha hx, evO_sound ha hy, Sem.run_bind, run_eqGuard_agg w .neq t x y _ _ hg, Result.andThen_ok, run_neq_struct, hr, Sem.run_pure]
/-- two addresses compared. -/
theorem R_eqA {x y : Operand} {t t' e : TypeId} {v0 v1 v2 v3 v4 v5 u0 u1 u2 u3 u4 u5 : Value} {a0 a1 a2 a3 a4 a5 b0 b1 b2 b3 b4 b5 : UInt8} {c : Bool} (hx : evO fr x = some (.agg #[v0, v1, v2, v3, v4, v5])) (hy : evO fr y = some (.agg #[u0, u1, u2, u3, u4, u5]))
    (ht : C.P.underlying t = some (.array 6 e)) (he : C.P.underlying e = some (.int .u8)) (hce : C.P.cellsOf e = 1) (hct : C.P.cellsOf t = 6) (hg : C.P.eqGuardType C.P.depth t = false)
    (p0 : Bc v0 a0) (p1 : Bc v1 a1) (p2 : Bc v2 a2) (p3 : Bc v3 a3) (p4 : Bc v4 a4) (p5 : Bc v5 a5) (q0 : Bc u0 b0) (q1 : Bc u1 b1) (q2 : Bc u2 b2) (q3 : Bc u3 b3) (q4 : Bc u4 b4) (q5 : Bc u5 b5)
    (hr : decide ((⟨a0, a1, a2, a3, a4, a5⟩ : A6) = ⟨b0, b1, b2, b3, b4, b5⟩) = c) : Runs C fr Γ Φ ⟨some d, .binOp .eql t x y t', ty, pos, aft, g⟩ (.bool c) := by
  subst p0; subst p1; subst p2; subst p3; subst p4; subst p5; subst q0; subst q1; subst q2; subst q3; subst q4; subst q5
  have hk : C.P.keyTypeAt 2 t = true := by simp [Program.keyTypeAt, ht, he]
  refine R_eqG (cs := A6.cells ⟨a0, a1, a2, a3, a4, a5⟩) (ds := A6.cells ⟨b0, b1, b2, b3, b4, b5⟩) hx hy hk rfl hg (by simp [Value.formed, ht, hct, A6.cells]) (by simp [Value.formed, ht, hct, A6.cells]) (keyLits_a6 ht he hce hct _) (keyLits_a6 ht he hce hct _) a6_lits_inj hr
theorem R_neA {x y : Operand} {t t' e : TypeId} {v0 v1 v2 v3 v4 v5 u0 u1 u2 u3 u4 u5 : Value} {a0 a1 a2 a3 a4 a5 b0 b1 b2 b3 b4 b5 : UInt8} {c : Bool} (hx : evO fr x = some (.agg #[v0, v1, v2, v3, v4, v5])) (hy : evO fr y = some (.agg #[u0, u1, u2, u3, u4, u5]))
    (ht : C.P.underlying t = some (.array 6 e)) (he : C.P.underlying e = some (.int .u8)) (hce : C.P.cellsOf e = 1) (hct : C.P.cellsOf t = 6) (hg : C.P.eqGuardType C.P.depth t = false)
    (p0 : Bc v0 a0) (p1 : Bc v1 a1) (p2 : Bc v2 a2) (p3 : Bc v3 a3) (p4 : Bc v4 a4) (p5 : Bc v5 a5) (q0 : Bc u0 b0) (q1 : Bc u1 b1) (q2 : Bc u2 b2) (q3 : Bc u3 b3) (q4 : Bc u4 b4) (q5 : Bc u5 b5)
    (hr : (!decide ((⟨a0, a1, a2, a3, a4, a5⟩ : A6) = ⟨b0, b1, b2, b3, b4, b5⟩)) = c) : Runs C fr Γ Φ ⟨some d, .binOp .neq t x y t', ty, pos, aft, g⟩ (.bool c) := by
  subst p0; subst p1; subst p2; subst p3; subst p4; subst p5; subst q0; subst q1; subst q2; subst q3; subst q4; subst q5
  have hk : C.P.keyTypeAt 2 t = true := by simp [Program.keyTypeAt, ht, he]
  refine R_neG (cs := A6.cells ⟨a0, a1, a2, a3, a4, a5⟩) (ds := A6.cells ⟨b0, b1, b2, b3, b4, b5⟩) hx hy hk rfl hg (by simp [Value.formed, ht, hct, A6.cells]) (by simp [Value.formed, ht, hct, A6.cells]) (keyLits_a6 ht he hce hct _) (keyLits_a6 ht he hce hct _) a6_lits_inj hr

/-- the front of what a pointer leads to is loaded. -/
theorem R_loadPT {t : TypeId} {x : Operand} {p : Value} {us us' : List Value} {n : Nat} (hx : evO fr x = some p)
    (hm : Pt p us ∈ Φ) (hagg : ∀ w, (isAgg t).run C.P w = .ok true w) (hs : ∀ w, (sizeOf t).run C.P w = .ok n w) (ht : takeN 0 n us = some us') : Runs C fr Γ Φ ⟨some d, .load t x, ty, pos, aft, g⟩ (.agg us'.toArray) :=
  Runs.pure fun a w ha hw => by
    obtain ⟨ad, hv, _, _, hcell⟩ := hw.sp _ hm
    obtain ⟨h1, h2⟩ := takeN_at ht
    simp [execOp, evO_sound ha hx, hv, Instr.loadAt, Instr.sureAddr, run_loadVar_agg (w := w) (a := ad) (us := us') hagg (fun w => by rw [h1]; exact hs w) (fun j u hu => hcell j u (by have := h2 j u hu; rwa [Nat.zero_add] at this))]
/-- a part of a lasting block is loaded. -/
theorem R_loadPO {t : TypeId} {x : Operand} {b off : Nat} {us : List Value} {v : Value} (hx : evO fr x = some (.pointer (some ⟨b, off, none⟩)))
    (hm : Pt (.pointer (some ⟨b, 0, none⟩)) us ∈ Φ) (hagg : ∀ w, (isAgg t).run C.P w = .ok false w) (hc : us[off]? = some v) : Runs C fr Γ Φ ⟨some d, .load t x, ty, pos, aft, g⟩ v :=
  Runs.pure fun a w ha hw => by
    obtain ⟨ad, hv, _, _, hcell⟩ := hw.sp _ hm
    injection hv with hv
    injection hv with hv
    subst hv
    have h0 := hcell off v hc
    rw [Addr.add_lit, Nat.zero_add] at h0
    simp [execOp, evO_sound ha hx, Instr.loadAt, Instr.sureAddr, run_loadVar_one hagg h0]
theorem R_loadPON {t : TypeId} {x : Operand} {b off n : Nat} {us us' : List Value} (hx : evO fr x = some (.pointer (some ⟨b, off, none⟩)))
    (hm : Pt (.pointer (some ⟨b, 0, none⟩)) us ∈ Φ) (hagg : ∀ w, (isAgg t).run C.P w = .ok true w) (hs : ∀ w, (sizeOf t).run C.P w = .ok n w) (ht : takeN off n us = some us') : Runs C fr Γ Φ ⟨some d, .load t x, ty, pos, aft, g⟩ (.agg us'.toArray) :=
  Runs.pure fun a w ha hw => by
    obtain ⟨ad, hv, _, _, hcell⟩ := hw.sp _ hm
    injection hv with hv
    injection hv with hv
    subst hv
    obtain ⟨h1, h2⟩ := takeN_at ht
    simp [execOp, evO_sound ha hx, Instr.loadAt, Instr.sureAddr, run_loadVar_agg (w := w) (a := ⟨b, off, none⟩) (us := us') hagg (fun w => by rw [h1]; exact hs w) (fun j u hu => by
      have h3 := hcell _ u (h2 j u hu)
      rw [Addr.add_lit, Nat.zero_add] at h3
      rw [Addr.add_lit]
      exact h3)]
/-- a slice of an array, whole: the slice's value. -/
theorem R_sliceArr {t e : TypeId} {x : Operand} {b off n : Nat} (hx : evO fr x = some (.pointer (some ⟨b, off, none⟩))) (ht : C.P.underlying t = some (.array n e))
    (hs : ∀ w, (sizeOf e).run C.P w = .ok 1 w) (hn : Nat.beq n 0 = false) : Runs C fr Γ Φ ⟨some d, .slice t x none none none, ty, pos, aft, g⟩ (.slice (some ⟨b, off, none⟩) n n) :=
  Runs.pure fun a w ha hw => by
    have h0 : ¬ n = 0 := fun e => by rw [e] at hn; cases hn
    simp [execOp, evO_sound ha hx, Instr.sliceAt, Instr.sliceBounds, run_underlying ht, hs, h0, Instr.sureAddr, Addr.add]

/-- a part of what a pointer leads to, read as bytes. -/
theorem ent_ptBy {b off n : Nat} {xs : List Value} {bs : List UInt8} (hm : Pt (.pointer (some ⟨b, off, none⟩)) xs ∈ Φ) (hx : xs.take n = bs.map bcell) (hl : bs.length = n) (h0 : 0 < n) (hn : n ≤ 1000) : Ent Φ (By (.slice (some ⟨b, off, none⟩) n n) bs) := fun w O h => by
  obtain ⟨ad, hv, hlt, hO, hcell⟩ := h _ hm
  injection hv with hv
  injection hv with hv
  subst hv
  have hlen : n ≤ xs.length := by
    have := congrArg List.length hx
    rw [List.length_take, List.length_map, hl] at this
    omega
  refine ⟨by rw [List.length_map, Nat.mul_one], some ⟨b, off, none⟩, n, by rw [hl], by omega, by simp [maxLen]; omega, fun _ => ⟨_, rfl, hlt, hO, fun j u hu => ?_⟩⟩
  · rw [← hx, List.getElem?_take] at hu
    split at hu
    · exact hcell j u hu
    · cases hu
end
end Go.Hs

/-
  Parts of arrays in own blocks: slices of them, elements of such slices, appends onto them. No program is named here.
-/
namespace Go.Hs
open Go Go.RowKit
section
variable {C : Ctx} {fr : Fr} {Γ Γ' : List OA} {Φ : List SP} {d : Tmp} {ty : TypeId} {pos : String} {aft : Array Edge} {g : Option (Nat × Bool)}

/-- the goal stands at a region. -/
theorem W_isReg {C : Ctx} {fr : Fr} {Γ : List OA} {Φ : List SP} {Q : Exit → Act → World → Prop} (id : Nat) {l : Array Oper} {b : Bool} (h : W C (.region id l b) fr Γ Φ Q) : W C (.region id l b) fr Γ Φ Q := h
theorem add_at (b o k : Nat) : (⟨b, o, none⟩ : Addr).add k = ⟨b, o + k, none⟩ := by
  unfold Addr.add
  by_cases h : k = 0
  · subst h; rw [if_pos rfl]; rfl
  · rw [if_neg h]
theorem R_sliceHi {t e : TypeId} {x y : Operand} {b off n k : Nat} {kd : IntKind} (hx : evO fr x = some (.pointer (some ⟨b, off, none⟩))) (hy : evO fr y = some (.int kd (k : Int))) (ht : C.P.underlying t = some (.array n e))
    (hs : ∀ w, (sizeOf e).run C.P w = .ok 1 w) (hn : Nat.beq n 0 = false) (hk : Nat.ble k n = true) : Runs C fr Γ Φ ⟨some d, .slice t x none (some y) none, ty, pos, aft, g⟩ (.slice (some ⟨b, off, none⟩) k n) :=
  Runs.pure fun a w ha hw => by
    have h0 : ¬ n = 0 := fun e => by rw [e] at hn; cases hn
    have hk := Nat.le_of_ble_eq_true hk
    simp [execOp, evO_sound ha hx, evO_sound ha hy, Instr.sliceAt, Instr.sliceBounds, Instr.sliceBound, asIntOf, run_underlying ht, hs, h0, hk, Instr.sureAddr, add_at]
theorem R_sliceLo {t e : TypeId} {x y : Operand} {b off n k : Nat} {kd : IntKind} (hx : evO fr x = some (.pointer (some ⟨b, off, none⟩))) (hy : evO fr y = some (.int kd (k : Int))) (ht : C.P.underlying t = some (.array n e))
    (hs : ∀ w, (sizeOf e).run C.P w = .ok 1 w) (hk : Nat.blt k n = true) : Runs C fr Γ Φ ⟨some d, .slice t x (some y) none none, ty, pos, aft, g⟩ (.slice (some ⟨b, off + k, none⟩) (n - k) (n - k)) :=
  Runs.pure fun a w ha hw => by
    have hk : k < n := Nat.le_of_ble_eq_true hk
    have h0 : ¬ n = k := by omega
    have h1 : k ≤ n := by omega
    simp [execOp, evO_sound ha hx, evO_sound ha hy, Instr.sliceAt, Instr.sliceBounds, Instr.sliceBound, asIntOf, run_underlying ht, hs, h0, h1, Instr.sureAddr, add_at]
/-- an element's place in a slice of an own block. -/
theorem R_idxLit {t e : TypeId} {x y : Operand} {b o n c i : Nat} {kd : IntKind} {ii : Int} (hx : evO fr x = some (.slice (some ⟨b, o, none⟩) n c)) (hy : evO fr y = some (.int kd ii)) (ht : C.P.underlying t = some (.slice e))
    (hs : ∀ w, (sizeOf e).run C.P w = .ok 1 w) (hi : ii = (i : Int)) (hl : i < n) : Runs C fr Γ Φ ⟨some d, .indexAddr t x y, ty, pos, aft, g⟩ (.pointer (some ⟨b, o + i, none⟩)) :=
  Runs.pure fun a w ha hw => by
    subst hi
    have := run_indexAt_some (P := C.P) (w := w) (t := t) (e := e) (size := 1) (ad := ⟨b, o, none⟩) (n := n) (c := c) (kd := kd) (i := i) ht hs hl
    rw [Nat.mul_one, add_at] at this
    simp only [execOp, evO_sound ha hx, evO_sound ha hy, this, Sem.run_bind, Result.andThen_ok, Sem.run_pure]
/-- nothing appended. -/
theorem R_appendNone {t e : TypeId} {x y : Operand} {b o n c : Nat} {i : TypeInfo} (hx : evO fr x = some (.slice (some ⟨b, o, none⟩) n c)) (hy : evO fr y = some (.slice none 0 0))
    (ht : C.P.underlying t = some (.slice e)) (hi : C.P.info? e = some i) (hn : Nat.ble n c = true) :
    Runs C fr Γ Φ ⟨some d, .call { callee := .builtin .append, args := #[x, y], argTypes := #[t, t] }, ty, pos, aft, g⟩ (.slice (some ⟨b, o, none⟩) n c) :=
  Runs.pure fun a w ha hw => by
    have hn := Nat.le_of_ble_eq_true hn
    have h : (Builtin.append_ #[t, t] ty #[.slice (some ⟨b, o, none⟩) n c, .slice none 0 0]).run C.P w = .ok (.slice (some ⟨b, o, none⟩) n c) w := by
      simp [Builtin.append_, run_underlying ht, sizeOf, typeInfo, hi, Builtin.lenOf, Builtin.firstCells, hn, storeCells]
    simp only [execOp, resolve, invoke, builtin, Sem.run_bind, Sem.run_pure, Result.andThen_ok, List.map_toArray, List.map_cons, List.map_nil, evO_sound ha hx, evO_sound ha hy, h]
/-- a part of an own block appended to another part of it, with room. -/
theorem E_appendBlk {t e bt : TypeId} {x y : Operand} {b n m o c c' : Nat} {i : TypeInfo} {cs news ds : List Value} (hx : evO fr x = some (.slice (some ⟨b, 0, none⟩) n c)) (hy : evO fr y = some (.slice (some ⟨b, o, none⟩) m c'))
    (hp : Pick (.blk b bt cs) Γ Γ') (ht : C.P.underlying t = some (.slice e)) (hi : C.P.info? e = some i) (hsz : i.size = 1) (hn : Nat.ble (n + m) c = true) (hl : Nat.ble (n + m) cs.length = true) (hnews : (cs.drop o).take m = news) (hnl : news.length = m)
    (h1 : ∀ u ∈ news, u.oneCell' = true) (hds : cs.take n ++ news ++ cs.drop (n + m) = ds) :
    Effs C fr Γ Φ ⟨some d, .call { callee := .builtin .append, args := #[x, y], argTypes := #[t, t] }, ty, pos, aft, g⟩ (X := Unit) (fun _ => True) (fun _ => .slice (some ⟨b, 0, none⟩) (n + m) c) (fun _ => .blk b bt ds :: Γ') (fun _ => Φ) := by
  subst hds
  have hn := Nat.le_of_ble_eq_true hn
  have hl := Nat.le_of_ble_eq_true hl
  refine ⟨fun _ => AllIn.refl _, fun R a w ha hw => ?_⟩
  have hw' := pick_holds (pick_app hp R) hw
  have hb : w.heap[b]? = some (.cells cs.toArray bt (0, 0)) := hw'.own.1
  have hcell : ∀ j u, news[j]? = some u → w.cell? ((⟨b, o, none⟩ : Addr).add j) = some u := fun j u hu => by
    rw [add_at, blk_cell hb]
    rw [← hnews] at hu
    have hj : j < m := by
      have := (List.getElem?_eq_some_iff.1 hu).1
      rw [List.length_take] at this
      omega
    rw [List.getElem?_take, if_pos hj, List.getElem?_drop] at hu
    exact hu
  have hf := run_firstCells_some (P := C.P) w i.size m ⟨b, o, none⟩ m c' news (by rw [hsz, Nat.mul_one]; exact hnl) hcell
  have hst := run_storeCells_at C.P b (n * i.size) bt news 0 cs.toArray w hb (by rw [hsz]; simp; omega) h1
  simp only [Nat.add_zero] at hst
  have hrun : (Builtin.append_ #[t, t] ty #[.slice (some ⟨b, 0, none⟩) n c, .slice (some ⟨b, o, none⟩) m c']).run C.P w = .ok (.slice (some ⟨b, 0, none⟩) (n + m) c) (w.setRow b (cs.take n ++ news ++ cs.drop (n + m)).toArray) := by
    rw [hsz, Nat.mul_one, hnl] at hst
    rw [hsz] at hf
    simp [Builtin.append_, run_underlying ht, sizeOf, typeInfo, hi, Builtin.lenOf, hn, hf, hsz, add_at, hst]
  refine .val (v := .slice (some ⟨b, 0, none⟩) (n + m) c) (w' := _) ?_ ⟨(), trivial, rfl, setRow_holds (ds := cs.take n ++ news ++ cs.drop (n + m)) hw'⟩
  simp only [execOp, resolve, invoke, builtin, Sem.run_bind, Sem.run_pure, Result.andThen_ok, List.map_toArray, List.map_cons, List.map_nil, evO_sound ha hx, evO_sound ha hy, hrun]
/-- a part of what a pointer leads to, read as bytes. -/
theorem ent_ptByO {b off n : Nat} {xs : List Value} {bs : List UInt8} (hm : Pt (.pointer (some ⟨b, 0, none⟩)) xs ∈ Φ) (hx : (xs.drop off).take n = bs.map bcell) (hl : bs.length = n) (h0 : 0 < n) (hn : n ≤ 1000) : Ent Φ (By (.slice (some ⟨b, off, none⟩) n n) bs) := fun w O h => by
  obtain ⟨ad, hv, hlt, hO, hcell⟩ := h _ hm
  injection hv with hv
  injection hv with hv
  subst hv
  refine ⟨by rw [List.length_map, Nat.mul_one], some ⟨b, off, none⟩, n, by rw [hl], by omega, by simp only [maxLen]; omega, fun _ => ⟨⟨b, off, none⟩, rfl, hlt, hO, fun j u hu => ?_⟩⟩
  rw [← hx] at hu
  have hj : j < n := by
    have := (List.getElem?_eq_some_iff.1 hu).1
    rw [List.length_take] at this
    omega
  rw [List.getElem?_take, if_pos hj, List.getElem?_drop] at hu
  have := hcell (off + j) u hu
  rw [add_at, Nat.zero_add] at this
  rw [add_at]
  exact this
end
end Go.Hs

/-
  Headers of frames; small contracts.
-/
namespace Go.Proofs.YteojehocflbgdaaDoor.C05
open Go Go.RowKit Go.Hs

structure Hd where
  kind : UInt8
  sub : UInt8
  toDs : Bool
  fromDs : Bool
  more : Bool
  retry : Bool
  sleep : Bool
  md : Bool
  prot : Bool
  dur : Int
  a1 : A6
  a2 : A6
  a3 : A6
  a4 : A6
  seq : Int
  frag : Int
  tid : Int
  ack : UInt8
  amsdu : Bool
  eosp : Bool
deriving DecidableEq
@[reducible] def Hd.cells (h : Hd) : List Value := [bcell h.kind, bcell h.sub, .bool h.toDs, .bool h.fromDs, .bool h.more, .bool h.retry, .bool h.sleep, .bool h.md, .bool h.prot, .int .i64 h.dur,
  bcell h.a1.a0, bcell h.a1.a1, bcell h.a1.a2, bcell h.a1.a3, bcell h.a1.a4, bcell h.a1.a5, bcell h.a2.a0, bcell h.a2.a1, bcell h.a2.a2, bcell h.a2.a3, bcell h.a2.a4, bcell h.a2.a5,
  bcell h.a3.a0, bcell h.a3.a1, bcell h.a3.a2, bcell h.a3.a3, bcell h.a3.a4, bcell h.a3.a5, bcell h.a4.a0, bcell h.a4.a1, bcell h.a4.a2, bcell h.a4.a3, bcell h.a4.a4, bcell h.a4.a5,
  .int .i64 h.seq, .int .i64 h.frag, .int .i64 h.tid, bcell h.ack, .bool h.amsdu, .bool h.eosp]
@[reducible] def Hd.val (h : Hd) : Value := .agg h.cells.toArray
def h0_ : Hd := ⟨0, 0, false, false, false, false, false, false, false, 0, zA6, zA6, zA6, zA6, 0, 0, 0, 0, false, false⟩
@[reducible] def aV (a : A6) : Value := .agg #[bcell a.a0, bcell a.a1, bcell a.a2, bcell a.a3, bcell a.a4, bcell a.a5]

def grpB (a : A6) : Bool := decide (a.a0.toNat % 2 = 1)
def trafB (k s : UInt8) : Bool := decide (k.toNat = 2) && decide (s.toNat / 8 % 2 = 1)
def knB (k s : UInt8) : Bool :=
  if k.toNat = 0 then decide (s.toNat ≤ 5 ∨ s.toNat = 8 ∨ 10 ≤ s.toNat ∧ s.toNat ≤ 13)
  else if k.toNat = 1 then decide (8 ≤ s.toNat ∧ s.toNat ≤ 13)
  else if k.toNat = 2 then decide (s.toNat % 4 = 0 ∧ s.toNat ≤ 12)
  else false
/-- which parts a header has: addresses and sequence, traffic. -/
def prtB (k : UInt8) : Bool := decide (k.toNat = 0 ∨ k.toNat = 2)
def nulB (h : Hd) : Bool := decide (h.kind.toNat = 2) && decide (h.sub.toNat / 4 % 2 = 1)
def barB (h : Hd) : Bool := nulB h || (decide (h.kind.toNat = 1) && decide (10 ≤ h.sub.toNat))
theorem u8_and1 (a : UInt8) : bits .and .u8 (a.toNat : Int) 1 = ((a.toNat % 2 : Nat) : Int) := by
  have h : ∀ n : Fin 256, bits .and .u8 (n.val : Int) 1 = ((n.val % 2 : Nat) : Int) := by decide +kernel
  exact h ⟨a.toNat, a.toNat_lt⟩
theorem u8_and8 (a : UInt8) : bits .and .u8 (a.toNat : Int) 8 = ((a.toNat / 8 % 2 * 8 : Nat) : Int) := by
  have h : ∀ n : Fin 256, bits .and .u8 (n.val : Int) 8 = ((n.val / 8 % 2 * 8 : Nat) : Int) := by decide +kernel
  exact h ⟨a.toNat, a.toNat_lt⟩
theorem u8_and4 (a : UInt8) : bits .and .u8 (a.toNat : Int) 4 = ((a.toNat / 4 % 2 * 4 : Nat) : Int) := by
  have h : ∀ n : Fin 256, bits .and .u8 (n.val : Int) 4 = ((n.val / 4 % 2 * 4 : Nat) : Int) := by decide +kernel
  exact h ⟨a.toNat, a.toNat_lt⟩
theorem u8_and3 (a : UInt8) : bits .and .u8 (a.toNat : Int) 3 = ((a.toNat % 4 : Nat) : Int) := by
  have h : ∀ n : Fin 256, bits .and .u8 (n.val : Int) 3 = ((n.val % 4 : Nat) : Int) := by decide +kernel
  exact h ⟨a.toNat, a.toNat_lt⟩
attribute [local irreducible] WL W WQ PL Runs Effs AllE Ent SubO FrIn Pick OneC Ones CellsE PartsE SeqE UZ By Sl Pt Ct

set_option maxRecDepth 100000 in
theorem group_fn (a : A6) : CtD Tryd.prog 38 [aV a] [] (.bool (grpB a)) := by
  have hb := u8_and1 a.a0
  have hl := a.a0.toNat_lt
  unfold grpB
  by_cases h : a.a0.toNat % 2 = 1
  · rw [decide_eq_true h]
    refine Ct_intro Tryd.func38 rfl Tryd.ntmps38 (by simp) _ rfl (fun w0 O0 => ?_)
    repeat (first | refine n1 ?_ | refine n2 (fun b _ => ?_) | refine n3 (fun _ _ => ?_) | refine n4 ?_ | refine n5 ?_ | refine WL_nil ?_ | refine W_seq ?_ | refine W_region ?_ | refine n7 ?_ | refine n8 ?_ | refine W_block ?_ | refine W_skip ?_ | refine W_ret ?_ | refine W_exit ?_ | refine WQ_then ?_ | refine WQ_then_ret ?_ | refine WQ_then_exit ?_ | refine WQ_block_normal ?_ | refine WQ_block_ret ?_ | refine WQ_block_exit ?_ | refine n9 ?_)
    refine WL_runs rfl rfl rfl (R_and rfl rfl hb) ?_
    repeat (first | refine n1 ?_ | refine n2 (fun b _ => ?_) | refine n3 (fun _ _ => ?_) | refine n4 ?_ | refine n5 ?_ | refine WL_nil ?_ | refine W_seq ?_ | refine W_region ?_ | refine n7 ?_ | refine n8 ?_ | refine W_block ?_ | refine W_skip ?_ | refine W_ret ?_ | refine W_exit ?_ | refine WQ_then ?_ | refine WQ_then_ret ?_ | refine WQ_then_exit ?_ | refine WQ_block_normal ?_ | refine WQ_block_ret ?_ | refine WQ_block_exit ?_ | refine n9 ?_)
    ((apply ret1 Tryd.results38 ( ())); (focus (first | trivial | assumption | omega)); (focus (first | exact RV_tmp rfl | (apply RV_cellN; exact rfl; (repeat' (first | exact Pick.head _ _ | apply Pick.tail)); (intro _; exact rfl); (intro _; exact rfl); exact rfl) | (apply RV_cell1; exact rfl; (repeat' (first | exact Pick.head _ _ | apply Pick.tail)); (intro _; exact rfl); exact rfl)));  (focus (first | exact rfl | (simp; done))); (focus (repeat (first | exact SubO.nil _ | (apply SubO.cons; (focus (repeat' (first | exact Pick.head _ _ | apply Pick.tail))))))); (focus (repeat (first | exact AllE.nil _ | (apply AllE.cons; (focus (first | exact ent_nilBy | exact ent_nilSl | (apply Ent.mem; repeat' (first | exact mcs | apply mct)))))))))
  · rw [decide_eq_false h]
    refine Ct_intro Tryd.func38 rfl Tryd.ntmps38 (by simp) _ rfl (fun w0 O0 => ?_)
    repeat (first | refine n1 ?_ | refine n2 (fun b _ => ?_) | refine n3 (fun _ _ => ?_) | refine n4 ?_ | refine n5 ?_ | refine WL_nil ?_ | refine W_seq ?_ | refine W_region ?_ | refine n7 ?_ | refine n8 ?_ | refine W_block ?_ | refine W_skip ?_ | refine W_ret ?_ | refine W_exit ?_ | refine WQ_then ?_ | refine WQ_then_ret ?_ | refine WQ_then_exit ?_ | refine WQ_block_normal ?_ | refine WQ_block_ret ?_ | refine WQ_block_exit ?_ | refine n9 ?_)
    refine WL_runs rfl rfl rfl (R_and rfl rfl hb) ?_
    repeat (first | refine n1 ?_ | refine n2 (fun b _ => ?_) | refine n3 (fun _ _ => ?_) | refine n4 ?_ | refine n5 ?_ | refine WL_nil ?_ | refine W_seq ?_ | refine W_region ?_ | refine n7 ?_ | refine n8 ?_ | refine W_block ?_ | refine W_skip ?_ | refine W_ret ?_ | refine W_exit ?_ | refine WQ_then ?_ | refine WQ_then_ret ?_ | refine WQ_then_exit ?_ | refine WQ_block_normal ?_ | refine WQ_block_ret ?_ | refine WQ_block_exit ?_ | refine n9 ?_)
    ((apply ret1 Tryd.results38 ( ())); (focus (first | trivial | assumption | omega)); (focus (first | exact RV_tmp rfl | (apply RV_cellN; exact rfl; (repeat' (first | exact Pick.head _ _ | apply Pick.tail)); (intro _; exact rfl); (intro _; exact rfl); exact rfl) | (apply RV_cell1; exact rfl; (repeat' (first | exact Pick.head _ _ | apply Pick.tail)); (intro _; exact rfl); exact rfl)));  (focus (first | exact rfl | (simp; done))); (focus (repeat (first | exact SubO.nil _ | (apply SubO.cons; (focus (repeat' (first | exact Pick.head _ _ | apply Pick.tail))))))); (focus (repeat (first | exact AllE.nil _ | (apply AllE.cons; (focus (first | exact ent_nilBy | exact ent_nilSl | (apply Ent.mem; repeat' (first | exact mcs | apply mct)))))))))
set_option maxRecDepth 100000 in
theorem null_fn (h : Hd) : CtD Tryd.prog 40 [h.val] [] (.bool (nulB h)) := by
  have hb := u8_and4 h.sub
  have hl := h.sub.toNat_lt
  unfold nulB
  by_cases h1 : h.kind.toNat = 2
  · rw [decide_eq_true h1, Bool.true_and]
    by_cases h2 : h.sub.toNat / 4 % 2 = 1
    · rw [decide_eq_true h2]
      refine Ct_intro Tryd.func40 rfl Tryd.ntmps40 (by simp) _ rfl (fun w0 O0 => ?_)
      repeat (first | refine n1 ?_ | refine n2 (fun b _ => ?_) | refine n3 (fun _ _ => ?_) | refine n4 ?_ | refine n5 ?_ | refine WL_nil ?_ | refine W_seq ?_ | refine W_region ?_ | refine n7 ?_ | refine n8 ?_ | refine W_block ?_ | refine W_skip ?_ | refine W_ret ?_ | refine W_exit ?_ | refine WQ_then ?_ | refine WQ_then_ret ?_ | refine WQ_then_exit ?_ | refine WQ_block_normal ?_ | refine WQ_block_ret ?_ | refine WQ_block_exit ?_ | refine n9 ?_)
      refine WL_runs rfl rfl rfl (R_and rfl rfl hb) ?_
      repeat (first | refine n1 ?_ | refine n2 (fun b _ => ?_) | refine n3 (fun _ _ => ?_) | refine n4 ?_ | refine n5 ?_ | refine WL_nil ?_ | refine W_seq ?_ | refine W_region ?_ | refine n7 ?_ | refine n8 ?_ | refine W_block ?_ | refine W_skip ?_ | refine W_ret ?_ | refine W_exit ?_ | refine WQ_then ?_ | refine WQ_then_ret ?_ | refine WQ_then_exit ?_ | refine WQ_block_normal ?_ | refine WQ_block_ret ?_ | refine WQ_block_exit ?_ | refine n9 ?_)
      ((apply ret1 Tryd.results40 ( ())); (focus (first | trivial | assumption | omega)); (focus (first | exact RV_tmp rfl | (apply RV_cellN; exact rfl; (repeat' (first | exact Pick.head _ _ | apply Pick.tail)); (intro _; exact rfl); (intro _; exact rfl); exact rfl) | (apply RV_cell1; exact rfl; (repeat' (first | exact Pick.head _ _ | apply Pick.tail)); (intro _; exact rfl); exact rfl)));  (focus (first | exact rfl | (simp; done))); (focus (repeat (first | exact SubO.nil _ | (apply SubO.cons; (focus (repeat' (first | exact Pick.head _ _ | apply Pick.tail))))))); (focus (repeat (first | exact AllE.nil _ | (apply AllE.cons; (focus (first | exact ent_nilBy | exact ent_nilSl | (apply Ent.mem; repeat' (first | exact mcs | apply mct)))))))))
    · rw [decide_eq_false h2]
      refine Ct_intro Tryd.func40 rfl Tryd.ntmps40 (by simp) _ rfl (fun w0 O0 => ?_)
      repeat (first | refine n1 ?_ | refine n2 (fun b _ => ?_) | refine n3 (fun _ _ => ?_) | refine n4 ?_ | refine n5 ?_ | refine WL_nil ?_ | refine W_seq ?_ | refine W_region ?_ | refine n7 ?_ | refine n8 ?_ | refine W_block ?_ | refine W_skip ?_ | refine W_ret ?_ | refine W_exit ?_ | refine WQ_then ?_ | refine WQ_then_ret ?_ | refine WQ_then_exit ?_ | refine WQ_block_normal ?_ | refine WQ_block_ret ?_ | refine WQ_block_exit ?_ | refine n9 ?_)
      refine WL_runs rfl rfl rfl (R_and rfl rfl hb) ?_
      repeat (first | refine n1 ?_ | refine n2 (fun b _ => ?_) | refine n3 (fun _ _ => ?_) | refine n4 ?_ | refine n5 ?_ | refine WL_nil ?_ | refine W_seq ?_ | refine W_region ?_ | refine n7 ?_ | refine n8 ?_ | refine W_block ?_ | refine W_skip ?_ | refine W_ret ?_ | refine W_exit ?_ | refine WQ_then ?_ | refine WQ_then_ret ?_ | refine WQ_then_exit ?_ | refine WQ_block_normal ?_ | refine WQ_block_ret ?_ | refine WQ_block_exit ?_ | refine n9 ?_)
      ((apply ret1 Tryd.results40 ( ())); (focus (first | trivial | assumption | omega)); (focus (first | exact RV_tmp rfl | (apply RV_cellN; exact rfl; (repeat' (first | exact Pick.head _ _ | apply Pick.tail)); (intro _; exact rfl); (intro _; exact rfl); exact rfl) | (apply RV_cell1; exact rfl; (repeat' (first | exact Pick.head _ _ | apply Pick.tail)); (intro _; exact rfl); exact rfl)));  (focus (first | exact rfl | (simp; done))); (focus (repeat (first | exact SubO.nil _ | (apply SubO.cons; (focus (repeat' (first | exact Pick.head _ _ | apply Pick.tail))))))); (focus (repeat (first | exact AllE.nil _ | (apply AllE.cons; (focus (first | exact ent_nilBy | exact ent_nilSl | (apply Ent.mem; repeat' (first | exact mcs | apply mct)))))))))
  · rw [decide_eq_false h1, Bool.false_and]
    refine Ct_intro Tryd.func40 rfl Tryd.ntmps40 (by simp) _ rfl (fun w0 O0 => ?_)
    repeat (first | refine n1 ?_ | refine n2 (fun b _ => ?_) | refine n3 (fun _ _ => ?_) | refine n4 ?_ | refine n5 ?_ | refine WL_nil ?_ | refine W_seq ?_ | refine W_region ?_ | refine n7 ?_ | refine n8 ?_ | refine W_block ?_ | refine W_skip ?_ | refine W_ret ?_ | refine W_exit ?_ | refine WQ_then ?_ | refine WQ_then_ret ?_ | refine WQ_then_exit ?_ | refine WQ_block_normal ?_ | refine WQ_block_ret ?_ | refine WQ_block_exit ?_ | refine n9 ?_)
    ((apply ret1 Tryd.results40 ( ())); (focus (first | trivial | assumption | omega)); (focus (first | exact RV_tmp rfl | (apply RV_cellN; exact rfl; (repeat' (first | exact Pick.head _ _ | apply Pick.tail)); (intro _; exact rfl); (intro _; exact rfl); exact rfl) | (apply RV_cell1; exact rfl; (repeat' (first | exact Pick.head _ _ | apply Pick.tail)); (intro _; exact rfl); exact rfl)));  (focus (first | exact rfl | (simp; done))); (focus (repeat (first | exact SubO.nil _ | (apply SubO.cons; (focus (repeat' (first | exact Pick.head _ _ | apply Pick.tail))))))); (focus (repeat (first | exact AllE.nil _ | (apply AllE.cons; (focus (first | exact ent_nilBy | exact ent_nilSl | (apply Ent.mem; repeat' (first | exact mcs | apply mct)))))))))
set_option maxRecDepth 100000 in
theorem bare_fn (h : Hd) : CtD Tryd.prog 17 [h.val] [] (.bool (barB h)) := by
  have hn := null_fn h
  unfold barB
  generalize nulB h = nb at *
  cases nb
  · rw [Bool.false_or]
    by_cases h1 : h.kind.toNat = 1
    · rw [decide_eq_true h1, Bool.true_and]
      by_cases h2 : 10 ≤ h.sub.toNat
      · rw [decide_eq_true h2]
        refine Ct_intro Tryd.func17 rfl Tryd.ntmps17 (by simp) _ rfl (fun w0 O0 => ?_)
        repeat (first | refine n1 ?_ | refine n2 (fun b _ => ?_) | refine n3 (fun _ _ => ?_) | refine n4 ?_ | refine n5 ?_ | refine n6 (hn) ?_ | refine n6v (hn) ?_ | refine WL_nil ?_ | refine W_seq ?_ | refine W_region ?_ | refine n7 ?_ | refine n8 ?_ | refine W_block ?_ | refine W_skip ?_ | refine W_ret ?_ | refine W_exit ?_ | refine WQ_then ?_ | refine WQ_then_ret ?_ | refine WQ_then_exit ?_ | refine WQ_block_normal ?_ | refine WQ_block_ret ?_ | refine WQ_block_exit ?_ | refine n9 ?_)
        ((apply ret1 Tryd.results17 ( ())); (focus (first | trivial | assumption | omega)); (focus (first | exact RV_tmp rfl | (apply RV_cellN; exact rfl; (repeat' (first | exact Pick.head _ _ | apply Pick.tail)); (intro _; exact rfl); (intro _; exact rfl); exact rfl) | (apply RV_cell1; exact rfl; (repeat' (first | exact Pick.head _ _ | apply Pick.tail)); (intro _; exact rfl); exact rfl)));  (focus (first | exact rfl | (simp; done))); (focus (repeat (first | exact SubO.nil _ | (apply SubO.cons; (focus (repeat' (first | exact Pick.head _ _ | apply Pick.tail))))))); (focus (repeat (first | exact AllE.nil _ | (apply AllE.cons; (focus (first | exact ent_nilBy | exact ent_nilSl | (apply Ent.mem; repeat' (first | exact mcs | apply mct)))))))))
      · rw [decide_eq_false h2]
        refine Ct_intro Tryd.func17 rfl Tryd.ntmps17 (by simp) _ rfl (fun w0 O0 => ?_)
        repeat (first | refine n1 ?_ | refine n2 (fun b _ => ?_) | refine n3 (fun _ _ => ?_) | refine n4 ?_ | refine n5 ?_ | refine n6 (hn) ?_ | refine n6v (hn) ?_ | refine WL_nil ?_ | refine W_seq ?_ | refine W_region ?_ | refine n7 ?_ | refine n8 ?_ | refine W_block ?_ | refine W_skip ?_ | refine W_ret ?_ | refine W_exit ?_ | refine WQ_then ?_ | refine WQ_then_ret ?_ | refine WQ_then_exit ?_ | refine WQ_block_normal ?_ | refine WQ_block_ret ?_ | refine WQ_block_exit ?_ | refine n9 ?_)
        ((apply ret1 Tryd.results17 ( ())); (focus (first | trivial | assumption | omega)); (focus (first | exact RV_tmp rfl | (apply RV_cellN; exact rfl; (repeat' (first | exact Pick.head _ _ | apply Pick.tail)); (intro _; exact rfl); (intro _; exact rfl); exact rfl) | (apply RV_cell1; exact rfl; (repeat' (first | exact Pick.head _ _ | apply Pick.tail)); (intro _; exact rfl); exact rfl)));  (focus (first | exact rfl | (simp; done))); (focus (repeat (first | exact SubO.nil _ | (apply SubO.cons; (focus (repeat' (first | exact Pick.head _ _ | apply Pick.tail))))))); (focus (repeat (first | exact AllE.nil _ | (apply AllE.cons; (focus (first | exact ent_nilBy | exact ent_nilSl | (apply Ent.mem; repeat' (first | exact mcs | apply mct)))))))))
    · rw [decide_eq_false h1, Bool.false_and]
      refine Ct_intro Tryd.func17 rfl Tryd.ntmps17 (by simp) _ rfl (fun w0 O0 => ?_)
      repeat (first | refine n1 ?_ | refine n2 (fun b _ => ?_) | refine n3 (fun _ _ => ?_) | refine n4 ?_ | refine n5 ?_ | refine n6 (hn) ?_ | refine n6v (hn) ?_ | refine WL_nil ?_ | refine W_seq ?_ | refine W_region ?_ | refine n7 ?_ | refine n8 ?_ | refine W_block ?_ | refine W_skip ?_ | refine W_ret ?_ | refine W_exit ?_ | refine WQ_then ?_ | refine WQ_then_ret ?_ | refine WQ_then_exit ?_ | refine WQ_block_normal ?_ | refine WQ_block_ret ?_ | refine WQ_block_exit ?_ | refine n9 ?_)
      ((apply ret1 Tryd.results17 ( ())); (focus (first | trivial | assumption | omega)); (focus (first | exact RV_tmp rfl | (apply RV_cellN; exact rfl; (repeat' (first | exact Pick.head _ _ | apply Pick.tail)); (intro _; exact rfl); (intro _; exact rfl); exact rfl) | (apply RV_cell1; exact rfl; (repeat' (first | exact Pick.head _ _ | apply Pick.tail)); (intro _; exact rfl); exact rfl)));  (focus (first | exact rfl | (simp; done))); (focus (repeat (first | exact SubO.nil _ | (apply SubO.cons; (focus (repeat' (first | exact Pick.head _ _ | apply Pick.tail))))))); (focus (repeat (first | exact AllE.nil _ | (apply AllE.cons; (focus (first | exact ent_nilBy | exact ent_nilSl | (apply Ent.mem; repeat' (first | exact mcs | apply mct)))))))))
  · rw [Bool.true_or]
    refine Ct_intro Tryd.func17 rfl Tryd.ntmps17 (by simp) _ rfl (fun w0 O0 => ?_)
    repeat (first | refine n1 ?_ | refine n2 (fun b _ => ?_) | refine n3 (fun _ _ => ?_) | refine n4 ?_ | refine n5 ?_ | refine n6 (hn) ?_ | refine n6v (hn) ?_ | refine WL_nil ?_ | refine W_seq ?_ | refine W_region ?_ | refine n7 ?_ | refine n8 ?_ | refine W_block ?_ | refine W_skip ?_ | refine W_ret ?_ | refine W_exit ?_ | refine WQ_then ?_ | refine WQ_then_ret ?_ | refine WQ_then_exit ?_ | refine WQ_block_normal ?_ | refine WQ_block_ret ?_ | refine WQ_block_exit ?_ | refine n9 ?_)
    ((apply ret1 Tryd.results17 ( ())); (focus (first | trivial | assumption | omega)); (focus (first | exact RV_tmp rfl | (apply RV_cellN; exact rfl; (repeat' (first | exact Pick.head _ _ | apply Pick.tail)); (intro _; exact rfl); (intro _; exact rfl); exact rfl) | (apply RV_cell1; exact rfl; (repeat' (first | exact Pick.head _ _ | apply Pick.tail)); (intro _; exact rfl); exact rfl)));  (focus (first | exact rfl | (simp; done))); (focus (repeat (first | exact SubO.nil _ | (apply SubO.cons; (focus (repeat' (first | exact Pick.head _ _ | apply Pick.tail))))))); (focus (repeat (first | exact AllE.nil _ | (apply AllE.cons; (focus (first | exact ent_nilBy | exact ent_nilSl | (apply Ent.mem; repeat' (first | exact mcs | apply mct)))))))))
set_option maxRecDepth 100000 in
theorem in_fn (v m : Int) : CtD Tryd.prog 39 [.int .i64 v, .int .i64 m] [] (.bool (decide (0 ≤ v ∧ v ≤ m))) := by
  by_cases h1 : 0 ≤ v
  · by_cases h2 : v ≤ m
    · rw [decide_eq_true (⟨h1, h2⟩ : 0 ≤ v ∧ v ≤ m)]
      refine Ct_intro Tryd.func39 rfl Tryd.ntmps39 (by simp) _ rfl (fun w0 O0 => ?_)
      repeat (first | refine n1 ?_ | refine n2 (fun b _ => ?_) | refine n3 (fun _ _ => ?_) | refine n4 ?_ | refine n5 ?_ | refine WL_nil ?_ | refine W_seq ?_ | refine W_region ?_ | refine n7 ?_ | refine n8 ?_ | refine W_block ?_ | refine W_skip ?_ | refine W_ret ?_ | refine W_exit ?_ | refine WQ_then ?_ | refine WQ_then_ret ?_ | refine WQ_then_exit ?_ | refine WQ_block_normal ?_ | refine WQ_block_ret ?_ | refine WQ_block_exit ?_ | refine n9 ?_)
      ((apply ret1 Tryd.results39 ( ())); (focus (first | trivial | assumption | omega)); (focus (first | exact RV_tmp rfl | (apply RV_cellN; exact rfl; (repeat' (first | exact Pick.head _ _ | apply Pick.tail)); (intro _; exact rfl); (intro _; exact rfl); exact rfl) | (apply RV_cell1; exact rfl; (repeat' (first | exact Pick.head _ _ | apply Pick.tail)); (intro _; exact rfl); exact rfl)));  (focus (first | exact rfl | (simp; done))); (focus (repeat (first | exact SubO.nil _ | (apply SubO.cons; (focus (repeat' (first | exact Pick.head _ _ | apply Pick.tail))))))); (focus (repeat (first | exact AllE.nil _ | (apply AllE.cons; (focus (first | exact ent_nilBy | exact ent_nilSl | (apply Ent.mem; repeat' (first | exact mcs | apply mct)))))))))
    · rw [decide_eq_false (fun h : 0 ≤ v ∧ v ≤ m => h2 h.2)]
      refine Ct_intro Tryd.func39 rfl Tryd.ntmps39 (by simp) _ rfl (fun w0 O0 => ?_)
      repeat (first | refine n1 ?_ | refine n2 (fun b _ => ?_) | refine n3 (fun _ _ => ?_) | refine n4 ?_ | refine n5 ?_ | refine WL_nil ?_ | refine W_seq ?_ | refine W_region ?_ | refine n7 ?_ | refine n8 ?_ | refine W_block ?_ | refine W_skip ?_ | refine W_ret ?_ | refine W_exit ?_ | refine WQ_then ?_ | refine WQ_then_ret ?_ | refine WQ_then_exit ?_ | refine WQ_block_normal ?_ | refine WQ_block_ret ?_ | refine WQ_block_exit ?_ | refine n9 ?_)
      ((apply ret1 Tryd.results39 ( ())); (focus (first | trivial | assumption | omega)); (focus (first | exact RV_tmp rfl | (apply RV_cellN; exact rfl; (repeat' (first | exact Pick.head _ _ | apply Pick.tail)); (intro _; exact rfl); (intro _; exact rfl); exact rfl) | (apply RV_cell1; exact rfl; (repeat' (first | exact Pick.head _ _ | apply Pick.tail)); (intro _; exact rfl); exact rfl)));  (focus (first | exact rfl | (simp; done))); (focus (repeat (first | exact SubO.nil _ | (apply SubO.cons; (focus (repeat' (first | exact Pick.head _ _ | apply Pick.tail))))))); (focus (repeat (first | exact AllE.nil _ | (apply AllE.cons; (focus (first | exact ent_nilBy | exact ent_nilSl | (apply Ent.mem; repeat' (first | exact mcs | apply mct)))))))))
  · rw [decide_eq_false (fun h : 0 ≤ v ∧ v ≤ m => h1 h.1)]
    refine Ct_intro Tryd.func39 rfl Tryd.ntmps39 (by simp) _ rfl (fun w0 O0 => ?_)
    repeat (first | refine n1 ?_ | refine n2 (fun b _ => ?_) | refine n3 (fun _ _ => ?_) | refine n4 ?_ | refine n5 ?_ | refine WL_nil ?_ | refine W_seq ?_ | refine W_region ?_ | refine n7 ?_ | refine n8 ?_ | refine W_block ?_ | refine W_skip ?_ | refine W_ret ?_ | refine W_exit ?_ | refine WQ_then ?_ | refine WQ_then_ret ?_ | refine WQ_then_exit ?_ | refine WQ_block_normal ?_ | refine WQ_block_ret ?_ | refine WQ_block_exit ?_ | refine n9 ?_)
    ((apply ret1 Tryd.results39 ( ())); (focus (first | trivial | assumption | omega)); (focus (first | exact RV_tmp rfl | (apply RV_cellN; exact rfl; (repeat' (first | exact Pick.head _ _ | apply Pick.tail)); (intro _; exact rfl); (intro _; exact rfl); exact rfl) | (apply RV_cell1; exact rfl; (repeat' (first | exact Pick.head _ _ | apply Pick.tail)); (intro _; exact rfl); exact rfl)));  (focus (first | exact rfl | (simp; done))); (focus (repeat (first | exact SubO.nil _ | (apply SubO.cons; (focus (repeat' (first | exact Pick.head _ _ | apply Pick.tail))))))); (focus (repeat (first | exact AllE.nil _ | (apply AllE.cons; (focus (first | exact ent_nilBy | exact ent_nilSl | (apply Ent.mem; repeat' (first | exact mcs | apply mct)))))))))

set_option maxRecDepth 100000 in
set_option maxHeartbeats 4000000 in
theorem known_fn (k s : UInt8) : CtD Tryd.prog 30 [bcell k, bcell s] [] (.tuple #[.agg #[.bool (prtB k), .bool (prtB k), .bool (trafB k s)], .bool (knB k s)]) := by
  have hb8 := u8_and8 s
  have hb3 := u8_and3 s
  have hl := s.toNat_lt
  unfold prtB trafB knB
  by_cases k0 : k.toNat = 0
  · rw [if_pos k0, decide_eq_true (show k.toNat = 0 ∨ k.toNat = 2 from .inl k0), decide_eq_false (show ¬ k.toNat = 2 by omega), Bool.false_and]
    by_cases s1 : s.toNat ≤ 5
    · rw [decide_eq_true (show s.toNat ≤ 5 ∨ s.toNat = 8 ∨ 10 ≤ s.toNat ∧ s.toNat ≤ 13 from .inl s1)]
      refine Ct_intro Tryd.func30 rfl Tryd.ntmps30 (by simp) _ rfl (fun w0 O0 => ?_)
      repeat (first | refine n1 ?_ | refine n2 (fun b _ => ?_) | refine n3 (fun _ _ => ?_) | refine n4 ?_ | refine n5 ?_ | refine WL_nil ?_ | refine W_seq ?_ | refine W_region ?_ | refine n7 ?_ | refine n8 ?_ | refine W_block ?_ | refine W_skip ?_ | refine W_ret ?_ | refine W_exit ?_ | refine WQ_then ?_ | refine WQ_then_ret ?_ | refine WQ_then_exit ?_ | refine WQ_block_normal ?_ | refine WQ_block_ret ?_ | refine WQ_block_exit ?_ | refine n9 ?_)
      ((apply ret2 Tryd.results30 ( ())); (focus (first | trivial | assumption | omega)); (focus (first | exact RV_tmp rfl | (apply RV_cellN; exact rfl; (repeat' (first | exact Pick.head _ _ | apply Pick.tail)); (intro _; exact rfl); (intro _; exact rfl); exact rfl) | (apply RV_cell1; exact rfl; (repeat' (first | exact Pick.head _ _ | apply Pick.tail)); (intro _; exact rfl); exact rfl))); (focus (first | exact RV_tmp rfl | (apply RV_cellN; exact rfl; (repeat' (first | exact Pick.head _ _ | apply Pick.tail)); (intro _; exact rfl); (intro _; exact rfl); exact rfl) | (apply RV_cell1; exact rfl; (repeat' (first | exact Pick.head _ _ | apply Pick.tail)); (intro _; exact rfl); exact rfl)));  (focus (first | exact rfl | (simp; done))); (focus (repeat (first | exact SubO.nil _ | (apply SubO.cons; (focus (repeat' (first | exact Pick.head _ _ | apply Pick.tail))))))); (focus (repeat (first | exact AllE.nil _ | (apply AllE.cons; (focus (first | exact ent_nilBy | exact ent_nilSl | (apply Ent.mem; repeat' (first | exact mcs | apply mct)))))))))
    · by_cases s2 : s.toNat = 8
      · rw [decide_eq_true (show s.toNat ≤ 5 ∨ s.toNat = 8 ∨ 10 ≤ s.toNat ∧ s.toNat ≤ 13 from .inr (.inl s2))]
        refine Ct_intro Tryd.func30 rfl Tryd.ntmps30 (by simp) _ rfl (fun w0 O0 => ?_)
        repeat (first | refine n1 ?_ | refine n2 (fun b _ => ?_) | refine n3 (fun _ _ => ?_) | refine n4 ?_ | refine n5 ?_ | refine WL_nil ?_ | refine W_seq ?_ | refine W_region ?_ | refine n7 ?_ | refine n8 ?_ | refine W_block ?_ | refine W_skip ?_ | refine W_ret ?_ | refine W_exit ?_ | refine WQ_then ?_ | refine WQ_then_ret ?_ | refine WQ_then_exit ?_ | refine WQ_block_normal ?_ | refine WQ_block_ret ?_ | refine WQ_block_exit ?_ | refine n9 ?_)
        ((apply ret2 Tryd.results30 ( ())); (focus (first | trivial | assumption | omega)); (focus (first | exact RV_tmp rfl | (apply RV_cellN; exact rfl; (repeat' (first | exact Pick.head _ _ | apply Pick.tail)); (intro _; exact rfl); (intro _; exact rfl); exact rfl) | (apply RV_cell1; exact rfl; (repeat' (first | exact Pick.head _ _ | apply Pick.tail)); (intro _; exact rfl); exact rfl))); (focus (first | exact RV_tmp rfl | (apply RV_cellN; exact rfl; (repeat' (first | exact Pick.head _ _ | apply Pick.tail)); (intro _; exact rfl); (intro _; exact rfl); exact rfl) | (apply RV_cell1; exact rfl; (repeat' (first | exact Pick.head _ _ | apply Pick.tail)); (intro _; exact rfl); exact rfl)));  (focus (first | exact rfl | (simp; done))); (focus (repeat (first | exact SubO.nil _ | (apply SubO.cons; (focus (repeat' (first | exact Pick.head _ _ | apply Pick.tail))))))); (focus (repeat (first | exact AllE.nil _ | (apply AllE.cons; (focus (first | exact ent_nilBy | exact ent_nilSl | (apply Ent.mem; repeat' (first | exact mcs | apply mct)))))))))
      · by_cases s3 : 10 ≤ s.toNat
        · by_cases s4 : s.toNat ≤ 13
          · rw [decide_eq_true (show s.toNat ≤ 5 ∨ s.toNat = 8 ∨ 10 ≤ s.toNat ∧ s.toNat ≤ 13 by omega)]
            refine Ct_intro Tryd.func30 rfl Tryd.ntmps30 (by simp) _ rfl (fun w0 O0 => ?_)
            repeat (first | refine n1 ?_ | refine n2 (fun b _ => ?_) | refine n3 (fun _ _ => ?_) | refine n4 ?_ | refine n5 ?_ | refine WL_nil ?_ | refine W_seq ?_ | refine W_region ?_ | refine n7 ?_ | refine n8 ?_ | refine W_block ?_ | refine W_skip ?_ | refine W_ret ?_ | refine W_exit ?_ | refine WQ_then ?_ | refine WQ_then_ret ?_ | refine WQ_then_exit ?_ | refine WQ_block_normal ?_ | refine WQ_block_ret ?_ | refine WQ_block_exit ?_ | refine n9 ?_)
            ((apply ret2 Tryd.results30 ( ())); (focus (first | trivial | assumption | omega)); (focus (first | exact RV_tmp rfl | (apply RV_cellN; exact rfl; (repeat' (first | exact Pick.head _ _ | apply Pick.tail)); (intro _; exact rfl); (intro _; exact rfl); exact rfl) | (apply RV_cell1; exact rfl; (repeat' (first | exact Pick.head _ _ | apply Pick.tail)); (intro _; exact rfl); exact rfl))); (focus (first | exact RV_tmp rfl | (apply RV_cellN; exact rfl; (repeat' (first | exact Pick.head _ _ | apply Pick.tail)); (intro _; exact rfl); (intro _; exact rfl); exact rfl) | (apply RV_cell1; exact rfl; (repeat' (first | exact Pick.head _ _ | apply Pick.tail)); (intro _; exact rfl); exact rfl)));  (focus (first | exact rfl | (simp; done))); (focus (repeat (first | exact SubO.nil _ | (apply SubO.cons; (focus (repeat' (first | exact Pick.head _ _ | apply Pick.tail))))))); (focus (repeat (first | exact AllE.nil _ | (apply AllE.cons; (focus (first | exact ent_nilBy | exact ent_nilSl | (apply Ent.mem; repeat' (first | exact mcs | apply mct)))))))))
          · rw [decide_eq_false (show ¬ (s.toNat ≤ 5 ∨ s.toNat = 8 ∨ 10 ≤ s.toNat ∧ s.toNat ≤ 13) by omega)]
            refine Ct_intro Tryd.func30 rfl Tryd.ntmps30 (by simp) _ rfl (fun w0 O0 => ?_)
            repeat (first | refine n1 ?_ | refine n2 (fun b _ => ?_) | refine n3 (fun _ _ => ?_) | refine n4 ?_ | refine n5 ?_ | refine WL_nil ?_ | refine W_seq ?_ | refine W_region ?_ | refine n7 ?_ | refine n8 ?_ | refine W_block ?_ | refine W_skip ?_ | refine W_ret ?_ | refine W_exit ?_ | refine WQ_then ?_ | refine WQ_then_ret ?_ | refine WQ_then_exit ?_ | refine WQ_block_normal ?_ | refine WQ_block_ret ?_ | refine WQ_block_exit ?_ | refine n9 ?_)
            ((apply ret2 Tryd.results30 ( ())); (focus (first | trivial | assumption | omega)); (focus (first | exact RV_tmp rfl | (apply RV_cellN; exact rfl; (repeat' (first | exact Pick.head _ _ | apply Pick.tail)); (intro _; exact rfl); (intro _; exact rfl); exact rfl) | (apply RV_cell1; exact rfl; (repeat' (first | exact Pick.head _ _ | apply Pick.tail)); (intro _; exact rfl); exact rfl))); (focus (first | exact RV_tmp rfl | (apply RV_cellN; exact rfl; (repeat' (first | exact Pick.head _ _ | apply Pick.tail)); (intro _; exact rfl); (intro _; exact rfl); exact rfl) | (apply RV_cell1; exact rfl; (repeat' (first | exact Pick.head _ _ | apply Pick.tail)); (intro _; exact rfl); exact rfl)));  (focus (first | exact rfl | (simp; done))); (focus (repeat (first | exact SubO.nil _ | (apply SubO.cons; (focus (repeat' (first | exact Pick.head _ _ | apply Pick.tail))))))); (focus (repeat (first | exact AllE.nil _ | (apply AllE.cons; (focus (first | exact ent_nilBy | exact ent_nilSl | (apply Ent.mem; repeat' (first | exact mcs | apply mct)))))))))
        · rw [decide_eq_false (show ¬ (s.toNat ≤ 5 ∨ s.toNat = 8 ∨ 10 ≤ s.toNat ∧ s.toNat ≤ 13) by omega)]
          refine Ct_intro Tryd.func30 rfl Tryd.ntmps30 (by simp) _ rfl (fun w0 O0 => ?_)
          repeat (first | refine n1 ?_ | refine n2 (fun b _ => ?_) | refine n3 (fun _ _ => ?_) | refine n4 ?_ | refine n5 ?_ | refine WL_nil ?_ | refine W_seq ?_ | refine W_region ?_ | refine n7 ?_ | refine n8 ?_ | refine W_block ?_ | refine W_skip ?_ | refine W_ret ?_ | refine W_exit ?_ | refine WQ_then ?_ | refine WQ_then_ret ?_ | refine WQ_then_exit ?_ | refine WQ_block_normal ?_ | refine WQ_block_ret ?_ | refine WQ_block_exit ?_ | refine n9 ?_)
          ((apply ret2 Tryd.results30 ( ())); (focus (first | trivial | assumption | omega)); (focus (first | exact RV_tmp rfl | (apply RV_cellN; exact rfl; (repeat' (first | exact Pick.head _ _ | apply Pick.tail)); (intro _; exact rfl); (intro _; exact rfl); exact rfl) | (apply RV_cell1; exact rfl; (repeat' (first | exact Pick.head _ _ | apply Pick.tail)); (intro _; exact rfl); exact rfl))); (focus (first | exact RV_tmp rfl | (apply RV_cellN; exact rfl; (repeat' (first | exact Pick.head _ _ | apply Pick.tail)); (intro _; exact rfl); (intro _; exact rfl); exact rfl) | (apply RV_cell1; exact rfl; (repeat' (first | exact Pick.head _ _ | apply Pick.tail)); (intro _; exact rfl); exact rfl)));  (focus (first | exact rfl | (simp; done))); (focus (repeat (first | exact SubO.nil _ | (apply SubO.cons; (focus (repeat' (first | exact Pick.head _ _ | apply Pick.tail))))))); (focus (repeat (first | exact AllE.nil _ | (apply AllE.cons; (focus (first | exact ent_nilBy | exact ent_nilSl | (apply Ent.mem; repeat' (first | exact mcs | apply mct)))))))))
  · rw [if_neg k0]
    by_cases k1 : k.toNat = 1
    · rw [if_pos k1, decide_eq_false (show ¬ (k.toNat = 0 ∨ k.toNat = 2) by omega), decide_eq_false (show ¬ k.toNat = 2 by omega), Bool.false_and]
      by_cases s1 : 8 ≤ s.toNat
      · by_cases s2 : s.toNat ≤ 13
        · rw [decide_eq_true (show 8 ≤ s.toNat ∧ s.toNat ≤ 13 from ⟨s1, s2⟩)]
          refine Ct_intro Tryd.func30 rfl Tryd.ntmps30 (by simp) _ rfl (fun w0 O0 => ?_)
          repeat (first | refine n1 ?_ | refine n2 (fun b _ => ?_) | refine n3 (fun _ _ => ?_) | refine n4 ?_ | refine n5 ?_ | refine WL_nil ?_ | refine W_seq ?_ | refine W_region ?_ | refine n7 ?_ | refine n8 ?_ | refine W_block ?_ | refine W_skip ?_ | refine W_ret ?_ | refine W_exit ?_ | refine WQ_then ?_ | refine WQ_then_ret ?_ | refine WQ_then_exit ?_ | refine WQ_block_normal ?_ | refine WQ_block_ret ?_ | refine WQ_block_exit ?_ | refine n9 ?_)
          ((apply ret2 Tryd.results30 ( ())); (focus (first | trivial | assumption | omega)); (focus (first | exact RV_tmp rfl | (apply RV_cellN; exact rfl; (repeat' (first | exact Pick.head _ _ | apply Pick.tail)); (intro _; exact rfl); (intro _; exact rfl); exact rfl) | (apply RV_cell1; exact rfl; (repeat' (first | exact Pick.head _ _ | apply Pick.tail)); (intro _; exact rfl); exact rfl))); (focus (first | exact RV_tmp rfl | (apply RV_cellN; exact rfl; (repeat' (first | exact Pick.head _ _ | apply Pick.tail)); (intro _; exact rfl); (intro _; exact rfl); exact rfl) | (apply RV_cell1; exact rfl; (repeat' (first | exact Pick.head _ _ | apply Pick.tail)); (intro _; exact rfl); exact rfl)));  (focus (first | exact rfl | (simp; done))); (focus (repeat (first | exact SubO.nil _ | (apply SubO.cons; (focus (repeat' (first | exact Pick.head _ _ | apply Pick.tail))))))); (focus (repeat (first | exact AllE.nil _ | (apply AllE.cons; (focus (first | exact ent_nilBy | exact ent_nilSl | (apply Ent.mem; repeat' (first | exact mcs | apply mct)))))))))
        · rw [decide_eq_false (show ¬ (8 ≤ s.toNat ∧ s.toNat ≤ 13) by omega)]
          refine Ct_intro Tryd.func30 rfl Tryd.ntmps30 (by simp) _ rfl (fun w0 O0 => ?_)
          repeat (first | refine n1 ?_ | refine n2 (fun b _ => ?_) | refine n3 (fun _ _ => ?_) | refine n4 ?_ | refine n5 ?_ | refine WL_nil ?_ | refine W_seq ?_ | refine W_region ?_ | refine n7 ?_ | refine n8 ?_ | refine W_block ?_ | refine W_skip ?_ | refine W_ret ?_ | refine W_exit ?_ | refine WQ_then ?_ | refine WQ_then_ret ?_ | refine WQ_then_exit ?_ | refine WQ_block_normal ?_ | refine WQ_block_ret ?_ | refine WQ_block_exit ?_ | refine n9 ?_)
          ((apply ret2 Tryd.results30 ( ())); (focus (first | trivial | assumption | omega)); (focus (first | exact RV_tmp rfl | (apply RV_cellN; exact rfl; (repeat' (first | exact Pick.head _ _ | apply Pick.tail)); (intro _; exact rfl); (intro _; exact rfl); exact rfl) | (apply RV_cell1; exact rfl; (repeat' (first | exact Pick.head _ _ | apply Pick.tail)); (intro _; exact rfl); exact rfl))); (focus (first | exact RV_tmp rfl | (apply RV_cellN; exact rfl; (repeat' (first | exact Pick.head _ _ | apply Pick.tail)); (intro _; exact rfl); (intro _; exact rfl); exact rfl) | (apply RV_cell1; exact rfl; (repeat' (first | exact Pick.head _ _ | apply Pick.tail)); (intro _; exact rfl); exact rfl)));  (focus (first | exact rfl | (simp; done))); (focus (repeat (first | exact SubO.nil _ | (apply SubO.cons; (focus (repeat' (first | exact Pick.head _ _ | apply Pick.tail))))))); (focus (repeat (first | exact AllE.nil _ | (apply AllE.cons; (focus (first | exact ent_nilBy | exact ent_nilSl | (apply Ent.mem; repeat' (first | exact mcs | apply mct)))))))))
      · rw [decide_eq_false (show ¬ (8 ≤ s.toNat ∧ s.toNat ≤ 13) by omega)]
        refine Ct_intro Tryd.func30 rfl Tryd.ntmps30 (by simp) _ rfl (fun w0 O0 => ?_)
        repeat (first | refine n1 ?_ | refine n2 (fun b _ => ?_) | refine n3 (fun _ _ => ?_) | refine n4 ?_ | refine n5 ?_ | refine WL_nil ?_ | refine W_seq ?_ | refine W_region ?_ | refine n7 ?_ | refine n8 ?_ | refine W_block ?_ | refine W_skip ?_ | refine W_ret ?_ | refine W_exit ?_ | refine WQ_then ?_ | refine WQ_then_ret ?_ | refine WQ_then_exit ?_ | refine WQ_block_normal ?_ | refine WQ_block_ret ?_ | refine WQ_block_exit ?_ | refine n9 ?_)
        ((apply ret2 Tryd.results30 ( ())); (focus (first | trivial | assumption | omega)); (focus (first | exact RV_tmp rfl | (apply RV_cellN; exact rfl; (repeat' (first | exact Pick.head _ _ | apply Pick.tail)); (intro _; exact rfl); (intro _; exact rfl); exact rfl) | (apply RV_cell1; exact rfl; (repeat' (first | exact Pick.head _ _ | apply Pick.tail)); (intro _; exact rfl); exact rfl))); (focus (first | exact RV_tmp rfl | (apply RV_cellN; exact rfl; (repeat' (first | exact Pick.head _ _ | apply Pick.tail)); (intro _; exact rfl); (intro _; exact rfl); exact rfl) | (apply RV_cell1; exact rfl; (repeat' (first | exact Pick.head _ _ | apply Pick.tail)); (intro _; exact rfl); exact rfl)));  (focus (first | exact rfl | (simp; done))); (focus (repeat (first | exact SubO.nil _ | (apply SubO.cons; (focus (repeat' (first | exact Pick.head _ _ | apply Pick.tail))))))); (focus (repeat (first | exact AllE.nil _ | (apply AllE.cons; (focus (first | exact ent_nilBy | exact ent_nilSl | (apply Ent.mem; repeat' (first | exact mcs | apply mct)))))))))
    · rw [if_neg k1]
      by_cases k2 : k.toNat = 2
      · rw [if_pos k2, decide_eq_true (show k.toNat = 0 ∨ k.toNat = 2 from .inr k2), decide_eq_true k2, Bool.true_and]
        have e8 : decide (bits .and .u8 (s.toNat : Int) 8 ≠ 0) = decide (s.toNat / 8 % 2 = 1) := by
          rw [hb8, decide_eq_decide]
          omega
        by_cases t1 : s.toNat / 8 % 2 = 1
        · rw [decide_eq_true t1]
          by_cases s1 : s.toNat % 4 = 0
          · by_cases s2 : s.toNat ≤ 12
            · rw [decide_eq_true (show s.toNat % 4 = 0 ∧ s.toNat ≤ 12 from ⟨s1, s2⟩)]
              refine Ct_intro Tryd.func30 rfl Tryd.ntmps30 (by simp) _ rfl (fun w0 O0 => ?_)
              repeat (first | refine n1 ?_ | refine n2 (fun b _ => ?_) | refine n3 (fun _ _ => ?_) | refine n4 ?_ | refine n5 ?_ | refine WL_nil ?_ | refine W_seq ?_ | refine W_region ?_ | refine n7 ?_ | refine n8 ?_ | refine W_block ?_ | refine W_skip ?_ | refine W_ret ?_ | refine W_exit ?_ | refine WQ_then ?_ | refine WQ_then_ret ?_ | refine WQ_then_exit ?_ | refine WQ_block_normal ?_ | refine WQ_block_ret ?_ | refine WQ_block_exit ?_ | refine n9 ?_)
              refine WL_runs rfl rfl rfl (R_and rfl rfl hb8) ?_
              repeat (first | refine n1 ?_ | refine n2 (fun b _ => ?_) | refine n3 (fun _ _ => ?_) | refine n4 ?_ | refine n5 ?_ | refine WL_nil ?_ | refine W_seq ?_ | refine W_region ?_ | refine n7 ?_ | refine n8 ?_ | refine W_block ?_ | refine W_skip ?_ | refine W_ret ?_ | refine W_exit ?_ | refine WQ_then ?_ | refine WQ_then_ret ?_ | refine WQ_then_exit ?_ | refine WQ_block_normal ?_ | refine WQ_block_ret ?_ | refine WQ_block_exit ?_ | refine n9 ?_)
              refine WL_runs rfl rfl rfl (R_and rfl rfl hb3) ?_
              repeat (first | refine n1 ?_ | refine n2 (fun b _ => ?_) | refine n3 (fun _ _ => ?_) | refine n4 ?_ | refine n5 ?_ | refine WL_nil ?_ | refine W_seq ?_ | refine W_region ?_ | refine n7 ?_ | refine n8 ?_ | refine W_block ?_ | refine W_skip ?_ | refine W_ret ?_ | refine W_exit ?_ | refine WQ_then ?_ | refine WQ_then_ret ?_ | refine WQ_then_exit ?_ | refine WQ_block_normal ?_ | refine WQ_block_ret ?_ | refine WQ_block_exit ?_ | refine n9 ?_)
              ((apply ret2 Tryd.results30 ( ())); (focus (first | trivial | assumption | omega)); (focus (first | exact RV_tmp rfl | (apply RV_cellN; exact rfl; (repeat' (first | exact Pick.head _ _ | apply Pick.tail)); (intro _; exact rfl); (intro _; exact rfl); exact rfl) | (apply RV_cell1; exact rfl; (repeat' (first | exact Pick.head _ _ | apply Pick.tail)); (intro _; exact rfl); exact rfl))); (focus (first | exact RV_tmp rfl | (apply RV_cellN; exact rfl; (repeat' (first | exact Pick.head _ _ | apply Pick.tail)); (intro _; exact rfl); (intro _; exact rfl); exact rfl) | (apply RV_cell1; exact rfl; (repeat' (first | exact Pick.head _ _ | apply Pick.tail)); (intro _; exact rfl); exact rfl)));  (focus (first | exact rfl | (simp; done))); (focus (repeat (first | exact SubO.nil _ | (apply SubO.cons; (focus (repeat' (first | exact Pick.head _ _ | apply Pick.tail))))))); (focus (repeat (first | exact AllE.nil _ | (apply AllE.cons; (focus (first | exact ent_nilBy | exact ent_nilSl | (apply Ent.mem; repeat' (first | exact mcs | apply mct)))))))))
            · rw [decide_eq_false (show ¬ (s.toNat % 4 = 0 ∧ s.toNat ≤ 12) by omega)]
              refine Ct_intro Tryd.func30 rfl Tryd.ntmps30 (by simp) _ rfl (fun w0 O0 => ?_)
              repeat (first | refine n1 ?_ | refine n2 (fun b _ => ?_) | refine n3 (fun _ _ => ?_) | refine n4 ?_ | refine n5 ?_ | refine WL_nil ?_ | refine W_seq ?_ | refine W_region ?_ | refine n7 ?_ | refine n8 ?_ | refine W_block ?_ | refine W_skip ?_ | refine W_ret ?_ | refine W_exit ?_ | refine WQ_then ?_ | refine WQ_then_ret ?_ | refine WQ_then_exit ?_ | refine WQ_block_normal ?_ | refine WQ_block_ret ?_ | refine WQ_block_exit ?_ | refine n9 ?_)
              refine WL_runs rfl rfl rfl (R_and rfl rfl hb8) ?_
              repeat (first | refine n1 ?_ | refine n2 (fun b _ => ?_) | refine n3 (fun _ _ => ?_) | refine n4 ?_ | refine n5 ?_ | refine WL_nil ?_ | refine W_seq ?_ | refine W_region ?_ | refine n7 ?_ | refine n8 ?_ | refine W_block ?_ | refine W_skip ?_ | refine W_ret ?_ | refine W_exit ?_ | refine WQ_then ?_ | refine WQ_then_ret ?_ | refine WQ_then_exit ?_ | refine WQ_block_normal ?_ | refine WQ_block_ret ?_ | refine WQ_block_exit ?_ | refine n9 ?_)
              refine WL_runs rfl rfl rfl (R_and rfl rfl hb3) ?_
              repeat (first | refine n1 ?_ | refine n2 (fun b _ => ?_) | refine n3 (fun _ _ => ?_) | refine n4 ?_ | refine n5 ?_ | refine WL_nil ?_ | refine W_seq ?_ | refine W_region ?_ | refine n7 ?_ | refine n8 ?_ | refine W_block ?_ | refine W_skip ?_ | refine W_ret ?_ | refine W_exit ?_ | refine WQ_then ?_ | refine WQ_then_ret ?_ | refine WQ_then_exit ?_ | refine WQ_block_normal ?_ | refine WQ_block_ret ?_ | refine WQ_block_exit ?_ | refine n9 ?_)
              ((apply ret2 Tryd.results30 ( ())); (focus (first | trivial | assumption | omega)); (focus (first | exact RV_tmp rfl | (apply RV_cellN; exact rfl; (repeat' (first | exact Pick.head _ _ | apply Pick.tail)); (intro _; exact rfl); (intro _; exact rfl); exact rfl) | (apply RV_cell1; exact rfl; (repeat' (first | exact Pick.head _ _ | apply Pick.tail)); (intro _; exact rfl); exact rfl))); (focus (first | exact RV_tmp rfl | (apply RV_cellN; exact rfl; (repeat' (first | exact Pick.head _ _ | apply Pick.tail)); (intro _; exact rfl); (intro _; exact rfl); exact rfl) | (apply RV_cell1; exact rfl; (repeat' (first | exact Pick.head _ _ | apply Pick.tail)); (intro _; exact rfl); exact rfl)));  (focus (first | exact rfl | (simp; done))); (focus (repeat (first | exact SubO.nil _ | (apply SubO.cons; (focus (repeat' (first | exact Pick.head _ _ | apply Pick.tail))))))); (focus (repeat (first | exact AllE.nil _ | (apply AllE.cons; (focus (first | exact ent_nilBy | exact ent_nilSl | (apply Ent.mem; repeat' (first | exact mcs | apply mct)))))))))
          · rw [decide_eq_false (show ¬ (s.toNat % 4 = 0 ∧ s.toNat ≤ 12) by omega)]
            refine Ct_intro Tryd.func30 rfl Tryd.ntmps30 (by simp) _ rfl (fun w0 O0 => ?_)
            repeat (first | refine n1 ?_ | refine n2 (fun b _ => ?_) | refine n3 (fun _ _ => ?_) | refine n4 ?_ | refine n5 ?_ | refine WL_nil ?_ | refine W_seq ?_ | refine W_region ?_ | refine n7 ?_ | refine n8 ?_ | refine W_block ?_ | refine W_skip ?_ | refine W_ret ?_ | refine W_exit ?_ | refine WQ_then ?_ | refine WQ_then_ret ?_ | refine WQ_then_exit ?_ | refine WQ_block_normal ?_ | refine WQ_block_ret ?_ | refine WQ_block_exit ?_ | refine n9 ?_)
            refine WL_runs rfl rfl rfl (R_and rfl rfl hb8) ?_
            repeat (first | refine n1 ?_ | refine n2 (fun b _ => ?_) | refine n3 (fun _ _ => ?_) | refine n4 ?_ | refine n5 ?_ | refine WL_nil ?_ | refine W_seq ?_ | refine W_region ?_ | refine n7 ?_ | refine n8 ?_ | refine W_block ?_ | refine W_skip ?_ | refine W_ret ?_ | refine W_exit ?_ | refine WQ_then ?_ | refine WQ_then_ret ?_ | refine WQ_then_exit ?_ | refine WQ_block_normal ?_ | refine WQ_block_ret ?_ | refine WQ_block_exit ?_ | refine n9 ?_)
            refine WL_runs rfl rfl rfl (R_and rfl rfl hb3) ?_
            repeat (first | refine n1 ?_ | refine n2 (fun b _ => ?_) | refine n3 (fun _ _ => ?_) | refine n4 ?_ | refine n5 ?_ | refine WL_nil ?_ | refine W_seq ?_ | refine W_region ?_ | refine n7 ?_ | refine n8 ?_ | refine W_block ?_ | refine W_skip ?_ | refine W_ret ?_ | refine W_exit ?_ | refine WQ_then ?_ | refine WQ_then_ret ?_ | refine WQ_then_exit ?_ | refine WQ_block_normal ?_ | refine WQ_block_ret ?_ | refine WQ_block_exit ?_ | refine n9 ?_)
            ((apply ret2 Tryd.results30 ( ())); (focus (first | trivial | assumption | omega)); (focus (first | exact RV_tmp rfl | (apply RV_cellN; exact rfl; (repeat' (first | exact Pick.head _ _ | apply Pick.tail)); (intro _; exact rfl); (intro _; exact rfl); exact rfl) | (apply RV_cell1; exact rfl; (repeat' (first | exact Pick.head _ _ | apply Pick.tail)); (intro _; exact rfl); exact rfl))); (focus (first | exact RV_tmp rfl | (apply RV_cellN; exact rfl; (repeat' (first | exact Pick.head _ _ | apply Pick.tail)); (intro _; exact rfl); (intro _; exact rfl); exact rfl) | (apply RV_cell1; exact rfl; (repeat' (first | exact Pick.head _ _ | apply Pick.tail)); (intro _; exact rfl); exact rfl)));  (focus (first | exact rfl | (simp; done))); (focus (repeat (first | exact SubO.nil _ | (apply SubO.cons; (focus (repeat' (first | exact Pick.head _ _ | apply Pick.tail))))))); (focus (repeat (first | exact AllE.nil _ | (apply AllE.cons; (focus (first | exact ent_nilBy | exact ent_nilSl | (apply Ent.mem; repeat' (first | exact mcs | apply mct)))))))))
        · rw [decide_eq_false t1]
          by_cases s1 : s.toNat % 4 = 0
          · by_cases s2 : s.toNat ≤ 12
            · rw [decide_eq_true (show s.toNat % 4 = 0 ∧ s.toNat ≤ 12 from ⟨s1, s2⟩)]
              refine Ct_intro Tryd.func30 rfl Tryd.ntmps30 (by simp) _ rfl (fun w0 O0 => ?_)
              repeat (first | refine n1 ?_ | refine n2 (fun b _ => ?_) | refine n3 (fun _ _ => ?_) | refine n4 ?_ | refine n5 ?_ | refine WL_nil ?_ | refine W_seq ?_ | refine W_region ?_ | refine n7 ?_ | refine n8 ?_ | refine W_block ?_ | refine W_skip ?_ | refine W_ret ?_ | refine W_exit ?_ | refine WQ_then ?_ | refine WQ_then_ret ?_ | refine WQ_then_exit ?_ | refine WQ_block_normal ?_ | refine WQ_block_ret ?_ | refine WQ_block_exit ?_ | refine n9 ?_)
              refine WL_runs rfl rfl rfl (R_and rfl rfl hb8) ?_
              repeat (first | refine n1 ?_ | refine n2 (fun b _ => ?_) | refine n3 (fun _ _ => ?_) | refine n4 ?_ | refine n5 ?_ | refine WL_nil ?_ | refine W_seq ?_ | refine W_region ?_ | refine n7 ?_ | refine n8 ?_ | refine W_block ?_ | refine W_skip ?_ | refine W_ret ?_ | refine W_exit ?_ | refine WQ_then ?_ | refine WQ_then_ret ?_ | refine WQ_then_exit ?_ | refine WQ_block_normal ?_ | refine WQ_block_ret ?_ | refine WQ_block_exit ?_ | refine n9 ?_)
              refine WL_runs rfl rfl rfl (R_and rfl rfl hb3) ?_
              repeat (first | refine n1 ?_ | refine n2 (fun b _ => ?_) | refine n3 (fun _ _ => ?_) | refine n4 ?_ | refine n5 ?_ | refine WL_nil ?_ | refine W_seq ?_ | refine W_region ?_ | refine n7 ?_ | refine n8 ?_ | refine W_block ?_ | refine W_skip ?_ | refine W_ret ?_ | refine W_exit ?_ | refine WQ_then ?_ | refine WQ_then_ret ?_ | refine WQ_then_exit ?_ | refine WQ_block_normal ?_ | refine WQ_block_ret ?_ | refine WQ_block_exit ?_ | refine n9 ?_)
              ((apply ret2 Tryd.results30 ( ())); (focus (first | trivial | assumption | omega)); (focus (first | exact RV_tmp rfl | (apply RV_cellN; exact rfl; (repeat' (first | exact Pick.head _ _ | apply Pick.tail)); (intro _; exact rfl); (intro _; exact rfl); exact rfl) | (apply RV_cell1; exact rfl; (repeat' (first | exact Pick.head _ _ | apply Pick.tail)); (intro _; exact rfl); exact rfl))); (focus (first | exact RV_tmp rfl | (apply RV_cellN; exact rfl; (repeat' (first | exact Pick.head _ _ | apply Pick.tail)); (intro _; exact rfl); (intro _; exact rfl); exact rfl) | (apply RV_cell1; exact rfl; (repeat' (first | exact Pick.head _ _ | apply Pick.tail)); (intro _; exact rfl); exact rfl)));  (focus (first | exact rfl | (simp; done))); (focus (repeat (first | exact SubO.nil _ | (apply SubO.cons; (focus (repeat' (first | exact Pick.head _ _ | apply Pick.tail))))))); (focus (repeat (first | exact AllE.nil _ | (apply AllE.cons; (focus (first | exact ent_nilBy | exact ent_nilSl | (apply Ent.mem; repeat' (first | exact mcs | apply mct)))))))))
            · rw [decide_eq_false (show ¬ (s.toNat % 4 = 0 ∧ s.toNat ≤ 12) by omega)]
              refine Ct_intro Tryd.func30 rfl Tryd.ntmps30 (by simp) _ rfl (fun w0 O0 => ?_)
              repeat (first | refine n1 ?_ | refine n2 (fun b _ => ?_) | refine n3 (fun _ _ => ?_) | refine n4 ?_ | refine n5 ?_ | refine WL_nil ?_ | refine W_seq ?_ | refine W_region ?_ | refine n7 ?_ | refine n8 ?_ | refine W_block ?_ | refine W_skip ?_ | refine W_ret ?_ | refine W_exit ?_ | refine WQ_then ?_ | refine WQ_then_ret ?_ | refine WQ_then_exit ?_ | refine WQ_block_normal ?_ | refine WQ_block_ret ?_ | refine WQ_block_exit ?_ | refine n9 ?_)
              refine WL_runs rfl rfl rfl (R_and rfl rfl hb8) ?_
              repeat (first | refine n1 ?_ | refine n2 (fun b _ => ?_) | refine n3 (fun _ _ => ?_) | refine n4 ?_ | refine n5 ?_ | refine WL_nil ?_ | refine W_seq ?_ | refine W_region ?_ | refine n7 ?_ | refine n8 ?_ | refine W_block ?_ | refine W_skip ?_ | refine W_ret ?_ | refine W_exit ?_ | refine WQ_then ?_ | refine WQ_then_ret ?_ | refine WQ_then_exit ?_ | refine WQ_block_normal ?_ | refine WQ_block_ret ?_ | refine WQ_block_exit ?_ | refine n9 ?_)
              refine WL_runs rfl rfl rfl (R_and rfl rfl hb3) ?_
              repeat (first | refine n1 ?_ | refine n2 (fun b _ => ?_) | refine n3 (fun _ _ => ?_) | refine n4 ?_ | refine n5 ?_ | refine WL_nil ?_ | refine W_seq ?_ | refine W_region ?_ | refine n7 ?_ | refine n8 ?_ | refine W_block ?_ | refine W_skip ?_ | refine W_ret ?_ | refine W_exit ?_ | refine WQ_then ?_ | refine WQ_then_ret ?_ | refine WQ_then_exit ?_ | refine WQ_block_normal ?_ | refine WQ_block_ret ?_ | refine WQ_block_exit ?_ | refine n9 ?_)
              ((apply ret2 Tryd.results30 ( ())); (focus (first | trivial | assumption | omega)); (focus (first | exact RV_tmp rfl | (apply RV_cellN; exact rfl; (repeat' (first | exact Pick.head _ _ | apply Pick.tail)); (intro _; exact rfl); (intro _; exact rfl); exact rfl) | (apply RV_cell1; exact rfl; (repeat' (first | exact Pick.head _ _ | apply Pick.tail)); (intro _; exact rfl); exact rfl))); (focus (first | exact RV_tmp rfl | (apply RV_cellN; exact rfl; (repeat' (first | exact Pick.head _ _ | apply Pick.tail)); (intro _; exact rfl); (intro _; exact rfl); exact rfl) | (apply RV_cell1; exact rfl; (repeat' (first | exact Pick.head _ _ | apply Pick.tail)); (intro _; exact rfl); exact rfl)));  (focus (first | exact rfl | (simp; done))); (focus (repeat (first | exact SubO.nil _ | (apply SubO.cons; (focus (repeat' (first | exact Pick.head _ _ | apply Pick.tail))))))); (focus (repeat (first | exact AllE.nil _ | (apply AllE.cons; (focus (first | exact ent_nilBy | exact ent_nilSl | (apply Ent.mem; repeat' (first | exact mcs | apply mct)))))))))
          · rw [decide_eq_false (show ¬ (s.toNat % 4 = 0 ∧ s.toNat ≤ 12) by omega)]
            refine Ct_intro Tryd.func30 rfl Tryd.ntmps30 (by simp) _ rfl (fun w0 O0 => ?_)
            repeat (first | refine n1 ?_ | refine n2 (fun b _ => ?_) | refine n3 (fun _ _ => ?_) | refine n4 ?_ | refine n5 ?_ | refine WL_nil ?_ | refine W_seq ?_ | refine W_region ?_ | refine n7 ?_ | refine n8 ?_ | refine W_block ?_ | refine W_skip ?_ | refine W_ret ?_ | refine W_exit ?_ | refine WQ_then ?_ | refine WQ_then_ret ?_ | refine WQ_then_exit ?_ | refine WQ_block_normal ?_ | refine WQ_block_ret ?_ | refine WQ_block_exit ?_ | refine n9 ?_)
            refine WL_runs rfl rfl rfl (R_and rfl rfl hb8) ?_
            repeat (first | refine n1 ?_ | refine n2 (fun b _ => ?_) | refine n3 (fun _ _ => ?_) | refine n4 ?_ | refine n5 ?_ | refine WL_nil ?_ | refine W_seq ?_ | refine W_region ?_ | refine n7 ?_ | refine n8 ?_ | refine W_block ?_ | refine W_skip ?_ | refine W_ret ?_ | refine W_exit ?_ | refine WQ_then ?_ | refine WQ_then_ret ?_ | refine WQ_then_exit ?_ | refine WQ_block_normal ?_ | refine WQ_block_ret ?_ | refine WQ_block_exit ?_ | refine n9 ?_)
            refine WL_runs rfl rfl rfl (R_and rfl rfl hb3) ?_
            repeat (first | refine n1 ?_ | refine n2 (fun b _ => ?_) | refine n3 (fun _ _ => ?_) | refine n4 ?_ | refine n5 ?_ | refine WL_nil ?_ | refine W_seq ?_ | refine W_region ?_ | refine n7 ?_ | refine n8 ?_ | refine W_block ?_ | refine W_skip ?_ | refine W_ret ?_ | refine W_exit ?_ | refine WQ_then ?_ | refine WQ_then_ret ?_ | refine WQ_then_exit ?_ | refine WQ_block_normal ?_ | refine WQ_block_ret ?_ | refine WQ_block_exit ?_ | refine n9 ?_)
            ((apply ret2 Tryd.results30 ( ())); (focus (first | trivial | assumption | omega)); (focus (first | exact RV_tmp rfl | (apply RV_cellN; exact rfl; (repeat' (first | exact Pick.head _ _ | apply Pick.tail)); (intro _; exact rfl); (intro _; exact rfl); exact rfl) | (apply RV_cell1; exact rfl; (repeat' (first | exact Pick.head _ _ | apply Pick.tail)); (intro _; exact rfl); exact rfl))); (focus (first | exact RV_tmp rfl | (apply RV_cellN; exact rfl; (repeat' (first | exact Pick.head _ _ | apply Pick.tail)); (intro _; exact rfl); (intro _; exact rfl); exact rfl) | (apply RV_cell1; exact rfl; (repeat' (first | exact Pick.head _ _ | apply Pick.tail)); (intro _; exact rfl); exact rfl)));  (focus (first | exact rfl | (simp; done))); (focus (repeat (first | exact SubO.nil _ | (apply SubO.cons; (focus (repeat' (first | exact Pick.head _ _ | apply Pick.tail))))))); (focus (repeat (first | exact AllE.nil _ | (apply AllE.cons; (focus (first | exact ent_nilBy | exact ent_nilSl | (apply Ent.mem; repeat' (first | exact mcs | apply mct)))))))))
      · rw [if_neg k2, decide_eq_false (show ¬ (k.toNat = 0 ∨ k.toNat = 2) by omega), decide_eq_false k2, Bool.false_and]
        refine Ct_intro Tryd.func30 rfl Tryd.ntmps30 (by simp) _ rfl (fun w0 O0 => ?_)
        repeat (first | refine n1 ?_ | refine n2 (fun b _ => ?_) | refine n3 (fun _ _ => ?_) | refine n4 ?_ | refine n5 ?_ | refine WL_nil ?_ | refine W_seq ?_ | refine W_region ?_ | refine n7 ?_ | refine n8 ?_ | refine W_block ?_ | refine W_skip ?_ | refine W_ret ?_ | refine W_exit ?_ | refine WQ_then ?_ | refine WQ_then_ret ?_ | refine WQ_then_exit ?_ | refine WQ_block_normal ?_ | refine WQ_block_ret ?_ | refine WQ_block_exit ?_ | refine n9 ?_)
        ((apply ret2 Tryd.results30 ( ())); (focus (first | trivial | assumption | omega)); (focus (first | exact RV_tmp rfl | (apply RV_cellN; exact rfl; (repeat' (first | exact Pick.head _ _ | apply Pick.tail)); (intro _; exact rfl); (intro _; exact rfl); exact rfl) | (apply RV_cell1; exact rfl; (repeat' (first | exact Pick.head _ _ | apply Pick.tail)); (intro _; exact rfl); exact rfl))); (focus (first | exact RV_tmp rfl | (apply RV_cellN; exact rfl; (repeat' (first | exact Pick.head _ _ | apply Pick.tail)); (intro _; exact rfl); (intro _; exact rfl); exact rfl) | (apply RV_cell1; exact rfl; (repeat' (first | exact Pick.head _ _ | apply Pick.tail)); (intro _; exact rfl); exact rfl)));  (focus (first | exact rfl | (simp; done))); (focus (repeat (first | exact SubO.nil _ | (apply SubO.cons; (focus (repeat' (first | exact Pick.head _ _ | apply Pick.tail))))))); (focus (repeat (first | exact AllE.nil _ | (apply AllE.cons; (focus (first | exact ent_nilBy | exact ent_nilSl | (apply Ent.mem; repeat' (first | exact mcs | apply mct)))))))))
end Go.Proofs.YteojehocflbgdaaDoor.C05

/-
  The rules of the small logic for appending zeros ('append(s, make([]T, k)...)'), and for the capacity of nothing. No program is named here.
-/
namespace Go.Hs
open Go Go.RowKit Go.Lib

theorem zeroCells_one (z : Value) (k : Nat) : Builtin.zeroCells #[z] k = (List.replicate k z).toArray := by
  apply Array.ext
  · simp [Builtin.zeroCells]
  · intro i h1 h2
    simp [Builtin.zeroCells, Nat.mod_one]

section
variable {P : Program} (w : World)
theorem run_append_room_zeros (t tn ty e : TypeId) (i : TypeInfo) (z : Value) (kq kn : IntKind) (ht : P.underlying t = some (.slice e)) (htn : P.underlying tn = some (.int kn)) (hi : P.info? e = some i) (hz : i.zero = some z) (hzc : z.cells = #[z]) (hone : z.oneCell' = true)
    (hs : i.size = 1) (hby : i.bytes ≤ 128) (g n cap k : Nat) (cur : Array Value) (hg : w.heap[g]? = some (.cells cur e (0, 0))) (h0 : 0 < k) (hk : k ≤ 1099511627776) (hroom : n + k ≤ cap) (hfit : n + k ≤ cur.size) :
    (Builtin.append_ #[t, tn] ty #[.slice (some ⟨g, 0, none⟩) n cap, .int kq k]).run P w =
      .ok (.slice (some ⟨g, 0, none⟩) (n + k) cap) (w.setRow g (cur.toList.take n ++ List.replicate k z ++ cur.toList.drop (n + k)).toArray) := by
  have hw : IntKind.i64.wrap (k : Int) = k := by rw [IntKind.wrap_i64]; omega
  have h48i : ¬ (281474976710656 < (k : Int) * (i.bytes : Int)) := by
    rw [← Int.natCast_mul]
    have := Nat.mul_le_mul hk hby
    omega
  have hneg : ¬ ((k : Int) < 0) := by omega
  have hns : ¬ (k * i.size = 0) := Nat.mul_ne_zero (by omega) (by omega)
  have hns1 : ¬ (k = 0) := by omega
  have hst := run_storeCells_at P g n e (List.replicate k z) 0 cur w hg (by simpa using hfit) (fun u hu => by rw [List.eq_of_mem_replicate hu]; exact hone)
  simp only [Nat.add_zero, List.length_replicate] at hst
  simp [Builtin.append_, run_underlying ht, run_underlying htn, sizeOf, typeInfo, zeroValue, hi, hz, asInt, asIntOf, hw, hneg, hns1, hs, h48i, hroom, hzc, zeroCells_one, Addr.add_lit, hst]

/-- zeros appended to an own row of cells. -/
theorem run_append_zeros (t tn ty e : TypeId) (i : TypeInfo) (z : Value) (kq kn : IntKind) (ht : P.underlying t = some (.slice e)) (htn : P.underlying tn = some (.int kn)) (hi : P.info? e = some i) (hz : i.zero = some z) (hzc : z.cells = #[z]) (hone : z.oneCell' = true)
    (hs : i.size = 1) (hby : i.bytes ≤ 128) (v : Value) (n : Nat) (xs : List Value) (hown : w.ownsRow 0 e 1 v n xs) (k : Nat) (hk : n + k ≤ 549755813888) :
    ∃ v' w', (Builtin.append_ #[t, tn] ty #[v, .int kq k]).run P w = .ok v' w' ∧ w'.ownsRow 0 e 1 v' (n + k) (xs ++ List.replicate k z) ∧ w.grownBy w' v.ownBlock ∧ (v'.ownBlock = v.ownBlock ∨ v'.ownBlock = some w.heap.size) := by
  have hw : IntKind.i64.wrap (k : Int) = k := by rw [IntKind.wrap_i64]; omega
  have hw0 : IntKind.i64.wrap 0 = 0 := by decide
  have hxl : xs.length = n := by have := hown.1; omega
  have h48 : k * i.bytes ≤ 281474976710656 := by
    have := Nat.mul_le_mul (show k ≤ 549755813888 by omega) hby
    omega
  have grown : ∀ (old : Nat), old < n + k → ∀ (row : Option Nat),
      (w.drew.alloc (.cells (xs.toArray ++ Builtin.zeroCells z.cells k ++ Builtin.zeroCells z.cells (grownCap w (n + k) old e - (n + k))) e)).ownsRow 0 e 1
        (.slice (some ⟨w.heap.size, 0, none⟩) (n + k) (grownCap w (n + k) old e)) (n + k) (xs ++ List.replicate k z) ∧
      w.grownBy (w.drew.alloc (.cells (xs.toArray ++ Builtin.zeroCells z.cells k ++ Builtin.zeroCells z.cells (grownCap w (n + k) old e - (n + k))) e)) row := by
    intro old ho row
    have hge := grownCap_ge w (n + k) old e
    have hcm : grownCap w (n + k) old e ≤ maxLen := grownCap_le_maxLen w (n + k) old e (by simp only [maxLen]; omega)
    refine ⟨⟨by simp [hxl], .inr ⟨w.heap.size, _, _, rfl, Nat.zero_le _, heap_alloc_new w.drew _, hge, hcm, ?_, ?_⟩⟩, ⟨rfl, rfl, rfl, by simp, fun j hj _ => heap_alloc_old w.drew _ hj⟩⟩
    · simp only [Array.size_append, List.size_toArray, size_zeroCells, hzc, hxl, List.length_cons, List.length_nil, Nat.mul_one]
      omega
    · rw [hzc, zeroCells_one, zeroCells_one]
      simp only [Array.toList_append, List.append_assoc]
      rw [← List.append_assoc, List.take_left' (by simp [hxl])]
  by_cases hk0 : k = 0
  · subst hk0
    refine ⟨v, w, ?_, by simpa using hown, World.grownBy.refl w _, .inl rfl⟩
    obtain ⟨A, c', rfl, hc, _⟩ := row_nil_or hown
    rcases A with _ | ad
    · simp [Builtin.append_, run_underlying ht, run_underlying htn, sizeOf, typeInfo, hi, asInt, asIntOf, hw0, hc]
    · simp [Builtin.append_, run_underlying ht, run_underlying htn, sizeOf, typeInfo, hi, asInt, asIntOf, hw0, hc, storeCells]
  · have h0 : 0 < k := by omega
    rcases hown.2 with ⟨rfl, rfl⟩ | ⟨g, cap, cur, rfl, hbg, hg, hnc, hcm, hcs, htake⟩
    · have hx : xs = [] := List.eq_nil_of_length_eq_zero hxl
      subst hx
      have hb2 : (0 + k) * i.bytes ≤ 140737488355328 := by
        have := Nat.mul_le_mul (show 0 + k ≤ 549755813888 by omega) hby
        omega
      have hr := run_append_grow_zeros (P := P) w t tn ty e i z kq kn ht htn hi hz none 0 0 [] (by simp [Builtin.firstCells]) k h0 (by omega) (by omega) (by omega) h48 (growslice_fits (by omega) hb2)
      have hgr := grown 0 (by omega) (Value.ownBlock (.slice none 0 0))
      exact ⟨_, _, hr, hgr.1, hgr.2, .inr rfl⟩
    · by_cases hroom : n + k ≤ cap
      · have hr := run_append_room_zeros (P := P) w t tn ty e i z kq kn ht htn hi hz hzc hone hs hby g n cap k cur hg h0 (by omega) hroom (by omega)
        refine ⟨_, _, hr, ⟨by simp [hxl], .inr ⟨g, cap, _, rfl, hbg, setRow_heap w g cur _ e _ hg, hroom, hcm, ?_, ?_⟩⟩, ⟨rfl, rfl, rfl, by simp, fun j _ hj => setRow_other w g j _ (fun e => hj (by simp [Value.ownBlock, e]))⟩, .inl rfl⟩
        · simp only [List.size_toArray, List.length_append, List.length_take, List.length_drop, Array.length_toList, List.length_replicate]
          omega
        · rw [Nat.mul_one] at htake
          rw [htake]
          simp only [List.append_assoc]
          rw [← List.append_assoc, List.take_left' (by simp [hxl])]
      · have holds : ∀ j u, xs[j]? = some u → w.cell? ((⟨g, 0, none⟩ : Addr).add j) = some u := hown.cells (g := g) rfl
        have hb2 : (n + k) * i.bytes ≤ 140737488355328 := by
          have := Nat.mul_le_mul (show n + k ≤ 549755813888 by omega) hby
          omega
        have hold : (Builtin.firstCells i.size n (.slice (some ⟨g, 0, none⟩) n cap)).run P w.drew = .ok xs.toArray w.drew :=
          run_firstCells_some (P := P) w.drew i.size n ⟨g, 0, none⟩ n cap xs (by rw [hs, Nat.mul_one]; exact hxl) (fun j u hu => holds j u hu)
        have hr := run_append_grow_zeros (P := P) w t tn ty e i z kq kn ht htn hi hz (some ⟨g, 0, none⟩) n cap xs hold k h0 (by omega) (by omega) (by omega) h48 (growslice_fits (by omega) hb2)
        have hgr := grown cap (by omega) (Value.ownBlock (.slice (some ⟨g, 0, none⟩) n cap))
        exact ⟨_, _, hr, hgr.1, hgr.2, .inr rfl⟩
end

section
variable {C : Ctx} {fr : Fr} {Γ Γ' Γ1 : List OA} {Φ : List SP}
  {d : Nat} {ty : TypeId} {pos : String} {aft : Array Edge} {g : Option (Nat × Bool)}
theorem E_appendZ {t tn e : TypeId} {x y : Operand} {v : Value} {n k nm : Nat} {bs all : List UInt8} {xs : List Value} {i : TypeInfo} {kq kn : IntKind} {ii : Int}
    (hx : evO fr x = some v) (hy : evO fr y = some (.int kq ii)) (hii : ii = (k : Int)) (hp : Pick (.row v e 1 n xs) Γ Γ') (hxs : xs = bs.map bcell)
    (ht : C.P.underlying t = some (.slice e)) (htn : C.P.underlying tn = some (.int kn)) (hi : C.P.info? e = some i) (hz : i.zero = some (.int .u8 0)) (hsize : i.size = 1)
    (hby : i.bytes ≤ 128) (hb : n + k ≤ 549755813888) (hnm : n + k = nm) (hall : bs ++ List.replicate k 0 = all) :
    Effs C fr Γ Φ ⟨some d, .call { callee := .builtin .append, args := #[x, y], argTypes := #[t, tn] }, ty, pos, aft, g⟩ (X := Value) (fun _ => True) (fun q => q) (fun v' => .row v' e 1 nm (all.map bcell) :: Γ') (fun _ => Φ) := by
  subst hnm; subst hall; subst hxs; subst hii
  refine ⟨fun _ => AllIn.refl _, fun R a w ha hw => ?_⟩
  have hw' := pick_holds (pick_app hp R) hw
  obtain ⟨v', w', hr, h2, h3, h5⟩ := run_append_zeros (P := C.P) w t tn ty e i (.int .u8 0) kq kn ht htn hi hz rfl rfl hsize hby v n _ hw'.own.1 k hb
  refine .val (v := v') (w' := w') ?_ ⟨v', trivial, rfl, ?_⟩
  · simp only [execOp, resolve, invoke, builtin, Sem.run_bind, Sem.run_pure, Result.andThen_ok, List.map_toArray, List.map_cons, List.map_nil, evO_sound ha hx, evO_sound ha hy, hr]
  · have e1 : ((bs ++ List.replicate k (0 : UInt8)).map bcell) = bs.map bcell ++ List.replicate k (.int .u8 0) := by rw [List.map_append, List.map_replicate]; rfl
    rw [e1]
    exact hw'.grown h2 h3 h5
theorem R_capNil {t : TypeId} {x : Operand} {A : Option Addr} {n c : Nat} {e : TypeId} (hx : evO fr x = some (.slice A n c)) (ht : C.P.underlying t = some (.slice e)) :
    Runs C fr Γ Φ ⟨some d, .call { callee := .builtin .cap, args := #[x], argTypes := #[t] }, ty, pos, aft, g⟩ (.int .i64 (c : Int)) := Runs.pure fun a w ha hw => by
  simp [execOp, resolve, invoke, builtin, evO_sound ha hx, Builtin.cap_, run_underlying ht, goInt]
end

section
variable {C : Ctx} {fr : Fr} {Γ Γ' Γ1 : List OA} {Φ : List SP}
  {d : Nat} {ty : TypeId} {pos : String} {aft : Array Edge} {g : Option (Nat × Bool)}
theorem fill_pre {size : Nat} {R : List OA} {w : World} (hw : Holds C (Γ ++ R) Φ w) : ∀ {ps : List (Nat × Value)} {k : Nat} {us done rest : List Value}, SeqE C Γ Φ size k ps us → done.length = k * size → us.length ≤ rest.length →
    Instr.fill (fun i => some (i * size, size)) (done ++ rest).toArray ps = some (done ++ (us ++ rest.drop us.length)).toArray
  | [], k, us, done, rest, h, _, hr => by
    have h : us = [] := h
    subst h
    rfl
  | (i, v) :: r, k, us, done, rest, h, hd, hr => by
    obtain ⟨rfl, u1, u2, rfl, hl, hc, hs⟩ := h
    have hc := hc R w hw
    rw [List.length_append] at hr
    have hlen : i * size + size ≤ (done ++ rest).length := by simp [hd]; omega
    have hf := fold_set u1 0 (i * size) (done ++ rest) (by simpa [hl] using hlen)
    have e1 : (done ++ rest).take (i * size) = done := by rw [← hd]; simp
    have e2 : (done ++ rest).drop (i * size + u1.length) = rest.drop u1.length := by rw [← hd, ← List.drop_drop]; simp
    simp only [Nat.add_zero, e1, e2] at hf
    simp only [Instr.fill, hc]
    rw [if_neg (by simp [hl] at hlen ⊢; omega)]
    have ih := fill_pre hw hs (done := done ++ u1) (rest := rest.drop u1.length) (by simp [hd, hl, Nat.add_mul]) (by rw [List.length_drop]; omega)
    rw [List.length_append, ← List.drop_drop, List.append_assoc u1 u2, ← List.append_assoc done u1, ← ih]
    congr 1
    rw [← Array.foldl_toList]
    simpa using hf
theorem R_buildArr {t e : TypeId} {parts : Array (Nat × Operand)} {pv : List (Nat × Value)} {size n : Nat} {us zs ds : List Value} {z : Value}
    (hpv : evPs fr parts.toList = some pv) (hq : SeqE C Γ Φ size 0 pv us) (hz : ∀ w, (zeroValue t).run C.P w = .ok z w) (hzs : listO z.cells.toList = some zs) (ht : C.P.underlying t = some (.array n e))
    (hs : ∀ w, (sizeOf e).run C.P w = .ok size w) (hl : Nat.ble us.length zs.length = true) (hds : us ++ zs.drop us.length = ds) :
    Runs C fr Γ Φ ⟨some d, .build t parts, ty, pos, aft, g⟩ (.agg ds.toArray) :=
  Runs.pure fun a w ha hw => by
    subst hds
    have h1 := fill_pre (R := []) (by simpa using hw) hq (done := []) (rest := zs) (by simp) (Nat.le_of_ble_eq_true hl)
    simp only [List.nil_append] at h1
    have e1 : z.cells = zs.toArray := by rw [← listO_eq hzs]
    simp only [execOp, evPs_sound ha hpv, Instr.build, Sem.run_bind, hz, Result.andThen_ok, run_underlying ht, hs, e1, h1, Sem.run_pure]
end
end Go.Hs

/-
  Where the addresses of a header stand.
-/
namespace Go.Proofs.YteojehocflbgdaaDoor.C05
open Go Go.RowKit Go.Hs
def ctsB (h : Hd) : Bool := decide (h.kind.toNat = 1 ∧ (h.sub.toNat = 12 ∨ h.sub.toNat = 13))
def ctlB (h : Hd) : Bool := decide (h.kind.toNat = 1)
def fourB (h : Hd) : Bool := decide (h.kind.toNat = 2) && (h.toDs && h.fromDs)
/-- how many addresses stand before the sequence number. -/
def befN (h : Hd) : Nat := if ctsB h then 1 else if ctlB h then 2 else 3
def befV (b : Nat) (h : Hd) : Value := .slice (some ⟨b, 0, none⟩) (befN h) 4
def aftV (b : Nat) (h : Hd) : Value := if fourB h then .slice (some ⟨b, 3, none⟩) 1 1 else .slice none 0 0
@[reducible] def plcC (b : Nat) : List Value := [.pointer (some ⟨b, 10, none⟩), .pointer (some ⟨b, 16, none⟩), .pointer (some ⟨b, 22, none⟩), .pointer (some ⟨b, 28, none⟩)]
attribute [local irreducible] WL W WQ PL Runs Effs AllE Ent SubO FrIn Pick OneC Ones CellsE PartsE SeqE UZ By Sl Pt Ct

set_option maxRecDepth 100000 in
set_option maxHeartbeats 8000000 in
theorem places_fn (b0 : Nat) (h : Hd) : Ct Tryd.prog 32 [.pointer (some ⟨b0, 0, none⟩)] [] [Pt (.pointer (some ⟨b0, 0, none⟩)) h.cells]
    (X := Nat) (fun _ => True) (fun x => .tuple #[befV x h, aftV x h]) (fun x => [.blk x 101 (plcC b0)]) (fun _ => []) := by
  by_cases k1 : h.kind.toNat = 1
  · have hf : fourB h = false := by unfold fourB; rw [decide_eq_false (by omega)]; rfl
    by_cases s1 : h.sub.toNat = 12
    · have hc : befN h = 1 := by unfold befN ctsB; rw [decide_eq_true ⟨k1, .inl s1⟩]; rfl
      unfold befV aftV
      rw [hf, hc]
      refine Ct_intro Tryd.func32 rfl Tryd.ntmps32 (by simp) _ rfl (fun w0 O0 => ?_)
      repeat (first | refine n1 ?_ | refine n2 (fun b _ => ?_) | refine n3 (fun _ _ => ?_) | refine n4 ?_ | refine n5 ?_ | refine WL_nil ?_ | refine W_seq ?_ | refine W_region ?_ | refine n7 ?_ | refine n8 ?_ | refine W_block ?_ | refine W_skip ?_ | refine W_ret ?_ | refine W_exit ?_ | refine WQ_then ?_ | refine WQ_then_ret ?_ | refine WQ_then_exit ?_ | refine WQ_block_normal ?_ | refine WQ_block_ret ?_ | refine WQ_block_exit ?_ | refine n9 ?_)
      (refine W_regionP' [14] [13] [0, 1, 2, 3, 4, 5, 6, 7, 8, 9, 10, 11, 12, 13, 14] [] (by kernel_rfl) (by kernel_rfl) (by repeat (first | exact UZ.nil _ _ | (apply UZ.cons; exact rfl; (intro _; exact rfl)))) (by exact rfl) (by (repeat (first | exact SubO.nil _ | (apply SubO.cons; (focus (repeat' (first | exact Pick.head _ _ | apply Pick.tail))))))) ?_)
      repeat (first | refine p1 ?_ | refine p2 (fun b _ => ?_) | refine p3 (fun _ _ => ?_) | refine p4 ?_ | refine p5 ?_ | refine p7 (fun b => ?_) | refine PL_nil ?_)
      repeat (first | refine n1 ?_ | refine n2 (fun b _ => ?_) | refine n3 (fun _ _ => ?_) | refine n4 ?_ | refine n5 ?_ | refine WL_nil ?_ | refine W_seq ?_ | refine W_region ?_ | refine n7 ?_ | refine n8 ?_ | refine W_block ?_ | refine W_skip ?_ | refine W_ret ?_ | refine W_exit ?_ | refine WQ_then ?_ | refine WQ_then_ret ?_ | refine WQ_then_exit ?_ | refine WQ_block_normal ?_ | refine WQ_block_ret ?_ | refine WQ_block_exit ?_ | refine n9 ?_)
      refine WL_runs rfl rfl rfl (R_sliceHi (k := 1) rfl rfl rfl (by intro _; rfl) rfl rfl) ?_
      repeat (first | refine n1 ?_ | refine n2 (fun b _ => ?_) | refine n3 (fun _ _ => ?_) | refine n4 ?_ | refine n5 ?_ | refine WL_nil ?_ | refine W_seq ?_ | refine W_region ?_ | refine n7 ?_ | refine n8 ?_ | refine W_block ?_ | refine W_skip ?_ | refine W_ret ?_ | refine W_exit ?_ | refine WQ_then ?_ | refine WQ_then_ret ?_ | refine WQ_then_exit ?_ | refine WQ_block_normal ?_ | refine WQ_block_ret ?_ | refine WQ_block_exit ?_ | refine n9 ?_)
      ((apply ret2 Tryd.results32 ( b)); (focus (first | trivial | assumption | omega)); (focus (first | exact RV_tmp rfl | (apply RV_cellN; exact rfl; (repeat' (first | exact Pick.head _ _ | apply Pick.tail)); (intro _; exact rfl); (intro _; exact rfl); exact rfl) | (apply RV_cell1; exact rfl; (repeat' (first | exact Pick.head _ _ | apply Pick.tail)); (intro _; exact rfl); exact rfl))); (focus (first | exact RV_tmp rfl | (apply RV_cellN; exact rfl; (repeat' (first | exact Pick.head _ _ | apply Pick.tail)); (intro _; exact rfl); (intro _; exact rfl); exact rfl) | (apply RV_cell1; exact rfl; (repeat' (first | exact Pick.head _ _ | apply Pick.tail)); (intro _; exact rfl); exact rfl)));  (focus (first | exact rfl | (simp; done))); (focus (repeat (first | exact SubO.nil _ | (apply SubO.cons; (focus (repeat' (first | exact Pick.head _ _ | apply Pick.tail))))))); (focus (repeat (first | exact AllE.nil _ | (apply AllE.cons; (focus (first | exact ent_nilBy | exact ent_nilSl | (apply Ent.mem; repeat' (first | exact mcs | apply mct)))))))))
    · by_cases s2 : h.sub.toNat = 13
      · have hc : befN h = 1 := by unfold befN ctsB; rw [decide_eq_true ⟨k1, .inr s2⟩]; rfl
        unfold befV aftV
        rw [hf, hc]
        refine Ct_intro Tryd.func32 rfl Tryd.ntmps32 (by simp) _ rfl (fun w0 O0 => ?_)
        repeat (first | refine n1 ?_ | refine n2 (fun b _ => ?_) | refine n3 (fun _ _ => ?_) | refine n4 ?_ | refine n5 ?_ | refine WL_nil ?_ | refine W_seq ?_ | refine W_region ?_ | refine n7 ?_ | refine n8 ?_ | refine W_block ?_ | refine W_skip ?_ | refine W_ret ?_ | refine W_exit ?_ | refine WQ_then ?_ | refine WQ_then_ret ?_ | refine WQ_then_exit ?_ | refine WQ_block_normal ?_ | refine WQ_block_ret ?_ | refine WQ_block_exit ?_ | refine n9 ?_)
        (refine W_regionP' [14] [13] [0, 1, 2, 3, 4, 5, 6, 7, 8, 9, 10, 11, 12, 13, 14] [] (by kernel_rfl) (by kernel_rfl) (by repeat (first | exact UZ.nil _ _ | (apply UZ.cons; exact rfl; (intro _; exact rfl)))) (by exact rfl) (by (repeat (first | exact SubO.nil _ | (apply SubO.cons; (focus (repeat' (first | exact Pick.head _ _ | apply Pick.tail))))))) ?_)
        repeat (first | refine p1 ?_ | refine p2 (fun b _ => ?_) | refine p3 (fun _ _ => ?_) | refine p4 ?_ | refine p5 ?_ | refine p7 (fun b => ?_) | refine PL_nil ?_)
        repeat (first | refine n1 ?_ | refine n2 (fun b _ => ?_) | refine n3 (fun _ _ => ?_) | refine n4 ?_ | refine n5 ?_ | refine WL_nil ?_ | refine W_seq ?_ | refine W_region ?_ | refine n7 ?_ | refine n8 ?_ | refine W_block ?_ | refine W_skip ?_ | refine W_ret ?_ | refine W_exit ?_ | refine WQ_then ?_ | refine WQ_then_ret ?_ | refine WQ_then_exit ?_ | refine WQ_block_normal ?_ | refine WQ_block_ret ?_ | refine WQ_block_exit ?_ | refine n9 ?_)
        refine WL_runs rfl rfl rfl (R_sliceHi (k := 1) rfl rfl rfl (by intro _; rfl) rfl rfl) ?_
        repeat (first | refine n1 ?_ | refine n2 (fun b _ => ?_) | refine n3 (fun _ _ => ?_) | refine n4 ?_ | refine n5 ?_ | refine WL_nil ?_ | refine W_seq ?_ | refine W_region ?_ | refine n7 ?_ | refine n8 ?_ | refine W_block ?_ | refine W_skip ?_ | refine W_ret ?_ | refine W_exit ?_ | refine WQ_then ?_ | refine WQ_then_ret ?_ | refine WQ_then_exit ?_ | refine WQ_block_normal ?_ | refine WQ_block_ret ?_ | refine WQ_block_exit ?_ | refine n9 ?_)
        ((apply ret2 Tryd.results32 ( b)); (focus (first | trivial | assumption | omega)); (focus (first | exact RV_tmp rfl | (apply RV_cellN; exact rfl; (repeat' (first | exact Pick.head _ _ | apply Pick.tail)); (intro _; exact rfl); (intro _; exact rfl); exact rfl) | (apply RV_cell1; exact rfl; (repeat' (first | exact Pick.head _ _ | apply Pick.tail)); (intro _; exact rfl); exact rfl))); (focus (first | exact RV_tmp rfl | (apply RV_cellN; exact rfl; (repeat' (first | exact Pick.head _ _ | apply Pick.tail)); (intro _; exact rfl); (intro _; exact rfl); exact rfl) | (apply RV_cell1; exact rfl; (repeat' (first | exact Pick.head _ _ | apply Pick.tail)); (intro _; exact rfl); exact rfl)));  (focus (first | exact rfl | (simp; done))); (focus (repeat (first | exact SubO.nil _ | (apply SubO.cons; (focus (repeat' (first | exact Pick.head _ _ | apply Pick.tail))))))); (focus (repeat (first | exact AllE.nil _ | (apply AllE.cons; (focus (first | exact ent_nilBy | exact ent_nilSl | (apply Ent.mem; repeat' (first | exact mcs | apply mct)))))))))
      · have hc : befN h = 2 := by unfold befN ctsB ctlB; rw [decide_eq_false (by omega), decide_eq_true k1]; rfl
        unfold befV aftV
        rw [hf, hc]
        refine Ct_intro Tryd.func32 rfl Tryd.ntmps32 (by simp) _ rfl (fun w0 O0 => ?_)
        repeat (first | refine n1 ?_ | refine n2 (fun b _ => ?_) | refine n3 (fun _ _ => ?_) | refine n4 ?_ | refine n5 ?_ | refine WL_nil ?_ | refine W_seq ?_ | refine W_region ?_ | refine n7 ?_ | refine n8 ?_ | refine W_block ?_ | refine W_skip ?_ | refine W_ret ?_ | refine W_exit ?_ | refine WQ_then ?_ | refine WQ_then_ret ?_ | refine WQ_then_exit ?_ | refine WQ_block_normal ?_ | refine WQ_block_ret ?_ | refine WQ_block_exit ?_ | refine n9 ?_)
        (refine W_regionP' [14] [13] [0, 1, 2, 3, 4, 5, 6, 7, 8, 9, 10, 11, 12, 13, 14] [] (by kernel_rfl) (by kernel_rfl) (by repeat (first | exact UZ.nil _ _ | (apply UZ.cons; exact rfl; (intro _; exact rfl)))) (by exact rfl) (by (repeat (first | exact SubO.nil _ | (apply SubO.cons; (focus (repeat' (first | exact Pick.head _ _ | apply Pick.tail))))))) ?_)
        repeat (first | refine p1 ?_ | refine p2 (fun b _ => ?_) | refine p3 (fun _ _ => ?_) | refine p4 ?_ | refine p5 ?_ | refine p7 (fun b => ?_) | refine PL_nil ?_)
        repeat (first | refine n1 ?_ | refine n2 (fun b _ => ?_) | refine n3 (fun _ _ => ?_) | refine n4 ?_ | refine n5 ?_ | refine WL_nil ?_ | refine W_seq ?_ | refine W_region ?_ | refine n7 ?_ | refine n8 ?_ | refine W_block ?_ | refine W_skip ?_ | refine W_ret ?_ | refine W_exit ?_ | refine WQ_then ?_ | refine WQ_then_ret ?_ | refine WQ_then_exit ?_ | refine WQ_block_normal ?_ | refine WQ_block_ret ?_ | refine WQ_block_exit ?_ | refine n9 ?_)
        refine WL_runs rfl rfl rfl (R_sliceHi (k := 2) rfl rfl rfl (by intro _; rfl) rfl rfl) ?_
        repeat (first | refine n1 ?_ | refine n2 (fun b _ => ?_) | refine n3 (fun _ _ => ?_) | refine n4 ?_ | refine n5 ?_ | refine WL_nil ?_ | refine W_seq ?_ | refine W_region ?_ | refine n7 ?_ | refine n8 ?_ | refine W_block ?_ | refine W_skip ?_ | refine W_ret ?_ | refine W_exit ?_ | refine WQ_then ?_ | refine WQ_then_ret ?_ | refine WQ_then_exit ?_ | refine WQ_block_normal ?_ | refine WQ_block_ret ?_ | refine WQ_block_exit ?_ | refine n9 ?_)
        ((apply ret2 Tryd.results32 ( b)); (focus (first | trivial | assumption | omega)); (focus (first | exact RV_tmp rfl | (apply RV_cellN; exact rfl; (repeat' (first | exact Pick.head _ _ | apply Pick.tail)); (intro _; exact rfl); (intro _; exact rfl); exact rfl) | (apply RV_cell1; exact rfl; (repeat' (first | exact Pick.head _ _ | apply Pick.tail)); (intro _; exact rfl); exact rfl))); (focus (first | exact RV_tmp rfl | (apply RV_cellN; exact rfl; (repeat' (first | exact Pick.head _ _ | apply Pick.tail)); (intro _; exact rfl); (intro _; exact rfl); exact rfl) | (apply RV_cell1; exact rfl; (repeat' (first | exact Pick.head _ _ | apply Pick.tail)); (intro _; exact rfl); exact rfl)));  (focus (first | exact rfl | (simp; done))); (focus (repeat (first | exact SubO.nil _ | (apply SubO.cons; (focus (repeat' (first | exact Pick.head _ _ | apply Pick.tail))))))); (focus (repeat (first | exact AllE.nil _ | (apply AllE.cons; (focus (first | exact ent_nilBy | exact ent_nilSl | (apply Ent.mem; repeat' (first | exact mcs | apply mct)))))))))
  · have hc : befN h = 3 := by unfold befN ctsB ctlB; rw [decide_eq_false (by omega), decide_eq_false k1]; rfl
    by_cases k2 : h.kind.toNat = 2
    · obtain ⟨a, ha⟩ : ∃ a, h.toDs = a := ⟨_, rfl⟩
      obtain ⟨c, hc'⟩ : ∃ c, h.fromDs = c := ⟨_, rfl⟩
      have hf : fourB h = (a && c) := by unfold fourB; rw [decide_eq_true k2, Bool.true_and, ha, hc']
      unfold befV aftV
      unfold Hd.cells
      rw [hf, hc, ha, hc']
      cases a
      · rw [Bool.false_and]
        refine Ct_intro Tryd.func32 rfl Tryd.ntmps32 (by simp) _ rfl (fun w0 O0 => ?_)
        repeat (first | refine n1 ?_ | refine n2 (fun b _ => ?_) | refine n3 (fun _ _ => ?_) | refine n4 ?_ | refine n5 ?_ | refine WL_nil ?_ | refine W_seq ?_ | refine W_region ?_ | refine n7 ?_ | refine n8 ?_ | refine W_block ?_ | refine W_skip ?_ | refine W_ret ?_ | refine W_exit ?_ | refine WQ_then ?_ | refine WQ_then_ret ?_ | refine WQ_then_exit ?_ | refine WQ_block_normal ?_ | refine WQ_block_ret ?_ | refine WQ_block_exit ?_ | refine n9 ?_)
        (refine W_regionP' [14] [13] [0, 1, 2, 3, 4, 5, 6, 7, 8, 9, 10, 11, 12, 13, 14] [] (by kernel_rfl) (by kernel_rfl) (by repeat (first | exact UZ.nil _ _ | (apply UZ.cons; exact rfl; (intro _; exact rfl)))) (by exact rfl) (by (repeat (first | exact SubO.nil _ | (apply SubO.cons; (focus (repeat' (first | exact Pick.head _ _ | apply Pick.tail))))))) ?_)
        repeat (first | refine p1 ?_ | refine p2 (fun b _ => ?_) | refine p3 (fun _ _ => ?_) | refine p4 ?_ | refine p5 ?_ | refine p7 (fun b => ?_) | refine PL_nil ?_)
        repeat (first | refine n1 ?_ | refine n2 (fun b _ => ?_) | refine n3 (fun _ _ => ?_) | refine n4 ?_ | refine n5 ?_ | refine WL_nil ?_ | refine W_seq ?_ | refine W_region ?_ | refine n7 ?_ | refine n8 ?_ | refine W_block ?_ | refine W_skip ?_ | refine W_ret ?_ | refine W_exit ?_ | refine WQ_then ?_ | refine WQ_then_ret ?_ | refine WQ_then_exit ?_ | refine WQ_block_normal ?_ | refine WQ_block_ret ?_ | refine WQ_block_exit ?_ | refine n9 ?_)
        refine WL_runs rfl rfl rfl (R_sliceHi (k := 3) rfl rfl rfl (by intro _; rfl) rfl rfl) ?_
        repeat (first | refine n1 ?_ | refine n2 (fun b _ => ?_) | refine n3 (fun _ _ => ?_) | refine n4 ?_ | refine n5 ?_ | refine WL_nil ?_ | refine W_seq ?_ | refine W_region ?_ | refine n7 ?_ | refine n8 ?_ | refine W_block ?_ | refine W_skip ?_ | refine W_ret ?_ | refine W_exit ?_ | refine WQ_then ?_ | refine WQ_then_ret ?_ | refine WQ_then_exit ?_ | refine WQ_block_normal ?_ | refine WQ_block_ret ?_ | refine WQ_block_exit ?_ | refine n9 ?_)
        ((apply ret2 Tryd.results32 ( b)); (focus (first | trivial | assumption | omega)); (focus (first | exact RV_tmp rfl | (apply RV_cellN; exact rfl; (repeat' (first | exact Pick.head _ _ | apply Pick.tail)); (intro _; exact rfl); (intro _; exact rfl); exact rfl) | (apply RV_cell1; exact rfl; (repeat' (first | exact Pick.head _ _ | apply Pick.tail)); (intro _; exact rfl); exact rfl))); (focus (first | exact RV_tmp rfl | (apply RV_cellN; exact rfl; (repeat' (first | exact Pick.head _ _ | apply Pick.tail)); (intro _; exact rfl); (intro _; exact rfl); exact rfl) | (apply RV_cell1; exact rfl; (repeat' (first | exact Pick.head _ _ | apply Pick.tail)); (intro _; exact rfl); exact rfl)));  (focus (first | exact rfl | (simp; done))); (focus (repeat (first | exact SubO.nil _ | (apply SubO.cons; (focus (repeat' (first | exact Pick.head _ _ | apply Pick.tail))))))); (focus (repeat (first | exact AllE.nil _ | (apply AllE.cons; (focus (first | exact ent_nilBy | exact ent_nilSl | (apply Ent.mem; repeat' (first | exact mcs | apply mct)))))))))
      · cases c
        · rw [Bool.and_false]
          refine Ct_intro Tryd.func32 rfl Tryd.ntmps32 (by simp) _ rfl (fun w0 O0 => ?_)
          repeat (first | refine n1 ?_ | refine n2 (fun b _ => ?_) | refine n3 (fun _ _ => ?_) | refine n4 ?_ | refine n5 ?_ | refine WL_nil ?_ | refine W_seq ?_ | refine W_region ?_ | refine n7 ?_ | refine n8 ?_ | refine W_block ?_ | refine W_skip ?_ | refine W_ret ?_ | refine W_exit ?_ | refine WQ_then ?_ | refine WQ_then_ret ?_ | refine WQ_then_exit ?_ | refine WQ_block_normal ?_ | refine WQ_block_ret ?_ | refine WQ_block_exit ?_ | refine n9 ?_)
          (refine W_regionP' [14] [13] [0, 1, 2, 3, 4, 5, 6, 7, 8, 9, 10, 11, 12, 13, 14] [] (by kernel_rfl) (by kernel_rfl) (by repeat (first | exact UZ.nil _ _ | (apply UZ.cons; exact rfl; (intro _; exact rfl)))) (by exact rfl) (by (repeat (first | exact SubO.nil _ | (apply SubO.cons; (focus (repeat' (first | exact Pick.head _ _ | apply Pick.tail))))))) ?_)
          repeat (first | refine p1 ?_ | refine p2 (fun b _ => ?_) | refine p3 (fun _ _ => ?_) | refine p4 ?_ | refine p5 ?_ | refine p7 (fun b => ?_) | refine PL_nil ?_)
          repeat (first | refine n1 ?_ | refine n2 (fun b _ => ?_) | refine n3 (fun _ _ => ?_) | refine n4 ?_ | refine n5 ?_ | refine WL_nil ?_ | refine W_seq ?_ | refine W_region ?_ | refine n7 ?_ | refine n8 ?_ | refine W_block ?_ | refine W_skip ?_ | refine W_ret ?_ | refine W_exit ?_ | refine WQ_then ?_ | refine WQ_then_ret ?_ | refine WQ_then_exit ?_ | refine WQ_block_normal ?_ | refine WQ_block_ret ?_ | refine WQ_block_exit ?_ | refine n9 ?_)
          refine WL_runs rfl rfl rfl (R_sliceHi (k := 3) rfl rfl rfl (by intro _; rfl) rfl rfl) ?_
          repeat (first | refine n1 ?_ | refine n2 (fun b _ => ?_) | refine n3 (fun _ _ => ?_) | refine n4 ?_ | refine n5 ?_ | refine WL_nil ?_ | refine W_seq ?_ | refine W_region ?_ | refine n7 ?_ | refine n8 ?_ | refine W_block ?_ | refine W_skip ?_ | refine W_ret ?_ | refine W_exit ?_ | refine WQ_then ?_ | refine WQ_then_ret ?_ | refine WQ_then_exit ?_ | refine WQ_block_normal ?_ | refine WQ_block_ret ?_ | refine WQ_block_exit ?_ | refine n9 ?_)
          ((apply ret2 Tryd.results32 ( b)); (focus (first | trivial | assumption | omega)); (focus (first | exact RV_tmp rfl | (apply RV_cellN; exact rfl; (repeat' (first | exact Pick.head _ _ | apply Pick.tail)); (intro _; exact rfl); (intro _; exact rfl); exact rfl) | (apply RV_cell1; exact rfl; (repeat' (first | exact Pick.head _ _ | apply Pick.tail)); (intro _; exact rfl); exact rfl))); (focus (first | exact RV_tmp rfl | (apply RV_cellN; exact rfl; (repeat' (first | exact Pick.head _ _ | apply Pick.tail)); (intro _; exact rfl); (intro _; exact rfl); exact rfl) | (apply RV_cell1; exact rfl; (repeat' (first | exact Pick.head _ _ | apply Pick.tail)); (intro _; exact rfl); exact rfl)));  (focus (first | exact rfl | (simp; done))); (focus (repeat (first | exact SubO.nil _ | (apply SubO.cons; (focus (repeat' (first | exact Pick.head _ _ | apply Pick.tail))))))); (focus (repeat (first | exact AllE.nil _ | (apply AllE.cons; (focus (first | exact ent_nilBy | exact ent_nilSl | (apply Ent.mem; repeat' (first | exact mcs | apply mct)))))))))
        · rw [Bool.and_true]
          refine Ct_intro Tryd.func32 rfl Tryd.ntmps32 (by simp) _ rfl (fun w0 O0 => ?_)
          repeat (first | refine n1 ?_ | refine n2 (fun b _ => ?_) | refine n3 (fun _ _ => ?_) | refine n4 ?_ | refine n5 ?_ | refine WL_nil ?_ | refine W_seq ?_ | refine W_region ?_ | refine n7 ?_ | refine n8 ?_ | refine W_block ?_ | refine W_skip ?_ | refine W_ret ?_ | refine W_exit ?_ | refine WQ_then ?_ | refine WQ_then_ret ?_ | refine WQ_then_exit ?_ | refine WQ_block_normal ?_ | refine WQ_block_ret ?_ | refine WQ_block_exit ?_ | refine n9 ?_)
          (refine W_regionP' [14] [13] [0, 1, 2, 3, 4, 5, 6, 7, 8, 9, 10, 11, 12, 13, 14] [] (by kernel_rfl) (by kernel_rfl) (by repeat (first | exact UZ.nil _ _ | (apply UZ.cons; exact rfl; (intro _; exact rfl)))) (by exact rfl) (by (repeat (first | exact SubO.nil _ | (apply SubO.cons; (focus (repeat' (first | exact Pick.head _ _ | apply Pick.tail))))))) ?_)
          repeat (first | refine p1 ?_ | refine p2 (fun b _ => ?_) | refine p3 (fun _ _ => ?_) | refine p4 ?_ | refine p5 ?_ | refine p7 (fun b => ?_) | refine PL_nil ?_)
          repeat (first | refine n1 ?_ | refine n2 (fun b _ => ?_) | refine n3 (fun _ _ => ?_) | refine n4 ?_ | refine n5 ?_ | refine WL_nil ?_ | refine W_seq ?_ | refine W_region ?_ | refine n7 ?_ | refine n8 ?_ | refine W_block ?_ | refine W_skip ?_ | refine W_ret ?_ | refine W_exit ?_ | refine WQ_then ?_ | refine WQ_then_ret ?_ | refine WQ_then_exit ?_ | refine WQ_block_normal ?_ | refine WQ_block_ret ?_ | refine WQ_block_exit ?_ | refine n9 ?_)
          (refine W_regionP' [] [] [0, 1, 2, 3] [] (by kernel_rfl) (by kernel_rfl) (by repeat (first | exact UZ.nil _ _ | (apply UZ.cons; exact rfl; (intro _; exact rfl)))) (by exact rfl) (by (repeat (first | exact SubO.nil _ | (apply SubO.cons; (focus (repeat' (first | exact Pick.head _ _ | apply Pick.tail))))))) ?_)
          refine PL_runs rfl rfl rfl rfl rfl (R_sliceHi (k := 3) rfl rfl rfl (by intro _; rfl) rfl rfl) ?_
          refine PL_runs rfl rfl rfl rfl rfl (R_sliceLo (k := 3) rfl rfl rfl (by intro _; rfl) rfl) ?_
          repeat (first | refine p1 ?_ | refine p2 (fun b _ => ?_) | refine p3 (fun _ _ => ?_) | refine p4 ?_ | refine p5 ?_ | refine p7 (fun b => ?_) | refine PL_nil ?_)
          repeat (first | refine n1 ?_ | refine n2 (fun b _ => ?_) | refine n3 (fun _ _ => ?_) | refine n4 ?_ | refine n5 ?_ | refine WL_nil ?_ | refine W_seq ?_ | refine W_region ?_ | refine n7 ?_ | refine n8 ?_ | refine W_block ?_ | refine W_skip ?_ | refine W_ret ?_ | refine W_exit ?_ | refine WQ_then ?_ | refine WQ_then_ret ?_ | refine WQ_then_exit ?_ | refine WQ_block_normal ?_ | refine WQ_block_ret ?_ | refine WQ_block_exit ?_ | refine n9 ?_)
          ((apply ret2 Tryd.results32 ( b)); (focus (first | trivial | assumption | omega)); (focus (first | exact RV_tmp rfl | (apply RV_cellN; exact rfl; (repeat' (first | exact Pick.head _ _ | apply Pick.tail)); (intro _; exact rfl); (intro _; exact rfl); exact rfl) | (apply RV_cell1; exact rfl; (repeat' (first | exact Pick.head _ _ | apply Pick.tail)); (intro _; exact rfl); exact rfl))); (focus (first | exact RV_tmp rfl | (apply RV_cellN; exact rfl; (repeat' (first | exact Pick.head _ _ | apply Pick.tail)); (intro _; exact rfl); (intro _; exact rfl); exact rfl) | (apply RV_cell1; exact rfl; (repeat' (first | exact Pick.head _ _ | apply Pick.tail)); (intro _; exact rfl); exact rfl)));  (focus (first | exact rfl | (simp; done))); (focus (repeat (first | exact SubO.nil _ | (apply SubO.cons; (focus (repeat' (first | exact Pick.head _ _ | apply Pick.tail))))))); (focus (repeat (first | exact AllE.nil _ | (apply AllE.cons; (focus (first | exact ent_nilBy | exact ent_nilSl | (apply Ent.mem; repeat' (first | exact mcs | apply mct)))))))))
    · have hf : fourB h = false := by unfold fourB; rw [decide_eq_false k2]; rfl
      unfold befV aftV
      rw [hf, hc]
      refine Ct_intro Tryd.func32 rfl Tryd.ntmps32 (by simp) _ rfl (fun w0 O0 => ?_)
      repeat (first | refine n1 ?_ | refine n2 (fun b _ => ?_) | refine n3 (fun _ _ => ?_) | refine n4 ?_ | refine n5 ?_ | refine WL_nil ?_ | refine W_seq ?_ | refine W_region ?_ | refine n7 ?_ | refine n8 ?_ | refine W_block ?_ | refine W_skip ?_ | refine W_ret ?_ | refine W_exit ?_ | refine WQ_then ?_ | refine WQ_then_ret ?_ | refine WQ_then_exit ?_ | refine WQ_block_normal ?_ | refine WQ_block_ret ?_ | refine WQ_block_exit ?_ | refine n9 ?_)
      (refine W_regionP' [14] [13] [0, 1, 2, 3, 4, 5, 6, 7, 8, 9, 10, 11, 12, 13, 14] [] (by kernel_rfl) (by kernel_rfl) (by repeat (first | exact UZ.nil _ _ | (apply UZ.cons; exact rfl; (intro _; exact rfl)))) (by exact rfl) (by (repeat (first | exact SubO.nil _ | (apply SubO.cons; (focus (repeat' (first | exact Pick.head _ _ | apply Pick.tail))))))) ?_)
      repeat (first | refine p1 ?_ | refine p2 (fun b _ => ?_) | refine p3 (fun _ _ => ?_) | refine p4 ?_ | refine p5 ?_ | refine p7 (fun b => ?_) | refine PL_nil ?_)
      repeat (first | refine n1 ?_ | refine n2 (fun b _ => ?_) | refine n3 (fun _ _ => ?_) | refine n4 ?_ | refine n5 ?_ | refine WL_nil ?_ | refine W_seq ?_ | refine W_region ?_ | refine n7 ?_ | refine n8 ?_ | refine W_block ?_ | refine W_skip ?_ | refine W_ret ?_ | refine W_exit ?_ | refine WQ_then ?_ | refine WQ_then_ret ?_ | refine WQ_then_exit ?_ | refine WQ_block_normal ?_ | refine WQ_block_ret ?_ | refine WQ_block_exit ?_ | refine n9 ?_)
      refine WL_runs rfl rfl rfl (R_sliceHi (k := 3) rfl rfl rfl (by intro _; rfl) rfl rfl) ?_
      repeat (first | refine n1 ?_ | refine n2 (fun b _ => ?_) | refine n3 (fun _ _ => ?_) | refine n4 ?_ | refine n5 ?_ | refine WL_nil ?_ | refine W_seq ?_ | refine W_region ?_ | refine n7 ?_ | refine n8 ?_ | refine W_block ?_ | refine W_skip ?_ | refine W_ret ?_ | refine W_exit ?_ | refine WQ_then ?_ | refine WQ_then_ret ?_ | refine WQ_then_exit ?_ | refine WQ_block_normal ?_ | refine WQ_block_ret ?_ | refine WQ_block_exit ?_ | refine n9 ?_)
      ((apply ret2 Tryd.results32 ( b)); (focus (first | trivial | assumption | omega)); (focus (first | exact RV_tmp rfl | (apply RV_cellN; exact rfl; (repeat' (first | exact Pick.head _ _ | apply Pick.tail)); (intro _; exact rfl); (intro _; exact rfl); exact rfl) | (apply RV_cell1; exact rfl; (repeat' (first | exact Pick.head _ _ | apply Pick.tail)); (intro _; exact rfl); exact rfl))); (focus (first | exact RV_tmp rfl | (apply RV_cellN; exact rfl; (repeat' (first | exact Pick.head _ _ | apply Pick.tail)); (intro _; exact rfl); (intro _; exact rfl); exact rfl) | (apply RV_cell1; exact rfl; (repeat' (first | exact Pick.head _ _ | apply Pick.tail)); (intro _; exact rfl); exact rfl)));  (focus (first | exact rfl | (simp; done))); (focus (repeat (first | exact SubO.nil _ | (apply SubO.cons; (focus (repeat' (first | exact Pick.head _ _ | apply Pick.tail))))))); (focus (repeat (first | exact AllE.nil _ | (apply AllE.cons; (focus (first | exact ent_nilBy | exact ent_nilSl | (apply Ent.mem; repeat' (first | exact mcs | apply mct)))))))))
end Go.Proofs.YteojehocflbgdaaDoor.C05
