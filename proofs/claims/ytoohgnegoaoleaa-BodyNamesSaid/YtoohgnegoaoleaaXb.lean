/-
  Rules for walks, merged.
-/
import Derived.Test.YtoohgnegoaoleaaXa
import Derived.Test.YtoohgnegoaoleaaRows
import Derived.RangeFuncLeaves
import Derived.Laws.BitsAllLaws
import Derived.Laws.Bits128
/-
  The steps of a walk, with the reckoning of each side goal by default. No program is named here.
-/
namespace Go.Hs
open Go Go.RowKit
attribute [local irreducible] WL W WQ PL Runs Effs AllE Ent SubO FrIn Pick OneC Ones CellsE PartsE SeqE UZ By Sl Pt Ct

section
variable {C : Ctx} {ops : Array Oper} {l : List Oper} {o : Oper} {d : Nat} {v : Value} {fr : Fr} {Γ Γs : List OA} {Φ : List SP} {Q : Exit → Act → World → Prop} {ψ : SP}
  {X : Type} {pf : X → Prop} {vx : X → Value} {Γ' : X → List OA} {Φ' : X → List SP} {es us π : List Nat} {i : Nat}

theorem n1 (k : WL C ops l ((d, v) :: fr) Γ Φ Q) (hg : gv ops fr o.guard = some true := by exact rfl) (hd : o.dst = some d := by exact rfl) (hn : Nat.blt d C.n = true := by exact rfl)
    (h : Runs C fr Γ Φ o v := by (first | (apply Go.Hs.R_move; exact rfl) | (apply Go.Hs.R_assign; exact rfl) | (apply Go.Hs.R_extract; exact rfl; exact rfl) | (apply Go.Hs.R_pick_t; exact rfl; exact rfl) | (apply Go.Hs.R_pick_f; exact rfl; exact rfl) | (apply Go.Hs.G_bin; (first | (apply Go.Hs.R_cmp; exact rfl; exact rfl; exact rfl; (first | exact decide_eq_true (by omega) | exact decide_eq_false (by omega) | exact rfl)) | (apply Go.Hs.R_ari; exact rfl; exact rfl; exact rfl; (first | exact Go.Hs.wx_i64 (by omega) | exact Go.Hs.wx_u8 (by omega) | exact Go.Hs.wx_u64 (by omega) | exact Go.Hs.wx_u32 (by omega) | exact Go.Hs.wx_u16 (by omega) | exact Go.Hs.wx_b8 _ | exact rfl)) | (apply Go.Hs.R_eqB; exact rfl; exact rfl; exact rfl; exact rfl) | (apply Go.Hs.R_neB; exact rfl; exact rfl; exact rfl; exact rfl) | (apply Go.Hs.R_eqS; exact rfl; exact rfl; (first | exact decide_eq_true rfl | exact decide_eq_true (by assumption) | exact decide_eq_false (by assumption) | exact rfl)) | (apply Go.Hs.R_neS; exact rfl; exact rfl; (first | exact Go.Hs.neS_f rfl | exact Go.Hs.neS_f (by assumption) | exact Go.Hs.neS_t (by assumption) | exact rfl)) | (apply Go.Hs.R_addS; exact rfl; exact rfl; (first | omega | (simp only [List.length_take, List.length_drop, List.length_append, List.length_cons, List.length_nil, List.length_map, List.length_replicate]; omega))) | (apply Go.Hs.R_eqA; exact rfl; exact rfl; exact rfl; exact rfl; (first | exact rfl | kernel_rfl); (first | exact rfl | kernel_rfl); (first | exact rfl | kernel_rfl); (first | exact Go.Hs.Bc.self _ | exact Go.Hs.Bc.zero | exact Go.Hs.Bc.lit _ rfl); (first | exact Go.Hs.Bc.self _ | exact Go.Hs.Bc.zero | exact Go.Hs.Bc.lit _ rfl); (first | exact Go.Hs.Bc.self _ | exact Go.Hs.Bc.zero | exact Go.Hs.Bc.lit _ rfl); (first | exact Go.Hs.Bc.self _ | exact Go.Hs.Bc.zero | exact Go.Hs.Bc.lit _ rfl); (first | exact Go.Hs.Bc.self _ | exact Go.Hs.Bc.zero | exact Go.Hs.Bc.lit _ rfl); (first | exact Go.Hs.Bc.self _ | exact Go.Hs.Bc.zero | exact Go.Hs.Bc.lit _ rfl); (first | exact Go.Hs.Bc.self _ | exact Go.Hs.Bc.zero | exact Go.Hs.Bc.lit _ rfl); (first | exact Go.Hs.Bc.self _ | exact Go.Hs.Bc.zero | exact Go.Hs.Bc.lit _ rfl); (first | exact Go.Hs.Bc.self _ | exact Go.Hs.Bc.zero | exact Go.Hs.Bc.lit _ rfl); (first | exact Go.Hs.Bc.self _ | exact Go.Hs.Bc.zero | exact Go.Hs.Bc.lit _ rfl); (first | exact Go.Hs.Bc.self _ | exact Go.Hs.Bc.zero | exact Go.Hs.Bc.lit _ rfl); (first | exact Go.Hs.Bc.self _ | exact Go.Hs.Bc.zero | exact Go.Hs.Bc.lit _ rfl); (first | exact decide_eq_true (by assumption) | exact decide_eq_false (by assumption) | exact decide_eq_true rfl | exact decide_eq_false (by decide) | exact rfl)) | (apply Go.Hs.R_neA; exact rfl; exact rfl; exact rfl; exact rfl; (first | exact rfl | kernel_rfl); (first | exact rfl | kernel_rfl); (first | exact rfl | kernel_rfl); (first | exact Go.Hs.Bc.self _ | exact Go.Hs.Bc.zero | exact Go.Hs.Bc.lit _ rfl); (first | exact Go.Hs.Bc.self _ | exact Go.Hs.Bc.zero | exact Go.Hs.Bc.lit _ rfl); (first | exact Go.Hs.Bc.self _ | exact Go.Hs.Bc.zero | exact Go.Hs.Bc.lit _ rfl); (first | exact Go.Hs.Bc.self _ | exact Go.Hs.Bc.zero | exact Go.Hs.Bc.lit _ rfl); (first | exact Go.Hs.Bc.self _ | exact Go.Hs.Bc.zero | exact Go.Hs.Bc.lit _ rfl); (first | exact Go.Hs.Bc.self _ | exact Go.Hs.Bc.zero | exact Go.Hs.Bc.lit _ rfl); (first | exact Go.Hs.Bc.self _ | exact Go.Hs.Bc.zero | exact Go.Hs.Bc.lit _ rfl); (first | exact Go.Hs.Bc.self _ | exact Go.Hs.Bc.zero | exact Go.Hs.Bc.lit _ rfl); (first | exact Go.Hs.Bc.self _ | exact Go.Hs.Bc.zero | exact Go.Hs.Bc.lit _ rfl); (first | exact Go.Hs.Bc.self _ | exact Go.Hs.Bc.zero | exact Go.Hs.Bc.lit _ rfl); (first | exact Go.Hs.Bc.self _ | exact Go.Hs.Bc.zero | exact Go.Hs.Bc.lit _ rfl); (first | exact Go.Hs.Bc.self _ | exact Go.Hs.Bc.zero | exact Go.Hs.Bc.lit _ rfl); (first | exact Go.Hs.neS_f' (by assumption) | exact Go.Hs.neS_t' (by assumption) | exact Go.Hs.neS_f' rfl | exact Go.Hs.neS_t' (by decide) | exact rfl)))) | (apply Go.Hs.G_load; (first | (apply Go.Hs.R_load1; exact rfl; (repeat' (first | exact Go.Hs.Pick.head _ _ | apply Go.Hs.Pick.tail)); (intro _; exact rfl); exact rfl) | (apply Go.Hs.R_loadN; exact rfl; (repeat' (first | exact Go.Hs.Pick.head _ _ | apply Go.Hs.Pick.tail)); (intro _; exact rfl); (intro _; exact rfl); exact rfl) | (apply Go.Hs.R_loadP; exact rfl; (repeat' (first | exact Go.Hs.mcs | apply Go.Hs.mct)); (intro _; exact rfl); exact rfl) | (apply Go.Hs.R_loadPN; exact rfl; (repeat' (first | exact Go.Hs.mcs | apply Go.Hs.mct)); (intro _; exact rfl); (intro _; exact rfl)) | (apply Go.Hs.R_loadPT; exact rfl; (repeat' (first | exact Go.Hs.mcs | apply Go.Hs.mct)); (intro _; exact rfl); (intro _; exact rfl); exact rfl) | (apply Go.Hs.R_loadPO; exact rfl; (repeat' (first | exact Go.Hs.mcs | apply Go.Hs.mct)); (intro _; exact rfl); exact rfl) | (apply Go.Hs.R_loadPON; exact rfl; (repeat' (first | exact Go.Hs.mcs | apply Go.Hs.mct)); (intro _; exact rfl); (intro _; exact rfl); exact rfl) | (apply Go.Hs.R_loadRow; exact rfl; (repeat' (first | exact Go.Hs.Pick.head _ _ | apply Go.Hs.Pick.tail)); (intro _; exact rfl); (first | omega | (simp only [List.length_take, List.length_drop, List.length_append, List.length_cons, List.length_nil, List.length_map, List.length_replicate]; omega)); (assumption)) | (apply Go.Hs.R_loadRowF; exact rfl; (repeat' (first | exact Go.Hs.Pick.head _ _ | apply Go.Hs.Pick.tail)); (intro _; exact rfl); (assumption)))) | (apply Go.Hs.R_fieldO0; exact rfl; exact rfl; exact rfl; (intro _; exact rfl); exact rfl) | (apply Go.Hs.R_fieldO; exact rfl; exact rfl; exact rfl; (intro _; exact rfl); exact rfl) | (apply Go.Hs.R_not; exact rfl; exact rfl) | (apply Go.Hs.G_call; (first | (apply Go.Hs.R_lenBy; exact rfl; (repeat' (first | exact Go.Hs.mcs | apply Go.Hs.mct)); exact rfl) | (apply Go.Hs.R_lenRow; exact rfl; (repeat' (first | exact Go.Hs.Pick.head _ _ | apply Go.Hs.Pick.tail)); exact rfl) | (apply Go.Hs.R_lenSl; exact rfl; (repeat' (first | exact Go.Hs.mcs | apply Go.Hs.mct)); exact rfl) | (apply Go.Hs.R_lenRw; exact rfl; (repeat' (first | exact Go.Hs.mcs | apply Go.Hs.mct)); exact rfl) | (apply Go.Hs.R_lenNil; exact rfl; exact rfl) | (apply Go.Hs.R_max2; exact rfl; exact rfl; (first | exact if_pos (by omega) | exact if_neg (by omega))) | (apply Go.Hs.R_min2; exact rfl; exact rfl; (first | exact if_pos (by omega) | exact if_neg (by omega))))) | (apply Go.Hs.R_convi; exact rfl; exact rfl; exact rfl; (first | exact Go.Hs.wx_i64 (by omega) | exact Go.Hs.wx_u8 (by omega) | exact Go.Hs.wx_u64 (by omega) | exact Go.Hs.wx_u32 (by omega) | exact Go.Hs.wx_u16 (by omega) | exact Go.Hs.wx_b8 _ | exact rfl)) | (apply Go.Hs.R_toStr; exact rfl; (repeat' (first | exact Go.Hs.mcs | apply Go.Hs.mct)); exact rfl; exact rfl; exact rfl) | (apply Go.Hs.R_toStrRow; exact rfl; (repeat' (first | exact Go.Hs.Pick.head _ _ | apply Go.Hs.Pick.tail)); (first | exact Go.Hs.nil_map | exact Go.Hs.one_map _ | exact Go.Hs.two_map _ _ | exact rfl); exact rfl; exact rfl; exact rfl) | (apply Go.Hs.R_build; exact rfl; (focus (repeat (first | apply Go.Hs.PartsE.nil | (apply Go.Hs.PartsE.cons; (focus (first | (apply Go.Hs.CellsE.lit; exact rfl) | (apply Go.Hs.CellsE.one; (first | (apply Go.Hs.OneC.lit; exact rfl) | (apply Go.Hs.OneC.by_; (repeat' (first | exact Go.Hs.mcs | apply Go.Hs.mct)); done) | (apply Go.Hs.OneC.sl; (repeat' (first | exact Go.Hs.mcs | apply Go.Hs.mct)); done) | (apply Go.Hs.OneC.rw; (repeat' (first | exact Go.Hs.mcs | apply Go.Hs.mct)); done) | (apply Go.Hs.OneC.row; (repeat' (first | exact Go.Hs.Pick.head _ _ | apply Go.Hs.Pick.tail))))))))))); (intro _; exact rfl); exact rfl; exact rfl; (intro _; go_simp; exact rfl); exact rfl) | (apply Go.Hs.R_buildArr; exact rfl; (focus (repeat (first | apply Go.Hs.SeqE.nil | (apply Go.Hs.SeqE.cons; exact rfl; (focus (first | (apply Go.Hs.CellsE.lit; exact rfl) | (apply Go.Hs.CellsE.one; (first | (apply Go.Hs.OneC.lit; exact rfl) | (apply Go.Hs.OneC.by_; (repeat' (first | exact Go.Hs.mcs | apply Go.Hs.mct)); done) | (apply Go.Hs.OneC.sl; (repeat' (first | exact Go.Hs.mcs | apply Go.Hs.mct)); done) | (apply Go.Hs.OneC.rw; (repeat' (first | exact Go.Hs.mcs | apply Go.Hs.mct)); done) | (apply Go.Hs.OneC.row; (repeat' (first | exact Go.Hs.Pick.head _ _ | apply Go.Hs.Pick.tail))))))); exact rfl) | exact rfl))); (intro _; exact rfl); exact rfl; exact rfl; (intro _; exact rfl); exact rfl; exact rfl) | (apply Go.Hs.R_field1; exact rfl; exact rfl; exact rfl; (intro _; exact rfl); exact rfl) | (apply Go.Hs.R_fieldN; exact rfl; exact rfl; exact rfl; (intro _; exact rfl); (intro _; exact rfl); exact rfl) | (apply Go.Hs.R_nilCheck; exact rfl) | (apply Go.Hs.R_makeFunc; exact rfl) | (apply Go.Hs.R_makeFunc1; exact rfl) | (apply Go.Hs.R_idxRow; exact rfl; exact rfl; (repeat' (first | exact Go.Hs.Pick.head _ _ | apply Go.Hs.Pick.tail)); exact rfl; (intro _; exact rfl); (focus (first | exact Go.Hs.lit0 | exact Go.Hs.lit1 | exact Go.Hs.lit2 | exact Go.Hs.lit3 | exact Go.Hs.lit4 | exact Go.Hs.lit5 | exact Go.Hs.lit6 | exact Go.Hs.lit7 | exact Go.Hs.lit8 | exact rfl | (simp; done) | omega)); (first | omega | (simp only [List.length_take, List.length_drop, List.length_append, List.length_cons, List.length_nil, List.length_map, List.length_replicate]; omega))) | (apply Go.Hs.R_fieldRow; exact rfl; (repeat' (first | exact Go.Hs.Pick.head _ _ | apply Go.Hs.Pick.tail)); (first | omega | (simp only [List.length_take, List.length_drop, List.length_append, List.length_cons, List.length_nil, List.length_map, List.length_replicate]; omega)); exact rfl; exact rfl; (intro _; exact rfl); exact rfl) | (apply Go.Hs.R_idxArr; exact rfl; exact rfl; exact rfl; (intro _; exact rfl); (focus (first | exact Go.Hs.lit0 | exact Go.Hs.lit1 | exact Go.Hs.lit2 | exact Go.Hs.lit3 | exact Go.Hs.lit4 | exact Go.Hs.lit5 | exact Go.Hs.lit6 | exact Go.Hs.lit7 | exact Go.Hs.lit8 | exact rfl | (simp; done) | omega)); (first | omega | (simp only [List.length_take, List.length_drop, List.length_append, List.length_cons, List.length_nil, List.length_map, List.length_replicate]; omega))) | (apply Go.Hs.R_sliceArr; exact rfl; exact rfl; (intro _; exact rfl); exact rfl))) : WL C ops (o :: l) fr Γ Φ Q := WL_runs hg hd hn h k
theorem n2 (k : ∀ x, pf x → WL C ops l ((d, vx x) :: fr) (Γ' x) (Φ' x) Q) (hg : gv ops fr o.guard = some true := by exact rfl) (hd : o.dst = some d := by exact rfl) (hn : Nat.blt d C.n = true := by exact rfl)
    (h : Effs C fr Γ Φ o pf vx Γ' Φ' := by (first | (apply Go.Hs.E_alloc; (intro _; exact rfl); exact rfl) | (apply Go.Hs.E_box; exact rfl; (focus (first | (apply Go.Hs.CellsE.lit; exact rfl) | (apply Go.Hs.CellsE.one; (first | (apply Go.Hs.OneC.lit; exact rfl) | (apply Go.Hs.OneC.by_; (repeat' (first | exact Go.Hs.mcs | apply Go.Hs.mct)); done) | (apply Go.Hs.OneC.sl; (repeat' (first | exact Go.Hs.mcs | apply Go.Hs.mct)); done) | (apply Go.Hs.OneC.rw; (repeat' (first | exact Go.Hs.mcs | apply Go.Hs.mct)); done) | (apply Go.Hs.OneC.row; (repeat' (first | exact Go.Hs.Pick.head _ _ | apply Go.Hs.Pick.tail)))))))))) : WL C ops (o :: l) fr Γ Φ Q := WL_effs hg hd hn h k
theorem n3 (k : ∀ x, pf x → WL C ops l fr (Γ' x) (Φ' x) Q) (hg : gv ops fr o.guard = some true := by exact rfl) (hd : o.dst = none := by exact rfl)
    (h : Effs C fr Γ Φ o pf vx Γ' Φ' := by (first | (apply Go.Hs.E_store; exact rfl; exact rfl; (repeat' (first | exact Go.Hs.Pick.head _ _ | apply Go.Hs.Pick.tail)); (focus (first | (apply Go.Hs.CellsE.lit; exact rfl) | (apply Go.Hs.CellsE.one; (first | (apply Go.Hs.OneC.lit; exact rfl) | (apply Go.Hs.OneC.by_; (repeat' (first | exact Go.Hs.mcs | apply Go.Hs.mct)); done) | (apply Go.Hs.OneC.sl; (repeat' (first | exact Go.Hs.mcs | apply Go.Hs.mct)); done) | (apply Go.Hs.OneC.rw; (repeat' (first | exact Go.Hs.mcs | apply Go.Hs.mct)); done) | (apply Go.Hs.OneC.row; (repeat' (first | exact Go.Hs.Pick.head _ _ | apply Go.Hs.Pick.tail))))))); (intro _; exact rfl); (focus (repeat (first | apply Go.Hs.Ones.nil | exact Go.Hs.Ones.bytes | (apply Go.Hs.Ones.cons; (focus (first | (apply Go.Hs.OneC.lit; exact rfl) | (apply Go.Hs.OneC.by_; (repeat' (first | exact Go.Hs.mcs | apply Go.Hs.mct)); done) | (apply Go.Hs.OneC.sl; (repeat' (first | exact Go.Hs.mcs | apply Go.Hs.mct)); done) | (apply Go.Hs.OneC.rw; (repeat' (first | exact Go.Hs.mcs | apply Go.Hs.mct)); done) | (apply Go.Hs.OneC.row; (repeat' (first | exact Go.Hs.Pick.head _ _ | apply Go.Hs.Pick.tail))))))))); exact rfl))) : WL C ops (o :: l) fr Γ Φ Q := WL_do hg hd h k
theorem n4 (k : WL C ops l ((d, v) :: fr) Γ (ψ :: Φ) Q) (hg : gv ops fr o.guard = some true := by exact rfl) (hd : o.dst = some d := by exact rfl) (hn : Nat.blt d C.n = true := by exact rfl)
    (h : Runs C fr Γ Φ o v ∧ Ent Φ ψ := by (first | (apply Go.Hs.R_idxBy; exact rfl; exact rfl; (repeat' (first | exact Go.Hs.mcs | apply Go.Hs.mct)); exact rfl; (intro _; exact rfl); (focus (first | exact Go.Hs.lit0 | exact Go.Hs.lit1 | exact Go.Hs.lit2 | exact Go.Hs.lit3 | exact Go.Hs.lit4 | exact Go.Hs.lit5 | exact Go.Hs.lit6 | exact Go.Hs.lit7 | exact Go.Hs.lit8 | exact rfl | (simp; done) | omega)); (first | omega | (simp only [List.length_take, List.length_drop, List.length_append, List.length_cons, List.length_nil, List.length_map, List.length_replicate]; omega))) | (apply Go.Hs.R_idxRw; exact rfl; exact rfl; (repeat' (first | exact Go.Hs.mcs | apply Go.Hs.mct)); exact rfl; (intro _; exact rfl); (focus (first | exact Go.Hs.lit0 | exact Go.Hs.lit1 | exact Go.Hs.lit2 | exact Go.Hs.lit3 | exact Go.Hs.lit4 | exact Go.Hs.lit5 | exact Go.Hs.lit6 | exact Go.Hs.lit7 | exact Go.Hs.lit8 | exact rfl | (simp; done) | omega)); (first | omega | (simp only [List.length_take, List.length_drop, List.length_append, List.length_cons, List.length_nil, List.length_map, List.length_replicate]; omega)); (first | assumption | exact rfl)) | (apply Go.Hs.R_cutBy; exact rfl; (repeat' (first | exact Go.Hs.mcs | apply Go.Hs.mct)); exact rfl; (intro _; exact rfl); exact rfl; exact rfl; (focus (first | exact Go.Hs.lit0 | exact Go.Hs.lit1 | exact Go.Hs.lit2 | exact Go.Hs.lit3 | exact Go.Hs.lit4 | exact Go.Hs.lit5 | exact Go.Hs.lit6 | exact Go.Hs.lit7 | exact Go.Hs.lit8 | exact rfl | (simp; done) | omega)); (focus (first | exact Go.Hs.lit0 | exact Go.Hs.lit1 | exact Go.Hs.lit2 | exact Go.Hs.lit3 | exact Go.Hs.lit4 | exact Go.Hs.lit5 | exact Go.Hs.lit6 | exact Go.Hs.lit7 | exact Go.Hs.lit8 | exact rfl | (simp; done) | omega)); (first | omega | (simp only [List.length_take, List.length_drop, List.length_append, List.length_cons, List.length_nil, List.length_map, List.length_replicate]; omega)); (first | omega | (simp only [List.length_take, List.length_drop, List.length_append, List.length_cons, List.length_nil, List.length_map, List.length_replicate]; omega)); (focus ((try (conv => lhs; simp only [Nat.add_sub_cancel_left, Nat.sub_zero, List.drop_zero, List.nil_append])); (first | done | exact rfl)))) | (apply Go.Hs.R_fieldP; exact rfl; (repeat' (first | exact Go.Hs.mcs | apply Go.Hs.mct)); exact rfl; exact rfl; (intro _; exact rfl); exact rfl; exact rfl))) : WL C ops (o :: l) fr Γ Φ Q := WL_runsF hg hd hn h k
theorem n5 (k : WL C ops l ((d, undef) :: fr) Γ Φ Q) (hg : gv ops fr o.guard = some false := by exact rfl) (hd : o.dst = some d := by exact rfl) (hn : Nat.blt d C.n = true := by exact rfl) :
    WL C ops (o :: l) fr Γ Φ Q := WL_pass hg hd hn k
theorem n6 {f : FuncId} {args : List Operand} {argTypes : Array TypeId} {vs : List Value} {Φp : List SP} {ty : TypeId} {pos : String} {aft : Array Edge} {g : Option (Nat × Bool)} (hfn : CtD C.P f vs Φp v) (k : WL C ops l ((d, v) :: fr) Γ Φ Q)
    (hg : gv ops fr g = some true := by exact rfl) (hn : Nat.blt d C.n = true := by exact rfl) (ha : evOs fr args = some vs := by exact rfl)
    (hrun : ∀ (aas : Array Value) (w : World), (callFunc f aas).run C.P w = .ok (.enter f aas) w := by (intro _ _; simp)) (hin : AllE Φp Φ := by (first | ((repeat (first | exact Go.Hs.AllE.nil _ | (apply Go.Hs.AllE.cons; (focus (first | exact Go.Hs.ent_nilBy | exact Go.Hs.ent_nilSl | (apply Go.Hs.Ent.mem; repeat' (first | exact Go.Hs.mcs | apply Go.Hs.mct))))))); done) | fail)) : WL C ops (⟨some d, .call { callee := .value (.func f), args := args.toArray, argTypes := argTypes }, ty, pos, aft, g⟩ :: l) fr Γ Φ Q :=
  WL_runs hg rfl hn (R_call ha hrun hfn hin) k
theorem n6v {fn : FuncId} {callee : Operand} {first captured : Array Value} {aas : List Value} {args : List Operand} {argTypes : Array TypeId} {vs : List Value} {Φp : List SP} {ty : TypeId} {pos : String} {aft : Array Edge} {g : Option (Nat × Bool)} (hfn : CtD C.P fn aas Φp v) (k : WL C ops l ((d, v) :: fr) Γ Φ Q)
    (hc : evO fr callee = some (.func (.func fn) first captured) := by exact rfl) (hg : gv ops fr g = some true := by exact rfl) (hn : Nat.blt d C.n = true := by exact rfl) (ha : evOs fr args = some vs := by exact rfl) (has : first.toList ++ vs ++ captured.toList = aas := by exact rfl)
    (hrun : ∀ (aas : Array Value) (w : World), (callFunc fn aas).run C.P w = .ok (.enter fn aas) w := by (intro _ _; simp)) (hin : AllE Φp Φ := by (first | ((repeat (first | exact Go.Hs.AllE.nil _ | (apply Go.Hs.AllE.cons; (focus (first | exact Go.Hs.ent_nilBy | exact Go.Hs.ent_nilSl | (apply Go.Hs.Ent.mem; repeat' (first | exact Go.Hs.mcs | apply Go.Hs.mct))))))); done) | fail)) : WL C ops (⟨some d, .call { callee := .value callee, args := args.toArray, argTypes := argTypes }, ty, pos, aft, g⟩ :: l) fr Γ Φ Q :=
  WL_runs hg rfl hn (R_callG hc ha has hrun hfn hin) k
theorem n7 {c : Operand} {x y : Code} (h : W C x fr Γ Φ Q) (hc : evO fr c = some (.bool true) := by exact rfl) : W C (.cond c x y) fr Γ Φ Q := W_cond_t hc h
theorem n8 {c : Operand} {x y : Code} (h : W C y fr Γ Φ Q) (hc : evO fr c = some (.bool false) := by exact rfl) : W C (.cond c x y) fr Γ Φ Q := W_cond_f hc h
theorem n9 {id i : Nat} (h : WQ C (.exit i) fr Γ Φ Q) (hne : Nat.beq i id = false := by exact rfl) : WQ C (.exit i) fr Γ Φ (Exit.inBlock id Q) := WQ_block_other hne h

theorem p1 (k : PL C ops Γs es us Q π ((d, v) :: fr) Γ Φ) (he : clsOf es us i = 0 := by exact rfl) (ho : lget ops.toList i = some o := by exact rfl) (hg : gv ops fr o.guard = some true := by exact rfl) (hd : o.dst = some d := by exact rfl) (hn : Nat.blt d C.n = true := by exact rfl)
    (h : Runs C fr Γs Φ o v := by (first | (apply Go.Hs.R_move; exact rfl) | (apply Go.Hs.R_assign; exact rfl) | (apply Go.Hs.R_extract; exact rfl; exact rfl) | (apply Go.Hs.R_pick_t; exact rfl; exact rfl) | (apply Go.Hs.R_pick_f; exact rfl; exact rfl) | (apply Go.Hs.G_bin; (first | (apply Go.Hs.R_cmp; exact rfl; exact rfl; exact rfl; (first | exact decide_eq_true (by omega) | exact decide_eq_false (by omega) | exact rfl)) | (apply Go.Hs.R_ari; exact rfl; exact rfl; exact rfl; (first | exact Go.Hs.wx_i64 (by omega) | exact Go.Hs.wx_u8 (by omega) | exact Go.Hs.wx_u64 (by omega) | exact Go.Hs.wx_u32 (by omega) | exact Go.Hs.wx_u16 (by omega) | exact Go.Hs.wx_b8 _ | exact rfl)) | (apply Go.Hs.R_eqB; exact rfl; exact rfl; exact rfl; exact rfl) | (apply Go.Hs.R_neB; exact rfl; exact rfl; exact rfl; exact rfl) | (apply Go.Hs.R_eqS; exact rfl; exact rfl; (first | exact decide_eq_true rfl | exact decide_eq_true (by assumption) | exact decide_eq_false (by assumption) | exact rfl)) | (apply Go.Hs.R_neS; exact rfl; exact rfl; (first | exact Go.Hs.neS_f rfl | exact Go.Hs.neS_f (by assumption) | exact Go.Hs.neS_t (by assumption) | exact rfl)) | (apply Go.Hs.R_addS; exact rfl; exact rfl; (first | omega | (simp only [List.length_take, List.length_drop, List.length_append, List.length_cons, List.length_nil, List.length_map, List.length_replicate]; omega))) | (apply Go.Hs.R_eqA; exact rfl; exact rfl; exact rfl; exact rfl; (first | exact rfl | kernel_rfl); (first | exact rfl | kernel_rfl); (first | exact rfl | kernel_rfl); (first | exact Go.Hs.Bc.self _ | exact Go.Hs.Bc.zero | exact Go.Hs.Bc.lit _ rfl); (first | exact Go.Hs.Bc.self _ | exact Go.Hs.Bc.zero | exact Go.Hs.Bc.lit _ rfl); (first | exact Go.Hs.Bc.self _ | exact Go.Hs.Bc.zero | exact Go.Hs.Bc.lit _ rfl); (first | exact Go.Hs.Bc.self _ | exact Go.Hs.Bc.zero | exact Go.Hs.Bc.lit _ rfl); (first | exact Go.Hs.Bc.self _ | exact Go.Hs.Bc.zero | exact Go.Hs.Bc.lit _ rfl); (first | exact Go.Hs.Bc.self _ | exact Go.Hs.Bc.zero | exact Go.Hs.Bc.lit _ rfl); (first | exact Go.Hs.Bc.self _ | exact Go.Hs.Bc.zero | exact Go.Hs.Bc.lit _ rfl); (first | exact Go.Hs.Bc.self _ | exact Go.Hs.Bc.zero | exact Go.Hs.Bc.lit _ rfl); (first | exact Go.Hs.Bc.self _ | exact Go.Hs.Bc.zero | exact Go.Hs.Bc.lit _ rfl); (first | exact Go.Hs.Bc.self _ | exact Go.Hs.Bc.zero | exact Go.Hs.Bc.lit _ rfl); (first | exact Go.Hs.Bc.self _ | exact Go.Hs.Bc.zero | exact Go.Hs.Bc.lit _ rfl); (first | exact Go.Hs.Bc.self _ | exact Go.Hs.Bc.zero | exact Go.Hs.Bc.lit _ rfl); (first | exact decide_eq_true (by assumption) | exact decide_eq_false (by assumption) | exact decide_eq_true rfl | exact decide_eq_false (by decide) | exact rfl)) | (apply Go.Hs.R_neA; exact rfl; exact rfl; exact rfl; exact rfl; (first | exact rfl | kernel_rfl); (first | exact rfl | kernel_rfl); (first | exact rfl | kernel_rfl); (first | exact Go.Hs.Bc.self _ | exact Go.Hs.Bc.zero | exact Go.Hs.Bc.lit _ rfl); (first | exact Go.Hs.Bc.self _ | exact Go.Hs.Bc.zero | exact Go.Hs.Bc.lit _ rfl); (first | exact Go.Hs.Bc.self _ | exact Go.Hs.Bc.zero | exact Go.Hs.Bc.lit _ rfl); (first | exact Go.Hs.Bc.self _ | exact Go.Hs.Bc.zero | exact Go.Hs.Bc.lit _ rfl); (first | exact Go.Hs.Bc.self _ | exact Go.Hs.Bc.zero | exact Go.Hs.Bc.lit _ rfl); (first | exact Go.Hs.Bc.self _ | exact Go.Hs.Bc.zero | exact Go.Hs.Bc.lit _ rfl); (first | exact Go.Hs.Bc.self _ | exact Go.Hs.Bc.zero | exact Go.Hs.Bc.lit _ rfl); (first | exact Go.Hs.Bc.self _ | exact Go.Hs.Bc.zero | exact Go.Hs.Bc.lit _ rfl); (first | exact Go.Hs.Bc.self _ | exact Go.Hs.Bc.zero | exact Go.Hs.Bc.lit _ rfl); (first | exact Go.Hs.Bc.self _ | exact Go.Hs.Bc.zero | exact Go.Hs.Bc.lit _ rfl); (first | exact Go.Hs.Bc.self _ | exact Go.Hs.Bc.zero | exact Go.Hs.Bc.lit _ rfl); (first | exact Go.Hs.Bc.self _ | exact Go.Hs.Bc.zero | exact Go.Hs.Bc.lit _ rfl); (first | exact Go.Hs.neS_f' (by assumption) | exact Go.Hs.neS_t' (by assumption) | exact Go.Hs.neS_f' rfl | exact Go.Hs.neS_t' (by decide) | exact rfl)))) | (apply Go.Hs.G_load; (first | (apply Go.Hs.R_load1; exact rfl; (repeat' (first | exact Go.Hs.Pick.head _ _ | apply Go.Hs.Pick.tail)); (intro _; exact rfl); exact rfl) | (apply Go.Hs.R_loadN; exact rfl; (repeat' (first | exact Go.Hs.Pick.head _ _ | apply Go.Hs.Pick.tail)); (intro _; exact rfl); (intro _; exact rfl); exact rfl) | (apply Go.Hs.R_loadP; exact rfl; (repeat' (first | exact Go.Hs.mcs | apply Go.Hs.mct)); (intro _; exact rfl); exact rfl) | (apply Go.Hs.R_loadPN; exact rfl; (repeat' (first | exact Go.Hs.mcs | apply Go.Hs.mct)); (intro _; exact rfl); (intro _; exact rfl)) | (apply Go.Hs.R_loadPT; exact rfl; (repeat' (first | exact Go.Hs.mcs | apply Go.Hs.mct)); (intro _; exact rfl); (intro _; exact rfl); exact rfl) | (apply Go.Hs.R_loadPO; exact rfl; (repeat' (first | exact Go.Hs.mcs | apply Go.Hs.mct)); (intro _; exact rfl); exact rfl) | (apply Go.Hs.R_loadPON; exact rfl; (repeat' (first | exact Go.Hs.mcs | apply Go.Hs.mct)); (intro _; exact rfl); (intro _; exact rfl); exact rfl) | (apply Go.Hs.R_loadRow; exact rfl; (repeat' (first | exact Go.Hs.Pick.head _ _ | apply Go.Hs.Pick.tail)); (intro _; exact rfl); (first | omega | (simp only [List.length_take, List.length_drop, List.length_append, List.length_cons, List.length_nil, List.length_map, List.length_replicate]; omega)); (assumption)) | (apply Go.Hs.R_loadRowF; exact rfl; (repeat' (first | exact Go.Hs.Pick.head _ _ | apply Go.Hs.Pick.tail)); (intro _; exact rfl); (assumption)))) | (apply Go.Hs.R_fieldO0; exact rfl; exact rfl; exact rfl; (intro _; exact rfl); exact rfl) | (apply Go.Hs.R_fieldO; exact rfl; exact rfl; exact rfl; (intro _; exact rfl); exact rfl) | (apply Go.Hs.R_not; exact rfl; exact rfl) | (apply Go.Hs.G_call; (first | (apply Go.Hs.R_lenBy; exact rfl; (repeat' (first | exact Go.Hs.mcs | apply Go.Hs.mct)); exact rfl) | (apply Go.Hs.R_lenRow; exact rfl; (repeat' (first | exact Go.Hs.Pick.head _ _ | apply Go.Hs.Pick.tail)); exact rfl) | (apply Go.Hs.R_lenSl; exact rfl; (repeat' (first | exact Go.Hs.mcs | apply Go.Hs.mct)); exact rfl) | (apply Go.Hs.R_lenRw; exact rfl; (repeat' (first | exact Go.Hs.mcs | apply Go.Hs.mct)); exact rfl) | (apply Go.Hs.R_lenNil; exact rfl; exact rfl) | (apply Go.Hs.R_max2; exact rfl; exact rfl; (first | exact if_pos (by omega) | exact if_neg (by omega))) | (apply Go.Hs.R_min2; exact rfl; exact rfl; (first | exact if_pos (by omega) | exact if_neg (by omega))))) | (apply Go.Hs.R_convi; exact rfl; exact rfl; exact rfl; (first | exact Go.Hs.wx_i64 (by omega) | exact Go.Hs.wx_u8 (by omega) | exact Go.Hs.wx_u64 (by omega) | exact Go.Hs.wx_u32 (by omega) | exact Go.Hs.wx_u16 (by omega) | exact Go.Hs.wx_b8 _ | exact rfl)) | (apply Go.Hs.R_toStr; exact rfl; (repeat' (first | exact Go.Hs.mcs | apply Go.Hs.mct)); exact rfl; exact rfl; exact rfl) | (apply Go.Hs.R_toStrRow; exact rfl; (repeat' (first | exact Go.Hs.Pick.head _ _ | apply Go.Hs.Pick.tail)); (first | exact Go.Hs.nil_map | exact Go.Hs.one_map _ | exact Go.Hs.two_map _ _ | exact rfl); exact rfl; exact rfl; exact rfl) | (apply Go.Hs.R_build; exact rfl; (focus (repeat (first | apply Go.Hs.PartsE.nil | (apply Go.Hs.PartsE.cons; (focus (first | (apply Go.Hs.CellsE.lit; exact rfl) | (apply Go.Hs.CellsE.one; (first | (apply Go.Hs.OneC.lit; exact rfl) | (apply Go.Hs.OneC.by_; (repeat' (first | exact Go.Hs.mcs | apply Go.Hs.mct)); done) | (apply Go.Hs.OneC.sl; (repeat' (first | exact Go.Hs.mcs | apply Go.Hs.mct)); done) | (apply Go.Hs.OneC.rw; (repeat' (first | exact Go.Hs.mcs | apply Go.Hs.mct)); done) | (apply Go.Hs.OneC.row; (repeat' (first | exact Go.Hs.Pick.head _ _ | apply Go.Hs.Pick.tail))))))))))); (intro _; exact rfl); exact rfl; exact rfl; (intro _; go_simp; exact rfl); exact rfl) | (apply Go.Hs.R_buildArr; exact rfl; (focus (repeat (first | apply Go.Hs.SeqE.nil | (apply Go.Hs.SeqE.cons; exact rfl; (focus (first | (apply Go.Hs.CellsE.lit; exact rfl) | (apply Go.Hs.CellsE.one; (first | (apply Go.Hs.OneC.lit; exact rfl) | (apply Go.Hs.OneC.by_; (repeat' (first | exact Go.Hs.mcs | apply Go.Hs.mct)); done) | (apply Go.Hs.OneC.sl; (repeat' (first | exact Go.Hs.mcs | apply Go.Hs.mct)); done) | (apply Go.Hs.OneC.rw; (repeat' (first | exact Go.Hs.mcs | apply Go.Hs.mct)); done) | (apply Go.Hs.OneC.row; (repeat' (first | exact Go.Hs.Pick.head _ _ | apply Go.Hs.Pick.tail))))))); exact rfl) | exact rfl))); (intro _; exact rfl); exact rfl; exact rfl; (intro _; exact rfl); exact rfl; exact rfl) | (apply Go.Hs.R_field1; exact rfl; exact rfl; exact rfl; (intro _; exact rfl); exact rfl) | (apply Go.Hs.R_fieldN; exact rfl; exact rfl; exact rfl; (intro _; exact rfl); (intro _; exact rfl); exact rfl) | (apply Go.Hs.R_nilCheck; exact rfl) | (apply Go.Hs.R_makeFunc; exact rfl) | (apply Go.Hs.R_makeFunc1; exact rfl) | (apply Go.Hs.R_idxRow; exact rfl; exact rfl; (repeat' (first | exact Go.Hs.Pick.head _ _ | apply Go.Hs.Pick.tail)); exact rfl; (intro _; exact rfl); (focus (first | exact Go.Hs.lit0 | exact Go.Hs.lit1 | exact Go.Hs.lit2 | exact Go.Hs.lit3 | exact Go.Hs.lit4 | exact Go.Hs.lit5 | exact Go.Hs.lit6 | exact Go.Hs.lit7 | exact Go.Hs.lit8 | exact rfl | (simp; done) | omega)); (first | omega | (simp only [List.length_take, List.length_drop, List.length_append, List.length_cons, List.length_nil, List.length_map, List.length_replicate]; omega))) | (apply Go.Hs.R_fieldRow; exact rfl; (repeat' (first | exact Go.Hs.Pick.head _ _ | apply Go.Hs.Pick.tail)); (first | omega | (simp only [List.length_take, List.length_drop, List.length_append, List.length_cons, List.length_nil, List.length_map, List.length_replicate]; omega)); exact rfl; exact rfl; (intro _; exact rfl); exact rfl) | (apply Go.Hs.R_idxArr; exact rfl; exact rfl; exact rfl; (intro _; exact rfl); (focus (first | exact Go.Hs.lit0 | exact Go.Hs.lit1 | exact Go.Hs.lit2 | exact Go.Hs.lit3 | exact Go.Hs.lit4 | exact Go.Hs.lit5 | exact Go.Hs.lit6 | exact Go.Hs.lit7 | exact Go.Hs.lit8 | exact rfl | (simp; done) | omega)); (first | omega | (simp only [List.length_take, List.length_drop, List.length_append, List.length_cons, List.length_nil, List.length_map, List.length_replicate]; omega))) | (apply Go.Hs.R_sliceArr; exact rfl; exact rfl; (intro _; exact rfl); exact rfl))) : PL C ops Γs es us Q (i :: π) fr Γ Φ := PL_runs he ho hg hd hn h k
theorem p2 (k : ∀ x, pf x → PL C ops Γs es us Q π ((d, vx x) :: fr) (Γ' x) (Φ' x)) (he : clsOf es us i = 1 := by exact rfl) (ho : lget ops.toList i = some o := by exact rfl) (hg : gv ops fr o.guard = some true := by exact rfl) (hd : o.dst = some d := by exact rfl) (hn : Nat.blt d C.n = true := by exact rfl)
    (h : Effs C fr Γ Φ o pf vx Γ' Φ' := by (first | (apply Go.Hs.E_alloc; (intro _; exact rfl); exact rfl) | (apply Go.Hs.E_box; exact rfl; (focus (first | (apply Go.Hs.CellsE.lit; exact rfl) | (apply Go.Hs.CellsE.one; (first | (apply Go.Hs.OneC.lit; exact rfl) | (apply Go.Hs.OneC.by_; (repeat' (first | exact Go.Hs.mcs | apply Go.Hs.mct)); done) | (apply Go.Hs.OneC.sl; (repeat' (first | exact Go.Hs.mcs | apply Go.Hs.mct)); done) | (apply Go.Hs.OneC.rw; (repeat' (first | exact Go.Hs.mcs | apply Go.Hs.mct)); done) | (apply Go.Hs.OneC.row; (repeat' (first | exact Go.Hs.Pick.head _ _ | apply Go.Hs.Pick.tail)))))))))) (hs : ∀ x, SubO (Γ' x) Γs := by (intro _; (first | ((repeat (first | exact Go.Hs.SubO.nil _ | (apply Go.Hs.SubO.cons; (focus (repeat' (first | exact Go.Hs.Pick.head _ _ | apply Go.Hs.Pick.tail)))))); done) | fail))) : PL C ops Γs es us Q (i :: π) fr Γ Φ := PL_effs he ho hg hd hn h hs k
theorem p3 (k : ∀ x, pf x → PL C ops Γs es us Q π fr (Γ' x) (Φ' x)) (he : clsOf es us i = 1 := by exact rfl) (ho : lget ops.toList i = some o := by exact rfl) (hg : gv ops fr o.guard = some true := by exact rfl) (hd : o.dst = none := by exact rfl)
    (h : Effs C fr Γ Φ o pf vx Γ' Φ' := by (first | (apply Go.Hs.E_store; exact rfl; exact rfl; (repeat' (first | exact Go.Hs.Pick.head _ _ | apply Go.Hs.Pick.tail)); (focus (first | (apply Go.Hs.CellsE.lit; exact rfl) | (apply Go.Hs.CellsE.one; (first | (apply Go.Hs.OneC.lit; exact rfl) | (apply Go.Hs.OneC.by_; (repeat' (first | exact Go.Hs.mcs | apply Go.Hs.mct)); done) | (apply Go.Hs.OneC.sl; (repeat' (first | exact Go.Hs.mcs | apply Go.Hs.mct)); done) | (apply Go.Hs.OneC.rw; (repeat' (first | exact Go.Hs.mcs | apply Go.Hs.mct)); done) | (apply Go.Hs.OneC.row; (repeat' (first | exact Go.Hs.Pick.head _ _ | apply Go.Hs.Pick.tail))))))); (intro _; exact rfl); (focus (repeat (first | apply Go.Hs.Ones.nil | exact Go.Hs.Ones.bytes | (apply Go.Hs.Ones.cons; (focus (first | (apply Go.Hs.OneC.lit; exact rfl) | (apply Go.Hs.OneC.by_; (repeat' (first | exact Go.Hs.mcs | apply Go.Hs.mct)); done) | (apply Go.Hs.OneC.sl; (repeat' (first | exact Go.Hs.mcs | apply Go.Hs.mct)); done) | (apply Go.Hs.OneC.rw; (repeat' (first | exact Go.Hs.mcs | apply Go.Hs.mct)); done) | (apply Go.Hs.OneC.row; (repeat' (first | exact Go.Hs.Pick.head _ _ | apply Go.Hs.Pick.tail))))))))); exact rfl))) (hs : ∀ x, SubO (Γ' x) Γs := by (intro _; (first | ((repeat (first | exact Go.Hs.SubO.nil _ | (apply Go.Hs.SubO.cons; (focus (repeat' (first | exact Go.Hs.Pick.head _ _ | apply Go.Hs.Pick.tail)))))); done) | fail))) : PL C ops Γs es us Q (i :: π) fr Γ Φ := PL_do he ho hg hd h hs k
theorem p4 (k : PL C ops Γs es us Q π ((d, v) :: fr) Γ (ψ :: Φ)) (he : clsOf es us i = 0 := by exact rfl) (ho : lget ops.toList i = some o := by exact rfl) (hg : gv ops fr o.guard = some true := by exact rfl) (hd : o.dst = some d := by exact rfl) (hn : Nat.blt d C.n = true := by exact rfl)
    (h : Runs C fr Γs Φ o v ∧ Ent Φ ψ := by (first | (apply Go.Hs.R_idxBy; exact rfl; exact rfl; (repeat' (first | exact Go.Hs.mcs | apply Go.Hs.mct)); exact rfl; (intro _; exact rfl); (focus (first | exact Go.Hs.lit0 | exact Go.Hs.lit1 | exact Go.Hs.lit2 | exact Go.Hs.lit3 | exact Go.Hs.lit4 | exact Go.Hs.lit5 | exact Go.Hs.lit6 | exact Go.Hs.lit7 | exact Go.Hs.lit8 | exact rfl | (simp; done) | omega)); (first | omega | (simp only [List.length_take, List.length_drop, List.length_append, List.length_cons, List.length_nil, List.length_map, List.length_replicate]; omega))) | (apply Go.Hs.R_idxRw; exact rfl; exact rfl; (repeat' (first | exact Go.Hs.mcs | apply Go.Hs.mct)); exact rfl; (intro _; exact rfl); (focus (first | exact Go.Hs.lit0 | exact Go.Hs.lit1 | exact Go.Hs.lit2 | exact Go.Hs.lit3 | exact Go.Hs.lit4 | exact Go.Hs.lit5 | exact Go.Hs.lit6 | exact Go.Hs.lit7 | exact Go.Hs.lit8 | exact rfl | (simp; done) | omega)); (first | omega | (simp only [List.length_take, List.length_drop, List.length_append, List.length_cons, List.length_nil, List.length_map, List.length_replicate]; omega)); (first | assumption | exact rfl)) | (apply Go.Hs.R_cutBy; exact rfl; (repeat' (first | exact Go.Hs.mcs | apply Go.Hs.mct)); exact rfl; (intro _; exact rfl); exact rfl; exact rfl; (focus (first | exact Go.Hs.lit0 | exact Go.Hs.lit1 | exact Go.Hs.lit2 | exact Go.Hs.lit3 | exact Go.Hs.lit4 | exact Go.Hs.lit5 | exact Go.Hs.lit6 | exact Go.Hs.lit7 | exact Go.Hs.lit8 | exact rfl | (simp; done) | omega)); (focus (first | exact Go.Hs.lit0 | exact Go.Hs.lit1 | exact Go.Hs.lit2 | exact Go.Hs.lit3 | exact Go.Hs.lit4 | exact Go.Hs.lit5 | exact Go.Hs.lit6 | exact Go.Hs.lit7 | exact Go.Hs.lit8 | exact rfl | (simp; done) | omega)); (first | omega | (simp only [List.length_take, List.length_drop, List.length_append, List.length_cons, List.length_nil, List.length_map, List.length_replicate]; omega)); (first | omega | (simp only [List.length_take, List.length_drop, List.length_append, List.length_cons, List.length_nil, List.length_map, List.length_replicate]; omega)); (focus ((try (conv => lhs; simp only [Nat.add_sub_cancel_left, Nat.sub_zero, List.drop_zero, List.nil_append])); (first | done | exact rfl)))) | (apply Go.Hs.R_fieldP; exact rfl; (repeat' (first | exact Go.Hs.mcs | apply Go.Hs.mct)); exact rfl; exact rfl; (intro _; exact rfl); exact rfl; exact rfl))) : PL C ops Γs es us Q (i :: π) fr Γ Φ := PL_runsF he ho hg hd hn h k
theorem p5 (k : PL C ops Γs es us Q π ((d, undef) :: fr) Γ Φ) (he : clsOf es us i = 0 := by exact rfl) (ho : lget ops.toList i = some o := by exact rfl) (hg : gv ops fr o.guard = some false := by exact rfl) (hd : o.dst = some d := by exact rfl) (hn : Nat.blt d C.n = true := by exact rfl) :
    PL C ops Γs es us Q (i :: π) fr Γ Φ := PL_pass he ho hg hd hn k
theorem p7 {t ty : TypeId} {pos : String} {aft : Array Edge} {z : Value} {cs : List Value} (k : ∀ b, PL C ops Γs es us Q π ((d, .pointer (some ⟨b, 0, none⟩)) :: fr) (.blk b t cs :: Γ) Φ) (he : clsOf es us i = 2 := by exact rfl) (ho : lget ops.toList i = some ⟨some d, .alloc t, ty, pos, aft, none⟩ := by exact rfl) (hn : Nat.blt d C.n = true := by exact rfl)
    (hz : ∀ w, (zeroValue t).run C.P w = .ok z w := by (intro _; exact rfl)) (hcs : listO z.cells.toList = some cs := by exact rfl) : PL C ops Γs es us Q (i :: π) fr Γ Φ :=
  PL_new he ho hn hz hcs k
end
end Go.Hs

/-
  Contracts of the functions of layer 1: reading.
-/
namespace Go.Proofs.Ytoohgnegoaoleaa.C01
open Go Go.RowKit Go.Hs
attribute [local irreducible] WL W WQ PL Runs Effs AllE Ent SubO FrIn Pick OneC Ones CellsE PartsE SeqE UZ By Sl Pt Ct

def okE (len : Nat) (at_ : Int) : Int := if 0 ≤ at_ ∧ at_ ≤ len then 0 else 8

set_option maxRecDepth 100000 in
theorem check_fn (dv : Value) (xs : List UInt8) (at_ : Int) : CtD Try.prog 100 [.agg #[dv, .int .i64 at_]] [By dv xs] (.int .i64 (okE xs.length at_)) := by
  by_cases h1 : at_ < 0
  · rw [show okE xs.length at_ = 8 from if_neg (by omega)]
    refine Ct_intro Try.func100 rfl Try.ntmps100 (by simp) _ rfl (fun w0 O0 => ?_)
    repeat (first | refine n1 ?_ | refine n2 (fun b _ => ?_) | refine n3 (fun _ _ => ?_) | refine n4 ?_ | refine n5 ?_ | refine WL_nil ?_ | refine W_seq ?_ | refine W_region ?_ | refine n7 ?_ | refine n8 ?_ | refine W_block ?_ | refine W_skip ?_ | refine W_ret ?_ | refine W_exit ?_ | refine WQ_then ?_ | refine WQ_then_ret ?_ | refine WQ_then_exit ?_ | refine WQ_block_normal ?_ | refine WQ_block_ret ?_ | refine WQ_block_exit ?_ | refine n9 ?_)
    ((apply ret1 Try.results100 ( ())); (focus (first | trivial | assumption | omega)); (focus (first | exact RV_tmp rfl | (apply RV_cellN; exact rfl; (repeat' (first | exact Pick.head _ _ | apply Pick.tail)); (intro _; exact rfl); (intro _; exact rfl); exact rfl) | (apply RV_cell1; exact rfl; (repeat' (first | exact Pick.head _ _ | apply Pick.tail)); (intro _; exact rfl); exact rfl)));  (focus (first | exact rfl | (simp; done))); (focus (repeat (first | exact SubO.nil _ | (apply SubO.cons; (focus (repeat' (first | exact Pick.head _ _ | apply Pick.tail))))))); (focus (repeat (first | exact AllE.nil _ | (apply AllE.cons; (focus (first | exact ent_nilBy | exact ent_nilSl | (apply Ent.mem; repeat' (first | exact mcs | apply mct)))))))))
  · by_cases h2 : at_ ≤ xs.length
    · rw [show okE xs.length at_ = 0 from if_pos (by omega)]
      refine Ct_intro Try.func100 rfl Try.ntmps100 (by simp) _ rfl (fun w0 O0 => ?_)
      repeat (first | refine n1 ?_ | refine n2 (fun b _ => ?_) | refine n3 (fun _ _ => ?_) | refine n4 ?_ | refine n5 ?_ | refine WL_nil ?_ | refine W_seq ?_ | refine W_region ?_ | refine n7 ?_ | refine n8 ?_ | refine W_block ?_ | refine W_skip ?_ | refine W_ret ?_ | refine W_exit ?_ | refine WQ_then ?_ | refine WQ_then_ret ?_ | refine WQ_then_exit ?_ | refine WQ_block_normal ?_ | refine WQ_block_ret ?_ | refine WQ_block_exit ?_ | refine n9 ?_)
      ((apply ret1 Try.results100 ( ())); (focus (first | trivial | assumption | omega)); (focus (first | exact RV_tmp rfl | (apply RV_cellN; exact rfl; (repeat' (first | exact Pick.head _ _ | apply Pick.tail)); (intro _; exact rfl); (intro _; exact rfl); exact rfl) | (apply RV_cell1; exact rfl; (repeat' (first | exact Pick.head _ _ | apply Pick.tail)); (intro _; exact rfl); exact rfl)));  (focus (first | exact rfl | (simp; done))); (focus (repeat (first | exact SubO.nil _ | (apply SubO.cons; (focus (repeat' (first | exact Pick.head _ _ | apply Pick.tail))))))); (focus (repeat (first | exact AllE.nil _ | (apply AllE.cons; (focus (first | exact ent_nilBy | exact ent_nilSl | (apply Ent.mem; repeat' (first | exact mcs | apply mct)))))))))
    · rw [show okE xs.length at_ = 8 from if_neg (by omega)]
      refine Ct_intro Try.func100 rfl Try.ntmps100 (by simp) _ rfl (fun w0 O0 => ?_)
      repeat (first | refine n1 ?_ | refine n2 (fun b _ => ?_) | refine n3 (fun _ _ => ?_) | refine n4 ?_ | refine n5 ?_ | refine WL_nil ?_ | refine W_seq ?_ | refine W_region ?_ | refine n7 ?_ | refine n8 ?_ | refine W_block ?_ | refine W_skip ?_ | refine W_ret ?_ | refine W_exit ?_ | refine WQ_then ?_ | refine WQ_then_ret ?_ | refine WQ_then_exit ?_ | refine WQ_block_normal ?_ | refine WQ_block_ret ?_ | refine WQ_block_exit ?_ | refine n9 ?_)
      ((apply ret1 Try.results100 ( ())); (focus (first | trivial | assumption | omega)); (focus (first | exact RV_tmp rfl | (apply RV_cellN; exact rfl; (repeat' (first | exact Pick.head _ _ | apply Pick.tail)); (intro _; exact rfl); (intro _; exact rfl); exact rfl) | (apply RV_cell1; exact rfl; (repeat' (first | exact Pick.head _ _ | apply Pick.tail)); (intro _; exact rfl); exact rfl)));  (focus (first | exact rfl | (simp; done))); (focus (repeat (first | exact SubO.nil _ | (apply SubO.cons; (focus (repeat' (first | exact Pick.head _ _ | apply Pick.tail))))))); (focus (repeat (first | exact AllE.nil _ | (apply AllE.cons; (focus (first | exact ent_nilBy | exact ent_nilSl | (apply Ent.mem; repeat' (first | exact mcs | apply mct)))))))))

def tkE (len : Nat) (at_ n : Int) : Int := if ¬ (0 ≤ at_ ∧ at_ ≤ len) then 8 else if n < 0 then 2 else if len - at_ < n then 10 else 0
def tkB (xs : List UInt8) (at_ n : Int) : List UInt8 := if tkE xs.length at_ n = 0 then (xs.drop at_.toNat).take n.toNat else []
def tkD (xs : List UInt8) (at_ n : Int) : List UInt8 := if tkE xs.length at_ n = 0 then xs else []
def tkA (len : Nat) (at_ n : Int) : Int := if tkE len at_ n = 0 then at_ + n else 0

end Go.Proofs.Ytoohgnegoaoleaa.C01

/-
  Arrays in own blocks, elements of own rows, calls of function values. No program is named here.
-/
namespace Go.Hs
open Go Go.RowKit

section
variable {C : Ctx} {fr : Fr} {Γ Γ' Γ1 : List OA} {Φ : List SP}
  {d : Nat} {ty : TypeId} {pos : String} {aft : Array Edge} {g : Option (Nat × Bool)}

theorem R_idxArr {t e : TypeId} {x y : Operand} {b len i : Nat} {kd : IntKind} {ii : Int} (hx : evO fr x = some (.pointer (some ⟨b, 0, none⟩))) (hy : evO fr y = some (.int kd ii))
    (ht : C.P.underlying t = some (.array len e)) (hs : ∀ w, (sizeOf e).run C.P w = .ok 1 w) (hii : ii = (i : Int)) (hi : i < len) :
    Runs C fr Γ Φ ⟨some d, .indexAddr t x y, ty, pos, aft, g⟩ (.pointer (some ⟨b, i, none⟩)) := by
  subst hii
  refine Runs.pure fun a w ha hw => ?_
  have h2 : (i : Int) < (len : Int) := by omega
  simp [execOp, evO_sound ha hx, evO_sound ha hy, Instr.indexAt, asIntOf, run_underlying ht, Instr.sureAddr, hs, hi, Addr.add_lit]

/-- an element's address in an own row. -/
theorem R_idxRow {t e rt : TypeId} {x y : Operand} {v : Value} {size n : Nat} {xs : List Value} {kd : IntKind} {ii : Int} {i : Nat} (hx : evO fr x = some v) (hy : evO fr y = some (.int kd ii)) (hp : Pick (.row v rt size n xs) Γ Γ')
    (ht : C.P.underlying t = some (.slice e)) (hs : ∀ w, (sizeOf e).run C.P w = .ok size w) (hii : ii = (i : Int)) (hi : i < n) :
    Runs C fr Γ Φ ⟨some d, .indexAddr t x y, ty, pos, aft, g⟩ (idxV size i v) := by
  subst hii
  refine Runs.pure fun a w ha hw => ?_
  have hown := (pick_holds hp hw).own.1
  rcases hown with ⟨hl, h2⟩
  rcases h2 with ⟨h2, _⟩ | ⟨b, cap, cur, hv, _, hb, hc, hm, hsz, htk⟩
  · omega
  · simp [execOp, evO_sound ha hx, evO_sound ha hy, hv, run_indexAt_some ht hs hi, idxV]

/-- a one-cell element of an own row is loaded. -/
theorem R_loadRow {t rt : TypeId} {x : Operand} {v u : Value} {n i : Nat} {xs : List Value} (hx : evO fr x = some (idxV 1 i v)) (hp : Pick (.row v rt 1 n xs) Γ Γ') (hagg : ∀ w, (isAgg t).run C.P w = .ok false w)
    (hi : i < n) (hc : xs[i]? = some u) : Runs C fr Γ Φ ⟨some d, .load t x, ty, pos, aft, g⟩ u := by
  refine Runs.pure fun a w ha hw => ?_
  have hown := (pick_holds hp hw).own.1
  rcases hown with ⟨hl, h2⟩
  rcases h2 with ⟨h2, _⟩ | ⟨b, cap, cur, hv, _, hb, hcc, hm, hsz, htk⟩
  · omega
  · subst hv
    have h0 : w.cell? ((⟨b, 0, none⟩ : Addr).add i) = some u := by
      rw [Addr.add_lit, Nat.zero_add]
      rw [← htk, List.getElem?_take_of_lt (by omega)] at hc
      simp only [World.cell?, hb]
      simpa using hc
    simp [execOp, evO_sound ha hx, idxV, Instr.loadAt, Instr.sureAddr, run_loadVar_one hagg h0]

end

section
variable {C : Ctx} {ops : Array Oper} {l : List Oper} {fr : Fr} {Γ Γ1 : List OA} {Φ : List SP} {Q : Exit → Act → World → Prop}
/-- nothing, told as an own row. -/
theorem Holds.nilRow {w : World} (t : TypeId) (size : Nat) (h : Holds C Γ Φ w) : Holds C (.row (.slice none 0 0) t size 0 [] :: Γ) Φ w := by
  have hf : ∀ k, ¬ (OA.row (.slice none 0 0) t size 0 []).fp k := fun k (e : (none : Option Nat) = some k) => by cases e
  refine h.move (Mod.refl _ _) ⟨⟨by simp, .inl ⟨rfl, rfl⟩⟩, fun k hk => (hf k hk).elim, h.own⟩ fun k _ hk => ?_
  rcases fpL_cons.1 hk with e | e
  · exact (hf k e).elim
  · exact e
theorem W_nilRow {c : Code} (t : TypeId) (size : Nat) (h : W C c fr (.row (.slice none 0 0) t size 0 [] :: Γ) Φ Q) : W C c fr Γ Φ Q := fun a w ha hw => h a w ha (hw.nilRow t size)
theorem WL_nilRow (t : TypeId) (size : Nat) (h : WL C ops l fr (.row (.slice none 0 0) t size 0 [] :: Γ) Φ Q) : WL C ops l fr Γ Φ Q := fun a w ha hw => h a w ha (hw.nilRow t size)
theorem WQ_nilRow {e : Exit} (t : TypeId) (size : Nat) (h : WQ C e fr (.row (.slice none 0 0) t size 0 [] :: Γ) Φ Q) : WQ C e fr Γ Φ Q := fun a w ha hw => h a w ha (hw.nilRow t size)

theorem WL_letgo {v : Value} {t : TypeId} {size n : Nat} {xs : List Value} (hp : Pick (.row v t size n xs) Γ Γ1) (h : WL C ops l fr Γ1 (Sl size v n xs :: Φ) Q) : WL C ops l fr Γ Φ Q := fun a w ha hw => h a w ha (pick_holds hp hw).letgo
theorem WQ_letgo {e : Exit} {v : Value} {t : TypeId} {size n : Nat} {xs : List Value} (hp : Pick (.row v t size n xs) Γ Γ1) (h : WQ C e fr Γ1 (Sl size v n xs :: Φ) Q) : WQ C e fr Γ Φ Q := fun a w ha hw => h a w ha (pick_holds hp hw).letgo
end

section
variable {C : Ctx} {fr : Fr} {Γ Γ' : List OA} {Φ : List SP} {d : Nat} {ty : TypeId} {pos : String} {aft : Array Edge} {g : Option (Nat × Bool)}

end
end Go.Hs

/-
  A range over a function: the loop's own walk, the function's, and where it ends. No program is named here.
-/
namespace Go.Hs
open Go Go.RowKit

/-- several own things as one. -/
def pk (Γ : List OA) : OA := .abs ⟨fpL Γ, Own Γ, fun h => Own.lt h, fun h k => h.keep k⟩
/-- a block that is no cells. -/
def ob (b : Nat) (o : Obj) : OA := .abs ⟨fun k => k = b, fun w => w.heap[b]? = some o, fun h _ e => by subst e; exact (Array.getElem?_eq_some_iff.1 h).1, fun h hk => (hk b (Array.getElem?_eq_some_iff.1 h).1 rfl).trans h⟩
/-- several lasting facts as one. -/
def cj (Φ : List SP) : SP := ⟨fun w O => ∀ ψ ∈ Φ, ψ.p w O, fun h hm ho ψ hψ => ψ.st (h ψ hψ) hm ho⟩

theorem Own.pk {Γ Δ : List OA} {w : World} : Own (pk Γ :: Δ) w ↔ Own (Γ ++ Δ) w := by
  rw [Own.append]
  constructor
  · rintro ⟨h1, h2, h3⟩
    exact ⟨h1, h3, h2⟩
  · rintro ⟨h1, h2, h3⟩
    exact ⟨h1, h3, h2⟩
theorem fpL_pk {Γ Δ : List OA} {k : Nat} : fpL (pk Γ :: Δ) k ↔ fpL (Γ ++ Δ) k := by
  rw [fpL_cons, fpL_append]
  exact Iff.rfl

/-- what a call of yield comes to: with these arguments, where it is handed Γ and Φ holds. -/
def Yc (P : Program) (l : Nat) (args : List Value) (Γ : List OA) (Φ : List SP) {X : Type} (pf : X → Prop) (ret : X → Value) (Γ' : X → List OA) (Φ' : X → List SP) : Prop :=
  ∀ w O0, (∀ k, O0 k → k < w.heap.size ∧ ¬ fpL Γ k) → Own Γ w → (∀ ψ ∈ Φ, ψ.p w (avo O0 Γ)) →
    ∃ fn tmps assign body, (Instr.yield l args.toArray).run P w = .ok (.round l fn tmps assign body) w ∧ RoundIn Fence.wide 0 P l fn tmps assign body w (FnPost w O0 (fpL Γ) pf ret Γ' Φ')

section
variable {C : Ctx} {fr : Fr} {Γ : List OA} {Φ : List SP} {ty : TypeId} {pos : String} {aft : Array Edge} {g : Option (Nat × Bool)}

theorem E_yield {dst : Option Tmp} {callee : Operand} {l : Nat} {args : List Operand} {argTypes : Array TypeId} {vs : List Value}
    {Γp Γr : List OA} {Φp : List SP} {X : Type} {pf : X → Prop} {ret : X → Value} {Γ' : X → List OA} {Φ' : X → List SP} {Γ'' : X → List OA} {Φ'' : X → List SP}
    (hc : evO fr callee = some (.func (.yield l) #[] #[])) (ha : evOs fr args = some vs)
    (hfn : Yc C.P l vs Γp Φp pf ret Γ' Φ')
    (hp : Γ.Perm (Γp ++ Γr)) (hin : AllE Φp Φ) (hΓ : ∀ x, Γ' x ++ Γr = Γ'' x) (hΦ : ∀ x, Φ' x ++ Φ = Φ'' x) :
    Effs C fr Γ Φ ⟨dst, .call { callee := .value callee, args := args.toArray, argTypes := argTypes }, ty, pos, aft, g⟩ pf ret Γ'' Φ'' := by
  refine ⟨fun x ψ hψ => by rw [← hΦ]; exact List.mem_append.2 (.inr hψ), fun R a w hfa hw => ?_⟩
  have hw' := hw.perm (hp.append_right R)
  rw [List.append_assoc] at hw'
  obtain ⟨ho1, ho2, ho3⟩ := Own.append.1 hw'.own
  have hO : ∀ k, avo C.O0 (Γr ++ R) k → k < w.heap.size ∧ ¬ fpL Γp k := fun k hk => by
    rcases hk with hk | hk
    · have h1 := hw'.o0 k hk
      refine ⟨Nat.lt_of_lt_of_le h1.1 hw'.mod.size, fun hn => ?_⟩
      rcases hw'.ofp k (fpL_append.2 (.inl hn)) with h2 | h2
      · exact h1.2 h2
      · omega
    · exact ⟨Own.lt ho2 hk, fun hn => ho3 k hn hk⟩
  obtain ⟨fn, tmps, assign, body, hy, hcall⟩ := hfn w (avo C.O0 (Γr ++ R)) hO ho1 (fun ψ hψ => ψ.st (hin ψ hψ _ _ hw'.sp) (Mod.refl _ _) fun k _ hk => avo_append.2 hk)
  have hrun' : (execOp a.eval ⟨dst, .call { callee := .value callee, args := args.toArray, argTypes := argTypes }, ty, pos, aft, g⟩).run C.P w = .ok (.round l fn tmps assign body) w := by
    have e1 := evO_sound hfa hc
    have e2 := evOs_sound hfa ha
    simp only [execOp, resolve, e1, Deferred.ofValue, List.map_toArray, e2, Sem.run_bind, Sem.run_pure, Result.andThen_ok, invoke]
    rw [show (#[] : Array Value) ++ vs.toArray = vs.toArray by simp]
    exact hy
  rw [hrun']
  show RoundIn _ _ _ _ _ _ _ _ _ _
  refine hcall.mono fun e w1 ⟨x, hx, he, hm, ho, hf, hs⟩ => ⟨_, he, x, hx, rfl, ?_⟩
  have hdis : ∀ k, fpL (Γ' x) k → ¬ fpL (Γr ++ R) k := fun k hk hn => by
    rcases hf k hk with h1 | h1
    · exact ho3 k h1 hn
    · have := Own.lt ho2 hn
      omega
  have hmove : Holds C (Γ' x ++ (Γr ++ R)) Φ w1 := by
    refine hw'.move (hm.mono fun k _ hk => fpL_append.2 (.inl hk)) (Own.append.2 ⟨ho, ho2.keep fun k hlt hk => hm.block k hlt fun hn => ho3 k hn hk, hdis⟩) fun k hlt hk => ?_
    rcases fpL_append.1 hk with hk | hk
    · rcases hf k hk with h1 | h1
      · exact fpL_append.2 (.inl h1)
      · omega
    · exact fpL_append.2 (.inr hk)
  rw [← hΓ, ← hΦ, List.append_assoc]
  refine ⟨hmove.mod, hmove.own, hmove.ofp, hmove.o0, fun ψ hψ => ?_⟩
  rcases List.mem_append.1 hψ with hψ | hψ
  · exact ψ.st (hs ψ hψ) (Mod.refl _ _) fun k _ hk => avo_append.1 hk
  · exact hmove.sp ψ hψ
end

-- ===== moves of memory at a block that is no cells =====

section
variable {C : Ctx} {Γ Δ : List OA} {Φ : List SP}
theorem Holds.allocO {w : World} (h : Holds C Γ Φ w) (o : Obj) : Holds C (ob w.heap.size o :: Γ) Φ (w.alloc o) := by
  refine h.move (Mod.alloc _ w _) ⟨heap_alloc_new w o, fun k hk hn => ?_, h.own.keep fun _ hk _ => heap_alloc_old w _ hk⟩ fun k hk hk' => ?_
  · have hk : k = w.heap.size := hk
    have := Own.lt h.own hn
    omega
  · rcases fpL_cons.1 hk' with hk' | hk'
    · have hk' : k = w.heap.size := hk'
      omega
    · exact hk'
theorem Holds.putO {w : World} {l : Nat} {o : Obj} (h : Holds C (ob l o :: Γ) Φ w) (o' : Obj) : Holds C (ob l o' :: Γ) Φ (w.putObj l o') := by
  have hl : l < w.heap.size := (Array.getElem?_eq_some_iff.1 (show w.heap[l]? = some o from h.own.1)).1
  have hother : ∀ k, k ≠ l → (w.putObj l o').heap[k]? = w.heap[k]? := fun k hk => World.putObj_heap_other hk
  refine h.move ⟨rfl, rfl, rfl, by simp, fun k _ hn => hother k fun e => hn (fpL_cons.2 (.inl e))⟩ ⟨World.putObj_heap_same hl, h.own.2.1, h.own.2.2.keep fun k _ hk => hother k fun e => h.own.2.1 k e hk⟩
    fun k _ hk => by
      rcases fpL_cons.1 hk with e | e
      · exact fpL_cons.2 (.inl e)
      · exact fpL_cons.2 (.inr e)
theorem Holds.pack {w : World} (h : Holds C (Γ ++ Δ) Φ w) : Holds C (pk Γ :: Δ) Φ w :=
  h.move (Mod.refl _ _) (Own.pk.2 h.own) fun _ _ hk => fpL_pk.1 hk
theorem Holds.unpack {w : World} (h : Holds C (pk Γ :: Δ) Φ w) : Holds C (Γ ++ Δ) Φ w :=
  h.move (Mod.refl _ _) (Own.pk.1 h.own) fun _ _ hk => fpL_pk.2 hk
theorem Holds.ctx {C' : Ctx} {w : World} (h : Holds C Γ Φ w) (h1 : C'.w0 = C.w0) (h2 : C'.O0 = C.O0) (h3 : C'.M = C.M) : Holds C' Γ Φ w :=
  ⟨by rw [h1, h3]; exact h.mod, h.own, by rw [h1, h3]; exact h.ofp, by rw [h1, h2, h3]; exact h.o0, by rw [h2]; exact h.sp⟩
theorem Holds.facts {Ψ : List SP} {w : World} (h : Holds C Γ Φ w) (k : ∀ ψ ∈ Ψ, ψ.p w (avo C.O0 Γ)) : Holds C Γ Ψ w := ⟨h.mod, h.own, h.ofp, h.o0, k⟩
theorem ob_at {w : World} {l : Nat} {o : Obj} (h : Holds C (ob l o :: Γ) Φ w) : w.heap[l]? = some o := h.own.1

/-- a call, by what it leaves. -/
theorem call_holds {f : FuncId} {aas : List Value} {Γp Γr : List OA} {Φp : List SP} {X : Type} {pf : X → Prop} {ret : X → Value} {Γ' : X → List OA} {Φ' : X → List SP} {w : World}
    (hfn : Ct C.P f aas Γp Φp pf ret Γ' Φ') (hw : Holds C (Γp ++ Γr) Φ w) (hin : AllE Φp Φ) :
    Calls C.P f aas.toArray w fun e w1 => ∃ x, pf x ∧ e = .returned (ret x) ∧ Holds C (Γ' x ++ Γr) (Φ' x ++ Φ) w1 := by
  obtain ⟨ho1, ho2, ho3⟩ := Own.append.1 hw.own
  have hO : ∀ k, avo C.O0 Γr k → k < w.heap.size ∧ ¬ fpL Γp k := fun k hk => by
    rcases hk with hk | hk
    · have h1 := hw.o0 k hk
      refine ⟨Nat.lt_of_lt_of_le h1.1 hw.mod.size, fun hn => ?_⟩
      rcases hw.ofp k (fpL_append.2 (.inl hn)) with h2 | h2
      · exact h1.2 h2
      · omega
    · exact ⟨Own.lt ho2 hk, fun hn => ho3 k hn hk⟩
  refine (hfn w (avo C.O0 Γr) hO ho1 (fun ψ hψ => ψ.st (hin ψ hψ _ _ hw.sp) (Mod.refl _ _) fun k _ hk => avo_append.2 hk)).mono fun e w1 ⟨x, hx, he, hm, ho, hf, hs⟩ => ⟨x, hx, he, ?_⟩
  have hdis : ∀ k, fpL (Γ' x) k → ¬ fpL Γr k := fun k hk hn => by
    rcases hf k hk with h1 | h1
    · exact ho3 k h1 hn
    · have := Own.lt ho2 hn
      omega
  have hmove : Holds C (Γ' x ++ Γr) Φ w1 := by
    refine hw.move (hm.mono fun k _ hk => fpL_append.2 (.inl hk)) (Own.append.2 ⟨ho, ho2.keep fun k hlt hk => hm.block k hlt fun hn => ho3 k hn hk, hdis⟩) fun k hlt hk => ?_
    rcases fpL_append.1 hk with hk | hk
    · rcases hf k hk with h1 | h1
      · exact fpL_append.2 (.inl h1)
      · omega
    · exact fpL_append.2 (.inr hk)
  refine hmove.facts fun ψ hψ => ?_
  rcases List.mem_append.1 hψ with hψ | hψ
  · exact ψ.st (hs ψ hψ) (Mod.refl _ _) fun k _ hk => avo_append.1 hk
  · exact hmove.sp ψ hψ
end

-- ===== the rounds =====

/-- the jump that a round leaves behind. -/
def jumpOf : Exit → Option (Option Code)
  | .normal => some none
  | .ret => some (some .ret)
  | .exit i => some (some (.exit i))
  | .goto t => some (some (.goto t))
  | _ => none

def recOf (fn : FuncId) (t0 : Array Value) (ps : Array Tmp) (assign body : Code) (D : Nat) (j : Option Code) : Loop :=
  { state := if j.isNone then .ready else .done, pending := j, fn := fn, tmps := t0, params := ps, assign := assign, body := body, defers := D }

/-- how a round's body is left: the jump is told by the new state. -/
def RQ (C : Ctx) (l : Nat) (o : Obj) {α : Type} (step : α → Prop) (Y : α → List OA) (Ψ : α → List SP) (e : α → Option Code) : Exit → Act → World → Prop :=
  fun ex _ w => ∃ y, step y ∧ jumpOf ex = some (e y) ∧ Holds C (ob l o :: Y y) (Ψ y) w
def AQ (C : Ctx) (fr : Fr) (Γ : List OA) (Φ : List SP) : Exit → Act → World → Prop := fun ex a w => ex = .normal ∧ fok C fr a ∧ Holds C Γ Φ w

theorem WQ_round {C : Ctx} {l : Nat} {o : Obj} {α : Type} {step : α → Prop} {Y : α → List OA} {Ψ : α → List SP} {e : α → Option Code} {ex : Exit} {fr : Fr} {Γ : List OA} {Φ : List SP} (y : α) (hs : step y) (hj : jumpOf ex = some (e y))
    (h2 : SubO Γ (ob l o :: Y y)) (h3 : AllE (Ψ y) Φ) : WQ C ex fr Γ Φ (RQ C l o step Y Ψ e) := fun _ _ _ hw => ⟨y, hs, hj, (hw.subOwn h2).allE h3⟩
theorem WQ_assign {C : Ctx} {fr fr' : Fr} {Γ Γ' : List OA} {Φ Φ' : List SP} (h1 : FrIn fr fr') (h2 : SubO Γ Γ') (h3 : AllE Φ' Φ) : WQ C .normal fr Γ Φ (AQ C fr' Γ' Φ') := fun _ _ ha hw => ⟨rfl, ha.sub h1, (hw.subOwn h2).allE h3⟩

theorem Yc_round {P : Program} {l D : Nat} {fn : FuncId} {t0 : Array Value} {p : Tmp} {assign body : Code} {n : Nat} {fr fr1 : Fr} {α : Type} {Y : α → List OA} {Ψ : α → List SP} {e : α → Option Code} {y : α} {v : Value} {Φa : List SP} {step : α → Prop}
    (he : e y = none) (ht : t0.size = n) (hfr : ∀ t v, fget fr t = some v → t0.getD t undef = v) (hpn : Nat.blt p n = true)
    (hassign : ∀ w0 O0 M o, W ⟨P, n, w0, O0, M, some l, []⟩ assign ((p, v) :: fr) (ob l o :: Y y) (Φa ++ Ψ y) (AQ ⟨P, n, w0, O0, M, some l, []⟩ fr1 (ob l o :: Y y) (Φa ++ Ψ y)))
    (hbody : ∀ w0 O0 M o, W ⟨P, n, w0, O0, M, some l, []⟩ body fr1 (ob l o :: Y y) (Φa ++ Ψ y) (RQ ⟨P, n, w0, O0, M, some l, []⟩ l o step Y Ψ e)) :
    Yc P l [v] [pk (ob l (.loop (recOf fn t0 #[p] assign body D (e y))) :: Y y)] (Φa ++ [cj (Ψ y)]) (X := α) step (fun y' => .bool (e y').isNone) (fun y' => [pk (ob l (.loop (recOf fn t0 #[p] assign body D (e y'))) :: Y y')]) (fun y' => [cj (Ψ y')]) := by
  intro w O0 hO ho hΦ
  have hw0 : Holds ⟨P, n, w, O0, fpL [pk (ob l (.loop (recOf fn t0 #[p] assign body D (e y))) :: Y y)], some l, []⟩ (ob l (.loop (recOf fn t0 #[p] assign body D (e y))) :: Y y) (Φa ++ Ψ y) w := by
    have h1 : Holds ⟨P, n, w, O0, fpL [pk (ob l (.loop (recOf fn t0 #[p] assign body D (e y))) :: Y y)], some l, []⟩ [pk (ob l (.loop (recOf fn t0 #[p] assign body D (e y))) :: Y y)] (Φa ++ [cj (Ψ y)]) w := ⟨Mod.refl _ _, ho, fun k hk => .inl hk, hO, hΦ⟩
    have h2 := h1.unpack
    rw [List.append_nil] at h2
    refine h2.facts fun ψ hψ => ?_
    rcases List.mem_append.1 hψ with hψ | hψ
    · exact h2.sp ψ (List.mem_append.2 (.inl hψ))
    · exact h2.sp (cj (Ψ y)) (List.mem_append.2 (.inr (by simp))) ψ hψ
  have hat := ob_at hw0
  refine ⟨_, _, _, _, run_yield hat (by rfl), roundIn_of_wpIn trivial ?_⟩
  have hfo : fok ⟨P, n, w, O0, fpL [pk (ob l (.loop (recOf fn t0 #[p] assign body D (e y))) :: Y y)], some l, []⟩ ((p, v) :: fr) { tmps := t0.setIfInBounds p v, defers := [] } := by
    have h0 : fok ⟨P, n, w, O0, fpL [pk (ob l (.loop (recOf fn t0 #[p] assign body D (e y))) :: Y y)], some l, []⟩ fr { tmps := t0, defers := [] } := ⟨rfl, ht, hfr⟩
    exact h0.put (Nat.lt_of_lt_of_le (Nat.lt_succ_self p) (Nat.le_of_ble_eq_true hpn))
  have hz : ((recOf fn t0 #[p] assign body D (e y)).params.zip #[v]).foldl (fun tmps (t, a) => tmps.setIfInBounds t a) (recOf fn t0 #[p] assign body D (e y)).tmps = t0.setIfInBounds p v := by simp [recOf]
  rw [show ([v] : List Value).toArray = #[v] from rfl, hz]
  refine wpIn_mono (hassign _ _ _ _ _ w hfo hw0) ?_
  rintro ex a1 w1 ⟨rfl, hfa, hw1⟩
  have hat1 := ob_at hw1
  refine ⟨_, run_beginRound hat1 (by rw [he]; rfl), ?_⟩
  have hw2 := hw1.putO (.loop { recOf fn t0 #[p] assign body D (e y) with state := .busy })
  refine wpIn_mono (hbody _ _ _ _ a1 _ hfa hw2) ?_
  rintro ex a2 w3 ⟨y', hst, hj, hw3⟩
  have hat3 := ob_at hw3
  have hend := run_endRound (P := P) (e y') hat3
  have hw4 := hw3.putO (.loop (recOf fn t0 #[p] assign body D (e y')))
  have hpost : FnPost w O0 (fpL [pk (ob l (.loop (recOf fn t0 #[p] assign body D (e y))) :: Y y)]) step (fun y' => .bool (e y').isNone) (fun y' => [pk (ob l (.loop (recOf fn t0 #[p] assign body D (e y'))) :: Y y')]) (fun y' => [cj (Ψ y')])
      (.returned (.bool (e y').isNone)) (w3.putObj l (.loop (recOf fn t0 #[p] assign body D (e y')))) := by
    have h5 : Holds ⟨P, n, w, O0, fpL [pk (ob l (.loop (recOf fn t0 #[p] assign body D (e y))) :: Y y)], some l, []⟩ [pk (ob l (.loop (recOf fn t0 #[p] assign body D (e y'))) :: Y y')] (Ψ y') (w3.putObj l (.loop (recOf fn t0 #[p] assign body D (e y')))) := by
      apply Holds.pack
      rw [List.append_nil]
      exact hw4
    refine ⟨y', hst, rfl, h5.mod, h5.own, h5.ofp, fun ψ hψ => ?_⟩
    rcases List.mem_singleton.1 hψ with rfl
    exact h5.sp
  cases ex with
  | normal =>
    injection hj with hj
    rw [← hj] at hend hpost
    exact ⟨_, _, hend, hpost⟩
  | ret =>
    injection hj with hj
    rw [← hj] at hend hpost
    exact ⟨_, _, hend, hpost⟩
  | exit id =>
    injection hj with hj
    rw [← hj] at hend hpost
    exact ⟨_, _, hend, hpost⟩
  | goto t =>
    injection hj with hj
    rw [← hj] at hend hpost
    exact ⟨_, _, hend, hpost⟩
  | panic ch => cases hj
  | outgrown => cases hj

/-- the statement. -/
theorem W_rangeFunc {P : Program} {ds : List Deferred} {n : Nat} {w0 : World} {O0 M : Nat → Prop} {g : Operand} {p : Tmp} {assign body : Code} {fr : Fr} {Γ : List OA} {Φ : List SP} {Q : Exit → Act → World → Prop} {gf : FuncId} {lb : Array Value}
    {α β : Type} (Y : α → List OA) (Ψ : α → List SP) (e : α → Option Code) (y0 : α) (av : β → Value) (aΦ : β → List SP) (pre : α → β → Prop) (step : α → β → α → Prop) (fr1 : β → Fr)
    {Γi Γr : List OA} {Φi : List SP} {X : Type} {pf : X → Prop} {ret : X → Value} {yx : X → α} {Γ' : X → List OA} {Φ' : X → List SP}
    (hg : evO fr g = some (.func (.func gf) #[] lb)) (hcf : ∀ (args : Array Value) (w : World), (callFunc gf args).run P w = .ok (.enter gf args) w)
    (he0 : e y0 = none) (hp : Γ.Perm (Γi ++ (Y y0 ++ Γr))) (hΨ : AllE (Ψ y0) Φ) (hΦi : AllE Φi Φ) (hpn : Nat.blt p n = true) (hpre : ∀ y b, pre y b → e y = none)
    (hassign : ∀ l y b, pre y b → ∀ w0 O0 M o, W ⟨P, n, w0, O0, M, some l, []⟩ assign ((p, av b) :: fr) (ob l o :: Y y) (aΦ b ++ Ψ y) (AQ ⟨P, n, w0, O0, M, some l, []⟩ (fr1 b) (ob l o :: Y y) (aΦ b ++ Ψ y)))
    (hbody : ∀ l y b, pre y b → ∀ w0 O0 M o, W ⟨P, n, w0, O0, M, some l, []⟩ body (fr1 b) (ob l o :: Y y) (aΦ b ++ Ψ y) (RQ ⟨P, n, w0, O0, M, some l, []⟩ l o (step y b) Y Ψ e))
    (hiter : ∀ (l : Nat) (YO : α → OA) (YS : α → SP), (∀ y b, pre y b → Yc P l [av b] [YO y] (aΦ b ++ [YS y]) (X := α) (step y b) (fun y' => .bool (e y').isNone) (fun y' => [YO y']) (fun y' => [YS y'])) →
      Ct P gf (.func (.yield l) #[] #[] :: lb.toList) (Γi ++ [YO y0]) (Φi ++ [YS y0]) pf ret (fun x => YO (yx x) :: Γ' x) (fun x => YS (yx x) :: Φ' x))
    (hk : ∀ D x, pf x → (e (yx x) = none → WQ ⟨P, n, w0, O0, M, none, ⟨.collected D, #[]⟩ :: ds⟩ .normal fr (ob D (.deferred (some [])) :: (Y (yx x) ++ (Γ' x ++ Γr))) (Ψ (yx x) ++ (Φ' x ++ Φ)) Q) ∧
      ∀ c, e (yx x) = some c → W ⟨P, n, w0, O0, M, none, ⟨.collected D, #[]⟩ :: ds⟩ c fr (ob D (.deferred (some [])) :: (Y (yx x) ++ (Γ' x ++ Γr))) (Ψ (yx x) ++ (Φ' x ++ Φ)) Q) :
    W ⟨P, n, w0, O0, M, none, ds⟩ (.rangeFunc g #[p] assign body) fr Γ Φ Q := by
  intro a w ha hw
  show Code.wpIn Fence.wide 0 P _ Q a w
  refine wpIn_rangeFunc fun fn _ => ?_
  have hres : ∀ w1 : World, (resolve a.eval (rangeCall g (w.heap.size + 1)) 0).run P w1 = .ok ⟨.fn (.func gf) lb, #[.func (.yield (w.heap.size + 1)) #[] #[]]⟩ w1 := fun w1 => by
    have e1 := evO_sound ha hg
    simp only [resolve, e1, Deferred.ofValue]
    simp
    rfl
  have hinv : ∀ w1 : World, (invoke (.fn (.func gf) lb) #[.func (.yield (w.heap.size + 1)) #[] #[]]).run P w1 = .ok (.enter gf (#[.func (.yield (w.heap.size + 1)) #[] #[]] ++ lb)) w1 := fun w1 => by
    simp only [invoke]
    exact hcf _ _
  refine ⟨_, _, _, _, _, gf, _, _, run_enterLoop_outer fn a.tmps #[p] assign body, hres _, fun _ _ => trivial, hinv _, fenceOf_depth none, ?_⟩
  obtain ⟨w1, hw1⟩ : ∃ w1, w1 = (w.alloc (.deferred (some []))).alloc (.loop (recOf fn a.tmps #[p] assign body w.heap.size none)) := ⟨_, rfl⟩
  have h1 := ((hw.perm hp).allocO (.deferred (some []))).allocO (.loop (recOf fn a.tmps #[p] assign body w.heap.size none))
  rw [World.size_alloc, ← hw1] at h1
  have h2 : Holds ⟨P, n, w0, O0, M, none, ds⟩ ((Γi ++ [pk (ob (w.heap.size + 1) (.loop (recOf fn a.tmps #[p] assign body w.heap.size (e y0))) :: Y y0)]) ++ (ob w.heap.size (.deferred (some [])) :: Γr)) (cj (Ψ y0) :: Φ) w1 := by
    have h3 : Holds ⟨P, n, w0, O0, M, none, ds⟩ ((ob (w.heap.size + 1) (.loop (recOf fn a.tmps #[p] assign body w.heap.size (e y0))) :: Y y0) ++ (Γi ++ (ob w.heap.size (.deferred (some [])) :: Γr))) Φ w1 := by
      rw [he0]
      refine h1.perm ?_
      show (ob (w.heap.size + 1) _ :: (ob w.heap.size (.deferred (some [])) :: (Γi ++ (Y y0 ++ Γr)))).Perm (ob (w.heap.size + 1) _ :: (Y y0 ++ (Γi ++ (ob w.heap.size (.deferred (some [])) :: Γr))))
      refine List.Perm.cons _ ?_
      have e1 : (Γi ++ (Y y0 ++ Γr)).Perm (Y y0 ++ (Γi ++ Γr)) := by
        rw [← List.append_assoc, ← List.append_assoc]
        exact List.perm_append_comm.append_right Γr
      refine (List.Perm.cons _ e1).trans ?_
      rw [← List.append_assoc, ← List.append_assoc]
      exact List.perm_middle.symm
    have h4 := h3.pack
    have h5 := h4.perm (Γ' := (Γi ++ [pk (ob (w.heap.size + 1) (.loop (recOf fn a.tmps #[p] assign body w.heap.size (e y0))) :: Y y0)]) ++ (ob w.heap.size (.deferred (some [])) :: Γr)) (by
      rw [List.append_assoc]
      exact List.perm_middle.symm)
    exact h5.cons fun ψ hψ => hΨ ψ hψ _ _ h5.sp
  have hcall := call_holds (hiter (w.heap.size + 1) (fun y => pk (ob (w.heap.size + 1) (.loop (recOf fn a.tmps #[p] assign body w.heap.size (e y))) :: Y y)) (fun y => cj (Ψ y)) fun y b hb =>
    Yc_round (hpre y b hb) ha.2.1 ha.2.2 hpn (hassign _ y b hb) (hbody _ y b hb)) h2 (fun ψ hψ => by
      rcases List.mem_append.1 hψ with hψ | hψ
      · exact fun W O hh => hΦi ψ hψ W O fun χ hχ => hh χ (List.mem_cons_of_mem _ hχ)
      · rcases List.mem_singleton.1 hψ with rfl
        exact Ent.mem List.mem_cons_self)
  have eargs : (#[.func (.yield (w.heap.size + 1)) #[] #[]] ++ lb : Array Value) = (Value.func (.yield (w.heap.size + 1)) #[] #[] :: lb.toList).toArray := by
    apply Array.ext'
    simp
  rw [← eargs, hw1] at hcall
  refine (callsIn_wide (n := 0 - 1)).2 (hcall.mono ?_)
  rintro en w' ⟨x, hx, rfl, hw'⟩
  have h6 : Holds ⟨P, n, w0, O0, M, none, ds⟩ (ob (w.heap.size + 1) (.loop (recOf fn a.tmps #[p] assign body w.heap.size (e (yx x)))) :: (Y (yx x) ++ (Γ' x ++ (ob w.heap.size (.deferred (some [])) :: Γr)))) (cj (Ψ (yx x)) :: Φ' x ++ (cj (Ψ y0) :: Φ)) w' := hw'.unpack
  have hat := ob_at h6
  have hend := run_endLoop (P := P) hat (by
    show (if (e (yx x)).isNone then LoopState.ready else .done) ≠ .busy
    split <;> intro h <;> cases h)
  refine ⟨_, _, hend, ?_⟩
  have h7 := (h6.putO (.loop { recOf fn a.tmps #[p] assign body w.heap.size (e (yx x)) with state := .exhausted })).drop
  have h8 : Holds ⟨P, n, w0, O0, M, none, ⟨.collected w.heap.size, #[]⟩ :: ds⟩ (ob w.heap.size (.deferred (some [])) :: (Y (yx x) ++ (Γ' x ++ Γr))) (Ψ (yx x) ++ (Φ' x ++ Φ)) (w'.putObj (w.heap.size + 1) (.loop { recOf fn a.tmps #[p] assign body w.heap.size (e (yx x)) with state := .exhausted })) := by
    have h9 := (h7.perm (Γ' := ob w.heap.size (.deferred (some [])) :: (Y (yx x) ++ (Γ' x ++ Γr))) (by
      rw [← List.append_assoc, ← List.append_assoc]
      exact List.perm_middle)).ctx (C' := ⟨P, n, w0, O0, M, none, ⟨.collected w.heap.size, #[]⟩ :: ds⟩) rfl rfl rfl
    refine h9.facts fun ψ hψ => ?_
    rcases List.mem_append.1 hψ with hψ | hψ
    · exact h9.sp (cj (Ψ (yx x))) (by simp) ψ hψ
    · rcases List.mem_append.1 hψ with hψ | hψ
      · exact h9.sp ψ (by simp [hψ])
      · exact h9.sp ψ (by simp [hψ])
  have hfa : fok ⟨P, n, w0, O0, M, none, ⟨.collected w.heap.size, #[]⟩ :: ds⟩ fr { a with defers := [⟨.collected w.heap.size, #[]⟩] ++ a.defers } := ⟨by rw [ha.1]; rfl, ha.2.1, ha.2.2⟩
  obtain ⟨k1, k2⟩ := hk w.heap.size x hx
  generalize w'.putObj (w.heap.size + 1) (.loop { recOf fn a.tmps #[p] assign body w.heap.size (e (yx x)) with state := .exhausted }) = w4 at h8 ⊢
  show match e (yx x) with | none => _ | some c => _
  cases hc : e (yx x) with
  | none => exact k1 hc _ _ hfa h8
  | some c => exact k2 c hc _ _ hfa h8

-- ===== a function that holds such a loop =====

theorem Ct_introM {P : Program} {f : FuncId} {fn : Func} {c : Code} {args : List Value} {Γ : List OA} {Φ : List SP} {X : Type} {pf : X → Prop} {ret : X → Value} {Γ' : X → List OA} {Φ' : X → List SP} {n : Nat}
    (hf : P.funcs[f]? = some fn) (hb : fn.body = some c) (hn : fn.ntmps = n) (hl : args.length ≤ n) (fr : Fr) (hfr : listO (argFr 0 args) = some fr)
    (h : ∀ w0 O0, W ⟨P, n, w0, O0, fpL Γ, none, []⟩ c fr Γ Φ (bodyPostM Fence.wide 0 P fn (FnPost w0 O0 (fpL Γ) pf ret Γ' Φ'))) : Ct P f args Γ Φ pf ret Γ' Φ' := by
  intro w O0 hO ho hΦ
  have hfr := listO_eq hfr
  refine (callsIn_wide (n := 0)).1 (callsIn_of_wp_marks hf hb trivial (h w O0 _ w ⟨rfl, ?_, fun t v hv => ?_⟩ ⟨Mod.refl _ _, ho, fun k hk => .inl hk, hO, hΦ⟩))
  · subst hn
    simp
    omega
  · rw [← hfr] at hv
    obtain ⟨_, h2⟩ := argFr_get args 0 t v hv
    rw [Nat.sub_zero] at h2
    have hlt : t < args.length := (List.getElem?_eq_some_iff.1 h2).1
    have h3 := (List.getElem?_eq_some_iff.1 h2).2
    simp [Array.getElem?_append, hlt, h3]

abbrev CtxM (P : Program) (n : Nat) (w0 : World) (O0 M : Nat → Prop) (D : Nat) : Ctx := ⟨P, n, w0, O0, M, none, [⟨.collected D, #[]⟩]⟩

section
variable {P : Program} {n D : Nat} {w0 : World} {O0 M : Nat → Prop} {fn : Func} {fr : Fr} {Γ Γ1 : List OA} {Φ : List SP} {X : Type} {pf : X → Prop} {ret : X → Value} {Γ' : X → List OA} {Φ' : X → List SP}
end

section
variable {C : Ctx} {fr : Fr} {Γ Γ' Γ1 : List OA} {Φ : List SP} {d : Nat} {ty : TypeId} {pos : String} {aft : Array Edge} {g : Option (Nat × Bool)}
theorem R_makeFunc {fn : Fn} {caps : Array Operand} {vs : List Value} (hc : evOs fr caps.toList = some vs) : Runs C fr Γ Φ ⟨some d, .makeFunc fn #[] caps, ty, pos, aft, g⟩ (.func fn #[] vs.toArray) :=
  Runs.pure fun a w ha _ => by
    have e := evOs_sound ha hc
    have e2 : caps.map a.eval = vs.toArray := by
      apply Array.ext'
      simpa using e
    simp [execOp, Instr.makeFunc, e2]
theorem R_nilCheck {x : Operand} {A : Addr} (hx : evO fr x = some (.pointer (some A))) : Runs C fr Γ Φ ⟨some d, .nilCheck x, ty, pos, aft, g⟩ (.pointer (some A)) :=
  Runs.pure fun a w ha _ => by simp [execOp, evO_sound ha hx]

/-- a byte row that is made, told as lasting at once. -/
theorem Effs.letB {o : Oper} {X : Type} {pf : X → Prop} {vx : X → Value} {G : X → List OA} {H : X → List SP} {v : X → Value} {t : TypeId} {n : X → Nat} {bs : X → List UInt8}
    (h : Effs C fr Γ Φ o pf vx (fun x => .row (v x) t 1 (n x) ((bs x).map bcell) :: G x) H) : Effs C fr Γ Φ o pf vx G (fun x => By (v x) (bs x) :: H x) := by
  refine ⟨fun x ψ hψ => List.mem_cons_of_mem _ (h.1 x ψ hψ), fun R a w ha hw => (h.2 R a w ha hw).mono fun v' w' ⟨x, hp, hv, hw'⟩ => ⟨x, hp, hv, ?_⟩⟩
  exact Holds.letgoB hw' rfl

/-- things appended that are themselves slices. -/
theorem E_appendRowO {t e : TypeId} {x y : Operand} {v u : Value} {size n m nm : Nat} {xs news all : List Value} {i : TypeInfo} {z : Value}
    (hx : evO fr x = some v) (hy : evO fr y = some u) (hp : Pick (.row v e size n xs) Γ Γ') (hp' : Pick (.row u e size m news) Γ' Γ1)
    (ht : C.P.underlying t = some (.slice e)) (hi : C.P.info? e = some i) (hz : i.zero = some z) (hsize : i.size = size) (hzs : z.cells.size = size) (hsz : 0 < size) (h1 : Ones C Γ Φ news)
    (hby : i.bytes ≤ 128) (hb : n + m ≤ 1099511627776) (hnm : n + m = nm) (hall : xs ++ news = all) :
    Effs C fr Γ Φ ⟨some d, .call { callee := .builtin .append, args := #[x, y], argTypes := #[t, t] }, ty, pos, aft, g⟩ (X := Value) (fun _ => True) (fun q => q) (fun v' => .row v' e size nm all :: Γ1) (fun _ => Φ) := by
  refine ⟨fun _ => AllIn.refl _, fun R a w ha hw => ?_⟩
  exact (E_appendRow hx hy hp hp' ht hi hz hsize hzs hsz (fun u hu => h1 u hu R w hw) hby hb hnm hall).2 R a w ha hw
end

theorem ent_nilRw {Φ : List SP} {size : Nat} {f : Nat → List Value} : Ent Φ (Rw size (.slice none 0 0) 0 f) := fun _ _ _ => ⟨none, 0, rfl, Nat.le_refl _, by simp [maxLen], fun h => absurd h (by omega)⟩
end Go.Hs

/-
  Trees of elements in memory; own things lent to a call; rows of bytes of which only the lengths matter. No program is named here.
-/
namespace Go.Hs
open Go Go.RowKit

-- ===== a call that looks at what is owned =====

/-- while Γb is owned and Φ holds, the facts Φb hold too (where Γb itself is not forbidden). -/
def Bor (Γb : List OA) (Φ Φb : List SP) : Prop := ∀ w O, Own Γb w → (∀ k, fpL Γb k → ¬ O k) → (∀ ψ ∈ Φ, ψ.p w O) → ∀ ψ ∈ Φb, ψ.p w O

section
variable {C : Ctx} {ops : Array Oper} {l : List Oper} {fr : Fr} {Γ Γ' Γ1 : List OA} {Φ : List SP} {Q : Exit → Act → World → Prop}
  {d : Nat} {ty : TypeId} {pos : String} {aft : Array Edge} {g : Option (Nat × Bool)}

theorem Bor.row {v : Value} {t : TypeId} {n : Nat} {bs : List UInt8} {Γr : List OA} (hn : n = bs.length) : Bor [.row v t 1 n (bs.map bcell)] Φ (By v bs :: Φ) := fun w O ho hd hΦ ψ hψ => by
  rcases List.mem_cons.1 hψ with rfl | hψ
  · subst hn
    exact slP_of_row ho.1 fun k hk => hd k (fpL_cons.2 (.inl hk))
  · exact hΦ ψ hψ

theorem R_callB {dst : Option Tmp} {f : FuncId} {args : List Operand} {argTypes : Array TypeId} {vs : List Value} {Φp : List SP} {v : Value} {Γb Γr : List OA}
    (ha : evOs fr args = some vs)
    (hrun : ∀ (aas : Array Value) (w : World), (callFunc f aas).run C.P w = .ok (.enter f aas) w)
    (hfn : CtD C.P f vs Φp v) (hp : Γ.Perm (Γb ++ Γr)) (hb : Bor Γb Φ Φp) :
    Runs C fr Γ Φ ⟨dst, .call { callee := .value (.func f), args := args.toArray, argTypes := argTypes }, ty, pos, aft, g⟩ v := by
  intro a w hfa hw0
  have hw := hw0.perm hp
  obtain ⟨ho1, ho2, ho3⟩ := Own.append.1 hw.own
  have hO : ∀ k, avo C.O0 Γr k → k < w.heap.size ∧ ¬ fpL [] k := fun k hk => by
    refine ⟨?_, fun ⟨_, hx, _⟩ => by cases hx⟩
    rcases hk with hk | hk
    · exact Nat.lt_of_lt_of_le (hw.o0 k hk).1 hw.mod.size
    · exact Own.lt ho2 hk
  have hd : ∀ k, fpL Γb k → ¬ avo C.O0 Γr k := fun k hk hn => by
    rcases hn with hn | hn
    · have h1 := hw.o0 k hn
      rcases hw.ofp k (fpL_append.2 (.inl hk)) with h2 | h2
      · exact h1.2 h2
      · omega
    · exact ho3 k hk hn
  have hΦ : ∀ ψ ∈ Φ, ψ.p w (avo C.O0 Γr) := fun ψ hψ => ψ.st (hw.sp ψ hψ) (Mod.refl _ _) fun k _ hk => hk.elim .inl fun h => .inr (fpL_append.2 (.inr h))
  have hcall := hfn w (avo C.O0 Γr) hO trivial (fun ψ hψ => ψ.st (hb w _ ho1 hd hΦ ψ hψ) (Mod.refl _ _) fun k _ hk => hk.elim id fun ⟨_, hx, _⟩ => by cases hx)
  have hrun' : (execOp a.eval ⟨dst, .call { callee := .value (.func f), args := args.toArray, argTypes := argTypes }, ty, pos, aft, g⟩).run C.P w = .ok (.enter f vs.toArray) w := by
    have e2 := evOs_sound hfa ha
    simp only [execOp, resolve, Act.eval, Deferred.ofValue, List.map_toArray, e2, Sem.run_bind, Sem.run_pure, Result.andThen_ok, invoke]
    rw [hrun]
    congr 2
    apply Array.ext'
    simp
  rw [hrun']
  show Calls _ _ _ _ _
  exact hcall.mono fun e w1 ⟨_, _, he, hm, _⟩ => ⟨_, he, rfl, hm.mono fun k _ ⟨_, hx, _⟩ => by cases hx⟩

/-- a plain truth drawn from what holds. -/
theorem W_pure {c : Code} {p : Prop} (hp : ∀ w, Holds C Γ Φ w → p) (h : p → W C c fr Γ Φ Q) : W C c fr Γ Φ Q := fun a w ha hw => h (hp w hw) a w ha hw
def isNilV : Value → Bool
  | .slice none _ _ => true
  | _ => false

theorem R_eqNil {x y : Operand} {t e t' : TypeId} {v : Value} {size n : Nat} {xs : List Value} (hx : evO fr x = some v) (hy : evO fr y = some (.slice none 0 0)) (hm : Sl size v n xs ∈ Φ) (ht : C.P.underlying t = some (.slice e)) :
    Runs C fr Γ Φ ⟨some d, .binOp .eql t x y t', ty, pos, aft, g⟩ (.bool (isNilV v)) :=
  Runs.pure fun a w ha hw => by
    obtain ⟨_, A, c, hv, _⟩ := hw.sp _ hm
    subst hv
    have h := Lib.run_eql_slice_nil (P := C.P) w t e A n c 0 0 ht
    have hg : (eqGuard .eql t x y (.slice A n c) (.slice none 0 0)).run C.P w = .ok () w := by simp [eqGuard]
    simp only [execOp, evO_sound ha hx, evO_sound ha hy, Sem.run_bind, hg, Result.andThen_ok, h, Sem.run_pure]
    cases A <;> rfl
theorem R_eqNilB {x y : Operand} {t e t' : TypeId} {v : Value} {bs : List UInt8} (hx : evO fr x = some v) (hy : evO fr y = some (.slice none 0 0)) (hm : By v bs ∈ Φ) (ht : C.P.underlying t = some (.slice e)) :
    Runs C fr Γ Φ ⟨some d, .binOp .eql t x y t', ty, pos, aft, g⟩ (.bool (isNilV v)) := R_eqNil (xs := bs.map bcell) (size := 1) hx hy hm ht
theorem by_nil {v : Value} {bs : List UInt8} (h : isNilV v = true) (hm : By v bs ∈ Φ) : ∀ w, Holds C Γ Φ w → bs = [] := fun w hw => by
  obtain ⟨_, A, c, rfl, _, _, hr⟩ := hw.sp _ hm
  cases A with
  | some A => cases h
  | none =>
    cases bs with
    | nil => rfl
    | cons b r =>
      obtain ⟨ad, h, _⟩ := hr (by simp)
      cases h
/-- a method's value: the receiver is kept. -/
theorem R_makeFunc1 {fn : FuncId} {x : Operand} {v : Value} (hx : evO fr x = some v) : Runs C fr Γ Φ ⟨some d, .makeFunc (.func fn) #[x] #[], ty, pos, aft, g⟩ (.func (.func fn) #[v] #[]) :=
  Runs.pure fun a w ha _ => by simp [execOp, Instr.makeFunc, evO_sound ha hx]
end

theorem perm1 {x : OA} {Γ Γr : List OA} (h : Pick x Γ Γr) : Γ.Perm ([x] ++ Γr) := h
theorem perm2 {x y : OA} {Γ Γ1 Γr : List OA} (h : Pick x Γ Γ1) (k : Pick y Γ1 Γr) : Γ.Perm ([x, y] ++ Γr) := h.trans (List.Perm.cons x k)
theorem perm3 {x y z : OA} {Γ Γ1 Γ2 Γr : List OA} (h : Pick x Γ Γ1) (k : Pick y Γ1 Γ2) (l : Pick z Γ2 Γr) : Γ.Perm ([x, y, z] ++ Γr) := h.trans (List.Perm.cons x (k.trans (List.Perm.cons y l)))

-- ===== many rows of bytes aas one thing =====

def rowsL (bt : TypeId) (L : List (Value × List UInt8)) : List OA := L.map fun p => .row p.1 bt 1 p.2.length (p.2.map bcell)
theorem rowsL_append (bt : TypeId) (L K : List (Value × List UInt8)) : rowsL bt (L ++ K) = rowsL bt L ++ rowsL bt K := List.map_append ..

section
variable {C : Ctx} {ops : Array Oper} {l : List Oper} {fr : Fr} {Γ Γ1 Γ2 : List OA} {Φ : List SP} {Q : Exit → Act → World → Prop}
theorem Holds.addL {bt : TypeId} {L : List (Value × List UInt8)} {v : Value} {n : Nat} {xs : List Value} {bs : List UInt8} {w : World} (h : Holds C (.row v bt 1 n xs :: pk (rowsL bt L) :: Γ) Φ w) (hx : xs = bs.map bcell) :
    Holds C (pk (rowsL bt (L ++ [(v, bs)])) :: Γ) Φ w := by
  have hn : n = bs.length := by
    have := h.own.1.1
    subst hx
    simpa using this.symm
  subst hx
  subst hn
  have h1 := (h.perm (.swap _ _ _)).unpack
  have h2 : Holds C (rowsL bt (L ++ [(v, bs)]) ++ Γ) Φ w := by
    rw [rowsL_append, List.append_assoc]
    exact h1
  exact h2.pack
theorem Holds.nilL {w : World} (bt : TypeId) (h : Holds C Γ Φ w) : Holds C (pk (rowsL bt []) :: Γ) Φ w := Holds.pack h

theorem WQ_addL {e : Exit} {bt : TypeId} {L : List (Value × List UInt8)} {n : Nat} {v : Value} {xs : List Value} (bs : List UInt8) (hx : xs = bs.map bcell) (hp : Pick (.row v bt 1 n xs) Γ Γ1) (hp' : Pick (pk (rowsL bt L)) Γ1 Γ2)
    (h : WQ C e fr (pk (rowsL bt (L ++ [(v, bs)])) :: Γ2) Φ Q) : WQ C e fr Γ Φ Q := fun a w ha hw => h a w ha (((pick_holds hp hw).perm (List.Perm.cons _ hp')).addL hx)
theorem W_nilL {c : Code} (bt : TypeId) (h : W C c fr (pk (rowsL bt []) :: Γ) Φ Q) : W C c fr Γ Φ Q := fun a w ha hw => h a w ha (hw.nilL bt)
theorem WQ_nilL {e : Exit} (bt : TypeId) (h : WQ C e fr (pk (rowsL bt []) :: Γ) Φ Q) : WQ C e fr Γ Φ Q := fun a w ha hw => h a w ha (hw.nilL bt)
end

-- ===== trees =====

/-- a list of elements as it stands in memory, each with its own list; the values that lead to the data and to the list are told too. -/
inductive T where
  | nil
  | cons (id ext : UInt8) (dv : Value) (data : List UInt8) (sv : Value) (subs next : T)

/-- the same without the values. -/
inductive Fo where
  | nil
  | cons (id ext : UInt8) (data : List UInt8) (subs next : Fo)
deriving DecidableEq

namespace T
def er : T → Fo
  | .nil => .nil
  | .cons id ext _ data _ subs next => .cons id ext data subs.er next.er
def len : T → Nat
  | .nil => 0
  | .cons _ _ _ _ _ _ next => next.len + 1
def drop : Nat → T → T
  | 0, t => t
  | _ + 1, .nil => .nil
  | k + 1, .cons _ _ _ _ _ _ next => drop k next
def app : T → T → T
  | .nil, u => u
  | .cons id ext dv data sv subs next, u => .cons id ext dv data sv subs (next.app u)
def head : T → List Value
  | .nil => []
  | .cons id ext dv _ sv _ _ => [bcell id, bcell ext, dv, sv]
def at_ (t : T) (i : Nat) : List Value := (t.drop i).head
def cells : T → List Value
  | .nil => []
  | .cons id ext dv _ sv _ next => bcell id :: bcell ext :: dv :: sv :: next.cells
def dls : T → List (Value × List UInt8)
  | .nil => []
  | .cons _ _ dv data _ _ next => (dv, data) :: next.dls

def tfP : T → World → (Nat → Prop) → Prop
  | .nil, _, _ => True
  | .cons _ _ dv data sv subs next, w, O => (By dv data).p w O ∧ (Rw 4 sv subs.len subs.at_).p w O ∧ subs.tfP w O ∧ next.tfP w O
theorem tfP.st : ∀ {t : T} {w w' : World} {O O' : Nat → Prop}, t.tfP w O → Mod O w w' → (∀ k, k < w.heap.size → O' k → O k) → t.tfP w' O'
  | .nil, _, _, _, _, _, _, _ => trivial
  | .cons _ _ _ _ _ _ _, _, _, _, _, h, hm, ho => ⟨SP.st _ h.1 hm ho, SP.st _ h.2.1 hm ho, tfP.st h.2.2.1 hm ho, tfP.st h.2.2.2 hm ho⟩
/-- what hangs on the elements lasts. -/
def tf (t : T) : SP := ⟨t.tfP, tfP.st⟩

def tsP : T → World → (Nat → Prop) → Prop
  | .nil, _, _ => True
  | .cons _ _ _ _ sv subs next, w, O => (Rw 4 sv subs.len subs.at_).p w O ∧ subs.tfP w O ∧ next.tsP w O
theorem tsP.st : ∀ {t : T} {w w' : World} {O O' : Nat → Prop}, t.tsP w O → Mod O w w' → (∀ k, k < w.heap.size → O' k → O k) → t.tsP w' O'
  | .nil, _, _, _, _, _, _, _ => trivial
  | .cons _ _ _ _ _ _ _, _, _, _, _, h, hm, ho => ⟨SP.st _ h.1 hm ho, tfP.st h.2.1 hm ho, tsP.st h.2.2 hm ho⟩
/-- the same of the elements' lists alone: the data are owned. -/
def ts (t : T) : SP := ⟨t.tsP, tsP.st⟩

theorem len_app : ∀ (t u : T), (t.app u).len = t.len + u.len
  | .nil, u => by simp [app, len]
  | .cons _ _ _ _ _ _ next, u => by simp only [app, len, len_app next u]; omega
theorem cells_app : ∀ (t u : T), (t.app u).cells = t.cells ++ u.cells
  | .nil, u => rfl
  | .cons _ _ _ _ _ _ next, u => by simp only [app, cells, cells_app next u, List.cons_append]
theorem dls_app : ∀ (t u : T), (t.app u).dls = t.dls ++ u.dls
  | .nil, u => rfl
  | .cons _ _ _ _ _ _ next, u => by simp only [app, dls, dls_app next u, List.cons_append]
theorem len_snoc (t : T) (id ext : UInt8) (dv : Value) (data : List UInt8) (sv : Value) (subs : T) : t.len + 1 = (t.app (.cons id ext dv data sv subs .nil)).len := by rw [len_app]; rfl
theorem cells_snoc (t : T) (id ext : UInt8) (dv : Value) (data : List UInt8) (sv : Value) (subs : T) : t.cells ++ [bcell id, bcell ext, dv, sv] = (t.app (.cons id ext dv data sv subs .nil)).cells := by rw [cells_app]; rfl
theorem dls_snoc (t : T) (id ext : UInt8) (dv : Value) (data : List UInt8) (sv : Value) (subs : T) : t.dls ++ [(dv, data)] = (t.app (.cons id ext dv data sv subs .nil)).dls := by rw [dls_app]; rfl
theorem cells_length : ∀ (t : T), t.cells.length = t.len * 4
  | .nil => rfl
  | .cons _ _ _ _ _ _ next => by simp only [cells, List.length_cons, cells_length next, len]; omega
theorem cells_at : ∀ (t : T) (i : Nat), i < t.len → (t.cells.drop (i * 4)).take 4 = t.at_ i
  | .nil, _, h => by simp [len] at h
  | .cons _ _ _ _ _ _ next, 0, _ => rfl
  | .cons _ _ _ _ _ _ next, i + 1, h => by
    have h' : i < next.len := by simp only [len] at h; omega
    rw [show (i + 1) * 4 = i * 4 + 1 + 1 + 1 + 1 by omega]
    exact cells_at next i h'
theorem drop_len : ∀ (t : T) (k : Nat), k ≤ t.len → (t.drop k).len = t.len - k
  | t, 0, _ => rfl
  | .nil, k + 1, h => by simp [len] at h
  | .cons _ _ _ _ _ _ next, k + 1, h => by
    simp only [len] at h
    simp only [drop, len, drop_len next k (by omega)]
    omega
theorem drop_nil : ∀ (k : Nat), drop k .nil = .nil
  | 0 => rfl
  | _ + 1 => rfl
theorem drop_next : ∀ {t : T} {k : Nat} {id ext : UInt8} {dv : Value} {data : List UInt8} {sv : Value} {subs next : T}, t.drop k = .cons id ext dv data sv subs next → t.drop (k + 1) = next
  | .nil, k, _, _, _, _, _, _, _, h => by rw [drop_nil] at h; cases h
  | .cons _ _ _ _ _ _ _, 0, _, _, _, _, _, _, _, h => by
    simp only [drop, cons.injEq] at h
    simp only [drop]
    exact h.2.2.2.2.2.2
  | .cons _ _ _ _ _ _ n, k + 1, _, _, _, _, _, _, _, h => by
    show drop (k + 1) n = _
    exact drop_next (t := n) h
/-- the k-th element. -/
theorem get {t : T} {k : Nat} (h : k < t.len) : ∃ id ext dv data sv subs next, t.drop k = .cons id ext dv data sv subs next := by
  cases e : t.drop k with
  | nil =>
    have := drop_len t k (by omega)
    rw [e] at this
    simp only [len] at this
    omega
  | cons id ext dv data sv subs next => exact ⟨_, _, _, _, _, _, _, rfl⟩
theorem at_cons {t : T} {k : Nat} {id ext : UInt8} {dv : Value} {data : List UInt8} {sv : Value} {subs next : T} (h : t.drop k = .cons id ext dv data sv subs next) : t.at_ k = [bcell id, bcell ext, dv, sv] := by
  rw [at_, h]
  rfl
def size : T → Nat
  | .nil => 0
  | .cons _ _ _ _ _ subs next => subs.size + next.size + 1
theorem drop_size : ∀ {t : T} {k : Nat} {id ext : UInt8} {dv : Value} {data : List UInt8} {sv : Value} {subs next : T}, t.drop k = .cons id ext dv data sv subs next → subs.size < t.size
  | .nil, k, _, _, _, _, _, _, _, h => by rw [drop_nil] at h; cases h
  | .cons _ _ _ _ _ _ _, 0, _, _, _, _, _, _, _, h => by
    simp only [drop, cons.injEq] at h
    obtain ⟨_, _, _, _, _, rfl, rfl⟩ := h
    simp only [size]
    omega
  | .cons _ _ _ _ _ _ n, k + 1, _, _, _, _, _, _, _, h => by
    have := drop_size (t := n) h
    simp only [size]
    omega

theorem tf_at : ∀ {t : T} {k : Nat} {id ext : UInt8} {dv : Value} {data : List UInt8} {sv : Value} {subs next : T} {w : World} {O : Nat → Prop}, t.drop k = .cons id ext dv data sv subs next → t.tfP w O →
    (By dv data).p w O ∧ (Rw 4 sv subs.len subs.at_).p w O ∧ subs.tfP w O
  | .nil, k, _, _, _, _, _, _, _, _, _, h, _ => by rw [drop_nil] at h; cases h
  | .cons _ _ _ _ _ _ _, 0, _, _, _, _, _, _, _, _, _, h, hp => by
    simp only [drop, cons.injEq] at h
    obtain ⟨rfl, rfl, rfl, rfl, rfl, rfl, rfl⟩ := h
    exact ⟨hp.1, hp.2.1, hp.2.2.1⟩
  | .cons _ _ _ _ _ _ n, k + 1, _, _, _, _, _, _, _, _, _, h, hp => tf_at (t := n) h hp.2.2.2
theorem ts_app : ∀ {t u : T} {w : World} {O : Nat → Prop}, t.tsP w O → u.tsP w O → (t.app u).tsP w O
  | .nil, _, _, _, _, h => h
  | .cons _ _ _ _ _ _ _, _, _, _, h, k => ⟨h.1, h.2.1, ts_app h.2.2 k⟩
theorem tf_of_ts : ∀ {bt : TypeId} {t : T} {w : World} {O : Nat → Prop}, Own (rowsL bt t.dls) w → (∀ k, fpL (rowsL bt t.dls) k → ¬ O k) → t.tsP w O → t.tfP w O
  | _, .nil, _, _, _, _, _ => trivial
  | _, .cons _ _ _ _ _ _ _, _, _, ho, hd, h => ⟨slP_of_row ho.1 fun k hk => hd k (fpL_cons.2 (.inl hk)), h.1, h.2.1, tf_of_ts ho.2.2 (fun k hk => hd k (fpL_cons.2 (.inr hk))) h.2.2⟩
end T

section
variable {C : Ctx} {fr : Fr} {Γ Γ1 : List OA} {Φ : List SP}
theorem ent_tree {t : T} {k : Nat} {id ext : UInt8} {dv : Value} {data : List UInt8} {sv : Value} {subs next : T} (hm : t.tf ∈ Φ) (h : t.drop k = .cons id ext dv data sv subs next) :
    Ent Φ (By dv data) ∧ Ent Φ (Rw 4 sv subs.len subs.at_) ∧ Ent Φ subs.tf := ⟨fun _ _ hw => (T.tf_at h (hw _ hm)).1, fun _ _ hw => (T.tf_at h (hw _ hm)).2.1, fun _ _ hw => (T.tf_at h (hw _ hm)).2.2⟩
theorem ent_slT {v : Value} {t : T} (hm : Sl 4 v t.len t.cells ∈ Φ) : Ent Φ (Rw 4 v t.len t.at_) := fun w O h => by
  have h1 := ent_slRw hm w O h
  exact rwP_congr' h1 fun i hi => T.cells_at t i hi
where
  rwP_congr' {size : Nat} {v : Value} {n : Nat} {f g : Nat → List Value} {w : World} {O : Nat → Prop} (h : rwP size v n f w O) (e : ∀ i, i < n → f i = g i) : rwP size v n g w O := by
    obtain ⟨A, c, hv, h1, h2, hr⟩ := h
    refine ⟨A, c, hv, h1, h2, fun hn => ?_⟩
    obtain ⟨ad, hA, hlt, hO, hcell⟩ := hr hn
    exact ⟨ad, hA, hlt, hO, fun i hi j u hu => hcell i hi j u (by rw [e i hi]; exact hu)⟩
theorem ent_tsapp {t u : T} (h1 : t.ts ∈ Φ) (h2 : u.ts ∈ Φ) : Ent Φ (t.app u).ts := fun _ _ h => T.ts_app (h _ h1) (h _ h2)
theorem ent_ts1 {id ext : UInt8} {dv : Value} {data : List UInt8} {sv : Value} {subs : T} (h1 : Rw 4 sv subs.len subs.at_ ∈ Φ) (h2 : subs.tf ∈ Φ) : Ent Φ (T.cons id ext dv data sv subs .nil).ts := fun _ _ h => ⟨h _ h1, h _ h2, trivial⟩
theorem ent_tf0 : Ent Φ T.nil.tf := fun _ _ _ => trivial
theorem ent_ts0 : Ent Φ T.nil.ts := fun _ _ _ => trivial
/-- the data let go with the tree's lists. -/
theorem Holds.tree {bt : TypeId} {t : T} {w : World} (h : Holds C (pk (rowsL bt t.dls) :: Γ) Φ w) (hm : t.ts ∈ Φ) : Holds C Γ (t.tf :: Φ) w := by
  have hd : ∀ k, fpL (rowsL bt t.dls) k → ¬ avo C.O0 Γ k := fun k hk hn => by
    rcases hn with hn | hn
    · have h1 := h.o0 k hn
      rcases h.ofp k (fpL_cons.2 (.inl hk)) with h2 | h2
      · exact h1.2 h2
      · omega
    · exact h.own.2.1 k hk hn
  exact h.drop.cons (T.tf_of_ts h.own.1 hd (h.drop.sp _ hm))
theorem WL_tree {ops : Array Oper} {l : List Oper} {Q : Exit → Act → World → Prop} {bt : TypeId} {t : T} (hp : Pick (pk (rowsL bt t.dls)) Γ Γ1) (hm : t.ts ∈ Φ) (h : WL C ops l fr Γ1 (t.tf :: Φ) Q) : WL C ops l fr Γ Φ Q := fun a w ha hw => h a w ha ((pick_holds hp hw).tree hm)
theorem WQ_tree {e : Exit} {Q : Exit → Act → World → Prop} {bt : TypeId} {t : T} (hp : Pick (pk (rowsL bt t.dls)) Γ Γ1) (hm : t.ts ∈ Φ) (h : WQ C e fr Γ1 (t.tf :: Φ) Q) : WQ C e fr Γ Φ Q := fun a w ha hw => h a w ha ((pick_holds hp hw).tree hm)
/-- a tree lent: its data are owned. -/
theorem Bor.tree {bt : TypeId} {t : T} (hm : t.ts ∈ Φ) {Φb : List SP} (hb : ∀ ψ ∈ Φb, ψ = t.tf ∨ ψ ∈ Φ) : Bor [pk (rowsL bt t.dls)] Φ Φb := fun w O ho hd hΦ ψ hψ => by
  rcases hb ψ hψ with rfl | h
  · exact T.tf_of_ts ho.1 (fun k hk => hd k (fpL_cons.2 (.inl hk))) (hΦ _ hm)
  · exact hΦ ψ h
end
theorem rw_le {C : Ctx} {Γ : List OA} {Φ : List SP} {size n : Nat} {v : Value} {f : Nat → List Value} (hm : Rw size v n f ∈ Φ) : ∀ w, Holds C Γ Φ w → n ≤ 9223372036854775807 := fun w h => by
  obtain ⟨A, c, _, h1, h2, _⟩ := h.sp _ hm
  have : maxLen = 9223372036854775807 := rfl
  omega
end Go.Hs

/-
  The content of an element, read part by part: what it is, and that both texts read it.
-/
namespace Go.Proofs.Ytoohgnegoaoleaa.C04
open Go Go.RowKit Go.Hs
attribute [local irreducible] WL W WQ PL Runs Effs AllE Ent SubO FrIn Pick OneC Ones CellsE PartsE SeqE UZ By Sl Pt Ct

abbrev WR := List UInt8 × List UInt8 × Int
def wcat (acc : List UInt8) (q : WR) : WR := if q.2.2 = 0 then (acc ++ q.1, q.2.1, 0) else ([], [], q.2.2)
/-- the content, the bytes after it, the error. -/
def whole : Nat → List UInt8 → WR
  | 0, _ => ([], [], 10)
  | f + 1, b =>
    if b.length = 0 ∨ b.length - 1 < (b.getD 0 0).toNat then ([], [], 10)
    else if (b.getD 0 0).toNat < 255 then ((b.drop 1).take (b.getD 0 0).toNat, b.drop (1 + (b.getD 0 0).toNat), 0)
    else if b.length = 256 then ([], [], 10)
    else if ¬ b.getD 256 0 = 254 then ([], [], 12)
    else wcat ((b.drop 1).take 255) (whole f (b.drop 257))

theorem wcat_wcat (a b : List UInt8) (q : WR) : wcat a (wcat b q) = wcat (a ++ b) q := by
  unfold wcat
  split <;> simp_all
theorem wcat_nil (q : WR) (h : ¬ q.2.2 = 0 → q.1 = [] ∧ q.2.1 = []) : wcat [] q = q := by
  obtain ⟨a, b, e⟩ := q
  unfold wcat
  by_cases h0 : e = 0
  · subst h0
    rfl
  · obtain ⟨h1, h2⟩ := h h0
    simp only at h1 h2
    subst h1
    subst h2
    rw [if_neg h0]
theorem whole_err : ∀ (f : Nat) (b : List UInt8), ¬ (whole f b).2.2 = 0 → (whole f b).1 = [] ∧ (whole f b).2.1 = []
  | 0, _, _ => ⟨rfl, rfl⟩
  | f + 1, b, h => by
    unfold whole at h ⊢
    split at h
    · next h1 => rw [if_pos h1]; exact ⟨rfl, rfl⟩
    · next h1 =>
      rw [if_neg h1]
      split at h
      · exact absurd rfl h
      · next h2 =>
        rw [if_neg h2]
        split at h
        · next h3 => rw [if_pos h3]; exact ⟨rfl, rfl⟩
        · next h3 =>
          rw [if_neg h3]
          split at h
          · next h4 => rw [if_pos h4]; exact ⟨rfl, rfl⟩
          · next h4 =>
            rw [if_neg h4]
            unfold wcat at h ⊢
            split at h
            · exact absurd rfl h
            · next h5 => rw [if_neg h5]; exact ⟨rfl, rfl⟩
theorem getD_drop (xs : List UInt8) (p i : Nat) : (xs.drop p).getD i 0 = xs.getD (p + i) 0 := by
  rw [List.getD_eq_getElem?_getD, List.getD_eq_getElem?_getD, List.getElem?_drop]
theorem u8le (c : UInt8) : c.toNat ≤ 255 := by have := c.toNat_lt; omega
theorem u8ne {c : UInt8} {n : Nat} (h : ¬ c = UInt8.ofNat n) (hn : n < 256) : ¬ (c.toNat : Int) = (n : Int) := fun e => h (by
  apply UInt8.toNat_inj.1
  rw [UInt8.toNat_ofNat']
  omega)
theorem take_end (xs : List UInt8) (p : Nat) : (xs.drop p).take (xs.length - p) = xs.drop p := List.take_of_length_le (by simp)

set_option maxRecDepth 100000 in
set_option maxHeartbeats 4000000 in
theorem content_fn (dv : Value) (xs : List UInt8) (hx : xs.length ≤ 1000000000) : Ct Try.prog 101 [dv] [] [By dv xs]
    (X := Value × Value × List UInt8 × List UInt8 × Int) (fun x => whole xs.length xs = (x.2.2.1, x.2.2.2.1, x.2.2.2.2)) (fun x => .tuple #[x.1, x.2.1, .int .i64 x.2.2.2.2])
    (fun x => [.row x.1 5 1 x.2.2.1.length (x.2.2.1.map bcell)]) (fun x => [By x.2.1 x.2.2.2.1]) := by
  refine Ct_intro Try.func101 rfl Try.ntmps101 (by simp) _ rfl (fun w0 O0 => ?_)
  repeat (first | refine n1 ?_ | refine n2 (fun b _ => ?_) | refine n3 (fun _ _ => ?_) | refine n4 ?_ | refine n5 ?_ | refine WL_nil ?_ | refine W_seq ?_ | refine W_region ?_ | refine n7 ?_ | refine n8 ?_ | refine W_block ?_ | refine W_skip ?_ | refine W_ret ?_ | refine W_exit ?_ | refine WQ_then ?_ | refine WQ_then_ret ?_ | refine WQ_then_exit ?_ | refine WQ_block_normal ?_ | refine WQ_block_ret ?_ | refine WQ_block_exit ?_ | refine n9 ?_)
  apply W_nilRow 5 1
  ((apply W_loopK (X := Nat × List UInt8 × Value × Value × List UInt8) [2, 0] [0] (fun x => whole xs.length xs = wcat x.2.1 (whole x.1 x.2.2.2.2) ∧ x.2.2.2.2.length ≤ x.1 ∧ x.2.1.length + x.2.2.2.2.length ≤ 1000000000) (fun x => [(2, x.2.2.1), (0, x.2.2.2.1)]) (fun x => [.row x.2.2.1 5 1 x.2.1.length (x.2.1.map bcell)]) (fun x => [By x.2.2.2.1 x.2.2.2.2]) (fun x => x.1) ((xs.length, [], .slice none 0 0, dv, xs))); (focus (exact ⟨(wcat_nil _ (whole_err _ _)).symm, Nat.le_refl _, by simpa using hx⟩)); exact rfl; exact rfl; (intro _; exact rfl); (intro _; exact rfl); (intro _; exact rfl); (focus (repeat (first | exact FrIn.nil _ | (apply FrIn.cons; exact rfl; (first | exact rfl | (congr 1; first | omega | (dsimp only; omega)) | (simp; done)))))); (focus (repeat (first | exact SubO.nil _ | (apply SubO.cons; (focus (repeat' (first | exact Pick.head _ _ | apply Pick.tail))))))); (focus (repeat (first | exact AllE.nil _ | (apply AllE.cons; (focus (first | exact ent_nilBy | exact ent_nilSl | (apply Ent.mem; repeat' (first | exact mcs | apply mct)))))))); intro x hx)
  obtain ⟨k, acc, o, v, cur⟩ := x
  obtain ⟨hq, hk, hb⟩ := hx
  replace hq : whole xs.length xs = wcat acc (whole k cur) := hq
  replace hk : cur.length ≤ k := hk
  replace hb : acc.length + cur.length ≤ 1000000000 := hb
  dsimp only
  have hn := u8le (cur.getD 0 0)
  by_cases c1 : cur.length = 0
  · have e1 : whole k cur = ([], [], 10) := by
      cases k with
      | zero => rfl
      | succ k => rw [whole, if_pos (.inl c1)]
    rw [e1] at hq
    repeat (first | refine n1 ?_ | refine n2 (fun b _ => ?_) | refine n3 (fun _ _ => ?_) | refine n4 ?_ | refine n5 ?_ | refine WL_nil ?_ | refine W_seq ?_ | refine W_region ?_ | refine n7 ?_ | refine n8 ?_ | refine W_block ?_ | refine W_skip ?_ | refine W_ret ?_ | refine W_exit ?_ | refine WQ_then ?_ | refine WQ_then_ret ?_ | refine WQ_then_exit ?_ | refine WQ_block_normal ?_ | refine WQ_block_ret ?_ | refine WQ_block_exit ?_ | refine n9 ?_)
    apply WQ_nilRow 5 1
    ((apply ret3 Try.results101 ( (Value.slice none 0 0, Value.slice none 0 0, [], [], 10))); (focus (first | trivial | assumption | omega)); (focus (first | exact RV_tmp rfl | (apply RV_cellN; exact rfl; (repeat' (first | exact Pick.head _ _ | apply Pick.tail)); (intro _; exact rfl); (intro _; exact rfl); exact rfl) | (apply RV_cell1; exact rfl; (repeat' (first | exact Pick.head _ _ | apply Pick.tail)); (intro _; exact rfl); exact rfl))); (focus (first | exact RV_tmp rfl | (apply RV_cellN; exact rfl; (repeat' (first | exact Pick.head _ _ | apply Pick.tail)); (intro _; exact rfl); (intro _; exact rfl); exact rfl) | (apply RV_cell1; exact rfl; (repeat' (first | exact Pick.head _ _ | apply Pick.tail)); (intro _; exact rfl); exact rfl))); (focus (first | exact RV_tmp rfl | (apply RV_cellN; exact rfl; (repeat' (first | exact Pick.head _ _ | apply Pick.tail)); (intro _; exact rfl); (intro _; exact rfl); exact rfl) | (apply RV_cell1; exact rfl; (repeat' (first | exact Pick.head _ _ | apply Pick.tail)); (intro _; exact rfl); exact rfl)));  (focus (first | exact rfl | (simp; done))); (focus (repeat (first | exact SubO.nil _ | (apply SubO.cons; (focus (repeat' (first | exact Pick.head _ _ | apply Pick.tail))))))); (focus (repeat (first | exact AllE.nil _ | (apply AllE.cons; (focus (first | exact ent_nilBy | exact ent_nilSl | (apply Ent.mem; repeat' (first | exact mcs | apply mct)))))))))
  · obtain ⟨k, rfl⟩ : ∃ j, k = j + 1 := ⟨k - 1, by omega⟩
    by_cases c2 : cur.length - 1 < (cur.getD 0 0).toNat
    · have e1 : whole (k + 1) cur = ([], [], 10) := by rw [whole, if_pos (.inr c2)]
      rw [e1] at hq
      repeat (first | refine n1 ?_ | refine n2 (fun b _ => ?_) | refine n3 (fun _ _ => ?_) | refine n4 ?_ | refine n5 ?_ | refine WL_nil ?_ | refine W_seq ?_ | refine W_region ?_ | refine n7 ?_ | refine n8 ?_ | refine W_block ?_ | refine W_skip ?_ | refine W_ret ?_ | refine W_exit ?_ | refine WQ_then ?_ | refine WQ_then_ret ?_ | refine WQ_then_exit ?_ | refine WQ_block_normal ?_ | refine WQ_block_ret ?_ | refine WQ_block_exit ?_ | refine n9 ?_)
      apply WQ_nilRow 5 1
      ((apply ret3 Try.results101 ( (Value.slice none 0 0, Value.slice none 0 0, [], [], 10))); (focus (first | trivial | assumption | omega)); (focus (first | exact RV_tmp rfl | (apply RV_cellN; exact rfl; (repeat' (first | exact Pick.head _ _ | apply Pick.tail)); (intro _; exact rfl); (intro _; exact rfl); exact rfl) | (apply RV_cell1; exact rfl; (repeat' (first | exact Pick.head _ _ | apply Pick.tail)); (intro _; exact rfl); exact rfl))); (focus (first | exact RV_tmp rfl | (apply RV_cellN; exact rfl; (repeat' (first | exact Pick.head _ _ | apply Pick.tail)); (intro _; exact rfl); (intro _; exact rfl); exact rfl) | (apply RV_cell1; exact rfl; (repeat' (first | exact Pick.head _ _ | apply Pick.tail)); (intro _; exact rfl); exact rfl))); (focus (first | exact RV_tmp rfl | (apply RV_cellN; exact rfl; (repeat' (first | exact Pick.head _ _ | apply Pick.tail)); (intro _; exact rfl); (intro _; exact rfl); exact rfl) | (apply RV_cell1; exact rfl; (repeat' (first | exact Pick.head _ _ | apply Pick.tail)); (intro _; exact rfl); exact rfl)));  (focus (first | exact rfl | (simp; done))); (focus (repeat (first | exact SubO.nil _ | (apply SubO.cons; (focus (repeat' (first | exact Pick.head _ _ | apply Pick.tail))))))); (focus (repeat (first | exact AllE.nil _ | (apply AllE.cons; (focus (first | exact ent_nilBy | exact ent_nilSl | (apply Ent.mem; repeat' (first | exact mcs | apply mct)))))))))
    · have c3 : ¬ (cur.length = 0 ∨ cur.length - 1 < (cur.getD 0 0).toNat) := fun h => h.elim c1 c2
      rw [whole, if_neg c3] at hq
      repeat (first | refine n1 ?_ | refine n2 (fun b _ => ?_) | refine n3 (fun _ _ => ?_) | refine n4 ?_ | refine n5 ?_ | refine WL_nil ?_ | refine W_seq ?_ | refine W_region ?_ | refine n7 ?_ | refine n8 ?_ | refine W_block ?_ | refine W_skip ?_ | refine W_ret ?_ | refine W_exit ?_ | refine WQ_then ?_ | refine WQ_then_ret ?_ | refine WQ_then_exit ?_ | refine WQ_block_normal ?_ | refine WQ_block_ret ?_ | refine WQ_block_exit ?_ | refine n9 ?_)
      (refine W_regionP' [5] [] [0, 1, 2, 3, 4, 6, 7, 8, 9, 5, 10, 11] [0] (by kernel_rfl) (by kernel_rfl) (by repeat (first | exact UZ.nil _ _ | (apply UZ.cons; exact rfl; (intro _; exact rfl)))) (by exact rfl) (by (repeat (first | exact SubO.nil _ | (apply SubO.cons; (focus (repeat' (first | exact Pick.head _ _ | apply Pick.tail))))))) ?_)
      repeat (first | refine p1 ?_ | refine p2 (fun b _ => ?_) | refine p3 (fun _ _ => ?_) | refine p4 ?_ | refine p5 ?_ | refine p7 (fun b => ?_) | refine PL_nil ?_)
      (apply PL_effs; exact rfl; exact rfl; exact rfl; exact rfl; exact rfl; (apply E_appendBy; exact rfl; exact rfl; (repeat' (first | exact Pick.head _ _ | apply Pick.tail)); (repeat' (first | exact mcs | apply mct)); (first | exact nil_map | exact one_map _ | exact two_map _ _ | exact rfl); exact rfl; exact rfl; exact rfl; exact rfl; exact rfl; exact Nat.le_of_ble_eq_true rfl; (first | omega | (simp only [List.length_take, List.length_drop, List.length_append, List.length_cons, List.length_nil, List.length_map, List.length_replicate]; omega)); (focus (first | exact Nat.zero_add _ | exact rfl)); (focus ((try (conv => lhs; simp only [Nat.add_sub_cancel_left, Nat.sub_zero, List.drop_zero, List.nil_append])); (first | done | exact rfl)))); (intro _; (repeat (first | exact SubO.nil _ | (apply SubO.cons; (focus (repeat' (first | exact Pick.head _ _ | apply Pick.tail))))))); skip)
      intro o2 _
      repeat (first | refine p1 ?_ | refine p2 (fun b _ => ?_) | refine p3 (fun _ _ => ?_) | refine p4 ?_ | refine p5 ?_ | refine p7 (fun b => ?_) | refine PL_nil ?_)
      rw [take_end, ← List.length_append]
      by_cases c4 : (cur.getD 0 0).toNat < 255
      · rw [if_pos c4] at hq
        repeat (first | refine n1 ?_ | refine n2 (fun b _ => ?_) | refine n3 (fun _ _ => ?_) | refine n4 ?_ | refine n5 ?_ | refine WL_nil ?_ | refine W_seq ?_ | refine W_region ?_ | refine n7 ?_ | refine n8 ?_ | refine W_block ?_ | refine W_skip ?_ | refine W_ret ?_ | refine W_exit ?_ | refine WQ_then ?_ | refine WQ_then_ret ?_ | refine WQ_then_exit ?_ | refine WQ_block_normal ?_ | refine WQ_block_ret ?_ | refine WQ_block_exit ?_ | refine n9 ?_)
        ((apply ret3 Try.results101 ( (o2, cutV 1 (1 + (cur.getD 0 0).toNat) cur.length v, acc ++ (cur.drop 1).take (cur.getD 0 0).toNat, cur.drop (1 + (cur.getD 0 0).toNat), 0))); (focus (first | trivial | assumption | omega)); (focus (first | exact RV_tmp rfl | (apply RV_cellN; exact rfl; (repeat' (first | exact Pick.head _ _ | apply Pick.tail)); (intro _; exact rfl); (intro _; exact rfl); exact rfl) | (apply RV_cell1; exact rfl; (repeat' (first | exact Pick.head _ _ | apply Pick.tail)); (intro _; exact rfl); exact rfl))); (focus (first | exact RV_tmp rfl | (apply RV_cellN; exact rfl; (repeat' (first | exact Pick.head _ _ | apply Pick.tail)); (intro _; exact rfl); (intro _; exact rfl); exact rfl) | (apply RV_cell1; exact rfl; (repeat' (first | exact Pick.head _ _ | apply Pick.tail)); (intro _; exact rfl); exact rfl))); (focus (first | exact RV_tmp rfl | (apply RV_cellN; exact rfl; (repeat' (first | exact Pick.head _ _ | apply Pick.tail)); (intro _; exact rfl); (intro _; exact rfl); exact rfl) | (apply RV_cell1; exact rfl; (repeat' (first | exact Pick.head _ _ | apply Pick.tail)); (intro _; exact rfl); exact rfl)));  (focus (first | exact rfl | (simp; done))); (focus (repeat (first | exact SubO.nil _ | (apply SubO.cons; (focus (repeat' (first | exact Pick.head _ _ | apply Pick.tail))))))); (focus (repeat (first | exact AllE.nil _ | (apply AllE.cons; (focus (first | exact ent_nilBy | exact ent_nilSl | (apply Ent.mem; repeat' (first | exact mcs | apply mct)))))))))
      · rw [if_neg c4] at hq
        have c5 : (cur.getD 0 0).toNat = 255 := by omega
        rw [c5]
        have hl : (cur.drop (1 + 255)).length = cur.length - 256 := by rw [List.length_drop]
        by_cases c6 : cur.length = 256
        · rw [if_pos c6] at hq
          repeat (first | refine n1 ?_ | refine n2 (fun b _ => ?_) | refine n3 (fun _ _ => ?_) | refine n4 ?_ | refine n5 ?_ | refine WL_nil ?_ | refine W_seq ?_ | refine W_region ?_ | refine n7 ?_ | refine n8 ?_ | refine W_block ?_ | refine W_skip ?_ | refine W_ret ?_ | refine W_exit ?_ | refine WQ_then ?_ | refine WQ_then_ret ?_ | refine WQ_then_exit ?_ | refine WQ_block_normal ?_ | refine WQ_block_ret ?_ | refine WQ_block_exit ?_ | refine n9 ?_)
          apply WQ_nilRow 5 1
          ((apply ret3 Try.results101 ( (Value.slice none 0 0, Value.slice none 0 0, [], [], 10))); (focus (first | trivial | assumption | omega)); (focus (first | exact RV_tmp rfl | (apply RV_cellN; exact rfl; (repeat' (first | exact Pick.head _ _ | apply Pick.tail)); (intro _; exact rfl); (intro _; exact rfl); exact rfl) | (apply RV_cell1; exact rfl; (repeat' (first | exact Pick.head _ _ | apply Pick.tail)); (intro _; exact rfl); exact rfl))); (focus (first | exact RV_tmp rfl | (apply RV_cellN; exact rfl; (repeat' (first | exact Pick.head _ _ | apply Pick.tail)); (intro _; exact rfl); (intro _; exact rfl); exact rfl) | (apply RV_cell1; exact rfl; (repeat' (first | exact Pick.head _ _ | apply Pick.tail)); (intro _; exact rfl); exact rfl))); (focus (first | exact RV_tmp rfl | (apply RV_cellN; exact rfl; (repeat' (first | exact Pick.head _ _ | apply Pick.tail)); (intro _; exact rfl); (intro _; exact rfl); exact rfl) | (apply RV_cell1; exact rfl; (repeat' (first | exact Pick.head _ _ | apply Pick.tail)); (intro _; exact rfl); exact rfl)));  (focus (first | exact rfl | (simp; done))); (focus (repeat (first | exact SubO.nil _ | (apply SubO.cons; (focus (repeat' (first | exact Pick.head _ _ | apply Pick.tail))))))); (focus (repeat (first | exact AllE.nil _ | (apply AllE.cons; (focus (first | exact ent_nilBy | exact ent_nilSl | (apply Ent.mem; repeat' (first | exact mcs | apply mct)))))))))
        · rw [if_neg c6] at hq
          have hg : (cur.drop (1 + 255)).getD 0 0 = cur.getD 256 0 := getD_drop cur 256 0
          by_cases c7 : cur.getD 256 0 = 254
          · rw [if_neg (fun h => h c7)] at hq
            have c8 : ((cur.drop (1 + 255)).getD 0 0).toNat = 254 := by rw [hg, c7]; rfl
            repeat (first | refine n1 ?_ | refine n2 (fun b _ => ?_) | refine n3 (fun _ _ => ?_) | refine n4 ?_ | refine n5 ?_ | refine WL_nil ?_ | refine W_seq ?_ | refine W_region ?_ | refine n7 ?_ | refine n8 ?_ | refine W_block ?_ | refine W_skip ?_ | refine W_ret ?_ | refine W_exit ?_ | refine WQ_then ?_ | refine WQ_then_ret ?_ | refine WQ_then_exit ?_ | refine WQ_block_normal ?_ | refine WQ_block_ret ?_ | refine WQ_block_exit ?_ | refine n9 ?_)
            have hd : ((cur.drop (1 + 255)).drop 1).take ((cur.drop (1 + 255)).length - 1) = cur.drop 257 := by rw [take_end, List.drop_drop]
            rw [hd]
            have q1 : whole xs.length xs = wcat (acc ++ (cur.drop 1).take 255) (whole k (cur.drop 257)) := by rw [hq, wcat_wcat]
            have q2 : (cur.drop 257).length ≤ k := by
              rw [List.length_drop]
              omega
            have q3 : (acc ++ (cur.drop 1).take 255).length + (cur.drop 257).length ≤ 1000000000 := by
              simp only [List.length_append, List.length_take, List.length_drop]
              omega
            ((apply WQ_again ((k, acc ++ (cur.drop 1).take 255, o2, cutV 1 1 (cur.drop (1 + 255)).length (cutV 1 (1 + 255) cur.length v), cur.drop 257))); (focus exact ⟨q1, q2, q3⟩); (focus exact Nat.lt_succ_self k); (focus (repeat (first | exact FrIn.nil _ | (apply FrIn.cons; exact rfl; (first | exact rfl | (congr 1; first | omega | (dsimp only; omega)) | (simp; done)))))); (focus (repeat (first | exact SubO.nil _ | (apply SubO.cons; (focus (repeat' (first | exact Pick.head _ _ | apply Pick.tail))))))); (focus (repeat (first | exact AllE.nil _ | (apply AllE.cons; (focus (first | exact ent_nilBy | exact ent_nilSl | (apply Ent.mem; repeat' (first | exact mcs | apply mct)))))))))
          · rw [if_pos c7] at hq
            have c8 : ¬ ((cur.drop (1 + 255)).getD 0 0).toNat = 254 := by
              rw [hg]
              have := u8ne (n := 254) c7 (by decide)
              omega
            repeat (first | refine n1 ?_ | refine n2 (fun b _ => ?_) | refine n3 (fun _ _ => ?_) | refine n4 ?_ | refine n5 ?_ | refine WL_nil ?_ | refine W_seq ?_ | refine W_region ?_ | refine n7 ?_ | refine n8 ?_ | refine W_block ?_ | refine W_skip ?_ | refine W_ret ?_ | refine W_exit ?_ | refine WQ_then ?_ | refine WQ_then_ret ?_ | refine WQ_then_exit ?_ | refine WQ_block_normal ?_ | refine WQ_block_ret ?_ | refine WQ_block_exit ?_ | refine n9 ?_)
            apply WQ_nilRow 5 1
            ((apply ret3 Try.results101 ( (Value.slice none 0 0, Value.slice none 0 0, [], [], 12))); (focus (first | trivial | assumption | omega)); (focus (first | exact RV_tmp rfl | (apply RV_cellN; exact rfl; (repeat' (first | exact Pick.head _ _ | apply Pick.tail)); (intro _; exact rfl); (intro _; exact rfl); exact rfl) | (apply RV_cell1; exact rfl; (repeat' (first | exact Pick.head _ _ | apply Pick.tail)); (intro _; exact rfl); exact rfl))); (focus (first | exact RV_tmp rfl | (apply RV_cellN; exact rfl; (repeat' (first | exact Pick.head _ _ | apply Pick.tail)); (intro _; exact rfl); (intro _; exact rfl); exact rfl) | (apply RV_cell1; exact rfl; (repeat' (first | exact Pick.head _ _ | apply Pick.tail)); (intro _; exact rfl); exact rfl))); (focus (first | exact RV_tmp rfl | (apply RV_cellN; exact rfl; (repeat' (first | exact Pick.head _ _ | apply Pick.tail)); (intro _; exact rfl); (intro _; exact rfl); exact rfl) | (apply RV_cell1; exact rfl; (repeat' (first | exact Pick.head _ _ | apply Pick.tail)); (intro _; exact rfl); exact rfl)));  (focus (first | exact rfl | (simp; done))); (focus (repeat (first | exact SubO.nil _ | (apply SubO.cons; (focus (repeat' (first | exact Pick.head _ _ | apply Pick.tail))))))); (focus (repeat (first | exact AllE.nil _ | (apply AllE.cons; (focus (first | exact ent_nilBy | exact ent_nilSl | (apply Ent.mem; repeat' (first | exact mcs | apply mct)))))))))
end Go.Proofs.Ytoohgnegoaoleaa.C04

/-
  The content of an element, as the reference reads it.
-/
namespace Go.Proofs.Ytoohgnegoaoleaa.C04
open Go Go.RowKit Go.Hs
attribute [local irreducible] WL W WQ PL Runs Effs AllE Ent SubO FrIn Pick OneC Ones CellsE PartsE SeqE UZ By Sl Pt Ct

end Go.Proofs.Ytoohgnegoaoleaa.C04

/-
  What a list of elements is decoded to; small contracts.
-/
namespace Go.Proofs.Ytoohgnegoaoleaa.C04
open Go Go.RowKit Go.Hs
attribute [local irreducible] WL W WQ PL Runs Effs AllE Ent SubO FrIn Pick OneC Ones CellsE PartsE SeqE UZ By Sl Pt Ct

abbrev DR := Fo × Nat × Int
def fapp : Fo → Fo → Fo
  | .nil, u => u
  | .cons id ext data subs next, u => .cons id ext data subs (fapp next u)
theorem fapp_nil : ∀ (t : Fo), fapp t .nil = t
  | .nil => rfl
  | .cons _ _ _ _ next => by rw [fapp, fapp_nil next]
theorem fapp_assoc : ∀ (t u v : Fo), fapp (fapp t u) v = fapp t (fapp u v)
  | .nil, _, _ => rfl
  | .cons _ _ _ _ next, u, v => by simp only [fapp, fapp_assoc next u v]
theorem er_app : ∀ (t u : T), (t.app u).er = fapp t.er u.er
  | .nil, _ => rfl
  | .cons _ _ _ _ _ _ next, u => by simp only [T.app, T.er, fapp, er_app next u]
def dcat (acc : Fo) (q : DR) : DR := if q.2.2 = 0 then (fapp acc q.1, q.2) else (.nil, q.2)
theorem dcat_dcat (a b : Fo) (q : DR) : dcat a (dcat b q) = dcat (fapp a b) q := by
  unfold dcat
  by_cases h : q.2.2 = 0
  · simp [h, fapp_assoc]
  · simp [h]

def lim (id : UInt8) : Nat := if id = 255 then 1025 else 1024
def contB (id : UInt8) : Bool := decide (200 ≤ id.toNat) && decide (id.toNat < 220)
structure ON where
  id : UInt8
  ext : UInt8
  data : List UInt8
  subs : Fo
  rest : List UInt8
  many : Nat
  err : Int
/-- one element from the front of bytes. -/
def one1 (rec : List UInt8 → Nat → Nat → DR) (b : List UInt8) (depth many : Nat) : ON :=
  if many = 64 then ⟨0, 0, [], .nil, [], many, 4⟩
  else if b.getD 0 0 = 254 then ⟨0, 0, [], .nil, [], many + 1, 12⟩
  else if ¬ (whole (b.length - 1) (b.drop 1)).2.2 = 0 then ⟨b.getD 0 0, 0, [], .nil, [], many + 1, (whole (b.length - 1) (b.drop 1)).2.2⟩
  else if lim (b.getD 0 0) < (whole (b.length - 1) (b.drop 1)).1.length then ⟨b.getD 0 0, 0, [], .nil, [], many + 1, 11⟩
  else if b.getD 0 0 = 255 then
    (if (whole (b.length - 1) (b.drop 1)).1.length = 0 then ⟨b.getD 0 0, 0, [], .nil, [], many + 1, 12⟩
     else ⟨b.getD 0 0, (whole (b.length - 1) (b.drop 1)).1.getD 0 0, (whole (b.length - 1) (b.drop 1)).1.drop 1, .nil, (whole (b.length - 1) (b.drop 1)).2.1, many + 1, 0⟩)
  else if contB (b.getD 0 0) = false then ⟨b.getD 0 0, 0, (whole (b.length - 1) (b.drop 1)).1, .nil, (whole (b.length - 1) (b.drop 1)).2.1, many + 1, 0⟩
  else if depth = 4 ∧ 0 < (whole (b.length - 1) (b.drop 1)).1.length then ⟨b.getD 0 0, 0, [], .nil, [], many + 1, 4⟩
  else ⟨b.getD 0 0, 0, [], (rec (whole (b.length - 1) (b.drop 1)).1 (depth + 1) (many + 1)).1, (whole (b.length - 1) (b.drop 1)).2.1, (rec (whole (b.length - 1) (b.drop 1)).1 (depth + 1) (many + 1)).2.1, (rec (whole (b.length - 1) (b.drop 1)).1 (depth + 1) (many + 1)).2.2⟩
def dec : Nat → List UInt8 → Nat → Nat → DR
  | 0, _, _, m => (.nil, m, 0)
  | f + 1, b, d, m =>
    if b.length = 0 then (.nil, m, 0)
    else if ¬ (one1 (dec f) b d m).err = 0 then (.nil, (one1 (dec f) b d m).many, (one1 (dec f) b d m).err)
    else dcat (.cons (one1 (dec f) b d m).id (one1 (dec f) b d m).ext (one1 (dec f) b d m).data (one1 (dec f) b d m).subs .nil) (dec f (one1 (dec f) b d m).rest d (one1 (dec f) b d m).many)

theorem whole_len : ∀ (f : Nat) (b : List UInt8), (whole f b).2.2 = 0 → (whole f b).1.length + (whole f b).2.1.length + 1 ≤ b.length
  | 0, _, h => by cases h
  | f + 1, b, h => by
    have hn := u8le (b.getD 0 0)
    unfold whole at h ⊢
    split at h
    · cases h
    · next h1 =>
      rw [if_neg h1]
      split at h
      · next h2 =>
        rw [if_pos h2]
        simp only [List.length_take, List.length_drop]
        omega
      · next h2 =>
        rw [if_neg h2]
        split at h
        · cases h
        · next h3 =>
          rw [if_neg h3]
          split at h
          · cases h
          · next h4 =>
            rw [if_neg h4]
            unfold wcat at h ⊢
            split at h
            · next h5 =>
              rw [if_pos h5]
              have := whole_len f (b.drop 257) h5
              rw [List.length_drop] at this
              simp only [List.length_append, List.length_take, List.length_drop]
              omega
            · next h5 => exact absurd h h5
theorem one1_many {rec : List UInt8 → Nat → Nat → DR} {b : List UInt8} {d m : Nat} (hr : ∀ c d m, m ≤ 64 → (rec c d m).2.1 ≤ 64) (hm : m ≤ 64) : (one1 rec b d m).many ≤ 64 := by
  unfold one1
  split
  · exact hm
  · have := hr (whole (b.length - 1) (b.drop 1)).1 (d + 1) (m + 1) (by omega)
    repeat' split
    all_goals first | exact this | (show m + 1 ≤ 64; omega)
theorem dec_many : ∀ (f : Nat) (b : List UInt8) (d m : Nat), m ≤ 64 → (dec f b d m).2.1 ≤ 64
  | 0, _, _, m, h => h
  | f + 1, b, d, m, h => by
    have h1 := one1_many (rec := dec f) (b := b) (d := d) (fun c d m => dec_many f c d m) h
    have h2 := dec_many f (one1 (dec f) b d m).rest d (one1 (dec f) b d m).many h1
    unfold dec
    split
    · exact h
    · split
      · exact h1
      · unfold dcat
        split
        · exact h2
        · exact h2
theorem one1_rest {rec : List UInt8 → Nat → Nat → DR} {b : List UInt8} {d m : Nat} (h : (one1 rec b d m).err = 0) : (one1 rec b d m).rest.length + 2 ≤ b.length := by
  have key : (whole (b.length - 1) (b.drop 1)).2.2 = 0 → (whole (b.length - 1) (b.drop 1)).2.1.length + 2 ≤ b.length := fun h0 => by
    have := whole_len _ _ h0
    rw [List.length_drop] at this
    omega
  unfold one1 at h ⊢
  split at h
  · cases h
  · next h1 =>
    rw [if_neg h1]
    split at h
    · cases h
    · next h2 =>
      rw [if_neg h2]
      split at h
      · next h3 => exact absurd h h3
      · next h3 =>
        rw [if_neg h3]
        have h0 : (whole (b.length - 1) (b.drop 1)).2.2 = 0 := Decidable.not_not.1 h3
        have hk := key h0
        split at h
        · cases h
        · next h4 =>
          rw [if_neg h4]
          split at h
          · next h5 =>
            rw [if_pos h5]
            split at h
            · cases h
            · next h6 =>
              rw [if_neg h6]
              exact hk
          · next h5 =>
            rw [if_neg h5]
            split at h
            · next h6 =>
              rw [if_pos h6]
              exact hk
            · next h6 =>
              rw [if_neg h6]
              split at h
              · cases h
              · next h7 =>
                rw [if_neg h7]
                exact hk
theorem dec_nil (f d m : Nat) : dec f [] d m = (.nil, m, 0) := by
  cases f
  · rfl
  · exact if_pos rfl

set_option maxRecDepth 100000 in
theorem cont_fn (id : UInt8) : CtD Try.prog 102 [bcell id] [] (.bool (contB id)) := by
  by_cases h1 : 200 ≤ id.toNat
  · by_cases h2 : id.toNat < 220
    · rw [contB, decide_eq_true h1, decide_eq_true h2]
      refine Ct_intro Try.func102 rfl Try.ntmps102 (by simp) _ rfl (fun w0 O0 => ?_)
      repeat (first | refine n1 ?_ | refine n2 (fun b _ => ?_) | refine n3 (fun _ _ => ?_) | refine n4 ?_ | refine n5 ?_ | refine WL_nil ?_ | refine W_seq ?_ | refine W_region ?_ | refine n7 ?_ | refine n8 ?_ | refine W_block ?_ | refine W_skip ?_ | refine W_ret ?_ | refine W_exit ?_ | refine WQ_then ?_ | refine WQ_then_ret ?_ | refine WQ_then_exit ?_ | refine WQ_block_normal ?_ | refine WQ_block_ret ?_ | refine WQ_block_exit ?_ | refine n9 ?_)
      ((apply ret1 Try.results102 ( ())); (focus (first | trivial | assumption | omega)); (focus (first | exact RV_tmp rfl | (apply RV_cellN; exact rfl; (repeat' (first | exact Pick.head _ _ | apply Pick.tail)); (intro _; exact rfl); (intro _; exact rfl); exact rfl) | (apply RV_cell1; exact rfl; (repeat' (first | exact Pick.head _ _ | apply Pick.tail)); (intro _; exact rfl); exact rfl)));  (focus (first | exact rfl | (simp; done))); (focus (repeat (first | exact SubO.nil _ | (apply SubO.cons; (focus (repeat' (first | exact Pick.head _ _ | apply Pick.tail))))))); (focus (repeat (first | exact AllE.nil _ | (apply AllE.cons; (focus (first | exact ent_nilBy | exact ent_nilSl | (apply Ent.mem; repeat' (first | exact mcs | apply mct)))))))))
    · rw [contB, decide_eq_true h1, decide_eq_false h2]
      refine Ct_intro Try.func102 rfl Try.ntmps102 (by simp) _ rfl (fun w0 O0 => ?_)
      repeat (first | refine n1 ?_ | refine n2 (fun b _ => ?_) | refine n3 (fun _ _ => ?_) | refine n4 ?_ | refine n5 ?_ | refine WL_nil ?_ | refine W_seq ?_ | refine W_region ?_ | refine n7 ?_ | refine n8 ?_ | refine W_block ?_ | refine W_skip ?_ | refine W_ret ?_ | refine W_exit ?_ | refine WQ_then ?_ | refine WQ_then_ret ?_ | refine WQ_then_exit ?_ | refine WQ_block_normal ?_ | refine WQ_block_ret ?_ | refine WQ_block_exit ?_ | refine n9 ?_)
      ((apply ret1 Try.results102 ( ())); (focus (first | trivial | assumption | omega)); (focus (first | exact RV_tmp rfl | (apply RV_cellN; exact rfl; (repeat' (first | exact Pick.head _ _ | apply Pick.tail)); (intro _; exact rfl); (intro _; exact rfl); exact rfl) | (apply RV_cell1; exact rfl; (repeat' (first | exact Pick.head _ _ | apply Pick.tail)); (intro _; exact rfl); exact rfl)));  (focus (first | exact rfl | (simp; done))); (focus (repeat (first | exact SubO.nil _ | (apply SubO.cons; (focus (repeat' (first | exact Pick.head _ _ | apply Pick.tail))))))); (focus (repeat (first | exact AllE.nil _ | (apply AllE.cons; (focus (first | exact ent_nilBy | exact ent_nilSl | (apply Ent.mem; repeat' (first | exact mcs | apply mct)))))))))
  · rw [contB, decide_eq_false h1]
    refine Ct_intro Try.func102 rfl Try.ntmps102 (by simp) _ rfl (fun w0 O0 => ?_)
    repeat (first | refine n1 ?_ | refine n2 (fun b _ => ?_) | refine n3 (fun _ _ => ?_) | refine n4 ?_ | refine n5 ?_ | refine WL_nil ?_ | refine W_seq ?_ | refine W_region ?_ | refine n7 ?_ | refine n8 ?_ | refine W_block ?_ | refine W_skip ?_ | refine W_ret ?_ | refine W_exit ?_ | refine WQ_then ?_ | refine WQ_then_ret ?_ | refine WQ_then_exit ?_ | refine WQ_block_normal ?_ | refine WQ_block_ret ?_ | refine WQ_block_exit ?_ | refine n9 ?_)
    ((apply ret1 Try.results102 ( ())); (focus (first | trivial | assumption | omega)); (focus (first | exact RV_tmp rfl | (apply RV_cellN; exact rfl; (repeat' (first | exact Pick.head _ _ | apply Pick.tail)); (intro _; exact rfl); (intro _; exact rfl); exact rfl) | (apply RV_cell1; exact rfl; (repeat' (first | exact Pick.head _ _ | apply Pick.tail)); (intro _; exact rfl); exact rfl)));  (focus (first | exact rfl | (simp; done))); (focus (repeat (first | exact SubO.nil _ | (apply SubO.cons; (focus (repeat' (first | exact Pick.head _ _ | apply Pick.tail))))))); (focus (repeat (first | exact AllE.nil _ | (apply AllE.cons; (focus (first | exact ent_nilBy | exact ent_nilSl | (apply Ent.mem; repeat' (first | exact mcs | apply mct)))))))))
set_option maxRecDepth 100000 in
theorem rcont_fn (id : UInt8) : CtD Try.prog 98 [bcell id] [] (.bool (contB id)) := by
  by_cases h1 : 200 ≤ id.toNat
  · by_cases h2 : id.toNat < 220
    · rw [contB, decide_eq_true h1, decide_eq_true h2]
      refine Ct_intro Try.func98 rfl Try.ntmps98 (by simp) _ rfl (fun w0 O0 => ?_)
      repeat (first | refine n1 ?_ | refine n2 (fun b _ => ?_) | refine n3 (fun _ _ => ?_) | refine n4 ?_ | refine n5 ?_ | refine WL_nil ?_ | refine W_seq ?_ | refine W_region ?_ | refine n7 ?_ | refine n8 ?_ | refine W_block ?_ | refine W_skip ?_ | refine W_ret ?_ | refine W_exit ?_ | refine WQ_then ?_ | refine WQ_then_ret ?_ | refine WQ_then_exit ?_ | refine WQ_block_normal ?_ | refine WQ_block_ret ?_ | refine WQ_block_exit ?_ | refine n9 ?_)
      ((apply ret1 Try.results98 ( ())); (focus (first | trivial | assumption | omega)); (focus (first | exact RV_tmp rfl | (apply RV_cellN; exact rfl; (repeat' (first | exact Pick.head _ _ | apply Pick.tail)); (intro _; exact rfl); (intro _; exact rfl); exact rfl) | (apply RV_cell1; exact rfl; (repeat' (first | exact Pick.head _ _ | apply Pick.tail)); (intro _; exact rfl); exact rfl)));  (focus (first | exact rfl | (simp; done))); (focus (repeat (first | exact SubO.nil _ | (apply SubO.cons; (focus (repeat' (first | exact Pick.head _ _ | apply Pick.tail))))))); (focus (repeat (first | exact AllE.nil _ | (apply AllE.cons; (focus (first | exact ent_nilBy | exact ent_nilSl | (apply Ent.mem; repeat' (first | exact mcs | apply mct)))))))))
    · rw [contB, decide_eq_true h1, decide_eq_false h2]
      refine Ct_intro Try.func98 rfl Try.ntmps98 (by simp) _ rfl (fun w0 O0 => ?_)
      repeat (first | refine n1 ?_ | refine n2 (fun b _ => ?_) | refine n3 (fun _ _ => ?_) | refine n4 ?_ | refine n5 ?_ | refine WL_nil ?_ | refine W_seq ?_ | refine W_region ?_ | refine n7 ?_ | refine n8 ?_ | refine W_block ?_ | refine W_skip ?_ | refine W_ret ?_ | refine W_exit ?_ | refine WQ_then ?_ | refine WQ_then_ret ?_ | refine WQ_then_exit ?_ | refine WQ_block_normal ?_ | refine WQ_block_ret ?_ | refine WQ_block_exit ?_ | refine n9 ?_)
      ((apply ret1 Try.results98 ( ())); (focus (first | trivial | assumption | omega)); (focus (first | exact RV_tmp rfl | (apply RV_cellN; exact rfl; (repeat' (first | exact Pick.head _ _ | apply Pick.tail)); (intro _; exact rfl); (intro _; exact rfl); exact rfl) | (apply RV_cell1; exact rfl; (repeat' (first | exact Pick.head _ _ | apply Pick.tail)); (intro _; exact rfl); exact rfl)));  (focus (first | exact rfl | (simp; done))); (focus (repeat (first | exact SubO.nil _ | (apply SubO.cons; (focus (repeat' (first | exact Pick.head _ _ | apply Pick.tail))))))); (focus (repeat (first | exact AllE.nil _ | (apply AllE.cons; (focus (first | exact ent_nilBy | exact ent_nilSl | (apply Ent.mem; repeat' (first | exact mcs | apply mct)))))))))
  · rw [contB, decide_eq_false h1]
    refine Ct_intro Try.func98 rfl Try.ntmps98 (by simp) _ rfl (fun w0 O0 => ?_)
    repeat (first | refine n1 ?_ | refine n2 (fun b _ => ?_) | refine n3 (fun _ _ => ?_) | refine n4 ?_ | refine n5 ?_ | refine WL_nil ?_ | refine W_seq ?_ | refine W_region ?_ | refine n7 ?_ | refine n8 ?_ | refine W_block ?_ | refine W_skip ?_ | refine W_ret ?_ | refine W_exit ?_ | refine WQ_then ?_ | refine WQ_then_ret ?_ | refine WQ_then_exit ?_ | refine WQ_block_normal ?_ | refine WQ_block_ret ?_ | refine WQ_block_exit ?_ | refine n9 ?_)
    ((apply ret1 Try.results98 ( ())); (focus (first | trivial | assumption | omega)); (focus (first | exact RV_tmp rfl | (apply RV_cellN; exact rfl; (repeat' (first | exact Pick.head _ _ | apply Pick.tail)); (intro _; exact rfl); (intro _; exact rfl); exact rfl) | (apply RV_cell1; exact rfl; (repeat' (first | exact Pick.head _ _ | apply Pick.tail)); (intro _; exact rfl); exact rfl)));  (focus (first | exact rfl | (simp; done))); (focus (repeat (first | exact SubO.nil _ | (apply SubO.cons; (focus (repeat' (first | exact Pick.head _ _ | apply Pick.tail))))))); (focus (repeat (first | exact AllE.nil _ | (apply AllE.cons; (focus (first | exact ent_nilBy | exact ent_nilSl | (apply Ent.mem; repeat' (first | exact mcs | apply mct)))))))))

set_option maxRecDepth 100000 in
theorem cloneB_fn (v : Value) (xs : List UInt8) (hx : xs.length ≤ 1000000000) : Ct Try.prog 103 [v] [] [By v xs] (X := Value) (fun _ => True) (fun x => x) (fun x => [.row x 5 1 xs.length (xs.map bcell)]) (fun _ => []) := by
  cases h : isNilV v with
  | true =>
    refine Ct_intro Try.func103 rfl Try.ntmps103 (by simp) _ rfl (fun w0 O0 => ?_)
    refine W_pure (by_nil h (by repeat' (first | exact mcs | apply mct))) fun e => ?_
    subst e
    repeat (first | refine n1 ?_ | refine n2 (fun b _ => ?_) | refine n3 (fun _ _ => ?_) | refine n4 ?_ | refine n5 ?_ | refine WL_nil ?_ | refine W_seq ?_ | refine W_region ?_ | refine n7 ?_ | refine n8 ?_ | refine W_block ?_ | refine W_skip ?_ | refine W_ret ?_ | refine W_exit ?_ | refine WQ_then ?_ | refine WQ_then_ret ?_ | refine WQ_then_exit ?_ | refine WQ_block_normal ?_ | refine WQ_block_ret ?_ | refine WQ_block_exit ?_ | refine n9 ?_)
    refine WL_runs rfl rfl rfl (R_eqNilB rfl rfl (by repeat' (first | exact mcs | apply mct)) rfl) ?_
    rw [h]
    repeat (first | refine n1 ?_ | refine n2 (fun b _ => ?_) | refine n3 (fun _ _ => ?_) | refine n4 ?_ | refine n5 ?_ | refine WL_nil ?_ | refine W_seq ?_ | refine W_region ?_ | refine n7 ?_ | refine n8 ?_ | refine W_block ?_ | refine W_skip ?_ | refine W_ret ?_ | refine W_exit ?_ | refine WQ_then ?_ | refine WQ_then_ret ?_ | refine WQ_then_exit ?_ | refine WQ_block_normal ?_ | refine WQ_block_ret ?_ | refine WQ_block_exit ?_ | refine n9 ?_)
    apply WQ_nilRow 5 1
    ((apply ret1 Try.results103 ( Value.slice none 0 0)); (focus (first | trivial | assumption | omega)); (focus (first | exact RV_tmp rfl | (apply RV_cellN; exact rfl; (repeat' (first | exact Pick.head _ _ | apply Pick.tail)); (intro _; exact rfl); (intro _; exact rfl); exact rfl) | (apply RV_cell1; exact rfl; (repeat' (first | exact Pick.head _ _ | apply Pick.tail)); (intro _; exact rfl); exact rfl)));  (focus (first | exact rfl | (simp; done))); (focus (repeat (first | exact SubO.nil _ | (apply SubO.cons; (focus (repeat' (first | exact Pick.head _ _ | apply Pick.tail))))))); (focus (repeat (first | exact AllE.nil _ | (apply AllE.cons; (focus (first | exact ent_nilBy | exact ent_nilSl | (apply Ent.mem; repeat' (first | exact mcs | apply mct)))))))))
  | false =>
    refine Ct_intro Try.func103 rfl Try.ntmps103 (by simp) _ rfl (fun w0 O0 => ?_)
    repeat (first | refine n1 ?_ | refine n2 (fun b _ => ?_) | refine n3 (fun _ _ => ?_) | refine n4 ?_ | refine n5 ?_ | refine WL_nil ?_ | refine W_seq ?_ | refine W_region ?_ | refine n7 ?_ | refine n8 ?_ | refine W_block ?_ | refine W_skip ?_ | refine W_ret ?_ | refine W_exit ?_ | refine WQ_then ?_ | refine WQ_then_ret ?_ | refine WQ_then_exit ?_ | refine WQ_block_normal ?_ | refine WQ_block_ret ?_ | refine WQ_block_exit ?_ | refine n9 ?_)
    refine WL_runs rfl rfl rfl (R_eqNilB rfl rfl (by repeat' (first | exact mcs | apply mct)) rfl) ?_
    rw [h]
    repeat (first | refine n1 ?_ | refine n2 (fun b _ => ?_) | refine n3 (fun _ _ => ?_) | refine n4 ?_ | refine n5 ?_ | refine WL_nil ?_ | refine W_seq ?_ | refine W_region ?_ | refine n7 ?_ | refine n8 ?_ | refine W_block ?_ | refine W_skip ?_ | refine W_ret ?_ | refine W_exit ?_ | refine WQ_then ?_ | refine WQ_then_ret ?_ | refine WQ_then_exit ?_ | refine WQ_block_normal ?_ | refine WQ_block_ret ?_ | refine WQ_block_exit ?_ | refine n9 ?_)
    (apply WL_effs; exact rfl; exact rfl; exact rfl; (apply E_buildSlice; exact rfl; (focus (repeat (first | apply SeqE.nil | (apply SeqE.cons; exact rfl; (focus (first | (apply CellsE.lit; exact rfl) | (apply CellsE.one; (first | (apply OneC.lit; exact rfl) | (apply OneC.by_; (repeat' (first | exact mcs | apply mct)); done) | (apply OneC.sl; (repeat' (first | exact mcs | apply mct)); done) | (apply OneC.rw; (repeat' (first | exact mcs | apply mct)); done) | (apply OneC.row; (repeat' (first | exact Pick.head _ _ | apply Pick.tail))))))); exact rfl) | exact rfl))); exact rfl; (first | (intro _; exact (rfl : _ = Result.ok 1 _)) | (intro _; exact (rfl : _ = Result.ok 2 _)) | (intro _; exact (rfl : _ = Result.ok 3 _)) | (intro _; exact (rfl : _ = Result.ok 4 _)) | (intro _; exact (rfl : _ = Result.ok 5 _)) | (intro _; exact (rfl : _ = Result.ok 6 _)) | (intro _; exact (rfl : _ = Result.ok 7 _)) | (intro _; exact (rfl : _ = Result.ok 8 _)) | (intro _; exact (rfl : _ = Result.ok 9 _)) | (intro _; exact (rfl : _ = Result.ok 13 _)) | (intro _; exact (rfl : _ = Result.ok 14 _)) | (intro _; exact (rfl : _ = Result.ok 26 _)) | (intro _; exact (rfl : _ = Result.ok 40 _)) | (intro _; exact (rfl : _ = Result.ok 41 _)) | (intro _; exact (rfl : _ = Result.ok 42 _)) | (intro _; exact (rfl : _ = Result.ok 43 _)) | (intro _; exact (rfl : _ = Result.ok 44 _)) | (intro _; exact (rfl : _ = Result.ok 45 _)) | (intro _; exact (rfl : _ = Result.ok 46 _))); (intro _; exact rfl); exact rfl; exact Nat.le_of_ble_eq_true rfl; exact Nat.le_of_ble_eq_true rfl); skip)
    intro q _
    repeat (first | refine n1 ?_ | refine n2 (fun b _ => ?_) | refine n3 (fun _ _ => ?_) | refine n4 ?_ | refine n5 ?_ | refine WL_nil ?_ | refine W_seq ?_ | refine W_region ?_ | refine n7 ?_ | refine n8 ?_ | refine W_block ?_ | refine W_skip ?_ | refine W_ret ?_ | refine W_exit ?_ | refine WQ_then ?_ | refine WQ_then_ret ?_ | refine WQ_then_exit ?_ | refine WQ_block_normal ?_ | refine WQ_block_ret ?_ | refine WQ_block_exit ?_ | refine n9 ?_)
    refine WL_effs rfl rfl rfl (E_appendBy (bs := []) rfl rfl (by repeat' (first | exact Pick.head _ _ | apply Pick.tail)) (by repeat' (first | exact mcs | apply mct)) rfl rfl rfl rfl rfl rfl (Nat.le_of_ble_eq_true rfl) (by omega) (Nat.zero_add _) rfl) ?_
    intro o _
    rw [List.nil_append]
    repeat (first | refine n1 ?_ | refine n2 (fun b _ => ?_) | refine n3 (fun _ _ => ?_) | refine n4 ?_ | refine n5 ?_ | refine WL_nil ?_ | refine W_seq ?_ | refine W_region ?_ | refine n7 ?_ | refine n8 ?_ | refine W_block ?_ | refine W_skip ?_ | refine W_ret ?_ | refine W_exit ?_ | refine WQ_then ?_ | refine WQ_then_ret ?_ | refine WQ_then_exit ?_ | refine WQ_block_normal ?_ | refine WQ_block_ret ?_ | refine WQ_block_exit ?_ | refine n9 ?_)
    ((apply ret1 Try.results103 ( o)); (focus (first | trivial | assumption | omega)); (focus (first | exact RV_tmp rfl | (apply RV_cellN; exact rfl; (repeat' (first | exact Pick.head _ _ | apply Pick.tail)); (intro _; exact rfl); (intro _; exact rfl); exact rfl) | (apply RV_cell1; exact rfl; (repeat' (first | exact Pick.head _ _ | apply Pick.tail)); (intro _; exact rfl); exact rfl)));  (focus (first | exact rfl | (simp; done))); (focus (repeat (first | exact SubO.nil _ | (apply SubO.cons; (focus (repeat' (first | exact Pick.head _ _ | apply Pick.tail))))))); (focus (repeat (first | exact AllE.nil _ | (apply AllE.cons; (focus (first | exact ent_nilBy | exact ent_nilSl | (apply Ent.mem; repeat' (first | exact mcs | apply mct)))))))))
end Go.Proofs.Ytoohgnegoaoleaa.C04

/-
  Contracts of the decoder's functions: one element, a list.
-/
namespace Go.Proofs.Ytoohgnegoaoleaa.C04
open Go Go.RowKit Go.Hs
attribute [local irreducible] WL W WQ PL Runs Effs AllE Ent SubO FrIn Pick OneC Ones CellsE PartsE SeqE UZ By Sl Pt Ct

structure OX where
  id : UInt8
  ext : UInt8
  dv : Value
  data : List UInt8
  sv : Value
  subs : T
  rv : Value
  rest : List UInt8
  many : Nat
  err : Int

def ListCt (f : Nat) : Prop := ∀ (d : Nat) (v : Value) (xs : List UInt8) (dep m : Nat), xs.length ≤ f → xs.length ≤ 1000000000 → (dep ≤ 4 ∨ xs.length = 0) → m ≤ 64 →
  Ct Try.prog 79 [.pointer (some ⟨d, 0, none⟩), v, .int .i64 (dep : Int)] [.blk d 156 [.int .i64 (m : Int)]] [By v xs]
    (X := Value × T × Nat × Int) (fun x => dec f xs dep m = (x.2.1.er, x.2.2.1, x.2.2.2)) (fun x => .tuple #[x.1, .int .i64 x.2.2.2])
    (fun x => [.row x.1 106 4 x.2.1.len x.2.1.cells, pk (rowsL 5 x.2.1.dls), .blk d 156 [.int .i64 (x.2.2.1 : Int)]]) (fun x => [x.2.1.ts])

theorem WQ_none {C : Ctx} {fr : Fr} {Γ : List OA} {Φ : List SP} {Q : Exit → Act → World → Prop} {e : Exit}
    (h : WQ C e fr (.row (.slice none 0 0) 5 1 0 [] :: Γ) (T.nil.tf :: Rw 4 (.slice none 0 0) T.nil.len T.nil.at_ :: Φ) Q) : WQ C e fr Γ Φ Q :=
  WQ_nilRow _ _ (WQ_ent ent_nilRw (WQ_ent ent_tf0 h))

set_option maxRecDepth 100000 in
set_option maxHeartbeats 8000000 in
theorem one_fn (f : Nat) (IH : ListCt f) (d : Nat) (v : Value) (xs : List UInt8) (dep m : Nat) (h0 : 0 < xs.length) (hf : xs.length ≤ f + 1) (hx : xs.length ≤ 1000000000) (hd : dep ≤ 4) (hm : m ≤ 64) :
    Ct Try.prog 91 [.pointer (some ⟨d, 0, none⟩), v, .int .i64 (dep : Int)] [.blk d 156 [.int .i64 (m : Int)]] [By v xs]
      (X := OX) (fun x => one1 (dec f) xs dep m = ⟨x.id, x.ext, x.data, x.subs.er, x.rest, x.many, x.err⟩) (fun x => .tuple #[.agg #[bcell x.id, bcell x.ext, x.dv, x.sv], x.rv, .int .i64 x.err])
      (fun x => [.row x.dv 5 1 x.data.length (x.data.map bcell), .blk d 156 [.int .i64 (x.many : Int)]]) (fun x => [Rw 4 x.sv x.subs.len x.subs.at_, x.subs.tf, By x.rv x.rest]) := by
  refine Ct_intro Try.func91 rfl Try.ntmps91 (by simp) _ rfl (fun w0 O0 => ?_)
  by_cases c1 : m = 64
  · have e1 : one1 (dec f) xs dep m = ⟨0, 0, [], .nil, [], m, 4⟩ := if_pos c1
    repeat (first | refine n1 ?_ | refine n2 (fun b _ => ?_) | refine n3 (fun _ _ => ?_) | refine n4 ?_ | refine n5 ?_ | refine WL_nil ?_ | refine W_seq ?_ | refine W_region ?_ | refine n7 ?_ | refine n8 ?_ | refine W_block ?_ | refine W_skip ?_ | refine W_ret ?_ | refine W_exit ?_ | refine WQ_then ?_ | refine WQ_then_ret ?_ | refine WQ_then_exit ?_ | refine WQ_block_normal ?_ | refine WQ_block_ret ?_ | refine WQ_block_exit ?_ | refine n9 ?_)
    apply WQ_none
    ((apply ret3 Try.results91 ( (⟨0, 0, .slice none 0 0, [], .slice none 0 0, .nil, .slice none 0 0, [], m, 4⟩ : OX))); (focus (first | trivial | assumption | omega)); (focus (first | exact RV_tmp rfl | (apply RV_cellN; exact rfl; (repeat' (first | exact Pick.head _ _ | apply Pick.tail)); (intro _; exact rfl); (intro _; exact rfl); exact rfl) | (apply RV_cell1; exact rfl; (repeat' (first | exact Pick.head _ _ | apply Pick.tail)); (intro _; exact rfl); exact rfl))); (focus (first | exact RV_tmp rfl | (apply RV_cellN; exact rfl; (repeat' (first | exact Pick.head _ _ | apply Pick.tail)); (intro _; exact rfl); (intro _; exact rfl); exact rfl) | (apply RV_cell1; exact rfl; (repeat' (first | exact Pick.head _ _ | apply Pick.tail)); (intro _; exact rfl); exact rfl))); (focus (first | exact RV_tmp rfl | (apply RV_cellN; exact rfl; (repeat' (first | exact Pick.head _ _ | apply Pick.tail)); (intro _; exact rfl); (intro _; exact rfl); exact rfl) | (apply RV_cell1; exact rfl; (repeat' (first | exact Pick.head _ _ | apply Pick.tail)); (intro _; exact rfl); exact rfl)));  (focus (first | exact rfl | (simp; done))); (focus (repeat (first | exact SubO.nil _ | (apply SubO.cons; (focus (repeat' (first | exact Pick.head _ _ | apply Pick.tail))))))); (focus (repeat (first | exact AllE.nil _ | (apply AllE.cons; (focus (first | exact ent_nilBy | exact ent_nilSl | (apply Ent.mem; repeat' (first | exact mcs | apply mct)))))))))
  · have hl : (xs.drop 1).length = xs.length - 1 := List.length_drop
    by_cases c2 : xs.getD 0 0 = 254
    · have e1 : one1 (dec f) xs dep m = ⟨0, 0, [], .nil, [], m + 1, 12⟩ := by rw [one1, if_neg c1, if_pos c2]
      have c2' : (xs.getD 0 0).toNat = 254 := by
        rw [c2]
        rfl
      repeat (first | refine n1 ?_ | refine n2 (fun b _ => ?_) | refine n3 (fun _ _ => ?_) | refine n4 ?_ | refine n5 ?_ | refine WL_nil ?_ | refine W_seq ?_ | refine W_region ?_ | refine n7 ?_ | refine n8 ?_ | refine W_block ?_ | refine W_skip ?_ | refine W_ret ?_ | refine W_exit ?_ | refine WQ_then ?_ | refine WQ_then_ret ?_ | refine WQ_then_exit ?_ | refine WQ_block_normal ?_ | refine WQ_block_ret ?_ | refine WQ_block_exit ?_ | refine n9 ?_)
      apply WQ_none
      ((apply ret3 Try.results91 ( (⟨0, 0, .slice none 0 0, [], .slice none 0 0, .nil, .slice none 0 0, [], m + 1, 12⟩ : OX))); (focus (first | trivial | assumption | omega)); (focus (first | exact RV_tmp rfl | (apply RV_cellN; exact rfl; (repeat' (first | exact Pick.head _ _ | apply Pick.tail)); (intro _; exact rfl); (intro _; exact rfl); exact rfl) | (apply RV_cell1; exact rfl; (repeat' (first | exact Pick.head _ _ | apply Pick.tail)); (intro _; exact rfl); exact rfl))); (focus (first | exact RV_tmp rfl | (apply RV_cellN; exact rfl; (repeat' (first | exact Pick.head _ _ | apply Pick.tail)); (intro _; exact rfl); (intro _; exact rfl); exact rfl) | (apply RV_cell1; exact rfl; (repeat' (first | exact Pick.head _ _ | apply Pick.tail)); (intro _; exact rfl); exact rfl))); (focus (first | exact RV_tmp rfl | (apply RV_cellN; exact rfl; (repeat' (first | exact Pick.head _ _ | apply Pick.tail)); (intro _; exact rfl); (intro _; exact rfl); exact rfl) | (apply RV_cell1; exact rfl; (repeat' (first | exact Pick.head _ _ | apply Pick.tail)); (intro _; exact rfl); exact rfl)));  (focus (first | exact rfl | (simp; done))); (focus (repeat (first | exact SubO.nil _ | (apply SubO.cons; (focus (repeat' (first | exact Pick.head _ _ | apply Pick.tail))))))); (focus (repeat (first | exact AllE.nil _ | (apply AllE.cons; (focus (first | exact ent_nilBy | exact ent_nilSl | (apply Ent.mem; repeat' (first | exact mcs | apply mct)))))))))
    · have c2' : ¬ (xs.getD 0 0).toNat = 254 := by
        have := u8ne (n := 254) c2 (by decide)
        omega
      repeat (first | refine n1 ?_ | refine n2 (fun b _ => ?_) | refine n3 (fun _ _ => ?_) | refine n4 ?_ | refine n5 ?_ | refine WL_nil ?_ | refine W_seq ?_ | refine W_region ?_ | refine n7 ?_ | refine n8 ?_ | refine W_block ?_ | refine W_skip ?_ | refine W_ret ?_ | refine W_exit ?_ | refine WQ_then ?_ | refine WQ_then_ret ?_ | refine WQ_then_exit ?_ | refine WQ_block_normal ?_ | refine WQ_block_ret ?_ | refine WQ_block_exit ?_ | refine n9 ?_)
      rw [take_end]
      (apply WL_effs; exact rfl; exact rfl; exact rfl; apply E_call; exact rfl; (intro _ _; simp); (exact content_fn _ (xs.drop 1) (by omega)); (repeat (first | exact AllE.nil _ | (apply AllE.cons; (focus (first | exact ent_nilBy | exact ent_nilSl | (apply Ent.mem; repeat' (first | exact mcs | apply mct))))))); (intro _; exact rfl); (intro _; exact rfl))
      rintro ⟨cv, rv, c, rs, e⟩ hq
      dsimp only
      refine WL_letgoB (v := cv) (by repeat' (first | exact Pick.head _ _ | apply Pick.tail)) rfl ?_
      replace hq : whole (xs.drop 1).length (xs.drop 1) = (c, rs, e) := hq
      rw [hl] at hq
      by_cases c3 : e = 0
      · subst c3
        have hw := whole_len _ _ (show (whole (xs.length - 1) (xs.drop 1)).2.2 = 0 by rw [hq])
        rw [hq] at hw
        replace hw : c.length + rs.length + 1 ≤ (xs.drop 1).length := hw
        by_cases c4 : xs.getD 0 0 = 255
        · have c4' : (xs.getD 0 0).toNat = 255 := by
            rw [c4]
            rfl
          by_cases c5 : 1025 < c.length
          · have e1 : one1 (dec f) xs dep m = ⟨xs.getD 0 0, 0, [], .nil, [], m + 1, 11⟩ := by
              rw [one1, if_neg c1, if_neg c2, hq, if_neg (fun h => h rfl), if_pos (show lim (xs.getD 0 0) < c.length by rw [lim, if_pos c4]; exact c5)]
            repeat (first | refine n1 ?_ | refine n2 (fun b _ => ?_) | refine n3 (fun _ _ => ?_) | refine n4 ?_ | refine n5 ?_ | refine WL_nil ?_ | refine W_seq ?_ | refine W_region ?_ | refine n7 ?_ | refine n8 ?_ | refine W_block ?_ | refine W_skip ?_ | refine W_ret ?_ | refine W_exit ?_ | refine WQ_then ?_ | refine WQ_then_ret ?_ | refine WQ_then_exit ?_ | refine WQ_block_normal ?_ | refine WQ_block_ret ?_ | refine WQ_block_exit ?_ | refine n9 ?_)
            apply WQ_none
            ((apply ret3 Try.results91 ( (⟨xs.getD 0 0, 0, .slice none 0 0, [], .slice none 0 0, .nil, .slice none 0 0, [], m + 1, 11⟩ : OX))); (focus (first | trivial | assumption | omega)); (focus (first | exact RV_tmp rfl | (apply RV_cellN; exact rfl; (repeat' (first | exact Pick.head _ _ | apply Pick.tail)); (intro _; exact rfl); (intro _; exact rfl); exact rfl) | (apply RV_cell1; exact rfl; (repeat' (first | exact Pick.head _ _ | apply Pick.tail)); (intro _; exact rfl); exact rfl))); (focus (first | exact RV_tmp rfl | (apply RV_cellN; exact rfl; (repeat' (first | exact Pick.head _ _ | apply Pick.tail)); (intro _; exact rfl); (intro _; exact rfl); exact rfl) | (apply RV_cell1; exact rfl; (repeat' (first | exact Pick.head _ _ | apply Pick.tail)); (intro _; exact rfl); exact rfl))); (focus (first | exact RV_tmp rfl | (apply RV_cellN; exact rfl; (repeat' (first | exact Pick.head _ _ | apply Pick.tail)); (intro _; exact rfl); (intro _; exact rfl); exact rfl) | (apply RV_cell1; exact rfl; (repeat' (first | exact Pick.head _ _ | apply Pick.tail)); (intro _; exact rfl); exact rfl)));  (focus (first | exact rfl | (simp; done))); (focus (repeat (first | exact SubO.nil _ | (apply SubO.cons; (focus (repeat' (first | exact Pick.head _ _ | apply Pick.tail))))))); (focus (repeat (first | exact AllE.nil _ | (apply AllE.cons; (focus (first | exact ent_nilBy | exact ent_nilSl | (apply Ent.mem; repeat' (first | exact mcs | apply mct)))))))))
          · by_cases c6 : c.length = 0
            · have e1 : one1 (dec f) xs dep m = ⟨xs.getD 0 0, 0, [], .nil, [], m + 1, 12⟩ := by
                rw [one1, if_neg c1, if_neg c2, hq, if_neg (fun h => h rfl), if_neg (show ¬ lim (xs.getD 0 0) < c.length by rw [lim, if_pos c4]; exact c5), if_pos c4]
                exact if_pos c6
              repeat (first | refine n1 ?_ | refine n2 (fun b _ => ?_) | refine n3 (fun _ _ => ?_) | refine n4 ?_ | refine n5 ?_ | refine WL_nil ?_ | refine W_seq ?_ | refine W_region ?_ | refine n7 ?_ | refine n8 ?_ | refine W_block ?_ | refine W_skip ?_ | refine W_ret ?_ | refine W_exit ?_ | refine WQ_then ?_ | refine WQ_then_ret ?_ | refine WQ_then_exit ?_ | refine WQ_block_normal ?_ | refine WQ_block_ret ?_ | refine WQ_block_exit ?_ | refine n9 ?_)
              apply WQ_none
              ((apply ret3 Try.results91 ( (⟨xs.getD 0 0, 0, .slice none 0 0, [], .slice none 0 0, .nil, .slice none 0 0, [], m + 1, 12⟩ : OX))); (focus (first | trivial | assumption | omega)); (focus (first | exact RV_tmp rfl | (apply RV_cellN; exact rfl; (repeat' (first | exact Pick.head _ _ | apply Pick.tail)); (intro _; exact rfl); (intro _; exact rfl); exact rfl) | (apply RV_cell1; exact rfl; (repeat' (first | exact Pick.head _ _ | apply Pick.tail)); (intro _; exact rfl); exact rfl))); (focus (first | exact RV_tmp rfl | (apply RV_cellN; exact rfl; (repeat' (first | exact Pick.head _ _ | apply Pick.tail)); (intro _; exact rfl); (intro _; exact rfl); exact rfl) | (apply RV_cell1; exact rfl; (repeat' (first | exact Pick.head _ _ | apply Pick.tail)); (intro _; exact rfl); exact rfl))); (focus (first | exact RV_tmp rfl | (apply RV_cellN; exact rfl; (repeat' (first | exact Pick.head _ _ | apply Pick.tail)); (intro _; exact rfl); (intro _; exact rfl); exact rfl) | (apply RV_cell1; exact rfl; (repeat' (first | exact Pick.head _ _ | apply Pick.tail)); (intro _; exact rfl); exact rfl)));  (focus (first | exact rfl | (simp; done))); (focus (repeat (first | exact SubO.nil _ | (apply SubO.cons; (focus (repeat' (first | exact Pick.head _ _ | apply Pick.tail))))))); (focus (repeat (first | exact AllE.nil _ | (apply AllE.cons; (focus (first | exact ent_nilBy | exact ent_nilSl | (apply Ent.mem; repeat' (first | exact mcs | apply mct)))))))))
            · have e1 : one1 (dec f) xs dep m = ⟨xs.getD 0 0, c.getD 0 0, c.drop 1, .nil, rs, m + 1, 0⟩ := by
                rw [one1, if_neg c1, if_neg c2, hq, if_neg (fun h => h rfl), if_neg (show ¬ lim (xs.getD 0 0) < c.length by rw [lim, if_pos c4]; exact c5), if_pos c4]
                exact if_neg c6
              have hc : contB (xs.getD 0 0) = false := by
                rw [c4]
                rfl
              have hcf := cont_fn (xs.getD 0 0)
              rw [hc] at hcf
              repeat (first | refine n1 ?_ | refine n2 (fun b _ => ?_) | refine n3 (fun _ _ => ?_) | refine n4 ?_ | refine n5 ?_ | refine WL_nil ?_ | refine W_seq ?_ | refine W_region ?_ | refine n7 ?_ | refine n8 ?_ | refine W_block ?_ | refine W_skip ?_ | refine W_ret ?_ | refine W_exit ?_ | refine WQ_then ?_ | refine WQ_then_ret ?_ | refine WQ_then_exit ?_ | refine WQ_block_normal ?_ | refine WQ_block_ret ?_ | refine WQ_block_exit ?_ | refine n9 ?_)
              (refine W_regionP' [6] [] [0, 1, 2, 3, 4, 5, 6, 7] [0] (by kernel_rfl) (by kernel_rfl) (by repeat (first | exact UZ.nil _ _ | (apply UZ.cons; exact rfl; (intro _; exact rfl)))) (by exact rfl) (by (repeat (first | exact SubO.nil _ | (apply SubO.cons; (focus (repeat' (first | exact Pick.head _ _ | apply Pick.tail))))))) ?_)
              repeat (first | refine p1 ?_ | refine p2 (fun b _ => ?_) | refine p3 (fun _ _ => ?_) | refine p4 ?_ | refine p5 ?_ | refine p7 (fun b => ?_) | refine PL_nil ?_)
              rw [take_end]
              repeat (first | refine n1 ?_ | refine n2 (fun b _ => ?_) | refine n3 (fun _ _ => ?_) | refine n4 ?_ | refine n5 ?_ | refine n6 (hcf) ?_ | refine n6v (hcf) ?_ | refine WL_nil ?_ | refine W_seq ?_ | refine W_region ?_ | refine n7 ?_ | refine n8 ?_ | refine W_block ?_ | refine W_skip ?_ | refine W_ret ?_ | refine W_exit ?_ | refine WQ_then ?_ | refine WQ_then_ret ?_ | refine WQ_then_exit ?_ | refine WQ_block_normal ?_ | refine WQ_block_ret ?_ | refine WQ_block_exit ?_ | refine n9 ?_)
              (apply WL_effs; exact rfl; exact rfl; exact rfl; apply E_call; exact rfl; (intro _ _; simp); (exact cloneB_fn _ (c.drop 1) (by rw [List.length_drop]; omega)); (repeat (first | exact AllE.nil _ | (apply AllE.cons; (focus (first | exact ent_nilBy | exact ent_nilSl | (apply Ent.mem; repeat' (first | exact mcs | apply mct))))))); (intro _; exact rfl); (intro _; exact rfl))
              intro o _
              repeat (first | refine n1 ?_ | refine n2 (fun b _ => ?_) | refine n3 (fun _ _ => ?_) | refine n4 ?_ | refine n5 ?_ | refine WL_nil ?_ | refine W_seq ?_ | refine W_region ?_ | refine n7 ?_ | refine n8 ?_ | refine W_block ?_ | refine W_skip ?_ | refine W_ret ?_ | refine W_exit ?_ | refine WQ_then ?_ | refine WQ_then_ret ?_ | refine WQ_then_exit ?_ | refine WQ_block_normal ?_ | refine WQ_block_ret ?_ | refine WQ_block_exit ?_ | refine n9 ?_)
              refine WQ_ent (ψ := Rw 4 (.slice none 0 0) T.nil.len T.nil.at_) ent_nilRw (WQ_ent ent_tf0 ?_)
              ((apply ret3 Try.results91 ( (⟨xs.getD 0 0, c.getD 0 0, o, c.drop 1, .slice none 0 0, .nil, rv, rs, m + 1, 0⟩ : OX))); (focus (first | trivial | assumption | omega)); (focus (first | exact RV_tmp rfl | (apply RV_cellN; exact rfl; (repeat' (first | exact Pick.head _ _ | apply Pick.tail)); (intro _; exact rfl); (intro _; exact rfl); exact rfl) | (apply RV_cell1; exact rfl; (repeat' (first | exact Pick.head _ _ | apply Pick.tail)); (intro _; exact rfl); exact rfl))); (focus (first | exact RV_tmp rfl | (apply RV_cellN; exact rfl; (repeat' (first | exact Pick.head _ _ | apply Pick.tail)); (intro _; exact rfl); (intro _; exact rfl); exact rfl) | (apply RV_cell1; exact rfl; (repeat' (first | exact Pick.head _ _ | apply Pick.tail)); (intro _; exact rfl); exact rfl))); (focus (first | exact RV_tmp rfl | (apply RV_cellN; exact rfl; (repeat' (first | exact Pick.head _ _ | apply Pick.tail)); (intro _; exact rfl); (intro _; exact rfl); exact rfl) | (apply RV_cell1; exact rfl; (repeat' (first | exact Pick.head _ _ | apply Pick.tail)); (intro _; exact rfl); exact rfl)));  (focus (first | exact rfl | (simp; done))); (focus (repeat (first | exact SubO.nil _ | (apply SubO.cons; (focus (repeat' (first | exact Pick.head _ _ | apply Pick.tail))))))); (focus (repeat (first | exact AllE.nil _ | (apply AllE.cons; (focus (first | exact ent_nilBy | exact ent_nilSl | (apply Ent.mem; repeat' (first | exact mcs | apply mct)))))))))
        · have c4' : ¬ (xs.getD 0 0).toNat = 255 := by
            have := u8ne (n := 255) c4 (by decide)
            omega
          have hlim : lim (xs.getD 0 0) = 1024 := if_neg c4
          by_cases c5 : 1024 < c.length
          · have e1 : one1 (dec f) xs dep m = ⟨xs.getD 0 0, 0, [], .nil, [], m + 1, 11⟩ := by
              rw [one1, if_neg c1, if_neg c2, hq, if_neg (fun h => h rfl), if_pos (show lim (xs.getD 0 0) < c.length by rw [hlim]; exact c5)]
            repeat (first | refine n1 ?_ | refine n2 (fun b _ => ?_) | refine n3 (fun _ _ => ?_) | refine n4 ?_ | refine n5 ?_ | refine WL_nil ?_ | refine W_seq ?_ | refine W_region ?_ | refine n7 ?_ | refine n8 ?_ | refine W_block ?_ | refine W_skip ?_ | refine W_ret ?_ | refine W_exit ?_ | refine WQ_then ?_ | refine WQ_then_ret ?_ | refine WQ_then_exit ?_ | refine WQ_block_normal ?_ | refine WQ_block_ret ?_ | refine WQ_block_exit ?_ | refine n9 ?_)
            apply WQ_none
            ((apply ret3 Try.results91 ( (⟨xs.getD 0 0, 0, .slice none 0 0, [], .slice none 0 0, .nil, .slice none 0 0, [], m + 1, 11⟩ : OX))); (focus (first | trivial | assumption | omega)); (focus (first | exact RV_tmp rfl | (apply RV_cellN; exact rfl; (repeat' (first | exact Pick.head _ _ | apply Pick.tail)); (intro _; exact rfl); (intro _; exact rfl); exact rfl) | (apply RV_cell1; exact rfl; (repeat' (first | exact Pick.head _ _ | apply Pick.tail)); (intro _; exact rfl); exact rfl))); (focus (first | exact RV_tmp rfl | (apply RV_cellN; exact rfl; (repeat' (first | exact Pick.head _ _ | apply Pick.tail)); (intro _; exact rfl); (intro _; exact rfl); exact rfl) | (apply RV_cell1; exact rfl; (repeat' (first | exact Pick.head _ _ | apply Pick.tail)); (intro _; exact rfl); exact rfl))); (focus (first | exact RV_tmp rfl | (apply RV_cellN; exact rfl; (repeat' (first | exact Pick.head _ _ | apply Pick.tail)); (intro _; exact rfl); (intro _; exact rfl); exact rfl) | (apply RV_cell1; exact rfl; (repeat' (first | exact Pick.head _ _ | apply Pick.tail)); (intro _; exact rfl); exact rfl)));  (focus (first | exact rfl | (simp; done))); (focus (repeat (first | exact SubO.nil _ | (apply SubO.cons; (focus (repeat' (first | exact Pick.head _ _ | apply Pick.tail))))))); (focus (repeat (first | exact AllE.nil _ | (apply AllE.cons; (focus (first | exact ent_nilBy | exact ent_nilSl | (apply Ent.mem; repeat' (first | exact mcs | apply mct)))))))))
          · have hcf := cont_fn (xs.getD 0 0)
            cases c6 : contB (xs.getD 0 0) with
            | false =>
              rw [c6] at hcf
              have e1 : one1 (dec f) xs dep m = ⟨xs.getD 0 0, 0, c, .nil, rs, m + 1, 0⟩ := by
                rw [one1, if_neg c1, if_neg c2, hq, if_neg (fun h => h rfl), if_neg (show ¬ lim (xs.getD 0 0) < c.length by rw [hlim]; exact c5), if_neg c4, if_pos c6]
              repeat (first | refine n1 ?_ | refine n2 (fun b _ => ?_) | refine n3 (fun _ _ => ?_) | refine n4 ?_ | refine n5 ?_ | refine n6 (hcf) ?_ | refine n6v (hcf) ?_ | refine WL_nil ?_ | refine W_seq ?_ | refine W_region ?_ | refine n7 ?_ | refine n8 ?_ | refine W_block ?_ | refine W_skip ?_ | refine W_ret ?_ | refine W_exit ?_ | refine WQ_then ?_ | refine WQ_then_ret ?_ | refine WQ_then_exit ?_ | refine WQ_block_normal ?_ | refine WQ_block_ret ?_ | refine WQ_block_exit ?_ | refine n9 ?_)
              (apply WL_effs; exact rfl; exact rfl; exact rfl; apply E_call; exact rfl; (intro _ _; simp); (exact cloneB_fn _ c (by omega)); (repeat (first | exact AllE.nil _ | (apply AllE.cons; (focus (first | exact ent_nilBy | exact ent_nilSl | (apply Ent.mem; repeat' (first | exact mcs | apply mct))))))); (intro _; exact rfl); (intro _; exact rfl))
              intro o _
              repeat (first | refine n1 ?_ | refine n2 (fun b _ => ?_) | refine n3 (fun _ _ => ?_) | refine n4 ?_ | refine n5 ?_ | refine WL_nil ?_ | refine W_seq ?_ | refine W_region ?_ | refine n7 ?_ | refine n8 ?_ | refine W_block ?_ | refine W_skip ?_ | refine W_ret ?_ | refine W_exit ?_ | refine WQ_then ?_ | refine WQ_then_ret ?_ | refine WQ_then_exit ?_ | refine WQ_block_normal ?_ | refine WQ_block_ret ?_ | refine WQ_block_exit ?_ | refine n9 ?_)
              refine WQ_ent (ψ := Rw 4 (.slice none 0 0) T.nil.len T.nil.at_) ent_nilRw (WQ_ent ent_tf0 ?_)
              ((apply ret3 Try.results91 ( (⟨xs.getD 0 0, 0, o, c, .slice none 0 0, .nil, rv, rs, m + 1, 0⟩ : OX))); (focus (first | trivial | assumption | omega)); (focus (first | exact RV_tmp rfl | (apply RV_cellN; exact rfl; (repeat' (first | exact Pick.head _ _ | apply Pick.tail)); (intro _; exact rfl); (intro _; exact rfl); exact rfl) | (apply RV_cell1; exact rfl; (repeat' (first | exact Pick.head _ _ | apply Pick.tail)); (intro _; exact rfl); exact rfl))); (focus (first | exact RV_tmp rfl | (apply RV_cellN; exact rfl; (repeat' (first | exact Pick.head _ _ | apply Pick.tail)); (intro _; exact rfl); (intro _; exact rfl); exact rfl) | (apply RV_cell1; exact rfl; (repeat' (first | exact Pick.head _ _ | apply Pick.tail)); (intro _; exact rfl); exact rfl))); (focus (first | exact RV_tmp rfl | (apply RV_cellN; exact rfl; (repeat' (first | exact Pick.head _ _ | apply Pick.tail)); (intro _; exact rfl); (intro _; exact rfl); exact rfl) | (apply RV_cell1; exact rfl; (repeat' (first | exact Pick.head _ _ | apply Pick.tail)); (intro _; exact rfl); exact rfl)));  (focus (first | exact rfl | (simp; done))); (focus (repeat (first | exact SubO.nil _ | (apply SubO.cons; (focus (repeat' (first | exact Pick.head _ _ | apply Pick.tail))))))); (focus (repeat (first | exact AllE.nil _ | (apply AllE.cons; (focus (first | exact ent_nilBy | exact ent_nilSl | (apply Ent.mem; repeat' (first | exact mcs | apply mct)))))))))
            | true =>
              rw [c6] at hcf
              by_cases c7 : dep = 4 ∧ 0 < c.length
              · have e1 : one1 (dec f) xs dep m = ⟨xs.getD 0 0, 0, [], .nil, [], m + 1, 4⟩ := by
                  rw [one1, if_neg c1, if_neg c2, hq, if_neg (fun h => h rfl), if_neg (show ¬ lim (xs.getD 0 0) < c.length by rw [hlim]; exact c5), if_neg c4, if_neg (by rw [c6]; exact Bool.noConfusion)]
                  exact if_pos c7
                obtain ⟨c8, c9⟩ := c7
                repeat (first | refine n1 ?_ | refine n2 (fun b _ => ?_) | refine n3 (fun _ _ => ?_) | refine n4 ?_ | refine n5 ?_ | refine n6 (hcf) ?_ | refine n6v (hcf) ?_ | refine WL_nil ?_ | refine W_seq ?_ | refine W_region ?_ | refine n7 ?_ | refine n8 ?_ | refine W_block ?_ | refine W_skip ?_ | refine W_ret ?_ | refine W_exit ?_ | refine WQ_then ?_ | refine WQ_then_ret ?_ | refine WQ_then_exit ?_ | refine WQ_block_normal ?_ | refine WQ_block_ret ?_ | refine WQ_block_exit ?_ | refine n9 ?_)
                apply WQ_none
                ((apply ret3 Try.results91 ( (⟨xs.getD 0 0, 0, .slice none 0 0, [], .slice none 0 0, .nil, .slice none 0 0, [], m + 1, 4⟩ : OX))); (focus (first | trivial | assumption | omega)); (focus (first | exact RV_tmp rfl | (apply RV_cellN; exact rfl; (repeat' (first | exact Pick.head _ _ | apply Pick.tail)); (intro _; exact rfl); (intro _; exact rfl); exact rfl) | (apply RV_cell1; exact rfl; (repeat' (first | exact Pick.head _ _ | apply Pick.tail)); (intro _; exact rfl); exact rfl))); (focus (first | exact RV_tmp rfl | (apply RV_cellN; exact rfl; (repeat' (first | exact Pick.head _ _ | apply Pick.tail)); (intro _; exact rfl); (intro _; exact rfl); exact rfl) | (apply RV_cell1; exact rfl; (repeat' (first | exact Pick.head _ _ | apply Pick.tail)); (intro _; exact rfl); exact rfl))); (focus (first | exact RV_tmp rfl | (apply RV_cellN; exact rfl; (repeat' (first | exact Pick.head _ _ | apply Pick.tail)); (intro _; exact rfl); (intro _; exact rfl); exact rfl) | (apply RV_cell1; exact rfl; (repeat' (first | exact Pick.head _ _ | apply Pick.tail)); (intro _; exact rfl); exact rfl)));  (focus (first | exact rfl | (simp; done))); (focus (repeat (first | exact SubO.nil _ | (apply SubO.cons; (focus (repeat' (first | exact Pick.head _ _ | apply Pick.tail))))))); (focus (repeat (first | exact AllE.nil _ | (apply AllE.cons; (focus (first | exact ent_nilBy | exact ent_nilSl | (apply Ent.mem; repeat' (first | exact mcs | apply mct)))))))))
              · have e1 : one1 (dec f) xs dep m = ⟨xs.getD 0 0, 0, [], (dec f c (dep + 1) (m + 1)).1, rs, (dec f c (dep + 1) (m + 1)).2.1, (dec f c (dep + 1) (m + 1)).2.2⟩ := by
                  rw [one1, if_neg c1, if_neg c2, hq, if_neg (fun h => h rfl), if_neg (show ¬ lim (xs.getD 0 0) < c.length by rw [hlim]; exact c5), if_neg c4, if_neg (by rw [c6]; exact Bool.noConfusion)]
                  exact if_neg c7
                have hd' : dep + 1 ≤ 4 ∨ c.length = 0 := by
                  rcases Nat.eq_zero_or_pos c.length with h | h
                  · exact .inr h
                  · exact .inl (by rcases Nat.lt_or_ge dep 4 with h2 | h2; omega; exact absurd ⟨by omega, h⟩ c7)
                have hcall := IH d cv c (dep + 1) (m + 1) (by omega) (by omega) hd' (by omega)
                by_cases c8 : dep = 4
                · have c9 : c.length = 0 := by omega
                  repeat (first | refine n1 ?_ | refine n2 (fun b _ => ?_) | refine n3 (fun _ _ => ?_) | refine n4 ?_ | refine n5 ?_ | refine n6 (hcf) ?_ | refine n6v (hcf) ?_ | refine WL_nil ?_ | refine W_seq ?_ | refine W_region ?_ | refine n7 ?_ | refine n8 ?_ | refine W_block ?_ | refine W_skip ?_ | refine W_ret ?_ | refine W_exit ?_ | refine WQ_then ?_ | refine WQ_then_ret ?_ | refine WQ_then_exit ?_ | refine WQ_block_normal ?_ | refine WQ_block_ret ?_ | refine WQ_block_exit ?_ | refine n9 ?_)
                  (apply WL_effs; exact rfl; exact rfl; exact rfl; apply E_callO; exact rfl; (intro _ _; simp); exact hcall; (first | (apply perm1; (focus (repeat' (first | exact Pick.head _ _ | apply Pick.tail)))) | (apply perm2; (focus (repeat' (first | exact Pick.head _ _ | apply Pick.tail))); (focus (repeat' (first | exact Pick.head _ _ | apply Pick.tail)))) | (apply perm3; (focus (repeat' (first | exact Pick.head _ _ | apply Pick.tail))); (focus (repeat' (first | exact Pick.head _ _ | apply Pick.tail))); (focus (repeat' (first | exact Pick.head _ _ | apply Pick.tail))))); (repeat (first | exact AllE.nil _ | (apply AllE.cons; (focus (first | exact ent_nilBy | exact ent_nilSl | (apply Ent.mem; repeat' (first | exact mcs | apply mct))))))); (intro _; exact rfl); (intro _; exact rfl))
                  rintro ⟨ov, t, m2, e2⟩ hr
                  replace hr : dec f c (dep + 1) (m + 1) = (t.er, m2, e2) := hr
                  rw [hr] at e1
                  dsimp only
                  refine WL_letgo (v := ov) (by repeat' (first | exact Pick.head _ _ | apply Pick.tail)) ?_
                  refine WL_ent (ent_slT (v := ov) (t := t) (by repeat' (first | exact mcs | apply mct))) ?_
                  refine WL_tree (by repeat' (first | exact Pick.head _ _ | apply Pick.tail)) (by repeat' (first | exact mcs | apply mct)) ?_
                  repeat (first | refine n1 ?_ | refine n2 (fun b _ => ?_) | refine n3 (fun _ _ => ?_) | refine n4 ?_ | refine n5 ?_ | refine WL_nil ?_ | refine W_seq ?_ | refine W_region ?_ | refine n7 ?_ | refine n8 ?_ | refine W_block ?_ | refine W_skip ?_ | refine W_ret ?_ | refine W_exit ?_ | refine WQ_then ?_ | refine WQ_then_ret ?_ | refine WQ_then_exit ?_ | refine WQ_block_normal ?_ | refine WQ_block_ret ?_ | refine WQ_block_exit ?_ | refine n9 ?_)
                  apply WQ_nilRow 5 1
                  ((apply ret3 Try.results91 ( (⟨xs.getD 0 0, 0, .slice none 0 0, [], ov, t, rv, rs, m2, e2⟩ : OX))); (focus (first | trivial | assumption | omega)); (focus (first | exact RV_tmp rfl | (apply RV_cellN; exact rfl; (repeat' (first | exact Pick.head _ _ | apply Pick.tail)); (intro _; exact rfl); (intro _; exact rfl); exact rfl) | (apply RV_cell1; exact rfl; (repeat' (first | exact Pick.head _ _ | apply Pick.tail)); (intro _; exact rfl); exact rfl))); (focus (first | exact RV_tmp rfl | (apply RV_cellN; exact rfl; (repeat' (first | exact Pick.head _ _ | apply Pick.tail)); (intro _; exact rfl); (intro _; exact rfl); exact rfl) | (apply RV_cell1; exact rfl; (repeat' (first | exact Pick.head _ _ | apply Pick.tail)); (intro _; exact rfl); exact rfl))); (focus (first | exact RV_tmp rfl | (apply RV_cellN; exact rfl; (repeat' (first | exact Pick.head _ _ | apply Pick.tail)); (intro _; exact rfl); (intro _; exact rfl); exact rfl) | (apply RV_cell1; exact rfl; (repeat' (first | exact Pick.head _ _ | apply Pick.tail)); (intro _; exact rfl); exact rfl)));  (focus (first | exact rfl | (simp; done))); (focus (repeat (first | exact SubO.nil _ | (apply SubO.cons; (focus (repeat' (first | exact Pick.head _ _ | apply Pick.tail))))))); (focus (repeat (first | exact AllE.nil _ | (apply AllE.cons; (focus (first | exact ent_nilBy | exact ent_nilSl | (apply Ent.mem; repeat' (first | exact mcs | apply mct)))))))))
                · repeat (first | refine n1 ?_ | refine n2 (fun b _ => ?_) | refine n3 (fun _ _ => ?_) | refine n4 ?_ | refine n5 ?_ | refine n6 (hcf) ?_ | refine n6v (hcf) ?_ | refine WL_nil ?_ | refine W_seq ?_ | refine W_region ?_ | refine n7 ?_ | refine n8 ?_ | refine W_block ?_ | refine W_skip ?_ | refine W_ret ?_ | refine W_exit ?_ | refine WQ_then ?_ | refine WQ_then_ret ?_ | refine WQ_then_exit ?_ | refine WQ_block_normal ?_ | refine WQ_block_ret ?_ | refine WQ_block_exit ?_ | refine n9 ?_)
                  (apply WL_effs; exact rfl; exact rfl; exact rfl; apply E_callO; exact rfl; (intro _ _; simp); exact hcall; (first | (apply perm1; (focus (repeat' (first | exact Pick.head _ _ | apply Pick.tail)))) | (apply perm2; (focus (repeat' (first | exact Pick.head _ _ | apply Pick.tail))); (focus (repeat' (first | exact Pick.head _ _ | apply Pick.tail)))) | (apply perm3; (focus (repeat' (first | exact Pick.head _ _ | apply Pick.tail))); (focus (repeat' (first | exact Pick.head _ _ | apply Pick.tail))); (focus (repeat' (first | exact Pick.head _ _ | apply Pick.tail))))); (repeat (first | exact AllE.nil _ | (apply AllE.cons; (focus (first | exact ent_nilBy | exact ent_nilSl | (apply Ent.mem; repeat' (first | exact mcs | apply mct))))))); (intro _; exact rfl); (intro _; exact rfl))
                  rintro ⟨ov, t, m2, e2⟩ hr
                  replace hr : dec f c (dep + 1) (m + 1) = (t.er, m2, e2) := hr
                  rw [hr] at e1
                  dsimp only
                  refine WL_letgo (v := ov) (by repeat' (first | exact Pick.head _ _ | apply Pick.tail)) ?_
                  refine WL_ent (ent_slT (v := ov) (t := t) (by repeat' (first | exact mcs | apply mct))) ?_
                  refine WL_tree (by repeat' (first | exact Pick.head _ _ | apply Pick.tail)) (by repeat' (first | exact mcs | apply mct)) ?_
                  repeat (first | refine n1 ?_ | refine n2 (fun b _ => ?_) | refine n3 (fun _ _ => ?_) | refine n4 ?_ | refine n5 ?_ | refine WL_nil ?_ | refine W_seq ?_ | refine W_region ?_ | refine n7 ?_ | refine n8 ?_ | refine W_block ?_ | refine W_skip ?_ | refine W_ret ?_ | refine W_exit ?_ | refine WQ_then ?_ | refine WQ_then_ret ?_ | refine WQ_then_exit ?_ | refine WQ_block_normal ?_ | refine WQ_block_ret ?_ | refine WQ_block_exit ?_ | refine n9 ?_)
                  apply WQ_nilRow 5 1
                  ((apply ret3 Try.results91 ( (⟨xs.getD 0 0, 0, .slice none 0 0, [], ov, t, rv, rs, m2, e2⟩ : OX))); (focus (first | trivial | assumption | omega)); (focus (first | exact RV_tmp rfl | (apply RV_cellN; exact rfl; (repeat' (first | exact Pick.head _ _ | apply Pick.tail)); (intro _; exact rfl); (intro _; exact rfl); exact rfl) | (apply RV_cell1; exact rfl; (repeat' (first | exact Pick.head _ _ | apply Pick.tail)); (intro _; exact rfl); exact rfl))); (focus (first | exact RV_tmp rfl | (apply RV_cellN; exact rfl; (repeat' (first | exact Pick.head _ _ | apply Pick.tail)); (intro _; exact rfl); (intro _; exact rfl); exact rfl) | (apply RV_cell1; exact rfl; (repeat' (first | exact Pick.head _ _ | apply Pick.tail)); (intro _; exact rfl); exact rfl))); (focus (first | exact RV_tmp rfl | (apply RV_cellN; exact rfl; (repeat' (first | exact Pick.head _ _ | apply Pick.tail)); (intro _; exact rfl); (intro _; exact rfl); exact rfl) | (apply RV_cell1; exact rfl; (repeat' (first | exact Pick.head _ _ | apply Pick.tail)); (intro _; exact rfl); exact rfl)));  (focus (first | exact rfl | (simp; done))); (focus (repeat (first | exact SubO.nil _ | (apply SubO.cons; (focus (repeat' (first | exact Pick.head _ _ | apply Pick.tail))))))); (focus (repeat (first | exact AllE.nil _ | (apply AllE.cons; (focus (first | exact ent_nilBy | exact ent_nilSl | (apply Ent.mem; repeat' (first | exact mcs | apply mct)))))))))
      · have e1 : one1 (dec f) xs dep m = ⟨xs.getD 0 0, 0, [], .nil, [], m + 1, e⟩ := by
          rw [one1, if_neg c1, if_neg c2, hq, if_pos c3]
        repeat (first | refine n1 ?_ | refine n2 (fun b _ => ?_) | refine n3 (fun _ _ => ?_) | refine n4 ?_ | refine n5 ?_ | refine WL_nil ?_ | refine W_seq ?_ | refine W_region ?_ | refine n7 ?_ | refine n8 ?_ | refine W_block ?_ | refine W_skip ?_ | refine W_ret ?_ | refine W_exit ?_ | refine WQ_then ?_ | refine WQ_then_ret ?_ | refine WQ_then_exit ?_ | refine WQ_block_normal ?_ | refine WQ_block_ret ?_ | refine WQ_block_exit ?_ | refine n9 ?_)
        apply WQ_none
        ((apply ret3 Try.results91 ( (⟨xs.getD 0 0, 0, .slice none 0 0, [], .slice none 0 0, .nil, .slice none 0 0, [], m + 1, e⟩ : OX))); (focus (first | trivial | assumption | omega)); (focus (first | exact RV_tmp rfl | (apply RV_cellN; exact rfl; (repeat' (first | exact Pick.head _ _ | apply Pick.tail)); (intro _; exact rfl); (intro _; exact rfl); exact rfl) | (apply RV_cell1; exact rfl; (repeat' (first | exact Pick.head _ _ | apply Pick.tail)); (intro _; exact rfl); exact rfl))); (focus (first | exact RV_tmp rfl | (apply RV_cellN; exact rfl; (repeat' (first | exact Pick.head _ _ | apply Pick.tail)); (intro _; exact rfl); (intro _; exact rfl); exact rfl) | (apply RV_cell1; exact rfl; (repeat' (first | exact Pick.head _ _ | apply Pick.tail)); (intro _; exact rfl); exact rfl))); (focus (first | exact RV_tmp rfl | (apply RV_cellN; exact rfl; (repeat' (first | exact Pick.head _ _ | apply Pick.tail)); (intro _; exact rfl); (intro _; exact rfl); exact rfl) | (apply RV_cell1; exact rfl; (repeat' (first | exact Pick.head _ _ | apply Pick.tail)); (intro _; exact rfl); exact rfl)));  (focus (first | exact rfl | (simp; done))); (focus (repeat (first | exact SubO.nil _ | (apply SubO.cons; (focus (repeat' (first | exact Pick.head _ _ | apply Pick.tail))))))); (focus (repeat (first | exact AllE.nil _ | (apply AllE.cons; (focus (first | exact ent_nilBy | exact ent_nilSl | (apply Ent.mem; repeat' (first | exact mcs | apply mct)))))))))
end Go.Proofs.Ytoohgnegoaoleaa.C04

/-
  Contract of the decoder's list.
-/
namespace Go.Proofs.Ytoohgnegoaoleaa.C04
open Go Go.RowKit Go.Hs
attribute [local irreducible] WL W WQ PL Runs Effs AllE Ent SubO FrIn Pick OneC Ones CellsE PartsE SeqE UZ By Sl Pt Ct

theorem dcat_nil (q : DR) (h : ¬ q.2.2 = 0 → q.1 = .nil) : dcat .nil q = q := by
  obtain ⟨a, b, e⟩ := q
  unfold dcat
  by_cases h0 : e = 0
  · subst h0
    rfl
  · have h1 := h h0
    simp only at h1
    subst h1
    rw [if_neg h0]
theorem dec_err : ∀ (f : Nat) (b : List UInt8) (d m : Nat), ¬ (dec f b d m).2.2 = 0 → (dec f b d m).1 = .nil
  | 0, _, _, _, h => absurd rfl h
  | f + 1, b, d, m, h => by
    unfold dec at h ⊢
    split at h
    · exact absurd rfl h
    · next h1 =>
      rw [if_neg h1]
      split at h
      · next h2 =>
        rw [if_pos h2]
      · next h2 =>
        rw [if_neg h2]
        unfold dcat at h ⊢
        split at h
        · next h3 => exact absurd h3 h
        · next h3 => rw [if_neg h3]

set_option maxRecDepth 100000 in
set_option maxHeartbeats 8000000 in
theorem list_fn (F : Nat) : ListCt F := by
  induction F using Nat.strongRecOn with
  | _ F IH =>
    intro d v0 xs dep m0 hF hx hd hm0
    refine Ct_intro Try.func79 rfl Try.ntmps79 (by simp) _ rfl (fun w0 O0 => ?_)
    repeat (first | refine n1 ?_ | refine n2 (fun b _ => ?_) | refine n3 (fun _ _ => ?_) | refine n4 ?_ | refine n5 ?_ | refine WL_nil ?_ | refine W_seq ?_ | refine W_region ?_ | refine n7 ?_ | refine n8 ?_ | refine W_block ?_ | refine W_skip ?_ | refine W_ret ?_ | refine W_exit ?_ | refine WQ_then ?_ | refine WQ_then_ret ?_ | refine WQ_then_exit ?_ | refine WQ_block_normal ?_ | refine WQ_block_ret ?_ | refine WQ_block_exit ?_ | refine n9 ?_)
    apply W_nilRow 106 4
    apply W_nilL 5
    refine W_ent ent_ts0 ?_
    ((apply W_loopK (X := Nat × T × Value × Value × List UInt8 × Nat) [9, 1] [0, 1, 2] (fun x => dec F xs dep m0 = dcat x.2.1.er (dec x.1 x.2.2.2.2.1 dep x.2.2.2.2.2) ∧ x.2.2.2.2.1.length ≤ x.1 ∧ x.2.2.2.2.2 ≤ 64 ∧ x.2.1.len + x.2.2.2.2.1.length ≤ 1000000000 ∧ x.1 ≤ F ∧ (dep ≤ 4 ∨ x.2.2.2.2.1.length = 0)) (fun x => [(9, x.2.2.1), (1, x.2.2.2.1)]) (fun x => [pk (rowsL 5 x.2.1.dls), .row x.2.2.1 106 4 x.2.1.len x.2.1.cells, .blk d 156 [.int .i64 (x.2.2.2.2.2 : Int)]]) (fun x => [x.2.1.ts, By x.2.2.2.1 x.2.2.2.2.1]) (fun x => x.1) ((F, .nil, .slice none 0 0, v0, xs, m0))); (focus (exact ⟨(dcat_nil _ (dec_err _ _ _ _)).symm, hF, hm0, by simpa [T.len] using hx, Nat.le_refl _, hd⟩)); exact rfl; exact rfl; (intro _; exact rfl); (intro _; exact rfl); (intro _; exact rfl); (focus (repeat (first | exact FrIn.nil _ | (apply FrIn.cons; exact rfl; (first | exact rfl | (congr 1; first | omega | (dsimp only; omega)) | (simp; done)))))); (focus (repeat (first | exact SubO.nil _ | (apply SubO.cons; (focus (repeat' (first | exact Pick.head _ _ | apply Pick.tail))))))); (focus (repeat (first | exact AllE.nil _ | (apply AllE.cons; (focus (first | exact ent_nilBy | exact ent_nilSl | (apply Ent.mem; repeat' (first | exact mcs | apply mct)))))))); intro x hx)
    obtain ⟨k, acc, o, v, cur, m⟩ := x
    obtain ⟨i1, i2, i3, i4, i5, i6⟩ := hx
    replace i1 : dec F xs dep m0 = dcat acc.er (dec k cur dep m) := i1
    replace i2 : cur.length ≤ k := i2
    replace i3 : m ≤ 64 := i3
    replace i4 : acc.len + cur.length ≤ 1000000000 := i4
    replace i5 : k ≤ F := i5
    replace i6 : dep ≤ 4 ∨ cur.length = 0 := i6
    dsimp only
    by_cases c1 : cur.length = 0
    · obtain rfl : cur = [] := List.eq_nil_of_length_eq_zero c1
      rw [dec_nil] at i1
      replace i1 : dec F xs dep m0 = (acc.er, m, 0) := by rw [i1, dcat, if_pos rfl, fapp_nil]
      repeat (first | refine n1 ?_ | refine n2 (fun b _ => ?_) | refine n3 (fun _ _ => ?_) | refine n4 ?_ | refine n5 ?_ | refine WL_nil ?_ | refine W_seq ?_ | refine W_region ?_ | refine n7 ?_ | refine n8 ?_ | refine W_block ?_ | refine W_skip ?_ | refine W_ret ?_ | refine W_exit ?_ | refine WQ_then ?_ | refine WQ_then_ret ?_ | refine WQ_then_exit ?_ | refine WQ_block_normal ?_ | refine WQ_block_ret ?_ | refine WQ_block_exit ?_ | refine n9 ?_)
      ((apply ret2 Try.results79 ( (o, acc, m, 0))); (focus (first | trivial | assumption | omega)); (focus (first | exact RV_tmp rfl | (apply RV_cellN; exact rfl; (repeat' (first | exact Pick.head _ _ | apply Pick.tail)); (intro _; exact rfl); (intro _; exact rfl); exact rfl) | (apply RV_cell1; exact rfl; (repeat' (first | exact Pick.head _ _ | apply Pick.tail)); (intro _; exact rfl); exact rfl))); (focus (first | exact RV_tmp rfl | (apply RV_cellN; exact rfl; (repeat' (first | exact Pick.head _ _ | apply Pick.tail)); (intro _; exact rfl); (intro _; exact rfl); exact rfl) | (apply RV_cell1; exact rfl; (repeat' (first | exact Pick.head _ _ | apply Pick.tail)); (intro _; exact rfl); exact rfl)));  (focus (first | exact rfl | (simp; done))); (focus (repeat (first | exact SubO.nil _ | (apply SubO.cons; (focus (repeat' (first | exact Pick.head _ _ | apply Pick.tail))))))); (focus (repeat (first | exact AllE.nil _ | (apply AllE.cons; (focus (first | exact ent_nilBy | exact ent_nilSl | (apply Ent.mem; repeat' (first | exact mcs | apply mct)))))))))
    · obtain ⟨k, rfl⟩ : ∃ j, k = j + 1 := ⟨k - 1, by omega⟩
      have hone := one_fn k (IH k (by omega)) d v cur dep m (by omega) i2 (by omega) (i6.elim id fun h => absurd h c1) i3
      rw [dec, if_neg c1] at i1
      repeat (first | refine n1 ?_ | refine n2 (fun b _ => ?_) | refine n3 (fun _ _ => ?_) | refine n4 ?_ | refine n5 ?_ | refine WL_nil ?_ | refine W_seq ?_ | refine W_region ?_ | refine n7 ?_ | refine n8 ?_ | refine W_block ?_ | refine W_skip ?_ | refine W_ret ?_ | refine W_exit ?_ | refine WQ_then ?_ | refine WQ_then_ret ?_ | refine WQ_then_exit ?_ | refine WQ_block_normal ?_ | refine WQ_block_ret ?_ | refine WQ_block_exit ?_ | refine n9 ?_)
      apply WL_effs
      · exact rfl
      · exact rfl
      · exact rfl
      · apply E_callG (first := #[.pointer (some ⟨d, 0, none⟩)]) (captured := #[])
        · exact rfl
        · exact rfl
        · exact rfl
        · intro _ _
          simp
        · exact hone
        · exact perm1 (by repeat' (first | exact Pick.head _ _ | apply Pick.tail))
        · exact (by (repeat (first | exact AllE.nil _ | (apply AllE.cons; (focus (first | exact ent_nilBy | exact ent_nilSl | (apply Ent.mem; repeat' (first | exact mcs | apply mct))))))))
        · intro _
          exact rfl
        · intro _
          exact rfl
      rintro ⟨id, ext, dv, data, sv, subs, rv, rest, m2, e⟩ hq
      replace hq : one1 (dec k) cur dep m = ⟨id, ext, data, subs.er, rest, m2, e⟩ := hq
      have hm2 := one1_many (rec := dec k) (b := cur) (d := dep) (m := m) (fun c d m => dec_many k c d m) i3
      have hrest := one1_rest (rec := dec k) (b := cur) (d := dep) (m := m)
      rw [hq] at i1 hm2 hrest
      replace hm2 : m2 ≤ 64 := hm2
      replace hrest : e = 0 → rest.length + 2 ≤ cur.length := hrest
      dsimp only
      by_cases c2 : e = 0
      · subst c2
        have hr := hrest rfl
        rw [if_neg (fun h => h rfl), dcat_dcat] at i1
        replace i1 : dec F xs dep m0 = dcat (acc.app (.cons id ext dv data sv subs .nil)).er (dec k rest dep m2) := by rw [i1, er_app]; rfl
        have hl : acc.len + 1 = (acc.app (.cons id ext dv data sv subs .nil)).len := T.len_snoc ..
        repeat (first | refine n1 ?_ | refine n2 (fun b _ => ?_) | refine n3 (fun _ _ => ?_) | refine n4 ?_ | refine n5 ?_ | refine WL_nil ?_ | refine W_seq ?_ | refine W_region ?_ | refine n7 ?_ | refine n8 ?_ | refine W_block ?_ | refine W_skip ?_ | refine W_ret ?_ | refine W_exit ?_ | refine WQ_then ?_ | refine WQ_then_ret ?_ | refine WQ_then_exit ?_ | refine WQ_block_normal ?_ | refine WQ_block_ret ?_ | refine WQ_block_exit ?_ | refine n9 ?_)
        (apply WL_effs; exact rfl; exact rfl; exact rfl; (apply E_buildSlice; exact rfl; (focus (repeat (first | apply SeqE.nil | (apply SeqE.cons; exact rfl; (focus (first | (apply CellsE.lit; exact rfl) | (apply CellsE.one; (first | (apply OneC.lit; exact rfl) | (apply OneC.by_; (repeat' (first | exact mcs | apply mct)); done) | (apply OneC.sl; (repeat' (first | exact mcs | apply mct)); done) | (apply OneC.rw; (repeat' (first | exact mcs | apply mct)); done) | (apply OneC.row; (repeat' (first | exact Pick.head _ _ | apply Pick.tail))))))); exact rfl) | exact rfl))); exact rfl; (first | (intro _; exact (rfl : _ = Result.ok 1 _)) | (intro _; exact (rfl : _ = Result.ok 2 _)) | (intro _; exact (rfl : _ = Result.ok 3 _)) | (intro _; exact (rfl : _ = Result.ok 4 _)) | (intro _; exact (rfl : _ = Result.ok 5 _)) | (intro _; exact (rfl : _ = Result.ok 6 _)) | (intro _; exact (rfl : _ = Result.ok 7 _)) | (intro _; exact (rfl : _ = Result.ok 8 _)) | (intro _; exact (rfl : _ = Result.ok 9 _)) | (intro _; exact (rfl : _ = Result.ok 13 _)) | (intro _; exact (rfl : _ = Result.ok 14 _)) | (intro _; exact (rfl : _ = Result.ok 26 _)) | (intro _; exact (rfl : _ = Result.ok 40 _)) | (intro _; exact (rfl : _ = Result.ok 41 _)) | (intro _; exact (rfl : _ = Result.ok 42 _)) | (intro _; exact (rfl : _ = Result.ok 43 _)) | (intro _; exact (rfl : _ = Result.ok 44 _)) | (intro _; exact (rfl : _ = Result.ok 45 _)) | (intro _; exact (rfl : _ = Result.ok 46 _))); (intro _; exact rfl); exact rfl; exact Nat.le_of_ble_eq_true rfl; exact Nat.le_of_ble_eq_true rfl); skip)
        intro q _
        apply WL_effs
        · exact rfl
        · exact rfl
        · exact rfl
        · apply E_appendRowO (nm := (acc.app (.cons id ext dv data sv subs .nil)).len) (all := (acc.app (.cons id ext dv data sv subs .nil)).cells)
          · exact rfl
          · exact rfl
          · exact (by repeat' (first | exact Pick.head _ _ | apply Pick.tail))
          · exact (by repeat' (first | exact Pick.head _ _ | apply Pick.tail))
          · exact rfl
          · exact rfl
          · exact rfl
          · exact rfl
          · exact rfl
          · exact Nat.le_of_ble_eq_true rfl
          · (focus (repeat (first | apply Ones.nil | exact Ones.bytes | (apply Ones.cons; (focus (first | (apply OneC.lit; exact rfl) | (apply OneC.by_; (repeat' (first | exact mcs | apply mct)); done) | (apply OneC.sl; (repeat' (first | exact mcs | apply mct)); done) | (apply OneC.rw; (repeat' (first | exact mcs | apply mct)); done) | (apply OneC.row; (repeat' (first | exact Pick.head _ _ | apply Pick.tail)))))))))
          · exact Nat.le_of_ble_eq_true rfl
          · omega
          · exact hl
          · exact T.cells_snoc ..
        intro o2 _
        repeat (first | refine n1 ?_ | refine n2 (fun b _ => ?_) | refine n3 (fun _ _ => ?_) | refine n4 ?_ | refine n5 ?_ | refine WL_nil ?_ | refine W_seq ?_ | refine W_region ?_ | refine n7 ?_ | refine n8 ?_ | refine W_block ?_ | refine W_skip ?_ | refine W_ret ?_ | refine W_exit ?_ | refine WQ_then ?_ | refine WQ_then_ret ?_ | refine WQ_then_exit ?_ | refine WQ_block_normal ?_ | refine WQ_block_ret ?_ | refine WQ_block_exit ?_ | refine n9 ?_)
        refine WQ_addL (v := dv) data rfl (by repeat' (first | exact Pick.head _ _ | apply Pick.tail)) (by repeat' (first | exact Pick.head _ _ | apply Pick.tail)) ?_
        rw [show acc.dls ++ [(dv, data)] = (acc.app (.cons id ext dv data sv subs .nil)).dls from T.dls_snoc ..]
        refine WQ_ent (ent_ts1 (id := id) (ext := ext) (dv := dv) (data := data) (sv := sv) (subs := subs) (by repeat' (first | exact mcs | apply mct)) (by repeat' (first | exact mcs | apply mct))) (WQ_ent (ent_tsapp (t := acc) (u := .cons id ext dv data sv subs .nil) (by repeat' (first | exact mcs | apply mct)) (by repeat' (first | exact mcs | apply mct))) ?_)
        have j2 : rest.length ≤ k := by omega
        have j4 : (acc.app (.cons id ext dv data sv subs .nil)).len + rest.length ≤ 1000000000 := by omega
        have j5 : k ≤ F := by omega
        ((apply WQ_again ((k, acc.app (.cons id ext dv data sv subs .nil), o2, rv, rest, m2))); (focus (exact ⟨i1, j2, hm2, j4, j5, .inl (i6.elim (fun h => h) fun h => absurd h c1)⟩)); (focus exact Nat.lt_succ_self k); (focus (repeat (first | exact FrIn.nil _ | (apply FrIn.cons; exact rfl; (first | exact rfl | (congr 1; first | omega | (dsimp only; omega)) | (simp; done)))))); (focus (repeat (first | exact SubO.nil _ | (apply SubO.cons; (focus (repeat' (first | exact Pick.head _ _ | apply Pick.tail))))))); (focus (repeat (first | exact AllE.nil _ | (apply AllE.cons; (focus (first | exact ent_nilBy | exact ent_nilSl | (apply Ent.mem; repeat' (first | exact mcs | apply mct)))))))))
      · rw [if_pos c2] at i1
        replace i1 : dec F xs dep m0 = (.nil, m2, e) := by rw [i1]; exact if_neg c2
        repeat (first | refine n1 ?_ | refine n2 (fun b _ => ?_) | refine n3 (fun _ _ => ?_) | refine n4 ?_ | refine n5 ?_ | refine WL_nil ?_ | refine W_seq ?_ | refine W_region ?_ | refine n7 ?_ | refine n8 ?_ | refine W_block ?_ | refine W_skip ?_ | refine W_ret ?_ | refine W_exit ?_ | refine WQ_then ?_ | refine WQ_then_ret ?_ | refine WQ_then_exit ?_ | refine WQ_block_normal ?_ | refine WQ_block_ret ?_ | refine WQ_block_exit ?_ | refine n9 ?_)
        apply WQ_nilRow 106 4
        apply WQ_nilL 5
        refine WQ_ent ent_ts0 ?_
        ((apply ret2 Try.results79 ( (Value.slice none 0 0, T.nil, m2, e))); (focus (first | trivial | assumption | omega)); (focus (first | exact RV_tmp rfl | (apply RV_cellN; exact rfl; (repeat' (first | exact Pick.head _ _ | apply Pick.tail)); (intro _; exact rfl); (intro _; exact rfl); exact rfl) | (apply RV_cell1; exact rfl; (repeat' (first | exact Pick.head _ _ | apply Pick.tail)); (intro _; exact rfl); exact rfl))); (focus (first | exact RV_tmp rfl | (apply RV_cellN; exact rfl; (repeat' (first | exact Pick.head _ _ | apply Pick.tail)); (intro _; exact rfl); (intro _; exact rfl); exact rfl) | (apply RV_cell1; exact rfl; (repeat' (first | exact Pick.head _ _ | apply Pick.tail)); (intro _; exact rfl); exact rfl)));  (focus (first | exact rfl | (simp; done))); (focus (repeat (first | exact SubO.nil _ | (apply SubO.cons; (focus (repeat' (first | exact Pick.head _ _ | apply Pick.tail))))))); (focus (repeat (first | exact AllE.nil _ | (apply AllE.cons; (focus (first | exact ent_nilBy | exact ent_nilSl | (apply Ent.mem; repeat' (first | exact mcs | apply mct)))))))))
end Go.Proofs.Ytoohgnegoaoleaa.C04

/-
  What the reference decodes.
-/
namespace Go.Proofs.Ytoohgnegoaoleaa.C04
open Go Go.RowKit Go.Hs
attribute [local irreducible] WL W WQ PL Runs Effs AllE Ent SubO FrIn Pick OneC Ones CellsE PartsE SeqE UZ By Sl Pt Ct

def RdecCt (f : Nat) : Prop := ∀ (v : Value) (xs : List UInt8) (dep m : Nat), xs.length ≤ f → xs.length ≤ 1000000000 → (dep ≤ 4 ∨ xs.length = 0) → m ≤ 64 →
  Ct Try.prog 88 [v, .int .i64 (dep : Int), .int .i64 (m : Int)] [] [By v xs]
    (X := Value × T × Nat × Int) (fun x => dec f xs dep m = (x.2.1.er, x.2.2.1, x.2.2.2)) (fun x => .tuple #[x.1, .int .i64 (x.2.2.1 : Int), .int .i64 x.2.2.2])
    (fun _ => []) (fun x => [Rw 4 x.1 x.2.1.len x.2.1.at_, x.2.1.tf])

theorem WQ_none2 {C : Ctx} {fr : Fr} {Γ : List OA} {Φ : List SP} {Q : Exit → Act → World → Prop} {e : Exit}
    (h : WQ C e fr Γ (T.nil.tf :: Rw 4 (.slice none 0 0) T.nil.len T.nil.at_ :: Φ) Q) : WQ C e fr Γ Φ Q := WQ_ent ent_nilRw (WQ_ent ent_tf0 h)

end Go.Proofs.Ytoohgnegoaoleaa.C04

/-
  Contracts of both Decode, of the reference's Same, and of the law 'ElementDecodes'.
-/
namespace Go.Proofs.Ytoohgnegoaoleaa.C04
open Go Go.RowKit Go.Hs
attribute [local irreducible] WL W WQ PL Runs Effs AllE Ent SubO FrIn Pick OneC Ones CellsE PartsE SeqE UZ By Sl Pt Ct

set_option maxRecDepth 100000 in
set_option maxHeartbeats 4000000 in
theorem decode_fn (v : Value) (xs : List UInt8) (hx : xs.length ≤ 1000000000) : Ct Try.prog 46 [v] [] [By v xs]
    (X := Value × T × Int) (fun x => ∃ m, dec xs.length xs 1 0 = (x.2.1.er, m, x.2.2)) (fun x => .tuple #[x.1, .int .i64 x.2.2]) (fun x => [.row x.1 106 4 x.2.1.len x.2.1.cells, pk (rowsL 5 x.2.1.dls)]) (fun x => [x.2.1.ts]) := by
  refine Ct_intro Try.func46 rfl Try.ntmps46 (by simp) _ rfl (fun w0 O0 => ?_)
  repeat (first | refine n1 ?_ | refine n2 (fun b _ => ?_) | refine n3 (fun _ _ => ?_) | refine n4 ?_ | refine n5 ?_ | refine WL_nil ?_ | refine W_seq ?_ | refine W_region ?_ | refine n7 ?_ | refine n8 ?_ | refine W_block ?_ | refine W_skip ?_ | refine W_ret ?_ | refine W_exit ?_ | refine WQ_then ?_ | refine WQ_then_ret ?_ | refine WQ_then_exit ?_ | refine WQ_block_normal ?_ | refine WQ_block_ret ?_ | refine WQ_block_exit ?_ | refine n9 ?_)
  (apply WL_effs; exact rfl; exact rfl; exact rfl; apply E_callO; exact rfl; (intro _ _; simp); (exact list_fn xs.length _ v xs 1 0 (Nat.le_refl _) hx (.inl (by decide)) (by decide)); (first | (apply perm1; (focus (repeat' (first | exact Pick.head _ _ | apply Pick.tail)))) | (apply perm2; (focus (repeat' (first | exact Pick.head _ _ | apply Pick.tail))); (focus (repeat' (first | exact Pick.head _ _ | apply Pick.tail)))) | (apply perm3; (focus (repeat' (first | exact Pick.head _ _ | apply Pick.tail))); (focus (repeat' (first | exact Pick.head _ _ | apply Pick.tail))); (focus (repeat' (first | exact Pick.head _ _ | apply Pick.tail))))); (repeat (first | exact AllE.nil _ | (apply AllE.cons; (focus (first | exact ent_nilBy | exact ent_nilSl | (apply Ent.mem; repeat' (first | exact mcs | apply mct))))))); (intro _; exact rfl); (intro _; exact rfl))
  rintro ⟨o, t, m, e⟩ hq
  replace hq : dec xs.length xs 1 0 = (t.er, m, e) := hq
  dsimp only
  repeat (first | refine n1 ?_ | refine n2 (fun b _ => ?_) | refine n3 (fun _ _ => ?_) | refine n4 ?_ | refine n5 ?_ | refine WL_nil ?_ | refine W_seq ?_ | refine W_region ?_ | refine n7 ?_ | refine n8 ?_ | refine W_block ?_ | refine W_skip ?_ | refine W_ret ?_ | refine W_exit ?_ | refine WQ_then ?_ | refine WQ_then_ret ?_ | refine WQ_then_exit ?_ | refine WQ_block_normal ?_ | refine WQ_block_ret ?_ | refine WQ_block_exit ?_ | refine n9 ?_)
  have hq' : ∃ m, dec xs.length xs 1 0 = (t.er, m, e) := ⟨m, hq⟩
  ((apply ret2 Try.results46 ( (o, t, e))); (focus (first | trivial | assumption | omega)); (focus (first | exact RV_tmp rfl | (apply RV_cellN; exact rfl; (repeat' (first | exact Pick.head _ _ | apply Pick.tail)); (intro _; exact rfl); (intro _; exact rfl); exact rfl) | (apply RV_cell1; exact rfl; (repeat' (first | exact Pick.head _ _ | apply Pick.tail)); (intro _; exact rfl); exact rfl))); (focus (first | exact RV_tmp rfl | (apply RV_cellN; exact rfl; (repeat' (first | exact Pick.head _ _ | apply Pick.tail)); (intro _; exact rfl); (intro _; exact rfl); exact rfl) | (apply RV_cell1; exact rfl; (repeat' (first | exact Pick.head _ _ | apply Pick.tail)); (intro _; exact rfl); exact rfl)));  (focus (first | exact rfl | (simp; done))); (focus (repeat (first | exact SubO.nil _ | (apply SubO.cons; (focus (repeat' (first | exact Pick.head _ _ | apply Pick.tail))))))); (focus (repeat (first | exact AllE.nil _ | (apply AllE.cons; (focus (first | exact ent_nilBy | exact ent_nilSl | (apply Ent.mem; repeat' (first | exact mcs | apply mct)))))))))

def flen : Fo → Nat
  | .nil => 0
  | .cons _ _ _ _ next => flen next + 1
theorem flen_er : ∀ (t : T), flen t.er = t.len
  | .nil => rfl
  | .cons _ _ _ _ _ _ next => by simp only [T.er, flen, T.len, flen_er next]
theorem drop_end {t : T} {k : Nat} (h : k = t.len) : t.drop k = .nil := by
  subst h
  induction t with
  | nil => rfl
  | cons id ext dv data sv subs next _ ih => exact ih

end Go.Proofs.Ytoohgnegoaoleaa.C04

/-
  A call that is handed some own things and reads others. No program is named here.
-/
namespace Go.Hs
open Go Go.RowKit
section
variable {C : Ctx} {fr : Fr} {Γ : List OA} {Φ : List SP}
  {ty : TypeId} {pos : String} {aft : Array Edge} {g : Option (Nat × Bool)}
/-- own blocks lent: what they hold. -/
theorem Bor.blks {Φ : List SP} {bs : List (Nat × TypeId × List Value)} : Bor (bs.map fun b => .blk b.1 b.2.1 b.2.2) Φ ((bs.map fun b => Pt (.pointer (some ⟨b.1, 0, none⟩)) b.2.2) ++ Φ) := fun w O ho hd hΦ ψ hψ => by
  rcases List.mem_append.1 hψ with hψ | hψ
  · obtain ⟨q, hq, rfl⟩ := List.mem_map.1 hψ
    have key : ∀ (l : List (Nat × TypeId × List Value)), Own (l.map fun b => .blk b.1 b.2.1 b.2.2) w → q ∈ l → w.heap[q.1]? = some (.cells q.2.2.toArray q.2.1 (0, 0)) := by
      intro l
      induction l with
      | nil => intro _ h; cases h
      | cons p r ih =>
        intro h1 h2
        rcases List.mem_cons.1 h2 with rfl | h2
        · exact h1.1
        · exact ih h1.2.2 h2
    have hh := key bs ho hq
    refine ⟨⟨q.1, 0, none⟩, rfl, (Array.getElem?_eq_some_iff.1 hh).1, hd q.1 ⟨.blk q.1 q.2.1 q.2.2, List.mem_map.2 ⟨q, hq, rfl⟩, rfl⟩, fun j u hu => ?_⟩
    rw [Addr.add_lit, Nat.zero_add]
    simp only [World.cell?, hh]
    simpa using hu
  · exact hΦ ψ hψ
theorem Bor.ent {Γb : List OA} {Φb Φc : List SP} (h : Bor Γb Φ Φb) (hs : AllE Φc Φb) : Bor Γb Φ Φc := fun w O ho hd hΦ ψ hψ => hs ψ hψ w O (h w O ho hd hΦ)
end
end Go.Hs

/-
  Elements of own rows of structs, boxes let go, own rows cut and cleared, max. No program is named here.
-/
namespace Go.Hs
open Go Go.RowKit

/-- a truth kept out of the way of reckoning tactics. -/
structure Kp (p : Prop) : Prop where
  out : p

theorem row_cell {w : World} {v : Value} {t : TypeId} {size n : Nat} {xs : List Value} (h : w.ownsRow 0 t size v n xs) {k : Nat} {u : Value} (hk : xs[k]? = some u) :
    ∃ b c cur, v = .slice (some ⟨b, 0, none⟩) n c ∧ w.heap[b]? = some (.cells cur t (0, 0)) ∧ n ≤ c ∧ cur.size = c * size ∧ cur.toList.take (n * size) = xs ∧ w.cell? ⟨b, k, none⟩ = some u := by
  obtain ⟨h1, h2⟩ := h
  have hlt := (List.getElem?_eq_some_iff.1 hk).1
  rcases h2 with ⟨rfl, rfl⟩ | ⟨g, cap, cur, rfl, _, hh, hc, hm, hs, ht⟩
  · omega
  · refine ⟨g, cap, cur, rfl, hh, hc, hs, ht, ?_⟩
    simp only [World.cell?, hh]
    rw [← ht, List.getElem?_take_of_lt (by omega)] at hk
    simpa using hk

section
variable {C : Ctx} {ops : Array Oper} {l : List Oper} {fr : Fr} {Γ Γ' Γ1 : List OA} {Φ : List SP} {Q : Exit → Act → World → Prop}
  {d : Nat} {ty : TypeId} {pos : String} {aft : Array Edge} {g : Option (Nat × Bool)}

/-- an 'if' stands next. -/
theorem W_isIf {id : Nat} {o : Array Oper} {bb : Bool} {c : Operand} {x y z : Code} (h : W C (.seq (.seq (.region id o bb) (.cond c x y)) z) fr Γ Φ Q) : W C (.seq (.seq (.region id o bb) (.cond c x y)) z) fr Γ Φ Q := h

theorem R_max2 {x y : Operand} {kd : IntKind} {a b m : Int} {ts : Array TypeId} (hx : evO fr x = some (.int kd a)) (hy : evO fr y = some (.int kd b))
    (hr : (if b > a then b else a) = m) : Runs C fr Γ Φ ⟨some d, .call { callee := .builtin .max, args := #[x, y], argTypes := ts }, ty, pos, aft, g⟩ (.int kd m) :=
  Runs.pure fun a' w ha _ => by
    subst hr
    simp [execOp, resolve, invoke, builtin, evO_sound ha hx, evO_sound ha hy, Builtin.max_, Builtin.max2]
theorem R_min2 {x y : Operand} {kd : IntKind} {a b m : Int} {ts : Array TypeId} (hx : evO fr x = some (.int kd a)) (hy : evO fr y = some (.int kd b))
    (hr : (if b < a then b else a) = m) : Runs C fr Γ Φ ⟨some d, .call { callee := .builtin .min, args := #[x, y], argTypes := ts }, ty, pos, aft, g⟩ (.int kd m) :=
  Runs.pure fun a' w ha _ => by
    subst hr
    simp [execOp, resolve, invoke, builtin, evO_sound ha hx, evO_sound ha hy, Builtin.min_, Builtin.min2]

theorem R_addS {x y : Operand} {t t' : TypeId} {a b : List UInt8} (hx : evO fr x = some (strV a)) (hy : evO fr y = some (strV b)) (hl : a.length + b.length ≤ 9223372036854775807) :
    Runs C fr Γ Φ ⟨some d, .binOp .add t x y t', ty, pos, aft, g⟩ (strV (a ++ b)) :=
  Runs.pure fun a' w ha _ => by
    have e1 := evO_sound ha hx
    have e2 := evO_sound ha hy
    simp only [strV] at e1 e2
    have hb : (⟨a.toArray⟩ : ByteArray) ++ ⟨b.toArray⟩ = ⟨(a ++ b).toArray⟩ := by
      apply ByteArray.ext
      rw [ByteArray.data_append]
      simp
    have hn : ¬ ((((⟨a.toArray⟩ : ByteArray).size + (⟨b.toArray⟩ : ByteArray).size : Nat) : Int) > IntKind.i64.max) := by
      have e3 : (⟨a.toArray⟩ : ByteArray).size = a.length := by simp [ByteArray.size]
      have e4 : (⟨b.toArray⟩ : ByteArray).size = b.length := by simp [ByteArray.size]
      rw [e3, e4]
      have : IntKind.i64.max = 9223372036854775807 := rfl
      omega
    have hg : (eqGuard .add t x y (.string ⟨a.toArray⟩) (.string ⟨b.toArray⟩)).run C.P w = .ok () w := by simp [eqGuard]
    simp only [execOp, e1, e2, hg, binOp, Op.stringOp, Sem.run_bind, if_neg hn, Sem.run_pure, Result.andThen_ok, hb, strV]

theorem Ones.append {us vs : List Value} (h : Ones C Γ Φ us) (k : Ones C Γ Φ vs) : Ones C Γ Φ (us ++ vs) := fun u hu => (List.mem_append.1 hu).elim (h u) (k u)
/-- a field's address in an element of an own row. -/
theorem R_fieldRow {t ft rt : TypeId} {fs : Array Field} {x : Operand} {v : Value} {i j n fo bo size sz : Nat} {xs : List Value} {nm tag pk : String} {emb : Bool} (hx : evO fr x = some (idxV size i v))
    (hp : Pick (.row v rt size n xs) Γ Γ') (hi : i < n)
    (ht : C.P.underlying t = some (.struct fs)) (hf : fs[j]? = some ⟨nm, ft, fo, emb, tag, pk, bo⟩) (hs : ∀ w, (sizeOf ft).run C.P w = .ok sz w) (hn : Nat.beq sz 0 = false) :
    Runs C fr Γ Φ ⟨some d, .fieldAddr t x j, ty, pos, aft, g⟩ (fldV fo (idxV size i v)) :=
  Runs.pure fun a w ha hw => by
    obtain ⟨hl, h2⟩ := (pick_holds hp hw).own.1
    rcases h2 with ⟨h2, _⟩ | ⟨b, cap, cur, rfl, _, hb, hc, hm, hsz, htk⟩
    · omega
    · have h := run_fieldAt (P := C.P) (a := (⟨b, 0, none⟩ : Addr).add (i * size)) ht hf hs hn w
      simp only [execOp, evO_sound ha hx, idxV, Sem.run_bind, h, Result.andThen_ok, Sem.run_pure, fldV]

theorem R_loadRowF {t rt : TypeId} {x : Operand} {v u : Value} {n i off size : Nat} {xs : List Value} (hx : evO fr x = some (fldV off (idxV size i v))) (hp : Pick (.row v rt size n xs) Γ Γ') (hagg : ∀ w, (isAgg t).run C.P w = .ok false w)
    (hc : xs[i * size + off]? = some u) : Runs C fr Γ Φ ⟨some d, .load t x, ty, pos, aft, g⟩ u :=
  Runs.pure fun a w ha hw => by
    obtain ⟨b, c, cur, rfl, hb, _, _, _, h0⟩ := row_cell (pick_holds hp hw).own.1 hc
    have h0 : w.cell? (((⟨b, 0, none⟩ : Addr).add (i * size)).add off) = some u := by
      rw [Addr.add_lit, Addr.add_lit, Nat.zero_add]
      exact h0
    simp [execOp, evO_sound ha hx, idxV, fldV, Instr.loadAt, Instr.sureAddr, run_loadVar_one hagg h0]

/-- an own block, let go. -/
theorem Holds.letgoK {b : Nat} {t : TypeId} {cs : List Value} {w : World} (h : Holds C (.blk b t cs :: Γ) Φ w) : Holds C Γ (Pt (.pointer (some ⟨b, 0, none⟩)) cs :: Φ) w := by
  have ho := h.own
  refine h.drop.cons ⟨⟨b, 0, none⟩, rfl, OA.lt ho.1 rfl, fun hO => ?_, fun j u hu => ?_⟩
  · rcases hO with hO | hO
    · have h1 := h.o0 b hO
      rcases h.ofp b (fpL_cons.2 (.inl rfl)) with h2 | h2
      · exact h1.2 h2
      · have := h1.1
        omega
    · exact ho.2.1 b rfl hO
  · rw [Addr.add_lit, Nat.zero_add, blk_cell ho.1]
    exact hu
theorem W_letgoK {c : Code} {b : Nat} {t : TypeId} {cs : List Value} (hp : Pick (.blk b t cs) Γ Γ1) (h : W C c fr Γ1 (Pt (.pointer (some ⟨b, 0, none⟩)) cs :: Φ) Q) : W C c fr Γ Φ Q := fun a w ha hw => h a w ha (pick_holds hp hw).letgoK
/-- where ways meet again, ahead of what follows. -/
theorem W_cutKT {x y : Code} {X : Type} (ds ps : List Nat) (I : X → Prop) (ch : X → Fr) (gn : X → List OA) (hn : X → List SP) {fr1 : Fr} {Γ1 : List OA} {F : X → Fr} {G : X → List OA} {H : X → List SP}
    (hf : keepO ds fr = some fr1) (hg : dropO ps 0 Γ = some Γ1) (hF : ∀ x, appO (ch x) fr1 = some (F x)) (hG : ∀ x, appO (gn x) Γ1 = some (G x)) (hH : ∀ x, appO (hn x) Φ = some (H x))
    (h : W C x fr Γ Φ (Exit.then (fun a w => ∃ z, I z ∧ fok C (F z) a ∧ Holds C (G z) (H z) w) Q)) (k : ∀ z, I z → W C y (F z) (G z) (H z) Q) : W C x fr Γ Φ (Exit.then (y.wpIn (fenceOf C.rd) 0 C.P Q) Q) := by
  intro a w ha hw
  refine wpIn_mono (h a w ha hw) fun e a' w' he => ?_
  cases e <;> first | exact he | (obtain ⟨z, h0, h1, h2⟩ := he; exact k z h0 a' w' h1 h2)
end
end Go.Hs

/-
  Loops whose rounds hold a range over a function: the marks that such a statement leaves. No program is named here.
-/
namespace Go.Hs
open Go Go.RowKit

/-- the marks of ranges over functions, and their blocks. -/
def Mk (Ds : List Nat) : List Deferred := Ds.map fun D => ⟨.collected D, #[]⟩
def mkO (Ds : List Nat) : List OA := Ds.map fun D => ob D (.deferred (some []))

section
variable {P : Program} {n : Nat} {w0 : World} {O0 M : Nat → Prop} {fr : Fr} {Γ Γ1 : List OA} {Φ : List SP} {Q : Exit → Act → World → Prop}

theorem Holds.consPk {C : Ctx} {x : OA} {Δ Γ : List OA} {Φ : List SP} {w : World} (h : Holds C (x :: pk Δ :: Γ) Φ w) : Holds C (pk (x :: Δ) :: Γ) Φ w := by
  have h1 := (h.perm (.swap _ _ _)).unpack
  exact (h1.perm (List.perm_middle)).pack
theorem WQ_mark {C : Ctx} {e : Exit} {x : OA} {Δ Γ2 : List OA} (hp : Pick x Γ Γ1) (hp' : Pick (pk Δ) Γ1 Γ2) (h : WQ C e fr (pk (x :: Δ) :: Γ2) Φ Q) : WQ C e fr Γ Φ Q :=
  fun a w ha hw => h a w ha (((pick_holds hp hw).perm (List.Perm.cons _ hp')).consPk)

theorem W_mark0 {C : Ctx} {c : Code} (h : W C c fr (pk (mkO []) :: Γ) Φ Q) : W C c fr Γ Φ Q := fun a w ha hw => h a w ha (Holds.pack (by exact hw))

theorem W_loopM {c : Code} {X : Type} {ds : List Deferred} (D : X → List Nat) (I : X → Prop) (F : X → Fr) (G : X → List OA) (H : X → List SP) (μ : X → Nat) (x0 : X) (hI : I x0) (hd : Mk (D x0) = ds)
    (h0 : WQ ⟨P, n, w0, O0, M, none, ds⟩ .normal fr Γ Φ (fun _ a w => fok ⟨P, n, w0, O0, M, none, ds⟩ (F x0) a ∧ Holds ⟨P, n, w0, O0, M, none, ds⟩ (G x0) (H x0) w))
    (round : ∀ x, I x → W ⟨P, n, w0, O0, M, none, Mk (D x)⟩ c (F x) (G x) (H x) (Exit.then (fun a w => ∃ x', I x' ∧ μ x' < μ x ∧ fok ⟨P, n, w0, O0, M, none, Mk (D x')⟩ (F x') a ∧ Holds ⟨P, n, w0, O0, M, none, Mk (D x')⟩ (G x') (H x') w) Q)) :
    W ⟨P, n, w0, O0, M, none, ds⟩ (.loop c) fr Γ Φ Q := by
  subst hd
  intro a w ha hw b k cs hro hb hr
  have key : ∀ m x a w, I x → μ x = m → fok ⟨P, n, w0, O0, M, none, Mk (D x)⟩ (F x) a → Holds ⟨P, n, w0, O0, M, none, Mk (D x)⟩ (G x) (H x) w →
      ∃ e a' w', Q e a' w' ∧ ArrivesIn (Machine.fenced P (fenceOf none)) P (lone (b.atR a (.code c :: .inLoop c :: k)) cs w) b k cs e a' w' := by
    intro m
    induction m using Nat.strongRecOn with
    | _ m ih =>
      intro x a w hi hn hfa hh
      obtain ⟨e, a₁, w₁, hq, harr⟩ := round x hi a w hfa hh b (.inLoop c :: k) cs hro hb hr
      cases e with
      | normal =>
        obtain ⟨x', hi', hlt, hfa', hh'⟩ := hq
        obtain ⟨e₂, a₂, w₂, hq₂, harr₂⟩ := ih (μ x') (hn ▸ hlt) x' a₁ w₁ hi' rfl hfa' hh'
        exact ⟨e₂, a₂, w₂, hq₂, .of_steps (StepsIn.trans harr (.one (fenced_calm hb hr rfl) stepR_inLoop)) harr₂⟩
      | exit id => exact ⟨_, a₁, w₁, hq, .pass (x := .inLoop c) rfl (fun _ _ => .inl (by simp)) harr⟩
      | goto l => exact ⟨_, a₁, w₁, hq, .pass (x := .inLoop c) rfl (fun _ _ => .inl (by simp)) harr⟩
      | ret => exact ⟨_, a₁, w₁, hq, .pass (x := .inLoop c) rfl (fun _ _ => .inl (by simp)) harr⟩
      | panic ch => exact ⟨_, a₁, w₁, hq, .pass (x := .inLoop c) rfl (fun _ _ => .inl (by simp)) harr⟩
      | outgrown => exact ⟨_, a₁, w₁, hq, .pass (x := .inLoop c) rfl (fun _ _ => .inl (by simp)) harr⟩
  obtain ⟨hfa, hh⟩ := h0 a w ha hw
  obtain ⟨e, a', w', hq, harr⟩ := key _ x0 a w hI rfl hfa hh
  exact ⟨e, a', w', hq, .of_steps (.one (fenced_calm hb hr rfl) stepR_loop) harr⟩

theorem W_loopKM {c : Code} {X : Type} {dv : List Deferred} (D : X → List Nat) (ds ps : List Nat) (I : X → Prop) (ch : X → Fr) (gn : X → List OA) (hn : X → List SP) (μ : X → Nat) (x0 : X) (hd : Mk (D x0) = dv) (hI : I x0) {fr1 : Fr} {Γ1 : List OA} {F : X → Fr} {G : X → List OA} {H : X → List SP}
    (hf : keepO ds fr = some fr1) (hg : dropO ps 0 Γ = some Γ1) (hF : ∀ x, appO (ch x) fr1 = some (F x)) (hG : ∀ x, appO (gn x) Γ1 = some (G x)) (hH : ∀ x, appO (hn x) Φ = some (H x))
    (h1 : FrIn fr (ch x0)) (h2 : SubO Γ (G x0)) (h3 : AllE (hn x0) Φ)
    (round : ∀ x, I x → W ⟨P, n, w0, O0, M, none, Mk (D x)⟩ c (F x) (G x) (H x) (Exit.then (fun a w => ∃ x', I x' ∧ μ x' < μ x ∧ fok ⟨P, n, w0, O0, M, none, Mk (D x')⟩ (F x') a ∧ Holds ⟨P, n, w0, O0, M, none, Mk (D x')⟩ (G x') (H x') w) Q)) :
    W ⟨P, n, w0, O0, M, none, dv⟩ (.loop c) fr Γ Φ Q := by
  refine W_loopM D I F G H μ x0 hI hd (WQ_fit ?_ h2 ?_) round
  · rw [← appO_eq (hF x0)]
    exact FrIn.append h1 (keepO_in hf)
  · rw [← appO_eq (hH x0)]
    exact AllE.append h3 fun ψ hψ => Ent.mem hψ

theorem WQ_againM {X : Type} {D : X → List Nat} {I : X → Prop} {F : X → Fr} {G : X → List OA} {H : X → List SP} {μ : X → Nat} {m : Nat} {dv : List Deferred} (x : X) (hd : Mk (D x) = dv) (hi : I x) (hμ : μ x < m) (h1 : FrIn fr (F x)) (h2 : SubO Γ (G x)) (h3 : AllE (H x) Φ) :
    WQ ⟨P, n, w0, O0, M, none, dv⟩ .normal fr Γ Φ (Exit.then (fun a w => ∃ x', I x' ∧ μ x' < m ∧ fok ⟨P, n, w0, O0, M, none, Mk (D x')⟩ (F x') a ∧ Holds ⟨P, n, w0, O0, M, none, Mk (D x')⟩ (G x') (H x') w) Q) := by
  subst hd
  exact fun _ _ ha hw => ⟨x, hi, hμ, ha.sub h1, (hw.subOwn h2).allE h3⟩

theorem ret_endMs {fn : Func} {X : Type} {pf : X → Prop} {ret : X → Value} {Γ' : X → List OA} {Φ' : X → List SP} {e : Exit} (he : e = .ret ∨ e = .normal) (Ds : List Nat) (x : X) (hp : pf x)
    (hD : Pick (pk (mkO Ds)) Γ Γ1)
    (hr : ∀ a w, fok ⟨P, n, w0, O0, M, none, Mk Ds⟩ fr a → Holds ⟨P, n, w0, O0, M, none, Mk Ds⟩ Γ1 Φ w → (results fn a.tmps).run P w = .ok (ret x) w) (h2 : SubO Γ1 (Γ' x)) (h3 : AllE (Φ' x) Φ) :
    WQ ⟨P, n, w0, O0, M, none, Mk Ds⟩ e fr Γ Φ (bodyPostM Fence.wide 0 P fn (FnPost w0 O0 M pf ret Γ' Φ')) := by
  intro a w ha hw
  have key : ∀ (Es : List Nat) (w : World), Holds ⟨P, n, w0, O0, M, none, Mk Ds⟩ (mkO Es ++ Γ1) Φ w → LeavesInM Fence.wide 0 P fn a.tmps (FnPost w0 O0 M pf ret Γ' Φ') (Mk Es) .returning w := by
    intro Es
    induction Es with
    | nil =>
      intro w hw
      have hw3 := (Holds.subOwn hw h2).allE h3
      exact ⟨_, hr a w ha hw, x, hp, rfl, hw3.mod, hw3.own, hw3.ofp, hw3.sp⟩
    | cons D Es ih =>
      intro w hw
      have hat := ob_at hw
      have hw2 := (hw.putO (.deferred none)).drop
      exact ⟨(fun h => by cases h), .inl ⟨D, _, rfl, run_takeDeferred hat, ih _ hw2⟩⟩
  have hw1 := (pick_holds hD hw).unpack
  have hl := key Ds w hw1
  rw [← show a.defers = Mk Ds from ha.1] at hl
  rcases he with rfl | rfl
  · exact hl
  · exact hl
end

section
variable {P : Program} {n : Nat} {w0 : World} {O0 M : Nat → Prop} {fn : Func} {fr : Fr} {Γ Γ1 : List OA} {Φ : List SP} {X : Type} {pf : X → Prop} {ret : X → Value} {Γ' : X → List OA} {Φ' : X → List SP}
theorem ret2Ms {r1 r2 : ResultVar} {v1 v2 : Value} (Ds : List Nat) (hres : fn.results = #[r1, r2]) (x : X) (hp : pf x) (hD : Pick (pk (mkO Ds)) Γ Γ1)
    (h1 : RV ⟨P, n, w0, O0, M, none, Mk Ds⟩ fr Γ1 Φ r1 v1) (h1' : RV ⟨P, n, w0, O0, M, none, Mk Ds⟩ fr Γ1 Φ r2 v2) (hv : .tuple #[v1, v2] = ret x) (h2 : SubO Γ1 (Γ' x)) (h3 : AllE (Φ' x) Φ) :
    WQ ⟨P, n, w0, O0, M, none, Mk Ds⟩ .ret fr Γ Φ (bodyPostM Fence.wide 0 P fn (FnPost w0 O0 M pf ret Γ' Φ')) :=
  ret_endMs (.inl rfl) Ds x hp hD (fun a w ha hw => by rw [← hv, results_run, hres]; simp [h1 a w ha hw, h1' a w ha hw]) h2 h3
end
end Go.Hs

/-
  Own rows sliced, own trees lent, rows let go by parts. No program is named here.
-/
namespace Go.Hs
open Go Go.RowKit

section
variable {C : Ctx} {ops : Array Oper} {l : List Oper} {fr : Fr} {Γ Γ' Γ1 : List OA} {Φ : List SP} {Q : Exit → Act → World → Prop}
  {d : Nat} {ty : TypeId} {pos : String} {aft : Array Edge} {g : Option (Nat × Bool)}

theorem slT_rw {v : Value} {t : T} {w : World} {O : Nat → Prop} (h : slP 4 v t.len t.cells w O) : rwP 4 v t.len t.at_ w O := by
  have h1 := ent_slT (Φ := [Sl 4 v t.len t.cells]) (v := v) (t := t) List.mem_cons_self w O (fun χ hχ => by rcases List.mem_singleton.1 hχ with rfl; exact h)
  exact h1
theorem Bor.sub {Γb : List OA} {Φb Φc : List SP} (h : Bor Γb Φ Φb) (hs : AllIn Φc Φb) : Bor Γb Φ Φc := fun w O ho hd hΦ ψ hψ => h w O ho hd hΦ ψ (hs ψ hψ)

/-- a list of elements that is made, told as lasting at once. -/
theorem Effs.letT {o : Oper} {X : Type} {pf : X → Prop} {vx : X → Value} {G : X → List OA} {H : X → List SP} {v : X → Value} {et : TypeId} {n : Nat} {cs : List Value} (t : T) (hn : n = t.len) (hc : cs = t.cells)
    (h : Effs C fr Γ Φ o pf vx (fun x => .row (v x) et 4 n cs :: G x) H) : Effs C fr Γ Φ o pf vx G (fun x => Rw 4 (v x) t.len t.at_ :: H x) := by
  subst hn; subst hc
  refine ⟨fun x ψ hψ => List.mem_cons_of_mem _ (h.1 x ψ hψ), fun R a w ha hw => (h.2 R a w ha hw).mono fun v' w' ⟨x, hp, hv, hw'⟩ => ⟨x, hp, hv, ?_⟩⟩
  have h1 : Holds C (G x ++ R) (Sl 4 (v x) t.len t.cells :: H x) w' := Holds.letgo hw'
  refine ⟨h1.mod, h1.own, h1.ofp, h1.o0, fun ψ hψ => ?_⟩
  rcases List.mem_cons.1 hψ with rfl | hψ
  · exact slT_rw (h1.sp _ List.mem_cons_self)
  · exact h1.sp ψ (List.mem_cons_of_mem _ hψ)
end
end Go.Hs

/-
  Rules for walks: what 'make' lays.
-/
namespace Go.Hs
open Go Go.RowKit
theorem made_one (c : Value) (k : Nat) : (madeCells #[c] k).toList = List.replicate k c := by
  unfold madeCells
  rw [Array.toList_map, Array.toList_range, List.eq_replicate_iff]
  refine ⟨by rw [List.length_map, List.length_range], fun b hb => ?_⟩
  obtain ⟨i, _, rfl⟩ := List.mem_map.1 hb
  show (#[c])[i % 1]! = c
  rw [Nat.mod_one]
  rfl
theorem made_u8 (k : Nat) : (madeCells (Value.int .u8 0).cells (k * 1)).toList.take (k * 1) = (List.replicate k (0 : UInt8)).map bcell := by
  rw [Nat.mul_one, show (Value.int .u8 0).cells = #[.int .u8 0] from rfl, made_one, List.take_of_length_le (by rw [List.length_replicate]; exact Nat.le_refl _), List.map_replicate]
  rfl
/-- of what is handed back one row of bytes may be told as lasting, the rest stays one's own. -/
theorem Ct.letR {P : Program} {f : FuncId} {args : List Value} {Γ : List OA} {Φ : List SP} {X : Type} {pf : X → Prop} {ret : X → Value} {t : TypeId} {n : X → Nat} {cs : X → List Value} {v : X → Value} {bs : X → List UInt8} {G : X → List OA} {H : X → List SP}
    (h : Ct P f args Γ Φ pf ret (fun x => .row (v x) t 1 (n x) (cs x) :: G x) H) (hc : ∀ x, cs x = (bs x).map bcell) : Ct P f args Γ Φ pf ret G (fun x => By (v x) (bs x) :: H x) := by
  intro w O0 h0 ho hs
  refine (h w O0 h0 ho hs).mono fun e w' ⟨x, hp, he, hm, ho', hf, hs'⟩ => ?_
  have hh : Holds { P := P, n := 0, w0 := w, O0 := O0, M := fpL Γ, rd := none, ds := [] } (.row (v x) t 1 (n x) (cs x) :: G x) (H x) w' := ⟨hm, ho', hf, h0, hs'⟩
  have h2 := hh.letgoB (hc x)
  exact ⟨x, hp, he, hm, h2.own, h2.ofp, h2.sp⟩
end Go.Hs

/-
  Bits of numbers of 64 signed bits. No program is named here.
-/
namespace Go.Hs
open Go Go.RowKit

theorem i64_low (n : Int) (k : Nat) (hk : k ≤ 62) : bits .and .i64 n ((2 ^ k - 1 : Nat) : Int) = n % ((2 ^ k : Nat) : Int) := by
  have hp : 2 ^ k ≤ 2 ^ 62 := Nat.pow_le_pow_right (by decide) hk
  have h0 : 0 < 2 ^ k := Nat.two_pow_pos k
  have h2 : (2 : Nat) ^ 62 = 4611686018427387904 := by decide
  have hm : (BitVec.ofInt 64 ((2 ^ k - 1 : Nat) : Int)).toNat = 2 ^ k - 1 := by
    rw [BitVec.ofInt_natCast, BitVec.toNat_ofNat]; exact Nat.mod_eq_of_lt (by omega)
  have key : (BitVec.ofInt 64 n &&& BitVec.ofInt 64 ((2 ^ k - 1 : Nat) : Int)).toNat = (n % ((2 ^ 64 : Nat) : Int)).toNat % 2 ^ k := by
    rw [BitVec.toNat_and, BitVec.toNat_ofInt, hm, Nat.and_two_pow_sub_one_eq_mod]
  show IntKind.i64.wrap ((BitVec.ofInt 64 n &&& BitVec.ofInt 64 ((2 ^ k - 1 : Nat) : Int)).toNat : Nat) = _
  have hd : ((2 ^ k : Nat) : Int) ∣ ((2 ^ 64 : Nat) : Int) := Int.natCast_dvd_natCast.2 (Nat.pow_dvd_pow 2 (by omega))
  have e : (((n % ((2 ^ 64 : Nat) : Int)).toNat % 2 ^ k : Nat) : Int) = n % ((2 ^ k : Nat) : Int) := by
    rw [Int.natCast_emod, Int.toNat_of_nonneg (Int.emod_nonneg _ (by decide)), Int.emod_emod_of_dvd n hd]
  have hlt := Int.emod_lt_of_pos n (show (0 : Int) < ((2 ^ k : Nat) : Int) by omega)
  have hge := Int.emod_nonneg n (show ((2 ^ k : Nat) : Int) ≠ 0 by omega)
  rw [key, e, wx_i64 (by omega)]
theorem i64_and7 (n : Int) : bits .and .i64 n 7 = n % 8 := i64_low n 3 (by decide)
end Go.Hs

/-
  Contracts of the functions of layer 1 that read numbers and texts, of the reference's, and of the comparisons.
-/
namespace Go.Proofs.Ytoohgnegoaoleaa.C01
open Go Go.RowKit Go.Hs
attribute [local irreducible] WL W WQ PL Runs Effs AllE Ent SubO FrIn Pick OneC Ones CellsE PartsE SeqE UZ By Sl Pt Ct

def leN : List UInt8 → Nat
  | [] => 0
  | b :: r => b.toNat + 256 * leN r

theorem leN_lt : ∀ bs : List UInt8, leN bs < 256 ^ bs.length
  | [] => by simp [leN]
  | b :: r => by
    have := leN_lt r
    have := b.toNat_lt
    simp only [leN, List.length_cons, Nat.pow_succ]
    omega

theorem leN_snoc : ∀ (bs : List UInt8) (i : Nat), i < bs.length → leN (bs.take (i + 1)) = leN (bs.take i) + (bs.getD i 0).toNat * 256 ^ i
  | [], i, h => by simp at h
  | b :: r, 0, h => by simp [leN]
  | b :: r, i + 1, h => by
    have ih := leN_snoc r i (by simpa using h)
    simp only [List.take_succ_cons, leN, ih, List.getD_cons_succ, Nat.pow_succ]
    rw [Nat.mul_add, Nat.mul_comm (256 ^ i) 256, Nat.mul_left_comm]
    omega

def doE (len : Nat) (at_ : Int) : Int := if ¬ (0 ≤ at_ ∧ at_ ≤ len) then 8 else if at_ < len then 11 else 0

end Go.Proofs.Ytoohgnegoaoleaa.C01

/-
  Contracts of the readers of numbers and texts of layer 1.
-/
namespace Go.Proofs.Ytoohgnegoaoleaa.C01
open Go Go.RowKit Go.Hs
attribute [local irreducible] WL W WQ PL Runs Effs AllE Ent SubO FrIn Pick OneC Ones CellsE PartsE SeqE UZ By Sl Pt Ct

theorem or_step (bs : List UInt8) (i : Nat) (h : i < bs.length) (h8 : i < 8) : bits .or .u64 (leN (bs.take i) : Int) (((bs.getD i 0).toNat * 2 ^ (8 * i) : Nat) : Int) = (leN (bs.take (i + 1)) : Int) := by
  have h1 := leN_lt (bs.take i)
  rw [List.length_take, Nat.min_eq_left (Nat.le_of_lt h)] at h1
  have h2 := leN_lt (bs.take (i + 1))
  rw [List.length_take, Nat.min_eq_left h] at h2
  have h3 := leN_snoc bs i h
  have e : (256 : Nat) ^ i = 2 ^ (8 * i) := by rw [Nat.pow_mul]
  have h4 : (256 : Nat) ^ (i + 1) ≤ 256 ^ 8 := Nat.pow_le_pow_right (by decide) h8
  have h5 : (256 : Nat) ^ 8 = 18446744073709551616 := by decide
  rw [e] at h1 h3
  rw [u64_or_nat _ _ (by omega) (by omega), h3, Nat.or_comm, Nat.mul_comm, ← Nat.two_pow_add_eq_or_of_lt h1]
  congr 1
  omega

theorem sh_step (c : UInt8) (i : Nat) (h8 : i < 8) : IntKind.u64.wrap ((c.toNat : Int) * (2 ^ (min ((8 * (i : Int))).toNat IntKind.u64.bits))) = ((c.toNat * 2 ^ (8 * i) : Nat) : Int) := by
  have e2 : min ((8 * (i : Int))).toNat IntKind.u64.bits = 8 * i := by
    rw [show (8 * (i : Int)).toNat = 8 * i by omega]
    exact Nat.min_eq_left (show 8 * i ≤ 64 by omega)
  have h4 : (256 : Nat) ^ (i + 1) ≤ 256 ^ 8 := Nat.pow_le_pow_right (by decide) h8
  have h5 : (256 : Nat) ^ 8 = 18446744073709551616 := by decide
  have e : (256 : Nat) ^ i = 2 ^ (8 * i) := by rw [Nat.pow_mul]
  rw [e2, show ((2 : Int) ^ (8 * i)) = ((2 ^ (8 * i) : Nat) : Int) by simp, ← Int.natCast_mul]
  apply wx_u64
  have := c.toNat_lt
  have h6 : c.toNat * 2 ^ (8 * i) ≤ 255 * 256 ^ i := by rw [e]; exact Nat.mul_le_mul_right _ (by omega)
  rw [Nat.pow_succ] at h4
  omega

end Go.Proofs.Ytoohgnegoaoleaa.C01

/-
  The mathematics of encoding and decoding: what is encoded is decoded to the same, and what is decoded was encoded so. No program is named here.
-/
namespace Go.Proofs.Ytoohgnegoaoleaa.C04
open Go Go.RowKit Go.Hs

/-- a content after the Id, part by part. -/
def bod : Nat → List UInt8 → List UInt8
  | 0, c => UInt8.ofNat c.length :: c
  | f + 1, c => if 255 ≤ c.length then 255 :: (c.take 255 ++ 254 :: bod f (c.drop 255)) else UInt8.ofNat c.length :: c
def withX (id ext : UInt8) (c : List UInt8) : List UInt8 := if id = 255 then ext :: c else c
def inn (id : UInt8) (data sub : List UInt8) : List UInt8 := if contB id then sub else data
def enc : Fo → List UInt8
  | .nil => []
  | .cons id ext data subs next => (id :: bod (withX id ext (inn id data (enc subs))).length (withX id ext (inn id data (enc subs)))) ++ enc next
def cnt : Fo → Nat
  | .nil => 0
  | .cons _ _ _ subs next => 1 + cnt subs + cnt next
def dep : Fo → Nat
  | .nil => 0
  | .cons _ _ _ subs next => max (1 + dep subs) (dep next)
def isN : Fo → Bool
  | .nil => true
  | _ => false
/-- an element by itself, its list aside. -/
def own (id ext : UInt8) (data : List UInt8) (subs : Fo) : Bool :=
  (! decide (id = 254)) && (decide (id = 255) || decide (ext = 0)) && (if contB id then data.isEmpty else isN subs)
def val : Fo → Bool
  | .nil => true
  | .cons id ext data subs next => own id ext data subs && val subs && val next
def fit : Fo → Bool
  | .nil => true
  | .cons id _ data subs next => decide ((inn id data (enc subs)).length ≤ 1024) && (! contB id || fit subs) && fit next
def chk (t : Fo) : Int := if 64 < cnt t ∨ 4 < dep t then 4 else if val t = false then 8 else if fit t = false then 11 else 0

theorem bod_fuel : ∀ (f : Nat) (c : List UInt8), c.length ≤ f → bod f c = bod c.length c := by
  intro f
  induction f using Nat.strongRecOn with
  | _ f ih =>
    intro c h
    cases f with
    | zero =>
      obtain rfl : c = [] := List.eq_nil_of_length_eq_zero (by omega)
      rfl
    | succ f =>
      by_cases h1 : 255 ≤ c.length
      · obtain ⟨k, hk⟩ : ∃ k, c.length = k + 1 := ⟨c.length - 1, by omega⟩
        rw [hk, bod, bod, if_pos h1, if_pos h1, ih f (by omega) _ (by rw [List.length_drop]; omega), ih k (by omega) _ (by rw [List.length_drop]; omega)]
      · have e : ∀ g, bod g c = UInt8.ofNat c.length :: c := fun g => by
          cases g with
          | zero => rfl
          | succ g => rw [bod, if_neg h1]
        rw [e, e]
theorem bod_small {f : Nat} {c : List UInt8} (h : c.length < 255) : bod f c = UInt8.ofNat c.length :: c := by
  cases f with
  | zero => rfl
  | succ g => rw [bod, if_neg (by omega)]
theorem bod_big {c : List UInt8} (h : 255 ≤ c.length) : bod c.length c = 255 :: (c.take 255 ++ 254 :: bod (c.drop 255).length (c.drop 255)) := by
  obtain ⟨k, hk⟩ : ∃ k, c.length = k + 1 := ⟨c.length - 1, by omega⟩
  rw [hk, bod, if_pos h, bod_fuel k _ (by rw [List.length_drop]; omega)]
theorem cont255 : contB 255 = false := rfl
theorem cont254 : contB 254 = false := rfl

end Go.Proofs.Ytoohgnegoaoleaa.C04

/-
  Sizes of lists, and the reference's Count, Depth, weight, Great.
-/
namespace Go.Proofs.Ytoohgnegoaoleaa.C04
open Go Go.RowKit Go.Hs
attribute [local irreducible] WL W WQ PL Runs Effs AllE Ent SubO FrIn Pick OneC Ones CellsE PartsE SeqE UZ By Sl Pt Ct

def dat : Fo → Nat
  | .nil => 0
  | .cons _ _ data subs next => data.length + dat subs + dat next
/-- a list as the statements bound it. -/
def Sm (t : Fo) : Prop := cnt t ≤ 400 ∧ dep t ≤ 10 ∧ dat t ≤ 50000
theorem flen_cnt : ∀ (t : Fo), flen t ≤ cnt t
  | .nil => Nat.le_refl _
  | .cons _ _ _ subs next => by
    have h2 := flen_cnt next
    simp only [flen, cnt]
    omega
theorem len_cnt (t : T) : t.len ≤ cnt t.er := by
  rw [← flen_er]
  exact flen_cnt _
theorem at_sub : ∀ {t : T} {k : Nat} {id ext : UInt8} {dv : Value} {data : List UInt8} {sv : Value} {subs next : T}, t.drop k = .cons id ext dv data sv subs next →
    1 + cnt subs.er + cnt next.er ≤ cnt t.er ∧ 1 + dep subs.er ≤ dep t.er ∧ dep next.er ≤ dep t.er ∧ data.length + dat subs.er + dat next.er ≤ dat t.er
  | .nil, k, _, _, _, _, _, _, _, h => by rw [T.drop_nil] at h; cases h
  | .cons _ _ _ _ _ _ _, 0, _, _, _, _, _, _, _, h => by
    simp only [T.drop, T.cons.injEq] at h
    obtain ⟨rfl, rfl, rfl, rfl, rfl, rfl, rfl⟩ := h
    simp only [T.er, cnt, dep, dat]
    omega
  | .cons _ _ _ _ _ s n, k + 1, _, _, _, _, _, _, _, h => by
    have := at_sub (t := n) h
    simp only [T.er, cnt, dep, dat]
    omega
theorem Sm.sub {t : T} {k : Nat} {id ext : UInt8} {dv : Value} {data : List UInt8} {sv : Value} {subs next : T} (h : Sm t.er) (e : t.drop k = .cons id ext dv data sv subs next) : Sm subs.er := by
  obtain ⟨h1, h2, h3⟩ := h
  have := at_sub e
  exact ⟨by omega, by omega, by omega⟩

end Go.Proofs.Ytoohgnegoaoleaa.C04

/-
  The reference's Valid, Bytes, long, Check, Encode.
-/
namespace Go.Proofs.Ytoohgnegoaoleaa.C04
open Go Go.RowKit Go.Hs
attribute [local irreducible] WL W WQ PL Runs Effs AllE Ent SubO FrIn Pick OneC Ones CellsE PartsE SeqE UZ By Sl Pt Ct

theorem bod_len : ∀ (n : Nat) (c : List UInt8), c.length = n → (bod c.length c).length ≤ 2 * c.length + 1 := by
  intro n
  induction n using Nat.strongRecOn with
  | _ n ih =>
    intro c hn
    by_cases h1 : 255 ≤ c.length
    · rw [bod_big h1]
      have := ih (n - 255) (by omega) (c.drop 255) (by rw [List.length_drop]; omega)
      simp only [List.length_cons, List.length_append, List.length_take]
      rw [List.length_drop] at this ⊢
      omega
    · rw [bod_small (by omega)]
      simp only [List.length_cons]
      omega
theorem enc_len : ∀ (t : Fo), (enc t).length ≤ 2 ^ dep t * (dat t + 4 * cnt t)
  | .nil => by simp [enc]
  | .cons id ext data subs next => by
    have h1 := enc_len subs
    have h2 := enc_len next
    have h3 := bod_len _ (withX id ext (inn id data (enc subs))) rfl
    have h4 : (withX id ext (inn id data (enc subs))).length ≤ data.length + (enc subs).length + 1 := by
      have : (inn id data (enc subs)).length ≤ data.length + (enc subs).length := by
        unfold inn
        split <;> omega
      unfold withX
      split
      · simp only [List.length_cons]; omega
      · omega
    have p1 : 2 * 2 ^ dep subs ≤ 2 ^ dep (.cons id ext data subs next) := by
      rw [← Nat.pow_succ']
      exact Nat.pow_le_pow_right (by decide) (by simp only [dep]; omega)
    have p2 : 2 ^ dep next ≤ 2 ^ dep (.cons id ext data subs next) := Nat.pow_le_pow_right (by decide) (by simp only [dep]; omega)
    have p0 : 1 ≤ 2 ^ dep subs := Nat.one_le_two_pow
    generalize 2 ^ dep (.cons id ext data subs next) = A at *
    have q1 := Nat.mul_le_mul_right (dat subs + 4 * cnt subs) p1
    have q2 := Nat.mul_le_mul_right (dat next + 4 * cnt next) p2
    have q3 : 2 * (data.length + 4) ≤ A * (data.length + 4) := Nat.mul_le_mul_right _ (by omega)
    rw [Nat.mul_assoc] at q1
    have e : A * (dat (.cons id ext data subs next) + 4 * cnt (.cons id ext data subs next)) = A * (data.length + 4) + A * (dat subs + 4 * cnt subs) + A * (dat next + 4 * cnt next) := by
      rw [← Nat.mul_add, ← Nat.mul_add]
      congr 1
      simp only [dat, cnt]
      omega
    rw [e, enc, List.length_append, List.length_cons]
    omega
theorem Sm.enc_le {t : Fo} (h : Sm t) : (enc t).length ≤ 60000000 := by
  have h1 := enc_len t
  have h2 : 2 ^ dep t ≤ 2 ^ 10 := Nat.pow_le_pow_right (by decide) h.2.1
  have h3 := Nat.mul_le_mul_right (dat t + 4 * cnt t) h2
  have := h.1
  have := h.2.2
  omega
theorem u8is {id : UInt8} {n : Nat} (hn : n < 256) : id = UInt8.ofNat n ↔ id.toNat = n := by
  constructor
  · intro h
    rw [h, UInt8.toNat_ofNat']
    omega
  · intro h
    apply UInt8.toNat_inj.1
    rw [UInt8.toNat_ofNat', h]
    omega

end Go.Proofs.Ytoohgnegoaoleaa.C04
