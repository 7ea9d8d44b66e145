/-
  Rules for walks, merged.
-/
import Derived.Test.YtbdcpahifcbcfaaXa
import Derived.RangeFuncLeaves
import Derived.DeepKeys
import Derived.Lib.AppendZerosOnto
import Derived.Test.YtbdcpahifcbcfaaRows
import Derived.Laws.BitsAllLaws
import Derived.Laws.Bits128
/-
  The steps of a walk, with the reckoning of each side goal by default. No program is named here.
-/
namespace Go.Hs
open Go Go.RowKit
attribute [local irreducible] WL W WQ PL Runs Effs AllE Ent SubO FrIn Pick OneC Ones CellsE PartsE SeqE UZ By Sl Pt Ct

section
variable {C : Ctx} {ops : Array Oper} {l : List Oper} {o : Oper} {d : Nat} {v : Value} {fr : Fr} {Γ Γs : List OA} {Φ : List SP} {Q : Exit → Act → World → Prop} {ψ : SP}
  {X : Type} {pf : X → Prop} {vx : X → Value} {Γ' : X → List OA} {Φ' : X → List SP} {es us π : List Nat} {i : Nat}

theorem n1 (k : WL C ops l ((d, v) :: fr) Γ Φ Q) (hg : gv ops fr o.guard = some true := by exact rfl) (hd : o.dst = some d := by exact rfl) (hn : Nat.blt d C.n = true := by exact rfl)
    (h : Runs C fr Γ Φ o v := by (first | (apply Go.Hs.R_move; exact rfl) | (apply Go.Hs.R_assign; exact rfl) | (apply Go.Hs.R_extract; exact rfl; exact rfl) | (apply Go.Hs.R_pick_t; exact rfl; exact rfl) | (apply Go.Hs.R_pick_f; exact rfl; exact rfl) | (apply Go.Hs.G_bin; (first | (apply Go.Hs.R_cmp; exact rfl; exact rfl; exact rfl; (first | exact decide_eq_true (by omega) | exact decide_eq_false (by omega) | exact rfl)) | (apply Go.Hs.R_ari; exact rfl; exact rfl; exact rfl; (first | exact Go.Hs.wx_i64 (by omega) | exact Go.Hs.wx_u8 (by omega) | exact Go.Hs.wx_u64 (by omega) | exact Go.Hs.wx_u32 (by omega) | exact Go.Hs.wx_u16 (by omega) | exact Go.Hs.wx_b8 _ | exact rfl)) | (apply Go.Hs.R_eqB; exact rfl; exact rfl; exact rfl; exact rfl) | (apply Go.Hs.R_neB; exact rfl; exact rfl; exact rfl; exact rfl) | (apply Go.Hs.R_eqS; exact rfl; exact rfl; (first | exact decide_eq_true rfl | exact decide_eq_true (by assumption) | exact decide_eq_false (by assumption) | exact rfl)) | (apply Go.Hs.R_neS; exact rfl; exact rfl; (first | exact Go.Hs.neS_f rfl | exact Go.Hs.neS_f (by assumption) | exact Go.Hs.neS_t (by assumption) | exact rfl)) | (apply Go.Hs.R_addS; exact rfl; exact rfl; (first | omega | (simp only [List.length_take, List.length_drop, List.length_append, List.length_cons, List.length_nil, List.length_map, List.length_replicate]; omega))) | (apply Go.Hs.R_eqA; exact rfl; exact rfl; exact rfl; exact rfl; (first | exact rfl | kernel_rfl); (first | exact rfl | kernel_rfl); (first | exact rfl | kernel_rfl); (first | exact Go.Hs.Bc.self _ | exact Go.Hs.Bc.zero | exact Go.Hs.Bc.lit _ rfl); (first | exact Go.Hs.Bc.self _ | exact Go.Hs.Bc.zero | exact Go.Hs.Bc.lit _ rfl); (first | exact Go.Hs.Bc.self _ | exact Go.Hs.Bc.zero | exact Go.Hs.Bc.lit _ rfl); (first | exact Go.Hs.Bc.self _ | exact Go.Hs.Bc.zero | exact Go.Hs.Bc.lit _ rfl); (first | exact Go.Hs.Bc.self _ | exact Go.Hs.Bc.zero | exact Go.Hs.Bc.lit _ rfl); (first | exact Go.Hs.Bc.self _ | exact Go.Hs.Bc.zero | exact Go.Hs.Bc.lit _ rfl); (first | exact Go.Hs.Bc.self _ | exact Go.Hs.Bc.zero | exact Go.Hs.Bc.lit _ rfl); (first | exact Go.Hs.Bc.self _ | exact Go.Hs.Bc.zero | exact Go.Hs.Bc.lit _ rfl); (first | exact Go.Hs.Bc.self _ | exact Go.Hs.Bc.zero | exact Go.Hs.Bc.lit _ rfl); (first | exact Go.Hs.Bc.self _ | exact Go.Hs.Bc.zero | exact Go.Hs.Bc.lit _ rfl); (first | exact Go.Hs.Bc.self _ | exact Go.Hs.Bc.zero | exact Go.Hs.Bc.lit _ rfl); (first | exact Go.Hs.Bc.self _ | exact Go.Hs.Bc.zero | exact Go.Hs.Bc.lit _ rfl); (first | exact decide_eq_true (by assumption) | exact decide_eq_false (by assumption) | exact decide_eq_true rfl | exact decide_eq_false (by decide) | exact rfl)) | (apply Go.Hs.R_neA; exact rfl; exact rfl; exact rfl; exact rfl; (first | exact rfl | kernel_rfl); (first | exact rfl | kernel_rfl); (first | exact rfl | kernel_rfl); (first | exact Go.Hs.Bc.self _ | exact Go.Hs.Bc.zero | exact Go.Hs.Bc.lit _ rfl); (first | exact Go.Hs.Bc.self _ | exact Go.Hs.Bc.zero | exact Go.Hs.Bc.lit _ rfl); (first | exact Go.Hs.Bc.self _ | exact Go.Hs.Bc.zero | exact Go.Hs.Bc.lit _ rfl); (first | exact Go.Hs.Bc.self _ | exact Go.Hs.Bc.zero | exact Go.Hs.Bc.lit _ rfl); (first | exact Go.Hs.Bc.self _ | exact Go.Hs.Bc.zero | exact Go.Hs.Bc.lit _ rfl); (first | exact Go.Hs.Bc.self _ | exact Go.Hs.Bc.zero | exact Go.Hs.Bc.lit _ rfl); (first | exact Go.Hs.Bc.self _ | exact Go.Hs.Bc.zero | exact Go.Hs.Bc.lit _ rfl); (first | exact Go.Hs.Bc.self _ | exact Go.Hs.Bc.zero | exact Go.Hs.Bc.lit _ rfl); (first | exact Go.Hs.Bc.self _ | exact Go.Hs.Bc.zero | exact Go.Hs.Bc.lit _ rfl); (first | exact Go.Hs.Bc.self _ | exact Go.Hs.Bc.zero | exact Go.Hs.Bc.lit _ rfl); (first | exact Go.Hs.Bc.self _ | exact Go.Hs.Bc.zero | exact Go.Hs.Bc.lit _ rfl); (first | exact Go.Hs.Bc.self _ | exact Go.Hs.Bc.zero | exact Go.Hs.Bc.lit _ rfl); (first | exact Go.Hs.neS_f' (by assumption) | exact Go.Hs.neS_t' (by assumption) | exact Go.Hs.neS_f' rfl | exact Go.Hs.neS_t' (by decide) | exact rfl)))) | (apply Go.Hs.G_load; (first | (apply Go.Hs.R_load1; exact rfl; (repeat' (first | exact Go.Hs.Pick.head _ _ | apply Go.Hs.Pick.tail)); (intro _; exact rfl); exact rfl) | (apply Go.Hs.R_loadN; exact rfl; (repeat' (first | exact Go.Hs.Pick.head _ _ | apply Go.Hs.Pick.tail)); (intro _; exact rfl); (intro _; exact rfl); exact rfl) | (apply Go.Hs.R_loadP; exact rfl; (repeat' (first | exact Go.Hs.mcs | apply Go.Hs.mct)); (intro _; exact rfl); exact rfl) | (apply Go.Hs.R_loadPN; exact rfl; (repeat' (first | exact Go.Hs.mcs | apply Go.Hs.mct)); (intro _; exact rfl); (intro _; exact rfl)) | (apply Go.Hs.R_loadPT; exact rfl; (repeat' (first | exact Go.Hs.mcs | apply Go.Hs.mct)); (intro _; exact rfl); (intro _; exact rfl); exact rfl) | (apply Go.Hs.R_loadPO; exact rfl; (repeat' (first | exact Go.Hs.mcs | apply Go.Hs.mct)); (intro _; exact rfl); exact rfl) | (apply Go.Hs.R_loadPON; exact rfl; (repeat' (first | exact Go.Hs.mcs | apply Go.Hs.mct)); (intro _; exact rfl); (intro _; exact rfl); exact rfl) | (apply Go.Hs.R_loadRow; exact rfl; (repeat' (first | exact Go.Hs.Pick.head _ _ | apply Go.Hs.Pick.tail)); (intro _; exact rfl); (first | omega | (simp only [List.length_take, List.length_drop, List.length_append, List.length_cons, List.length_nil, List.length_map, List.length_replicate]; omega)); (assumption)) | (apply Go.Hs.R_loadRowF; exact rfl; (repeat' (first | exact Go.Hs.Pick.head _ _ | apply Go.Hs.Pick.tail)); (intro _; exact rfl); (assumption)))) | (apply Go.Hs.R_fieldO0; exact rfl; exact rfl; exact rfl; (intro _; exact rfl); exact rfl) | (apply Go.Hs.R_fieldO; exact rfl; exact rfl; exact rfl; (intro _; exact rfl); exact rfl) | (apply Go.Hs.R_not; exact rfl; exact rfl) | (apply Go.Hs.G_call; (first | (apply Go.Hs.R_lenBy; exact rfl; (repeat' (first | exact Go.Hs.mcs | apply Go.Hs.mct)); exact rfl) | (apply Go.Hs.R_lenRow; exact rfl; (repeat' (first | exact Go.Hs.Pick.head _ _ | apply Go.Hs.Pick.tail)); exact rfl) | (apply Go.Hs.R_lenSl; exact rfl; (repeat' (first | exact Go.Hs.mcs | apply Go.Hs.mct)); exact rfl) | (apply Go.Hs.R_lenRw; exact rfl; (repeat' (first | exact Go.Hs.mcs | apply Go.Hs.mct)); exact rfl) | (apply Go.Hs.R_lenNil; exact rfl; exact rfl) | (apply Go.Hs.R_max2; exact rfl; exact rfl; (first | exact if_pos (by omega) | exact if_neg (by omega))) | (apply Go.Hs.R_min2; exact rfl; exact rfl; (first | exact if_pos (by omega) | exact if_neg (by omega))))) | (apply Go.Hs.R_convi; exact rfl; exact rfl; exact rfl; (first | exact Go.Hs.wx_i64 (by omega) | exact Go.Hs.wx_u8 (by omega) | exact Go.Hs.wx_u64 (by omega) | exact Go.Hs.wx_u32 (by omega) | exact Go.Hs.wx_u16 (by omega) | exact Go.Hs.wx_b8 _ | exact rfl)) | (apply Go.Hs.R_toStr; exact rfl; (repeat' (first | exact Go.Hs.mcs | apply Go.Hs.mct)); exact rfl; exact rfl; exact rfl) | (apply Go.Hs.R_toStrRow; exact rfl; (repeat' (first | exact Go.Hs.Pick.head _ _ | apply Go.Hs.Pick.tail)); (first | exact Go.Hs.nil_map | exact Go.Hs.one_map _ | exact Go.Hs.two_map _ _ | exact rfl); exact rfl; exact rfl; exact rfl) | (apply Go.Hs.R_build; exact rfl; (focus (repeat (first | apply Go.Hs.PartsE.nil | (apply Go.Hs.PartsE.cons; (focus (first | (apply Go.Hs.CellsE.lit; exact rfl) | (apply Go.Hs.CellsE.one; (first | (apply Go.Hs.OneC.lit; exact rfl) | (apply Go.Hs.OneC.by_; (repeat' (first | exact Go.Hs.mcs | apply Go.Hs.mct)); done) | (apply Go.Hs.OneC.sl; (repeat' (first | exact Go.Hs.mcs | apply Go.Hs.mct)); done) | (apply Go.Hs.OneC.rw; (repeat' (first | exact Go.Hs.mcs | apply Go.Hs.mct)); done) | (apply Go.Hs.OneC.row; (repeat' (first | exact Go.Hs.Pick.head _ _ | apply Go.Hs.Pick.tail))))))))))); (intro _; exact rfl); exact rfl; exact rfl; (intro _; go_simp; exact rfl); exact rfl) | (apply Go.Hs.R_buildArr; exact rfl; (focus (repeat (first | apply Go.Hs.SeqE.nil | (apply Go.Hs.SeqE.cons; exact rfl; (focus (first | (apply Go.Hs.CellsE.lit; exact rfl) | (apply Go.Hs.CellsE.one; (first | (apply Go.Hs.OneC.lit; exact rfl) | (apply Go.Hs.OneC.by_; (repeat' (first | exact Go.Hs.mcs | apply Go.Hs.mct)); done) | (apply Go.Hs.OneC.sl; (repeat' (first | exact Go.Hs.mcs | apply Go.Hs.mct)); done) | (apply Go.Hs.OneC.rw; (repeat' (first | exact Go.Hs.mcs | apply Go.Hs.mct)); done) | (apply Go.Hs.OneC.row; (repeat' (first | exact Go.Hs.Pick.head _ _ | apply Go.Hs.Pick.tail))))))); exact rfl) | exact rfl))); (intro _; exact rfl); exact rfl; exact rfl; (intro _; exact rfl); exact rfl; exact rfl) | (apply Go.Hs.R_field1; exact rfl; exact rfl; exact rfl; (intro _; exact rfl); exact rfl) | (apply Go.Hs.R_fieldN; exact rfl; exact rfl; exact rfl; (intro _; exact rfl); (intro _; exact rfl); exact rfl) | (apply Go.Hs.R_nilCheck; exact rfl) | (apply Go.Hs.R_makeFunc; exact rfl) | (apply Go.Hs.R_makeFunc1; exact rfl) | (apply Go.Hs.R_idxRow; exact rfl; exact rfl; (repeat' (first | exact Go.Hs.Pick.head _ _ | apply Go.Hs.Pick.tail)); exact rfl; (intro _; exact rfl); (focus (first | exact Go.Hs.lit0 | exact Go.Hs.lit1 | exact Go.Hs.lit2 | exact Go.Hs.lit3 | exact Go.Hs.lit4 | exact Go.Hs.lit5 | exact Go.Hs.lit6 | exact Go.Hs.lit7 | exact Go.Hs.lit8 | exact rfl | (simp; done) | omega)); (first | omega | (simp only [List.length_take, List.length_drop, List.length_append, List.length_cons, List.length_nil, List.length_map, List.length_replicate]; omega))) | (apply Go.Hs.R_fieldRow; exact rfl; (repeat' (first | exact Go.Hs.Pick.head _ _ | apply Go.Hs.Pick.tail)); (first | omega | (simp only [List.length_take, List.length_drop, List.length_append, List.length_cons, List.length_nil, List.length_map, List.length_replicate]; omega)); exact rfl; exact rfl; (intro _; exact rfl); exact rfl) | (apply Go.Hs.R_idxArr; exact rfl; exact rfl; exact rfl; (intro _; exact rfl); (focus (first | exact Go.Hs.lit0 | exact Go.Hs.lit1 | exact Go.Hs.lit2 | exact Go.Hs.lit3 | exact Go.Hs.lit4 | exact Go.Hs.lit5 | exact Go.Hs.lit6 | exact Go.Hs.lit7 | exact Go.Hs.lit8 | exact rfl | (simp; done) | omega)); (first | omega | (simp only [List.length_take, List.length_drop, List.length_append, List.length_cons, List.length_nil, List.length_map, List.length_replicate]; omega))) | (apply Go.Hs.R_sliceArr; exact rfl; exact rfl; (intro _; exact rfl); exact rfl))) : WL C ops (o :: l) fr Γ Φ Q := WL_runs hg hd hn h k
theorem n2 (k : ∀ x, pf x → WL C ops l ((d, vx x) :: fr) (Γ' x) (Φ' x) Q) (hg : gv ops fr o.guard = some true := by exact rfl) (hd : o.dst = some d := by exact rfl) (hn : Nat.blt d C.n = true := by exact rfl)
    (h : Effs C fr Γ Φ o pf vx Γ' Φ' := by (first | (apply Go.Hs.E_alloc; (intro _; exact rfl); exact rfl) | (apply Go.Hs.E_box; exact rfl; (focus (first | (apply Go.Hs.CellsE.lit; exact rfl) | (apply Go.Hs.CellsE.one; (first | (apply Go.Hs.OneC.lit; exact rfl) | (apply Go.Hs.OneC.by_; (repeat' (first | exact Go.Hs.mcs | apply Go.Hs.mct)); done) | (apply Go.Hs.OneC.sl; (repeat' (first | exact Go.Hs.mcs | apply Go.Hs.mct)); done) | (apply Go.Hs.OneC.rw; (repeat' (first | exact Go.Hs.mcs | apply Go.Hs.mct)); done) | (apply Go.Hs.OneC.row; (repeat' (first | exact Go.Hs.Pick.head _ _ | apply Go.Hs.Pick.tail)))))))))) : WL C ops (o :: l) fr Γ Φ Q := WL_effs hg hd hn h k
theorem n3 (k : ∀ x, pf x → WL C ops l fr (Γ' x) (Φ' x) Q) (hg : gv ops fr o.guard = some true := by exact rfl) (hd : o.dst = none := by exact rfl)
    (h : Effs C fr Γ Φ o pf vx Γ' Φ' := by (first | (apply Go.Hs.E_store; exact rfl; exact rfl; (repeat' (first | exact Go.Hs.Pick.head _ _ | apply Go.Hs.Pick.tail)); (focus (first | (apply Go.Hs.CellsE.lit; exact rfl) | (apply Go.Hs.CellsE.one; (first | (apply Go.Hs.OneC.lit; exact rfl) | (apply Go.Hs.OneC.by_; (repeat' (first | exact Go.Hs.mcs | apply Go.Hs.mct)); done) | (apply Go.Hs.OneC.sl; (repeat' (first | exact Go.Hs.mcs | apply Go.Hs.mct)); done) | (apply Go.Hs.OneC.rw; (repeat' (first | exact Go.Hs.mcs | apply Go.Hs.mct)); done) | (apply Go.Hs.OneC.row; (repeat' (first | exact Go.Hs.Pick.head _ _ | apply Go.Hs.Pick.tail))))))); (intro _; exact rfl); (focus (repeat (first | apply Go.Hs.Ones.nil | exact Go.Hs.Ones.bytes | (apply Go.Hs.Ones.cons; (focus (first | (apply Go.Hs.OneC.lit; exact rfl) | (apply Go.Hs.OneC.by_; (repeat' (first | exact Go.Hs.mcs | apply Go.Hs.mct)); done) | (apply Go.Hs.OneC.sl; (repeat' (first | exact Go.Hs.mcs | apply Go.Hs.mct)); done) | (apply Go.Hs.OneC.rw; (repeat' (first | exact Go.Hs.mcs | apply Go.Hs.mct)); done) | (apply Go.Hs.OneC.row; (repeat' (first | exact Go.Hs.Pick.head _ _ | apply Go.Hs.Pick.tail))))))))); exact rfl))) : WL C ops (o :: l) fr Γ Φ Q := WL_do hg hd h k
theorem n4 (k : WL C ops l ((d, v) :: fr) Γ (ψ :: Φ) Q) (hg : gv ops fr o.guard = some true := by exact rfl) (hd : o.dst = some d := by exact rfl) (hn : Nat.blt d C.n = true := by exact rfl)
    (h : Runs C fr Γ Φ o v ∧ Ent Φ ψ := by (first | (apply Go.Hs.R_idxBy; exact rfl; exact rfl; (repeat' (first | exact Go.Hs.mcs | apply Go.Hs.mct)); exact rfl; (intro _; exact rfl); (focus (first | exact Go.Hs.lit0 | exact Go.Hs.lit1 | exact Go.Hs.lit2 | exact Go.Hs.lit3 | exact Go.Hs.lit4 | exact Go.Hs.lit5 | exact Go.Hs.lit6 | exact Go.Hs.lit7 | exact Go.Hs.lit8 | exact rfl | (simp; done) | omega)); (first | omega | (simp only [List.length_take, List.length_drop, List.length_append, List.length_cons, List.length_nil, List.length_map, List.length_replicate]; omega))) | (apply Go.Hs.R_idxRw; exact rfl; exact rfl; (repeat' (first | exact Go.Hs.mcs | apply Go.Hs.mct)); exact rfl; (intro _; exact rfl); (focus (first | exact Go.Hs.lit0 | exact Go.Hs.lit1 | exact Go.Hs.lit2 | exact Go.Hs.lit3 | exact Go.Hs.lit4 | exact Go.Hs.lit5 | exact Go.Hs.lit6 | exact Go.Hs.lit7 | exact Go.Hs.lit8 | exact rfl | (simp; done) | omega)); (first | omega | (simp only [List.length_take, List.length_drop, List.length_append, List.length_cons, List.length_nil, List.length_map, List.length_replicate]; omega)); (first | assumption | exact rfl)) | (apply Go.Hs.R_cutBy; exact rfl; (repeat' (first | exact Go.Hs.mcs | apply Go.Hs.mct)); exact rfl; (intro _; exact rfl); exact rfl; exact rfl; (focus (first | exact Go.Hs.lit0 | exact Go.Hs.lit1 | exact Go.Hs.lit2 | exact Go.Hs.lit3 | exact Go.Hs.lit4 | exact Go.Hs.lit5 | exact Go.Hs.lit6 | exact Go.Hs.lit7 | exact Go.Hs.lit8 | exact rfl | (simp; done) | omega)); (focus (first | exact Go.Hs.lit0 | exact Go.Hs.lit1 | exact Go.Hs.lit2 | exact Go.Hs.lit3 | exact Go.Hs.lit4 | exact Go.Hs.lit5 | exact Go.Hs.lit6 | exact Go.Hs.lit7 | exact Go.Hs.lit8 | exact rfl | (simp; done) | omega)); (first | omega | (simp only [List.length_take, List.length_drop, List.length_append, List.length_cons, List.length_nil, List.length_map, List.length_replicate]; omega)); (first | omega | (simp only [List.length_take, List.length_drop, List.length_append, List.length_cons, List.length_nil, List.length_map, List.length_replicate]; omega)); (focus ((try (conv => lhs; simp only [Nat.add_sub_cancel_left, Nat.sub_zero, List.drop_zero, List.nil_append])); (first | done | exact rfl)))) | (apply Go.Hs.R_fieldP; exact rfl; (repeat' (first | exact Go.Hs.mcs | apply Go.Hs.mct)); exact rfl; exact rfl; (intro _; exact rfl); exact rfl; exact rfl))) : WL C ops (o :: l) fr Γ Φ Q := WL_runsF hg hd hn h k
theorem n5 (k : WL C ops l ((d, undef) :: fr) Γ Φ Q) (hg : gv ops fr o.guard = some false := by exact rfl) (hd : o.dst = some d := by exact rfl) (hn : Nat.blt d C.n = true := by exact rfl) :
    WL C ops (o :: l) fr Γ Φ Q := WL_pass hg hd hn k
theorem n6 {f : FuncId} {args : List Operand} {argTypes : Array TypeId} {vs : List Value} {Φp : List SP} {ty : TypeId} {pos : String} {aft : Array Edge} {g : Option (Nat × Bool)} (hfn : CtD C.P f vs Φp v) (k : WL C ops l ((d, v) :: fr) Γ Φ Q)
    (hg : gv ops fr g = some true := by exact rfl) (hn : Nat.blt d C.n = true := by exact rfl) (ha : evOs fr args = some vs := by exact rfl)
    (hrun : ∀ (aas : Array Value) (w : World), (callFunc f aas).run C.P w = .ok (.enter f aas) w := by (intro _ _; simp)) (hin : AllE Φp Φ := by (first | ((repeat (first | exact Go.Hs.AllE.nil _ | (apply Go.Hs.AllE.cons; (focus (first | exact Go.Hs.ent_nilBy | exact Go.Hs.ent_nilSl | (apply Go.Hs.Ent.mem; repeat' (first | exact Go.Hs.mcs | apply Go.Hs.mct))))))); done) | fail)) : WL C ops (⟨some d, .call { callee := .value (.func f), args := args.toArray, argTypes := argTypes }, ty, pos, aft, g⟩ :: l) fr Γ Φ Q :=
  WL_runs hg rfl hn (R_call ha hrun hfn hin) k
theorem n6v {fn : FuncId} {callee : Operand} {first captured : Array Value} {aas : List Value} {args : List Operand} {argTypes : Array TypeId} {vs : List Value} {Φp : List SP} {ty : TypeId} {pos : String} {aft : Array Edge} {g : Option (Nat × Bool)} (hfn : CtD C.P fn aas Φp v) (k : WL C ops l ((d, v) :: fr) Γ Φ Q)
    (hc : evO fr callee = some (.func (.func fn) first captured) := by exact rfl) (hg : gv ops fr g = some true := by exact rfl) (hn : Nat.blt d C.n = true := by exact rfl) (ha : evOs fr args = some vs := by exact rfl) (has : first.toList ++ vs ++ captured.toList = aas := by exact rfl)
    (hrun : ∀ (aas : Array Value) (w : World), (callFunc fn aas).run C.P w = .ok (.enter fn aas) w := by (intro _ _; simp)) (hin : AllE Φp Φ := by (first | ((repeat (first | exact Go.Hs.AllE.nil _ | (apply Go.Hs.AllE.cons; (focus (first | exact Go.Hs.ent_nilBy | exact Go.Hs.ent_nilSl | (apply Go.Hs.Ent.mem; repeat' (first | exact Go.Hs.mcs | apply Go.Hs.mct))))))); done) | fail)) : WL C ops (⟨some d, .call { callee := .value callee, args := args.toArray, argTypes := argTypes }, ty, pos, aft, g⟩ :: l) fr Γ Φ Q :=
  WL_runs hg rfl hn (R_callG hc ha has hrun hfn hin) k
theorem n7 {c : Operand} {x y : Code} (h : W C x fr Γ Φ Q) (hc : evO fr c = some (.bool true) := by exact rfl) : W C (.cond c x y) fr Γ Φ Q := W_cond_t hc h
theorem n8 {c : Operand} {x y : Code} (h : W C y fr Γ Φ Q) (hc : evO fr c = some (.bool false) := by exact rfl) : W C (.cond c x y) fr Γ Φ Q := W_cond_f hc h
theorem n9 {id i : Nat} (h : WQ C (.exit i) fr Γ Φ Q) (hne : Nat.beq i id = false := by exact rfl) : WQ C (.exit i) fr Γ Φ (Exit.inBlock id Q) := WQ_block_other hne h

theorem p1 (k : PL C ops Γs es us Q π ((d, v) :: fr) Γ Φ) (he : clsOf es us i = 0 := by exact rfl) (ho : lget ops.toList i = some o := by exact rfl) (hg : gv ops fr o.guard = some true := by exact rfl) (hd : o.dst = some d := by exact rfl) (hn : Nat.blt d C.n = true := by exact rfl)
    (h : Runs C fr Γs Φ o v := by (first | (apply Go.Hs.R_move; exact rfl) | (apply Go.Hs.R_assign; exact rfl) | (apply Go.Hs.R_extract; exact rfl; exact rfl) | (apply Go.Hs.R_pick_t; exact rfl; exact rfl) | (apply Go.Hs.R_pick_f; exact rfl; exact rfl) | (apply Go.Hs.G_bin; (first | (apply Go.Hs.R_cmp; exact rfl; exact rfl; exact rfl; (first | exact decide_eq_true (by omega) | exact decide_eq_false (by omega) | exact rfl)) | (apply Go.Hs.R_ari; exact rfl; exact rfl; exact rfl; (first | exact Go.Hs.wx_i64 (by omega) | exact Go.Hs.wx_u8 (by omega) | exact Go.Hs.wx_u64 (by omega) | exact Go.Hs.wx_u32 (by omega) | exact Go.Hs.wx_u16 (by omega) | exact Go.Hs.wx_b8 _ | exact rfl)) | (apply Go.Hs.R_eqB; exact rfl; exact rfl; exact rfl; exact rfl) | (apply Go.Hs.R_neB; exact rfl; exact rfl; exact rfl; exact rfl) | (apply Go.Hs.R_eqS; exact rfl; exact rfl; (first | exact decide_eq_true rfl | exact decide_eq_true (by assumption) | exact decide_eq_false (by assumption) | exact rfl)) | (apply Go.Hs.R_neS; exact rfl; exact rfl; (first | exact Go.Hs.neS_f rfl | exact Go.Hs.neS_f (by assumption) | exact Go.Hs.neS_t (by assumption) | exact rfl)) | (apply Go.Hs.R_addS; exact rfl; exact rfl; (first | omega | (simp only [List.length_take, List.length_drop, List.length_append, List.length_cons, List.length_nil, List.length_map, List.length_replicate]; omega))) | (apply Go.Hs.R_eqA; exact rfl; exact rfl; exact rfl; exact rfl; (first | exact rfl | kernel_rfl); (first | exact rfl | kernel_rfl); (first | exact rfl | kernel_rfl); (first | exact Go.Hs.Bc.self _ | exact Go.Hs.Bc.zero | exact Go.Hs.Bc.lit _ rfl); (first | exact Go.Hs.Bc.self _ | exact Go.Hs.Bc.zero | exact Go.Hs.Bc.lit _ rfl); (first | exact Go.Hs.Bc.self _ | exact Go.Hs.Bc.zero | exact Go.Hs.Bc.lit _ rfl); (first | exact Go.Hs.Bc.self _ | exact Go.Hs.Bc.zero | exact Go.Hs.Bc.lit _ rfl); (first | exact Go.Hs.Bc.self _ | exact Go.Hs.Bc.zero | exact Go.Hs.Bc.lit _ rfl); (first | exact Go.Hs.Bc.self _ | exact Go.Hs.Bc.zero | exact Go.Hs.Bc.lit _ rfl); (first | exact Go.Hs.Bc.self _ | exact Go.Hs.Bc.zero | exact Go.Hs.Bc.lit _ rfl); (first | exact Go.Hs.Bc.self _ | exact Go.Hs.Bc.zero | exact Go.Hs.Bc.lit _ rfl); (first | exact Go.Hs.Bc.self _ | exact Go.Hs.Bc.zero | exact Go.Hs.Bc.lit _ rfl); (first | exact Go.Hs.Bc.self _ | exact Go.Hs.Bc.zero | exact Go.Hs.Bc.lit _ rfl); (first | exact Go.Hs.Bc.self _ | exact Go.Hs.Bc.zero | exact Go.Hs.Bc.lit _ rfl); (first | exact Go.Hs.Bc.self _ | exact Go.Hs.Bc.zero | exact Go.Hs.Bc.lit _ rfl); (first | exact decide_eq_true (by assumption) | exact decide_eq_false (by assumption) | exact decide_eq_true rfl | exact decide_eq_false (by decide) | exact rfl)) | (apply Go.Hs.R_neA; exact rfl; exact rfl; exact rfl; exact rfl; (first | exact rfl | kernel_rfl); (first | exact rfl | kernel_rfl); (first | exact rfl | kernel_rfl); (first | exact Go.Hs.Bc.self _ | exact Go.Hs.Bc.zero | exact Go.Hs.Bc.lit _ rfl); (first | exact Go.Hs.Bc.self _ | exact Go.Hs.Bc.zero | exact Go.Hs.Bc.lit _ rfl); (first | exact Go.Hs.Bc.self _ | exact Go.Hs.Bc.zero | exact Go.Hs.Bc.lit _ rfl); (first | exact Go.Hs.Bc.self _ | exact Go.Hs.Bc.zero | exact Go.Hs.Bc.lit _ rfl); (first | exact Go.Hs.Bc.self _ | exact Go.Hs.Bc.zero | exact Go.Hs.Bc.lit _ rfl); (first | exact Go.Hs.Bc.self _ | exact Go.Hs.Bc.zero | exact Go.Hs.Bc.lit _ rfl); (first | exact Go.Hs.Bc.self _ | exact Go.Hs.Bc.zero | exact Go.Hs.Bc.lit _ rfl); (first | exact Go.Hs.Bc.self _ | exact Go.Hs.Bc.zero | exact Go.Hs.Bc.lit _ rfl); (first | exact Go.Hs.Bc.self _ | exact Go.Hs.Bc.zero | exact Go.Hs.Bc.lit _ rfl); (first | exact Go.Hs.Bc.self _ | exact Go.Hs.Bc.zero | exact Go.Hs.Bc.lit _ rfl); (first | exact Go.Hs.Bc.self _ | exact Go.Hs.Bc.zero | exact Go.Hs.Bc.lit _ rfl); (first | exact Go.Hs.Bc.self _ | exact Go.Hs.Bc.zero | exact Go.Hs.Bc.lit _ rfl); (first | exact Go.Hs.neS_f' (by assumption) | exact Go.Hs.neS_t' (by assumption) | exact Go.Hs.neS_f' rfl | exact Go.Hs.neS_t' (by decide) | exact rfl)))) | (apply Go.Hs.G_load; (first | (apply Go.Hs.R_load1; exact rfl; (repeat' (first | exact Go.Hs.Pick.head _ _ | apply Go.Hs.Pick.tail)); (intro _; exact rfl); exact rfl) | (apply Go.Hs.R_loadN; exact rfl; (repeat' (first | exact Go.Hs.Pick.head _ _ | apply Go.Hs.Pick.tail)); (intro _; exact rfl); (intro _; exact rfl); exact rfl) | (apply Go.Hs.R_loadP; exact rfl; (repeat' (first | exact Go.Hs.mcs | apply Go.Hs.mct)); (intro _; exact rfl); exact rfl) | (apply Go.Hs.R_loadPN; exact rfl; (repeat' (first | exact Go.Hs.mcs | apply Go.Hs.mct)); (intro _; exact rfl); (intro _; exact rfl)) | (apply Go.Hs.R_loadPT; exact rfl; (repeat' (first | exact Go.Hs.mcs | apply Go.Hs.mct)); (intro _; exact rfl); (intro _; exact rfl); exact rfl) | (apply Go.Hs.R_loadPO; exact rfl; (repeat' (first | exact Go.Hs.mcs | apply Go.Hs.mct)); (intro _; exact rfl); exact rfl) | (apply Go.Hs.R_loadPON; exact rfl; (repeat' (first | exact Go.Hs.mcs | apply Go.Hs.mct)); (intro _; exact rfl); (intro _; exact rfl); exact rfl) | (apply Go.Hs.R_loadRow; exact rfl; (repeat' (first | exact Go.Hs.Pick.head _ _ | apply Go.Hs.Pick.tail)); (intro _; exact rfl); (first | omega | (simp only [List.length_take, List.length_drop, List.length_append, List.length_cons, List.length_nil, List.length_map, List.length_replicate]; omega)); (assumption)) | (apply Go.Hs.R_loadRowF; exact rfl; (repeat' (first | exact Go.Hs.Pick.head _ _ | apply Go.Hs.Pick.tail)); (intro _; exact rfl); (assumption)))) | (apply Go.Hs.R_fieldO0; exact rfl; exact rfl; exact rfl; (intro _; exact rfl); exact rfl) | (apply Go.Hs.R_fieldO; exact rfl; exact rfl; exact rfl; (intro _; exact rfl); exact rfl) | (apply Go.Hs.R_not; exact rfl; exact rfl) | (apply Go.Hs.G_call; (first | (apply Go.Hs.R_lenBy; exact rfl; (repeat' (first | exact Go.Hs.mcs | apply Go.Hs.mct)); exact rfl) | (apply Go.Hs.R_lenRow; exact rfl; (repeat' (first | exact Go.Hs.Pick.head _ _ | apply Go.Hs.Pick.tail)); exact rfl) | (apply Go.Hs.R_lenSl; exact rfl; (repeat' (first | exact Go.Hs.mcs | apply Go.Hs.mct)); exact rfl) | (apply Go.Hs.R_lenRw; exact rfl; (repeat' (first | exact Go.Hs.mcs | apply Go.Hs.mct)); exact rfl) | (apply Go.Hs.R_lenNil; exact rfl; exact rfl) | (apply Go.Hs.R_max2; exact rfl; exact rfl; (first | exact if_pos (by omega) | exact if_neg (by omega))) | (apply Go.Hs.R_min2; exact rfl; exact rfl; (first | exact if_pos (by omega) | exact if_neg (by omega))))) | (apply Go.Hs.R_convi; exact rfl; exact rfl; exact rfl; (first | exact Go.Hs.wx_i64 (by omega) | exact Go.Hs.wx_u8 (by omega) | exact Go.Hs.wx_u64 (by omega) | exact Go.Hs.wx_u32 (by omega) | exact Go.Hs.wx_u16 (by omega) | exact Go.Hs.wx_b8 _ | exact rfl)) | (apply Go.Hs.R_toStr; exact rfl; (repeat' (first | exact Go.Hs.mcs | apply Go.Hs.mct)); exact rfl; exact rfl; exact rfl) | (apply Go.Hs.R_toStrRow; exact rfl; (repeat' (first | exact Go.Hs.Pick.head _ _ | apply Go.Hs.Pick.tail)); (first | exact Go.Hs.nil_map | exact Go.Hs.one_map _ | exact Go.Hs.two_map _ _ | exact rfl); exact rfl; exact rfl; exact rfl) | (apply Go.Hs.R_build; exact rfl; (focus (repeat (first | apply Go.Hs.PartsE.nil | (apply Go.Hs.PartsE.cons; (focus (first | (apply Go.Hs.CellsE.lit; exact rfl) | (apply Go.Hs.CellsE.one; (first | (apply Go.Hs.OneC.lit; exact rfl) | (apply Go.Hs.OneC.by_; (repeat' (first | exact Go.Hs.mcs | apply Go.Hs.mct)); done) | (apply Go.Hs.OneC.sl; (repeat' (first | exact Go.Hs.mcs | apply Go.Hs.mct)); done) | (apply Go.Hs.OneC.rw; (repeat' (first | exact Go.Hs.mcs | apply Go.Hs.mct)); done) | (apply Go.Hs.OneC.row; (repeat' (first | exact Go.Hs.Pick.head _ _ | apply Go.Hs.Pick.tail))))))))))); (intro _; exact rfl); exact rfl; exact rfl; (intro _; go_simp; exact rfl); exact rfl) | (apply Go.Hs.R_buildArr; exact rfl; (focus (repeat (first | apply Go.Hs.SeqE.nil | (apply Go.Hs.SeqE.cons; exact rfl; (focus (first | (apply Go.Hs.CellsE.lit; exact rfl) | (apply Go.Hs.CellsE.one; (first | (apply Go.Hs.OneC.lit; exact rfl) | (apply Go.Hs.OneC.by_; (repeat' (first | exact Go.Hs.mcs | apply Go.Hs.mct)); done) | (apply Go.Hs.OneC.sl; (repeat' (first | exact Go.Hs.mcs | apply Go.Hs.mct)); done) | (apply Go.Hs.OneC.rw; (repeat' (first | exact Go.Hs.mcs | apply Go.Hs.mct)); done) | (apply Go.Hs.OneC.row; (repeat' (first | exact Go.Hs.Pick.head _ _ | apply Go.Hs.Pick.tail))))))); exact rfl) | exact rfl))); (intro _; exact rfl); exact rfl; exact rfl; (intro _; exact rfl); exact rfl; exact rfl) | (apply Go.Hs.R_field1; exact rfl; exact rfl; exact rfl; (intro _; exact rfl); exact rfl) | (apply Go.Hs.R_fieldN; exact rfl; exact rfl; exact rfl; (intro _; exact rfl); (intro _; exact rfl); exact rfl) | (apply Go.Hs.R_nilCheck; exact rfl) | (apply Go.Hs.R_makeFunc; exact rfl) | (apply Go.Hs.R_makeFunc1; exact rfl) | (apply Go.Hs.R_idxRow; exact rfl; exact rfl; (repeat' (first | exact Go.Hs.Pick.head _ _ | apply Go.Hs.Pick.tail)); exact rfl; (intro _; exact rfl); (focus (first | exact Go.Hs.lit0 | exact Go.Hs.lit1 | exact Go.Hs.lit2 | exact Go.Hs.lit3 | exact Go.Hs.lit4 | exact Go.Hs.lit5 | exact Go.Hs.lit6 | exact Go.Hs.lit7 | exact Go.Hs.lit8 | exact rfl | (simp; done) | omega)); (first | omega | (simp only [List.length_take, List.length_drop, List.length_append, List.length_cons, List.length_nil, List.length_map, List.length_replicate]; omega))) | (apply Go.Hs.R_fieldRow; exact rfl; (repeat' (first | exact Go.Hs.Pick.head _ _ | apply Go.Hs.Pick.tail)); (first | omega | (simp only [List.length_take, List.length_drop, List.length_append, List.length_cons, List.length_nil, List.length_map, List.length_replicate]; omega)); exact rfl; exact rfl; (intro _; exact rfl); exact rfl) | (apply Go.Hs.R_idxArr; exact rfl; exact rfl; exact rfl; (intro _; exact rfl); (focus (first | exact Go.Hs.lit0 | exact Go.Hs.lit1 | exact Go.Hs.lit2 | exact Go.Hs.lit3 | exact Go.Hs.lit4 | exact Go.Hs.lit5 | exact Go.Hs.lit6 | exact Go.Hs.lit7 | exact Go.Hs.lit8 | exact rfl | (simp; done) | omega)); (first | omega | (simp only [List.length_take, List.length_drop, List.length_append, List.length_cons, List.length_nil, List.length_map, List.length_replicate]; omega))) | (apply Go.Hs.R_sliceArr; exact rfl; exact rfl; (intro _; exact rfl); exact rfl))) : PL C ops Γs es us Q (i :: π) fr Γ Φ := PL_runs he ho hg hd hn h k
theorem p2 (k : ∀ x, pf x → PL C ops Γs es us Q π ((d, vx x) :: fr) (Γ' x) (Φ' x)) (he : clsOf es us i = 1 := by exact rfl) (ho : lget ops.toList i = some o := by exact rfl) (hg : gv ops fr o.guard = some true := by exact rfl) (hd : o.dst = some d := by exact rfl) (hn : Nat.blt d C.n = true := by exact rfl)
    (h : Effs C fr Γ Φ o pf vx Γ' Φ' := by (first | (apply Go.Hs.E_alloc; (intro _; exact rfl); exact rfl) | (apply Go.Hs.E_box; exact rfl; (focus (first | (apply Go.Hs.CellsE.lit; exact rfl) | (apply Go.Hs.CellsE.one; (first | (apply Go.Hs.OneC.lit; exact rfl) | (apply Go.Hs.OneC.by_; (repeat' (first | exact Go.Hs.mcs | apply Go.Hs.mct)); done) | (apply Go.Hs.OneC.sl; (repeat' (first | exact Go.Hs.mcs | apply Go.Hs.mct)); done) | (apply Go.Hs.OneC.rw; (repeat' (first | exact Go.Hs.mcs | apply Go.Hs.mct)); done) | (apply Go.Hs.OneC.row; (repeat' (first | exact Go.Hs.Pick.head _ _ | apply Go.Hs.Pick.tail)))))))))) (hs : ∀ x, SubO (Γ' x) Γs := by (intro _; (first | ((repeat (first | exact Go.Hs.SubO.nil _ | (apply Go.Hs.SubO.cons; (focus (repeat' (first | exact Go.Hs.Pick.head _ _ | apply Go.Hs.Pick.tail)))))); done) | fail))) : PL C ops Γs es us Q (i :: π) fr Γ Φ := PL_effs he ho hg hd hn h hs k
theorem p3 (k : ∀ x, pf x → PL C ops Γs es us Q π fr (Γ' x) (Φ' x)) (he : clsOf es us i = 1 := by exact rfl) (ho : lget ops.toList i = some o := by exact rfl) (hg : gv ops fr o.guard = some true := by exact rfl) (hd : o.dst = none := by exact rfl)
    (h : Effs C fr Γ Φ o pf vx Γ' Φ' := by (first | (apply Go.Hs.E_store; exact rfl; exact rfl; (repeat' (first | exact Go.Hs.Pick.head _ _ | apply Go.Hs.Pick.tail)); (focus (first | (apply Go.Hs.CellsE.lit; exact rfl) | (apply Go.Hs.CellsE.one; (first | (apply Go.Hs.OneC.lit; exact rfl) | (apply Go.Hs.OneC.by_; (repeat' (first | exact Go.Hs.mcs | apply Go.Hs.mct)); done) | (apply Go.Hs.OneC.sl; (repeat' (first | exact Go.Hs.mcs | apply Go.Hs.mct)); done) | (apply Go.Hs.OneC.rw; (repeat' (first | exact Go.Hs.mcs | apply Go.Hs.mct)); done) | (apply Go.Hs.OneC.row; (repeat' (first | exact Go.Hs.Pick.head _ _ | apply Go.Hs.Pick.tail))))))); (intro _; exact rfl); (focus (repeat (first | apply Go.Hs.Ones.nil | exact Go.Hs.Ones.bytes | (apply Go.Hs.Ones.cons; (focus (first | (apply Go.Hs.OneC.lit; exact rfl) | (apply Go.Hs.OneC.by_; (repeat' (first | exact Go.Hs.mcs | apply Go.Hs.mct)); done) | (apply Go.Hs.OneC.sl; (repeat' (first | exact Go.Hs.mcs | apply Go.Hs.mct)); done) | (apply Go.Hs.OneC.rw; (repeat' (first | exact Go.Hs.mcs | apply Go.Hs.mct)); done) | (apply Go.Hs.OneC.row; (repeat' (first | exact Go.Hs.Pick.head _ _ | apply Go.Hs.Pick.tail))))))))); exact rfl))) (hs : ∀ x, SubO (Γ' x) Γs := by (intro _; (first | ((repeat (first | exact Go.Hs.SubO.nil _ | (apply Go.Hs.SubO.cons; (focus (repeat' (first | exact Go.Hs.Pick.head _ _ | apply Go.Hs.Pick.tail)))))); done) | fail))) : PL C ops Γs es us Q (i :: π) fr Γ Φ := PL_do he ho hg hd h hs k
theorem p4 (k : PL C ops Γs es us Q π ((d, v) :: fr) Γ (ψ :: Φ)) (he : clsOf es us i = 0 := by exact rfl) (ho : lget ops.toList i = some o := by exact rfl) (hg : gv ops fr o.guard = some true := by exact rfl) (hd : o.dst = some d := by exact rfl) (hn : Nat.blt d C.n = true := by exact rfl)
    (h : Runs C fr Γs Φ o v ∧ Ent Φ ψ := by (first | (apply Go.Hs.R_idxBy; exact rfl; exact rfl; (repeat' (first | exact Go.Hs.mcs | apply Go.Hs.mct)); exact rfl; (intro _; exact rfl); (focus (first | exact Go.Hs.lit0 | exact Go.Hs.lit1 | exact Go.Hs.lit2 | exact Go.Hs.lit3 | exact Go.Hs.lit4 | exact Go.Hs.lit5 | exact Go.Hs.lit6 | exact Go.Hs.lit7 | exact Go.Hs.lit8 | exact rfl | (simp; done) | omega)); (first | omega | (simp only [List.length_take, List.length_drop, List.length_append, List.length_cons, List.length_nil, List.length_map, List.length_replicate]; omega))) | (apply Go.Hs.R_idxRw; exact rfl; exact rfl; (repeat' (first | exact Go.Hs.mcs | apply Go.Hs.mct)); exact rfl; (intro _; exact rfl); (focus (first | exact Go.Hs.lit0 | exact Go.Hs.lit1 | exact Go.Hs.lit2 | exact Go.Hs.lit3 | exact Go.Hs.lit4 | exact Go.Hs.lit5 | exact Go.Hs.lit6 | exact Go.Hs.lit7 | exact Go.Hs.lit8 | exact rfl | (simp; done) | omega)); (first | omega | (simp only [List.length_take, List.length_drop, List.length_append, List.length_cons, List.length_nil, List.length_map, List.length_replicate]; omega)); (first | assumption | exact rfl)) | (apply Go.Hs.R_cutBy; exact rfl; (repeat' (first | exact Go.Hs.mcs | apply Go.Hs.mct)); exact rfl; (intro _; exact rfl); exact rfl; exact rfl; (focus (first | exact Go.Hs.lit0 | exact Go.Hs.lit1 | exact Go.Hs.lit2 | exact Go.Hs.lit3 | exact Go.Hs.lit4 | exact Go.Hs.lit5 | exact Go.Hs.lit6 | exact Go.Hs.lit7 | exact Go.Hs.lit8 | exact rfl | (simp; done) | omega)); (focus (first | exact Go.Hs.lit0 | exact Go.Hs.lit1 | exact Go.Hs.lit2 | exact Go.Hs.lit3 | exact Go.Hs.lit4 | exact Go.Hs.lit5 | exact Go.Hs.lit6 | exact Go.Hs.lit7 | exact Go.Hs.lit8 | exact rfl | (simp; done) | omega)); (first | omega | (simp only [List.length_take, List.length_drop, List.length_append, List.length_cons, List.length_nil, List.length_map, List.length_replicate]; omega)); (first | omega | (simp only [List.length_take, List.length_drop, List.length_append, List.length_cons, List.length_nil, List.length_map, List.length_replicate]; omega)); (focus ((try (conv => lhs; simp only [Nat.add_sub_cancel_left, Nat.sub_zero, List.drop_zero, List.nil_append])); (first | done | exact rfl)))) | (apply Go.Hs.R_fieldP; exact rfl; (repeat' (first | exact Go.Hs.mcs | apply Go.Hs.mct)); exact rfl; exact rfl; (intro _; exact rfl); exact rfl; exact rfl))) : PL C ops Γs es us Q (i :: π) fr Γ Φ := PL_runsF he ho hg hd hn h k
theorem p5 (k : PL C ops Γs es us Q π ((d, undef) :: fr) Γ Φ) (he : clsOf es us i = 0 := by exact rfl) (ho : lget ops.toList i = some o := by exact rfl) (hg : gv ops fr o.guard = some false := by exact rfl) (hd : o.dst = some d := by exact rfl) (hn : Nat.blt d C.n = true := by exact rfl) :
    PL C ops Γs es us Q (i :: π) fr Γ Φ := PL_pass he ho hg hd hn k
theorem p6 {f : FuncId} {args : List Operand} {argTypes : Array TypeId} {vs : List Value} {Φp : List SP} {ty : TypeId} {pos : String} {aft : Array Edge} {g : Option (Nat × Bool)} (hfn : CtD C.P f vs Φp v) (k : PL C ops Γs es us Q π ((d, v) :: fr) Γ Φ)
    (he : clsOf es us i = 0 := by exact rfl) (ho : lget ops.toList i = some ⟨some d, .call { callee := .value (.func f), args := args.toArray, argTypes := argTypes }, ty, pos, aft, g⟩ := by exact rfl)
    (hg : gv ops fr g = some true := by exact rfl) (hn : Nat.blt d C.n = true := by exact rfl) (ha : evOs fr args = some vs := by exact rfl)
    (hrun : ∀ (aas : Array Value) (w : World), (callFunc f aas).run C.P w = .ok (.enter f aas) w := by (intro _ _; simp)) (hin : AllE Φp Φ := by (first | ((repeat (first | exact Go.Hs.AllE.nil _ | (apply Go.Hs.AllE.cons; (focus (first | exact Go.Hs.ent_nilBy | exact Go.Hs.ent_nilSl | (apply Go.Hs.Ent.mem; repeat' (first | exact Go.Hs.mcs | apply Go.Hs.mct))))))); done) | fail)) : PL C ops Γs es us Q (i :: π) fr Γ Φ :=
  PL_runs he ho hg rfl hn (R_call ha hrun hfn hin) k
theorem p6v {fn : FuncId} {callee : Operand} {first captured : Array Value} {aas : List Value} {args : List Operand} {argTypes : Array TypeId} {vs : List Value} {Φp : List SP} {ty : TypeId} {pos : String} {aft : Array Edge} {g : Option (Nat × Bool)} (hfn : CtD C.P fn aas Φp v) (k : PL C ops Γs es us Q π ((d, v) :: fr) Γ Φ)
    (he : clsOf es us i = 0 := by exact rfl) (ho : lget ops.toList i = some ⟨some d, .call { callee := .value callee, args := args.toArray, argTypes := argTypes }, ty, pos, aft, g⟩ := by exact rfl) (hc : evO fr callee = some (.func (.func fn) first captured) := by exact rfl)
    (hg : gv ops fr g = some true := by exact rfl) (hn : Nat.blt d C.n = true := by exact rfl) (ha : evOs fr args = some vs := by exact rfl) (has : first.toList ++ vs ++ captured.toList = aas := by exact rfl)
    (hrun : ∀ (aas : Array Value) (w : World), (callFunc fn aas).run C.P w = .ok (.enter fn aas) w := by (intro _ _; simp)) (hin : AllE Φp Φ := by (first | ((repeat (first | exact Go.Hs.AllE.nil _ | (apply Go.Hs.AllE.cons; (focus (first | exact Go.Hs.ent_nilBy | exact Go.Hs.ent_nilSl | (apply Go.Hs.Ent.mem; repeat' (first | exact Go.Hs.mcs | apply Go.Hs.mct))))))); done) | fail)) : PL C ops Γs es us Q (i :: π) fr Γ Φ :=
  PL_runs he ho hg rfl hn (R_callG hc ha has hrun hfn hin) k
theorem p7 {t ty : TypeId} {pos : String} {aft : Array Edge} {z : Value} {cs : List Value} (k : ∀ b, PL C ops Γs es us Q π ((d, .pointer (some ⟨b, 0, none⟩)) :: fr) (.blk b t cs :: Γ) Φ) (he : clsOf es us i = 2 := by exact rfl) (ho : lget ops.toList i = some ⟨some d, .alloc t, ty, pos, aft, none⟩ := by exact rfl) (hn : Nat.blt d C.n = true := by exact rfl)
    (hz : ∀ w, (zeroValue t).run C.P w = .ok z w := by (intro _; exact rfl)) (hcs : listO z.cells.toList = some cs := by exact rfl) : PL C ops Γs es us Q (i :: π) fr Γ Φ :=
  PL_new he ho hn hz hcs k
end
end Go.Hs

/-
  Arrays in own blocks, elements of own rows, calls of function values. No program is named here.
-/
namespace Go.Hs
open Go Go.RowKit

theorem takeN_all : ∀ (cs : List Value), takeN 0 cs.length cs = some cs
  | [] => rfl
  | c :: cs => by simp only [List.length_cons, takeN, takeN_all cs]
theorem takeN_full {n : Nat} {cs : List Value} (h : cs.length = n) : takeN 0 n cs = some cs := h ▸ takeN_all cs
theorem putN_nil (cs : List Value) : putN 0 [] cs = some cs := by cases cs <;> rfl
theorem putN_all : ∀ (us cs : List Value), us.length = cs.length → putN 0 us cs = some us
  | [], [], _ => rfl
  | [], _ :: _, h => by simp at h
  | _ :: _, [], h => by simp at h
  | u :: us, c :: cs, h => by simp only [putN, putN_all us cs (by simpa using h)]
theorem putN_one : ∀ (i : Nat) (v : Value) (cs : List Value), i < cs.length → putN i [v] cs = some (cs.set i v)
  | _, _, [], h => by simp at h
  | 0, v, c :: cs, _ => by simp [putN, putN_nil]
  | i + 1, v, c :: cs, h => by simp only [putN, putN_one i v cs (by simpa using h), List.set_cons_succ]

section
variable {C : Ctx} {fr : Fr} {Γ Γ' Γ1 : List OA} {Φ : List SP}
  {d : Nat} {ty : TypeId} {pos : String} {aft : Array Edge} {g : Option (Nat × Bool)}

theorem R_idxArr {t e : TypeId} {x y : Operand} {b len i : Nat} {kd : IntKind} {ii : Int} (hx : evO fr x = some (.pointer (some ⟨b, 0, none⟩))) (hy : evO fr y = some (.int kd ii))
    (ht : C.P.underlying t = some (.array len e)) (hs : ∀ w, (sizeOf e).run C.P w = .ok 1 w) (hii : ii = (i : Int)) (hi : i < len) :
    Runs C fr Γ Φ ⟨some d, .indexAddr t x y, ty, pos, aft, g⟩ (.pointer (some ⟨b, i, none⟩)) := by
  subst hii
  refine Runs.pure fun a w ha hw => ?_
  have h2 : (i : Int) < (len : Int) := by omega
  simp [execOp, evO_sound ha hx, evO_sound ha hy, Instr.indexAt, asIntOf, run_underlying ht, Instr.sureAddr, hs, hi, Addr.add_lit]

/-- a store of one cell at some place of an own block. -/
theorem E_storeAt {t bt : TypeId} {x y : Operand} {b off : Nat} {cs : List Value} {v : Value} (hx : evO fr x = some (.pointer (some ⟨b, off, none⟩))) (hy : evO fr y = some v)
    (hp : Pick (.blk b bt cs) Γ Γ') (h1 : v.oneCell' = true) (hs : ∀ w, (sizeOf t).run C.P w = .ok 1 w) (hn : off < cs.length) :
    Effs C fr Γ Φ ⟨none, .store t x y, ty, pos, aft, g⟩ (X := Unit) (fun _ => True) (fun _ => undef) (fun _ => .blk b bt (cs.set off v) :: Γ') (fun _ => Φ) :=
  E_store (us := [v]) hx hy hp (CellsE.one (OneC.lit h1)) hs (Ones.cons (OneC.lit h1) Ones.nil) (putN_one off v cs hn)

/-- a whole block written over. -/
theorem E_storeAll {t bt : TypeId} {x y : Operand} {b : Nat} {cs us : List Value} (hx : evO fr x = some (.pointer (some ⟨b, 0, none⟩))) (hy : evO fr y = some (.agg us.toArray))
    (hp : Pick (.blk b bt cs) Γ Γ') (h1 : ∀ u ∈ us, u.oneCell' = true) (hs : ∀ w, (sizeOf t).run C.P w = .ok us.length w) (hn : us.length = cs.length) :
    Effs C fr Γ Φ ⟨none, .store t x y, ty, pos, aft, g⟩ (X := Unit) (fun _ => True) (fun _ => undef) (fun _ => .blk b bt us :: Γ') (fun _ => Φ) :=
  E_store (us := us) hx hy hp (fun _ _ _ => rfl) hs (fun u hu => OneC.lit (h1 u hu)) (putN_all us cs hn)

/-- an element's address in an own row. -/
theorem R_idxRow {t e rt : TypeId} {x y : Operand} {v : Value} {size n : Nat} {xs : List Value} {kd : IntKind} {ii : Int} {i : Nat} (hx : evO fr x = some v) (hy : evO fr y = some (.int kd ii)) (hp : Pick (.row v rt size n xs) Γ Γ')
    (ht : C.P.underlying t = some (.slice e)) (hs : ∀ w, (sizeOf e).run C.P w = .ok size w) (hii : ii = (i : Int)) (hi : i < n) :
    Runs C fr Γ Φ ⟨some d, .indexAddr t x y, ty, pos, aft, g⟩ (idxV size i v) := by
  subst hii
  refine Runs.pure fun a w ha hw => ?_
  have hown := (pick_holds hp hw).own.1
  rcases hown with ⟨hl, h2⟩
  rcases h2 with ⟨h2, _⟩ | ⟨b, cap, cur, hv, _, hb, hc, hm, hsz, htk⟩
  · omega
  · simp [execOp, evO_sound ha hx, evO_sound ha hy, hv, run_indexAt_some ht hs hi, idxV]

/-- a one-cell element of an own row is loaded. -/
theorem R_loadRow {t rt : TypeId} {x : Operand} {v u : Value} {n i : Nat} {xs : List Value} (hx : evO fr x = some (idxV 1 i v)) (hp : Pick (.row v rt 1 n xs) Γ Γ') (hagg : ∀ w, (isAgg t).run C.P w = .ok false w)
    (hi : i < n) (hc : xs[i]? = some u) : Runs C fr Γ Φ ⟨some d, .load t x, ty, pos, aft, g⟩ u := by
  refine Runs.pure fun a w ha hw => ?_
  have hown := (pick_holds hp hw).own.1
  rcases hown with ⟨hl, h2⟩
  rcases h2 with ⟨h2, _⟩ | ⟨b, cap, cur, hv, _, hb, hcc, hm, hsz, htk⟩
  · omega
  · subst hv
    have h0 : w.cell? ((⟨b, 0, none⟩ : Addr).add i) = some u := by
      rw [Addr.add_lit, Nat.zero_add]
      rw [← htk, List.getElem?_take_of_lt (by omega)] at hc
      simp only [World.cell?, hb]
      simpa using hc
    simp [execOp, evO_sound ha hx, idxV, Instr.loadAt, Instr.sureAddr, run_loadVar_one hagg h0]

/-- a one-cell element of an own row is written. -/
theorem E_storeRow {t rt : TypeId} {x y : Operand} {v u : Value} {n i : Nat} {xs : List Value} (hx : evO fr x = some (idxV 1 i v)) (hy : evO fr y = some u) (hp : Pick (.row v rt 1 n xs) Γ Γ') (h1 : u.oneCell' = true)
    (hs : ∀ w, (sizeOf t).run C.P w = .ok 1 w) (hi : i < n) :
    Effs C fr Γ Φ ⟨none, .store t x y, ty, pos, aft, g⟩ (X := Unit) (fun _ => True) (fun _ => undef) (fun _ => .row v rt 1 n (xs.set i u) :: Γ') (fun _ => Φ) := by
  refine ⟨fun _ => AllIn.refl _, fun R a w ha hw => ?_⟩
  have hw' := pick_holds (pick_app hp R) hw
  have hown := hw'.own.1
  rcases hown with ⟨hl, h2⟩
  rcases h2 with ⟨h2, _⟩ | ⟨b, cap, cur, hv, _, hb, hcc, hm, hsz, htk⟩
  · omega
  · subst hv
    have hu : u.cells = [u].toArray := by cases u <;> first | rfl | cases h1
    have hb' : w.heap[b]? = some (.cells cur.toList.toArray rt (0, 0)) := by simpa using hb
    have hst := run_storeVar_own (P := C.P) (w := w) (t := t) (us := [u]) (ds := cur.toList.set i u) (off := i) hb' hs hu (by simpa using h1) (putN_one i u cur.toList (by simp; omega))
    refine .skip (w' := w.setRow b (cur.toList.set i u).toArray) ?_ ⟨(), trivial, rfl, setRow_row hw' hb (by simp) ?_⟩
    · simp [execOp, evO_sound ha hx, evO_sound ha hy, Instr.storeAt, Instr.sureAddr, idxV, Addr.add_lit, hst]
    · rw [← htk]
      simp only [Nat.mul_one, List.take_set]

theorem R_min3 {x y z : Operand} {kd : IntKind} {a b c m : Int} {ts : Array TypeId} (hx : evO fr x = some (.int kd a)) (hy : evO fr y = some (.int kd b)) (hz : evO fr z = some (.int kd c))
    (hr : (if c < (if b < a then b else a) then c else (if b < a then b else a)) = m) : Runs C fr Γ Φ ⟨some d, .call { callee := .builtin .min, args := #[x, y, z], argTypes := ts }, ty, pos, aft, g⟩ (.int kd m) :=
  Runs.pure fun a' w ha _ => by
    subst hr
    simp [execOp, resolve, invoke, builtin, evO_sound ha hx, evO_sound ha hy, evO_sound ha hz, Builtin.min_, Builtin.min2]

end

section
variable {C : Ctx} {ops : Array Oper} {l : List Oper} {fr : Fr} {Γ Γ1 : List OA} {Φ : List SP} {Q : Exit → Act → World → Prop}
/-- nothing, told as an own row. -/
theorem Holds.nilRow {w : World} (t : TypeId) (size : Nat) (h : Holds C Γ Φ w) : Holds C (.row (.slice none 0 0) t size 0 [] :: Γ) Φ w := by
  have hf : ∀ k, ¬ (OA.row (.slice none 0 0) t size 0 []).fp k := fun k (e : (none : Option Nat) = some k) => by cases e
  refine h.move (Mod.refl _ _) ⟨⟨by simp, .inl ⟨rfl, rfl⟩⟩, fun k hk => (hf k hk).elim, h.own⟩ fun k _ hk => ?_
  rcases fpL_cons.1 hk with e | e
  · exact (hf k e).elim
  · exact e
theorem W_nilRow {c : Code} (t : TypeId) (size : Nat) (h : W C c fr (.row (.slice none 0 0) t size 0 [] :: Γ) Φ Q) : W C c fr Γ Φ Q := fun a w ha hw => h a w ha (hw.nilRow t size)
theorem WL_nilRow (t : TypeId) (size : Nat) (h : WL C ops l fr (.row (.slice none 0 0) t size 0 [] :: Γ) Φ Q) : WL C ops l fr Γ Φ Q := fun a w ha hw => h a w ha (hw.nilRow t size)
theorem WQ_nilRow {e : Exit} (t : TypeId) (size : Nat) (h : WQ C e fr (.row (.slice none 0 0) t size 0 [] :: Γ) Φ Q) : WQ C e fr Γ Φ Q := fun a w ha hw => h a w ha (hw.nilRow t size)

theorem W_letgo {c : Code} {v : Value} {t : TypeId} {size n : Nat} {xs : List Value} (hp : Pick (.row v t size n xs) Γ Γ1) (h : W C c fr Γ1 (Sl size v n xs :: Φ) Q) : W C c fr Γ Φ Q := fun a w ha hw => h a w ha (pick_holds hp hw).letgo
theorem WL_letgo {v : Value} {t : TypeId} {size n : Nat} {xs : List Value} (hp : Pick (.row v t size n xs) Γ Γ1) (h : WL C ops l fr Γ1 (Sl size v n xs :: Φ) Q) : WL C ops l fr Γ Φ Q := fun a w ha hw => h a w ha (pick_holds hp hw).letgo
theorem WQ_letgo {e : Exit} {v : Value} {t : TypeId} {size n : Nat} {xs : List Value} (hp : Pick (.row v t size n xs) Γ Γ1) (h : WQ C e fr Γ1 (Sl size v n xs :: Φ) Q) : WQ C e fr Γ Φ Q := fun a w ha hw => h a w ha (pick_holds hp hw).letgo
end

theorem ent_alI {Φ : List SP} {n : Nat} {ψ : Nat → SP} (h : ∀ i, i < n → Ent Φ (ψ i)) : Ent Φ (Al n ψ) := fun w O hw i hi => h i hi w O hw

section
variable {C : Ctx} {fr : Fr} {Γ Γ' : List OA} {Φ : List SP} {d : Nat} {ty : TypeId} {pos : String} {aft : Array Edge} {g : Option (Nat × Bool)}

theorem freeze_other (w : World) (b n k : Nat) (h : k ≠ b) : (w.freeze ⟨b, n, none⟩ 1).heap[k]? = w.heap[k]? := by
  unfold World.freeze
  rw [if_neg (by decide)]
  show (w.heap.modify b _)[k]? = _
  rw [Array.getElem?_modify, if_neg (fun e => h e.symm)]
theorem freeze_size (w : World) (b n : Nat) : (w.freeze ⟨b, n, none⟩ 1).heap.size = w.heap.size := by
  unfold World.freeze
  rw [if_neg (by decide)]
  show (w.heap.modify b _).size = _
  rw [Array.size_modify]
theorem freeze_at (w : World) (b n : Nat) (c : Array Value) (e : TypeId) (h : w.heap[b]? = some (.cells c e (0, 0))) : (w.freeze ⟨b, n, none⟩ 1).heap[b]? = some (.cells c e (n, n + 1)) := by
  unfold World.freeze
  rw [if_neg (by decide)]
  show (w.heap.modify b _)[b]? = _
  rw [Array.getElem?_modify, if_pos rfl, h]
  rfl

/-- the conversion of a literal's bytes to their own type: the row is told as lasting from now on. -/
theorem E_convB {t e rt : TypeId} {x : Operand} {v : Value} {n : Nat} {xs : List Value} {bs : List UInt8} (hx : evO fr x = some v) (hp : Pick (.row v rt 1 n xs) Γ Γ') (hxs : xs = bs.map bcell) (hn : 0 < n)
    (ht : C.P.underlying t = some (.slice e)) (he : C.P.underlying e = some (.int .u8)) :
    Effs C fr Γ Φ ⟨some d, .convert t t x, ty, pos, aft, g⟩ (X := Unit) (fun _ => True) (fun _ => v) (fun _ => Γ') (fun _ => By v bs :: Φ) := by
  subst hxs
  refine ⟨fun _ ψ hψ => List.mem_cons_of_mem _ hψ, fun R a w ha hw => ?_⟩
  have hw' := pick_holds (pick_app hp R) hw
  have hown := hw'.own.1
  obtain ⟨hl, h2⟩ := hown
  have hlen : n = bs.length := by simpa using hl.symm
  rcases h2 with ⟨h2, _⟩ | ⟨b, cap, cur, rfl, _, hb, hcc, hm, hsz, htk⟩
  · omega
  · have hother := fun k hk => freeze_other w b cur.size k hk
    have hat := freeze_at w b cur.size cur rt hb
    have hfp : ∀ k, (OA.row (.slice (some ⟨b, 0, none⟩) n cap) rt 1 n (bs.map bcell)).fp k ↔ k = b := fun k => by
      constructor
      · intro (e : some b = some k)
        injection e with e
        exact e.symm
      · intro e
        subst e
        exact (rfl : some k = some k)
    have hblt : b < w.heap.size := (Array.getElem?_eq_some_iff.1 hb).1
    have hnb : ¬ avo C.O0 (Γ' ++ R) b := by
      rintro (h | h)
      · have h1 := hw'.o0 b h
        rcases hw'.ofp b (fpL_cons.2 (.inl ((hfp b).2 rfl))) with h3 | h3
        · exact h1.2 h3
        · omega
      · exact hw'.own.2.1 b ((hfp b).2 rfl) h
    have hmv : Holds C (Γ' ++ R) Φ (w.freeze ⟨b, cur.size, none⟩ 1) := by
      refine hw'.move ⟨?_, ?_, ?_, by rw [freeze_size]; exact Nat.le_refl _, fun k _ hk => hother k fun e => hk (fpL_cons.2 (.inl ((hfp k).2 e)))⟩
        (hw'.own.2.2.keep fun k _ hk => hother k fun e => hw'.own.2.1 k ((hfp k).2 e) hk) fun k _ hk => fpL_cons.2 (.inr hk)
      · unfold World.freeze; rw [if_neg (by decide)]
      · unfold World.freeze; rw [if_neg (by decide)]
      · unfold World.freeze; rw [if_neg (by decide)]
    refine .val (v := .slice (some ⟨b, 0, none⟩) n cap) (w' := w.freeze ⟨b, cur.size, none⟩ 1) ?_ ⟨(), trivial, rfl, hmv.cons ?_⟩
    · have hsh : w.shape? b = some (rt, cur.size) := by
        unfold World.shape?
        rw [hb]
      simp [execOp, evO_sound ha hx, convert, run_underlying ht, run_underlying he, markStringish, hsh]
    · refine ⟨by simp, some ⟨b, 0, none⟩, cap, by rw [← hlen], by omega, hm, fun _ => ⟨_, rfl, by rw [freeze_size]; exact hblt, hnb, fun j u hu => ?_⟩⟩
      rw [Addr.add_lit, Nat.zero_add]
      have hj : j < n := by
        have := (List.getElem?_eq_some_iff.1 hu).1
        simp at this
        omega
      rw [← htk, Nat.mul_one, List.getElem?_take_of_lt hj] at hu
      simp only [World.cell?, hat]
      simpa using hu
end
end Go.Hs

/-
  A range over a function: the loop's own walk, the function's, and where it ends. No program is named here.
-/
namespace Go.Hs
open Go Go.RowKit

/-- several own things as one. -/
def pk (Γ : List OA) : OA := .abs ⟨fpL Γ, Own Γ, fun h => Own.lt h, fun h k => h.keep k⟩
theorem pk_fp (Γ : List OA) (k : Nat) : (pk Γ).fp k ↔ fpL Γ k := Iff.rfl

/-- a block that is no cells. -/
def ob (b : Nat) (o : Obj) : OA := .abs ⟨fun k => k = b, fun w => w.heap[b]? = some o, fun h _ e => by subst e; exact (Array.getElem?_eq_some_iff.1 h).1, fun h hk => (hk b (Array.getElem?_eq_some_iff.1 h).1 rfl).trans h⟩
theorem ob_fp (b : Nat) (o : Obj) (k : Nat) : (ob b o).fp k ↔ k = b := Iff.rfl

/-- several lasting facts as one. -/
def cj (Φ : List SP) : SP := ⟨fun w O => ∀ ψ ∈ Φ, ψ.p w O, fun h hm ho ψ hψ => ψ.st (h ψ hψ) hm ho⟩

theorem Own.pk {Γ Δ : List OA} {w : World} : Own (pk Γ :: Δ) w ↔ Own (Γ ++ Δ) w := by
  rw [Own.append]
  constructor
  · rintro ⟨h1, h2, h3⟩
    exact ⟨h1, h3, h2⟩
  · rintro ⟨h1, h2, h3⟩
    exact ⟨h1, h3, h2⟩
theorem fpL_pk {Γ Δ : List OA} {k : Nat} : fpL (pk Γ :: Δ) k ↔ fpL (Γ ++ Δ) k := by
  rw [fpL_cons, fpL_append]
  exact Iff.rfl

/-- what a call of yield comes to: with these arguments, where it is handed Γ and Φ holds. -/
def Yc (P : Program) (l : Nat) (args : List Value) (Γ : List OA) (Φ : List SP) {X : Type} (pf : X → Prop) (ret : X → Value) (Γ' : X → List OA) (Φ' : X → List SP) : Prop :=
  ∀ w O0, (∀ k, O0 k → k < w.heap.size ∧ ¬ fpL Γ k) → Own Γ w → (∀ ψ ∈ Φ, ψ.p w (avo O0 Γ)) →
    ∃ fn tmps assign body, (Instr.yield l args.toArray).run P w = .ok (.round l fn tmps assign body) w ∧ RoundIn Fence.wide 0 P l fn tmps assign body w (FnPost w O0 (fpL Γ) pf ret Γ' Φ')

section
variable {C : Ctx} {fr : Fr} {Γ : List OA} {Φ : List SP} {ty : TypeId} {pos : String} {aft : Array Edge} {g : Option (Nat × Bool)}

theorem E_yield {dst : Option Tmp} {callee : Operand} {l : Nat} {args : List Operand} {argTypes : Array TypeId} {vs : List Value}
    {Γp Γr : List OA} {Φp : List SP} {X : Type} {pf : X → Prop} {ret : X → Value} {Γ' : X → List OA} {Φ' : X → List SP} {Γ'' : X → List OA} {Φ'' : X → List SP}
    (hc : evO fr callee = some (.func (.yield l) #[] #[])) (ha : evOs fr args = some vs)
    (hfn : Yc C.P l vs Γp Φp pf ret Γ' Φ')
    (hp : Γ.Perm (Γp ++ Γr)) (hin : AllE Φp Φ) (hΓ : ∀ x, Γ' x ++ Γr = Γ'' x) (hΦ : ∀ x, Φ' x ++ Φ = Φ'' x) :
    Effs C fr Γ Φ ⟨dst, .call { callee := .value callee, args := args.toArray, argTypes := argTypes }, ty, pos, aft, g⟩ pf ret Γ'' Φ'' := by
  refine ⟨fun x ψ hψ => by rw [← hΦ]; exact List.mem_append.2 (.inr hψ), fun R a w hfa hw => ?_⟩
  have hw' := hw.perm (hp.append_right R)
  rw [List.append_assoc] at hw'
  obtain ⟨ho1, ho2, ho3⟩ := Own.append.1 hw'.own
  have hO : ∀ k, avo C.O0 (Γr ++ R) k → k < w.heap.size ∧ ¬ fpL Γp k := fun k hk => by
    rcases hk with hk | hk
    · have h1 := hw'.o0 k hk
      refine ⟨Nat.lt_of_lt_of_le h1.1 hw'.mod.size, fun hn => ?_⟩
      rcases hw'.ofp k (fpL_append.2 (.inl hn)) with h2 | h2
      · exact h1.2 h2
      · omega
    · exact ⟨Own.lt ho2 hk, fun hn => ho3 k hn hk⟩
  obtain ⟨fn, tmps, assign, body, hy, hcall⟩ := hfn w (avo C.O0 (Γr ++ R)) hO ho1 (fun ψ hψ => ψ.st (hin ψ hψ _ _ hw'.sp) (Mod.refl _ _) fun k _ hk => avo_append.2 hk)
  have hrun' : (execOp a.eval ⟨dst, .call { callee := .value callee, args := args.toArray, argTypes := argTypes }, ty, pos, aft, g⟩).run C.P w = .ok (.round l fn tmps assign body) w := by
    have e1 := evO_sound hfa hc
    have e2 := evOs_sound hfa ha
    simp only [execOp, resolve, e1, Deferred.ofValue, List.map_toArray, e2, Sem.run_bind, Sem.run_pure, Result.andThen_ok, invoke]
    rw [show (#[] : Array Value) ++ vs.toArray = vs.toArray by simp]
    exact hy
  rw [hrun']
  show RoundIn _ _ _ _ _ _ _ _ _ _
  refine hcall.mono fun e w1 ⟨x, hx, he, hm, ho, hf, hs⟩ => ⟨_, he, x, hx, rfl, ?_⟩
  have hdis : ∀ k, fpL (Γ' x) k → ¬ fpL (Γr ++ R) k := fun k hk hn => by
    rcases hf k hk with h1 | h1
    · exact ho3 k h1 hn
    · have := Own.lt ho2 hn
      omega
  have hmove : Holds C (Γ' x ++ (Γr ++ R)) Φ w1 := by
    refine hw'.move (hm.mono fun k _ hk => fpL_append.2 (.inl hk)) (Own.append.2 ⟨ho, ho2.keep fun k hlt hk => hm.block k hlt fun hn => ho3 k hn hk, hdis⟩) fun k hlt hk => ?_
    rcases fpL_append.1 hk with hk | hk
    · rcases hf k hk with h1 | h1
      · exact fpL_append.2 (.inl h1)
      · omega
    · exact fpL_append.2 (.inr hk)
  rw [← hΓ, ← hΦ, List.append_assoc]
  refine ⟨hmove.mod, hmove.own, hmove.ofp, hmove.o0, fun ψ hψ => ?_⟩
  rcases List.mem_append.1 hψ with hψ | hψ
  · exact ψ.st (hs ψ hψ) (Mod.refl _ _) fun k _ hk => avo_append.1 hk
  · exact hmove.sp ψ hψ
end

-- ===== moves of memory at a block that is no cells =====

theorem heap_alloc_new' (w : World) (o : Obj) : (w.alloc o).heap[w.heap.size]? = some o := heap_alloc_new w o

section
variable {C : Ctx} {Γ Δ : List OA} {Φ : List SP}
theorem Holds.allocO {w : World} (h : Holds C Γ Φ w) (o : Obj) : Holds C (ob w.heap.size o :: Γ) Φ (w.alloc o) := by
  refine h.move (Mod.alloc _ w _) ⟨heap_alloc_new w o, fun k hk hn => ?_, h.own.keep fun _ hk _ => heap_alloc_old w _ hk⟩ fun k hk hk' => ?_
  · have hk : k = w.heap.size := hk
    have := Own.lt h.own hn
    omega
  · rcases fpL_cons.1 hk' with hk' | hk'
    · have hk' : k = w.heap.size := hk'
      omega
    · exact hk'
theorem Holds.putO {w : World} {l : Nat} {o : Obj} (h : Holds C (ob l o :: Γ) Φ w) (o' : Obj) : Holds C (ob l o' :: Γ) Φ (w.putObj l o') := by
  have hl : l < w.heap.size := (Array.getElem?_eq_some_iff.1 (show w.heap[l]? = some o from h.own.1)).1
  have hother : ∀ k, k ≠ l → (w.putObj l o').heap[k]? = w.heap[k]? := fun k hk => World.putObj_heap_other hk
  refine h.move ⟨rfl, rfl, rfl, by simp, fun k _ hn => hother k fun e => hn (fpL_cons.2 (.inl e))⟩ ⟨World.putObj_heap_same hl, h.own.2.1, h.own.2.2.keep fun k _ hk => hother k fun e => h.own.2.1 k e hk⟩
    fun k _ hk => by
      rcases fpL_cons.1 hk with e | e
      · exact fpL_cons.2 (.inl e)
      · exact fpL_cons.2 (.inr e)
theorem Holds.pack {w : World} (h : Holds C (Γ ++ Δ) Φ w) : Holds C (pk Γ :: Δ) Φ w :=
  h.move (Mod.refl _ _) (Own.pk.2 h.own) fun _ _ hk => fpL_pk.1 hk
theorem Holds.unpack {w : World} (h : Holds C (pk Γ :: Δ) Φ w) : Holds C (Γ ++ Δ) Φ w :=
  h.move (Mod.refl _ _) (Own.pk.1 h.own) fun _ _ hk => fpL_pk.2 hk
theorem Holds.ctx {C' : Ctx} {w : World} (h : Holds C Γ Φ w) (h1 : C'.w0 = C.w0) (h2 : C'.O0 = C.O0) (h3 : C'.M = C.M) : Holds C' Γ Φ w :=
  ⟨by rw [h1, h3]; exact h.mod, h.own, by rw [h1, h3]; exact h.ofp, by rw [h1, h2, h3]; exact h.o0, by rw [h2]; exact h.sp⟩
theorem Holds.facts {Ψ : List SP} {w : World} (h : Holds C Γ Φ w) (k : ∀ ψ ∈ Ψ, ψ.p w (avo C.O0 Γ)) : Holds C Γ Ψ w := ⟨h.mod, h.own, h.ofp, h.o0, k⟩
theorem ob_at {w : World} {l : Nat} {o : Obj} (h : Holds C (ob l o :: Γ) Φ w) : w.heap[l]? = some o := h.own.1

/-- a call, by what it leaves. -/
theorem call_holds {f : FuncId} {aas : List Value} {Γp Γr : List OA} {Φp : List SP} {X : Type} {pf : X → Prop} {ret : X → Value} {Γ' : X → List OA} {Φ' : X → List SP} {w : World}
    (hfn : Ct C.P f aas Γp Φp pf ret Γ' Φ') (hw : Holds C (Γp ++ Γr) Φ w) (hin : AllE Φp Φ) :
    Calls C.P f aas.toArray w fun e w1 => ∃ x, pf x ∧ e = .returned (ret x) ∧ Holds C (Γ' x ++ Γr) (Φ' x ++ Φ) w1 := by
  obtain ⟨ho1, ho2, ho3⟩ := Own.append.1 hw.own
  have hO : ∀ k, avo C.O0 Γr k → k < w.heap.size ∧ ¬ fpL Γp k := fun k hk => by
    rcases hk with hk | hk
    · have h1 := hw.o0 k hk
      refine ⟨Nat.lt_of_lt_of_le h1.1 hw.mod.size, fun hn => ?_⟩
      rcases hw.ofp k (fpL_append.2 (.inl hn)) with h2 | h2
      · exact h1.2 h2
      · omega
    · exact ⟨Own.lt ho2 hk, fun hn => ho3 k hn hk⟩
  refine (hfn w (avo C.O0 Γr) hO ho1 (fun ψ hψ => ψ.st (hin ψ hψ _ _ hw.sp) (Mod.refl _ _) fun k _ hk => avo_append.2 hk)).mono fun e w1 ⟨x, hx, he, hm, ho, hf, hs⟩ => ⟨x, hx, he, ?_⟩
  have hdis : ∀ k, fpL (Γ' x) k → ¬ fpL Γr k := fun k hk hn => by
    rcases hf k hk with h1 | h1
    · exact ho3 k h1 hn
    · have := Own.lt ho2 hn
      omega
  have hmove : Holds C (Γ' x ++ Γr) Φ w1 := by
    refine hw.move (hm.mono fun k _ hk => fpL_append.2 (.inl hk)) (Own.append.2 ⟨ho, ho2.keep fun k hlt hk => hm.block k hlt fun hn => ho3 k hn hk, hdis⟩) fun k hlt hk => ?_
    rcases fpL_append.1 hk with hk | hk
    · rcases hf k hk with h1 | h1
      · exact fpL_append.2 (.inl h1)
      · omega
    · exact fpL_append.2 (.inr hk)
  refine hmove.facts fun ψ hψ => ?_
  rcases List.mem_append.1 hψ with hψ | hψ
  · exact ψ.st (hs ψ hψ) (Mod.refl _ _) fun k _ hk => avo_append.1 hk
  · exact hmove.sp ψ hψ
end

-- ===== the rounds =====

/-- the jump that a round leaves behind. -/
def jumpOf : Exit → Option (Option Code)
  | .normal => some none
  | .ret => some (some .ret)
  | .exit i => some (some (.exit i))
  | .goto t => some (some (.goto t))
  | _ => none

def recOf (fn : FuncId) (t0 : Array Value) (ps : Array Tmp) (assign body : Code) (D : Nat) (j : Option Code) : Loop :=
  { state := if j.isNone then .ready else .done, pending := j, fn := fn, tmps := t0, params := ps, assign := assign, body := body, defers := D }

/-- how a round's body is left: the jump is told by the new state. -/
def RQ (C : Ctx) (l : Nat) (o : Obj) {α : Type} (step : α → Prop) (Y : α → List OA) (Ψ : α → List SP) (e : α → Option Code) : Exit → Act → World → Prop :=
  fun ex _ w => ∃ y, step y ∧ jumpOf ex = some (e y) ∧ Holds C (ob l o :: Y y) (Ψ y) w
def AQ (C : Ctx) (fr : Fr) (Γ : List OA) (Φ : List SP) : Exit → Act → World → Prop := fun ex a w => ex = .normal ∧ fok C fr a ∧ Holds C Γ Φ w

theorem WQ_round {C : Ctx} {l : Nat} {o : Obj} {α : Type} {step : α → Prop} {Y : α → List OA} {Ψ : α → List SP} {e : α → Option Code} {ex : Exit} {fr : Fr} {Γ : List OA} {Φ : List SP} (y : α) (hs : step y) (hj : jumpOf ex = some (e y))
    (h2 : SubO Γ (ob l o :: Y y)) (h3 : AllE (Ψ y) Φ) : WQ C ex fr Γ Φ (RQ C l o step Y Ψ e) := fun _ _ _ hw => ⟨y, hs, hj, (hw.subOwn h2).allE h3⟩
theorem WQ_assign {C : Ctx} {fr fr' : Fr} {Γ Γ' : List OA} {Φ Φ' : List SP} (h1 : FrIn fr fr') (h2 : SubO Γ Γ') (h3 : AllE Φ' Φ) : WQ C .normal fr Γ Φ (AQ C fr' Γ' Φ') := fun _ _ ha hw => ⟨rfl, ha.sub h1, (hw.subOwn h2).allE h3⟩

theorem Yc_round {P : Program} {l D : Nat} {fn : FuncId} {t0 : Array Value} {p : Tmp} {assign body : Code} {n : Nat} {fr fr1 : Fr} {α : Type} {Y : α → List OA} {Ψ : α → List SP} {e : α → Option Code} {y : α} {v : Value} {Φa : List SP} {step : α → Prop}
    (he : e y = none) (ht : t0.size = n) (hfr : ∀ t v, fget fr t = some v → t0.getD t undef = v) (hpn : Nat.blt p n = true)
    (hassign : ∀ w0 O0 M o, W ⟨P, n, w0, O0, M, some l, []⟩ assign ((p, v) :: fr) (ob l o :: Y y) (Φa ++ Ψ y) (AQ ⟨P, n, w0, O0, M, some l, []⟩ fr1 (ob l o :: Y y) (Φa ++ Ψ y)))
    (hbody : ∀ w0 O0 M o, W ⟨P, n, w0, O0, M, some l, []⟩ body fr1 (ob l o :: Y y) (Φa ++ Ψ y) (RQ ⟨P, n, w0, O0, M, some l, []⟩ l o step Y Ψ e)) :
    Yc P l [v] [pk (ob l (.loop (recOf fn t0 #[p] assign body D (e y))) :: Y y)] (Φa ++ [cj (Ψ y)]) (X := α) step (fun y' => .bool (e y').isNone) (fun y' => [pk (ob l (.loop (recOf fn t0 #[p] assign body D (e y'))) :: Y y')]) (fun y' => [cj (Ψ y')]) := by
  intro w O0 hO ho hΦ
  have hw0 : Holds ⟨P, n, w, O0, fpL [pk (ob l (.loop (recOf fn t0 #[p] assign body D (e y))) :: Y y)], some l, []⟩ (ob l (.loop (recOf fn t0 #[p] assign body D (e y))) :: Y y) (Φa ++ Ψ y) w := by
    have h1 : Holds ⟨P, n, w, O0, fpL [pk (ob l (.loop (recOf fn t0 #[p] assign body D (e y))) :: Y y)], some l, []⟩ [pk (ob l (.loop (recOf fn t0 #[p] assign body D (e y))) :: Y y)] (Φa ++ [cj (Ψ y)]) w := ⟨Mod.refl _ _, ho, fun k hk => .inl hk, hO, hΦ⟩
    have h2 := h1.unpack
    rw [List.append_nil] at h2
    refine h2.facts fun ψ hψ => ?_
    rcases List.mem_append.1 hψ with hψ | hψ
    · exact h2.sp ψ (List.mem_append.2 (.inl hψ))
    · exact h2.sp (cj (Ψ y)) (List.mem_append.2 (.inr (by simp))) ψ hψ
  have hat := ob_at hw0
  refine ⟨_, _, _, _, run_yield hat (by rfl), roundIn_of_wpIn trivial ?_⟩
  have hfo : fok ⟨P, n, w, O0, fpL [pk (ob l (.loop (recOf fn t0 #[p] assign body D (e y))) :: Y y)], some l, []⟩ ((p, v) :: fr) { tmps := t0.setIfInBounds p v, defers := [] } := by
    have h0 : fok ⟨P, n, w, O0, fpL [pk (ob l (.loop (recOf fn t0 #[p] assign body D (e y))) :: Y y)], some l, []⟩ fr { tmps := t0, defers := [] } := ⟨rfl, ht, hfr⟩
    exact h0.put (Nat.lt_of_lt_of_le (Nat.lt_succ_self p) (Nat.le_of_ble_eq_true hpn))
  have hz : ((recOf fn t0 #[p] assign body D (e y)).params.zip #[v]).foldl (fun tmps (t, a) => tmps.setIfInBounds t a) (recOf fn t0 #[p] assign body D (e y)).tmps = t0.setIfInBounds p v := by simp [recOf]
  rw [show ([v] : List Value).toArray = #[v] from rfl, hz]
  refine wpIn_mono (hassign _ _ _ _ _ w hfo hw0) ?_
  rintro ex a1 w1 ⟨rfl, hfa, hw1⟩
  have hat1 := ob_at hw1
  refine ⟨_, run_beginRound hat1 (by rw [he]; rfl), ?_⟩
  have hw2 := hw1.putO (.loop { recOf fn t0 #[p] assign body D (e y) with state := .busy })
  refine wpIn_mono (hbody _ _ _ _ a1 _ hfa hw2) ?_
  rintro ex a2 w3 ⟨y', hst, hj, hw3⟩
  have hat3 := ob_at hw3
  have hend := run_endRound (P := P) (e y') hat3
  have hw4 := hw3.putO (.loop (recOf fn t0 #[p] assign body D (e y')))
  have hpost : FnPost w O0 (fpL [pk (ob l (.loop (recOf fn t0 #[p] assign body D (e y))) :: Y y)]) step (fun y' => .bool (e y').isNone) (fun y' => [pk (ob l (.loop (recOf fn t0 #[p] assign body D (e y'))) :: Y y')]) (fun y' => [cj (Ψ y')])
      (.returned (.bool (e y').isNone)) (w3.putObj l (.loop (recOf fn t0 #[p] assign body D (e y')))) := by
    have h5 : Holds ⟨P, n, w, O0, fpL [pk (ob l (.loop (recOf fn t0 #[p] assign body D (e y))) :: Y y)], some l, []⟩ [pk (ob l (.loop (recOf fn t0 #[p] assign body D (e y'))) :: Y y')] (Ψ y') (w3.putObj l (.loop (recOf fn t0 #[p] assign body D (e y')))) := by
      apply Holds.pack
      rw [List.append_nil]
      exact hw4
    refine ⟨y', hst, rfl, h5.mod, h5.own, h5.ofp, fun ψ hψ => ?_⟩
    rcases List.mem_singleton.1 hψ with rfl
    exact h5.sp
  cases ex with
  | normal =>
    injection hj with hj
    rw [← hj] at hend hpost
    exact ⟨_, _, hend, hpost⟩
  | ret =>
    injection hj with hj
    rw [← hj] at hend hpost
    exact ⟨_, _, hend, hpost⟩
  | exit id =>
    injection hj with hj
    rw [← hj] at hend hpost
    exact ⟨_, _, hend, hpost⟩
  | goto t =>
    injection hj with hj
    rw [← hj] at hend hpost
    exact ⟨_, _, hend, hpost⟩
  | panic ch => cases hj
  | outgrown => cases hj

/-- the statement. -/
theorem W_rangeFunc {P : Program} {ds : List Deferred} {n : Nat} {w0 : World} {O0 M : Nat → Prop} {g : Operand} {p : Tmp} {assign body : Code} {fr : Fr} {Γ : List OA} {Φ : List SP} {Q : Exit → Act → World → Prop} {gf : FuncId} {lb : Array Value}
    {α β : Type} (Y : α → List OA) (Ψ : α → List SP) (e : α → Option Code) (y0 : α) (av : β → Value) (aΦ : β → List SP) (pre : α → β → Prop) (step : α → β → α → Prop) (fr1 : β → Fr)
    {Γi Γr : List OA} {Φi : List SP} {X : Type} {pf : X → Prop} {ret : X → Value} {yx : X → α} {Γ' : X → List OA} {Φ' : X → List SP}
    (hg : evO fr g = some (.func (.func gf) #[] lb)) (hcf : ∀ (args : Array Value) (w : World), (callFunc gf args).run P w = .ok (.enter gf args) w)
    (he0 : e y0 = none) (hp : Γ.Perm (Γi ++ (Y y0 ++ Γr))) (hΨ : AllE (Ψ y0) Φ) (hΦi : AllE Φi Φ) (hpn : Nat.blt p n = true) (hpre : ∀ y b, pre y b → e y = none)
    (hassign : ∀ l y b, pre y b → ∀ w0 O0 M o, W ⟨P, n, w0, O0, M, some l, []⟩ assign ((p, av b) :: fr) (ob l o :: Y y) (aΦ b ++ Ψ y) (AQ ⟨P, n, w0, O0, M, some l, []⟩ (fr1 b) (ob l o :: Y y) (aΦ b ++ Ψ y)))
    (hbody : ∀ l y b, pre y b → ∀ w0 O0 M o, W ⟨P, n, w0, O0, M, some l, []⟩ body (fr1 b) (ob l o :: Y y) (aΦ b ++ Ψ y) (RQ ⟨P, n, w0, O0, M, some l, []⟩ l o (step y b) Y Ψ e))
    (hiter : ∀ (l : Nat) (YO : α → OA) (YS : α → SP), (∀ y b, pre y b → Yc P l [av b] [YO y] (aΦ b ++ [YS y]) (X := α) (step y b) (fun y' => .bool (e y').isNone) (fun y' => [YO y']) (fun y' => [YS y'])) →
      Ct P gf (.func (.yield l) #[] #[] :: lb.toList) (Γi ++ [YO y0]) (Φi ++ [YS y0]) pf ret (fun x => YO (yx x) :: Γ' x) (fun x => YS (yx x) :: Φ' x))
    (hk : ∀ D x, pf x → (e (yx x) = none → WQ ⟨P, n, w0, O0, M, none, ⟨.collected D, #[]⟩ :: ds⟩ .normal fr (ob D (.deferred (some [])) :: (Y (yx x) ++ (Γ' x ++ Γr))) (Ψ (yx x) ++ (Φ' x ++ Φ)) Q) ∧
      ∀ c, e (yx x) = some c → W ⟨P, n, w0, O0, M, none, ⟨.collected D, #[]⟩ :: ds⟩ c fr (ob D (.deferred (some [])) :: (Y (yx x) ++ (Γ' x ++ Γr))) (Ψ (yx x) ++ (Φ' x ++ Φ)) Q) :
    W ⟨P, n, w0, O0, M, none, ds⟩ (.rangeFunc g #[p] assign body) fr Γ Φ Q := by
  intro a w ha hw
  show Code.wpIn Fence.wide 0 P _ Q a w
  refine wpIn_rangeFunc fun fn _ => ?_
  have hres : ∀ w1 : World, (resolve a.eval (rangeCall g (w.heap.size + 1)) 0).run P w1 = .ok ⟨.fn (.func gf) lb, #[.func (.yield (w.heap.size + 1)) #[] #[]]⟩ w1 := fun w1 => by
    have e1 := evO_sound ha hg
    simp only [resolve, e1, Deferred.ofValue]
    simp
    rfl
  have hinv : ∀ w1 : World, (invoke (.fn (.func gf) lb) #[.func (.yield (w.heap.size + 1)) #[] #[]]).run P w1 = .ok (.enter gf (#[.func (.yield (w.heap.size + 1)) #[] #[]] ++ lb)) w1 := fun w1 => by
    simp only [invoke]
    exact hcf _ _
  refine ⟨_, _, _, _, _, gf, _, _, run_enterLoop_outer fn a.tmps #[p] assign body, hres _, fun _ _ => trivial, hinv _, fenceOf_depth none, ?_⟩
  obtain ⟨w1, hw1⟩ : ∃ w1, w1 = (w.alloc (.deferred (some []))).alloc (.loop (recOf fn a.tmps #[p] assign body w.heap.size none)) := ⟨_, rfl⟩
  have h1 := ((hw.perm hp).allocO (.deferred (some []))).allocO (.loop (recOf fn a.tmps #[p] assign body w.heap.size none))
  rw [World.size_alloc, ← hw1] at h1
  have h2 : Holds ⟨P, n, w0, O0, M, none, ds⟩ ((Γi ++ [pk (ob (w.heap.size + 1) (.loop (recOf fn a.tmps #[p] assign body w.heap.size (e y0))) :: Y y0)]) ++ (ob w.heap.size (.deferred (some [])) :: Γr)) (cj (Ψ y0) :: Φ) w1 := by
    have h3 : Holds ⟨P, n, w0, O0, M, none, ds⟩ ((ob (w.heap.size + 1) (.loop (recOf fn a.tmps #[p] assign body w.heap.size (e y0))) :: Y y0) ++ (Γi ++ (ob w.heap.size (.deferred (some [])) :: Γr))) Φ w1 := by
      rw [he0]
      refine h1.perm ?_
      show (ob (w.heap.size + 1) _ :: (ob w.heap.size (.deferred (some [])) :: (Γi ++ (Y y0 ++ Γr)))).Perm (ob (w.heap.size + 1) _ :: (Y y0 ++ (Γi ++ (ob w.heap.size (.deferred (some [])) :: Γr))))
      refine List.Perm.cons _ ?_
      have e1 : (Γi ++ (Y y0 ++ Γr)).Perm (Y y0 ++ (Γi ++ Γr)) := by
        rw [← List.append_assoc, ← List.append_assoc]
        exact List.perm_append_comm.append_right Γr
      refine (List.Perm.cons _ e1).trans ?_
      rw [← List.append_assoc, ← List.append_assoc]
      exact List.perm_middle.symm
    have h4 := h3.pack
    have h5 := h4.perm (Γ' := (Γi ++ [pk (ob (w.heap.size + 1) (.loop (recOf fn a.tmps #[p] assign body w.heap.size (e y0))) :: Y y0)]) ++ (ob w.heap.size (.deferred (some [])) :: Γr)) (by
      rw [List.append_assoc]
      exact List.perm_middle.symm)
    exact h5.cons fun ψ hψ => hΨ ψ hψ _ _ h5.sp
  have hcall := call_holds (hiter (w.heap.size + 1) (fun y => pk (ob (w.heap.size + 1) (.loop (recOf fn a.tmps #[p] assign body w.heap.size (e y))) :: Y y)) (fun y => cj (Ψ y)) fun y b hb =>
    Yc_round (hpre y b hb) ha.2.1 ha.2.2 hpn (hassign _ y b hb) (hbody _ y b hb)) h2 (fun ψ hψ => by
      rcases List.mem_append.1 hψ with hψ | hψ
      · exact fun W O hh => hΦi ψ hψ W O fun χ hχ => hh χ (List.mem_cons_of_mem _ hχ)
      · rcases List.mem_singleton.1 hψ with rfl
        exact Ent.mem List.mem_cons_self)
  have eargs : (#[.func (.yield (w.heap.size + 1)) #[] #[]] ++ lb : Array Value) = (Value.func (.yield (w.heap.size + 1)) #[] #[] :: lb.toList).toArray := by
    apply Array.ext'
    simp
  rw [← eargs, hw1] at hcall
  refine (callsIn_wide (n := 0 - 1)).2 (hcall.mono ?_)
  rintro en w' ⟨x, hx, rfl, hw'⟩
  have h6 : Holds ⟨P, n, w0, O0, M, none, ds⟩ (ob (w.heap.size + 1) (.loop (recOf fn a.tmps #[p] assign body w.heap.size (e (yx x)))) :: (Y (yx x) ++ (Γ' x ++ (ob w.heap.size (.deferred (some [])) :: Γr)))) (cj (Ψ (yx x)) :: Φ' x ++ (cj (Ψ y0) :: Φ)) w' := hw'.unpack
  have hat := ob_at h6
  have hend := run_endLoop (P := P) hat (by
    show (if (e (yx x)).isNone then LoopState.ready else .done) ≠ .busy
    split <;> intro h <;> cases h)
  refine ⟨_, _, hend, ?_⟩
  have h7 := (h6.putO (.loop { recOf fn a.tmps #[p] assign body w.heap.size (e (yx x)) with state := .exhausted })).drop
  have h8 : Holds ⟨P, n, w0, O0, M, none, ⟨.collected w.heap.size, #[]⟩ :: ds⟩ (ob w.heap.size (.deferred (some [])) :: (Y (yx x) ++ (Γ' x ++ Γr))) (Ψ (yx x) ++ (Φ' x ++ Φ)) (w'.putObj (w.heap.size + 1) (.loop { recOf fn a.tmps #[p] assign body w.heap.size (e (yx x)) with state := .exhausted })) := by
    have h9 := (h7.perm (Γ' := ob w.heap.size (.deferred (some [])) :: (Y (yx x) ++ (Γ' x ++ Γr))) (by
      rw [← List.append_assoc, ← List.append_assoc]
      exact List.perm_middle)).ctx (C' := ⟨P, n, w0, O0, M, none, ⟨.collected w.heap.size, #[]⟩ :: ds⟩) rfl rfl rfl
    refine h9.facts fun ψ hψ => ?_
    rcases List.mem_append.1 hψ with hψ | hψ
    · exact h9.sp (cj (Ψ (yx x))) (by simp) ψ hψ
    · rcases List.mem_append.1 hψ with hψ | hψ
      · exact h9.sp ψ (by simp [hψ])
      · exact h9.sp ψ (by simp [hψ])
  have hfa : fok ⟨P, n, w0, O0, M, none, ⟨.collected w.heap.size, #[]⟩ :: ds⟩ fr { a with defers := [⟨.collected w.heap.size, #[]⟩] ++ a.defers } := ⟨by rw [ha.1]; rfl, ha.2.1, ha.2.2⟩
  obtain ⟨k1, k2⟩ := hk w.heap.size x hx
  generalize w'.putObj (w.heap.size + 1) (.loop { recOf fn a.tmps #[p] assign body w.heap.size (e (yx x)) with state := .exhausted }) = w4 at h8 ⊢
  show match e (yx x) with | none => _ | some c => _
  cases hc : e (yx x) with
  | none => exact k1 hc _ _ hfa h8
  | some c => exact k2 c hc _ _ hfa h8

-- ===== a function that holds such a loop =====

theorem Ct_introM {P : Program} {f : FuncId} {fn : Func} {c : Code} {args : List Value} {Γ : List OA} {Φ : List SP} {X : Type} {pf : X → Prop} {ret : X → Value} {Γ' : X → List OA} {Φ' : X → List SP} {n : Nat}
    (hf : P.funcs[f]? = some fn) (hb : fn.body = some c) (hn : fn.ntmps = n) (hl : args.length ≤ n) (fr : Fr) (hfr : listO (argFr 0 args) = some fr)
    (h : ∀ w0 O0, W ⟨P, n, w0, O0, fpL Γ, none, []⟩ c fr Γ Φ (bodyPostM Fence.wide 0 P fn (FnPost w0 O0 (fpL Γ) pf ret Γ' Φ'))) : Ct P f args Γ Φ pf ret Γ' Φ' := by
  intro w O0 hO ho hΦ
  have hfr := listO_eq hfr
  refine (callsIn_wide (n := 0)).1 (callsIn_of_wp_marks hf hb trivial (h w O0 _ w ⟨rfl, ?_, fun t v hv => ?_⟩ ⟨Mod.refl _ _, ho, fun k hk => .inl hk, hO, hΦ⟩))
  · subst hn
    simp
    omega
  · rw [← hfr] at hv
    obtain ⟨_, h2⟩ := argFr_get args 0 t v hv
    rw [Nat.sub_zero] at h2
    have hlt : t < args.length := (List.getElem?_eq_some_iff.1 h2).1
    have h3 := (List.getElem?_eq_some_iff.1 h2).2
    simp [Array.getElem?_append, hlt, h3]

abbrev CtxM (P : Program) (n : Nat) (w0 : World) (O0 M : Nat → Prop) (D : Nat) : Ctx := ⟨P, n, w0, O0, M, none, [⟨.collected D, #[]⟩]⟩

theorem ret_endM {P : Program} {n D : Nat} {w0 : World} {O0 M : Nat → Prop} {fn : Func} {fr : Fr} {Γ Γ1 : List OA} {Φ : List SP} {X : Type} {pf : X → Prop} {ret : X → Value} {Γ' : X → List OA} {Φ' : X → List SP} {e : Exit} (he : e = .ret ∨ e = .normal) (x : X) (hp : pf x)
    (hD : Pick (ob D (.deferred (some []))) Γ Γ1)
    (hr : ∀ a w, fok (CtxM P n w0 O0 M D) fr a → Holds (CtxM P n w0 O0 M D) (ob D (.deferred none) :: Γ1) Φ w → (results fn a.tmps).run P w = .ok (ret x) w) (h2 : SubO Γ1 (Γ' x)) (h3 : AllE (Φ' x) Φ) :
    WQ (CtxM P n w0 O0 M D) e fr Γ Φ (bodyPostM Fence.wide 0 P fn (FnPost w0 O0 M pf ret Γ' Φ')) := by
  intro a w ha hw
  have hw1 := pick_holds hD hw
  have hat := ob_at hw1
  have hw2 := hw1.putO (.deferred none)
  have hw3 := (hw2.drop.subOwn h2).allE h3
  have hl : LeavesInM Fence.wide 0 P fn a.tmps (FnPost w0 O0 M pf ret Γ' Φ') a.defers .returning w := by
    rw [show a.defers = [⟨.collected D, #[]⟩] from ha.1]
    exact ⟨(fun h => by cases h), .inl ⟨D, _, rfl, run_takeDeferred hat, _, hr a _ ha hw2, x, hp, rfl, hw3.mod, hw3.own, hw3.ofp, hw3.sp⟩⟩
  rcases he with rfl | rfl
  · exact hl
  · exact hl

section
variable {P : Program} {n D : Nat} {w0 : World} {O0 M : Nat → Prop} {fn : Func} {fr : Fr} {Γ Γ1 : List OA} {Φ : List SP} {X : Type} {pf : X → Prop} {ret : X → Value} {Γ' : X → List OA} {Φ' : X → List SP}
theorem ret1M {r1 : ResultVar} {v1 : Value} (hres : fn.results = #[r1]) (x : X) (hp : pf x) (hD : Pick (ob D (.deferred (some []))) Γ Γ1)
    (h1 : RV (CtxM P n w0 O0 M D) fr (ob D (.deferred none) :: Γ1) Φ r1 v1) (hv : v1 = ret x) (h2 : SubO Γ1 (Γ' x)) (h3 : AllE (Φ' x) Φ) :
    WQ (CtxM P n w0 O0 M D) .ret fr Γ Φ (bodyPostM Fence.wide 0 P fn (FnPost w0 O0 M pf ret Γ' Φ')) :=
  ret_endM (.inl rfl) x hp hD (fun a w ha hw => by subst hv; rw [results_run, hres]; simp [h1 a w ha hw]) h2 h3
theorem ret2M {r1 r2 : ResultVar} {v1 v2 : Value} (hres : fn.results = #[r1, r2]) (x : X) (hp : pf x) (hD : Pick (ob D (.deferred (some []))) Γ Γ1)
    (h1 : RV (CtxM P n w0 O0 M D) fr (ob D (.deferred none) :: Γ1) Φ r1 v1) (h1' : RV (CtxM P n w0 O0 M D) fr (ob D (.deferred none) :: Γ1) Φ r2 v2) (hv : .tuple #[v1, v2] = ret x) (h2 : SubO Γ1 (Γ' x)) (h3 : AllE (Φ' x) Φ) :
    WQ (CtxM P n w0 O0 M D) .ret fr Γ Φ (bodyPostM Fence.wide 0 P fn (FnPost w0 O0 M pf ret Γ' Φ')) :=
  ret_endM (.inl rfl) x hp hD (fun a w ha hw => by rw [← hv, results_run, hres]; simp [h1 a w ha hw, h1' a w ha hw]) h2 h3
end

section
variable {C : Ctx} {fr : Fr} {Γ Γ' Γ1 : List OA} {Φ : List SP} {d : Nat} {ty : TypeId} {pos : String} {aft : Array Edge} {g : Option (Nat × Bool)}
theorem R_makeFunc {fn : Fn} {caps : Array Operand} {vs : List Value} (hc : evOs fr caps.toList = some vs) : Runs C fr Γ Φ ⟨some d, .makeFunc fn #[] caps, ty, pos, aft, g⟩ (.func fn #[] vs.toArray) :=
  Runs.pure fun a w ha _ => by
    have e := evOs_sound ha hc
    have e2 : caps.map a.eval = vs.toArray := by
      apply Array.ext'
      simpa using e
    simp [execOp, Instr.makeFunc, e2]
theorem R_nilCheck {x : Operand} {A : Addr} (hx : evO fr x = some (.pointer (some A))) : Runs C fr Γ Φ ⟨some d, .nilCheck x, ty, pos, aft, g⟩ (.pointer (some A)) :=
  Runs.pure fun a w ha _ => by simp [execOp, evO_sound ha hx]

/-- a byte row that is made, told as lasting at once. -/
theorem Effs.letB {o : Oper} {X : Type} {pf : X → Prop} {vx : X → Value} {G : X → List OA} {H : X → List SP} {v : X → Value} {t : TypeId} {n : X → Nat} {bs : X → List UInt8}
    (h : Effs C fr Γ Φ o pf vx (fun x => .row (v x) t 1 (n x) ((bs x).map bcell) :: G x) H) : Effs C fr Γ Φ o pf vx G (fun x => By (v x) (bs x) :: H x) := by
  refine ⟨fun x ψ hψ => List.mem_cons_of_mem _ (h.1 x ψ hψ), fun R a w ha hw => (h.2 R a w ha hw).mono fun v' w' ⟨x, hp, hv, hw'⟩ => ⟨x, hp, hv, ?_⟩⟩
  exact Holds.letgoB hw' rfl

/-- things appended that are themselves slices. -/
theorem E_appendRowO {t e : TypeId} {x y : Operand} {v u : Value} {size n m nm : Nat} {xs news all : List Value} {i : TypeInfo} {z : Value}
    (hx : evO fr x = some v) (hy : evO fr y = some u) (hp : Pick (.row v e size n xs) Γ Γ') (hp' : Pick (.row u e size m news) Γ' Γ1)
    (ht : C.P.underlying t = some (.slice e)) (hi : C.P.info? e = some i) (hz : i.zero = some z) (hsize : i.size = size) (hzs : z.cells.size = size) (hsz : 0 < size) (h1 : Ones C Γ Φ news)
    (hby : i.bytes ≤ 128) (hb : n + m ≤ 1099511627776) (hnm : n + m = nm) (hall : xs ++ news = all) :
    Effs C fr Γ Φ ⟨some d, .call { callee := .builtin .append, args := #[x, y], argTypes := #[t, t] }, ty, pos, aft, g⟩ (X := Value) (fun _ => True) (fun q => q) (fun v' => .row v' e size nm all :: Γ1) (fun _ => Φ) := by
  refine ⟨fun _ => AllIn.refl _, fun R a w ha hw => ?_⟩
  exact (E_appendRow hx hy hp hp' ht hi hz hsize hzs hsz (fun u hu => h1 u hu R w hw) hby hb hnm hall).2 R a w ha hw
end

theorem ent_alS {Φ : List SP} {n : Nat} {ψ ψ' : Nat → SP} {χ : SP} (hm : Al n ψ ∈ Φ) (hc : χ ∈ Φ) (h1 : ∀ i, i < n → ψ i = ψ' i) (h2 : χ = ψ' n) : Ent Φ (Al (n + 1) ψ') := fun w O h i hi => by
  by_cases e : i < n
  · rw [← h1 i e]
    exact h _ hm i e
  · obtain rfl : i = n := by omega
    rw [← h2]
    exact h _ hc
theorem ent_nilRw {Φ : List SP} {size : Nat} {f : Nat → List Value} : Ent Φ (Rw size (.slice none 0 0) 0 f) := fun _ _ _ => ⟨none, 0, rfl, Nat.le_refl _, by simp [maxLen], fun h => absurd h (by omega)⟩
theorem ent_al0 {Φ : List SP} {ψ : Nat → SP} : Ent Φ (Al 0 ψ) := ent_alI fun i hi => absurd hi (by omega)
end Go.Hs

/-
  Trees of elements in memory; own things lent to a call; rows of bytes of which only the lengths matter. No program is named here.
-/
namespace Go.Hs
open Go Go.RowKit

-- ===== a call that looks at what is owned =====

/-- while Γb is owned and Φ holds, the facts Φb hold too (where Γb itself is not forbidden). -/
def Bor (Γb : List OA) (Φ Φb : List SP) : Prop := ∀ w O, Own Γb w → (∀ k, fpL Γb k → ¬ O k) → (∀ ψ ∈ Φ, ψ.p w O) → ∀ ψ ∈ Φb, ψ.p w O

section
variable {C : Ctx} {ops : Array Oper} {l : List Oper} {fr : Fr} {Γ Γ' Γ1 : List OA} {Φ : List SP} {Q : Exit → Act → World → Prop}
  {d : Nat} {ty : TypeId} {pos : String} {aft : Array Edge} {g : Option (Nat × Bool)}

theorem Bor.row {v : Value} {t : TypeId} {n : Nat} {bs : List UInt8} {Γr : List OA} (hn : n = bs.length) : Bor [.row v t 1 n (bs.map bcell)] Φ (By v bs :: Φ) := fun w O ho hd hΦ ψ hψ => by
  rcases List.mem_cons.1 hψ with rfl | hψ
  · subst hn
    exact slP_of_row ho.1 fun k hk => hd k (fpL_cons.2 (.inl hk))
  · exact hΦ ψ hψ

theorem R_callB {dst : Option Tmp} {f : FuncId} {args : List Operand} {argTypes : Array TypeId} {vs : List Value} {Φp : List SP} {v : Value} {Γb Γr : List OA}
    (ha : evOs fr args = some vs)
    (hrun : ∀ (aas : Array Value) (w : World), (callFunc f aas).run C.P w = .ok (.enter f aas) w)
    (hfn : CtD C.P f vs Φp v) (hp : Γ.Perm (Γb ++ Γr)) (hb : Bor Γb Φ Φp) :
    Runs C fr Γ Φ ⟨dst, .call { callee := .value (.func f), args := args.toArray, argTypes := argTypes }, ty, pos, aft, g⟩ v := by
  intro a w hfa hw0
  have hw := hw0.perm hp
  obtain ⟨ho1, ho2, ho3⟩ := Own.append.1 hw.own
  have hO : ∀ k, avo C.O0 Γr k → k < w.heap.size ∧ ¬ fpL [] k := fun k hk => by
    refine ⟨?_, fun ⟨_, hx, _⟩ => by cases hx⟩
    rcases hk with hk | hk
    · exact Nat.lt_of_lt_of_le (hw.o0 k hk).1 hw.mod.size
    · exact Own.lt ho2 hk
  have hd : ∀ k, fpL Γb k → ¬ avo C.O0 Γr k := fun k hk hn => by
    rcases hn with hn | hn
    · have h1 := hw.o0 k hn
      rcases hw.ofp k (fpL_append.2 (.inl hk)) with h2 | h2
      · exact h1.2 h2
      · omega
    · exact ho3 k hk hn
  have hΦ : ∀ ψ ∈ Φ, ψ.p w (avo C.O0 Γr) := fun ψ hψ => ψ.st (hw.sp ψ hψ) (Mod.refl _ _) fun k _ hk => hk.elim .inl fun h => .inr (fpL_append.2 (.inr h))
  have hcall := hfn w (avo C.O0 Γr) hO trivial (fun ψ hψ => ψ.st (hb w _ ho1 hd hΦ ψ hψ) (Mod.refl _ _) fun k _ hk => hk.elim id fun ⟨_, hx, _⟩ => by cases hx)
  have hrun' : (execOp a.eval ⟨dst, .call { callee := .value (.func f), args := args.toArray, argTypes := argTypes }, ty, pos, aft, g⟩).run C.P w = .ok (.enter f vs.toArray) w := by
    have e2 := evOs_sound hfa ha
    simp only [execOp, resolve, Act.eval, Deferred.ofValue, List.map_toArray, e2, Sem.run_bind, Sem.run_pure, Result.andThen_ok, invoke]
    rw [hrun]
    congr 2
    apply Array.ext'
    simp
  rw [hrun']
  show Calls _ _ _ _ _
  exact hcall.mono fun e w1 ⟨_, _, he, hm, _⟩ => ⟨_, he, rfl, hm.mono fun k _ ⟨_, hx, _⟩ => by cases hx⟩

/-- a plain truth drawn from what holds. -/
theorem W_pure {c : Code} {p : Prop} (hp : ∀ w, Holds C Γ Φ w → p) (h : p → W C c fr Γ Φ Q) : W C c fr Γ Φ Q := fun a w ha hw => h (hp w hw) a w ha hw
theorem WL_pure {p : Prop} (hp : ∀ w, Holds C Γ Φ w → p) (h : p → WL C ops l fr Γ Φ Q) : WL C ops l fr Γ Φ Q := fun a w ha hw => h (hp w hw) a w ha hw

def isNilV : Value → Bool
  | .slice none _ _ => true
  | _ => false

theorem R_eqNil {x y : Operand} {t e t' : TypeId} {v : Value} {size n : Nat} {xs : List Value} (hx : evO fr x = some v) (hy : evO fr y = some (.slice none 0 0)) (hm : Sl size v n xs ∈ Φ) (ht : C.P.underlying t = some (.slice e)) :
    Runs C fr Γ Φ ⟨some d, .binOp .eql t x y t', ty, pos, aft, g⟩ (.bool (isNilV v)) :=
  Runs.pure fun a w ha hw => by
    obtain ⟨_, A, c, hv, _⟩ := hw.sp _ hm
    subst hv
    have h := Lib.run_eql_slice_nil (P := C.P) w t e A n c 0 0 ht
    have hg : (eqGuard .eql t x y (.slice A n c) (.slice none 0 0)).run C.P w = .ok () w := by simp [eqGuard]
    simp only [execOp, evO_sound ha hx, evO_sound ha hy, Sem.run_bind, hg, Result.andThen_ok, h, Sem.run_pure]
    cases A <;> rfl
theorem R_eqNilB {x y : Operand} {t e t' : TypeId} {v : Value} {bs : List UInt8} (hx : evO fr x = some v) (hy : evO fr y = some (.slice none 0 0)) (hm : By v bs ∈ Φ) (ht : C.P.underlying t = some (.slice e)) :
    Runs C fr Γ Φ ⟨some d, .binOp .eql t x y t', ty, pos, aft, g⟩ (.bool (isNilV v)) := R_eqNil (xs := bs.map bcell) (size := 1) hx hy hm ht
theorem R_eqNilR {x y : Operand} {t e t' : TypeId} {v : Value} {size n : Nat} {f : Nat → List Value} (hx : evO fr x = some v) (hy : evO fr y = some (.slice none 0 0)) (hm : Rw size v n f ∈ Φ) (ht : C.P.underlying t = some (.slice e)) :
    Runs C fr Γ Φ ⟨some d, .binOp .eql t x y t', ty, pos, aft, g⟩ (.bool (isNilV v)) :=
  Runs.pure fun a w ha hw => by
    obtain ⟨A, c, hv, _⟩ := hw.sp _ hm
    subst hv
    have h := Lib.run_eql_slice_nil (P := C.P) w t e A n c 0 0 ht
    have hg : (eqGuard .eql t x y (.slice A n c) (.slice none 0 0)).run C.P w = .ok () w := by simp [eqGuard]
    simp only [execOp, evO_sound ha hx, evO_sound ha hy, Sem.run_bind, hg, Result.andThen_ok, h, Sem.run_pure]
    cases A <;> rfl
theorem by_nil {v : Value} {bs : List UInt8} (h : isNilV v = true) (hm : By v bs ∈ Φ) : ∀ w, Holds C Γ Φ w → bs = [] := fun w hw => by
  obtain ⟨_, A, c, rfl, _, _, hr⟩ := hw.sp _ hm
  cases A with
  | some A => cases h
  | none =>
    cases bs with
    | nil => rfl
    | cons b r =>
      obtain ⟨ad, h, _⟩ := hr (by simp)
      cases h
theorem rw_nil {v : Value} {size n : Nat} {f : Nat → List Value} (h : isNilV v = true) (hm : Rw size v n f ∈ Φ) : ∀ w, Holds C Γ Φ w → n = 0 := fun w hw => by
  obtain ⟨A, c, rfl, _, _, hr⟩ := hw.sp _ hm
  cases A with
  | some A => cases h
  | none =>
    cases n with
    | zero => rfl
    | succ n =>
      obtain ⟨ad, h, _⟩ := hr (by omega)
      cases h
/-- a method's value: the receiver is kept. -/
theorem R_makeFunc1 {fn : FuncId} {x : Operand} {v : Value} (hx : evO fr x = some v) : Runs C fr Γ Φ ⟨some d, .makeFunc (.func fn) #[x] #[], ty, pos, aft, g⟩ (.func (.func fn) #[v] #[]) :=
  Runs.pure fun a w ha _ => by simp [execOp, Instr.makeFunc, evO_sound ha hx]
end

theorem perm1 {x : OA} {Γ Γr : List OA} (h : Pick x Γ Γr) : Γ.Perm ([x] ++ Γr) := h
theorem perm2 {x y : OA} {Γ Γ1 Γr : List OA} (h : Pick x Γ Γ1) (k : Pick y Γ1 Γr) : Γ.Perm ([x, y] ++ Γr) := h.trans (List.Perm.cons x k)
theorem perm3 {x y z : OA} {Γ Γ1 Γ2 Γr : List OA} (h : Pick x Γ Γ1) (k : Pick y Γ1 Γ2) (l : Pick z Γ2 Γr) : Γ.Perm ([x, y, z] ++ Γr) := h.trans (List.Perm.cons x (k.trans (List.Perm.cons y l)))

-- ===== many rows of bytes aas one thing =====

def rowsL (bt : TypeId) (L : List (Value × List UInt8)) : List OA := L.map fun p => .row p.1 bt 1 p.2.length (p.2.map bcell)
theorem rowsL_append (bt : TypeId) (L K : List (Value × List UInt8)) : rowsL bt (L ++ K) = rowsL bt L ++ rowsL bt K := List.map_append ..

theorem perm_erase {α : Type} : ∀ {L : List α} {i : Nat} {p : α}, L[i]? = some p → L.Perm (p :: L.eraseIdx i)
  | [], _, _, h => by simp at h
  | a :: r, 0, p, h => by
    simp only [List.getElem?_cons_zero, Option.some.injEq] at h
    subst h
    exact .refl _
  | a :: r, i + 1, p, h => by
    rw [List.getElem?_cons_succ] at h
    exact (List.Perm.cons a (perm_erase h)).trans (.swap p a _)
theorem perm_set {α : Type} : ∀ {L : List α} {i : Nat} (q : α), i < L.length → (q :: L.eraseIdx i).Perm (L.set i q)
  | [], _, _, h => by simp at h
  | a :: r, 0, q, _ => .refl _
  | a :: r, i + 1, q, h => (List.Perm.swap a q _).trans (List.Perm.cons a (perm_set q (by simpa using h)))

section
variable {C : Ctx} {ops : Array Oper} {l : List Oper} {fr : Fr} {Γ Γ1 Γ2 : List OA} {Φ : List SP} {Q : Exit → Act → World → Prop}
theorem Holds.takeL {bt : TypeId} {L : List (Value × List UInt8)} {i : Nat} {p : Value × List UInt8} {w : World} (h : Holds C (pk (rowsL bt L) :: Γ) Φ w) (hi : L[i]? = some p) :
    Holds C (.row p.1 bt 1 p.2.length (p.2.map bcell) :: pk (rowsL bt (L.eraseIdx i)) :: Γ) Φ w := by
  have h1 := h.unpack
  have hp : (rowsL bt L).Perm (.row p.1 bt 1 p.2.length (p.2.map bcell) :: rowsL bt (L.eraseIdx i)) := (perm_erase hi).map fun (p : Value × List UInt8) => OA.row p.1 bt 1 p.2.length (p.2.map bcell)
  have h2 := h1.perm (hp.append_right Γ)
  have h3 : Holds C (rowsL bt (L.eraseIdx i) ++ .row p.1 bt 1 p.2.length (p.2.map bcell) :: Γ) Φ w := h2.perm List.perm_middle.symm
  exact h3.pack.perm (.swap _ _ _)
theorem Holds.putL {bt : TypeId} {L : List (Value × List UInt8)} {i : Nat} {v : Value} {bs : List UInt8} {w : World} (h : Holds C (.row v bt 1 bs.length (bs.map bcell) :: pk (rowsL bt (L.eraseIdx i)) :: Γ) Φ w) (hi : i < L.length) :
    Holds C (pk (rowsL bt (L.set i (v, bs))) :: Γ) Φ w := by
  have h1 := (h.perm (.swap _ _ _)).unpack
  have h2 := h1.perm List.perm_middle
  have hp : (.row v bt 1 bs.length (bs.map bcell) :: rowsL bt (L.eraseIdx i)).Perm (rowsL bt (L.set i (v, bs))) := (perm_set (v, bs) hi).map fun (p : Value × List UInt8) => OA.row p.1 bt 1 p.2.length (p.2.map bcell)
  exact (h2.perm (hp.append_right Γ)).pack
theorem Holds.addL {bt : TypeId} {L : List (Value × List UInt8)} {v : Value} {n : Nat} {xs : List Value} {bs : List UInt8} {w : World} (h : Holds C (.row v bt 1 n xs :: pk (rowsL bt L) :: Γ) Φ w) (hx : xs = bs.map bcell) :
    Holds C (pk (rowsL bt (L ++ [(v, bs)])) :: Γ) Φ w := by
  have hn : n = bs.length := by
    have := h.own.1.1
    subst hx
    simpa using this.symm
  subst hx
  subst hn
  have h1 := (h.perm (.swap _ _ _)).unpack
  have h2 : Holds C (rowsL bt (L ++ [(v, bs)]) ++ Γ) Φ w := by
    rw [rowsL_append, List.append_assoc]
    exact h1
  exact h2.pack
theorem Holds.nilL {w : World} (bt : TypeId) (h : Holds C Γ Φ w) : Holds C (pk (rowsL bt []) :: Γ) Φ w := Holds.pack h

theorem W_takeL {c : Code} {bt : TypeId} {L : List (Value × List UInt8)} {i : Nat} {p : Value × List UInt8} (hi : L[i]? = some p) (hp : Pick (pk (rowsL bt L)) Γ Γ1)
    (h : W C c fr (.row p.1 bt 1 p.2.length (p.2.map bcell) :: pk (rowsL bt (L.eraseIdx i)) :: Γ1) Φ Q) : W C c fr Γ Φ Q := fun a w ha hw => h a w ha ((pick_holds hp hw).takeL hi)
theorem WQ_putL {e : Exit} {bt : TypeId} {L : List (Value × List UInt8)} {i n : Nat} {v : Value} {xs : List Value} (bs : List UInt8) (hx : xs = bs.map bcell) (hp : Pick (.row v bt 1 n xs) Γ Γ1) (hp' : Pick (pk (rowsL bt (L.eraseIdx i))) Γ1 Γ2) (hi : i < L.length)
    (h : WQ C e fr (pk (rowsL bt (L.set i (v, bs))) :: Γ2) Φ Q) : WQ C e fr Γ Φ Q := fun a w ha hw => h a w ha (by
  subst hx
  have h1 := (pick_holds hp hw)
  have hn : n = bs.length := by simpa using h1.own.1.1.symm
  subst hn
  exact (h1.perm (List.Perm.cons _ hp')).putL hi)
theorem WL_putL {bt : TypeId} {L : List (Value × List UInt8)} {i n : Nat} {v : Value} {xs : List Value} (bs : List UInt8) (hx : xs = bs.map bcell) (hp : Pick (.row v bt 1 n xs) Γ Γ1) (hp' : Pick (pk (rowsL bt (L.eraseIdx i))) Γ1 Γ2) (hi : i < L.length)
    (h : WL C ops l fr (pk (rowsL bt (L.set i (v, bs))) :: Γ2) Φ Q) : WL C ops l fr Γ Φ Q := fun a w ha hw => h a w ha (by
  subst hx
  have h1 := (pick_holds hp hw)
  have hn : n = bs.length := by simpa using h1.own.1.1.symm
  subst hn
  exact (h1.perm (List.Perm.cons _ hp')).putL hi)
theorem WL_addL {bt : TypeId} {L : List (Value × List UInt8)} {n : Nat} {v : Value} {xs : List Value} (bs : List UInt8) (hx : xs = bs.map bcell) (hp : Pick (.row v bt 1 n xs) Γ Γ1) (hp' : Pick (pk (rowsL bt L)) Γ1 Γ2)
    (h : WL C ops l fr (pk (rowsL bt (L ++ [(v, bs)])) :: Γ2) Φ Q) : WL C ops l fr Γ Φ Q := fun a w ha hw => h a w ha (((pick_holds hp hw).perm (List.Perm.cons _ hp')).addL hx)
theorem WQ_addL {e : Exit} {bt : TypeId} {L : List (Value × List UInt8)} {n : Nat} {v : Value} {xs : List Value} (bs : List UInt8) (hx : xs = bs.map bcell) (hp : Pick (.row v bt 1 n xs) Γ Γ1) (hp' : Pick (pk (rowsL bt L)) Γ1 Γ2)
    (h : WQ C e fr (pk (rowsL bt (L ++ [(v, bs)])) :: Γ2) Φ Q) : WQ C e fr Γ Φ Q := fun a w ha hw => h a w ha (((pick_holds hp hw).perm (List.Perm.cons _ hp')).addL hx)
theorem W_nilL {c : Code} (bt : TypeId) (h : W C c fr (pk (rowsL bt []) :: Γ) Φ Q) : W C c fr Γ Φ Q := fun a w ha hw => h a w ha (hw.nilL bt)
theorem WL_nilL (bt : TypeId) (h : WL C ops l fr (pk (rowsL bt []) :: Γ) Φ Q) : WL C ops l fr Γ Φ Q := fun a w ha hw => h a w ha (hw.nilL bt)
theorem WQ_nilL {e : Exit} (bt : TypeId) (h : WQ C e fr (pk (rowsL bt []) :: Γ) Φ Q) : WQ C e fr Γ Φ Q := fun a w ha hw => h a w ha (hw.nilL bt)
end

-- ===== trees =====

/-- a list of elements as it stands in memory, each with its own list; the values that lead to the data and to the list are told too. -/
inductive T where
  | nil
  | cons (id ext : UInt8) (dv : Value) (data : List UInt8) (sv : Value) (subs next : T)

/-- the same without the values. -/
inductive Fo where
  | nil
  | cons (id ext : UInt8) (data : List UInt8) (subs next : Fo)
deriving DecidableEq

namespace T
def er : T → Fo
  | .nil => .nil
  | .cons id ext _ data _ subs next => .cons id ext data subs.er next.er
def len : T → Nat
  | .nil => 0
  | .cons _ _ _ _ _ _ next => next.len + 1
def drop : Nat → T → T
  | 0, t => t
  | _ + 1, .nil => .nil
  | k + 1, .cons _ _ _ _ _ _ next => drop k next
def app : T → T → T
  | .nil, u => u
  | .cons id ext dv data sv subs next, u => .cons id ext dv data sv subs (next.app u)
def head : T → List Value
  | .nil => []
  | .cons id ext dv _ sv _ _ => [bcell id, bcell ext, dv, sv]
def at_ (t : T) (i : Nat) : List Value := (t.drop i).head
def cells : T → List Value
  | .nil => []
  | .cons id ext dv _ sv _ next => bcell id :: bcell ext :: dv :: sv :: next.cells
def dls : T → List (Value × List UInt8)
  | .nil => []
  | .cons _ _ dv data _ _ next => (dv, data) :: next.dls

def tfP : T → World → (Nat → Prop) → Prop
  | .nil, _, _ => True
  | .cons _ _ dv data sv subs next, w, O => (By dv data).p w O ∧ (Rw 4 sv subs.len subs.at_).p w O ∧ subs.tfP w O ∧ next.tfP w O
theorem tfP.st : ∀ {t : T} {w w' : World} {O O' : Nat → Prop}, t.tfP w O → Mod O w w' → (∀ k, k < w.heap.size → O' k → O k) → t.tfP w' O'
  | .nil, _, _, _, _, _, _, _ => trivial
  | .cons _ _ _ _ _ _ _, _, _, _, _, h, hm, ho => ⟨SP.st _ h.1 hm ho, SP.st _ h.2.1 hm ho, tfP.st h.2.2.1 hm ho, tfP.st h.2.2.2 hm ho⟩
/-- what hangs on the elements lasts. -/
def tf (t : T) : SP := ⟨t.tfP, tfP.st⟩

def tsP : T → World → (Nat → Prop) → Prop
  | .nil, _, _ => True
  | .cons _ _ _ _ sv subs next, w, O => (Rw 4 sv subs.len subs.at_).p w O ∧ subs.tfP w O ∧ next.tsP w O
theorem tsP.st : ∀ {t : T} {w w' : World} {O O' : Nat → Prop}, t.tsP w O → Mod O w w' → (∀ k, k < w.heap.size → O' k → O k) → t.tsP w' O'
  | .nil, _, _, _, _, _, _, _ => trivial
  | .cons _ _ _ _ _ _ _, _, _, _, _, h, hm, ho => ⟨SP.st _ h.1 hm ho, tfP.st h.2.1 hm ho, tsP.st h.2.2 hm ho⟩
/-- the same of the elements' lists alone: the data are owned. -/
def ts (t : T) : SP := ⟨t.tsP, tsP.st⟩

theorem len_app : ∀ (t u : T), (t.app u).len = t.len + u.len
  | .nil, u => by simp [app, len]
  | .cons _ _ _ _ _ _ next, u => by simp only [app, len, len_app next u]; omega
theorem cells_app : ∀ (t u : T), (t.app u).cells = t.cells ++ u.cells
  | .nil, u => rfl
  | .cons _ _ _ _ _ _ next, u => by simp only [app, cells, cells_app next u, List.cons_append]
theorem dls_app : ∀ (t u : T), (t.app u).dls = t.dls ++ u.dls
  | .nil, u => rfl
  | .cons _ _ _ _ _ _ next, u => by simp only [app, dls, dls_app next u, List.cons_append]
theorem len_snoc (t : T) (id ext : UInt8) (dv : Value) (data : List UInt8) (sv : Value) (subs : T) : t.len + 1 = (t.app (.cons id ext dv data sv subs .nil)).len := by rw [len_app]; rfl
theorem cells_snoc (t : T) (id ext : UInt8) (dv : Value) (data : List UInt8) (sv : Value) (subs : T) : t.cells ++ [bcell id, bcell ext, dv, sv] = (t.app (.cons id ext dv data sv subs .nil)).cells := by rw [cells_app]; rfl
theorem dls_snoc (t : T) (id ext : UInt8) (dv : Value) (data : List UInt8) (sv : Value) (subs : T) : t.dls ++ [(dv, data)] = (t.app (.cons id ext dv data sv subs .nil)).dls := by rw [dls_app]; rfl
theorem cells_length : ∀ (t : T), t.cells.length = t.len * 4
  | .nil => rfl
  | .cons _ _ _ _ _ _ next => by simp only [cells, List.length_cons, cells_length next, len]; omega
theorem dls_length : ∀ (t : T), t.dls.length = t.len
  | .nil => rfl
  | .cons _ _ _ _ _ _ next => by simp only [dls, List.length_cons, dls_length next, len]
theorem cells_at : ∀ (t : T) (i : Nat), i < t.len → (t.cells.drop (i * 4)).take 4 = t.at_ i
  | .nil, _, h => by simp [len] at h
  | .cons _ _ _ _ _ _ next, 0, _ => rfl
  | .cons _ _ _ _ _ _ next, i + 1, h => by
    have h' : i < next.len := by simp only [len] at h; omega
    rw [show (i + 1) * 4 = i * 4 + 1 + 1 + 1 + 1 by omega]
    exact cells_at next i h'
theorem drop_len : ∀ (t : T) (k : Nat), k ≤ t.len → (t.drop k).len = t.len - k
  | t, 0, _ => rfl
  | .nil, k + 1, h => by simp [len] at h
  | .cons _ _ _ _ _ _ next, k + 1, h => by
    simp only [len] at h
    simp only [drop, len, drop_len next k (by omega)]
    omega
theorem drop_nil : ∀ (k : Nat), drop k .nil = .nil
  | 0 => rfl
  | _ + 1 => rfl
theorem drop_next : ∀ {t : T} {k : Nat} {id ext : UInt8} {dv : Value} {data : List UInt8} {sv : Value} {subs next : T}, t.drop k = .cons id ext dv data sv subs next → t.drop (k + 1) = next
  | .nil, k, _, _, _, _, _, _, _, h => by rw [drop_nil] at h; cases h
  | .cons _ _ _ _ _ _ _, 0, _, _, _, _, _, _, _, h => by
    simp only [drop, cons.injEq] at h
    simp only [drop]
    exact h.2.2.2.2.2.2
  | .cons _ _ _ _ _ _ n, k + 1, _, _, _, _, _, _, _, h => by
    show drop (k + 1) n = _
    exact drop_next (t := n) h
/-- the k-th element. -/
theorem get {t : T} {k : Nat} (h : k < t.len) : ∃ id ext dv data sv subs next, t.drop k = .cons id ext dv data sv subs next := by
  cases e : t.drop k with
  | nil =>
    have := drop_len t k (by omega)
    rw [e] at this
    simp only [len] at this
    omega
  | cons id ext dv data sv subs next => exact ⟨_, _, _, _, _, _, _, rfl⟩
theorem at_cons {t : T} {k : Nat} {id ext : UInt8} {dv : Value} {data : List UInt8} {sv : Value} {subs next : T} (h : t.drop k = .cons id ext dv data sv subs next) : t.at_ k = [bcell id, bcell ext, dv, sv] := by
  rw [at_, h]
  rfl
theorem dls_get : ∀ {t : T} {k : Nat} {id ext : UInt8} {dv : Value} {data : List UInt8} {sv : Value} {subs next : T}, t.drop k = .cons id ext dv data sv subs next → t.dls[k]? = some (dv, data)
  | .nil, k, _, _, _, _, _, _, _, h => by rw [drop_nil] at h; cases h
  | .cons _ _ _ _ _ _ _, 0, _, _, _, _, _, _, _, h => by
    simp only [drop, cons.injEq] at h
    simp [dls, h]
  | .cons _ _ _ _ _ _ n, k + 1, _, _, _, _, _, _, _, h => by
    rw [dls, List.getElem?_cons_succ]
    exact dls_get (t := n) h

def size : T → Nat
  | .nil => 0
  | .cons _ _ _ _ _ subs next => subs.size + next.size + 1
theorem drop_size : ∀ {t : T} {k : Nat} {id ext : UInt8} {dv : Value} {data : List UInt8} {sv : Value} {subs next : T}, t.drop k = .cons id ext dv data sv subs next → subs.size < t.size
  | .nil, k, _, _, _, _, _, _, _, h => by rw [drop_nil] at h; cases h
  | .cons _ _ _ _ _ _ _, 0, _, _, _, _, _, _, _, h => by
    simp only [drop, cons.injEq] at h
    obtain ⟨_, _, _, _, _, rfl, rfl⟩ := h
    simp only [size]
    omega
  | .cons _ _ _ _ _ _ n, k + 1, _, _, _, _, _, _, _, h => by
    have := drop_size (t := n) h
    simp only [size]
    omega

theorem tf_at : ∀ {t : T} {k : Nat} {id ext : UInt8} {dv : Value} {data : List UInt8} {sv : Value} {subs next : T} {w : World} {O : Nat → Prop}, t.drop k = .cons id ext dv data sv subs next → t.tfP w O →
    (By dv data).p w O ∧ (Rw 4 sv subs.len subs.at_).p w O ∧ subs.tfP w O
  | .nil, k, _, _, _, _, _, _, _, _, _, h, _ => by rw [drop_nil] at h; cases h
  | .cons _ _ _ _ _ _ _, 0, _, _, _, _, _, _, _, _, _, h, hp => by
    simp only [drop, cons.injEq] at h
    obtain ⟨rfl, rfl, rfl, rfl, rfl, rfl, rfl⟩ := h
    exact ⟨hp.1, hp.2.1, hp.2.2.1⟩
  | .cons _ _ _ _ _ _ n, k + 1, _, _, _, _, _, _, _, _, _, h, hp => tf_at (t := n) h hp.2.2.2
theorem ts_at : ∀ {t : T} {k : Nat} {id ext : UInt8} {dv : Value} {data : List UInt8} {sv : Value} {subs next : T} {w : World} {O : Nat → Prop}, t.drop k = .cons id ext dv data sv subs next → t.tsP w O →
    (Rw 4 sv subs.len subs.at_).p w O ∧ subs.tfP w O
  | .nil, k, _, _, _, _, _, _, _, _, _, h, _ => by rw [drop_nil] at h; cases h
  | .cons _ _ _ _ _ _ _, 0, _, _, _, _, _, _, _, _, _, h, hp => by
    simp only [drop, cons.injEq] at h
    obtain ⟨rfl, rfl, rfl, rfl, rfl, rfl, rfl⟩ := h
    exact ⟨hp.1, hp.2.1⟩
  | .cons _ _ _ _ _ _ n, k + 1, _, _, _, _, _, _, _, _, _, h, hp => ts_at (t := n) h hp.2.2
theorem tf_app : ∀ {t u : T} {w : World} {O : Nat → Prop}, t.tfP w O → u.tfP w O → (t.app u).tfP w O
  | .nil, _, _, _, _, h => h
  | .cons _ _ _ _ _ _ _, _, _, _, h, k => ⟨h.1, h.2.1, h.2.2.1, tf_app h.2.2.2 k⟩
theorem ts_app : ∀ {t u : T} {w : World} {O : Nat → Prop}, t.tsP w O → u.tsP w O → (t.app u).tsP w O
  | .nil, _, _, _, _, h => h
  | .cons _ _ _ _ _ _ _, _, _, _, h, k => ⟨h.1, h.2.1, ts_app h.2.2 k⟩
theorem tf_of_ts : ∀ {bt : TypeId} {t : T} {w : World} {O : Nat → Prop}, Own (rowsL bt t.dls) w → (∀ k, fpL (rowsL bt t.dls) k → ¬ O k) → t.tsP w O → t.tfP w O
  | _, .nil, _, _, _, _, _ => trivial
  | _, .cons _ _ _ _ _ _ _, _, _, ho, hd, h => ⟨slP_of_row ho.1 fun k hk => hd k (fpL_cons.2 (.inl hk)), h.1, h.2.1, tf_of_ts ho.2.2 (fun k hk => hd k (fpL_cons.2 (.inr hk))) h.2.2⟩
end T

section
variable {C : Ctx} {fr : Fr} {Γ Γ1 : List OA} {Φ : List SP}
theorem ent_tree {t : T} {k : Nat} {id ext : UInt8} {dv : Value} {data : List UInt8} {sv : Value} {subs next : T} (hm : t.tf ∈ Φ) (h : t.drop k = .cons id ext dv data sv subs next) :
    Ent Φ (By dv data) ∧ Ent Φ (Rw 4 sv subs.len subs.at_) ∧ Ent Φ subs.tf := ⟨fun _ _ hw => (T.tf_at h (hw _ hm)).1, fun _ _ hw => (T.tf_at h (hw _ hm)).2.1, fun _ _ hw => (T.tf_at h (hw _ hm)).2.2⟩
theorem ent_trees {t : T} {k : Nat} {id ext : UInt8} {dv : Value} {data : List UInt8} {sv : Value} {subs next : T} (hm : t.ts ∈ Φ) (h : t.drop k = .cons id ext dv data sv subs next) :
    Ent Φ (Rw 4 sv subs.len subs.at_) ∧ Ent Φ subs.tf := ⟨fun _ _ hw => (T.ts_at h (hw _ hm)).1, fun _ _ hw => (T.ts_at h (hw _ hm)).2⟩
theorem ent_slT {v : Value} {t : T} (hm : Sl 4 v t.len t.cells ∈ Φ) : Ent Φ (Rw 4 v t.len t.at_) := fun w O h => by
  have h1 := ent_slRw hm w O h
  exact rwP_congr' h1 fun i hi => T.cells_at t i hi
where
  rwP_congr' {size : Nat} {v : Value} {n : Nat} {f g : Nat → List Value} {w : World} {O : Nat → Prop} (h : rwP size v n f w O) (e : ∀ i, i < n → f i = g i) : rwP size v n g w O := by
    obtain ⟨A, c, hv, h1, h2, hr⟩ := h
    refine ⟨A, c, hv, h1, h2, fun hn => ?_⟩
    obtain ⟨ad, hA, hlt, hO, hcell⟩ := hr hn
    exact ⟨ad, hA, hlt, hO, fun i hi j u hu => hcell i hi j u (by rw [e i hi]; exact hu)⟩
theorem ent_tsapp {t u : T} (h1 : t.ts ∈ Φ) (h2 : u.ts ∈ Φ) : Ent Φ (t.app u).ts := fun _ _ h => T.ts_app (h _ h1) (h _ h2)
theorem ent_ts1 {id ext : UInt8} {dv : Value} {data : List UInt8} {sv : Value} {subs : T} (h1 : Rw 4 sv subs.len subs.at_ ∈ Φ) (h2 : subs.tf ∈ Φ) : Ent Φ (T.cons id ext dv data sv subs .nil).ts := fun _ _ h => ⟨h _ h1, h _ h2, trivial⟩
theorem ent_tfapp {t u : T} (h1 : t.tf ∈ Φ) (h2 : u.tf ∈ Φ) : Ent Φ (t.app u).tf := fun _ _ h => T.tf_app (h _ h1) (h _ h2)
theorem ent_tf1 {id ext : UInt8} {dv : Value} {data : List UInt8} {sv : Value} {subs : T} (h0 : By dv data ∈ Φ) (h1 : Rw 4 sv subs.len subs.at_ ∈ Φ) (h2 : subs.tf ∈ Φ) : Ent Φ (T.cons id ext dv data sv subs .nil).tf := fun _ _ h => ⟨h _ h0, h _ h1, h _ h2, trivial⟩
theorem ent_tf0 : Ent Φ T.nil.tf := fun _ _ _ => trivial
theorem ent_ts0 : Ent Φ T.nil.ts := fun _ _ _ => trivial
/-- the data let go with the tree's lists. -/
theorem Holds.tree {bt : TypeId} {t : T} {w : World} (h : Holds C (pk (rowsL bt t.dls) :: Γ) Φ w) (hm : t.ts ∈ Φ) : Holds C Γ (t.tf :: Φ) w := by
  have hd : ∀ k, fpL (rowsL bt t.dls) k → ¬ avo C.O0 Γ k := fun k hk hn => by
    rcases hn with hn | hn
    · have h1 := h.o0 k hn
      rcases h.ofp k (fpL_cons.2 (.inl hk)) with h2 | h2
      · exact h1.2 h2
      · omega
    · exact h.own.2.1 k hk hn
  exact h.drop.cons (T.tf_of_ts h.own.1 hd (h.drop.sp _ hm))
theorem W_tree {c : Code} {Q : Exit → Act → World → Prop} {bt : TypeId} {t : T} (hp : Pick (pk (rowsL bt t.dls)) Γ Γ1) (hm : t.ts ∈ Φ) (h : W C c fr Γ1 (t.tf :: Φ) Q) : W C c fr Γ Φ Q := fun a w ha hw => h a w ha ((pick_holds hp hw).tree hm)
theorem WL_tree {ops : Array Oper} {l : List Oper} {Q : Exit → Act → World → Prop} {bt : TypeId} {t : T} (hp : Pick (pk (rowsL bt t.dls)) Γ Γ1) (hm : t.ts ∈ Φ) (h : WL C ops l fr Γ1 (t.tf :: Φ) Q) : WL C ops l fr Γ Φ Q := fun a w ha hw => h a w ha ((pick_holds hp hw).tree hm)
theorem WQ_tree {e : Exit} {Q : Exit → Act → World → Prop} {bt : TypeId} {t : T} (hp : Pick (pk (rowsL bt t.dls)) Γ Γ1) (hm : t.ts ∈ Φ) (h : WQ C e fr Γ1 (t.tf :: Φ) Q) : WQ C e fr Γ Φ Q := fun a w ha hw => h a w ha ((pick_holds hp hw).tree hm)
/-- a tree lent: its data are owned. -/
theorem Bor.tree {bt : TypeId} {t : T} (hm : t.ts ∈ Φ) {Φb : List SP} (hb : ∀ ψ ∈ Φb, ψ = t.tf ∨ ψ ∈ Φ) : Bor [pk (rowsL bt t.dls)] Φ Φb := fun w O ho hd hΦ ψ hψ => by
  rcases hb ψ hψ with rfl | h
  · exact T.tf_of_ts ho.1 (fun k hk => hd k (fpL_cons.2 (.inl hk))) (hΦ _ hm)
  · exact hΦ ψ h
end
theorem rw_le {C : Ctx} {Γ : List OA} {Φ : List SP} {size n : Nat} {v : Value} {f : Nat → List Value} (hm : Rw size v n f ∈ Φ) : ∀ w, Holds C Γ Φ w → n ≤ 9223372036854775807 := fun w h => by
  obtain ⟨A, c, _, h1, h2, _⟩ := h.sp _ hm
  have : maxLen = 9223372036854775807 := rfl
  omega
theorem by_le {C : Ctx} {Γ : List OA} {Φ : List SP} {v : Value} {bs : List UInt8} (hm : By v bs ∈ Φ) : ∀ w, Holds C Γ Φ w → bs.length ≤ 9223372036854775807 := fun w h => by
  obtain ⟨_, A, c, _, h1, h2, _⟩ := (show slP 1 v bs.length (bs.map bcell) w _ from h.sp _ hm)
  have : maxLen = 9223372036854775807 := rfl
  omega
theorem row_le {C : Ctx} {Γ Γ' : List OA} {Φ : List SP} {size n : Nat} {v : Value} {t : TypeId} {xs : List Value} (hp : Pick (.row v t size n xs) Γ Γ') : ∀ w, Holds C Γ Φ w → n ≤ 9223372036854775807 := fun w h => by
  obtain ⟨A, c, _, h1, h2, _⟩ := row_nil_or (pick_holds hp h).own.1
  have : maxLen = 9223372036854775807 := rfl
  omega
end Go.Hs

/-
  Elements of own rows of structs, boxes let go, own rows cut and cleared, max. No program is named here.
-/
namespace Go.Hs
open Go Go.RowKit

/-- a truth kept out of the way of reckoning tactics. -/
structure Kp (p : Prop) : Prop where
  out : p

theorem row_cell {w : World} {v : Value} {t : TypeId} {size n : Nat} {xs : List Value} (h : w.ownsRow 0 t size v n xs) {k : Nat} {u : Value} (hk : xs[k]? = some u) :
    ∃ b c cur, v = .slice (some ⟨b, 0, none⟩) n c ∧ w.heap[b]? = some (.cells cur t (0, 0)) ∧ n ≤ c ∧ cur.size = c * size ∧ cur.toList.take (n * size) = xs ∧ w.cell? ⟨b, k, none⟩ = some u := by
  obtain ⟨h1, h2⟩ := h
  have hlt := (List.getElem?_eq_some_iff.1 hk).1
  rcases h2 with ⟨rfl, rfl⟩ | ⟨g, cap, cur, rfl, _, hh, hc, hm, hs, ht⟩
  · omega
  · refine ⟨g, cap, cur, rfl, hh, hc, hs, ht, ?_⟩
    simp only [World.cell?, hh]
    rw [← ht, List.getElem?_take_of_lt (by omega)] at hk
    simpa using hk

theorem putN_mk : ∀ (off : Nat) (us cs : List Value), off + us.length ≤ cs.length → putN off us cs = some (cs.take off ++ us ++ cs.drop (off + us.length)) := by
  intro off
  induction off with
  | zero =>
    intro us
    induction us with
    | nil => intro cs _; rw [putN_nil]; simp
    | cons u us ih =>
      intro cs hcs
      cases cs with
      | nil => simp at hcs
      | cons c cs =>
        have ih' := ih cs (by simp at hcs; omega)
        simp only [putN, ih']
        simp
  | succ off ih =>
    intro us cs hcs
    cases cs with
    | nil => simp at hcs
    | cons c cs =>
      have ih' := ih us cs (by simp at hcs; omega)
      simp only [putN, ih']
      simp [Nat.add_right_comm]

section
variable {C : Ctx} {ops : Array Oper} {l : List Oper} {fr : Fr} {Γ Γ' Γ1 : List OA} {Φ : List SP} {Q : Exit → Act → World → Prop}
  {d : Nat} {ty : TypeId} {pos : String} {aft : Array Edge} {g : Option (Nat × Bool)}

/-- an 'if' stands next. -/
theorem W_isIf {id : Nat} {o : Array Oper} {bb : Bool} {c : Operand} {x y z : Code} (h : W C (.seq (.seq (.region id o bb) (.cond c x y)) z) fr Γ Φ Q) : W C (.seq (.seq (.region id o bb) (.cond c x y)) z) fr Γ Φ Q := h

theorem R_max2 {x y : Operand} {kd : IntKind} {a b m : Int} {ts : Array TypeId} (hx : evO fr x = some (.int kd a)) (hy : evO fr y = some (.int kd b))
    (hr : (if b > a then b else a) = m) : Runs C fr Γ Φ ⟨some d, .call { callee := .builtin .max, args := #[x, y], argTypes := ts }, ty, pos, aft, g⟩ (.int kd m) :=
  Runs.pure fun a' w ha _ => by
    subst hr
    simp [execOp, resolve, invoke, builtin, evO_sound ha hx, evO_sound ha hy, Builtin.max_, Builtin.max2]
theorem R_min2 {x y : Operand} {kd : IntKind} {a b m : Int} {ts : Array TypeId} (hx : evO fr x = some (.int kd a)) (hy : evO fr y = some (.int kd b))
    (hr : (if b < a then b else a) = m) : Runs C fr Γ Φ ⟨some d, .call { callee := .builtin .min, args := #[x, y], argTypes := ts }, ty, pos, aft, g⟩ (.int kd m) :=
  Runs.pure fun a' w ha _ => by
    subst hr
    simp [execOp, resolve, invoke, builtin, evO_sound ha hx, evO_sound ha hy, Builtin.min_, Builtin.min2]

theorem R_addS {x y : Operand} {t t' : TypeId} {a b : List UInt8} (hx : evO fr x = some (strV a)) (hy : evO fr y = some (strV b)) (hl : a.length + b.length ≤ 9223372036854775807) :
    Runs C fr Γ Φ ⟨some d, .binOp .add t x y t', ty, pos, aft, g⟩ (strV (a ++ b)) :=
  Runs.pure fun a' w ha _ => by
    have e1 := evO_sound ha hx
    have e2 := evO_sound ha hy
    simp only [strV] at e1 e2
    have hb : (⟨a.toArray⟩ : ByteArray) ++ ⟨b.toArray⟩ = ⟨(a ++ b).toArray⟩ := by
      apply ByteArray.ext
      rw [ByteArray.data_append]
      simp
    have hn : ¬ ((((⟨a.toArray⟩ : ByteArray).size + (⟨b.toArray⟩ : ByteArray).size : Nat) : Int) > IntKind.i64.max) := by
      have e3 : (⟨a.toArray⟩ : ByteArray).size = a.length := by simp [ByteArray.size]
      have e4 : (⟨b.toArray⟩ : ByteArray).size = b.length := by simp [ByteArray.size]
      rw [e3, e4]
      have : IntKind.i64.max = 9223372036854775807 := rfl
      omega
    have hg : (eqGuard .add t x y (.string ⟨a.toArray⟩) (.string ⟨b.toArray⟩)).run C.P w = .ok () w := by simp [eqGuard]
    simp only [execOp, e1, e2, hg, binOp, Op.stringOp, Sem.run_bind, if_neg hn, Sem.run_pure, Result.andThen_ok, hb, strV]

/-- a list laid open: all its cells. -/
theorem ent_rwSl {v : Value} {size n : Nat} {f : Nat → List Value} {xs : List Value} (h0 : 0 < size) (hl : xs.length = n * size) (hf : ∀ i, i < n → (xs.drop (i * size)).take size = f i) (hm : Rw size v n f ∈ Φ) : Ent Φ (Sl size v n xs) := fun w O h => by
  obtain ⟨A, c, hv, h1, h2, hr⟩ := h _ hm
  refine ⟨hl, A, c, hv, h1, h2, fun hn => ?_⟩
  obtain ⟨ad, hA, hlt, hO, hcell⟩ := hr hn
  refine ⟨ad, hA, hlt, hO, fun j u hu => ?_⟩
  have hj : j < n * size := by rw [← hl]; exact (List.getElem?_eq_some_iff.1 hu).1
  have hi : j / size < n := (Nat.div_lt_iff_lt_mul h0).2 hj
  have hj2 : j / size * size + j % size = j := by rw [Nat.mul_comm]; exact Nat.div_add_mod j size
  have h3 := hcell (j / size) hi (j % size) u (by
    rw [← hf _ hi, List.getElem?_take_of_lt (Nat.mod_lt _ h0), List.getElem?_drop, hj2]
    exact hu)
  rwa [hj2] at h3

theorem Ones.append {us vs : List Value} (h : Ones C Γ Φ us) (k : Ones C Γ Φ vs) : Ones C Γ Φ (us ++ vs) := fun u hu => (List.mem_append.1 hu).elim (h u) (k u)
theorem ones_tree {t : T} (hm : t.tf ∈ Φ) : Ones C Γ Φ t.cells := by
  have key : ∀ (t : T) (O : Nat → Prop) (w : World), t.tfP w O → ∀ u ∈ t.cells, u.oneCell' = true := by
    intro t O w
    induction t with
    | nil => intro _ u hu; cases hu
    | cons id ext dv data sv subs next _ ih =>
      intro h u hu
      simp only [T.cells, List.mem_cons] at hu
      rcases hu with rfl | rfl | rfl | rfl | hu
      · rfl
      · rfl
      · obtain ⟨_, A, c, rfl, _⟩ := (show slP 1 u data.length (data.map bcell) w O from h.1)
        rfl
      · obtain ⟨A, c, rfl, _⟩ := (show rwP 4 u subs.len subs.at_ w O from h.2.1)
        rfl
      · exact ih h.2.2.2 u hu
  exact fun u hu R w hw => key t _ w (hw.sp _ hm) u hu
theorem ent_rwT {v : Value} {t : T} (hm : Rw 4 v t.len t.at_ ∈ Φ) : Ent Φ (Sl 4 v t.len t.cells) := ent_rwSl (by decide) (T.cells_length t) (fun i hi => T.cells_at t i hi) hm

/-- append to an own row, of lasting data whose cells are each one. -/
theorem E_appendO {t e : TypeId} {x y : Operand} {v u : Value} {size n m nm : Nat} {xs news all : List Value} {i : TypeInfo} {z : Value}
    (hx : evO fr x = some v) (hy : evO fr y = some u) (hp : Pick (.row v e size n xs) Γ Γ') (hm : Sl size u m news ∈ Φ)
    (ht : C.P.underlying t = some (.slice e)) (hi : C.P.info? e = some i) (hz : i.zero = some z) (hsize : i.size = size) (hzs : z.cells.size = size) (hsz : 0 < size) (h1 : Ones C Γ Φ news)
    (hby : i.bytes ≤ 128) (hb : n + m ≤ 1099511627776) (hnm : n + m = nm) (hall : xs ++ news = all) :
    Effs C fr Γ Φ ⟨some d, .call { callee := .builtin .append, args := #[x, y], argTypes := #[t, t] }, ty, pos, aft, g⟩ (X := Value) (fun _ => True) (fun q => q) (fun v' => .row v' e size nm all :: Γ') (fun _ => Φ) := by
  refine ⟨fun _ => AllIn.refl _, fun R a w ha hw => ?_⟩
  exact (E_append hx hy hp hm ht hi hz hsize hzs hsz (fun u hu => h1 u hu R w hw) hby hb hnm hall).2 R a w ha hw

/-- a field's address in an element of an own row. -/
theorem R_fieldRow {t ft rt : TypeId} {fs : Array Field} {x : Operand} {v : Value} {i j n fo bo size sz : Nat} {xs : List Value} {nm tag pk : String} {emb : Bool} (hx : evO fr x = some (idxV size i v))
    (hp : Pick (.row v rt size n xs) Γ Γ') (hi : i < n)
    (ht : C.P.underlying t = some (.struct fs)) (hf : fs[j]? = some ⟨nm, ft, fo, emb, tag, pk, bo⟩) (hs : ∀ w, (sizeOf ft).run C.P w = .ok sz w) (hn : Nat.beq sz 0 = false) :
    Runs C fr Γ Φ ⟨some d, .fieldAddr t x j, ty, pos, aft, g⟩ (fldV fo (idxV size i v)) :=
  Runs.pure fun a w ha hw => by
    obtain ⟨hl, h2⟩ := (pick_holds hp hw).own.1
    rcases h2 with ⟨h2, _⟩ | ⟨b, cap, cur, rfl, _, hb, hc, hm, hsz, htk⟩
    · omega
    · have h := run_fieldAt (P := C.P) (a := (⟨b, 0, none⟩ : Addr).add (i * size)) ht hf hs hn w
      simp only [execOp, evO_sound ha hx, idxV, Sem.run_bind, h, Result.andThen_ok, Sem.run_pure, fldV]

theorem R_loadRowF {t rt : TypeId} {x : Operand} {v u : Value} {n i off size : Nat} {xs : List Value} (hx : evO fr x = some (fldV off (idxV size i v))) (hp : Pick (.row v rt size n xs) Γ Γ') (hagg : ∀ w, (isAgg t).run C.P w = .ok false w)
    (hc : xs[i * size + off]? = some u) : Runs C fr Γ Φ ⟨some d, .load t x, ty, pos, aft, g⟩ u :=
  Runs.pure fun a w ha hw => by
    obtain ⟨b, c, cur, rfl, hb, _, _, _, h0⟩ := row_cell (pick_holds hp hw).own.1 hc
    have h0 : w.cell? (((⟨b, 0, none⟩ : Addr).add (i * size)).add off) = some u := by
      rw [Addr.add_lit, Addr.add_lit, Nat.zero_add]
      exact h0
    simp [execOp, evO_sound ha hx, idxV, fldV, Instr.loadAt, Instr.sureAddr, run_loadVar_one hagg h0]

theorem R_loadRowN {t rt : TypeId} {x : Operand} {v : Value} {n i size : Nat} {xs us : List Value} (hx : evO fr x = some (idxV size i v)) (hp : Pick (.row v rt size n xs) Γ Γ') (hagg : ∀ w, (isAgg t).run C.P w = .ok true w)
    (hs : ∀ w, (sizeOf t).run C.P w = .ok us.length w) (hi : i < n) (hc : ∀ j u, us[j]? = some u → xs[i * size + j]? = some u) : Runs C fr Γ Φ ⟨some d, .load t x, ty, pos, aft, g⟩ (.agg us.toArray) :=
  Runs.pure fun a w ha hw => by
    obtain ⟨hl, h2⟩ := (pick_holds hp hw).own.1
    rcases h2 with ⟨h2, _⟩ | ⟨b, cap, cur, rfl, _, hb, hcc, hm, hsz, htk⟩
    · omega
    · have hcell : ∀ j u, us[j]? = some u → w.cell? (((⟨b, 0, none⟩ : Addr).add (i * size)).add j) = some u := fun j u hu => by
        obtain ⟨b', c, cur', e, _, _, _, _, h0⟩ := row_cell (pick_holds hp hw).own.1 (hc j u hu)
        injection e with e
        injection e with e
        injection e with e
        subst e
        rw [Addr.add_lit, Addr.add_lit, Nat.zero_add]
        exact h0
      simp [execOp, evO_sound ha hx, idxV, Instr.loadAt, Instr.sureAddr, run_loadVar_agg hagg hs hcell]

/-- a store into an own row, at whatever place. -/
theorem E_storeRowK {t rt : TypeId} {x y : Operand} {v z : Value} {n i off size k : Nat} {xs us ds : List Value} (hx : evO fr x = some (fldV off (idxV size i v))) (hy : evO fr y = some z) (hp : Pick (.row v rt size n xs) Γ Γ')
    (hv : CellsE C Γ Φ z us) (h1 : Ones C Γ Φ us) (hs : ∀ w, (sizeOf t).run C.P w = .ok us.length w) (hi : i < n) (hk : i * size + off = k) (hn : putN k us xs = some ds) :
    Effs C fr Γ Φ ⟨none, .store t x y, ty, pos, aft, g⟩ (X := Unit) (fun _ => True) (fun _ => undef) (fun _ => .row v rt size n ds :: Γ') (fun _ => Φ) := by
  subst hk
  refine ⟨fun _ => AllIn.refl _, fun R a w ha hw => ?_⟩
  have hv := hv R w hw
  have h1 : ∀ u ∈ us, u.oneCell' = true := fun u hu => h1 u hu R w hw
  have hw' := pick_holds (pick_app hp R) hw
  obtain ⟨hl, h2⟩ := hw'.own.1
  rcases h2 with ⟨h2, _⟩ | ⟨b, cap, cur, rfl, _, hb, hcc, hm, hsz, htk⟩
  · omega
  · obtain ⟨hlen, hds⟩ := putN_eq hn
    have hle : xs.length ≤ cur.size := by rw [← htk]; simp; omega
    have hb' : w.heap[b]? = some (.cells cur.toList.toArray rt (0, 0)) := by simpa using hb
    have hpp := putN_mk (i * size + off) us cur.toList (by simp; omega)
    have hst := run_storeVar_own (P := C.P) (w := w) (t := t) (us := us) (v := z) hb' hs hv h1 hpp
    have hna : (off + i * size) = i * size + off := by omega
    refine .skip (w' := w.setRow b (cur.toList.take (i * size + off) ++ us ++ cur.toList.drop (i * size + off + us.length)).toArray) ?_ ⟨(), trivial, rfl, setRow_row hw' hb ?_ ?_⟩
    · simp only [execOp, evO_sound ha hx, evO_sound ha hy, fldV, idxV, Addr.add_lit, Nat.zero_add]
      simp [Instr.storeAt, Instr.sureAddr, hst]
    · simp
      omega
    · rw [hds, ← htk]
      apply List.ext_getElem?
      intro j
      have hcs : n * size ≤ cur.size := by rw [hsz]; exact Nat.mul_le_mul_right _ hcc
      simp only [List.getElem?_append, List.getElem?_take, List.getElem?_drop, List.length_append, List.length_take, Array.length_toList]
      rw [Nat.min_eq_left (show i * size + off ≤ cur.size by omega), Nat.min_eq_left hcs, Nat.min_eq_left (show i * size + off ≤ n * size by omega)]
      by_cases c1 : j < i * size + off
      · rw [if_pos (show j < n * size by omega), if_pos (show j < i * size + off + us.length by omega), if_pos c1, if_pos c1, if_pos (show j < i * size + off + us.length by omega), if_pos c1, if_pos c1, if_pos (show j < n * size by omega)]
      · by_cases c2 : j < i * size + off + us.length
        · rw [if_pos (show j < n * size by omega), if_pos c2, if_neg c1, if_pos c2, if_neg c1]
        · by_cases c3 : j < n * size
          · rw [if_pos c3, if_neg c2, if_neg c2, if_pos (by omega)]
          · rw [if_neg c3, if_neg c2, if_neg (by omega)]

theorem E_storeRowN {t rt : TypeId} {x y : Operand} {v z : Value} {n i size k : Nat} {xs us ds : List Value} (hx : evO fr x = some (idxV size i v)) (hy : evO fr y = some z) (hp : Pick (.row v rt size n xs) Γ Γ')
    (hv : CellsE C Γ Φ z us) (h1 : Ones C Γ Φ us) (hs : ∀ w, (sizeOf t).run C.P w = .ok us.length w) (hi : i < n) (hk : i * size = k) (hn : putN k us xs = some ds) :
    Effs C fr Γ Φ ⟨none, .store t x y, ty, pos, aft, g⟩ (X := Unit) (fun _ => True) (fun _ => undef) (fun _ => .row v rt size n ds :: Γ') (fun _ => Φ) := by
  have key : ∀ (O : List OA) (w : World), Holds C (Γ ++ O) Φ w → fldV 0 (idxV size i v) = idxV size i v := fun O w hw => by
    obtain ⟨hl, h2⟩ := (pick_holds (pick_app hp O) hw).own.1
    rcases h2 with ⟨h2, _⟩ | ⟨b, cap, cur, rfl, _, hb, hcc, hm, hsz, htk⟩
    · omega
    · simp only [idxV, fldV, Addr.add_lit, Nat.add_zero]
  refine ⟨fun _ => AllIn.refl _, fun R a w ha hw => ?_⟩
  have hx' : evO fr x = some (fldV 0 (idxV size i v)) := by rw [key R w hw]; exact hx
  exact (E_storeRowK hx' hy hp hv h1 hs hi (by rw [Nat.add_zero]; exact hk) hn).2 R a w ha hw

/-- an own block, let go. -/
theorem Holds.letgoK {b : Nat} {t : TypeId} {cs : List Value} {w : World} (h : Holds C (.blk b t cs :: Γ) Φ w) : Holds C Γ (Pt (.pointer (some ⟨b, 0, none⟩)) cs :: Φ) w := by
  have ho := h.own
  refine h.drop.cons ⟨⟨b, 0, none⟩, rfl, OA.lt ho.1 rfl, fun hO => ?_, fun j u hu => ?_⟩
  · rcases hO with hO | hO
    · have h1 := h.o0 b hO
      rcases h.ofp b (fpL_cons.2 (.inl rfl)) with h2 | h2
      · exact h1.2 h2
      · have := h1.1
        omega
    · exact ho.2.1 b rfl hO
  · rw [Addr.add_lit, Nat.zero_add, blk_cell ho.1]
    exact hu
theorem W_letgoK {c : Code} {b : Nat} {t : TypeId} {cs : List Value} (hp : Pick (.blk b t cs) Γ Γ1) (h : W C c fr Γ1 (Pt (.pointer (some ⟨b, 0, none⟩)) cs :: Φ) Q) : W C c fr Γ Φ Q := fun a w ha hw => h a w ha (pick_holds hp hw).letgoK
theorem WL_letgoK {b : Nat} {t : TypeId} {cs : List Value} (hp : Pick (.blk b t cs) Γ Γ1) (h : WL C ops l fr Γ1 (Pt (.pointer (some ⟨b, 0, none⟩)) cs :: Φ) Q) : WL C ops l fr Γ Φ Q := fun a w ha hw => h a w ha (pick_holds hp hw).letgoK
theorem WQ_letgoK {e : Exit} {b : Nat} {t : TypeId} {cs : List Value} (hp : Pick (.blk b t cs) Γ Γ1) (h : WQ C e fr Γ1 (Pt (.pointer (some ⟨b, 0, none⟩)) cs :: Φ) Q) : WQ C e fr Γ Φ Q := fun a w ha hw => h a w ha (pick_holds hp hw).letgoK

/-- the front of an own row. -/
theorem E_cutRow {t e rt : TypeId} {x y : Operand} {v : Value} {size n j : Nat} {kd : IntKind} {ii : Int} {xs us : List Value} (hx : evO fr x = some v) (hy : evO fr y = some (.int kd ii)) (hp : Pick (.row v rt size n xs) Γ Γ')
    (ht : C.P.underlying t = some (.slice e)) (hs : ∀ w, (sizeOf e).run C.P w = .ok size w) (hii : ii = (j : Int)) (hj : j ≤ n) (hu : xs.take (j * size) = us) :
    Effs C fr Γ Φ ⟨some d, .slice t x none (some y) none, ty, pos, aft, g⟩ (X := Unit) (fun _ => True) (fun _ => cutV size 0 j v) (fun _ => .row (cutV size 0 j v) rt size j us :: Γ') (fun _ => Φ) := by
  subst hii
  subst hu
  refine ⟨fun _ => AllIn.refl _, fun R a w ha hw => ?_⟩
  have hw' := pick_holds (pick_app hp R) hw
  obtain ⟨hl, h2⟩ := hw'.own.1
  have hrun : ∀ A c, v = .slice A n c → n ≤ c → (execOp a.eval ⟨some d, .slice t x none (some y) none, ty, pos, aft, g⟩).run C.P w = .ok (.value (cutV size 0 j v)) w := fun A c hv hc => by
    subst hv
    have h := run_slice_data_h (P := C.P) (w := w) (n := n) (A := A) (c := c) (kh := kd) ht hs (show j ≤ c by omega)
    simp [execOp, evO_sound ha hx, evO_sound ha hy, h, cutV]
  rcases h2 with ⟨rfl, rfl⟩ | ⟨b, cap, cur, rfl, _, hb, hcc, hm, hsz, htk⟩
  · obtain rfl : j = 0 := by omega
    refine .val (hrun none 0 rfl (Nat.le_refl _)) ⟨(), trivial, rfl, ?_⟩
    have e : cutV size 0 0 (.slice none 0 0) = .slice none 0 0 := rfl
    rw [e]
    refine hw'.move (Mod.refl _ _) ⟨⟨by simp, .inl ⟨rfl, rfl⟩⟩, hw'.own.2.1, hw'.own.2.2⟩ fun k _ hk => ?_
    rcases fpL_cons.1 hk with hk | hk
    · exact fpL_cons.2 (.inl hk)
    · exact fpL_cons.2 (.inr hk)
  · refine .val (hrun _ cap rfl hcc) ⟨(), trivial, rfl, ?_⟩
    have e : cutV size 0 j (.slice (some ⟨b, 0, none⟩) n cap) = .slice (some ⟨b, 0, none⟩) j cap := by
      simp only [cutV, Nat.zero_mul, Nat.sub_zero, Option.map_some, Addr.add_lit, Nat.zero_add]
      split <;> rfl
    rw [e]
    have hj2 : j * size ≤ n * size := Nat.mul_le_mul_right _ hj
    refine hw'.move (Mod.refl _ _) ⟨⟨by simp; omega, .inr ⟨b, cap, cur, rfl, Nat.zero_le _, hb, by omega, hm, hsz, ?_⟩⟩, hw'.own.2.1, hw'.own.2.2⟩ fun k _ hk => ?_
    · rw [← htk, List.take_take, Nat.min_eq_left hj2]
    · rcases fpL_cons.1 hk with hk | hk
      · exact fpL_cons.2 (.inl hk)
      · exact fpL_cons.2 (.inr hk)

/-- the end of an own row made zero. -/
theorem E_clearRow {t e rt : TypeId} {x : Operand} {v z : Value} {size n j : Nat} {xs : List Value} (hx : evO fr x = some (cutV size j n v)) (hp : Pick (.row v rt size n xs) Γ Γ')
    (ht : C.P.underlying t = some (.slice e)) (hz : ∀ w, (zeroValue e).run C.P w = .ok z w) (hzs : z.cells.size = size) (hz1 : z.cells.toList.all (fun u => u.oneCell') = true) (hj : j ≤ n) :
    Effs C fr Γ Φ ⟨none, .call { callee := .builtin .clear, args := #[x], argTypes := #[t] }, ty, pos, aft, g⟩ (X := List Value) (fun _ => True) (fun _ => .tuple #[]) (fun zs => .row v rt size n (xs.take (j * size) ++ zs) :: Γ') (fun _ => Φ) := by
  refine ⟨fun _ => AllIn.refl _, fun R a w ha hw => ?_⟩
  have hw' := pick_holds (pick_app hp R) hw
  obtain ⟨hl, h2⟩ := hw'.own.1
  by_cases hjn : j = n
  · subst hjn
    refine .val (w' := w) (v := .tuple #[]) ?_ ⟨[], trivial, rfl, ?_⟩
    · rcases h2 with ⟨rfl, rfl⟩ | ⟨b, cap, cur, rfl, _, hb, hcc, hm, hsz, htk⟩
      · simp [execOp, resolve, invoke, builtin, evO_sound ha hx, cutV, Builtin.clear_, run_underlying ht]
      · by_cases hcn : cap = j
        · simp [execOp, resolve, invoke, builtin, evO_sound ha hx, cutV, Builtin.clear_, run_underlying ht, hcn]
        · simp [execOp, resolve, invoke, builtin, evO_sound ha hx, cutV, Builtin.clear_, run_underlying ht, hcn]
    · show Holds C (.row v rt size j (xs.take (j * size) ++ []) :: Γ' ++ R) Φ w
      rw [List.append_nil, List.take_of_length_le (by omega)]
      exact hw'
  · rcases h2 with ⟨rfl, rfl⟩ | ⟨b, cap, cur, rfl, _, hb, hcc, hm, hsz, htk⟩
    · omega
    · have hz1' : ∀ u ∈ (Builtin.zeroCells z.cells (n - j)).toList, u.oneCell' = true := by
        intro u hu
        have hall : ∀ u ∈ z.cells.toList, u.oneCell' = true := List.all_eq_true.1 hz1
        simp only [Builtin.zeroCells, Array.toList_map, List.mem_map] at hu
        obtain ⟨i, hi, rfl⟩ := hu
        have hi' : i < (n - j) * z.cells.size := by simpa using hi
        have h0 : 0 < z.cells.size := by
          rcases Nat.eq_zero_or_pos z.cells.size with h | h
          · rw [h] at hi'; omega
          · exact h
        have hlt : i % z.cells.size < z.cells.size := Nat.mod_lt _ h0
        rw [getElem!_pos z.cells _ hlt]
        exact hall _ (by simp)
      have hzl : (Builtin.zeroCells z.cells (n - j)).toList.length = (n - j) * size := by simp [Builtin.zeroCells, hzs]
      have hsum : j * size + (n - j) * size = n * size := by rw [← Nat.add_mul]; congr 1; omega
      have hcap : n * size ≤ cap * size := Nat.mul_le_mul_right _ hcc
      have hst := run_storeCells_at C.P b (j * size) rt (Builtin.zeroCells z.cells (n - j)).toList 0 cur w hb (by rw [hzl]; omega) hz1'
      rw [Nat.add_zero] at hst
      refine .val (w' := w.setRow b (cur.toList.take (j * size) ++ (Builtin.zeroCells z.cells (n - j)).toList ++ cur.toList.drop (j * size + (Builtin.zeroCells z.cells (n - j)).toList.length)).toArray) (v := .tuple #[]) ?_ ⟨(Builtin.zeroCells z.cells (n - j)).toList, trivial, rfl, setRow_row hw' hb ?_ ?_⟩
      · have hne : ¬ cap = j := by omega
        obtain ⟨m', hpos⟩ : ∃ m', n - j = m' + 1 := ⟨n - j - 1, by omega⟩
        simp only [execOp, resolve, invoke, builtin, evO_sound ha hx, cutV, hne, if_false, Option.map_some, Addr.add_lit, Nat.zero_add]
        rw [hpos] at hst ⊢
        simp [hpos, Deferred.ofValue, Builtin.clear_, run_underlying ht, hz, evO_sound ha hx, cutV, hne, Addr.add_lit, hst]
      · simp only [List.size_toArray, List.length_append, List.length_take, List.length_drop, hzl, Array.length_toList]
        omega
      · have l1 : (cur.toList.take (j * size)).length = j * size := by rw [List.length_take, Array.length_toList]; omega
        rw [List.take_left' (by rw [List.length_append, l1, hzl]; exact hsum), ← htk, List.take_take, Nat.min_eq_left (by omega)]

/-- where ways meet again, ahead of what follows. -/
theorem W_cutKT {x y : Code} {X : Type} (ds ps : List Nat) (I : X → Prop) (ch : X → Fr) (gn : X → List OA) (hn : X → List SP) {fr1 : Fr} {Γ1 : List OA} {F : X → Fr} {G : X → List OA} {H : X → List SP}
    (hf : keepO ds fr = some fr1) (hg : dropO ps 0 Γ = some Γ1) (hF : ∀ x, appO (ch x) fr1 = some (F x)) (hG : ∀ x, appO (gn x) Γ1 = some (G x)) (hH : ∀ x, appO (hn x) Φ = some (H x))
    (h : W C x fr Γ Φ (Exit.then (fun a w => ∃ z, I z ∧ fok C (F z) a ∧ Holds C (G z) (H z) w) Q)) (k : ∀ z, I z → W C y (F z) (G z) (H z) Q) : W C x fr Γ Φ (Exit.then (y.wpIn (fenceOf C.rd) 0 C.P Q) Q) := by
  intro a w ha hw
  refine wpIn_mono (h a w ha hw) fun e a' w' he => ?_
  cases e <;> first | exact he | (obtain ⟨z, h0, h1, h2⟩ := he; exact k z h0 a' w' h1 h2)
end
end Go.Hs

/-
  Loops whose rounds hold a range over a function: the marks that such a statement leaves. No program is named here.
-/
namespace Go.Hs
open Go Go.RowKit

theorem perm4 {x y z u : OA} {Γ Γ1 Γ2 Γ3 Γr : List OA} (h : Pick x Γ Γ1) (k : Pick y Γ1 Γ2) (l : Pick z Γ2 Γ3) (m : Pick u Γ3 Γr) : Γ.Perm ([x, y, z, u] ++ Γr) := h.trans (List.Perm.cons x (k.trans (List.Perm.cons y (l.trans (List.Perm.cons z m)))))

/-- the marks of ranges over functions, and their blocks. -/
def Mk (Ds : List Nat) : List Deferred := Ds.map fun D => ⟨.collected D, #[]⟩
def mkO (Ds : List Nat) : List OA := Ds.map fun D => ob D (.deferred (some []))

section
variable {P : Program} {n : Nat} {w0 : World} {O0 M : Nat → Prop} {fr : Fr} {Γ Γ1 : List OA} {Φ : List SP} {Q : Exit → Act → World → Prop}

theorem Holds.consPk {C : Ctx} {x : OA} {Δ Γ : List OA} {Φ : List SP} {w : World} (h : Holds C (x :: pk Δ :: Γ) Φ w) : Holds C (pk (x :: Δ) :: Γ) Φ w := by
  have h1 := (h.perm (.swap _ _ _)).unpack
  exact (h1.perm (List.perm_middle)).pack
theorem WQ_mark {C : Ctx} {e : Exit} {x : OA} {Δ Γ2 : List OA} (hp : Pick x Γ Γ1) (hp' : Pick (pk Δ) Γ1 Γ2) (h : WQ C e fr (pk (x :: Δ) :: Γ2) Φ Q) : WQ C e fr Γ Φ Q :=
  fun a w ha hw => h a w ha (((pick_holds hp hw).perm (List.Perm.cons _ hp')).consPk)

theorem W_mark0 {C : Ctx} {c : Code} (h : W C c fr (pk (mkO []) :: Γ) Φ Q) : W C c fr Γ Φ Q := fun a w ha hw => h a w ha (Holds.pack (by exact hw))

theorem W_loopM {c : Code} {X : Type} {ds : List Deferred} (D : X → List Nat) (I : X → Prop) (F : X → Fr) (G : X → List OA) (H : X → List SP) (μ : X → Nat) (x0 : X) (hI : I x0) (hd : Mk (D x0) = ds)
    (h0 : WQ ⟨P, n, w0, O0, M, none, ds⟩ .normal fr Γ Φ (fun _ a w => fok ⟨P, n, w0, O0, M, none, ds⟩ (F x0) a ∧ Holds ⟨P, n, w0, O0, M, none, ds⟩ (G x0) (H x0) w))
    (round : ∀ x, I x → W ⟨P, n, w0, O0, M, none, Mk (D x)⟩ c (F x) (G x) (H x) (Exit.then (fun a w => ∃ x', I x' ∧ μ x' < μ x ∧ fok ⟨P, n, w0, O0, M, none, Mk (D x')⟩ (F x') a ∧ Holds ⟨P, n, w0, O0, M, none, Mk (D x')⟩ (G x') (H x') w) Q)) :
    W ⟨P, n, w0, O0, M, none, ds⟩ (.loop c) fr Γ Φ Q := by
  subst hd
  intro a w ha hw b k cs hro hb hr
  have key : ∀ m x a w, I x → μ x = m → fok ⟨P, n, w0, O0, M, none, Mk (D x)⟩ (F x) a → Holds ⟨P, n, w0, O0, M, none, Mk (D x)⟩ (G x) (H x) w →
      ∃ e a' w', Q e a' w' ∧ ArrivesIn (Machine.fenced P (fenceOf none)) P (lone (b.atR a (.code c :: .inLoop c :: k)) cs w) b k cs e a' w' := by
    intro m
    induction m using Nat.strongRecOn with
    | _ m ih =>
      intro x a w hi hn hfa hh
      obtain ⟨e, a₁, w₁, hq, harr⟩ := round x hi a w hfa hh b (.inLoop c :: k) cs hro hb hr
      cases e with
      | normal =>
        obtain ⟨x', hi', hlt, hfa', hh'⟩ := hq
        obtain ⟨e₂, a₂, w₂, hq₂, harr₂⟩ := ih (μ x') (hn ▸ hlt) x' a₁ w₁ hi' rfl hfa' hh'
        exact ⟨e₂, a₂, w₂, hq₂, .of_steps (StepsIn.trans harr (.one (fenced_calm hb hr rfl) stepR_inLoop)) harr₂⟩
      | exit id => exact ⟨_, a₁, w₁, hq, .pass (x := .inLoop c) rfl (fun _ _ => .inl (by simp)) harr⟩
      | goto l => exact ⟨_, a₁, w₁, hq, .pass (x := .inLoop c) rfl (fun _ _ => .inl (by simp)) harr⟩
      | ret => exact ⟨_, a₁, w₁, hq, .pass (x := .inLoop c) rfl (fun _ _ => .inl (by simp)) harr⟩
      | panic ch => exact ⟨_, a₁, w₁, hq, .pass (x := .inLoop c) rfl (fun _ _ => .inl (by simp)) harr⟩
      | outgrown => exact ⟨_, a₁, w₁, hq, .pass (x := .inLoop c) rfl (fun _ _ => .inl (by simp)) harr⟩
  obtain ⟨hfa, hh⟩ := h0 a w ha hw
  obtain ⟨e, a', w', hq, harr⟩ := key _ x0 a w hI rfl hfa hh
  exact ⟨e, a', w', hq, .of_steps (.one (fenced_calm hb hr rfl) stepR_loop) harr⟩

theorem W_loopKM {c : Code} {X : Type} {dv : List Deferred} (D : X → List Nat) (ds ps : List Nat) (I : X → Prop) (ch : X → Fr) (gn : X → List OA) (hn : X → List SP) (μ : X → Nat) (x0 : X) (hd : Mk (D x0) = dv) (hI : I x0) {fr1 : Fr} {Γ1 : List OA} {F : X → Fr} {G : X → List OA} {H : X → List SP}
    (hf : keepO ds fr = some fr1) (hg : dropO ps 0 Γ = some Γ1) (hF : ∀ x, appO (ch x) fr1 = some (F x)) (hG : ∀ x, appO (gn x) Γ1 = some (G x)) (hH : ∀ x, appO (hn x) Φ = some (H x))
    (h1 : FrIn fr (ch x0)) (h2 : SubO Γ (G x0)) (h3 : AllE (hn x0) Φ)
    (round : ∀ x, I x → W ⟨P, n, w0, O0, M, none, Mk (D x)⟩ c (F x) (G x) (H x) (Exit.then (fun a w => ∃ x', I x' ∧ μ x' < μ x ∧ fok ⟨P, n, w0, O0, M, none, Mk (D x')⟩ (F x') a ∧ Holds ⟨P, n, w0, O0, M, none, Mk (D x')⟩ (G x') (H x') w) Q)) :
    W ⟨P, n, w0, O0, M, none, dv⟩ (.loop c) fr Γ Φ Q := by
  refine W_loopM D I F G H μ x0 hI hd (WQ_fit ?_ h2 ?_) round
  · rw [← appO_eq (hF x0)]
    exact FrIn.append h1 (keepO_in hf)
  · rw [← appO_eq (hH x0)]
    exact AllE.append h3 fun ψ hψ => Ent.mem hψ

theorem WQ_againM {X : Type} {D : X → List Nat} {I : X → Prop} {F : X → Fr} {G : X → List OA} {H : X → List SP} {μ : X → Nat} {m : Nat} {dv : List Deferred} (x : X) (hd : Mk (D x) = dv) (hi : I x) (hμ : μ x < m) (h1 : FrIn fr (F x)) (h2 : SubO Γ (G x)) (h3 : AllE (H x) Φ) :
    WQ ⟨P, n, w0, O0, M, none, dv⟩ .normal fr Γ Φ (Exit.then (fun a w => ∃ x', I x' ∧ μ x' < m ∧ fok ⟨P, n, w0, O0, M, none, Mk (D x')⟩ (F x') a ∧ Holds ⟨P, n, w0, O0, M, none, Mk (D x')⟩ (G x') (H x') w) Q) := by
  subst hd
  exact fun _ _ ha hw => ⟨x, hi, hμ, ha.sub h1, (hw.subOwn h2).allE h3⟩

theorem ret_endMs {fn : Func} {X : Type} {pf : X → Prop} {ret : X → Value} {Γ' : X → List OA} {Φ' : X → List SP} {e : Exit} (he : e = .ret ∨ e = .normal) (Ds : List Nat) (x : X) (hp : pf x)
    (hD : Pick (pk (mkO Ds)) Γ Γ1)
    (hr : ∀ a w, fok ⟨P, n, w0, O0, M, none, Mk Ds⟩ fr a → Holds ⟨P, n, w0, O0, M, none, Mk Ds⟩ Γ1 Φ w → (results fn a.tmps).run P w = .ok (ret x) w) (h2 : SubO Γ1 (Γ' x)) (h3 : AllE (Φ' x) Φ) :
    WQ ⟨P, n, w0, O0, M, none, Mk Ds⟩ e fr Γ Φ (bodyPostM Fence.wide 0 P fn (FnPost w0 O0 M pf ret Γ' Φ')) := by
  intro a w ha hw
  have key : ∀ (Es : List Nat) (w : World), Holds ⟨P, n, w0, O0, M, none, Mk Ds⟩ (mkO Es ++ Γ1) Φ w → LeavesInM Fence.wide 0 P fn a.tmps (FnPost w0 O0 M pf ret Γ' Φ') (Mk Es) .returning w := by
    intro Es
    induction Es with
    | nil =>
      intro w hw
      have hw3 := (Holds.subOwn hw h2).allE h3
      exact ⟨_, hr a w ha hw, x, hp, rfl, hw3.mod, hw3.own, hw3.ofp, hw3.sp⟩
    | cons D Es ih =>
      intro w hw
      have hat := ob_at hw
      have hw2 := (hw.putO (.deferred none)).drop
      exact ⟨(fun h => by cases h), .inl ⟨D, _, rfl, run_takeDeferred hat, ih _ hw2⟩⟩
  have hw1 := (pick_holds hD hw).unpack
  have hl := key Ds w hw1
  rw [← show a.defers = Mk Ds from ha.1] at hl
  rcases he with rfl | rfl
  · exact hl
  · exact hl
end

section
variable {P : Program} {n : Nat} {w0 : World} {O0 M : Nat → Prop} {fn : Func} {fr : Fr} {Γ Γ1 : List OA} {Φ : List SP} {X : Type} {pf : X → Prop} {ret : X → Value} {Γ' : X → List OA} {Φ' : X → List SP}
theorem ret2Ms {r1 r2 : ResultVar} {v1 v2 : Value} (Ds : List Nat) (hres : fn.results = #[r1, r2]) (x : X) (hp : pf x) (hD : Pick (pk (mkO Ds)) Γ Γ1)
    (h1 : RV ⟨P, n, w0, O0, M, none, Mk Ds⟩ fr Γ1 Φ r1 v1) (h1' : RV ⟨P, n, w0, O0, M, none, Mk Ds⟩ fr Γ1 Φ r2 v2) (hv : .tuple #[v1, v2] = ret x) (h2 : SubO Γ1 (Γ' x)) (h3 : AllE (Φ' x) Φ) :
    WQ ⟨P, n, w0, O0, M, none, Mk Ds⟩ .ret fr Γ Φ (bodyPostM Fence.wide 0 P fn (FnPost w0 O0 M pf ret Γ' Φ')) :=
  ret_endMs (.inl rfl) Ds x hp hD (fun a w ha hw => by rw [← hv, results_run, hres]; simp [h1 a w ha hw, h1' a w ha hw]) h2 h3
end
end Go.Hs

/-
  Own rows sliced, own trees lent, rows let go by parts. No program is named here.
-/
namespace Go.Hs
open Go Go.RowKit

section
variable {C : Ctx} {ops : Array Oper} {l : List Oper} {fr : Fr} {Γ Γ' Γ1 : List OA} {Φ : List SP} {Q : Exit → Act → World → Prop}
  {d : Nat} {ty : TypeId} {pos : String} {aft : Array Edge} {g : Option (Nat × Bool)}

/-- the end of an own row, as a value. -/
theorem R_sliceRow {t e rt : TypeId} {x y : Operand} {v : Value} {size n j : Nat} {kd : IntKind} {ii : Int} {xs : List Value} (hx : evO fr x = some v) (hy : evO fr y = some (.int kd ii)) (hp : Pick (.row v rt size n xs) Γ Γ')
    (ht : C.P.underlying t = some (.slice e)) (hs : ∀ w, (sizeOf e).run C.P w = .ok size w) (hii : ii = (j : Int)) (hj : j ≤ n) :
    Runs C fr Γ Φ ⟨some d, .slice t x (some y) none none, ty, pos, aft, g⟩ (cutV size j n v) :=
  Runs.pure fun a w ha hw => by
    subst hii
    obtain ⟨A, c, rfl, hc, _⟩ := row_nil_or (pick_holds hp hw).own.1
    have h := run_slice_data_l (P := C.P) (w := w) (n := n) (A := A) (c := c) (kl := kd) ht hs hj
    simp [execOp, evO_sound ha hx, evO_sound ha hy, h, cutV]

theorem Ones.lits {us : List Value} (h : ∀ u ∈ us, u.oneCell' = true) : Ones C Γ Φ us := fun u hu => OneC.lit (h u hu)

theorem Holds.dropAll : ∀ {Δ Γ : List OA} {w : World}, Holds C (Δ ++ Γ) Φ w → Holds C Γ Φ w
  | [], _, _, h => h
  | _ :: Δ, _, _, h => Holds.dropAll (Δ := Δ) (Holds.drop h)
/-- of many rows some. -/
theorem Holds.subL {bt : TypeId} {L L' K : List (Value × List UInt8)} {w : World} (hp : L.Perm (L' ++ K)) (h : Holds C (pk (rowsL bt L) :: Γ) Φ w) : Holds C (pk (rowsL bt L') :: Γ) Φ w := by
  have h1 := h.unpack
  have h2 : Holds C ((rowsL bt L' ++ rowsL bt K) ++ Γ) Φ w := by
    rw [← rowsL_append]
    exact h1.perm ((hp.map fun (p : Value × List UInt8) => OA.row p.1 bt 1 p.2.length (p.2.map bcell)).append_right Γ)
  have h3 : Holds C (rowsL bt K ++ (rowsL bt L' ++ Γ)) Φ w := h2.perm (by
    rw [← List.append_assoc]
    exact List.perm_append_comm.append_right Γ)
  exact h3.dropAll.pack
theorem WL_subL {bt : TypeId} {L L' K : List (Value × List UInt8)} (hpk : Pick (pk (rowsL bt L)) Γ Γ1) (hp : L.Perm (L' ++ K)) (h : WL C ops l fr (pk (rowsL bt L') :: Γ1) Φ Q) : WL C ops l fr Γ Φ Q := fun a w ha hw => h a w ha ((pick_holds hpk hw).subL hp)
theorem WQ_subL {e : Exit} {bt : TypeId} {L L' K : List (Value × List UInt8)} (hpk : Pick (pk (rowsL bt L)) Γ Γ1) (hp : L.Perm (L' ++ K)) (h : WQ C e fr (pk (rowsL bt L') :: Γ1) Φ Q) : WQ C e fr Γ Φ Q := fun a w ha hw => h a w ha ((pick_holds hpk hw).subL hp)

theorem WL_takeL {bt : TypeId} {L : List (Value × List UInt8)} {i : Nat} {p : Value × List UInt8} (hi : L[i]? = some p) (hp : Pick (pk (rowsL bt L)) Γ Γ1)
    (h : WL C ops l fr (.row p.1 bt 1 p.2.length (p.2.map bcell) :: pk (rowsL bt (L.eraseIdx i)) :: Γ1) Φ Q) : WL C ops l fr Γ Φ Q := fun a w ha hw => h a w ha ((pick_holds hp hw).takeL hi)

theorem slT_rw {v : Value} {t : T} {w : World} {O : Nat → Prop} (h : slP 4 v t.len t.cells w O) : rwP 4 v t.len t.at_ w O := by
  have h1 := ent_slT (Φ := [Sl 4 v t.len t.cells]) (v := v) (t := t) List.mem_cons_self w O (fun χ hχ => by rcases List.mem_singleton.1 hχ with rfl; exact h)
  exact h1
/-- an own list of elements lent. -/
theorem Bor.rowT {v : Value} {et : TypeId} {t : T} : Bor [.row v et 4 t.len t.cells] Φ (Rw 4 v t.len t.at_ :: Φ) := fun w O ho hd hΦ ψ hψ => by
  rcases List.mem_cons.1 hψ with rfl | hψ
  · exact slT_rw (slP_of_row ho.1 fun k hk => hd k (fpL_cons.2 (.inl hk)))
  · exact hΦ ψ hψ
theorem Bor.both {v : Value} {et bt : TypeId} {t : T} (hm : t.ts ∈ Φ) : Bor [.row v et 4 t.len t.cells, pk (rowsL bt t.dls)] Φ (Rw 4 v t.len t.at_ :: t.tf :: Φ) := fun w O ho hd hΦ ψ hψ => by
  rcases List.mem_cons.1 hψ with rfl | hψ
  · exact slT_rw (slP_of_row ho.1 fun k hk => hd k (fpL_cons.2 (.inl hk)))
  · rcases List.mem_cons.1 hψ with rfl | hψ
    · exact T.tf_of_ts ho.2.2.1 (fun k hk => hd k (fpL_cons.2 (.inr (fpL_cons.2 (.inl hk))))) (hΦ _ hm)
    · exact hΦ ψ hψ
theorem Bor.sub {Γb : List OA} {Φb Φc : List SP} (h : Bor Γb Φ Φb) (hs : AllIn Φc Φb) : Bor Γb Φ Φc := fun w O ho hd hΦ ψ hψ => h w O ho hd hΦ ψ (hs ψ hψ)

/-- the cells of an own tree are one each. -/
theorem tree_ones {bt : TypeId} {t : T} (hp : Pick (pk (rowsL bt t.dls)) Γ Γ1) (hm : t.ts ∈ Φ) : ∀ w, Holds C Γ Φ w → ∀ u ∈ t.cells, u.oneCell' = true := fun w hw => by
  have key : ∀ (t : T), Own (rowsL bt t.dls) w → t.tsP w (avo C.O0 Γ) → ∀ u ∈ t.cells, u.oneCell' = true := by
    intro t
    induction t with
    | nil => intro _ _ u hu; cases hu
    | cons id ext dv data sv subs next _ ih =>
      intro ho h u hu
      simp only [T.cells, List.mem_cons] at hu
      rcases hu with rfl | rfl | rfl | rfl | hu
      · rfl
      · rfl
      · obtain ⟨A, c, hu, _⟩ := row_nil_or ho.1
        have hu : u = .slice A data.length c := hu
        rw [hu]
        rfl
      · obtain ⟨A, c, rfl, _⟩ := (show rwP 4 u subs.len subs.at_ w _ from h.1)
        rfl
      · exact ih ho.2.2 h.2.2 u hu
  exact key t (pick_holds hp hw).own.1 (hw.sp _ hm)

/-- a list of elements that is made, told as lasting at once. -/
theorem Effs.letT {o : Oper} {X : Type} {pf : X → Prop} {vx : X → Value} {G : X → List OA} {H : X → List SP} {v : X → Value} {et : TypeId} {n : Nat} {cs : List Value} (t : T) (hn : n = t.len) (hc : cs = t.cells)
    (h : Effs C fr Γ Φ o pf vx (fun x => .row (v x) et 4 n cs :: G x) H) : Effs C fr Γ Φ o pf vx G (fun x => Rw 4 (v x) t.len t.at_ :: H x) := by
  subst hn; subst hc
  refine ⟨fun x ψ hψ => List.mem_cons_of_mem _ (h.1 x ψ hψ), fun R a w ha hw => (h.2 R a w ha hw).mono fun v' w' ⟨x, hp, hv, hw'⟩ => ⟨x, hp, hv, ?_⟩⟩
  have h1 : Holds C (G x ++ R) (Sl 4 (v x) t.len t.cells :: H x) w' := Holds.letgo hw'
  refine ⟨h1.mod, h1.own, h1.ofp, h1.o0, fun ψ hψ => ?_⟩
  rcases List.mem_cons.1 hψ with rfl | hψ
  · exact slT_rw (h1.sp _ List.mem_cons_self)
  · exact h1.sp ψ (List.mem_cons_of_mem _ hψ)
end
end Go.Hs

/-
  A call that is handed some own things and reads others. No program is named here.
-/
namespace Go.Hs
open Go Go.RowKit
section
variable {C : Ctx} {fr : Fr} {Γ : List OA} {Φ : List SP}
  {ty : TypeId} {pos : String} {aft : Array Edge} {g : Option (Nat × Bool)}
theorem E_callOB {dst : Option Tmp} {f : FuncId} {args : List Operand} {argTypes : Array TypeId} {vs : List Value}
    {Γp Γb Γr : List OA} {Φp : List SP} {X : Type} {pf : X → Prop} {ret : X → Value} {Γ' : X → List OA} {Γ'' : X → List OA}
    (ha : evOs fr args = some vs)
    (hrun : ∀ (aas : Array Value) (w : World), (callFunc f aas).run C.P w = .ok (.enter f aas) w)
    (hfn : Ct C.P f vs Γp Φp pf ret Γ' (fun _ => [])) (hp : Γ.Perm (Γp ++ (Γb ++ Γr))) (hb : Bor Γb Φ Φp) (hΓ : ∀ x, appO (Γ' x) (Γb ++ Γr) = some (Γ'' x)) :
    Effs C fr Γ Φ ⟨dst, .call { callee := .value (.func f), args := args.toArray, argTypes := argTypes }, ty, pos, aft, g⟩ pf ret Γ'' (fun _ => Φ) := by
  refine ⟨fun x => AllIn.refl _, fun R a w hfa hw => ?_⟩
  have hw' := hw.perm (hp.append_right R)
  rw [List.append_assoc] at hw'
  obtain ⟨ho1, ho2, ho3⟩ := Own.append.1 hw'.own
  have ho2' := ho2
  rw [List.append_assoc] at ho2'
  obtain ⟨hb1, hb2, hb3⟩ := Own.append.1 ho2'
  have hin : ∀ k, fpL (Γr ++ R) k → fpL ((Γb ++ Γr) ++ R) k := fun k hk => by
    rw [List.append_assoc]
    exact fpL_append.2 (.inr hk)
  have hO : ∀ k, avo C.O0 (Γr ++ R) k → k < w.heap.size ∧ ¬ fpL Γp k := fun k hk => by
    rcases hk with hk | hk
    · have h1 := hw'.o0 k hk
      refine ⟨Nat.lt_of_lt_of_le h1.1 hw'.mod.size, fun hn => ?_⟩
      rcases hw'.ofp k (fpL_append.2 (.inl hn)) with h2 | h2
      · exact h1.2 h2
      · omega
    · exact ⟨Own.lt hb2 hk, fun hn => ho3 k hn (hin k hk)⟩
  have hd : ∀ k, fpL Γb k → ¬ avo (avo C.O0 (Γr ++ R)) Γp k := fun k hk hn => by
    have hk' : fpL ((Γb ++ Γr) ++ R) k := fpL_append.2 (.inl (fpL_append.2 (.inl hk)))
    rcases hn with (hn | hn) | hn
    · have h1 := hw'.o0 k hn
      rcases hw'.ofp k (fpL_append.2 (.inr hk')) with h2 | h2
      · exact h1.2 h2
      · omega
    · exact hb3 k hk hn
    · exact ho3 k hn hk'
  have hΦ : ∀ ψ ∈ Φ, ψ.p w (avo (avo C.O0 (Γr ++ R)) Γp) := fun ψ hψ => ψ.st (hw'.sp ψ hψ) (Mod.refl _ _) fun k _ hk => by
    rcases hk with (hk | hk) | hk
    · exact .inl hk
    · exact .inr (fpL_append.2 (.inr (hin k hk)))
    · exact .inr (fpL_append.2 (.inl hk))
  have hcall := hfn w (avo C.O0 (Γr ++ R)) hO ho1 (fun ψ hψ => hb w _ hb1 hd hΦ ψ hψ)
  have hrun' : (execOp a.eval ⟨dst, .call { callee := .value (.func f), args := args.toArray, argTypes := argTypes }, ty, pos, aft, g⟩).run C.P w = .ok (.enter f vs.toArray) w := by
    have e2 := evOs_sound hfa ha
    simp only [execOp, resolve, Act.eval, Deferred.ofValue, List.map_toArray, e2, Sem.run_bind, Sem.run_pure, Result.andThen_ok, invoke]
    rw [hrun]
    congr 2
    apply Array.ext'
    simp
  rw [hrun']
  show Calls _ _ _ _ _
  refine hcall.mono fun e w1 ⟨x, hx, he, hm, ho, hf, _⟩ => ⟨_, he, x, hx, rfl, ?_⟩
  have hdis : ∀ k, fpL (Γ' x) k → ¬ fpL ((Γb ++ Γr) ++ R) k := fun k hk hn => by
    rcases hf k hk with h1 | h1
    · exact ho3 k h1 hn
    · have := Own.lt ho2 hn
      omega
  have hmove : Holds C (Γ' x ++ ((Γb ++ Γr) ++ R)) Φ w1 := by
    refine hw'.move (hm.mono fun k _ hk => fpL_append.2 (.inl hk)) (Own.append.2 ⟨ho, ho2.keep fun k hlt hk => hm.block k hlt fun hn => ho3 k hn hk, hdis⟩) fun k hlt hk => ?_
    rcases fpL_append.1 hk with hk | hk
    · rcases hf k hk with h1 | h1
      · exact fpL_append.2 (.inl h1)
      · omega
    · exact fpL_append.2 (.inr hk)
  rw [← appO_eq (hΓ x), List.append_assoc (Γ' x)]
  exact hmove
/-- own blocks lent: what they hold. -/
theorem Bor.blks {Φ : List SP} {bs : List (Nat × TypeId × List Value)} : Bor (bs.map fun b => .blk b.1 b.2.1 b.2.2) Φ ((bs.map fun b => Pt (.pointer (some ⟨b.1, 0, none⟩)) b.2.2) ++ Φ) := fun w O ho hd hΦ ψ hψ => by
  rcases List.mem_append.1 hψ with hψ | hψ
  · obtain ⟨q, hq, rfl⟩ := List.mem_map.1 hψ
    have key : ∀ (l : List (Nat × TypeId × List Value)), Own (l.map fun b => .blk b.1 b.2.1 b.2.2) w → q ∈ l → w.heap[q.1]? = some (.cells q.2.2.toArray q.2.1 (0, 0)) := by
      intro l
      induction l with
      | nil => intro _ h; cases h
      | cons p r ih =>
        intro h1 h2
        rcases List.mem_cons.1 h2 with rfl | h2
        · exact h1.1
        · exact ih h1.2.2 h2
    have hh := key bs ho hq
    refine ⟨⟨q.1, 0, none⟩, rfl, (Array.getElem?_eq_some_iff.1 hh).1, hd q.1 ⟨.blk q.1 q.2.1 q.2.2, List.mem_map.2 ⟨q, hq, rfl⟩, rfl⟩, fun j u hu => ?_⟩
    rw [Addr.add_lit, Nat.zero_add]
    simp only [World.cell?, hh]
    simpa using hu
  · exact hΦ ψ hψ
theorem Bor.ent {Γb : List OA} {Φb Φc : List SP} (h : Bor Γb Φ Φb) (hs : AllE Φc Φb) : Bor Γb Φ Φc := fun w O ho hd hΦ ψ hψ => hs ψ hψ w O (h w O ho hd hΦ)
end
end Go.Hs

/-
  The rules of the small logic for arrays of six bytes, for slices of arrays, and for comparing things of several cells. No program is named here.
-/
namespace Go.Hs
open Go Go.RowKit

/-- six bytes. -/
structure A6 where
  a0 : UInt8
  a1 : UInt8
  a2 : UInt8
  a3 : UInt8
  a4 : UInt8
  a5 : UInt8
deriving DecidableEq
def A6.bytes (a : A6) : List UInt8 := [a.a0, a.a1, a.a2, a.a3, a.a4, a.a5]
def A6.cells (a : A6) : List Value := [bcell a.a0, bcell a.a1, bcell a.a2, bcell a.a3, bcell a.a4, bcell a.a5]
theorem A6.cells_map (a : A6) : a.cells = a.bytes.map bcell := rfl
theorem A6.bytes_inj {a b : A6} (h : a.bytes = b.bytes) : a = b := by
  obtain ⟨a0, a1, a2, a3, a4, a5⟩ := a
  obtain ⟨b0, b1, b2, b3, b4, b5⟩ := b
  simp only [A6.bytes, List.cons.injEq, and_true] at h
  obtain ⟨rfl, rfl, rfl, rfl, rfl, rfl⟩ := h
  rfl
def A6.of (l : List UInt8) : A6 := ⟨l.getD 0 0, l.getD 1 0, l.getD 2 0, l.getD 3 0, l.getD 4 0, l.getD 5 0⟩
theorem A6.of_bytes {l : List UInt8} (h : l.length = 6) : (A6.of l).bytes = l := by
  match l, h with
  | [_, _, _, _, _, _], _ => rfl
def zA6 : A6 := ⟨0, 0, 0, 0, 0, 0⟩
/-- a cell that holds a byte. -/
def Bc (v : Value) (b : UInt8) : Prop := v = bcell b
theorem Bc.self (b : UInt8) : Bc (bcell b) b := rfl
theorem Bc.zero : Bc (.int .u8 0) 0 := rfl
theorem Bc.lit (n : Nat) (h : Nat.blt n 256 = true) : Bc (.int .u8 (Int.ofNat n)) (UInt8.ofNat n) := by
  have h : n < 256 := Nat.le_of_ble_eq_true h
  show Value.int .u8 (Int.ofNat n) = .int .u8 ((UInt8.ofNat n).toNat : Int)
  rw [UInt8.toNat_ofNat', Nat.mod_eq_of_lt h]
  rfl

/-- a cell and what it tells when compared. -/
def Kc (P : Program) (t : TypeId) (cs : List Value) (ls : List Lit) : Prop := ∃ D, P.keyLits D t cs = some ls

section
variable {P : Program}
theorem keyLits_mono_u8 {e : TypeId} (he : P.underlying e = some (.int .u8)) (b : UInt8) : P.keyLits 1 e [bcell b] = some [.int .u8 (b.toNat : Int)] := by
  have h : (Lit.int .u8 (b.toNat : Int)).wf = true := by
    have := b.toNat_lt
    simp [Lit.wf, IntKind.min, IntKind.max, IntKind.signed, IntKind.bits] <;> omega
  simp [Program.keyLits, he, bcell, h]
theorem keyLits_a6 {t e : TypeId} (ht : P.underlying t = some (.array 6 e)) (he : P.underlying e = some (.int .u8)) (hce : P.cellsOf e = 1) (hct : P.cellsOf t = 6) (a : A6) :
    P.keyLits 2 t a.cells = some (a.bytes.map fun b => .int .u8 (b.toNat : Int)) := by
  have h := fun b => keyLits_mono_u8 he b
  have hr : List.range 6 = [0, 1, 2, 3, 4, 5] := rfl
  rw [show (2 : Nat) = 1 + 1 from rfl]
  unfold Program.keyLits
  simp only [ht, hct, hce, A6.cells, List.length_cons, List.length_nil, if_true, hr, List.mapM_cons, List.mapM_nil, Nat.zero_mul, Nat.one_mul, Nat.mul_one, List.drop_zero, List.drop_succ_cons, List.take_succ_cons, List.take_zero, h,
    Option.pure_def, Option.bind_eq_bind, Option.bind_some, Option.map_some]
  rfl
theorem a6_lits_inj {a b : A6} : (a.bytes.map fun b => Lit.int .u8 (b.toNat : Int)) = (b.bytes.map fun b => Lit.int .u8 (b.toNat : Int)) ↔ a = b := by
  constructor
  · intro h
    apply A6.bytes_inj
    refine List.map_inj_right (fun x y hxy => ?_) |>.1 h
    injection hxy with _ hxy
    exact UInt8.toNat_inj.1 (by omega)
  · rintro rfl; rfl
end

section
variable {C : Ctx} {ops : Array Oper} {l : List Oper} {fr : Fr} {Γ Γ' Γ1 : List OA} {Φ : List SP} {Q : Exit → Act → World → Prop}
  {d : Nat} {ty : TypeId} {pos : String} {aft : Array Edge} {g : Option (Nat × Bool)}

theorem neS_t' {α : Type} {a b : α} [Decidable (a = b)] (h : ¬ a = b) : (!decide (a = b)) = true := by rw [decide_eq_false h]; rfl
theorem neS_f' {α : Type} {a b : α} [Decidable (a = b)] (h : a = b) : (!decide (a = b)) = false := by rw [decide_eq_true h]; rfl
/-- two things of several cells compared. -/
theorem R_eqG {x y : Operand} {t t' : TypeId} {cs ds : List Value} {D D' : Nat} {la lb : List Lit} {c : Bool} {m : Nat} (hx : evO fr x = some (.agg cs.toArray)) (hy : evO fr y = some (.agg ds.toArray))
    (hk : C.P.keyTypeAt m t = true) (hm : Nat.ble m 10000 = true) (hg : C.P.eqGuardType C.P.depth t = false)
    (fx : (Value.agg cs.toArray).formed C.P t = true) (fy : (Value.agg ds.toArray).formed C.P t = true) {p : Prop} [Decidable p] (ka : C.P.keyLits D t cs = some la) (kb : C.P.keyLits D' t ds = some lb) (hp : la = lb ↔ p) (hr : decide p = c) :
    Runs C fr Γ Φ ⟨some d, .binOp .eql t x y t', ty, pos, aft, g⟩ (.bool c) :=
  Runs.pure fun a w ha hw => by
    subst hr
    obtain ⟨r, hr, hi⟩ := run_equalIn_deep (P := C.P) (10000 - m) m t hk w D D' (.agg cs.toArray) (.agg ds.toArray) la lb fx fy (by simpa [Value.cells] using ka) (by simpa [Value.cells] using kb)
    rw [show 10000 - m + m = 10000 from Nat.sub_add_cancel (Nat.le_of_ble_eq_true hm)] at hr
    have hd : r = decide p := by
      cases r
      · exact (decide_eq_false fun e => by simpa using hi.2 (hp.2 e)).symm
      · exact (decide_eq_true (hp.1 (hi.1 rfl))).symm
    subst hd
    simp only [execOp, evO_sound ha hx, evO_sound ha hy, Sem.run_bind, run_eqGuard_agg w .eql t x y _ _ hg, Result.andThen_ok, run_eql_struct, hr, Sem.run_pure]
theorem R_neG {x y : Operand} {t t' : TypeId} {cs ds : List Value} {D D' : Nat} {la lb : List Lit} {c : Bool} {m : Nat} (hx : evO fr x = some (.agg cs.toArray)) (hy : evO fr y = some (.agg ds.toArray))
    (hk : C.P.keyTypeAt m t = true) (hm : Nat.ble m 10000 = true) (hg : C.P.eqGuardType C.P.depth t = false)
    (fx : (Value.agg cs.toArray).formed C.P t = true) (fy : (Value.agg ds.toArray).formed C.P t = true) {p : Prop} [Decidable p] (ka : C.P.keyLits D t cs = some la) (kb : C.P.keyLits D' t ds = some lb) (hp : la = lb ↔ p) (hr : (!decide p) = c) :
    Runs C fr Γ Φ ⟨some d, .binOp .neq t x y t', ty, pos, aft, g⟩ (.bool c) :=
  Runs.pure fun a w ha hw => by
    subst hr
    obtain ⟨r, hr, hi⟩ := run_equalIn_deep (P := C.P) (10000 - m) m t hk w D D' (.agg cs.toArray) (.agg ds.toArray) la lb fx fy (by simpa [Value.cells] using ka) (by simpa [Value.cells] using kb)
    rw [show 10000 - m + m = 10000 from Nat.sub_add_cancel (Nat.le_of_ble_eq_true hm)] at hr
    have hd : r = decide p := by
      cases r
      · exact (decide_eq_false fun e => by simpa using hi.2 (hp.2 e)).symm
      · exact (decide_eq_true (hp.1 (hi.1 rfl))).symm
    subst hd
    simp only [execOp, evO_sound ha hx, evO_sound ha hy, Sem.run_bind, run_eqGuard_agg w .neq t x y _ _ hg, Result.andThen_ok, run_neq_struct, hr, Sem.run_pure]
/-- two addresses compared. -/
theorem R_eqA {x y : Operand} {t t' e : TypeId} {v0 v1 v2 v3 v4 v5 u0 u1 u2 u3 u4 u5 : Value} {a0 a1 a2 a3 a4 a5 b0 b1 b2 b3 b4 b5 : UInt8} {c : Bool} (hx : evO fr x = some (.agg #[v0, v1, v2, v3, v4, v5])) (hy : evO fr y = some (.agg #[u0, u1, u2, u3, u4, u5]))
    (ht : C.P.underlying t = some (.array 6 e)) (he : C.P.underlying e = some (.int .u8)) (hce : C.P.cellsOf e = 1) (hct : C.P.cellsOf t = 6) (hg : C.P.eqGuardType C.P.depth t = false)
    (p0 : Bc v0 a0) (p1 : Bc v1 a1) (p2 : Bc v2 a2) (p3 : Bc v3 a3) (p4 : Bc v4 a4) (p5 : Bc v5 a5) (q0 : Bc u0 b0) (q1 : Bc u1 b1) (q2 : Bc u2 b2) (q3 : Bc u3 b3) (q4 : Bc u4 b4) (q5 : Bc u5 b5)
    (hr : decide ((⟨a0, a1, a2, a3, a4, a5⟩ : A6) = ⟨b0, b1, b2, b3, b4, b5⟩) = c) : Runs C fr Γ Φ ⟨some d, .binOp .eql t x y t', ty, pos, aft, g⟩ (.bool c) := by
  subst p0; subst p1; subst p2; subst p3; subst p4; subst p5; subst q0; subst q1; subst q2; subst q3; subst q4; subst q5
  have hk : C.P.keyTypeAt 2 t = true := by simp [Program.keyTypeAt, ht, he]
  refine R_eqG (cs := A6.cells ⟨a0, a1, a2, a3, a4, a5⟩) (ds := A6.cells ⟨b0, b1, b2, b3, b4, b5⟩) hx hy hk rfl hg (by simp [Value.formed, ht, hct, A6.cells]) (by simp [Value.formed, ht, hct, A6.cells]) (keyLits_a6 ht he hce hct _) (keyLits_a6 ht he hce hct _) a6_lits_inj hr
theorem R_neA {x y : Operand} {t t' e : TypeId} {v0 v1 v2 v3 v4 v5 u0 u1 u2 u3 u4 u5 : Value} {a0 a1 a2 a3 a4 a5 b0 b1 b2 b3 b4 b5 : UInt8} {c : Bool} (hx : evO fr x = some (.agg #[v0, v1, v2, v3, v4, v5])) (hy : evO fr y = some (.agg #[u0, u1, u2, u3, u4, u5]))
    (ht : C.P.underlying t = some (.array 6 e)) (he : C.P.underlying e = some (.int .u8)) (hce : C.P.cellsOf e = 1) (hct : C.P.cellsOf t = 6) (hg : C.P.eqGuardType C.P.depth t = false)
    (p0 : Bc v0 a0) (p1 : Bc v1 a1) (p2 : Bc v2 a2) (p3 : Bc v3 a3) (p4 : Bc v4 a4) (p5 : Bc v5 a5) (q0 : Bc u0 b0) (q1 : Bc u1 b1) (q2 : Bc u2 b2) (q3 : Bc u3 b3) (q4 : Bc u4 b4) (q5 : Bc u5 b5)
    (hr : (!decide ((⟨a0, a1, a2, a3, a4, a5⟩ : A6) = ⟨b0, b1, b2, b3, b4, b5⟩)) = c) : Runs C fr Γ Φ ⟨some d, .binOp .neq t x y t', ty, pos, aft, g⟩ (.bool c) := by
  subst p0; subst p1; subst p2; subst p3; subst p4; subst p5; subst q0; subst q1; subst q2; subst q3; subst q4; subst q5
  have hk : C.P.keyTypeAt 2 t = true := by simp [Program.keyTypeAt, ht, he]
  refine R_neG (cs := A6.cells ⟨a0, a1, a2, a3, a4, a5⟩) (ds := A6.cells ⟨b0, b1, b2, b3, b4, b5⟩) hx hy hk rfl hg (by simp [Value.formed, ht, hct, A6.cells]) (by simp [Value.formed, ht, hct, A6.cells]) (keyLits_a6 ht he hce hct _) (keyLits_a6 ht he hce hct _) a6_lits_inj hr

/-- the front of what a pointer leads to is loaded. -/
theorem R_loadPT {t : TypeId} {x : Operand} {p : Value} {us us' : List Value} {n : Nat} (hx : evO fr x = some p)
    (hm : Pt p us ∈ Φ) (hagg : ∀ w, (isAgg t).run C.P w = .ok true w) (hs : ∀ w, (sizeOf t).run C.P w = .ok n w) (ht : takeN 0 n us = some us') : Runs C fr Γ Φ ⟨some d, .load t x, ty, pos, aft, g⟩ (.agg us'.toArray) :=
  Runs.pure fun a w ha hw => by
    obtain ⟨ad, hv, _, _, hcell⟩ := hw.sp _ hm
    obtain ⟨h1, h2⟩ := takeN_at ht
    simp [execOp, evO_sound ha hx, hv, Instr.loadAt, Instr.sureAddr, run_loadVar_agg (w := w) (a := ad) (us := us') hagg (fun w => by rw [h1]; exact hs w) (fun j u hu => hcell j u (by have := h2 j u hu; rwa [Nat.zero_add] at this))]
/-- a part of a lasting block is loaded. -/
theorem R_loadPO {t : TypeId} {x : Operand} {b off : Nat} {us : List Value} {v : Value} (hx : evO fr x = some (.pointer (some ⟨b, off, none⟩)))
    (hm : Pt (.pointer (some ⟨b, 0, none⟩)) us ∈ Φ) (hagg : ∀ w, (isAgg t).run C.P w = .ok false w) (hc : us[off]? = some v) : Runs C fr Γ Φ ⟨some d, .load t x, ty, pos, aft, g⟩ v :=
  Runs.pure fun a w ha hw => by
    obtain ⟨ad, hv, _, _, hcell⟩ := hw.sp _ hm
    injection hv with hv
    injection hv with hv
    subst hv
    have h0 := hcell off v hc
    rw [Addr.add_lit, Nat.zero_add] at h0
    simp [execOp, evO_sound ha hx, Instr.loadAt, Instr.sureAddr, run_loadVar_one hagg h0]
theorem R_loadPON {t : TypeId} {x : Operand} {b off n : Nat} {us us' : List Value} (hx : evO fr x = some (.pointer (some ⟨b, off, none⟩)))
    (hm : Pt (.pointer (some ⟨b, 0, none⟩)) us ∈ Φ) (hagg : ∀ w, (isAgg t).run C.P w = .ok true w) (hs : ∀ w, (sizeOf t).run C.P w = .ok n w) (ht : takeN off n us = some us') : Runs C fr Γ Φ ⟨some d, .load t x, ty, pos, aft, g⟩ (.agg us'.toArray) :=
  Runs.pure fun a w ha hw => by
    obtain ⟨ad, hv, _, _, hcell⟩ := hw.sp _ hm
    injection hv with hv
    injection hv with hv
    subst hv
    obtain ⟨h1, h2⟩ := takeN_at ht
    simp [execOp, evO_sound ha hx, Instr.loadAt, Instr.sureAddr, run_loadVar_agg (w := w) (a := ⟨b, off, none⟩) (us := us') hagg (fun w => by rw [h1]; exact hs w) (fun j u hu => by
      have h3 := hcell _ u (h2 j u hu)
      rw [Addr.add_lit, Nat.zero_add] at h3
      rw [Addr.add_lit]
      exact h3)]
/-- a slice of an array, whole: the slice's value. -/
theorem R_sliceArr {t e : TypeId} {x : Operand} {b off n : Nat} (hx : evO fr x = some (.pointer (some ⟨b, off, none⟩))) (ht : C.P.underlying t = some (.array n e))
    (hs : ∀ w, (sizeOf e).run C.P w = .ok 1 w) (hn : Nat.beq n 0 = false) : Runs C fr Γ Φ ⟨some d, .slice t x none none none, ty, pos, aft, g⟩ (.slice (some ⟨b, off, none⟩) n n) :=
  Runs.pure fun a w ha hw => by
    have h0 : ¬ n = 0 := fun e => by rw [e] at hn; cases hn
    simp [execOp, evO_sound ha hx, Instr.sliceAt, Instr.sliceBounds, run_underlying ht, hs, h0, Instr.sureAddr, Addr.add]

/-- a part of what a pointer leads to, read as bytes. -/
theorem ent_ptBy {b off n : Nat} {xs : List Value} {bs : List UInt8} (hm : Pt (.pointer (some ⟨b, off, none⟩)) xs ∈ Φ) (hx : xs.take n = bs.map bcell) (hl : bs.length = n) (h0 : 0 < n) (hn : n ≤ 1000) : Ent Φ (By (.slice (some ⟨b, off, none⟩) n n) bs) := fun w O h => by
  obtain ⟨ad, hv, hlt, hO, hcell⟩ := h _ hm
  injection hv with hv
  injection hv with hv
  subst hv
  have hlen : n ≤ xs.length := by
    have := congrArg List.length hx
    rw [List.length_take, List.length_map, hl] at this
    omega
  refine ⟨by rw [List.length_map, Nat.mul_one], some ⟨b, off, none⟩, n, by rw [hl], by omega, by simp [maxLen]; omega, fun _ => ⟨_, rfl, hlt, hO, fun j u hu => ?_⟩⟩
  · rw [← hx, List.getElem?_take] at hu
    split at hu
    · exact hcell j u hu
    · cases hu
end
end Go.Hs

/-
  Parts of arrays in own blocks: slices of them, elements of such slices, appends onto them. No program is named here.
-/
namespace Go.Hs
open Go Go.RowKit
section
variable {C : Ctx} {fr : Fr} {Γ Γ' : List OA} {Φ : List SP} {d : Tmp} {ty : TypeId} {pos : String} {aft : Array Edge} {g : Option (Nat × Bool)}

/-- the goal stands at a region. -/
theorem W_isReg {C : Ctx} {fr : Fr} {Γ : List OA} {Φ : List SP} {Q : Exit → Act → World → Prop} (id : Nat) {l : Array Oper} {b : Bool} (h : W C (.region id l b) fr Γ Φ Q) : W C (.region id l b) fr Γ Φ Q := h
theorem add_at (b o k : Nat) : (⟨b, o, none⟩ : Addr).add k = ⟨b, o + k, none⟩ := by
  unfold Addr.add
  by_cases h : k = 0
  · subst h; rw [if_pos rfl]; rfl
  · rw [if_neg h]
theorem R_sliceHi {t e : TypeId} {x y : Operand} {b off n k : Nat} {kd : IntKind} (hx : evO fr x = some (.pointer (some ⟨b, off, none⟩))) (hy : evO fr y = some (.int kd (k : Int))) (ht : C.P.underlying t = some (.array n e))
    (hs : ∀ w, (sizeOf e).run C.P w = .ok 1 w) (hn : Nat.beq n 0 = false) (hk : Nat.ble k n = true) : Runs C fr Γ Φ ⟨some d, .slice t x none (some y) none, ty, pos, aft, g⟩ (.slice (some ⟨b, off, none⟩) k n) :=
  Runs.pure fun a w ha hw => by
    have h0 : ¬ n = 0 := fun e => by rw [e] at hn; cases hn
    have hk := Nat.le_of_ble_eq_true hk
    simp [execOp, evO_sound ha hx, evO_sound ha hy, Instr.sliceAt, Instr.sliceBounds, Instr.sliceBound, asIntOf, run_underlying ht, hs, h0, hk, Instr.sureAddr, add_at]
theorem R_sliceLo {t e : TypeId} {x y : Operand} {b off n k : Nat} {kd : IntKind} (hx : evO fr x = some (.pointer (some ⟨b, off, none⟩))) (hy : evO fr y = some (.int kd (k : Int))) (ht : C.P.underlying t = some (.array n e))
    (hs : ∀ w, (sizeOf e).run C.P w = .ok 1 w) (hk : Nat.blt k n = true) : Runs C fr Γ Φ ⟨some d, .slice t x (some y) none none, ty, pos, aft, g⟩ (.slice (some ⟨b, off + k, none⟩) (n - k) (n - k)) :=
  Runs.pure fun a w ha hw => by
    have hk : k < n := Nat.le_of_ble_eq_true hk
    have h0 : ¬ n = k := by omega
    have h1 : k ≤ n := by omega
    simp [execOp, evO_sound ha hx, evO_sound ha hy, Instr.sliceAt, Instr.sliceBounds, Instr.sliceBound, asIntOf, run_underlying ht, hs, h0, h1, Instr.sureAddr, add_at]
/-- an element's place in a slice of an own block. -/
theorem R_idxLit {t e : TypeId} {x y : Operand} {b o n c i : Nat} {kd : IntKind} {ii : Int} (hx : evO fr x = some (.slice (some ⟨b, o, none⟩) n c)) (hy : evO fr y = some (.int kd ii)) (ht : C.P.underlying t = some (.slice e))
    (hs : ∀ w, (sizeOf e).run C.P w = .ok 1 w) (hi : ii = (i : Int)) (hl : i < n) : Runs C fr Γ Φ ⟨some d, .indexAddr t x y, ty, pos, aft, g⟩ (.pointer (some ⟨b, o + i, none⟩)) :=
  Runs.pure fun a w ha hw => by
    subst hi
    have := run_indexAt_some (P := C.P) (w := w) (t := t) (e := e) (size := 1) (ad := ⟨b, o, none⟩) (n := n) (c := c) (kd := kd) (i := i) ht hs hl
    rw [Nat.mul_one, add_at] at this
    simp only [execOp, evO_sound ha hx, evO_sound ha hy, this, Sem.run_bind, Result.andThen_ok, Sem.run_pure]
/-- nothing appended. -/
theorem R_appendNone {t e : TypeId} {x y : Operand} {b o n c : Nat} {i : TypeInfo} (hx : evO fr x = some (.slice (some ⟨b, o, none⟩) n c)) (hy : evO fr y = some (.slice none 0 0))
    (ht : C.P.underlying t = some (.slice e)) (hi : C.P.info? e = some i) (hn : Nat.ble n c = true) :
    Runs C fr Γ Φ ⟨some d, .call { callee := .builtin .append, args := #[x, y], argTypes := #[t, t] }, ty, pos, aft, g⟩ (.slice (some ⟨b, o, none⟩) n c) :=
  Runs.pure fun a w ha hw => by
    have hn := Nat.le_of_ble_eq_true hn
    have h : (Builtin.append_ #[t, t] ty #[.slice (some ⟨b, o, none⟩) n c, .slice none 0 0]).run C.P w = .ok (.slice (some ⟨b, o, none⟩) n c) w := by
      simp [Builtin.append_, run_underlying ht, sizeOf, typeInfo, hi, Builtin.lenOf, Builtin.firstCells, hn, storeCells]
    simp only [execOp, resolve, invoke, builtin, Sem.run_bind, Sem.run_pure, Result.andThen_ok, List.map_toArray, List.map_cons, List.map_nil, evO_sound ha hx, evO_sound ha hy, h]
/-- a part of an own block appended to another part of it, with room. -/
theorem E_appendBlk {t e bt : TypeId} {x y : Operand} {b n m o c c' : Nat} {i : TypeInfo} {cs news ds : List Value} (hx : evO fr x = some (.slice (some ⟨b, 0, none⟩) n c)) (hy : evO fr y = some (.slice (some ⟨b, o, none⟩) m c'))
    (hp : Pick (.blk b bt cs) Γ Γ') (ht : C.P.underlying t = some (.slice e)) (hi : C.P.info? e = some i) (hsz : i.size = 1) (hn : Nat.ble (n + m) c = true) (hl : Nat.ble (n + m) cs.length = true) (hnews : (cs.drop o).take m = news) (hnl : news.length = m)
    (h1 : ∀ u ∈ news, u.oneCell' = true) (hds : cs.take n ++ news ++ cs.drop (n + m) = ds) :
    Effs C fr Γ Φ ⟨some d, .call { callee := .builtin .append, args := #[x, y], argTypes := #[t, t] }, ty, pos, aft, g⟩ (X := Unit) (fun _ => True) (fun _ => .slice (some ⟨b, 0, none⟩) (n + m) c) (fun _ => .blk b bt ds :: Γ') (fun _ => Φ) := by
  subst hds
  have hn := Nat.le_of_ble_eq_true hn
  have hl := Nat.le_of_ble_eq_true hl
  refine ⟨fun _ => AllIn.refl _, fun R a w ha hw => ?_⟩
  have hw' := pick_holds (pick_app hp R) hw
  have hb : w.heap[b]? = some (.cells cs.toArray bt (0, 0)) := hw'.own.1
  have hcell : ∀ j u, news[j]? = some u → w.cell? ((⟨b, o, none⟩ : Addr).add j) = some u := fun j u hu => by
    rw [add_at, blk_cell hb]
    rw [← hnews] at hu
    have hj : j < m := by
      have := (List.getElem?_eq_some_iff.1 hu).1
      rw [List.length_take] at this
      omega
    rw [List.getElem?_take, if_pos hj, List.getElem?_drop] at hu
    exact hu
  have hf := run_firstCells_some (P := C.P) w i.size m ⟨b, o, none⟩ m c' news (by rw [hsz, Nat.mul_one]; exact hnl) hcell
  have hst := run_storeCells_at C.P b (n * i.size) bt news 0 cs.toArray w hb (by rw [hsz]; simp; omega) h1
  simp only [Nat.add_zero] at hst
  have hrun : (Builtin.append_ #[t, t] ty #[.slice (some ⟨b, 0, none⟩) n c, .slice (some ⟨b, o, none⟩) m c']).run C.P w = .ok (.slice (some ⟨b, 0, none⟩) (n + m) c) (w.setRow b (cs.take n ++ news ++ cs.drop (n + m)).toArray) := by
    rw [hsz, Nat.mul_one, hnl] at hst
    rw [hsz] at hf
    simp [Builtin.append_, run_underlying ht, sizeOf, typeInfo, hi, Builtin.lenOf, hn, hf, hsz, add_at, hst]
  refine .val (v := .slice (some ⟨b, 0, none⟩) (n + m) c) (w' := _) ?_ ⟨(), trivial, rfl, setRow_holds (ds := cs.take n ++ news ++ cs.drop (n + m)) hw'⟩
  simp only [execOp, resolve, invoke, builtin, Sem.run_bind, Sem.run_pure, Result.andThen_ok, List.map_toArray, List.map_cons, List.map_nil, evO_sound ha hx, evO_sound ha hy, hrun]
/-- a part of what a pointer leads to, read as bytes. -/
theorem ent_ptByO {b off n : Nat} {xs : List Value} {bs : List UInt8} (hm : Pt (.pointer (some ⟨b, 0, none⟩)) xs ∈ Φ) (hx : (xs.drop off).take n = bs.map bcell) (hl : bs.length = n) (h0 : 0 < n) (hn : n ≤ 1000) : Ent Φ (By (.slice (some ⟨b, off, none⟩) n n) bs) := fun w O h => by
  obtain ⟨ad, hv, hlt, hO, hcell⟩ := h _ hm
  injection hv with hv
  injection hv with hv
  subst hv
  refine ⟨by rw [List.length_map, Nat.mul_one], some ⟨b, off, none⟩, n, by rw [hl], by omega, by simp only [maxLen]; omega, fun _ => ⟨⟨b, off, none⟩, rfl, hlt, hO, fun j u hu => ?_⟩⟩
  rw [← hx] at hu
  have hj : j < n := by
    have := (List.getElem?_eq_some_iff.1 hu).1
    rw [List.length_take] at this
    omega
  rw [List.getElem?_take, if_pos hj, List.getElem?_drop] at hu
  have := hcell (off + j) u hu
  rw [add_at, Nat.zero_add] at this
  rw [add_at]
  exact this
end
end Go.Hs

/-
  The rules of the small logic for appending zeros ('append(s, make([]T, k)...)'), and for the capacity of nothing. No program is named here.
-/
namespace Go.Hs
open Go Go.RowKit Go.Lib

theorem zeroCells_one (z : Value) (k : Nat) : Builtin.zeroCells #[z] k = (List.replicate k z).toArray := by
  apply Array.ext
  · simp [Builtin.zeroCells]
  · intro i h1 h2
    simp [Builtin.zeroCells, Nat.mod_one]

section
variable {P : Program} (w : World)
theorem run_append_room_zeros (t tn ty e : TypeId) (i : TypeInfo) (z : Value) (kq kn : IntKind) (ht : P.underlying t = some (.slice e)) (htn : P.underlying tn = some (.int kn)) (hi : P.info? e = some i) (hz : i.zero = some z) (hzc : z.cells = #[z]) (hone : z.oneCell' = true)
    (hs : i.size = 1) (hby : i.bytes ≤ 128) (g n cap k : Nat) (cur : Array Value) (hg : w.heap[g]? = some (.cells cur e (0, 0))) (h0 : 0 < k) (hk : k ≤ 1099511627776) (hroom : n + k ≤ cap) (hfit : n + k ≤ cur.size) :
    (Builtin.append_ #[t, tn] ty #[.slice (some ⟨g, 0, none⟩) n cap, .int kq k]).run P w =
      .ok (.slice (some ⟨g, 0, none⟩) (n + k) cap) (w.setRow g (cur.toList.take n ++ List.replicate k z ++ cur.toList.drop (n + k)).toArray) := by
  have hw : IntKind.i64.wrap (k : Int) = k := by rw [IntKind.wrap_i64]; omega
  have h48i : ¬ (281474976710656 < (k : Int) * (i.bytes : Int)) := by
    rw [← Int.natCast_mul]
    have := Nat.mul_le_mul hk hby
    omega
  have hneg : ¬ ((k : Int) < 0) := by omega
  have hns : ¬ (k * i.size = 0) := Nat.mul_ne_zero (by omega) (by omega)
  have hns1 : ¬ (k = 0) := by omega
  have hst := run_storeCells_at P g n e (List.replicate k z) 0 cur w hg (by simpa using hfit) (fun u hu => by rw [List.eq_of_mem_replicate hu]; exact hone)
  simp only [Nat.add_zero, List.length_replicate] at hst
  simp [Builtin.append_, run_underlying ht, run_underlying htn, sizeOf, typeInfo, zeroValue, hi, hz, asInt, asIntOf, hw, hneg, hns1, hs, h48i, hroom, hzc, zeroCells_one, Addr.add_lit, hst]

/-- zeros appended to an own row of cells. -/
theorem run_append_zeros (t tn ty e : TypeId) (i : TypeInfo) (z : Value) (kq kn : IntKind) (ht : P.underlying t = some (.slice e)) (htn : P.underlying tn = some (.int kn)) (hi : P.info? e = some i) (hz : i.zero = some z) (hzc : z.cells = #[z]) (hone : z.oneCell' = true)
    (hs : i.size = 1) (hby : i.bytes ≤ 128) (v : Value) (n : Nat) (xs : List Value) (hown : w.ownsRow 0 e 1 v n xs) (k : Nat) (hk : n + k ≤ 549755813888) :
    ∃ v' w', (Builtin.append_ #[t, tn] ty #[v, .int kq k]).run P w = .ok v' w' ∧ w'.ownsRow 0 e 1 v' (n + k) (xs ++ List.replicate k z) ∧ w.grownBy w' v.ownBlock ∧ (v'.ownBlock = v.ownBlock ∨ v'.ownBlock = some w.heap.size) := by
  have hw : IntKind.i64.wrap (k : Int) = k := by rw [IntKind.wrap_i64]; omega
  have hw0 : IntKind.i64.wrap 0 = 0 := by decide
  have hxl : xs.length = n := by have := hown.1; omega
  have h48 : k * i.bytes ≤ 281474976710656 := by
    have := Nat.mul_le_mul (show k ≤ 549755813888 by omega) hby
    omega
  have grown : ∀ (old : Nat), old < n + k → ∀ (row : Option Nat),
      (w.drew.alloc (.cells (xs.toArray ++ Builtin.zeroCells z.cells k ++ Builtin.zeroCells z.cells (grownCap w (n + k) old e - (n + k))) e)).ownsRow 0 e 1
        (.slice (some ⟨w.heap.size, 0, none⟩) (n + k) (grownCap w (n + k) old e)) (n + k) (xs ++ List.replicate k z) ∧
      w.grownBy (w.drew.alloc (.cells (xs.toArray ++ Builtin.zeroCells z.cells k ++ Builtin.zeroCells z.cells (grownCap w (n + k) old e - (n + k))) e)) row := by
    intro old ho row
    have hge := grownCap_ge w (n + k) old e
    have hcm : grownCap w (n + k) old e ≤ maxLen := grownCap_le_maxLen w (n + k) old e (by simp only [maxLen]; omega)
    refine ⟨⟨by simp [hxl], .inr ⟨w.heap.size, _, _, rfl, Nat.zero_le _, heap_alloc_new w.drew _, hge, hcm, ?_, ?_⟩⟩, ⟨rfl, rfl, rfl, by simp, fun j hj _ => heap_alloc_old w.drew _ hj⟩⟩
    · simp only [Array.size_append, List.size_toArray, size_zeroCells, hzc, hxl, List.length_cons, List.length_nil, Nat.mul_one]
      omega
    · rw [hzc, zeroCells_one, zeroCells_one]
      simp only [Array.toList_append, List.append_assoc]
      rw [← List.append_assoc, List.take_left' (by simp [hxl])]
  by_cases hk0 : k = 0
  · subst hk0
    refine ⟨v, w, ?_, by simpa using hown, World.grownBy.refl w _, .inl rfl⟩
    obtain ⟨A, c', rfl, hc, _⟩ := row_nil_or hown
    rcases A with _ | ad
    · simp [Builtin.append_, run_underlying ht, run_underlying htn, sizeOf, typeInfo, hi, asInt, asIntOf, hw0, hc]
    · simp [Builtin.append_, run_underlying ht, run_underlying htn, sizeOf, typeInfo, hi, asInt, asIntOf, hw0, hc, storeCells]
  · have h0 : 0 < k := by omega
    rcases hown.2 with ⟨rfl, rfl⟩ | ⟨g, cap, cur, rfl, hbg, hg, hnc, hcm, hcs, htake⟩
    · have hx : xs = [] := List.eq_nil_of_length_eq_zero hxl
      subst hx
      have hb2 : (0 + k) * i.bytes ≤ 140737488355328 := by
        have := Nat.mul_le_mul (show 0 + k ≤ 549755813888 by omega) hby
        omega
      have hr := run_append_grow_zeros (P := P) w t tn ty e i z kq kn ht htn hi hz none 0 0 [] (by simp [Builtin.firstCells]) k h0 (by omega) (by omega) (by omega) h48 (growslice_fits (by omega) hb2)
      have hgr := grown 0 (by omega) (Value.ownBlock (.slice none 0 0))
      exact ⟨_, _, hr, hgr.1, hgr.2, .inr rfl⟩
    · by_cases hroom : n + k ≤ cap
      · have hr := run_append_room_zeros (P := P) w t tn ty e i z kq kn ht htn hi hz hzc hone hs hby g n cap k cur hg h0 (by omega) hroom (by omega)
        refine ⟨_, _, hr, ⟨by simp [hxl], .inr ⟨g, cap, _, rfl, hbg, setRow_heap w g cur _ e _ hg, hroom, hcm, ?_, ?_⟩⟩, ⟨rfl, rfl, rfl, by simp, fun j _ hj => setRow_other w g j _ (fun e => hj (by simp [Value.ownBlock, e]))⟩, .inl rfl⟩
        · simp only [List.size_toArray, List.length_append, List.length_take, List.length_drop, Array.length_toList, List.length_replicate]
          omega
        · rw [Nat.mul_one] at htake
          rw [htake]
          simp only [List.append_assoc]
          rw [← List.append_assoc, List.take_left' (by simp [hxl])]
      · have holds : ∀ j u, xs[j]? = some u → w.cell? ((⟨g, 0, none⟩ : Addr).add j) = some u := hown.cells (g := g) rfl
        have hb2 : (n + k) * i.bytes ≤ 140737488355328 := by
          have := Nat.mul_le_mul (show n + k ≤ 549755813888 by omega) hby
          omega
        have hold : (Builtin.firstCells i.size n (.slice (some ⟨g, 0, none⟩) n cap)).run P w.drew = .ok xs.toArray w.drew :=
          run_firstCells_some (P := P) w.drew i.size n ⟨g, 0, none⟩ n cap xs (by rw [hs, Nat.mul_one]; exact hxl) (fun j u hu => holds j u hu)
        have hr := run_append_grow_zeros (P := P) w t tn ty e i z kq kn ht htn hi hz (some ⟨g, 0, none⟩) n cap xs hold k h0 (by omega) (by omega) (by omega) h48 (growslice_fits (by omega) hb2)
        have hgr := grown cap (by omega) (Value.ownBlock (.slice (some ⟨g, 0, none⟩) n cap))
        exact ⟨_, _, hr, hgr.1, hgr.2, .inr rfl⟩
end

section
variable {C : Ctx} {fr : Fr} {Γ Γ' Γ1 : List OA} {Φ : List SP}
  {d : Nat} {ty : TypeId} {pos : String} {aft : Array Edge} {g : Option (Nat × Bool)}
theorem E_appendZ {t tn e : TypeId} {x y : Operand} {v : Value} {n k nm : Nat} {bs all : List UInt8} {xs : List Value} {i : TypeInfo} {kq kn : IntKind} {ii : Int}
    (hx : evO fr x = some v) (hy : evO fr y = some (.int kq ii)) (hii : ii = (k : Int)) (hp : Pick (.row v e 1 n xs) Γ Γ') (hxs : xs = bs.map bcell)
    (ht : C.P.underlying t = some (.slice e)) (htn : C.P.underlying tn = some (.int kn)) (hi : C.P.info? e = some i) (hz : i.zero = some (.int .u8 0)) (hsize : i.size = 1)
    (hby : i.bytes ≤ 128) (hb : n + k ≤ 549755813888) (hnm : n + k = nm) (hall : bs ++ List.replicate k 0 = all) :
    Effs C fr Γ Φ ⟨some d, .call { callee := .builtin .append, args := #[x, y], argTypes := #[t, tn] }, ty, pos, aft, g⟩ (X := Value) (fun _ => True) (fun q => q) (fun v' => .row v' e 1 nm (all.map bcell) :: Γ') (fun _ => Φ) := by
  subst hnm; subst hall; subst hxs; subst hii
  refine ⟨fun _ => AllIn.refl _, fun R a w ha hw => ?_⟩
  have hw' := pick_holds (pick_app hp R) hw
  obtain ⟨v', w', hr, h2, h3, h5⟩ := run_append_zeros (P := C.P) w t tn ty e i (.int .u8 0) kq kn ht htn hi hz rfl rfl hsize hby v n _ hw'.own.1 k hb
  refine .val (v := v') (w' := w') ?_ ⟨v', trivial, rfl, ?_⟩
  · simp only [execOp, resolve, invoke, builtin, Sem.run_bind, Sem.run_pure, Result.andThen_ok, List.map_toArray, List.map_cons, List.map_nil, evO_sound ha hx, evO_sound ha hy, hr]
  · have e1 : ((bs ++ List.replicate k (0 : UInt8)).map bcell) = bs.map bcell ++ List.replicate k (.int .u8 0) := by rw [List.map_append, List.map_replicate]; rfl
    rw [e1]
    exact hw'.grown h2 h3 h5
theorem R_capNil {t : TypeId} {x : Operand} {A : Option Addr} {n c : Nat} {e : TypeId} (hx : evO fr x = some (.slice A n c)) (ht : C.P.underlying t = some (.slice e)) :
    Runs C fr Γ Φ ⟨some d, .call { callee := .builtin .cap, args := #[x], argTypes := #[t] }, ty, pos, aft, g⟩ (.int .i64 (c : Int)) := Runs.pure fun a w ha hw => by
  simp [execOp, resolve, invoke, builtin, evO_sound ha hx, Builtin.cap_, run_underlying ht, goInt]
end

section
variable {C : Ctx} {fr : Fr} {Γ Γ' Γ1 : List OA} {Φ : List SP}
  {d : Nat} {ty : TypeId} {pos : String} {aft : Array Edge} {g : Option (Nat × Bool)}
theorem fill_pre {size : Nat} {R : List OA} {w : World} (hw : Holds C (Γ ++ R) Φ w) : ∀ {ps : List (Nat × Value)} {k : Nat} {us done rest : List Value}, SeqE C Γ Φ size k ps us → done.length = k * size → us.length ≤ rest.length →
    Instr.fill (fun i => some (i * size, size)) (done ++ rest).toArray ps = some (done ++ (us ++ rest.drop us.length)).toArray
  | [], k, us, done, rest, h, _, hr => by
    have h : us = [] := h
    subst h
    rfl
  | (i, v) :: r, k, us, done, rest, h, hd, hr => by
    obtain ⟨rfl, u1, u2, rfl, hl, hc, hs⟩ := h
    have hc := hc R w hw
    rw [List.length_append] at hr
    have hlen : i * size + size ≤ (done ++ rest).length := by simp [hd]; omega
    have hf := fold_set u1 0 (i * size) (done ++ rest) (by simpa [hl] using hlen)
    have e1 : (done ++ rest).take (i * size) = done := by rw [← hd]; simp
    have e2 : (done ++ rest).drop (i * size + u1.length) = rest.drop u1.length := by rw [← hd, ← List.drop_drop]; simp
    simp only [Nat.add_zero, e1, e2] at hf
    simp only [Instr.fill, hc]
    rw [if_neg (by simp [hl] at hlen ⊢; omega)]
    have ih := fill_pre hw hs (done := done ++ u1) (rest := rest.drop u1.length) (by simp [hd, hl, Nat.add_mul]) (by rw [List.length_drop]; omega)
    rw [List.length_append, ← List.drop_drop, List.append_assoc u1 u2, ← List.append_assoc done u1, ← ih]
    congr 1
    rw [← Array.foldl_toList]
    simpa using hf
theorem R_buildArr {t e : TypeId} {parts : Array (Nat × Operand)} {pv : List (Nat × Value)} {size n : Nat} {us zs ds : List Value} {z : Value}
    (hpv : evPs fr parts.toList = some pv) (hq : SeqE C Γ Φ size 0 pv us) (hz : ∀ w, (zeroValue t).run C.P w = .ok z w) (hzs : listO z.cells.toList = some zs) (ht : C.P.underlying t = some (.array n e))
    (hs : ∀ w, (sizeOf e).run C.P w = .ok size w) (hl : Nat.ble us.length zs.length = true) (hds : us ++ zs.drop us.length = ds) :
    Runs C fr Γ Φ ⟨some d, .build t parts, ty, pos, aft, g⟩ (.agg ds.toArray) :=
  Runs.pure fun a w ha hw => by
    subst hds
    have h1 := fill_pre (R := []) (by simpa using hw) hq (done := []) (rest := zs) (by simp) (Nat.le_of_ble_eq_true hl)
    simp only [List.nil_append] at h1
    have e1 : z.cells = zs.toArray := by rw [← listO_eq hzs]
    simp only [execOp, evPs_sound ha hpv, Instr.build, Sem.run_bind, hz, Result.andThen_ok, run_underlying ht, hs, e1, h1, Sem.run_pure]
end
end Go.Hs

/-
  Contracts of the functions of layer 1: reading.
-/
namespace Go.Proofs.Ytbdcpahifcbcfaa.C01
open Go Go.RowKit Go.Hs
attribute [local irreducible] WL W WQ PL Runs Effs AllE Ent SubO FrIn Pick OneC Ones CellsE PartsE SeqE UZ By Sl Pt Ct

def okE (len : Nat) (at_ : Int) : Int := if 0 ≤ at_ ∧ at_ ≤ len then 0 else 8

def tkE (len : Nat) (at_ n : Int) : Int := if ¬ (0 ≤ at_ ∧ at_ ≤ len) then 8 else if n < 0 then 2 else if len - at_ < n then 10 else 0
def tkB (xs : List UInt8) (at_ n : Int) : List UInt8 := if tkE xs.length at_ n = 0 then (xs.drop at_.toNat).take n.toNat else []
def tkD (xs : List UInt8) (at_ n : Int) : List UInt8 := if tkE xs.length at_ n = 0 then xs else []
def tkA (len : Nat) (at_ n : Int) : Int := if tkE len at_ n = 0 then at_ + n else 0

end Go.Proofs.Ytbdcpahifcbcfaa.C01

/-
  Contracts of the functions of layer 1 that read numbers and texts, of the reference's, and of the comparisons.
-/
namespace Go.Proofs.Ytbdcpahifcbcfaa.C01
open Go Go.RowKit Go.Hs
attribute [local irreducible] WL W WQ PL Runs Effs AllE Ent SubO FrIn Pick OneC Ones CellsE PartsE SeqE UZ By Sl Pt Ct

def leN : List UInt8 → Nat
  | [] => 0
  | b :: r => b.toNat + 256 * leN r

theorem leN_lt : ∀ bs : List UInt8, leN bs < 256 ^ bs.length
  | [] => by simp [leN]
  | b :: r => by
    have := leN_lt r
    have := b.toNat_lt
    simp only [leN, List.length_cons, Nat.pow_succ]
    omega

theorem leN_snoc : ∀ (bs : List UInt8) (i : Nat), i < bs.length → leN (bs.take (i + 1)) = leN (bs.take i) + (bs.getD i 0).toNat * 256 ^ i
  | [], i, h => by simp at h
  | b :: r, 0, h => by simp [leN]
  | b :: r, i + 1, h => by
    have ih := leN_snoc r i (by simpa using h)
    simp only [List.take_succ_cons, leN, ih, List.getD_cons_succ, Nat.pow_succ]
    rw [Nat.mul_add, Nat.mul_comm (256 ^ i) 256, Nat.mul_left_comm]
    omega

theorem leN_cons (bs : List UInt8) (i : Nat) (h : i < bs.length) : leN (bs.drop i) = leN (bs.drop (i + 1)) * 256 + (bs.getD i 0).toNat := by
  rw [List.drop_eq_getElem_cons h, leN]
  simp [List.getD, List.getElem?_eq_getElem h]
  omega

set_option maxRecDepth 100000 in
theorem copy_fn (v : Value) (xs : List UInt8) (hx : xs.length ≤ 1000000000) : Ct Try.prog 63 [v] [] [By v xs]
    (X := Value) (fun _ => True) (fun x => x) (fun x => [.row x 5 1 xs.length (xs.map bcell)]) (fun _ => []) := by
  refine Ct_intro Try.func63 rfl Try.ntmps63 (by simp) _ rfl (fun w0 O0 => ?_)
  repeat (first | refine n1 ?_ | refine n2 (fun b _ => ?_) | refine n3 (fun _ _ => ?_) | refine n4 ?_ | refine n5 ?_ | refine WL_nil ?_ | refine W_seq ?_ | refine W_region ?_ | refine n7 ?_ | refine n8 ?_ | refine W_block ?_ | refine W_skip ?_ | refine W_ret ?_ | refine W_exit ?_ | refine WQ_then ?_ | refine WQ_then_ret ?_ | refine WQ_then_exit ?_ | refine WQ_block_normal ?_ | refine WQ_block_ret ?_ | refine WQ_block_exit ?_ | refine n9 ?_)
  (apply WL_effs; exact rfl; exact rfl; exact rfl; (apply E_buildSlice; exact rfl; (focus (repeat (first | apply SeqE.nil | (apply SeqE.cons; exact rfl; (focus (first | (apply CellsE.lit; exact rfl) | (apply CellsE.one; (first | (apply OneC.lit; exact rfl) | (apply OneC.by_; (repeat' (first | exact mcs | apply mct)); done) | (apply OneC.sl; (repeat' (first | exact mcs | apply mct)); done) | (apply OneC.rw; (repeat' (first | exact mcs | apply mct)); done) | (apply OneC.row; (repeat' (first | exact Pick.head _ _ | apply Pick.tail))))))); exact rfl) | exact rfl))); exact rfl; (first | (intro _; exact (rfl : _ = Result.ok 1 _)) | (intro _; exact (rfl : _ = Result.ok 2 _)) | (intro _; exact (rfl : _ = Result.ok 3 _)) | (intro _; exact (rfl : _ = Result.ok 4 _)) | (intro _; exact (rfl : _ = Result.ok 5 _)) | (intro _; exact (rfl : _ = Result.ok 6 _)) | (intro _; exact (rfl : _ = Result.ok 7 _)) | (intro _; exact (rfl : _ = Result.ok 8 _)) | (intro _; exact (rfl : _ = Result.ok 9 _)) | (intro _; exact (rfl : _ = Result.ok 13 _)) | (intro _; exact (rfl : _ = Result.ok 14 _)) | (intro _; exact (rfl : _ = Result.ok 26 _)) | (intro _; exact (rfl : _ = Result.ok 40 _)) | (intro _; exact (rfl : _ = Result.ok 41 _)) | (intro _; exact (rfl : _ = Result.ok 42 _)) | (intro _; exact (rfl : _ = Result.ok 43 _)) | (intro _; exact (rfl : _ = Result.ok 44 _)) | (intro _; exact (rfl : _ = Result.ok 45 _)) | (intro _; exact (rfl : _ = Result.ok 46 _))); (intro _; exact rfl); exact rfl; exact Nat.le_of_ble_eq_true rfl; exact Nat.le_of_ble_eq_true rfl); skip)
  intro out _
  repeat (first | refine n1 ?_ | refine n2 (fun b _ => ?_) | refine n3 (fun _ _ => ?_) | refine n4 ?_ | refine n5 ?_ | refine WL_nil ?_ | refine W_seq ?_ | refine W_region ?_ | refine n7 ?_ | refine n8 ?_ | refine W_block ?_ | refine W_skip ?_ | refine W_ret ?_ | refine W_exit ?_ | refine WQ_then ?_ | refine WQ_then_ret ?_ | refine WQ_then_exit ?_ | refine WQ_block_normal ?_ | refine WQ_block_ret ?_ | refine WQ_block_exit ?_ | refine n9 ?_)
  (apply WL_effs; exact rfl; exact rfl; exact rfl; (apply E_appendBy; exact rfl; exact rfl; (repeat' (first | exact Pick.head _ _ | apply Pick.tail)); (repeat' (first | exact mcs | apply mct)); (first | exact nil_map | exact one_map _ | exact two_map _ _ | exact rfl); exact rfl; exact rfl; exact rfl; exact rfl; exact rfl; exact Nat.le_of_ble_eq_true rfl; (first | omega | (simp only [List.length_take, List.length_drop, List.length_append, List.length_cons, List.length_nil, List.length_map, List.length_replicate]; omega)); (focus (first | exact Nat.zero_add _ | exact rfl)); (focus ((try (conv => lhs; simp only [Nat.add_sub_cancel_left, Nat.sub_zero, List.drop_zero, List.nil_append])); (first | done | exact rfl)))); skip)
  intro u _
  repeat (first | refine n1 ?_ | refine n2 (fun b _ => ?_) | refine n3 (fun _ _ => ?_) | refine n4 ?_ | refine n5 ?_ | refine WL_nil ?_ | refine W_seq ?_ | refine W_region ?_ | refine n7 ?_ | refine n8 ?_ | refine W_block ?_ | refine W_skip ?_ | refine W_ret ?_ | refine W_exit ?_ | refine WQ_then ?_ | refine WQ_then_ret ?_ | refine WQ_then_exit ?_ | refine WQ_block_normal ?_ | refine WQ_block_ret ?_ | refine WQ_block_exit ?_ | refine n9 ?_)
  ((apply ret1 Try.results63 ( u)); (focus (first | trivial | assumption | omega)); (focus (first | exact RV_tmp rfl | (apply RV_cellN; exact rfl; (repeat' (first | exact Pick.head _ _ | apply Pick.tail)); (intro _; exact rfl); (intro _; exact rfl); exact rfl) | (apply RV_cell1; exact rfl; (repeat' (first | exact Pick.head _ _ | apply Pick.tail)); (intro _; exact rfl); exact rfl)));  (focus (first | exact rfl | (simp; done))); (focus (repeat (first | exact SubO.nil _ | (apply SubO.cons; (focus (repeat' (first | exact Pick.head _ _ | apply Pick.tail))))))); (focus (repeat (first | exact AllE.nil _ | (apply AllE.cons; (focus (first | exact ent_nilBy | exact ent_nilSl | (apply Ent.mem; repeat' (first | exact mcs | apply mct)))))))))

def doE (len : Nat) (at_ : Int) : Int := if ¬ (0 ≤ at_ ∧ at_ ≤ len) then 8 else if at_ < len then 11 else 0

end Go.Proofs.Ytbdcpahifcbcfaa.C01

/-
  Contracts of the functions of layer 1 that read and set bits.
-/
namespace Go.Proofs.Ytbdcpahifcbcfaa.C01
open Go Go.RowKit Go.Hs
attribute [local irreducible] WL W WQ PL Runs Effs AllE Ent SubO FrIn Pick OneC Ones CellsE PartsE SeqE UZ By Sl Pt Ct

theorem pow63 {k : Nat} (h : k ≤ 63) : (2 : Int) ^ k ≤ 9223372036854775808 := by
  have : (2 : Nat) ^ k ≤ 2 ^ 63 := Nat.pow_le_pow_right (by decide) h
  have h2 : ((2 ^ k : Nat) : Int) ≤ ((2 ^ 63 : Nat) : Int) := Int.ofNat_le.2 this
  simpa using h2
theorem powc (k : Nat) : ((2 ^ k : Nat) : Int) = 2 ^ k := by simp

def inB (a n : Int) : Prop := 0 ≤ a ∧ a ≤ 64 ∧ 1 ≤ n ∧ n ≤ 64 - a
instance (a n : Int) : Decidable (inB a n) := by unfold inB; infer_instance

theorem mask_eq {m : Nat} (h : m ≤ 64) : (18446744073709551615 : Int).fdiv (2 ^ (min ((64 : Int) - (m : Int)).toNat IntKind.u64.bits)) = ((2 ^ m - 1 : Nat) : Int) := by
  have e : ((64 : Int) - (m : Int)).toNat = 64 - m := by omega
  have e2 : min (64 - m) IntKind.u64.bits = 64 - m := Nat.min_eq_left (show 64 - m ≤ 64 by omega)
  rw [e, e2]
  have : ∀ m, m < 65 → (18446744073709551615 : Int).fdiv (2 ^ (64 - m)) = ((2 ^ m - 1 : Nat) : Int) := by decide
  exact this m (by omega)

theorem p64 : (2 : Nat) ^ 64 = 18446744073709551616 := by decide
theorem ple {a b : Nat} (h : a ≤ b) : (2 : Nat) ^ a ≤ 2 ^ b := Nat.pow_le_pow_right (by decide) h
theorem plt {a : Nat} (h : a ≤ 64) : (2 : Nat) ^ a ≤ 18446744073709551616 := p64 ▸ ple h
theorem ppos (a : Nat) : 0 < (2 : Nat) ^ a := Nat.pow_pos (by decide)

theorem shr_eq (v k : Nat) (hk : k ≤ 64) : (v : Int).fdiv (2 ^ (min ((k : Int)).toNat IntKind.u64.bits)) = ((v / 2 ^ k : Nat) : Int) := by
  have e2 : min ((k : Int)).toNat IntKind.u64.bits = k := by
    rw [Int.toNat_natCast]
    exact Nat.min_eq_left (show k ≤ 64 by omega)
  rw [e2, ← powc, Int.fdiv_eq_ediv_of_nonneg _ (Int.natCast_nonneg _)]
  rfl
theorem shl_eq (v k : Nat) (hk : k ≤ 64) (hv : v * 2 ^ k < 18446744073709551616) : IntKind.u64.wrap ((v : Int) * (2 ^ (min ((k : Int)).toNat IntKind.u64.bits))) = ((v * 2 ^ k : Nat) : Int) := by
  have e2 : min ((k : Int)).toNat IntKind.u64.bits = k := by
    rw [Int.toNat_natCast]
    exact Nat.min_eq_left (show k ≤ 64 by omega)
  rw [e2, ← powc, ← Int.natCast_mul]
  exact wx_u64 (by omega)

theorem and_eq (v k m : Nat) (hv : v < 18446744073709551616) (hm : m ≤ 64) : bits .and .u64 ((v / 2 ^ k : Nat) : Int) ((2 ^ m - 1 : Nat) : Int) = ((v / 2 ^ k % 2 ^ m : Nat) : Int) := by
  have := plt hm
  have := ppos m
  rw [u64_and_nat _ _ (Nat.lt_of_le_of_lt (Nat.div_le_self _ _) hv) (by omega), Nat.and_two_pow_sub_one_eq_mod]

theorem over_eq (x m : Nat) (hx : x < 18446744073709551616) (hm : m ≤ 64) : bits .andNot .u64 (x : Int) ((2 ^ m - 1 : Nat) : Int) = ((x / 2 ^ m * 2 ^ m : Nat) : Int) := by
  have := plt hm
  have := ppos m
  rw [u64_andNot_nat _ _ hx (by omega)]
  congr 1
  apply Nat.eq_of_testBit_eq
  intro i
  rw [show (18446744073709551615 : Nat) - (2 ^ m - 1) = 2 ^ 64 - ((2 ^ m - 1) + 1) by rw [p64]; omega, Nat.mul_comm]
  rw [Nat.testBit_and, Nat.testBit_two_pow_sub_succ (by rw [p64]; omega), Nat.testBit_two_pow_sub_one, Nat.testBit_two_pow_mul, Nat.testBit_div_two_pow]
  by_cases h : i < 64
  · by_cases h2 : i < m
    · simp [h2, h, Nat.not_le.2 h2]
    · simp [h2, h, Nat.not_lt.1 h2]
  · have : x.testBit i = false := Nat.testBit_lt_two_pow (Nat.lt_of_lt_of_le hx (p64 ▸ ple (by omega)))
    have h2 : m ≤ i := by omega
    simp [h2, this]

theorem mid_le (v k m : Nat) : v / 2 ^ k % 2 ^ m * 2 ^ k ≤ v := Nat.le_trans (Nat.mul_le_mul_right _ (Nat.mod_le _ _)) (Nat.div_mul_le_self _ _)

theorem parts_eq (v k m : Nat) : v = 2 ^ (k + m) * (v / 2 ^ (k + m)) + v / 2 ^ k % 2 ^ m * 2 ^ k + v % 2 ^ k := by
  have h1 := Nat.div_add_mod v (2 ^ k)
  have h2 := Nat.div_add_mod (v / 2 ^ k) (2 ^ m)
  rw [Nat.div_div_eq_div_mul, ← Nat.pow_add] at h2
  have h3 : 2 ^ (k + m) * (v / 2 ^ (k + m)) + v / 2 ^ k % 2 ^ m * 2 ^ k = 2 ^ k * (v / 2 ^ k) := by
    conv => rhs; rw [← h2]
    rw [Nat.mul_add, ← Nat.mul_assoc, ← Nat.pow_add, Nat.mul_comm (2 ^ k) (_ % _)]
  omega

theorem hole_eq (v k m : Nat) (hv : v < 18446744073709551616) (hm : k + m ≤ 64) :
    bits .andNot .u64 (v : Int) (((2 ^ m - 1) * 2 ^ k : Nat) : Int) = ((2 ^ (k + m) * (v / 2 ^ (k + m)) ||| v % 2 ^ k : Nat) : Int) := by
  have h1 := plt hm
  have h2 := ppos k
  have h3 : (2 ^ m - 1) * 2 ^ k < 2 ^ (k + m) := by
    rw [Nat.pow_add, Nat.mul_comm]
    exact Nat.mul_lt_mul_of_pos_left (by have := ppos m; omega) h2
  rw [u64_andNot_nat _ _ hv (by omega)]
  congr 1
  apply Nat.eq_of_testBit_eq
  intro i
  rw [show (18446744073709551615 : Nat) - (2 ^ m - 1) * 2 ^ k = 2 ^ 64 - ((2 ^ m - 1) * 2 ^ k + 1) by rw [p64]; omega]
  rw [Nat.testBit_and, Nat.testBit_two_pow_sub_succ (by rw [p64]; omega), Nat.mul_comm (2 ^ m - 1), Nat.testBit_two_pow_mul, Nat.testBit_two_pow_sub_one, Nat.testBit_or, Nat.testBit_two_pow_mul, Nat.testBit_div_two_pow, Nat.testBit_mod_two_pow]
  by_cases h : i < 64
  · by_cases ha : i < k
    · simp [h, ha, show ¬ k ≤ i by omega, show ¬ k + m ≤ i by omega]
    · by_cases hb : i < k + m
      · simp [h, ha, show k ≤ i by omega, show ¬ k + m ≤ i by omega, show i - k < m by omega]
      · simp [h, ha, show k ≤ i by omega, show k + m ≤ i by omega, show ¬ i - k < m by omega, show i - (k + m) + (k + m) = i by omega]
  · have : v.testBit i = false := Nat.testBit_lt_two_pow (Nat.lt_of_lt_of_le hv (p64 ▸ ple (by omega)))
    have h2 : k + m ≤ i := by omega
    simp [h2, this]

theorem put_eq (v k m x : Nat) (hv : v < 18446744073709551616) (hm : k + m ≤ 64) (hx : x < 2 ^ m) :
    bits .or .u64 ((2 ^ (k + m) * (v / 2 ^ (k + m)) ||| v % 2 ^ k : Nat) : Int) ((x * 2 ^ k : Nat) : Int) = ((v - v / 2 ^ k % 2 ^ m * 2 ^ k + x * 2 ^ k : Nat) : Int) := by
  have h1 := plt hm
  have h2 := ppos k
  have hl : v % 2 ^ k < 2 ^ k := Nat.mod_lt _ h2
  have h3 : x * 2 ^ k + v % 2 ^ k < 2 ^ (k + m) := by
    have : (x + 1) * 2 ^ k ≤ 2 ^ m * 2 ^ k := Nat.mul_le_mul_right _ hx
    rw [Nat.pow_add, Nat.mul_comm (2 ^ k)]
    rw [Nat.add_mul] at this
    omega
  have e := parts_eq v k m
  have hlk : v % 2 ^ k < 2 ^ (k + m) := by omega
  rw [← Nat.two_pow_add_eq_or_of_lt hlk]
  rw [u64_or_nat _ _ (by omega) (by omega)]
  congr 1
  have e2 : v - v / 2 ^ k % 2 ^ m * 2 ^ k + x * 2 ^ k = 2 ^ (k + m) * (v / 2 ^ (k + m)) + (x * 2 ^ k + v % 2 ^ k) := by omega
  rw [e2, Nat.two_pow_add_eq_or_of_lt hlk, Nat.two_pow_add_eq_or_of_lt h3, Nat.mul_comm x, Nat.two_pow_add_eq_or_of_lt hl]
  rw [Nat.or_assoc, Nat.or_comm (v % 2 ^ k)]
end Go.Proofs.Ytbdcpahifcbcfaa.C01

/-
  Contracts of the functions of layer 1 that write numbers and texts.
-/
namespace Go.Proofs.Ytbdcpahifcbcfaa.C01
open Go Go.RowKit Go.Hs
attribute [local irreducible] WL W WQ PL Runs Effs AllE Ent SubO FrIn Pick OneC Ones CellsE PartsE SeqE UZ By Sl Pt Ct

/-- the n lowest bytes of a number, the lowest first. -/
def leB (n v : Nat) : List UInt8 := (List.range n).map fun i => UInt8.ofNat (v / 256 ^ i)
theorem leB_length (n v : Nat) : (leB n v).length = n := by simp [leB]
theorem leB_succ (n v : Nat) : leB (n + 1) v = leB n v ++ [UInt8.ofNat (v / 256 ^ n)] := by simp [leB, List.range_succ]

theorem shr8_eq (v k : Nat) (hk : k ≤ 8) : (v : Int).fdiv (2 ^ (min ((8 * (k : Int))).toNat IntKind.u64.bits)) = ((v / 256 ^ k : Nat) : Int) := by
  rw [show (8 * (k : Int)) = ((8 * k : Nat) : Int) by omega, shr_eq v (8 * k) (by omega), Nat.pow_mul]
theorem low8 (x : Nat) : IntKind.u8.wrap (x : Int) = (((UInt8.ofNat x).toNat : Nat) : Int) := by
  rw [IntKind.wrap_u8]
  simp

end Go.Proofs.Ytbdcpahifcbcfaa.C01

/-
  Contracts of the functions of layer 1 that write numbers and texts: the reference's, and texts.
-/
namespace Go.Proofs.Ytbdcpahifcbcfaa.C01
open Go Go.RowKit Go.Hs
attribute [local irreducible] WL W WQ PL Runs Effs AllE Ent SubO FrIn Pick OneC Ones CellsE PartsE SeqE UZ By Sl Pt Ct

theorem low8m (x : Nat) : IntKind.u8.wrap ((x % 256 : Nat) : Int) = (((UInt8.ofNat x).toNat : Nat) : Int) := by
  rw [IntKind.wrap_u8]
  simp

theorem quo256 (y : Nat) (h : y ≤ 18446744073709551615) : IntKind.u64.wrap ((y : Int).tdiv 256) = ((y / 256 : Nat) : Int) := by
  rw [show ((y : Int).tdiv 256) = ((y / 256 : Nat) : Int) from rfl]
  exact wx_u64 (by omega)

set_option maxRecDepth 100000 in
set_option maxHeartbeats 1000000 in
theorem rput_fn (dv : Value) (xs : List UInt8) (v n : Nat) (hx : xs.length ≤ 1000000000) (hv : v < 18446744073709551616) (hn : n ≤ 8) : Ct Try.prog 58 [dv, .int .u64 (v : Int), .int .i64 (n : Int)] [] [By dv xs]
    (X := Value) (fun _ => True) (fun x => x) (fun x => [.row x 5 1 (xs.length + n) ((xs ++ leB n v).map bcell)]) (fun _ => []) := by
  refine Ct_intro Try.func58 rfl Try.ntmps58 (by simp) _ rfl (fun w0 O0 => ?_)
  repeat (first | refine n1 ?_ | refine n2 (fun b _ => ?_) | refine n3 (fun _ _ => ?_) | refine n4 ?_ | refine n5 ?_ | refine WL_nil ?_ | refine W_seq ?_ | refine W_region ?_ | refine n7 ?_ | refine n8 ?_ | refine W_block ?_ | refine W_skip ?_ | refine W_ret ?_ | refine W_exit ?_ | refine WQ_then ?_ | refine WQ_then_ret ?_ | refine WQ_then_exit ?_ | refine WQ_block_normal ?_ | refine WQ_block_ret ?_ | refine WQ_block_exit ?_ | refine n9 ?_)
  (apply WL_effs; exact rfl; exact rfl; exact rfl; apply E_call; exact rfl; (intro _ _; simp); exact copy_fn dv xs hx; (repeat (first | exact AllE.nil _ | (apply AllE.cons; (focus (first | exact ent_nilBy | exact ent_nilSl | (apply Ent.mem; repeat' (first | exact mcs | apply mct))))))); (intro _; exact rfl); (intro _; exact rfl))
  intro out _
  repeat (first | refine n1 ?_ | refine n2 (fun b _ => ?_) | refine n3 (fun _ _ => ?_) | refine n4 ?_ | refine n5 ?_ | refine WL_nil ?_ | refine W_seq ?_ | refine W_region ?_ | refine n7 ?_ | refine n8 ?_ | refine W_block ?_ | refine W_skip ?_ | refine W_ret ?_ | refine W_exit ?_ | refine WQ_then ?_ | refine WQ_then_ret ?_ | refine WQ_then_exit ?_ | refine WQ_block_normal ?_ | refine WQ_block_ret ?_ | refine WQ_block_exit ?_ | refine n9 ?_)
  ((apply W_loopK (X := Nat × Nat × List UInt8 × Value) [7, 8, 1] [0] (fun x => x.1 ≤ n ∧ x.2.1 = v / 256 ^ x.1 ∧ x.2.2.1 = xs ++ leB x.1 v) (fun x => [(7, x.2.2.2), (8, .int .i64 (x.1 : Int)), (1, .int .u64 (x.2.1 : Int))]) (fun x => [.row x.2.2.2 5 1 (xs.length + x.1) (x.2.2.1.map bcell)]) (fun _ => []) (fun x => n - x.1) ((0, v, xs, out))); (focus exact ⟨Nat.zero_le _, by simp, by simp [leB]⟩); exact rfl; exact rfl; (intro _; exact rfl); (intro _; exact rfl); (intro _; exact rfl); (focus (repeat (first | exact FrIn.nil _ | (apply FrIn.cons; exact rfl; (first | exact rfl | (congr 1; first | omega | (dsimp only; omega)) | (simp; done)))))); (focus (repeat (first | exact SubO.nil _ | (apply SubO.cons; (focus (repeat' (first | exact Pick.head _ _ | apply Pick.tail))))))); (focus (repeat (first | exact AllE.nil _ | (apply AllE.cons; (focus (first | exact ent_nilBy | exact ent_nilSl | (apply Ent.mem; repeat' (first | exact mcs | apply mct)))))))); intro x hx)
  obtain ⟨k, y, ys, o⟩ := x
  obtain ⟨hk, hy, hz⟩ := hx
  replace hy : y = v / 256 ^ k := hy
  replace hz : ys = xs ++ leB k v := hz
  replace hk : k ≤ n := hk
  subst hz
  subst hy
  have hl : (xs ++ leB k v).length = xs.length + k := by rw [List.length_append, leB_length]
  have hd : v / 256 ^ k ≤ v := Nat.div_le_self _ _
  by_cases h : k < n
  · repeat (first | refine n1 ?_ | refine n2 (fun b _ => ?_) | refine n3 (fun _ _ => ?_) | refine n4 ?_ | refine n5 ?_ | refine WL_nil ?_ | refine W_seq ?_ | refine W_region ?_ | refine n7 ?_ | refine n8 ?_ | refine W_block ?_ | refine W_skip ?_ | refine W_ret ?_ | refine W_exit ?_ | refine WQ_then ?_ | refine WQ_then_ret ?_ | refine WQ_then_exit ?_ | refine WQ_block_normal ?_ | refine WQ_block_ret ?_ | refine WQ_block_exit ?_ | refine n9 ?_)
    refine WL_runs rfl rfl rfl (R_rem rfl rfl (by decide) (show (((v / 256 ^ k : Nat) : Int).tmod 256) = ((v / 256 ^ k % 256 : Nat) : Int) from rfl)) ?_
    refine WL_runs rfl rfl rfl (R_convi rfl rfl rfl (low8m _)) ?_
    (apply WL_effs; exact rfl; exact rfl; exact rfl; (apply E_buildSlice; exact rfl; (focus (repeat (first | apply SeqE.nil | (apply SeqE.cons; exact rfl; (focus (first | (apply CellsE.lit; exact rfl) | (apply CellsE.one; (first | (apply OneC.lit; exact rfl) | (apply OneC.by_; (repeat' (first | exact mcs | apply mct)); done) | (apply OneC.sl; (repeat' (first | exact mcs | apply mct)); done) | (apply OneC.rw; (repeat' (first | exact mcs | apply mct)); done) | (apply OneC.row; (repeat' (first | exact Pick.head _ _ | apply Pick.tail))))))); exact rfl) | exact rfl))); exact rfl; (first | (intro _; exact (rfl : _ = Result.ok 1 _)) | (intro _; exact (rfl : _ = Result.ok 2 _)) | (intro _; exact (rfl : _ = Result.ok 3 _)) | (intro _; exact (rfl : _ = Result.ok 4 _)) | (intro _; exact (rfl : _ = Result.ok 5 _)) | (intro _; exact (rfl : _ = Result.ok 6 _)) | (intro _; exact (rfl : _ = Result.ok 7 _)) | (intro _; exact (rfl : _ = Result.ok 8 _)) | (intro _; exact (rfl : _ = Result.ok 9 _)) | (intro _; exact (rfl : _ = Result.ok 13 _)) | (intro _; exact (rfl : _ = Result.ok 14 _)) | (intro _; exact (rfl : _ = Result.ok 26 _)) | (intro _; exact (rfl : _ = Result.ok 40 _)) | (intro _; exact (rfl : _ = Result.ok 41 _)) | (intro _; exact (rfl : _ = Result.ok 42 _)) | (intro _; exact (rfl : _ = Result.ok 43 _)) | (intro _; exact (rfl : _ = Result.ok 44 _)) | (intro _; exact (rfl : _ = Result.ok 45 _)) | (intro _; exact (rfl : _ = Result.ok 46 _))); (intro _; exact rfl); exact rfl; exact Nat.le_of_ble_eq_true rfl; exact Nat.le_of_ble_eq_true rfl); skip)
    intro q _
    repeat (first | refine n1 ?_ | refine n2 (fun b _ => ?_) | refine n3 (fun _ _ => ?_) | refine n4 ?_ | refine n5 ?_ | refine WL_nil ?_ | refine W_seq ?_ | refine W_region ?_ | refine n7 ?_ | refine n8 ?_ | refine W_block ?_ | refine W_skip ?_ | refine W_ret ?_ | refine W_exit ?_ | refine WQ_then ?_ | refine WQ_then_ret ?_ | refine WQ_then_exit ?_ | refine WQ_block_normal ?_ | refine WQ_block_ret ?_ | refine WQ_block_exit ?_ | refine n9 ?_)
    (apply WL_effs; exact rfl; exact rfl; exact rfl; (apply E_appendRowB; exact rfl; exact rfl; (repeat' (first | exact Pick.head _ _ | apply Pick.tail)); (repeat' (first | exact Pick.head _ _ | apply Pick.tail)); (first | exact nil_map | exact one_map _ | exact two_map _ _ | exact rfl); (first | exact nil_map | exact one_map _ | exact two_map _ _ | exact rfl); exact rfl; exact rfl; exact rfl; exact rfl; exact rfl; exact Nat.le_of_ble_eq_true rfl; (first | omega | (simp only [List.length_take, List.length_drop, List.length_append, List.length_cons, List.length_nil, List.length_map, List.length_replicate]; omega)); (focus (first | exact Nat.zero_add _ | exact rfl)); (focus ((try (conv => lhs; simp only [Nat.add_sub_cancel_left, Nat.sub_zero, List.drop_zero, List.nil_append])); (first | done | exact rfl)))); skip)
    intro o2 _
    rw [List.append_assoc, ← leB_succ]
    repeat (first | refine n1 ?_ | refine n2 (fun b _ => ?_) | refine n3 (fun _ _ => ?_) | refine n4 ?_ | refine n5 ?_ | refine WL_nil ?_ | refine W_seq ?_ | refine W_region ?_ | refine n7 ?_ | refine n8 ?_ | refine W_block ?_ | refine W_skip ?_ | refine W_ret ?_ | refine W_exit ?_ | refine WQ_then ?_ | refine WQ_then_ret ?_ | refine WQ_then_exit ?_ | refine WQ_block_normal ?_ | refine WQ_block_ret ?_ | refine WQ_block_exit ?_ | refine n9 ?_)
    refine WL_runs rfl rfl rfl (R_quo rfl rfl (by decide) (quo256 (v / 256 ^ k) (by omega))) ?_
    repeat (first | refine n1 ?_ | refine n2 (fun b _ => ?_) | refine n3 (fun _ _ => ?_) | refine n4 ?_ | refine n5 ?_ | refine WL_nil ?_ | refine W_seq ?_ | refine W_region ?_ | refine n7 ?_ | refine n8 ?_ | refine W_block ?_ | refine W_skip ?_ | refine W_ret ?_ | refine W_exit ?_ | refine WQ_then ?_ | refine WQ_then_ret ?_ | refine WQ_then_exit ?_ | refine WQ_block_normal ?_ | refine WQ_block_ret ?_ | refine WQ_block_exit ?_ | refine n9 ?_)
    ((apply WQ_again ((k + 1, v / 256 ^ k / 256, xs ++ leB (k + 1) v, o2))); (focus exact ⟨h, by rw [Nat.div_div_eq_div_mul, Nat.pow_succ], rfl⟩); (focus (omega)); (focus (repeat (first | exact FrIn.nil _ | (apply FrIn.cons; exact rfl; (first | exact rfl | (congr 1; first | omega | (dsimp only; omega)) | (simp; done)))))); (focus (repeat (first | exact SubO.nil _ | (apply SubO.cons; (focus (repeat' (first | exact Pick.head _ _ | apply Pick.tail))))))); (focus (repeat (first | exact AllE.nil _ | (apply AllE.cons; (focus (first | exact ent_nilBy | exact ent_nilSl | (apply Ent.mem; repeat' (first | exact mcs | apply mct)))))))))
  · obtain rfl : k = n := by omega
    repeat (first | refine n1 ?_ | refine n2 (fun b _ => ?_) | refine n3 (fun _ _ => ?_) | refine n4 ?_ | refine n5 ?_ | refine WL_nil ?_ | refine W_seq ?_ | refine W_region ?_ | refine n7 ?_ | refine n8 ?_ | refine W_block ?_ | refine W_skip ?_ | refine W_ret ?_ | refine W_exit ?_ | refine WQ_then ?_ | refine WQ_then_ret ?_ | refine WQ_then_exit ?_ | refine WQ_block_normal ?_ | refine WQ_block_ret ?_ | refine WQ_block_exit ?_ | refine n9 ?_)
    ((apply ret1 Try.results58 ( o)); (focus (first | trivial | assumption | omega)); (focus (first | exact RV_tmp rfl | (apply RV_cellN; exact rfl; (repeat' (first | exact Pick.head _ _ | apply Pick.tail)); (intro _; exact rfl); (intro _; exact rfl); exact rfl) | (apply RV_cell1; exact rfl; (repeat' (first | exact Pick.head _ _ | apply Pick.tail)); (intro _; exact rfl); exact rfl)));  (focus (first | exact rfl | (simp; done))); (focus (repeat (first | exact SubO.nil _ | (apply SubO.cons; (focus (repeat' (first | exact Pick.head _ _ | apply Pick.tail))))))); (focus (repeat (first | exact AllE.nil _ | (apply AllE.cons; (focus (first | exact ent_nilBy | exact ent_nilSl | (apply Ent.mem; repeat' (first | exact mcs | apply mct)))))))))
end Go.Proofs.Ytbdcpahifcbcfaa.C01

/-
  Contracts of the readers of numbers and texts of layer 1.
-/
namespace Go.Proofs.Ytbdcpahifcbcfaa.C01
open Go Go.RowKit Go.Hs
attribute [local irreducible] WL W WQ PL Runs Effs AllE Ent SubO FrIn Pick OneC Ones CellsE PartsE SeqE UZ By Sl Pt Ct

theorem tkB_length {xs : List UInt8} {at_ n : Int} (h : tkE xs.length at_ n = 0) : ((tkB xs at_ n).length : Int) = n := by
  have h0 := h
  unfold tkE at h
  split at h
  · cases h
  · split at h
    · cases h
    · split at h
      · cases h
      · rw [tkB, if_pos h0, List.length_take, List.length_drop]
        omega

theorem or_step (bs : List UInt8) (i : Nat) (h : i < bs.length) (h8 : i < 8) : bits .or .u64 (leN (bs.take i) : Int) (((bs.getD i 0).toNat * 2 ^ (8 * i) : Nat) : Int) = (leN (bs.take (i + 1)) : Int) := by
  have h1 := leN_lt (bs.take i)
  rw [List.length_take, Nat.min_eq_left (Nat.le_of_lt h)] at h1
  have h2 := leN_lt (bs.take (i + 1))
  rw [List.length_take, Nat.min_eq_left h] at h2
  have h3 := leN_snoc bs i h
  have e : (256 : Nat) ^ i = 2 ^ (8 * i) := by rw [Nat.pow_mul]
  have h4 : (256 : Nat) ^ (i + 1) ≤ 256 ^ 8 := Nat.pow_le_pow_right (by decide) h8
  have h5 : (256 : Nat) ^ 8 = 18446744073709551616 := by decide
  rw [e] at h1 h3
  rw [u64_or_nat _ _ (by omega) (by omega), h3, Nat.or_comm, Nat.mul_comm, ← Nat.two_pow_add_eq_or_of_lt h1]
  congr 1
  omega

theorem sh_step (c : UInt8) (i : Nat) (h8 : i < 8) : IntKind.u64.wrap ((c.toNat : Int) * (2 ^ (min ((8 * (i : Int))).toNat IntKind.u64.bits))) = ((c.toNat * 2 ^ (8 * i) : Nat) : Int) := by
  have e2 : min ((8 * (i : Int))).toNat IntKind.u64.bits = 8 * i := by
    rw [show (8 * (i : Int)).toNat = 8 * i by omega]
    exact Nat.min_eq_left (show 8 * i ≤ 64 by omega)
  have h4 : (256 : Nat) ^ (i + 1) ≤ 256 ^ 8 := Nat.pow_le_pow_right (by decide) h8
  have h5 : (256 : Nat) ^ 8 = 18446744073709551616 := by decide
  have e : (256 : Nat) ^ i = 2 ^ (8 * i) := by rw [Nat.pow_mul]
  rw [e2, show ((2 : Int) ^ (8 * i)) = ((2 ^ (8 * i) : Nat) : Int) by simp, ← Int.natCast_mul]
  apply wx_u64
  have := c.toNat_lt
  have h6 : c.toNat * 2 ^ (8 * i) ≤ 255 * 256 ^ i := by rw [e]; exact Nat.mul_le_mul_right _ (by omega)
  rw [Nat.pow_succ] at h4
  omega

theorem leN_lt8 {bs : List UInt8} {n : Nat} (h : bs.length ≤ n) (h8 : n ≤ 8) : leN bs ≤ 18446744073709551615 := by
  have h1 := leN_lt bs
  have h4 : (256 : Nat) ^ bs.length ≤ 256 ^ 8 := Nat.pow_le_pow_right (by decide) (by omega)
  have h5 : (256 : Nat) ^ 8 = 18446744073709551616 := by decide
  omega

end Go.Proofs.Ytbdcpahifcbcfaa.C01

/-
  Contracts of the readers of texts of layer 1; the law 'OctetReads' walked.
-/
namespace Go.Proofs.Ytbdcpahifcbcfaa.C01
open Go Go.RowKit Go.Hs
attribute [local irreducible] WL W WQ PL Runs Effs AllE Ent SubO FrIn Pick OneC Ones CellsE PartsE SeqE UZ By Sl Pt Ct

def txN (xs : List UInt8) (a : Int) : Int := (leN (tkB xs a 1) : Int)
def txE (xs : List UInt8) (a : Int) : Int := if tkE xs.length a 1 = 0 then tkE xs.length (a + 1) (txN xs a) else tkE xs.length a 1
def txB (xs : List UInt8) (a : Int) : List UInt8 := if tkE xs.length a 1 = 0 then tkB xs (a + 1) (txN xs a) else []
def txD (xs : List UInt8) (a : Int) : List UInt8 := if tkE xs.length a 1 = 0 then tkD xs (a + 1) (txN xs a) else []
def txA (xs : List UInt8) (a : Int) : Int := if tkE xs.length a 1 = 0 then tkA xs.length (a + 1) (txN xs a) else 0

theorem txN_lt {xs : List UInt8} {a : Int} (h : tkE xs.length a 1 = 0) : 0 ≤ txN xs a ∧ txN xs a < 256 := by
  have := tkB_length h
  have h2 := leN_lt (tkB xs a 1)
  rw [show (tkB xs a 1).length = 1 by omega] at h2
  unfold txN
  omega

end Go.Proofs.Ytbdcpahifcbcfaa.C01

/-
  Contracts of octet.Bits, octet.SetBits and of the reference's.
-/
namespace Go.Proofs.Ytbdcpahifcbcfaa.C01
open Go Go.RowKit Go.Hs
attribute [local irreducible] WL W WQ PL Runs Effs AllE Ent SubO FrIn Pick OneC Ones CellsE PartsE SeqE UZ By Sl Pt Ct

def biE (a n : Int) : Int := if inB a n then 0 else 2
def biV (v : Nat) (a n : Int) : Nat := if inB a n then v / 2 ^ a.toNat % 2 ^ n.toNat else 0
def seE (a n : Int) (x : Nat) : Int := if inB a n then (if x < 2 ^ n.toNat then 0 else 11) else 2
def seV (v : Nat) (a n : Int) (x : Nat) : Nat := if inB a n then (if x < 2 ^ n.toNat then v - v / 2 ^ a.toNat % 2 ^ n.toNat * 2 ^ a.toNat + x * 2 ^ a.toNat else 0) else 0

theorem mul_eq (a b : Nat) (h : a * b < 18446744073709551616) : IntKind.u64.wrap ((a : Int) * (b : Int)) = ((a * b : Nat) : Int) := by
  rw [← Int.natCast_mul]
  exact wx_u64 (by omega)

end Go.Proofs.Ytbdcpahifcbcfaa.C01

/-
  Contracts of layer 1: PutText, Join, the chapter's examples.
-/
namespace Go.Proofs.Ytbdcpahifcbcfaa.C01
open Go Go.RowKit Go.Hs
attribute [local irreducible] WL W WQ PL Runs Effs AllE Ent SubO FrIn Pick OneC Ones CellsE PartsE SeqE UZ By Sl Pt Ct

theorem leB1 (v : Nat) : leB 1 v = [UInt8.ofNat v] := by simp [leB]
theorem leB2 (v : Nat) : leB 2 v = [UInt8.ofNat v, UInt8.ofNat (v / 256)] := by simp [leB, List.range_succ]

def ptE (s : List UInt8) : Int := if s.length ≤ 255 then 0 else 11
def ptB (xs s : List UInt8) : List UInt8 := if s.length ≤ 255 then xs ++ leB 1 s.length ++ s else []

/-- fields joined. -/
def jn (fs : List (List UInt8)) : List UInt8 := fs.flatMap fun f => leB 2 f.length ++ f
theorem jn_snoc (fs : List (List UInt8)) (f : List UInt8) : jn (fs ++ [f]) = jn fs ++ leB 2 f.length ++ f := by simp [jn]
theorem jn_bound : ∀ (fs : List (List UInt8)) (b : Nat), (∀ f ∈ fs, f.length ≤ b) → (jn fs).length ≤ fs.length * (b + 2)
  | [], b, _ => by simp [jn]
  | f :: fs, b, h => by
    have ih := jn_bound fs b fun g hg => h g (by simp [hg])
    have h1 := h f (by simp)
    have e : jn (f :: fs) = (leB 2 f.length ++ f) ++ jn fs := by simp [jn]
    rw [e, List.length_append, List.length_append, leB_length, List.length_cons, Nat.add_mul]
    omega
def jnE (fs : List (List UInt8)) : Int := if 256 < fs.length then 4 else if ∀ f ∈ fs, f.length ≤ 65535 then 0 else 11
def jnB (fs : List (List UInt8)) : List UInt8 := if jnE fs = 0 then jn fs else []

theorem shr8I (n : Nat) : ((n : Int)).fdiv (2 ^ (min (8 : Int).toNat IntKind.i64.bits)) = ((n / 256 : Nat) : Int) := by
  rw [show ((2 : Int) ^ (min (8 : Int).toNat IntKind.i64.bits)) = 256 from rfl, Int.fdiv_eq_ediv_of_nonneg _ (by decide)]
  omega
theorem take_next {α : Type} (xs : List α) (k : Nat) (h : k < xs.length) : xs.take (k + 1) = xs.take k ++ [xs[k]] := by
  rw [List.take_succ_eq_append_getElem h]

theorem take_all {fs : List (List UInt8)} {k : Nat} (h : k < fs.length) {b : Nat} (hf : ∀ f ∈ fs.take k, f.length ≤ b) (h2 : fs[k].length ≤ b) : ∀ f ∈ fs.take (k + 1), f.length ≤ b := by
  intro f hm
  rw [take_next fs k h] at hm
  rcases List.mem_append.1 hm with hm | hm
  · exact hf f hm
  · rcases List.mem_singleton.1 hm with rfl
    exact h2

end Go.Proofs.Ytbdcpahifcbcfaa.C01

/-
  Contracts of octet.Split: the iterator over the fields of a byte string.
-/
namespace Go.Proofs.Ytbdcpahifcbcfaa.C01
open Go Go.RowKit Go.Hs
attribute [local irreducible] WL W WQ PL Runs Effs AllE Ent SubO FrIn Pick OneC Ones CellsE PartsE SeqE UZ By Sl Pt Ct

def fldLen (xs : List UInt8) (p : Nat) : Nat := (xs.getD p 0).toNat + (xs.getD (p + 1) 0).toNat * 256
def fldOk (xs : List UInt8) (p : Nat) : Prop := p + 2 ≤ xs.length ∧ p + 2 + fldLen xs p ≤ xs.length
def piece (xs : List UInt8) (p : Nat) : List UInt8 := (xs.drop (p + 2)).take (fldLen xs p)
theorem piece_length {xs : List UInt8} {p : Nat} (h : fldOk xs p) : (piece xs p).length = fldLen xs p := by
  rw [piece, List.length_take, List.length_drop]
  have := h.2
  omega

theorem getD_drop (xs : List UInt8) (p i : Nat) : (xs.drop p).getD i 0 = xs.getD (p + i) 0 := by
  rw [List.getD_eq_getElem?_getD, List.getD_eq_getElem?_getD, List.getElem?_drop]
theorem shl8I (a : Nat) (h : a ≤ 255) : IntKind.i64.wrap ((a : Int) * 2 ^ (min (8 : Int).toNat IntKind.i64.bits)) = ((a * 256 : Nat) : Int) := by
  rw [show ((2 : Int) ^ (min (8 : Int).toNat IntKind.i64.bits)) = 256 from rfl]
  rw [wx_i64 (by omega)]
  omega
theorem u8le (c : UInt8) : c.toNat ≤ 255 := by have := c.toNat_lt; omega

end Go.Proofs.Ytbdcpahifcbcfaa.C01

/-
  Contract of octet.Split.
-/
namespace Go.Proofs.Ytbdcpahifcbcfaa.C01
open Go Go.RowKit Go.Hs
attribute [local irreducible] WL W WQ PL Runs Effs AllE Ent SubO FrIn Pick OneC Ones CellsE PartsE SeqE UZ By Sl Pt Ct

/-- how a byte string is split: from a place on, with what was found ahead of it. -/
inductive SplR (xs : List UInt8) : Nat → List (List UInt8) → Int × List (List UInt8) → Prop
  | fin {p fs} : xs.length ≤ p → SplR xs p fs (0, fs)
  | many {p fs} : p < xs.length → fs.length = 256 → SplR xs p fs (4, [])
  | short {p fs} : p < xs.length → ¬ fs.length = 256 → ¬ fldOk xs p → SplR xs p fs (10, [])
  | next {p fs r} : p < xs.length → ¬ fs.length = 256 → fldOk xs p → SplR xs (p + 2 + fldLen xs p) (fs ++ [piece xs p]) r → SplR xs p fs r

theorem SplR.one {xs : List UInt8} {p : Nat} {fs : List (List UInt8)} {r r' : Int × List (List UInt8)} (h : SplR xs p fs r) (h' : SplR xs p fs r') : r = r' := by
  induction h with
  | fin h1 => cases h' with
    | fin => rfl
    | many h2 => omega
    | short h2 => omega
    | next h2 => omega
  | many h1 h2 => cases h' with
    | fin h3 => omega
    | many => rfl
    | short _ h3 => exact absurd h2 h3
    | next _ h3 => exact absurd h2 h3
  | short h1 h2 h3 => cases h' with
    | fin h4 => omega
    | many _ h4 => exact absurd h4 h2
    | short => rfl
    | next _ _ h4 => exact absurd h4 h3
  | next h1 h2 h3 _ ih => cases h' with
    | fin h4 => omega
    | many _ h4 => exact absurd h4 h2
    | short _ _ h4 => exact absurd h3 h4
    | next _ _ _ h4 => exact ih h4

structure SpS where
  fs : List (List UInt8)
  vals : List Value
  o : Value
  n : Nat
  stop : Bool

theorem getD_snoc {α : Type} (l : List α) (a d : α) (i : Nat) (h : i < l.length) : (l ++ [a]).getD i d = l.getD i d := by
  rw [List.getD_eq_getElem?_getD, List.getD_eq_getElem?_getD, List.getElem?_append_left h]
theorem getD_last {α : Type} (l : List α) (a d : α) (n : Nat) (h : l.length = n) : (l ++ [a]).getD n d = a := by
  subst h
  rw [List.getD_eq_getElem?_getD, List.getElem?_append_right (Nat.le_refl _)]
  simp

section
variable (b1 b2 b3 b4 b6 : Nat) (dv : Value) (xs : List UInt8)
def spY (y : SpS) : List OA := [.blk b4 69 [y.o], .row y.o 22 1 y.fs.length y.vals, .blk b6 3 [.int .i64 (y.n : Int)], .blk b2 69 [.slice none 0 0], .blk b3 29 [.int .i64 (if y.stop then 4 else 0)], .blk b1 22 [dv]]
def spΨ (y : SpS) : List SP := [Al y.fs.length (fun i => By (y.vals.getD i undef) (y.fs.getD i [])), By dv xs]
end
def spE (y : SpS) : Option Code := if y.stop then some .ret else none
def spPre (xs : List UInt8) (y : SpS) (b : Value × Nat) : Prop := y.stop = false ∧ fldOk xs b.2 ∧ y.vals.length = y.fs.length ∧ y.n = b.2 ∧ y.fs.length < 256
def spStep (xs : List UInt8) (y : SpS) (b : Value × Nat) (y' : SpS) : Prop :=
  y'.fs = y.fs ++ [piece xs b.2] ∧ y'.vals.length = y'.fs.length ∧ y'.n = b.2 + 2 + fldLen xs b.2 ∧ (y'.stop = true ↔ (y'.fs.length = 256 ∧ y'.n < xs.length))
def spInv (xs : List UInt8) (p : Nat) (y : SpS) : Prop :=
  y.stop = false ∧ y.vals.length = y.fs.length ∧ y.n = p ∧ y.fs.length ≤ 256 ∧ (y.fs.length = 256 → xs.length ≤ p) ∧ ∀ r, SplR xs p y.fs r → SplR xs 0 [] r

end Go.Proofs.Ytbdcpahifcbcfaa.C01

/-
  The law 'OctetReads' walked.
-/
namespace Go.Proofs.Ytbdcpahifcbcfaa.C01
open Go Go.RowKit Go.Hs
attribute [local irreducible] WL W WQ PL Runs Effs AllE Ent SubO FrIn Pick OneC Ones CellsE PartsE SeqE UZ By Sl Pt Ct

theorem copyB_fn (v : Value) (xs : List UInt8) (hx : xs.length ≤ 1000000000) : Ct Try.prog 63 [v] [] [By v xs]
    (X := Value) (fun _ => True) (fun x => x) (fun _ => []) (fun x => [By x xs]) := Ct.letB (bs := fun _ => xs) (copy_fn v xs hx) (fun _ => rfl)

theorem tkB_le (xs : List UInt8) (a n : Int) (h : n ≤ 8) : leN (tkB xs a n) ≤ 18446744073709551615 := by
  refine leN_lt8 (n := 8) ?_ (by omega)
  unfold tkB
  split
  · rw [List.length_take]; omega
  · simp

end Go.Proofs.Ytbdcpahifcbcfaa.C01

/-
  The chapter's examples; the laws 'OctetParts' and 'OctetPrefix' walked.
-/
namespace Go.Proofs.Ytbdcpahifcbcfaa.C01
open Go Go.RowKit Go.Hs
attribute [local irreducible] WL W WQ PL Runs Effs AllE Ent SubO FrIn Pick OneC Ones CellsE PartsE SeqE UZ By Sl Pt Ct

end Go.Proofs.Ytbdcpahifcbcfaa.C01

/-
  Contracts of the reference's Join and Split; lists compared.
-/
namespace Go.Proofs.Ytbdcpahifcbcfaa.C01
open Go Go.RowKit Go.Hs
attribute [local irreducible] WL W WQ PL Runs Effs AllE Ent SubO FrIn Pick OneC Ones CellsE PartsE SeqE UZ By Sl Pt Ct

theorem two_bytes (xs : List UInt8) (p : Nat) (h : p + 2 ≤ xs.length) : (xs.drop p).take 2 = [xs.getD p 0, xs.getD (p + 1) 0] := by
  have h1 : p < xs.length := by omega
  have h2 : p + 1 < xs.length := by omega
  rw [List.drop_eq_getElem_cons h1, List.drop_eq_getElem_cons h2]
  simp only [List.take_succ_cons, List.take_zero, List.getD_eq_getElem?_getD, List.getElem?_eq_getElem h1, List.getElem?_eq_getElem h2, Option.getD_some]
theorem fldLen_le (xs : List UInt8) (p : Nat) : fldLen xs p ≤ 65535 := by
  have h1 := u8le (xs.getD p 0)
  have h2 := u8le (xs.getD (p + 1) 0)
  unfold fldLen
  omega

theorem SplR.len {xs : List UInt8} {p : Nat} {fs : List (List UInt8)} {r : Int × List (List UInt8)} (h : SplR xs p fs r) : fs.length ≤ 256 → r.2.length ≤ 256 := by
  induction h with
  | fin => exact id
  | many => exact fun _ => Nat.zero_le _
  | short => exact fun _ => Nat.zero_le _
  | next _ _ _ _ ih => exact fun hl => ih (by simp; omega)

end Go.Proofs.Ytbdcpahifcbcfaa.C01

/-
  The law 'OctetWrites' walked; the law 'OctetNames' walked.
-/
namespace Go.Proofs.Ytbdcpahifcbcfaa.C01
open Go Go.RowKit Go.Hs
attribute [local irreducible] WL W WQ PL Runs Effs AllE Ent SubO FrIn Pick OneC Ones CellsE PartsE SeqE UZ By Sl Pt Ct

theorem rput_fnB (dv : Value) (xs : List UInt8) (v n : Nat) (hx : xs.length ≤ 1000000000) (hv : v < 18446744073709551616) (hn : n ≤ 8) : Ct Try.prog 58 [dv, .int .u64 (v : Int), .int .i64 (n : Int)] [] [By dv xs]
    (X := Value) (fun _ => True) (fun x => x) (fun _ => []) (fun x => [By x (xs ++ leB n v)]) := Ct.letB (bs := fun _ => xs ++ leB n v) (rput_fn dv xs v n hx hv hn) (fun _ => rfl)
theorem ofNat_mod (v i m : Nat) (h : 256 ^ (i + 1) ∣ m) : UInt8.ofNat (v % m / 256 ^ i) = UInt8.ofNat (v / 256 ^ i) := by
  obtain ⟨d, rfl⟩ := h
  apply UInt8.toNat_inj.1
  rw [UInt8.toNat_ofNat', UInt8.toNat_ofNat', show (2 : Nat) ^ 8 = 256 from rfl]
  rw [Nat.pow_succ, Nat.mul_assoc, Nat.mod_mul_right_div_self, Nat.mod_mul_right_mod]
theorem leB_mod1 (v : Nat) : leB 1 (v % 256) = leB 1 v := by
  simp only [leB, List.range_succ, List.range_zero, List.nil_append, List.map_cons, List.map_nil]
  rw [ofNat_mod v 0 256 ⟨1, by decide⟩]
theorem leB_mod2 (v : Nat) : leB 2 (v % 65536) = leB 2 v := by
  simp only [leB, List.range_succ, List.range_zero, List.nil_append, List.map_cons, List.map_nil, List.cons_append]
  rw [ofNat_mod v 0 65536 ⟨256, by decide⟩, ofNat_mod v 1 65536 ⟨1, by decide⟩]
theorem leB_mod4 (v : Nat) : leB 4 (v % 4294967296) = leB 4 v := by
  simp only [leB, List.range_succ, List.range_zero, List.nil_append, List.map_cons, List.map_nil, List.cons_append]
  rw [ofNat_mod v 0 4294967296 ⟨16777216, by decide⟩, ofNat_mod v 1 4294967296 ⟨65536, by decide⟩, ofNat_mod v 2 4294967296 ⟨256, by decide⟩, ofNat_mod v 3 4294967296 ⟨1, by decide⟩]
theorem w8' (x : Nat) : ((UInt8.ofNat x).toNat : Int) = ((x % 256 : Nat) : Int) := by simp
theorem w16' (x : Nat) : IntKind.u16.wrap (x : Int) = ((x % 65536 : Nat) : Int) := by rw [IntKind.wrap_u16]; omega
theorem w32' (x : Nat) : IntKind.u32.wrap (x : Int) = ((x % 4294967296 : Nat) : Int) := by rw [IntKind.wrap_u32]; omega
theorem last_one (xs : List UInt8) (v : Nat) : (xs ++ leB 1 v).getD xs.length 0 = UInt8.ofNat v := by
  rw [leB1, List.getD_eq_getElem?_getD, List.getElem?_append_right (Nat.le_refl _)]
  simp

end Go.Proofs.Ytbdcpahifcbcfaa.C01

/-
  Bits of numbers of 64 signed bits. No program is named here.
-/
namespace Go.Hs
open Go Go.RowKit

theorem i64_low (n : Int) (k : Nat) (hk : k ≤ 62) : bits .and .i64 n ((2 ^ k - 1 : Nat) : Int) = n % ((2 ^ k : Nat) : Int) := by
  have hp : 2 ^ k ≤ 2 ^ 62 := Nat.pow_le_pow_right (by decide) hk
  have h0 : 0 < 2 ^ k := Nat.two_pow_pos k
  have h2 : (2 : Nat) ^ 62 = 4611686018427387904 := by decide
  have hm : (BitVec.ofInt 64 ((2 ^ k - 1 : Nat) : Int)).toNat = 2 ^ k - 1 := by
    rw [BitVec.ofInt_natCast, BitVec.toNat_ofNat]; exact Nat.mod_eq_of_lt (by omega)
  have key : (BitVec.ofInt 64 n &&& BitVec.ofInt 64 ((2 ^ k - 1 : Nat) : Int)).toNat = (n % ((2 ^ 64 : Nat) : Int)).toNat % 2 ^ k := by
    rw [BitVec.toNat_and, BitVec.toNat_ofInt, hm, Nat.and_two_pow_sub_one_eq_mod]
  show IntKind.i64.wrap ((BitVec.ofInt 64 n &&& BitVec.ofInt 64 ((2 ^ k - 1 : Nat) : Int)).toNat : Nat) = _
  have hd : ((2 ^ k : Nat) : Int) ∣ ((2 ^ 64 : Nat) : Int) := Int.natCast_dvd_natCast.2 (Nat.pow_dvd_pow 2 (by omega))
  have e : (((n % ((2 ^ 64 : Nat) : Int)).toNat % 2 ^ k : Nat) : Int) = n % ((2 ^ k : Nat) : Int) := by
    rw [Int.natCast_emod, Int.toNat_of_nonneg (Int.emod_nonneg _ (by decide)), Int.emod_emod_of_dvd n hd]
  have hlt := Int.emod_lt_of_pos n (show (0 : Int) < ((2 ^ k : Nat) : Int) by omega)
  have hge := Int.emod_nonneg n (show ((2 ^ k : Nat) : Int) ≠ 0 by omega)
  rw [key, e, wx_i64 (by omega)]
theorem i64_and3 (n : Int) : bits .and .i64 n 3 = n % 4 := i64_low n 2 (by decide)
theorem i64_and7 (n : Int) : bits .and .i64 n 7 = n % 8 := i64_low n 3 (by decide)
theorem i64_and15 (n : Int) : bits .and .i64 n 15 = n % 16 := i64_low n 4 (by decide)
theorem i64_or_nat (a b : Nat) (ha : a < 4611686018427387904) (hb : b < 4611686018427387904) : bits .or .i64 (a : Int) (b : Int) = ((a ||| b : Nat) : Int) := by
  have hx : a ||| b < 2 ^ 62 := Nat.or_lt_two_pow (by omega) (by omega)
  have h2 : (2 : Nat) ^ 62 = 4611686018427387904 := by decide
  show IntKind.i64.wrap ((BitVec.ofInt 64 (a : Int) ||| BitVec.ofInt 64 (b : Int)).toNat : Int) = _
  rw [BitVec.toNat_or, BitVec.ofInt_natCast, BitVec.ofInt_natCast, BitVec.toNat_ofNat, BitVec.toNat_ofNat, Nat.mod_eq_of_lt (by omega), Nat.mod_eq_of_lt (by omega)]
  exact wx_i64 (by omega)
/-- a low part and a high one. -/
theorem i64_or_lo (k a b : Nat) (ha : a < 2 ^ k) (hs : a + b * 2 ^ k < 4611686018427387904) : bits .or .i64 (a : Int) ((b * 2 ^ k : Nat) : Int) = ((a + b * 2 ^ k : Nat) : Int) := by
  rw [i64_or_nat _ _ (by omega) (by omega)]
  congr 1
  rw [Nat.or_comm, Nat.mul_comm, ← Nat.two_pow_add_eq_or_of_lt ha, Nat.add_comm]
theorem i64_or8 (a b : UInt8) : bits .or .i64 (a.toNat : Int) ((b.toNat * 256 : Nat) : Int) = ((a.toNat + 256 * b.toNat : Nat) : Int) := by
  have ha := a.toNat_lt
  have hb := b.toNat_lt
  have h := i64_or_lo 8 a.toNat b.toNat ha (by omega)
  rw [show (2 : Nat) ^ 8 = 256 from rfl] at h
  rw [h, Nat.mul_comm]
theorem i64_shl8 (a : UInt8) : IntKind.i64.wrap ((a.toNat : Int) * 2 ^ (min (8 : Int).toNat IntKind.i64.bits)) = ((a.toNat * 256 : Nat) : Int) := by
  have ha := a.toNat_lt
  rw [show ((2 : Int) ^ (min (8 : Int).toNat IntKind.i64.bits)) = 256 from rfl]
  rw [wx_i64 (by omega)]
  omega
theorem i64_shr8 (n : Nat) : ((n : Int)).fdiv (2 ^ (min (8 : Int).toNat IntKind.i64.bits)) = ((n / 256 : Nat) : Int) := by
  rw [show ((2 : Int) ^ (min (8 : Int).toNat IntKind.i64.bits)) = 256 from rfl, Int.fdiv_eq_ediv_of_nonneg _ (by decide)]
  omega
end Go.Hs

/-
  Arrays behind pointers, sliced whole. No program is named here.
-/
namespace Go.Hs
open Go Go.RowKit
def arrV (n : Nat) : Value → Value
  | .pointer A => .slice A n n
  | v => v
section
variable {C : Ctx} {fr : Fr} {Γ Γ' : List OA} {Φ : List SP} {d : Tmp} {ty : TypeId} {pos : String} {aft : Array Edge} {g : Option (Nat × Bool)}
theorem R_slicePt {t e : TypeId} {x : Operand} {p : Value} {us : List Value} {n : Nat} (hx : evO fr x = some p) (hm : Pt p us ∈ Φ) (ht : C.P.underlying t = some (.array n e))
    (hs : ∀ w, (sizeOf e).run C.P w = .ok 1 w) (hn : Nat.beq n 0 = false) : Runs C fr Γ Φ ⟨some d, .slice t x none none none, ty, pos, aft, g⟩ (arrV n p) :=
  Runs.pure fun a w ha hw => by
    have h0 : ¬ n = 0 := fun e => by rw [e] at hn; cases hn
    obtain ⟨ad, hv, _⟩ := hw.sp _ hm
    subst hv
    simp [execOp, evO_sound ha hx, Instr.sliceAt, Instr.sliceBounds, run_underlying ht, hs, h0, Instr.sureAddr, Addr.add, arrV]
theorem ent_arr {p : Value} {n : Nat} {xs : List Value} {bs : List UInt8} (hm : Pt p xs ∈ Φ) (hx : xs.take n = bs.map bcell) (hl : bs.length = n) (h0 : 0 < n) (hn : n ≤ 1000) : Ent Φ (By (arrV n p) bs) := fun w O h => by
  obtain ⟨ad, hv, hlt, hO, hcell⟩ := h _ hm
  subst hv
  refine ⟨by rw [List.length_map, Nat.mul_one], some ad, n, by rw [hl]; rfl, by omega, by simp only [maxLen]; omega, fun _ => ⟨ad, rfl, hlt, hO, fun j u hu => ?_⟩⟩
  rw [← hx] at hu
  have hj : j < n := by
    have := (List.getElem?_eq_some_iff.1 hu).1
    rw [List.length_take] at this
    omega
  rw [List.getElem?_take, if_pos hj] at hu
  exact hcell j u hu
end
end Go.Hs
