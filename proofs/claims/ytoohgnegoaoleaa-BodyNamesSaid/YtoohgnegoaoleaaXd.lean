/-
  Rules for walks, merged.
-/
import Derived.Test.YtoohgnegoaoleaaXc
import Derived.Test.YtoohgnegoaoleaaXb
import Derived.Test.YtoohgnegoaoleaaXa
import Derived.WalkKit
import Derived.ProofKit
import Derived.OpenShut
import Derived.ShutString
import Derived.ChangeOld
import Derived.SizedLaws
import Derived.Below
import Derived.Carry
import Derived.ChangeSlices
/-
  Rules for walks: elements of lists that are built one by one. No program is named here.
-/
namespace Go.Hs
open Go Go.RowKit
/-- an element: what its cells hold. -/
def ELp (id ext : UInt8) (data : List UInt8) (f : Fo) (v : Value) (w : World) (O : Nat → Prop) : Prop :=
  ∃ (dv sv : Value) (t : T), t.er = f ∧ v = .agg #[bcell id, bcell ext, dv, sv] ∧ (By dv data).p w O ∧ (Rw 4 sv t.len t.at_).p w O ∧ t.tf.p w O
def EL (id ext : UInt8) (data : List UInt8) (f : Fo) (v : Value) : SP :=
  ⟨ELp id ext data f v, fun ⟨dv, sv, t, h1, h2, h3, h4, h5⟩ hm ho => ⟨dv, sv, t, h1, h2, (By dv data).st h3 hm ho, (Rw 4 sv t.len t.at_).st h4 hm ho, t.tf.st h5 hm ho⟩⟩
section
variable {C : Ctx} {fr : Fr} {Γ : List OA} {Φ : List SP}
theorem ent_EL {id ext : UInt8} {data : List UInt8} {f : Fo} {dv sv : Value} {t : T} (h0 : t.er = f) (h1 : Ent Φ (By dv data)) (h2 : Ent Φ (Rw 4 sv t.len t.at_)) (h3 : Ent Φ t.tf) : Ent Φ (EL id ext data f (.agg #[bcell id, bcell ext, dv, sv])) :=
  fun w O h => ⟨dv, sv, t, h0, rfl, h1 w O h, h2 w O h, h3 w O h⟩
theorem ent_tfC {id ext : UInt8} {dv : Value} {data : List UInt8} {sv : Value} {subs next : T} (h0 : Ent Φ (By dv data)) (h1 : Ent Φ (Rw 4 sv subs.len subs.at_)) (h2 : Ent Φ subs.tf) (h3 : Ent Φ next.tf) : Ent Φ (T.cons id ext dv data sv subs next).tf :=
  fun w O h => ⟨h0 w O h, h1 w O h, h2 w O h, h3 w O h⟩
/-- a settled value, told of. -/
theorem Effs.runsT {o : Oper} {v : Value} {ψ : Value → SP} (h : Runs C fr Γ Φ o v) (he : Ent Φ (ψ v)) : Effs C fr Γ Φ o (X := Value) (fun _ => True) (fun v => v) (fun _ => Γ) (fun v => ψ v :: Φ) := by
  refine ⟨fun _ χ hχ => List.mem_cons_of_mem _ hχ, fun R a w ha hw => ?_⟩
  refine (h a w ha hw.dropR).mono fun v' w' ⟨e, m⟩ => ⟨v, trivial, e, (hw.ext m).ent he⟩
/-- the elements of a list that is built, told of one by one. -/
def ELs (Φ : List SP) : Nat → List (Nat × Value) → Fo → Prop
  | _, [], .nil => True
  | k, (i, v) :: r, .cons id ext data subs next => i = k ∧ EL id ext data subs v ∈ Φ ∧ ELs Φ (k + 1) r next
  | _, _, _ => False
theorem ELs.nil {k : Nat} : ELs Φ k [] .nil := trivial
theorem ELs.cons {k : Nat} {i : Nat} {v : Value} {r : List (Nat × Value)} {id ext : UInt8} {data : List UInt8} {subs next : Fo} (hi : i = k) (h : EL id ext data subs v ∈ Φ) (hr : ELs Φ (k + 1) r next) : ELs Φ k ((i, v) :: r) (.cons id ext data subs next) := ⟨hi, h, hr⟩
theorem ELs.open {w : World} {O : Nat → Prop} (hΦ : ∀ χ ∈ Φ, χ.p w O) : ∀ {pv : List (Nat × Value)} {k : Nat} {f : Fo}, ELs Φ k pv f → ∃ t : T, t.er = f ∧ t.len = pv.length ∧ t.tf.p w O ∧ ∀ (C : Ctx) (Γ' : List OA) (Φ' : List SP), SeqE C Γ' Φ' 4 k pv t.cells
  | [], _, .nil, _ => ⟨.nil, rfl, rfl, trivial, fun _ _ _ => SeqE.nil⟩
  | [], _, .cons .., h => h.elim
  | (i, v) :: r, k, .nil, h => h.elim
  | (i, v) :: r, k, .cons id ext data subs next, ⟨hi, h, hr⟩ => by
    obtain ⟨dv, sv, t, h1, h2, h3, h4, h5⟩ := hΦ _ h
    obtain ⟨u, g1, g2, g3, g4⟩ := ELs.open hΦ hr
    subst h2
    refine ⟨.cons id ext dv data sv t u, by rw [T.er, h1, g1], by rw [T.len, g2]; rfl, ⟨h3, h4, h5, g3⟩, fun C Γ' Φ' => ?_⟩
    exact ⟨hi, [bcell id, bcell ext, dv, sv], u.cells, rfl, rfl, CellsE.lit rfl, g4 C Γ' Φ'⟩
/-- a list of elements is built, and told as lasting. -/
theorem E_buildEL {d : Nat} {ty : TypeId} {pos : String} {aft : Array Edge} {g : Option (Nat × Bool)} {t e : TypeId} {len : Nat} {parts : Array (Nat × Operand)} {pv : List (Nat × Value)} {z : Value} (f : Fo)
    (hpv : evPs fr parts.toList = some pv) (hq : ELs Φ 0 pv f) (hl : pv.length = len) (ht : C.P.underlying t = some (.slice e)) (hs : ∀ w, (sizeOf e).run C.P w = .ok 4 w) (hz : ∀ w, (zeroValue e).run C.P w = .ok z w) (hm : len * 4 ≤ 16777216) :
    Effs C fr Γ Φ ⟨some d, .buildSlice t len parts, ty, pos, aft, g⟩ (X := T × Value) (fun x => x.1.er = f) (fun x => x.2) (fun _ => Γ) (fun x => Rw 4 x.2 x.1.len x.1.at_ :: x.1.tf :: Φ) := by
  refine ⟨fun _ χ hχ => List.mem_cons_of_mem _ (List.mem_cons_of_mem _ hχ), fun R a w ha hw => ?_⟩
  obtain ⟨u, h1, h2, h3, h4⟩ := ELs.open hw.sp hq
  have hw' : Holds C (Γ ++ R) (u.tf :: Φ) w := hw.cons h3
  have key := Effs.letT u (et := e) (n := len) (cs := u.cells) (by rw [h2, hl]) rfl (E_buildSlice (C := C) (fr := fr) (Γ := Γ) (Φ := u.tf :: Φ) (d := d) (ty := ty) (pos := pos) (aft := aft) (g := g) (us := u.cells) hpv (h4 _ _ _) ht hs hz (by rw [T.cells_length, h2, hl]) hm (by omega))
  exact (key.2 R a w ha hw').mono fun v' w' ⟨x, p1, p2, p3⟩ => ⟨(u, x), h1, p2, p3⟩
end
end Go.Hs

/-
  From a contract to what a row asks: what was there before the call has not turned. No program is named here.
-/
namespace Go.Hs
open Go Go.RowKit Go.ChangeShapes Go.WideShapes Go.ChangeAt

theorem CtD.below {P : Program} {f : FuncId} {args : List Value} {Φ : List SP} {v : Value} {w : World} (h : CtD P f args Φ v) (hp : ∀ ψ ∈ Φ, ψ.p w (fun _ => False)) :
    Calls P f args.toArray w fun e w' => e = .returned v ∧ Below w.heap.size w w' := by
  have ha : avo (fun _ => False) [] = fun _ => False := by
    funext k
    apply propext
    constructor
    · rintro (h | ⟨x, hx, _⟩)
      · exact h
      · cases hx
    · exact False.elim
  refine (h w (fun _ => False) (fun k hk => hk.elim) trivial (fun ψ hψ => by rw [ha]; exact hp ψ hψ)).mono fun e w' ⟨_, _, he, hm, _⟩ => ?_
  refine ⟨he, hm.os, hm.tape, hm.output, hm.size, fun k hk => hm.block k hk ?_⟩
  rintro ⟨x, hx, _⟩
  cases hx

theorem trodAll_stays {H : Type} {enc : TypeId × Value → H} {P : Program} (hl : laidOutB P = true) {W W' : World} (hb : Below W.heap.size W W') :
    ∀ {ts : List TypeId} {vs : List Value} {ds : List (DataW H)} {ps : List MemPlace}, ts.all (fun t => P.readableRec t && decide (t < P.types.size)) = true →
      DataW.TrodAll enc P W 0 (fun _ => true) true ts vs ds ps → DataW.TrodAll enc P W' 0 (fun b => decide (b < W.heap.size)) true ts vs ds ps
  | [], vs, ds, ps, _, h => by
    cases vs <;> cases ds <;> simp [DataW.TrodAll] at h ⊢
    exact h
  | t :: ts, vs, ds, ps, ha, h => by
    obtain ⟨v, vs', d, ds', p, q, rfl, rfl, rfl, h1, h2⟩ := trodAll_cons h
    simp only [List.all_cons, Bool.and_eq_true, decide_eq_true_eq] at ha
    obtain ⟨⟨ha, hs⟩, hr⟩ := ha
    refine trodAll_cons_mk (Below.trod hl ha hs h1 hb ?_) (trodAll_stays hl hb hr h2)
    obtain ⟨m, hm⟩ := h1
    exact DataW.trod_lt m _ _ _ hm

theorem trodAll_length {H : Type} {enc : TypeId × Value → H} {P : Program} {W : World} {b : Nat} {sp : Nat → Bool} {hd : Bool} :
    ∀ {ts : List TypeId} {vs : List Value} {ds : List (DataW H)} {ps : List MemPlace}, DataW.TrodAll enc P W b sp hd ts vs ds ps → ds.length = ts.length
  | [], vs, ds, ps, h => by cases vs <;> cases ds <;> simp [DataW.TrodAll] at h ⊢
  | t :: ts, vs, ds, ps, h => by
    obtain ⟨v, vs', d, ds', p, q, rfl, rfl, rfl, h1, h2⟩ := trodAll_cons h
    simp [trodAll_length h2]

theorem law_lift {H : Type} {enc : TypeId × Value → H} {C : Checked} {os : Os} {f : FuncId} {fn : Func} {s : ChangeSpec} {conds : List PathCond} {tb : TypeId}
    (own : ownKnob C.prog.godebug = none) (started : os.Started) (noInit : C.prog.inits.idxOf? f = none) (hfn : C.prog.funcs[f]? = some fn)
    (witness : ∃ (w : World) (tape : Tape) (i : Input), w.os = os ∧ (w.forCall tape i).Shaped C.prog ∧ i.vars = [] ∧ Input.okWide C.prog (w.forCall tape i) .any w.heap.size f i ∧
      s.pre6 enc C.prog fn conds false (w.forCall tape i).memory i.args ∧ ({} : Assume).holds C.prog (lone (Frame.enter C.prog f i.args .normal) [] (w.forCall tape i)))
    (hl : laidOutB C.prog = true) (hp : fn.params.toList.all (fun t => C.prog.readableRec t && decide (t < C.prog.types.size)) = true) (hv : s.vars = [])
    (hr : fn.resultTypes = #[tb]) (htb : C.prog.underlying tb = some .bool)
    (hs : ∀ (ds : List (DataW H)), ds.length = fn.params.toList.length → s.fn H ds = { results := [.lit (.bool true)], args := ds })
    (walk : ∀ (W : World) (base : Nat) (args : Array Value) (ds : List (DataW H)) (p : List MemPlace),
      (∀ (j : Nat) t v, fn.params[j]? = some t → args[j]? = some v → Value.okWide C.prog W .any base t v) →
      DataW.TrodAll enc C.prog W 0 (fun _ => true) true fn.params.toList args.toList ds p →
      (DataW.weightsEach C.prog fn.params.toList ds).all (· ≤ reachBytes) = true →
      Calls C.prog f args W fun e W' => e = .returned (.bool true) ∧ Below W.heap.size W W') :
    ReturnsInHanded {} C os f .any (s.pre6 enc C.prog fn conds false) (s.post enc C.prog fn false true false false) := by
  refine returnsInHanded_of_change_sized own started noInit hfn witness ?_
  intro W base args ds gs before hval hW _ hz _
  have hW' := hW
  obtain ⟨p, q, hA, hV, rfl, hfz, hnd⟩ := hW
  rw [hv] at hV
  obtain ⟨rfl, rfl⟩ := trodVars_none hV
  have hz' : (DataW.weightsEach C.prog fn.params.toList ds).all (· ≤ reachBytes) = true := by
    have e : s.plain.varTypes C.prog = [] := by simp [ChangeSpec.plain, DataSpec.varTypes, hv]
    rw [e, List.append_nil, List.append_nil] at hz
    exact hz
  refine (walk W base args ds p hval hA hz').mono fun e W' ⟨he, bel⟩ => ?_
  subst he
  have hf := hs ds (trodAll_length hA)
  refine ⟨_, rfl, ds, [], _, [], p, [], hW', ?_, ?_, ?_, bel.frame _, fun h => by cases h⟩
  · rw [List.append_nil, hf, hr]
    exact trodAll_mk1 (shut_bool htb _)
  · rw [List.append_nil, hf]
    exact trodAll_stays hl bel hp hA
  · rw [List.append_nil, hf, hv]
    rfl

-- ===== what an argument is, read off its reading =====

section
variable {H : Type} {enc : TypeId × Value → H} {P : Program} {w : World} {held : Bool}

end
end Go.Hs
