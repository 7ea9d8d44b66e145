/-
  Rules for walks, merged.
-/
import Derived.Test.YtbdcpahifcbcfaaXa
import Derived.WalkKit
import Derived.ProofKit
import Derived.OpenShut
import Derived.ShutString
import Derived.ChangeOld
import Derived.SizedLaws
import Derived.Below
import Derived.Carry
import Derived.ChangeSlices
import Derived.Deep.Slices
import Derived.Test.YtbdcpahifcbcfaaXb
import Derived.Test.YtbdcpahifcbcfaaRows
/-
  From a contract to what a row asks: what was there before the call has not turned. No program is named here.
-/
namespace Go.Hs
open Go Go.RowKit Go.ChangeShapes Go.WideShapes Go.ChangeAt

theorem CtD.below {P : Program} {f : FuncId} {args : List Value} {Φ : List SP} {v : Value} {w : World} (h : CtD P f args Φ v) (hp : ∀ ψ ∈ Φ, ψ.p w (fun _ => False)) :
    Calls P f args.toArray w fun e w' => e = .returned v ∧ Below w.heap.size w w' := by
  have ha : avo (fun _ => False) [] = fun _ => False := by
    funext k
    apply propext
    constructor
    · rintro (h | ⟨x, hx, _⟩)
      · exact h
      · cases hx
    · exact False.elim
  refine (h w (fun _ => False) (fun k hk => hk.elim) trivial (fun ψ hψ => by rw [ha]; exact hp ψ hψ)).mono fun e w' ⟨_, _, he, hm, _⟩ => ?_
  refine ⟨he, hm.os, hm.tape, hm.output, hm.size, fun k hk => hm.block k hk ?_⟩
  rintro ⟨x, hx, _⟩
  cases hx

theorem trodAll_stays {H : Type} {enc : TypeId × Value → H} {P : Program} (hl : laidOutB P = true) {W W' : World} (hb : Below W.heap.size W W') :
    ∀ {ts : List TypeId} {vs : List Value} {ds : List (DataW H)} {ps : List MemPlace}, ts.all (fun t => P.readableRec t && decide (t < P.types.size)) = true →
      DataW.TrodAll enc P W 0 (fun _ => true) true ts vs ds ps → DataW.TrodAll enc P W' 0 (fun b => decide (b < W.heap.size)) true ts vs ds ps
  | [], vs, ds, ps, _, h => by
    cases vs <;> cases ds <;> simp [DataW.TrodAll] at h ⊢
    exact h
  | t :: ts, vs, ds, ps, ha, h => by
    obtain ⟨v, vs', d, ds', p, q, rfl, rfl, rfl, h1, h2⟩ := trodAll_cons h
    simp only [List.all_cons, Bool.and_eq_true, decide_eq_true_eq] at ha
    obtain ⟨⟨ha, hs⟩, hr⟩ := ha
    refine trodAll_cons_mk (Below.trod hl ha hs h1 hb ?_) (trodAll_stays hl hb hr h2)
    obtain ⟨m, hm⟩ := h1
    exact DataW.trod_lt m _ _ _ hm

theorem trodAll_length {H : Type} {enc : TypeId × Value → H} {P : Program} {W : World} {b : Nat} {sp : Nat → Bool} {hd : Bool} :
    ∀ {ts : List TypeId} {vs : List Value} {ds : List (DataW H)} {ps : List MemPlace}, DataW.TrodAll enc P W b sp hd ts vs ds ps → ds.length = ts.length
  | [], vs, ds, ps, h => by cases vs <;> cases ds <;> simp [DataW.TrodAll] at h ⊢
  | t :: ts, vs, ds, ps, h => by
    obtain ⟨v, vs', d, ds', p, q, rfl, rfl, rfl, h1, h2⟩ := trodAll_cons h
    simp [trodAll_length h2]

theorem law_lift {H : Type} {enc : TypeId × Value → H} {C : Checked} {os : Os} {f : FuncId} {fn : Func} {s : ChangeSpec} {conds : List PathCond} {tb : TypeId}
    (own : ownKnob C.prog.godebug = none) (started : os.Started) (noInit : C.prog.inits.idxOf? f = none) (hfn : C.prog.funcs[f]? = some fn)
    (witness : ∃ (w : World) (tape : Tape) (i : Input), w.os = os ∧ (w.forCall tape i).Shaped C.prog ∧ i.vars = [] ∧ Input.okWide C.prog (w.forCall tape i) .any w.heap.size f i ∧
      s.pre6 enc C.prog fn conds false (w.forCall tape i).memory i.args ∧ ({} : Assume).holds C.prog (lone (Frame.enter C.prog f i.args .normal) [] (w.forCall tape i)))
    (hl : laidOutB C.prog = true) (hp : fn.params.toList.all (fun t => C.prog.readableRec t && decide (t < C.prog.types.size)) = true) (hv : s.vars = [])
    (hr : fn.resultTypes = #[tb]) (htb : C.prog.underlying tb = some .bool)
    (hs : ∀ (ds : List (DataW H)), ds.length = fn.params.toList.length → s.fn H ds = { results := [.lit (.bool true)], args := ds })
    (walk : ∀ (W : World) (base : Nat) (args : Array Value) (ds : List (DataW H)) (p : List MemPlace),
      (∀ (j : Nat) t v, fn.params[j]? = some t → args[j]? = some v → Value.okWide C.prog W .any base t v) →
      DataW.TrodAll enc C.prog W 0 (fun _ => true) true fn.params.toList args.toList ds p →
      (DataW.weightsEach C.prog fn.params.toList ds).all (· ≤ reachBytes) = true →
      Calls C.prog f args W fun e W' => e = .returned (.bool true) ∧ Below W.heap.size W W') :
    ReturnsInHanded {} C os f .any (s.pre6 enc C.prog fn conds false) (s.post enc C.prog fn false true false false) := by
  refine returnsInHanded_of_change_sized own started noInit hfn witness ?_
  intro W base args ds gs before hval hW _ hz _
  have hW' := hW
  obtain ⟨p, q, hA, hV, rfl, hfz, hnd⟩ := hW
  rw [hv] at hV
  obtain ⟨rfl, rfl⟩ := trodVars_none hV
  have hz' : (DataW.weightsEach C.prog fn.params.toList ds).all (· ≤ reachBytes) = true := by
    have e : s.plain.varTypes C.prog = [] := by simp [ChangeSpec.plain, DataSpec.varTypes, hv]
    rw [e, List.append_nil, List.append_nil] at hz
    exact hz
  refine (walk W base args ds p hval hA hz').mono fun e W' ⟨he, bel⟩ => ?_
  subst he
  have hf := hs ds (trodAll_length hA)
  refine ⟨_, rfl, ds, [], _, [], p, [], hW', ?_, ?_, ?_, bel.frame _, fun h => by cases h⟩
  · rw [List.append_nil, hf, hr]
    exact trodAll_mk1 (shut_bool htb _)
  · rw [List.append_nil, hf]
    exact trodAll_stays hl bel hp hA
  · rw [List.append_nil, hf, hv]
    rfl

theorem wf_u64 {n : Int} (h : (Lit.int .u64 n).wf = true) : ∃ k : Nat, n = (k : Int) ∧ k < 18446744073709551616 := by
  simp [Lit.wf, IntKind.min, IntKind.max, IntKind.signed, IntKind.bits] at h
  exact ⟨n.toNat, by omega, by omega⟩
theorem wf_i64 {n : Int} (h : (Lit.int .i64 n).wf = true) : -9223372036854775808 ≤ n ∧ n ≤ 9223372036854775807 := by
  simp [Lit.wf, IntKind.min, IntKind.max, IntKind.signed, IntKind.bits] at h
  exact h
theorem wf_u8 {n : Int} (h : (Lit.int .u8 n).wf = true) : ∃ k : UInt8, n = (k.toNat : Int) := by
  simp [Lit.wf, IntKind.min, IntKind.max, IntKind.signed, IntKind.bits] at h
  exact ⟨UInt8.ofNat n.toNat, by simp; omega⟩

theorem wf_u32 {n : Int} (h : (Lit.int .u32 n).wf = true) : ∃ k : BitVec 32, n = (k.toNat : Int) := by
  simp [Lit.wf, IntKind.min, IntKind.max, IntKind.signed, IntKind.bits] at h
  exact ⟨BitVec.ofNat 32 n.toNat, by simp; omega⟩
theorem wf_u16 {n : Int} (h : (Lit.int .u16 n).wf = true) : ∃ k : Nat, n = (k : Int) ∧ k < 65536 := by
  simp [Lit.wf, IntKind.min, IntKind.max, IntKind.signed, IntKind.bits] at h
  exact ⟨n.toNat, by omega, by omega⟩

-- ===== what an argument is, read off its reading =====

section
variable {H : Type} {enc : TypeId × Value → H} {P : Program} {w : World} {held : Bool}

theorem cell_block {w : World} {a : Addr} {v : Value} (h : w.cell? a = some v) : a.block < w.heap.size := by
  rcases Nat.lt_or_ge a.block w.heap.size with h1 | h1
  · exact h1
  · simp [World.cell?, Array.getElem?_eq_none h1] at h

theorem op_int {t : TypeId} {k : IntKind} {fuel : Nat} {cs : List Value} {x : DataW H × List MemPlace} (ht : P.underlying t = some (.int k)) (h : DataW.trod enc P w 0 (fun _ => true) held fuel t cs = some x) :
    ∃ n, cs = [.int k n] ∧ (Lit.int k n).wf = true := by
  obtain ⟨n, h1, _, h2⟩ := DataW.trod_int ht h
  exact ⟨n, h1, h2⟩

theorem op_bool {t : TypeId} {fuel : Nat} {cs : List Value} {x : DataW H × List MemPlace} (ht : P.underlying t = some .bool) (h : DataW.trod enc P w 0 (fun _ => true) held fuel t cs = some x) : ∃ b, cs = [.bool b] := by
  cases fuel with
  | zero => simp [DataW.trod] at h
  | succ fuel =>
    unfold DataW.trod at h
    rw [ht] at h
    split at h <;> first | exact ⟨_, rfl⟩ | simp_all

theorem op_bytes {t e : TypeId} {fuel : Nat} {cs : List Value} {x : DataW H × List MemPlace} (ht : P.underlying t = some (.slice e)) (he : P.underlying e = some (.int .u8)) (hc : P.cellsOf e = 1)
    (h : DataW.trod enc P w 0 (fun _ => true) held fuel t cs = some x) : ∃ v bs, cs = [v] ∧ (By v bs).p w (fun _ => False) ∧ bs.length ≤ maxLen := by
  rcases open_ints ht he hc h with ⟨rfl, _⟩ | ⟨a, len, cap, zs, rfl, _, hl, hm, hz, _, hcell, hwz⟩
  · exact ⟨_, [], rfl, ⟨rfl, none, 0, rfl, Nat.le_refl _, by simp [maxLen], fun h => absurd h (by simp)⟩, by simp⟩
  · simp only [if_true] at hz
    have hlen : ((zs.take len).map fun z => UInt8.ofNat z.toNat).length = len := by simp; omega
    refine ⟨_, (zs.take len).map fun z => UInt8.ofNat z.toNat, rfl, ⟨by simp, some a, cap, by rw [hlen], by rw [hlen]; exact hl, hm, fun hn => ⟨a, rfl, ?_, fun h => h, fun j u hu => ?_⟩⟩, by rw [hlen]; omega⟩
    · rw [hlen] at hn
      have := cell_block (hcell 0 (by omega))
      rwa [block_add] at this
    · rw [List.map_map, List.getElem?_map] at hu
      cases hz2 : (zs.take len)[j]? with
      | none => rw [hz2] at hu; cases hu
      | some z =>
        rw [hz2] at hu
        simp only [Option.map_some, Option.some.injEq] at hu
        subst hu
        have hj : j < len := by
          have := (List.getElem?_eq_some_iff.1 hz2).1
          simp at this
          omega
        have hzj : zs[j]? = some z := by rwa [List.getElem?_take_of_lt hj] at hz2
        rw [hcell j (by omega), List.getD, hzj]
        obtain ⟨k, rfl⟩ := wf_u8 (hwz z (List.mem_of_getElem? hzj))
        simp [bcell]

theorem open_bytes {t e : TypeId} {r : Reach} {base : Nat} {v : Value} {d : DataW H} {ps : List MemPlace} (ht : P.underlying t = some (.slice e)) (he : P.underlying e = some (.int .u8)) (hc : P.cellsOf e = 1)
    (hval : Value.okWide P w r base t v) (h : DataW.Trod enc P w 0 (fun _ => true) held t v d ps) : ∃ bs, (By v bs).p w (fun _ => False) ∧ bs.length ≤ maxLen := by
  obtain ⟨a, len, cap, rfl⟩ := okWide_slice ht hval
  obtain ⟨fuel, hf⟩ := h
  obtain ⟨v, bs, e0, hb, hl⟩ := op_bytes ht he hc hf
  have e0 : [Value.slice a len cap] = [v] := e0
  injection e0 with e0
  subst e0
  exact ⟨bs, hb, hl⟩

theorem wf_zero (k : IntKind) : (Lit.int k 0).wf = true := by cases k <;> decide

theorem open_nums {t e : TypeId} {k : IntKind} {r : Reach} {base : Nat} {v : Value} {d : DataW H} {ps : List MemPlace} (ht : P.underlying t = some (.slice e)) (he : P.underlying e = some (.int k)) (hc : P.cellsOf e = 1)
    (hval : Value.okWide P w r base t v) (h : DataW.Trod enc P w 0 (fun _ => true) held t v d ps) : ∃ (n : Nat) (g : Nat → Int), (Rw 1 v n (fun i => [.int k (g i)])).p w (fun _ => False) ∧ n ≤ maxLen ∧ ∀ i, (Lit.int k (g i)).wf = true := by
  obtain ⟨a, len, cap, rfl⟩ := okWide_slice ht hval
  obtain ⟨fuel, hf⟩ := h
  rcases open_ints ht he hc hf with ⟨e0, _⟩ | ⟨a', len', cap', zs, e0, _, hl, hm, hz, _, hcell, hwz⟩
  · have e0 : [Value.slice a len cap] = [.slice none 0 0] := e0
    injection e0 with e0
    injection e0 with e1 e2 e3
    subst e1; subst e2; subst e3
    exact ⟨0, fun _ => 0, ⟨none, 0, rfl, Nat.le_refl _, by simp [maxLen], fun h => absurd h (by omega)⟩, by simp, fun _ => wf_zero k⟩
  · have e0 : [Value.slice a len cap] = [.slice (some a') len' cap'] := e0
    injection e0 with e0
    injection e0 with e1 e2 e3
    subst e1; subst e2; subst e3
    simp only [if_true] at hz
    refine ⟨len, fun i => zs.getD i 0, ⟨some a', cap, rfl, hl, hm, fun hn => ⟨a', rfl, ?_, fun h => h, fun i hi j u hu => ?_⟩⟩, by omega, fun i => ?_⟩
    · have := cell_block (hcell 0 (by omega))
      rwa [block_add] at this
    · cases j with
      | zero =>
        simp only [List.getElem?_cons_zero, Option.some.injEq] at hu
        subst hu
        rw [Nat.mul_one, Nat.add_zero]
        exact hcell i (by omega)
      | succ j => simp at hu
    · show (Lit.int k (zs.getD i 0)).wf = true
      rw [List.getD_eq_getElem?_getD]
      cases hg : zs[i]? with
      | none => exact wf_zero k
      | some z => exact hwz z (List.mem_of_getElem? hg)

theorem mapM_get {α β : Type} {g : α → Option β} : ∀ {l : List α} {ys : List β}, l.mapM g = some ys → ∀ {i : Nat} {a : α}, l[i]? = some a → ∃ y, g a = some y
  | [], _, _, i, a, h => by simp at h
  | b :: r, ys, h, i, a, ha => by
    rw [List.mapM_cons] at h
    cases hb : g b with
    | none => rw [hb] at h; simp at h
    | some y =>
      rw [hb] at h
      cases hr : r.mapM g with
      | none => rw [hr] at h; simp at h
      | some zs =>
        cases i with
        | zero =>
          simp only [List.getElem?_cons_zero, Option.some.injEq] at ha
          subst ha
          exact ⟨y, hb⟩
        | succ i =>
          rw [List.getElem?_cons_succ] at ha
          exact mapM_get hr ha

theorem op_struct {t : TypeId} {fs : Array Field} {fuel : Nat} {cs : List Value} {x : DataW H × List MemPlace} (ht : P.underlying t = some (.struct fs)) (h : DataW.trod enc P w 0 (fun _ => true) held fuel t cs = some x) :
    cs.length = P.cellsOf t ∧ ∃ fuel', ∀ {i : Nat} {f : Field}, fs[i]? = some f → ∃ y, DataW.trod enc P w 0 (fun _ => true) held fuel' f.type ((cs.drop f.offset).take (P.cellsOf f.type)) = some y := by
  cases fuel with
  | zero => simp [DataW.trod] at h
  | succ fuel =>
    unfold DataW.trod at h
    rw [ht] at h
    split at h <;> first | (rename_i heq; injection heq with heq; cases heq; done) | skip
    all_goals first | (exfalso; simp_all; done) | skip
    split at h
    · rename_i heq hl
      injection heq with heq
      injection heq with heq
      subst heq
      rw [Option.map_eq_some_iff] at h
      obtain ⟨ys, hm, _⟩ := h
      exact ⟨hl, fuel, fun {i f} hf => mapM_get hm (by simpa using hf)⟩
    · cases h

theorem open_struct {t : TypeId} {fs : Array Field} {r : Reach} {base : Nat} {v : Value} {d : DataW H} {ps : List MemPlace} (ht : P.underlying t = some (.struct fs)) (hval : Value.okWide P w r base t v) (h : DataW.Trod enc P w 0 (fun _ => true) held t v d ps) :
    ∃ cs : List Value, v = .agg cs.toArray ∧ cs.length = P.cellsOf t ∧ ∃ fuel', ∀ {i : Nat} {f : Field}, fs[i]? = some f → ∃ y, DataW.trod enc P w 0 (fun _ => true) held fuel' f.type ((cs.drop f.offset).take (P.cellsOf f.type)) = some y := by
  simp only [Value.okWide, ht] at hval
  obtain ⟨cs, rfl, _, _⟩ := hval
  obtain ⟨fuel, hf⟩ := h
  obtain ⟨h1, h2⟩ := op_struct ht hf
  refine ⟨cs.toList, by simp, h1, h2⟩

theorem fld {fs : Array Field} {fuel : Nat} {cs : List Value} (hf : ∀ {i : Nat} {f : Field}, fs[i]? = some f → ∃ y, DataW.trod enc P w 0 (fun _ => true) held fuel f.type ((cs.drop f.offset).take (P.cellsOf f.type)) = some y)
    (i T off sz : Nat) {f : Field} (h : fs[i]? = some f) (hT : f.type = T) (ho : f.offset = off) (hs : P.cellsOf T = sz) {us : List Value} (hu : (cs.drop off).take sz = us) : ∃ y, DataW.trod enc P w 0 (fun _ => true) held fuel T us = some y := by
  subst hT; subst ho; subst hs; subst hu
  exact hf h
end
end Go.Hs

/-
  Arguments that are slices of things: what is read off their reading. No program is named here.
-/
namespace Go.Hs
open Go Go.RowKit Go.ChangeShapes Go.WideShapes Go.ChangeAt

theorem rwP_congr {size : Nat} {v : Value} {n : Nat} {f g : Nat → List Value} {w : World} {O : Nat → Prop} (h : rwP size v n f w O) (e : ∀ i, i < n → f i = g i) : rwP size v n g w O := by
  obtain ⟨A, c, hv, h1, h2, hr⟩ := h
  refine ⟨A, c, hv, h1, h2, fun hn => ?_⟩
  obtain ⟨ad, hA, hlt, hO, hcell⟩ := hr hn
  exact ⟨ad, hA, hlt, hO, fun i hi j u hu => hcell i hi j u (by rw [e i hi]; exact hu)⟩

section
variable {H : Type} {enc : TypeId × Value → H} {P : Program} {w : World} {held : Bool}

theorem op_things {t e : TypeId} {size fuel : Nat} {cs : List Value} {x : DataW H × List MemPlace} (ht : P.underlying t = some (.slice e)) (hs : P.cellsOf e = size) (h0 : 0 < size)
    (hf : DataW.trod enc P w 0 (fun _ => true) held fuel t cs = some x) : ∃ (v : Value) (n : Nat) (f : Nat → List Value) (fuel' : Nat), cs = [v] ∧ (Rw size v n f).p w (fun _ => False) ∧ n ≤ maxLen ∧
      ∀ i, i < n → (f i).length = size ∧ ∃ y, DataW.trod enc P w 0 (fun _ => true) held fuel' e (f i) = some y := by
  subst hs
  rcases Deep.open_slice ht hf with ⟨rfl, _⟩ | ⟨a, len, cap, m, n, D, Pl, rfl, _, hl, hm, hmm, _, hel⟩
  · exact ⟨_, 0, fun _ => [], 0, rfl, ⟨none, 0, rfl, Nat.le_refl _, by simp [maxLen], fun h => absurd h (by omega)⟩, by simp, fun i hi => absurd hi (by omega)⟩
  · simp only [if_true] at hmm
    have hch : ∀ i, ∃ cs', i < m → w.cells? 0 (a.add (i * P.cellsOf e)) (P.cellsOf e) = some cs' ∧ DataW.trod enc P w 0 (fun _ => true) held n e cs' = some (D i, Pl i) := fun i => by
      by_cases hi : i < m
      · obtain ⟨cs', h1, h2⟩ := hel i hi
        exact ⟨cs', fun _ => ⟨h1, h2⟩⟩
      · exact ⟨[], fun h => absurd h hi⟩
    obtain ⟨f, hf'⟩ := Classical.axiomOfChoice hch
    have hcell : ∀ i, i < len → (f i).length = P.cellsOf e ∧ ∀ j u, (f i)[j]? = some u → w.cell? (a.add (i * P.cellsOf e + j)) = some u := fun i hi => by
      obtain ⟨_, h2, h3⟩ := World.cells?_some (hf' i (by omega)).1
      refine ⟨h2, fun j u hu => ?_⟩
      have hj : j < (f i).length := (List.getElem?_eq_some_iff.1 hu).1
      have h4 := h3 j (by omega)
      rw [add_add'] at h4
      rw [h4, hu]
    refine ⟨_, len, f, n, rfl, ⟨some a, cap, rfl, hl, hm, fun hn => ⟨a, rfl, ?_, fun h => h, fun i hi j u hu => (hcell i hi).2 j u hu⟩⟩, by omega, fun i hi => ⟨(hcell i hi).1, _, (hf' i (by omega)).2⟩⟩
    obtain ⟨h1, h2⟩ := hcell 0 hn
    have h3 := h2 0 ((f 0)[0]'(by omega)) (List.getElem?_eq_getElem _)
    have := cell_block h3
    rwa [block_add] at this

theorem open_things {t e : TypeId} {size : Nat} {r : Reach} {base : Nat} {v : Value} {d : DataW H} {ps : List MemPlace} (ht : P.underlying t = some (.slice e)) (hs : P.cellsOf e = size) (h0 : 0 < size)
    (hval : Value.okWide P w r base t v) (h : DataW.Trod enc P w 0 (fun _ => true) held t v d ps) : ∃ (n : Nat) (f : Nat → List Value) (fuel' : Nat), (Rw size v n f).p w (fun _ => False) ∧ n ≤ maxLen ∧
      ∀ i, i < n → (f i).length = size ∧ ∃ y, DataW.trod enc P w 0 (fun _ => true) held fuel' e (f i) = some y := by
  obtain ⟨a, len, cap, rfl⟩ := okWide_slice ht hval
  obtain ⟨fuel, hf⟩ := h
  obtain ⟨v, n, f, fuel', e0, h1, h2, h3⟩ := op_things ht hs h0 hf
  have e0 : [Value.slice a len cap] = [v] := e0
  injection e0 with e0
  subst e0
  exact ⟨n, f, fuel', h1, h2, h3⟩

theorem open_lists {t e b : TypeId} {r : Reach} {base : Nat} {v : Value} {d : DataW H} {ps : List MemPlace} (ht : P.underlying t = some (.slice e)) (he : P.underlying e = some (.slice b)) (hb : P.underlying b = some (.int .u8)) (hce : P.cellsOf e = 1) (hcb : P.cellsOf b = 1)
    (hval : Value.okWide P w r base t v) (h : DataW.Trod enc P w 0 (fun _ => true) held t v d ps) : ∃ (fs : List (List UInt8)) (vs : Nat → Value), (Rw 1 v fs.length (fun i => [vs i])).p w (fun _ => False) ∧ (Al fs.length (fun i => By (vs i) (fs.getD i []))).p w (fun _ => False) := by
  obtain ⟨n, f, fuel, hr, _, hel⟩ := open_things ht hce (by decide) hval h
  have hch : ∀ i, ∃ q : Value × List UInt8, i < n → f i = [q.1] ∧ (By q.1 q.2).p w (fun _ => False) := fun i => by
    by_cases hi : i < n
    · obtain ⟨_, y, hy⟩ := hel i hi
      obtain ⟨v, bs, e0, h1, _⟩ := op_bytes he hb hcb hy
      exact ⟨(v, bs), fun _ => ⟨e0, h1⟩⟩
    · exact ⟨(.slice none 0 0, []), fun h => absurd h hi⟩
  obtain ⟨g, hg⟩ := Classical.axiomOfChoice hch
  have hl : ((List.range n).map fun i => (g i).2).length = n := by simp
  refine ⟨(List.range n).map fun i => (g i).2, fun i => (g i).1, ?_, fun i hi => ?_⟩
  · rw [hl]
    have hr' : rwP 1 v n f w (fun _ => False) := hr
    exact rwP_congr hr' fun i hi => (hg i hi).1
  · rw [hl] at hi
    have e : ((List.range n).map fun i => (g i).2).getD i [] = (g i).2 := by
      rw [List.getD_eq_getElem?_getD]
      simp [hi]
    show (By (g i).1 (((List.range n).map fun i => (g i).2).getD i [])).p w _
    rw [e]
    exact (hg i hi).2
end
end Go.Hs

/-
  Own rows of things of several cells each, told by a list of the things. No program is named here.
-/
namespace Go.Hs
open Go Go.RowKit

section
variable {V : Type} {cf : V → List Value} {S : Nat}
theorem fc_length (h : ∀ v, (cf v).length = S) : ∀ (l : List V), (l.flatMap cf).length = l.length * S
  | [] => by simp
  | v :: r => by rw [List.flatMap_cons, List.length_append, h, fc_length h r, List.length_cons, Nat.add_mul]; omega
theorem fc_take (h : ∀ v, (cf v).length = S) (l : List V) (k : Nat) (hk : k ≤ l.length) : (l.flatMap cf).take (k * S) = (l.take k).flatMap cf := by
  have e := congrArg (List.flatMap cf) (List.take_append_drop k l)
  rw [List.flatMap_append] at e
  rw [← e, List.take_left' (by rw [fc_length h, List.length_take, Nat.min_eq_left hk])]
theorem fc_drop (h : ∀ v, (cf v).length = S) (l : List V) (k : Nat) (hk : k ≤ l.length) : (l.flatMap cf).drop (k * S) = (l.drop k).flatMap cf := by
  have e := congrArg (List.flatMap cf) (List.take_append_drop k l)
  rw [List.flatMap_append] at e
  rw [← e, List.drop_left' (by rw [fc_length h, List.length_take, Nat.min_eq_left hk])]
theorem drop_cons_getD {l : List V} {k : Nat} (hk : k < l.length) (z : V) : l.drop k = l.getD k z :: l.drop (k + 1) := by
  rw [List.drop_eq_getElem_cons hk, List.getD_eq_getElem?_getD, List.getElem?_eq_getElem hk]; rfl
theorem fc_at (h : ∀ v, (cf v).length = S) (l : List V) (k : Nat) (hk : k < l.length) (z : V) : ((l.flatMap cf).drop (k * S)).take S = cf (l.getD k z) := by
  rw [fc_drop h l k (Nat.le_of_lt hk), drop_cons_getD hk z, List.flatMap_cons, List.take_left' (h _)]
theorem ent_slG {Φ : List SP} {v : Value} {l : List V} {n : Nat} {xs : List Value} (h : ∀ v, (cf v).length = S) (z : V) (hm : Sl S v n xs ∈ Φ) (hn : n = l.length) (hx : xs = l.flatMap cf) : Ent Φ (Rw S v n (fun i => cf (l.getD i z))) := fun w O hw => by
  subst hn; subst hx
  exact rwP_congr (ent_slRw hm w O hw) fun i hi => fc_at h l i hi z
theorem Bor.rowG {Φ : List SP} {v : Value} {et : TypeId} {l : List V} {n : Nat} {xs : List Value} (h : ∀ v, (cf v).length = S) (z : V) (hn : n = l.length) (hx : xs = l.flatMap cf) : Bor [.row v et S n xs] Φ (Rw S v n (fun i => cf (l.getD i z)) :: Φ) := fun w O ho hd hΦ ψ hψ => by
  subst hn; subst hx
  rcases List.mem_cons.1 hψ with rfl | hψ
  · have h1 : slP S v l.length (l.flatMap cf) w O := slP_of_row ho.1 fun k hk => hd k (fpL_cons.2 (.inl hk))
    exact rwP_congr (ent_slRw (Φ := [Sl S v l.length (l.flatMap cf)]) List.mem_cons_self w O (fun χ hχ => by
      rcases List.mem_cons.1 hχ with rfl | hχ
      · exact h1
      · cases hχ)) fun i hi => fc_at h l i hi z
  · exact hΦ ψ hψ
theorem ent_rwG {Φ : List SP} {v : Value} {l : List V} (h : ∀ v, (cf v).length = S) (h0 : 0 < S) (z : V) (hm : Rw S v l.length (fun i => cf (l.getD i z)) ∈ Φ) : Ent Φ (Sl S v l.length (l.flatMap cf)) :=
  ent_rwSl h0 (fc_length h l) (fun i hi => fc_at h l i hi z) hm
end
end Go.Hs

/-
  The mathematics of check values: a register that is fed with bits. No program is named here.
-/
namespace Go.Proofs.Ytbdcpahifcbcfaa.C03
open Go

section
variable {w : Nat}

def tpb (w : Nat) (b : Bool) : BitVec w := if b then BitVec.twoPow w (w - 1) else 0#w
def zs (P r : BitVec w) : BitVec w := (r <<< 1) ^^^ (if r.msb then P else 0#w)
def stp (P r : BitVec w) (b : Bool) : BitVec w := zs P (r ^^^ tpb w b)
def feed (P r : BitVec w) (l : List Bool) : BitVec w := l.foldl (stp P) r

theorem feed_nil (P r : BitVec w) : feed P r [] = r := rfl
theorem feed_cons (P r : BitVec w) (b : Bool) (l : List Bool) : feed P r (b :: l) = feed P (stp P r b) l := rfl
theorem feed_append (P r : BitVec w) (l m : List Bool) : feed P r (l ++ m) = feed P (feed P r l) m := by simp [feed]

theorem zs_xor (P r s : BitVec w) : zs P (r ^^^ s) = zs P r ^^^ zs P s := by
  unfold zs
  rw [BitVec.shiftLeft_xor_distrib, BitVec.msb_xor]
  cases r.msb <;> cases s.msb
  · simp
  · simp; ac_rfl
  · simp; ac_rfl
  · simp only [Bool.xor_self, Bool.false_eq_true, if_false, if_true, BitVec.xor_zero]
    rw [show r <<< 1 ^^^ P ^^^ (s <<< 1 ^^^ P) = r <<< 1 ^^^ s <<< 1 ^^^ (P ^^^ P) by ac_rfl, BitVec.xor_self, BitVec.xor_zero]
theorem zs_zero (P : BitVec w) : zs P 0#w = 0#w := by simp [zs]
theorem tpb_xor (a b : Bool) : tpb w (a ^^ b) = tpb w a ^^^ tpb w b := by cases a <;> cases b <;> simp [tpb]
theorem stp_xor (P r s : BitVec w) (a b : Bool) : stp P (r ^^^ s) (a ^^ b) = stp P r a ^^^ stp P s b := by
  unfold stp
  rw [tpb_xor, ← zs_xor]
  congr 1
  ac_rfl
theorem stp_zero (P : BitVec w) : stp P 0#w false = 0#w := by simp [stp, tpb, zs_zero]

theorem feed_xor (P : BitVec w) : ∀ (l m : List Bool) (r s : BitVec w), l.length = m.length → feed P (r ^^^ s) (List.zipWith xor l m) = feed P r l ^^^ feed P s m
  | [], [], r, s, _ => rfl
  | [], _ :: _, _, _, h => by simp at h
  | _ :: _, [], _, _, h => by simp at h
  | a :: l, b :: m, r, s, h => by
    rw [List.zipWith_cons_cons, feed_cons, feed_cons, feed_cons, stp_xor]
    exact feed_xor P l m _ _ (by simpa using h)
theorem feed_zeros (P : BitVec w) : ∀ n, feed P 0#w (List.replicate n false) = 0#w
  | 0 => rfl
  | n + 1 => by rw [List.replicate_succ, feed_cons, stp_zero, feed_zeros P n]

theorem zs_inj0 {P : BitVec w} (hw : 0 < w) (hP : P.getLsbD 0 = true) {x : BitVec w} (h : zs P x = 0#w) : x = 0#w := by
  have h0 : (zs P x).getLsbD 0 = false := by rw [h]; simp
  have hm : x.msb = false := by
    unfold zs at h0
    cases hx : x.msb with
    | false => rfl
    | true =>
      rw [hx] at h0
      simp [hw] at h0
      rw [BitVec.getLsbD_eq_getElem hw, h0] at hP
      cases hP
  have h1 : x <<< 1 = 0#w := by simpa [zs, hm] using h
  apply BitVec.eq_of_getLsbD_eq
  intro i hi
  by_cases e : i = w - 1
  · subst e
    rw [BitVec.msb_eq_getLsbD_last] at hm
    simpa using hm
  · have h2 : (x <<< 1).getLsbD (i + 1) = false := by rw [h1]; simp
    rw [BitVec.getLsbD_shiftLeft] at h2
    simp [show i + 1 < w by omega] at h2
    simpa using h2
theorem zs_inj {P : BitVec w} (hw : 0 < w) (hP : P.getLsbD 0 = true) {x y : BitVec w} (h : zs P x = zs P y) : x = y := by
  have h1 : zs P (x ^^^ y) = 0#w := by rw [zs_xor, h, BitVec.xor_self]
  have h2 := zs_inj0 hw hP h1
  exact BitVec.xor_eq_zero_iff.1 h2
theorem feed_zeros_inj {P : BitVec w} (hw : 0 < w) (hP : P.getLsbD 0 = true) : ∀ (n : Nat) {x y : BitVec w}, feed P x (List.replicate n false) = feed P y (List.replicate n false) → x = y
  | 0, _, _, h => h
  | n + 1, x, y, h => by
    rw [List.replicate_succ, feed_cons, feed_cons] at h
    have h1 := zs_inj hw hP (feed_zeros_inj hw hP n h)
    simpa [tpb] using h1

/-- the bits of a list as the highest bits of a register. -/
def toTop (w : Nat) : List Bool → BitVec w
  | [] => 0#w
  | b :: q => tpb w b ^^^ (toTop w q >>> 1)

theorem tpb_msbD (hw : 0 < w) (b : Bool) (i : Nat) : (tpb w b).getMsbD i = (b && decide (i = 0)) := by
  cases b with
  | false => simp [tpb]
  | true =>
    unfold tpb
    rw [if_pos rfl, BitVec.getMsbD_twoPow]
    rw [Bool.eq_iff_iff]
    simp
    omega
theorem toTop_msbD (hw : 0 < w) : ∀ (l : List Bool) (i : Nat), i < w → (toTop w l).getMsbD i = l.getD i false
  | [], i, _ => by simp [toTop]
  | b :: q, i, hi => by
    rw [toTop, BitVec.getMsbD_xor, tpb_msbD hw]
    cases i with
    | zero => simp [BitVec.getMsbD_ushiftRight]
    | succ i =>
      rw [BitVec.getMsbD_ushiftRight]
      simp [hi]
      rw [toTop_msbD hw q i (by omega)]
      simp [List.getD]

theorem toTop_half (hw : 0 < w) {q : List Bool} (h : q.length < w) (P : BitVec w) : zs P (toTop w q >>> 1) = toTop w q := by
  have hm : (toTop w q >>> 1).msb = false := by
    rw [BitVec.msb_eq_getMsbD_zero, BitVec.getMsbD_ushiftRight]
    simp
  unfold zs
  rw [hm]
  simp
  apply BitVec.eq_of_getMsbD_eq
  intro i hi
  rw [BitVec.getMsbD_shiftLeft, BitVec.getMsbD_ushiftRight]
  by_cases e : i + 1 < w
  · simp [e]
  · simp [e]
    rw [toTop_msbD hw q i hi, List.getD_eq_getElem?_getD, List.getElem?_eq_none (by omega)]
    rfl

theorem feed_top (hw : 0 < w) (P : BitVec w) : ∀ (l : List Bool) (r : BitVec w), l.length ≤ w → feed P r l = feed P (r ^^^ toTop w l) (List.replicate l.length false)
  | [], r, _ => by simp [toTop, feed]
  | b :: q, r, h => by
    rw [List.length_cons] at h
    rw [feed_cons, feed_top hw P q _ (by omega), List.length_cons, List.replicate_succ, feed_cons]
    congr 1
    unfold stp
    rw [show tpb w false = 0#w by simp [tpb], BitVec.xor_zero]
    conv => lhs; rw [← toTop_half hw (show q.length < w by omega) P]
    rw [← zs_xor, toTop, BitVec.xor_assoc]

theorem toTop_zero (hw : 0 < w) {l : List Bool} (hl : l.length ≤ w) (h : toTop w l = 0#w) : l = List.replicate l.length false := by
  apply List.ext_getElem
  · simp
  · intro i h1 h2
    have := toTop_msbD hw l i (by omega)
    rw [h] at this
    simp [List.getD, h1] at this
    simp [← this]

theorem toTop_inj (hw : 0 < w) {l m : List Bool} (hl : l.length ≤ w) (hm : m.length = l.length) (h : toTop w l = toTop w m) : l = m := by
  apply List.ext_getElem
  · exact hm.symm
  · intro i h1 h2
    have e1 := toTop_msbD hw l i (by omega)
    have e2 := toTop_msbD hw m i (by omega)
    rw [h, e2] at e1
    simp [List.getD, h1, h2] at e1
    exact e1.symm

/-- a short string of bits that leads from nothing to nothing is nothing. -/
theorem feed_short (hw : 0 < w) {P : BitVec w} (hP : P.getLsbD 0 = true) {l : List Bool} (hl : l.length ≤ w) (h : feed P 0#w l = 0#w) : l = List.replicate l.length false := by
  rw [feed_top hw P l 0#w hl, BitVec.zero_xor] at h
  have := feed_zeros_inj hw hP _ (h.trans (feed_zeros P l.length).symm)
  exact toTop_zero hw hl this

def msbs (c : BitVec w) : List Bool := (List.range w).map c.getMsbD
theorem toTop_msbs (hw : 0 < w) (c : BitVec w) : toTop w (msbs c) = c := by
  apply BitVec.eq_of_getMsbD_eq
  intro i hi
  rw [toTop_msbD hw _ i hi]
  simp [msbs, List.getD, hi]
theorem msbs_length (c : BitVec w) : (msbs c).length = w := by simp [msbs]

-- parity
def parN (f : Nat → Bool) : Nat → Bool
  | 0 => false
  | n + 1 => parN f n ^^ f n
theorem parN_xor (f g : Nat → Bool) : ∀ n, parN (fun i => f i ^^ g i) n = (parN f n ^^ parN g n)
  | 0 => rfl
  | n + 1 => by
    simp only [parN]
    rw [parN_xor f g n]
    cases parN f n <;> cases parN g n <;> cases f n <;> cases g n <;> rfl
theorem parN_congr {f g : Nat → Bool} : ∀ {n}, (∀ i, i < n → f i = g i) → parN f n = parN g n
  | 0, _ => rfl
  | n + 1, h => by
    simp only [parN]
    rw [parN_congr fun i hi => h i (by omega), h n (by omega)]
theorem parN_one (k : Nat) : ∀ n, parN (fun i => decide (i = k)) n = decide (k < n)
  | 0 => by simp [parN]
  | n + 1 => by
    simp only [parN]
    rw [parN_one k n]
    rcases Nat.lt_trichotomy k n with h | h | h
    · simp [h, show ¬ n = k by omega, show k < n + 1 by omega]
    · subst h; simp
    · simp [show ¬ n = k by omega, show ¬ k < n by omega, show ¬ k < n + 1 by omega]
theorem parN_shift (f : Nat → Bool) : ∀ n, parN (fun i => decide (0 < i) && f (i - 1)) (n + 1) = parN f n
  | 0 => by simp [parN]
  | n + 1 => by
    rw [parN, parN_shift f n]
    simp [parN]

def par (r : BitVec w) : Bool := parN r.getLsbD w
theorem par_xor (r s : BitVec w) : par (r ^^^ s) = (par r ^^ par s) := by
  unfold par
  rw [← parN_xor]
  exact parN_congr fun i _ => by rw [BitVec.getLsbD_xor]
theorem par_zero : par 0#w = false := by
  have := par_xor 0#w 0#w
  rw [BitVec.xor_self] at this
  cases h : par 0#w with
  | false => rfl
  | true => rw [h] at this; cases this
theorem par_shl (hw : 0 < w) (r : BitVec w) : par (r <<< 1) = (par r ^^ r.msb) := by
  obtain ⟨n, rfl⟩ : ∃ n, w = n + 1 := ⟨w - 1, by omega⟩
  unfold par
  rw [show r.msb = r.getLsbD n by rw [BitVec.msb_eq_getLsbD_last]; simp]
  have e : parN (r <<< 1).getLsbD (n + 1) = parN (fun i => decide (0 < i) && r.getLsbD (i - 1)) (n + 1) := parN_congr fun i hi => by
    rw [BitVec.getLsbD_shiftLeft]
    rw [Bool.eq_iff_iff]
    simp [hi]
    omega
  rw [e, parN_shift, parN]
  cases parN r.getLsbD n <;> cases r.getLsbD n <;> rfl
theorem par_tpb (hw : 0 < w) (b : Bool) : par (tpb w b) = b := by
  cases b with
  | false => simpa [tpb] using par_zero
  | true =>
    unfold par
    rw [parN_congr (g := fun i => decide (i = w - 1)) fun i hi => ?_, parN_one]
    · simp; omega
    · unfold tpb
      rw [if_pos rfl, BitVec.getLsbD_twoPow]
      rw [Bool.eq_iff_iff]
      simp
      omega
theorem par_stp (hw : 0 < w) {P : BitVec w} (hP : par P = true) (r : BitVec w) (b : Bool) : par (stp P r b) = (par r ^^ b) := by
  unfold stp zs
  rw [par_xor, par_shl hw, par_xor, par_tpb hw]
  cases (r ^^^ tpb w b).msb with
  | false => simp [show par (0#w) = false from par_zero]
  | true => simp [hP]
theorem par_feed (hw : 0 < w) {P : BitVec w} (hP : par P = true) : ∀ (l : List Bool) (r : BitVec w), par (feed P r l) = l.foldl xor (par r)
  | [], r => rfl
  | b :: l, r => by rw [feed_cons, par_feed hw hP l, par_stp hw hP]; rfl
theorem fold_par (f : Nat → Bool) (a : Bool) : ∀ n, ((List.range n).map f).foldl xor a = (a ^^ parN f n)
  | 0 => by simp [parN]
  | n + 1 => by
    rw [List.range_succ, List.map_append, List.foldl_append, fold_par f a n]
    simp [parN]
end

-- the bits of bytes
def bitsOf (c : UInt8) : List Bool := (List.range 8).map fun k => c.toNat.testBit (7 - k)
def bitsL (xs : List UInt8) : List Bool := xs.flatMap bitsOf
def bitAt (xs : List UInt8) (j : Nat) : Bool := (xs.getD (j / 8) 0).toNat.testBit (7 - j % 8)

theorem bitsOf_length (c : UInt8) : (bitsOf c).length = 8 := by simp [bitsOf]
theorem bitsL_cons (c : UInt8) (xs : List UInt8) : bitsL (c :: xs) = bitsOf c ++ bitsL xs := by simp [bitsL]
theorem bitsL_append (xs ys : List UInt8) : bitsL (xs ++ ys) = bitsL xs ++ bitsL ys := by simp [bitsL]
theorem bitsL_length (xs : List UInt8) : (bitsL xs).length = 8 * xs.length := by
  induction xs with
  | nil => rfl
  | cons c xs ih => rw [bitsL_cons, List.length_append, ih, bitsOf_length, List.length_cons]; omega
theorem bitsL_at : ∀ (xs : List UInt8), bitsL xs = (List.range (8 * xs.length)).map (bitAt xs)
  | [] => rfl
  | c :: xs => by
    rw [bitsL_cons, bitsL_at xs, List.length_cons, Nat.mul_add, Nat.mul_one, Nat.add_comm, List.range_add, List.map_append]
    congr 1
    rw [List.map_map]
    apply List.map_congr_left
    intro k hk
    show bitAt xs k = bitAt (c :: xs) (8 + k)
    unfold bitAt
    rw [show (8 + k) / 8 = k / 8 + 1 by omega, show (8 + k) % 8 = k % 8 by omega]
    rfl

theorem zip_self {α β : Type} (f : α → α → β) : ∀ l : List α, List.zipWith f l l = l.map fun a => f a a
  | [] => rfl
  | a :: l => by rw [List.zipWith_cons_cons, zip_self f l, List.map_cons]

theorem bitsOf_xor (a b : UInt8) : bitsOf (a ^^^ b) = List.zipWith xor (bitsOf a) (bitsOf b) := by
  unfold bitsOf
  rw [List.zipWith_map, zip_self]
  apply List.map_congr_left
  intro k _
  rw [UInt8.toNat_xor, Nat.testBit_xor]
theorem bitsL_xor : ∀ (xs ys : List UInt8), xs.length = ys.length → bitsL (List.zipWith (fun a b => a ^^^ b) xs ys) = List.zipWith xor (bitsL xs) (bitsL ys)
  | [], [], _ => rfl
  | [], _ :: _, h => by simp at h
  | _ :: _, [], h => by simp at h
  | a :: xs, b :: ys, h => by
    rw [List.zipWith_cons_cons, bitsL_cons, bitsL_cons, bitsL_cons, bitsL_xor xs ys (by simpa using h), bitsOf_xor, List.zipWith_append (by simp [bitsOf_length])]

theorem bitsOf_inj : ∀ a b : UInt8, bitsOf a = bitsOf b → a = b := by
  have h : ∀ n : Fin 256, ((List.range 8).map fun k => n.val.testBit (7 - k)).foldl (fun n b => 2 * n + b.toNat) 0 = n.val := by decide +kernel
  have h2 : ∀ a : UInt8, (bitsOf a).foldl (fun n b => 2 * n + b.toNat) 0 = a.toNat := fun a => h ⟨a.toNat, a.toNat_lt⟩
  intro a b e
  apply UInt8.toNat_inj.1
  rw [← h2 a, e, h2 b]
theorem bitsL_inj : ∀ {xs ys : List UInt8}, xs.length = ys.length → bitsL xs = bitsL ys → xs = ys
  | [], [], _, _ => rfl
  | [], _ :: _, h, _ => by simp at h
  | _ :: _, [], h, _ => by simp at h
  | a :: xs, b :: ys, h, e => by
    rw [bitsL_cons, bitsL_cons] at e
    obtain ⟨h1, h2⟩ := List.append_inj e (by simp [bitsOf_length])
    rw [bitsOf_inj a b h1, bitsL_inj (by simpa using h) h2]

-- a bit is changed
def fl (xs : List UInt8) (k : Nat) : List UInt8 := xs.set (k / 8) (xs.getD (k / 8) 0 ^^^ (128 >>> UInt8.ofNat (k % 8)))
theorem fl_length (xs : List UInt8) (k : Nat) : (fl xs k).length = xs.length := by simp [fl]
theorem one_bit : ∀ i : Fin 8, ∀ j : Fin 8, (128 >>> UInt8.ofNat i.val : UInt8).toNat.testBit (7 - j.val) = decide (j = i) := by decide +kernel
theorem fl_at (xs : List UInt8) (k j : Nat) (hk : k < 8 * xs.length) : bitAt (fl xs k) j = (bitAt xs j ^^ decide (j = k)) := by
  unfold bitAt fl
  by_cases e : j / 8 = k / 8
  · rw [e, List.getD_eq_getElem?_getD, List.getElem?_set_self (by omega)]
    simp only [Option.getD_some]
    rw [UInt8.toNat_xor, Nat.testBit_xor]
    have := one_bit ⟨k % 8, by omega⟩ ⟨j % 8, by omega⟩
    simp only at this
    rw [this]
    congr 1
    rw [decide_eq_decide, Fin.mk.injEq]
    omega
  · rw [List.getD_eq_getElem?_getD, List.getElem?_set_ne (by omega), ← List.getD_eq_getElem?_getD]
    simp [show ¬ j = k by intro h; subst h; exact e rfl]

-- strings with a check value
section
variable {w : Nat}
def crc (P : BitVec w) (xs : List UInt8) : BitVec w := ~~~ feed P (BitVec.allOnes w) (bitsL xs)

/-- the last m bytes are the check value of those in front of them. -/
def vok (P : BitVec w) (cb : BitVec w → List UInt8) (m : Nat) (xs : List UInt8) : Prop := xs.drop (xs.length - m) = cb (crc P (xs.take (xs.length - m)))

structure Good (P : BitVec w) (cb : BitVec w → List UInt8) (m : Nat) : Prop where
  w0 : 0 < w
  wm : w = 8 * m
  low : P.getLsbD 0 = true
  odd : par P = true
  bits : ∀ c, bitsL (cb c) = msbs c

variable {P : BitVec w} {cb : BitVec w → List UInt8} {m : Nat}
theorem Good.length (g : Good P cb m) (c : BitVec w) : (cb c).length = m := by
  have := congrArg List.length (g.bits c)
  rw [bitsL_length, msbs_length] at this
  have := g.wm
  omega

theorem Good.ok_iff (g : Good P cb m) {xs : List UInt8} (h : m ≤ xs.length) : vok P cb m xs ↔ feed P (BitVec.allOnes w) (bitsL xs) = feed P (BitVec.allOnes w) (List.replicate w false) := by
  have hw := g.wm
  have e : bitsL xs = bitsL (xs.take (xs.length - m)) ++ bitsL (xs.drop (xs.length - m)) := by rw [← bitsL_append, List.take_append_drop]
  have hl : (xs.drop (xs.length - m)).length = m := by rw [List.length_drop]; omega
  have hl2 : (bitsL (xs.drop (xs.length - m))).length = w := by rw [bitsL_length, hl]; omega
  rw [e, feed_append, feed_top g.w0 P _ _ (by omega), hl2]
  unfold vok crc
  constructor
  · intro h
    rw [h, g.bits, toTop_msbs g.w0]
    congr 1
    rw [BitVec.not_def, ← BitVec.xor_assoc, BitVec.xor_comm _ (BitVec.allOnes w), BitVec.xor_assoc, BitVec.xor_self, BitVec.xor_zero]
  · intro h
    have h2 := feed_zeros_inj g.w0 g.low _ h
    apply bitsL_inj (by rw [hl, g.length])
    rw [g.bits]
    apply toTop_inj g.w0 (by omega) (by rw [msbs_length, hl2])
    rw [toTop_msbs g.w0]
    generalize feed P (BitVec.allOnes w) (bitsL (xs.take (xs.length - m))) = r at h2 ⊢
    generalize toTop w _ = t at h2 ⊢
    rw [BitVec.not_def, ← h2]
    rw [show r ^^^ t ^^^ r = t ^^^ (r ^^^ r) by ac_rfl, BitVec.xor_self, BitVec.xor_zero]

theorem Good.made (g : Good P cb m) (xs : List UInt8) : vok P cb m (xs ++ cb (crc P xs)) := by
  unfold vok
  rw [List.length_append, g.length, Nat.add_sub_cancel, List.drop_left' rfl, List.take_left' rfl]

/-- an odd number of changed bits is found. -/
theorem Good.parity (g : Good P cb m) {xs ys : List UInt8} (hx : m ≤ xs.length) (hl : ys.length = xs.length) (h1 : vok P cb m xs) (h2 : vok P cb m ys) :
    parN (bitAt xs) (8 * xs.length) = parN (bitAt ys) (8 * xs.length) := by
  rw [g.ok_iff hx] at h1
  rw [g.ok_iff (by omega)] at h2
  have e := congrArg par (h1.trans h2.symm)
  rw [par_feed g.w0 g.odd, par_feed g.w0 g.odd, bitsL_at, bitsL_at, fold_par, fold_par, hl] at e
  cases par (BitVec.allOnes w) <;> simpa using e

theorem range_split (a b n : Nat) (h : a + b ≤ n) : List.range n = List.range a ++ (List.range b).map (a + ·) ++ (List.range (n - (a + b))).map (a + b + ·) := by
  rw [← List.range_add, ← List.range_add]
  congr 1
  omega

theorem map_false {f : Nat → Bool} : ∀ {l : List Nat}, (∀ i ∈ l, f i = false) → l.map f = List.replicate l.length false
  | [], _ => rfl
  | a :: l, h => by
    rw [List.map_cons, h a (by simp), map_false fun i hi => h i (by simp [hi])]
    rfl

/-- a burst is found. -/
theorem Good.burst (g : Good P cb m) {xs ys : List UInt8} (hx : m ≤ xs.length) (hl : ys.length = xs.length) (h1 : vok P cb m xs) (e : Nat → Bool) (at_ : Nat)
    (he : ∀ j, j < 8 * xs.length → bitAt ys j = (bitAt xs j ^^ e j)) (ha : at_ ≤ 8 * xs.length) (hb : ∀ j, j < 8 * xs.length → e j = true → at_ ≤ j ∧ j < at_ + w) :
    vok P cb m ys ↔ ∀ j, j < 8 * xs.length → e j = false := by
  rw [g.ok_iff (by omega : m ≤ ys.length), ← (g.ok_iff hx).1 h1]
  have hz : bitsL ys = List.zipWith xor (bitsL xs) ((List.range (8 * xs.length)).map e) := by
    rw [bitsL_at, bitsL_at xs, hl, List.zipWith_map, zip_self]
    apply List.map_congr_left
    intro j hj
    exact he j (by simpa using hj)
  rw [hz]
  have hf := feed_xor P (bitsL xs) ((List.range (8 * xs.length)).map e) (BitVec.allOnes w) 0#w (by simp [bitsL_length])
  rw [BitVec.xor_zero] at hf
  rw [hf]
  have hn : feed P 0#w ((List.range (8 * xs.length)).map e) = 0#w ↔ ∀ j, j < 8 * xs.length → e j = false := by
    constructor
    · intro h
      have hk : at_ + min w (8 * xs.length - at_) ≤ 8 * xs.length := by omega
      rw [range_split at_ (min w (8 * xs.length - at_)) _ hk, List.map_append, List.map_append, feed_append, feed_append] at h
      have f1 : (List.range at_).map e = List.replicate at_ false := by
        have := map_false (f := e) (l := List.range at_) fun i hi => by
          have hi : i < at_ := by simpa using hi
          cases hc : e i with
          | false => rfl
          | true => have := hb i (by omega) hc; omega
        simpa using this
      have f3 : ((List.range (8 * xs.length - (at_ + min w (8 * xs.length - at_)))).map (at_ + min w (8 * xs.length - at_) + ·)).map e = List.replicate (8 * xs.length - (at_ + min w (8 * xs.length - at_))) false := by
        have := map_false (f := e) (l := (List.range (8 * xs.length - (at_ + min w (8 * xs.length - at_)))).map (at_ + min w (8 * xs.length - at_) + ·)) fun i hi => by
          rw [List.mem_map] at hi
          obtain ⟨j, hj, rfl⟩ := hi
          have hj : j < 8 * xs.length - (at_ + min w (8 * xs.length - at_)) := by simpa using hj
          cases hc : e (at_ + min w (8 * xs.length - at_) + j) with
          | false => rfl
          | true => have := hb _ (by omega) hc; omega
        simpa using this
      rw [f1, f3, feed_zeros] at h
      have h2 := feed_zeros_inj g.w0 g.low _ (h.trans (feed_zeros P _).symm)
      have h3 := feed_short g.w0 g.low (by simp; omega) h2
      intro j hj
      cases hc : e j with
      | false => rfl
      | true =>
        have hh := hb j hj hc
        have h4 := congrArg (fun l => l[j - at_]?) h3
        simp only [List.length_map, List.length_range, List.getElem?_map] at h4
        rw [List.getElem?_range (by omega), List.getElem?_replicate, if_pos (by omega)] at h4
        simp [show at_ + (j - at_) = j by omega, hc] at h4
    · intro h
      have := map_false (f := e) (l := List.range (8 * xs.length)) fun i hi => h i (by simpa using hi)
      rw [this]
      exact feed_zeros P _
  rw [← hn]
  constructor
  · intro h
    have h2 := congrArg (feed P (BitVec.allOnes w) (bitsL xs) ^^^ ·) h
    rw [← BitVec.xor_assoc, BitVec.xor_self, BitVec.zero_xor] at h2
    exact h2
  · intro h
    rw [h, BitVec.xor_zero]
end

-- the two check values
def P32 : BitVec 32 := 0x08204213#32
def P8 : BitVec 8 := 0x61#8
def cb32 (c : BitVec 32) : List UInt8 := [UInt8.ofNat (c.toNat / 16777216), UInt8.ofNat (c.toNat / 65536), UInt8.ofNat (c.toNat / 256), UInt8.ofNat c.toNat]
def cb8 (c : BitVec 8) : List UInt8 := [UInt8.ofNat c.toNat]

theorem bitsOf_ofNat (n : Nat) : bitsOf (UInt8.ofNat n) = (List.range 8).map fun k => n.testBit (7 - k) := by
  unfold bitsOf
  apply List.map_congr_left
  intro k hk
  have hk : k < 8 := by simpa using hk
  rw [UInt8.toNat_ofNat', Nat.testBit_mod_two_pow]
  simp [show 7 - k < 8 by omega]
theorem bits_cb8 (c : BitVec 8) : bitsL (cb8 c) = msbs c := by
  rw [cb8, bitsL_cons, show bitsL [] = [] from rfl, List.append_nil, bitsOf_ofNat]
  unfold msbs
  apply List.map_congr_left
  intro k hk
  have hk : k < 8 := by simpa using hk
  rw [BitVec.getMsbD, BitVec.testBit_toNat]
  simp [hk]
theorem bits_cb32 (c : BitVec 32) : bitsL (cb32 c) = msbs c := by
  have h : ∀ k, c.toNat.testBit k = c.getLsbD k := fun k => BitVec.testBit_toNat c
  simp only [cb32, bitsL_cons, show bitsL [] = [] from rfl, List.append_nil, bitsOf_ofNat, msbs, show (16777216 : Nat) = 2 ^ 24 from rfl, show (65536 : Nat) = 2 ^ 16 from rfl, show (256 : Nat) = 2 ^ 8 from rfl, Nat.testBit_div_two_pow, h]
  rfl

theorem good32 : Good P32 cb32 4 := ⟨by decide, rfl, by decide, by decide, bits_cb32⟩
theorem good8 : Good P8 cb8 1 := ⟨by decide, rfl, by decide, by decide, bits_cb8⟩
end Go.Proofs.Ytbdcpahifcbcfaa.C03

/-
  Contracts of the tables of the check values.
-/
namespace Go.Proofs.Ytbdcpahifcbcfaa.C03
open Go Go.RowKit Go.Hs
attribute [local irreducible] WL W WQ PL Runs Effs AllE Ent SubO FrIn Pick OneC Ones CellsE PartsE SeqE UZ By Sl Pt Ct

theorem lt32 (r : BitVec 32) : r.toNat < 4294967296 := r.isLt
theorem shl32 (r : BitVec 32) : IntKind.u32.wrap ((r.toNat : Int) * 2 ^ (min (1 : Int).toNat IntKind.u32.bits)) = ((r <<< 1).toNat : Int) := by
  have h := lt32 r
  rw [BitVec.toNat_shiftLeft, IntKind.wrap_u32]
  rw [show ((2 : Int) ^ (min (1 : Int).toNat IntKind.u32.bits)) = 2 from rfl, Nat.shiftLeft_eq]
  omega
theorem xor32 (r s : BitVec 32) : bits .xor .u32 (r.toNat : Int) (s.toNat : Int) = ((r ^^^ s).toNat : Int) := by
  rw [u32_xor_nat _ _ (lt32 r) (lt32 s), BitVec.toNat_xor]
theorem not32 (r : BitVec 32) : bits .xor .u32 (if IntKind.u32.signed then -1 else IntKind.u32.max) (r.toNat : Int) = ((~~~ r).toNat : Int) := by
  rw [BitVec.not_def]
  exact xor32 (BitVec.allOnes 32) r
theorem top32 (r : BitVec 32) : bits .and .u32 (r.toNat : Int) 2147483648 = if r.msb then 2147483648 else 0 := by
  have h := lt32 r
  rw [show (2147483648 : Int) = ((2147483648 : Nat) : Int) from rfl, u32_and_nat _ _ h (by decide)]
  have e : r.toNat &&& 2147483648 = if r.msb then 2147483648 else 0 := by
    apply Nat.eq_of_testBit_eq
    intro i
    rw [Nat.testBit_and, show (2147483648 : Nat) = 2 ^ (32 - 1) from rfl, Nat.testBit_two_pow]
    by_cases h1 : 32 - 1 = i
    · subst h1
      rw [BitVec.msb_eq_getLsbD_last, BitVec.testBit_toNat]
      cases r.getLsbD (32 - 1)
      · simp
      · decide
    · simp only [h1, decide_false, Bool.and_false]
      cases r.msb
      · simp
      · have h2 : Nat.testBit (2 ^ (32 - 1)) i = decide (32 - 1 = i) := Nat.testBit_two_pow
        rw [decide_eq_false h1] at h2
        exact h2.symm
  rw [e]
  split <;> rfl

/-- the table's entry i. -/
def tb32 (i : Nat) : BitVec 32 := feed P32 (BitVec.ofNat 32 i <<< (32 - 8)) (List.replicate 8 false)
def tc32 (n : Nat) : List Value := (List.range 256).map fun j => .int .u32 (if j < n then ((tb32 j).toNat : Int) else 0)
theorem tc32_length (n : Nat) : (tc32 n).length = 256 := by simp [tc32]
theorem tc32_zero : tc32 0 = List.replicate 256 (.int .u32 0) := by
  apply List.ext_getElem
  · rw [tc32_length, List.length_replicate]
  · intro i h1 h2
    rw [List.getElem_replicate]
    simp only [tc32, List.getElem_map]
    rfl
theorem tc32_set (i : Nat) (h : i < 256) : (tc32 i).set i (.int .u32 ((tb32 i).toNat : Int)) = tc32 (i + 1) := by
  apply List.ext_getElem
  · simp [tc32]
  · intro j h1 h2
    rw [List.getElem_set]
    by_cases e : i = j
    · subst e
      simp [tc32]
    · rw [if_neg e]
      simp only [tc32, List.getElem_map, List.getElem_range]
      congr 1
      by_cases h3 : j < i
      · rw [if_pos h3, if_pos (by omega)]
      · rw [if_neg h3, if_neg (by omega)]
theorem tc32_one (n : Nat) : ∀ u ∈ tc32 n, u.oneCell' = true := by
  intro u hu
  obtain ⟨j, _, rfl⟩ := List.mem_map.1 hu
  rfl
theorem tc32_get (i : Nat) (h : i < 256) : (tc32 256)[i]? = some (.int .u32 ((tb32 i).toNat : Int)) := by
  simp [tc32, h]

set_option maxRecDepth 100000 in
theorem shift32 : CtD Try.prog 68 [.int .u32 2147483648] [] (.int .i64 24) := by
  refine Ct_intro Try.func68 rfl Try.ntmps68 (by simp) _ rfl (fun w0 O0 => ?_)
  repeat (first | refine n1 ?_ | refine n2 (fun b _ => ?_) | refine n3 (fun _ _ => ?_) | refine n4 ?_ | refine n5 ?_ | refine WL_nil ?_ | refine W_seq ?_ | refine W_region ?_ | refine n7 ?_ | refine n8 ?_ | refine W_block ?_ | refine W_skip ?_ | refine W_ret ?_ | refine W_exit ?_ | refine WQ_then ?_ | refine WQ_then_ret ?_ | refine WQ_then_exit ?_ | refine WQ_block_normal ?_ | refine WQ_block_ret ?_ | refine WQ_block_exit ?_ | refine n9 ?_)
  ((apply W_loopK (X := Nat) [3, 4] [] (fun x => x ≤ 24) (fun x => [(3, .int .i64 (x : Int)), (4, .int .u32 ((2147483648 / 2 ^ x : Nat) : Int))]) (fun _ => []) (fun _ => []) (fun x => 24 - x) (0)); (focus exact Nat.zero_le _); exact rfl; exact rfl; (intro _; exact rfl); (intro _; exact rfl); (intro _; exact rfl); (focus (repeat (first | exact FrIn.nil _ | (apply FrIn.cons; exact rfl; (first | exact rfl | (congr 1; first | omega | (dsimp only; omega)) | (simp; done)))))); (focus (repeat (first | exact SubO.nil _ | (apply SubO.cons; (focus (repeat' (first | exact Pick.head _ _ | apply Pick.tail))))))); (focus (repeat (first | exact AllE.nil _ | (apply AllE.cons; (focus (first | exact ent_nilBy | exact ent_nilSl | (apply Ent.mem; repeat' (first | exact mcs | apply mct)))))))); intro x hx)
  by_cases h : x < 24
  · have h1 : ∀ k : Fin 24, 128 < 2147483648 / 2 ^ k.val := by decide
    have h2 : 128 < 2147483648 / 2 ^ x := h1 ⟨x, h⟩
    repeat (first | refine n1 ?_ | refine n2 (fun b _ => ?_) | refine n3 (fun _ _ => ?_) | refine n4 ?_ | refine n5 ?_ | refine WL_nil ?_ | refine W_seq ?_ | refine W_region ?_ | refine n7 ?_ | refine n8 ?_ | refine W_block ?_ | refine W_skip ?_ | refine W_ret ?_ | refine W_exit ?_ | refine WQ_then ?_ | refine WQ_then_ret ?_ | refine WQ_then_exit ?_ | refine WQ_block_normal ?_ | refine WQ_block_ret ?_ | refine WQ_block_exit ?_ | refine n9 ?_)
    refine WL_runs rfl rfl rfl (R_shr (c := ((2147483648 / 2 ^ (x + 1) : Nat) : Int)) rfl rfl (by omega) ?_) ?_
    · rw [Nat.pow_succ, ← Nat.div_div_eq_div_mul, show ((2 : Int) ^ (min (1 : Int).toNat IntKind.u32.bits)) = 2 from rfl, Int.fdiv_eq_ediv_of_nonneg _ (by decide)]
      omega
    repeat (first | refine n1 ?_ | refine n2 (fun b _ => ?_) | refine n3 (fun _ _ => ?_) | refine n4 ?_ | refine n5 ?_ | refine WL_nil ?_ | refine W_seq ?_ | refine W_region ?_ | refine n7 ?_ | refine n8 ?_ | refine W_block ?_ | refine W_skip ?_ | refine W_ret ?_ | refine W_exit ?_ | refine WQ_then ?_ | refine WQ_then_ret ?_ | refine WQ_then_exit ?_ | refine WQ_block_normal ?_ | refine WQ_block_ret ?_ | refine WQ_block_exit ?_ | refine n9 ?_)
    ((apply WQ_again (x + 1)); (focus exact h); (focus (omega)); (focus (repeat (first | exact FrIn.nil _ | (apply FrIn.cons; exact rfl; (first | exact rfl | (congr 1; first | omega | (dsimp only; omega)) | (simp; done)))))); (focus (repeat (first | exact SubO.nil _ | (apply SubO.cons; (focus (repeat' (first | exact Pick.head _ _ | apply Pick.tail))))))); (focus (repeat (first | exact AllE.nil _ | (apply AllE.cons; (focus (first | exact ent_nilBy | exact ent_nilSl | (apply Ent.mem; repeat' (first | exact mcs | apply mct)))))))))
  · obtain rfl : x = 24 := by omega
    have h2 : 2147483648 / 2 ^ 24 = 128 := by decide
    repeat (first | refine n1 ?_ | refine n2 (fun b _ => ?_) | refine n3 (fun _ _ => ?_) | refine n4 ?_ | refine n5 ?_ | refine WL_nil ?_ | refine W_seq ?_ | refine W_region ?_ | refine n7 ?_ | refine n8 ?_ | refine W_block ?_ | refine W_skip ?_ | refine W_ret ?_ | refine W_exit ?_ | refine WQ_then ?_ | refine WQ_then_ret ?_ | refine WQ_then_exit ?_ | refine WQ_block_normal ?_ | refine WQ_block_ret ?_ | refine WQ_block_exit ?_ | refine n9 ?_)
    ((apply ret1 Try.results68 ( ())); (focus (first | trivial | assumption | omega)); (focus (first | exact RV_tmp rfl | (apply RV_cellN; exact rfl; (repeat' (first | exact Pick.head _ _ | apply Pick.tail)); (intro _; exact rfl); (intro _; exact rfl); exact rfl) | (apply RV_cell1; exact rfl; (repeat' (first | exact Pick.head _ _ | apply Pick.tail)); (intro _; exact rfl); exact rfl)));  (focus (first | exact rfl | (simp; done))); (focus (repeat (first | exact SubO.nil _ | (apply SubO.cons; (focus (repeat' (first | exact Pick.head _ _ | apply Pick.tail))))))); (focus (repeat (first | exact AllE.nil _ | (apply AllE.cons; (focus (first | exact ent_nilBy | exact ent_nilSl | (apply Ent.mem; repeat' (first | exact mcs | apply mct)))))))))

attribute [local irreducible] tc32
set_option maxRecDepth 100000 in
set_option maxHeartbeats 1000000 in
theorem table32 : CtD Try.prog 65 [.int .u32 136331795, .int .u32 2147483648] [] (.agg (tc32 256).toArray) := by
  have hsf := shift32
  refine Ct_intro Try.func65 rfl Try.ntmps65 (by simp) _ rfl (fun w0 O0 => ?_)
  refine W_seq (W_region ?_)
  refine WL_effs rfl rfl rfl (E_alloc (cs := List.replicate 256 (.int .u32 0)) (by intro _; exact rfl) (by kernel_rfl)) ?_
  intro b _
  rw [← tc32_zero]
  repeat (first | refine n1 ?_ | refine n2 (fun b _ => ?_) | refine n3 (fun _ _ => ?_) | refine n4 ?_ | refine n5 ?_ | refine WL_nil ?_ | refine W_seq ?_ | refine W_region ?_ | refine n7 ?_ | refine n8 ?_ | refine W_block ?_ | refine W_skip ?_ | refine W_ret ?_ | refine W_exit ?_ | refine WQ_then ?_ | refine WQ_then_ret ?_ | refine WQ_then_exit ?_ | refine WQ_block_normal ?_ | refine WQ_block_ret ?_ | refine WQ_block_exit ?_ | refine n9 ?_)
  ((apply W_loopK (X := Nat) [8] [0] (fun x => x ≤ 256) (fun x => [(8, .int .i64 (x : Int))]) (fun x => [.blk b 108 (tc32 x)]) (fun _ => []) (fun x => 256 - x) (0)); (focus exact Nat.zero_le _); exact rfl; exact rfl; (intro _; exact rfl); (intro _; exact rfl); (intro _; exact rfl); (focus (repeat (first | exact FrIn.nil _ | (apply FrIn.cons; exact rfl; (first | exact rfl | (congr 1; first | omega | (dsimp only; omega)) | (simp; done)))))); (focus (repeat (first | exact SubO.nil _ | (apply SubO.cons; (focus (repeat' (first | exact Pick.head _ _ | apply Pick.tail))))))); (focus (repeat (first | exact AllE.nil _ | (apply AllE.cons; (focus (first | exact ent_nilBy | exact ent_nilSl | (apply Ent.mem; repeat' (first | exact mcs | apply mct)))))))); intro x hx)
  by_cases h : x < 256
  · obtain ⟨i, rfl⟩ : ∃ i, i = x := ⟨x, rfl⟩
    have e1 : ((i : Int) * 2 ^ (min (24 : Int).toNat IntKind.u32.bits)) = ((i * 2 ^ 24 : Nat) : Int) := by
      rw [show ((2 : Int) ^ (min (24 : Int).toNat IntKind.u32.bits)) = ((2 ^ 24 : Nat) : Int) from rfl, ← Int.natCast_mul]
    have e2 : IntKind.u32.wrap ((i : Int) * 2 ^ (min (24 : Int).toNat IntKind.u32.bits)) = ((BitVec.ofNat 32 i <<< (32 - 8)).toNat : Int) := by
      rw [e1, BitVec.toNat_shiftLeft, BitVec.toNat_ofNat, Nat.shiftLeft_eq, IntKind.wrap_u32, Nat.mod_eq_of_lt (by omega : i < 2 ^ 32)]
      show ((i * 2 ^ 24 : Nat) : Int) % 4294967296 = ((i * 2 ^ 24 % 4294967296 : Nat) : Int)
      omega
    repeat (first | refine n1 ?_ | refine n2 (fun b _ => ?_) | refine n3 (fun _ _ => ?_) | refine n4 ?_ | refine n5 ?_ | refine n6 (hsf) ?_ | refine n6v (hsf) ?_ | refine WL_nil ?_ | refine W_seq ?_ | refine W_region ?_ | refine n7 ?_ | refine n8 ?_ | refine W_block ?_ | refine W_skip ?_ | refine W_ret ?_ | refine W_exit ?_ | refine WQ_then ?_ | refine WQ_then_ret ?_ | refine WQ_then_exit ?_ | refine WQ_block_normal ?_ | refine WQ_block_ret ?_ | refine WQ_block_exit ?_ | refine n9 ?_)
    refine WL_runs rfl rfl rfl (R_shl rfl rfl (by decide) e2) ?_
    repeat (first | refine n1 ?_ | refine n2 (fun b _ => ?_) | refine n3 (fun _ _ => ?_) | refine n4 ?_ | refine n5 ?_ | refine WL_nil ?_ | refine W_seq ?_ | refine W_region ?_ | refine n7 ?_ | refine n8 ?_ | refine W_block ?_ | refine W_skip ?_ | refine W_ret ?_ | refine W_exit ?_ | refine WQ_then ?_ | refine WQ_then_ret ?_ | refine WQ_then_exit ?_ | refine WQ_block_normal ?_ | refine WQ_block_ret ?_ | refine WQ_block_exit ?_ | refine n9 ?_)
    ((apply W_loopK (X := Nat × BitVec 32) [16, 6] [] (fun y => y.1 ≤ 8 ∧ y.2 = feed P32 (BitVec.ofNat 32 i <<< (32 - 8)) (List.replicate y.1 false)) (fun y => [(16, .int .i64 (y.1 : Int)), (6, .int .u32 (y.2.toNat : Int))]) (fun _ => []) (fun _ => []) (fun y => 8 - y.1) ((0, BitVec.ofNat 32 i <<< (32 - 8)))); (focus exact ⟨by omega, rfl⟩); exact rfl; exact rfl; (intro _; exact rfl); (intro _; exact rfl); (intro _; exact rfl); (focus (repeat (first | exact FrIn.nil _ | (apply FrIn.cons; exact rfl; (first | exact rfl | (congr 1; first | omega | (dsimp only; omega)) | (simp; done)))))); (focus (repeat (first | exact SubO.nil _ | (apply SubO.cons; (focus (repeat' (first | exact Pick.head _ _ | apply Pick.tail))))))); (focus (repeat (first | exact AllE.nil _ | (apply AllE.cons; (focus (first | exact ent_nilBy | exact ent_nilSl | (apply Ent.mem; repeat' (first | exact mcs | apply mct)))))))); intro x hx)
    obtain ⟨n, r⟩ := x
    rename_i hi0
    obtain ⟨hn, hr⟩ := hx
    replace hn : n ≤ 8 := hn
    replace hr : r = feed P32 (BitVec.ofNat 32 i <<< (32 - 8)) (List.replicate n false) := hr
    by_cases h8 : n < 8
    · have hz : feed P32 (BitVec.ofNat 32 i <<< (32 - 8)) (List.replicate (n + 1) false) = zs P32 r := by
        rw [List.replicate_succ', feed_append, ← hr, feed_cons, feed_nil, stp, show tpb 32 false = 0#32 from rfl, BitVec.xor_zero]
      have ht := top32 r
      by_cases hm : r.msb = true
      · rw [if_pos hm] at ht
        have hz2 : zs P32 r = (r <<< 1) ^^^ P32 := by rw [zs, if_pos hm]
        repeat (first | refine n1 ?_ | refine n2 (fun b _ => ?_) | refine n3 (fun _ _ => ?_) | refine n4 ?_ | refine n5 ?_ | refine WL_nil ?_ | refine W_seq ?_ | refine W_region ?_ | refine n7 ?_ | refine n8 ?_ | refine W_block ?_ | refine W_skip ?_ | refine W_ret ?_ | refine W_exit ?_ | refine WQ_then ?_ | refine WQ_then_ret ?_ | refine WQ_then_exit ?_ | refine WQ_block_normal ?_ | refine WQ_block_ret ?_ | refine WQ_block_exit ?_ | refine n9 ?_)
        refine WL_runs rfl rfl rfl (R_and rfl rfl ht) ?_
        repeat (first | refine n1 ?_ | refine n2 (fun b _ => ?_) | refine n3 (fun _ _ => ?_) | refine n4 ?_ | refine n5 ?_ | refine WL_nil ?_ | refine W_seq ?_ | refine W_region ?_ | refine n7 ?_ | refine n8 ?_ | refine W_block ?_ | refine W_skip ?_ | refine W_ret ?_ | refine W_exit ?_ | refine WQ_then ?_ | refine WQ_then_ret ?_ | refine WQ_then_exit ?_ | refine WQ_block_normal ?_ | refine WQ_block_ret ?_ | refine WQ_block_exit ?_ | refine n9 ?_)
        refine WL_runs rfl rfl rfl (R_shl rfl rfl (by decide) (shl32 r)) ?_
        repeat (first | refine n1 ?_ | refine n2 (fun b _ => ?_) | refine n3 (fun _ _ => ?_) | refine n4 ?_ | refine n5 ?_ | refine WL_nil ?_ | refine W_seq ?_ | refine W_region ?_ | refine n7 ?_ | refine n8 ?_ | refine W_block ?_ | refine W_skip ?_ | refine W_ret ?_ | refine W_exit ?_ | refine WQ_then ?_ | refine WQ_then_ret ?_ | refine WQ_then_exit ?_ | refine WQ_block_normal ?_ | refine WQ_block_ret ?_ | refine WQ_block_exit ?_ | refine n9 ?_)
        refine WL_runs rfl rfl rfl (R_xor (b := ((P32).toNat : Int)) rfl rfl (xor32 (r <<< 1) P32)) ?_
        repeat (first | refine n1 ?_ | refine n2 (fun b _ => ?_) | refine n3 (fun _ _ => ?_) | refine n4 ?_ | refine n5 ?_ | refine WL_nil ?_ | refine W_seq ?_ | refine W_region ?_ | refine n7 ?_ | refine n8 ?_ | refine W_block ?_ | refine W_skip ?_ | refine W_ret ?_ | refine W_exit ?_ | refine WQ_then ?_ | refine WQ_then_ret ?_ | refine WQ_then_exit ?_ | refine WQ_block_normal ?_ | refine WQ_block_ret ?_ | refine WQ_block_exit ?_ | refine n9 ?_)
        ((apply WQ_again ((n + 1, r <<< 1 ^^^ P32))); (focus exact ⟨h8, by rw [hz, hz2]⟩); (focus (omega)); (focus (repeat (first | exact FrIn.nil _ | (apply FrIn.cons; exact rfl; (first | exact rfl | (congr 1; first | omega | (dsimp only; omega)) | (simp; done)))))); (focus (repeat (first | exact SubO.nil _ | (apply SubO.cons; (focus (repeat' (first | exact Pick.head _ _ | apply Pick.tail))))))); (focus (repeat (first | exact AllE.nil _ | (apply AllE.cons; (focus (first | exact ent_nilBy | exact ent_nilSl | (apply Ent.mem; repeat' (first | exact mcs | apply mct)))))))))
      · rw [if_neg hm] at ht
        have hz2 : zs P32 r = (r <<< 1) := by rw [zs, if_neg hm, BitVec.xor_zero]
        repeat (first | refine n1 ?_ | refine n2 (fun b _ => ?_) | refine n3 (fun _ _ => ?_) | refine n4 ?_ | refine n5 ?_ | refine WL_nil ?_ | refine W_seq ?_ | refine W_region ?_ | refine n7 ?_ | refine n8 ?_ | refine W_block ?_ | refine W_skip ?_ | refine W_ret ?_ | refine W_exit ?_ | refine WQ_then ?_ | refine WQ_then_ret ?_ | refine WQ_then_exit ?_ | refine WQ_block_normal ?_ | refine WQ_block_ret ?_ | refine WQ_block_exit ?_ | refine n9 ?_)
        refine WL_runs rfl rfl rfl (R_and rfl rfl ht) ?_
        repeat (first | refine n1 ?_ | refine n2 (fun b _ => ?_) | refine n3 (fun _ _ => ?_) | refine n4 ?_ | refine n5 ?_ | refine WL_nil ?_ | refine W_seq ?_ | refine W_region ?_ | refine n7 ?_ | refine n8 ?_ | refine W_block ?_ | refine W_skip ?_ | refine W_ret ?_ | refine W_exit ?_ | refine WQ_then ?_ | refine WQ_then_ret ?_ | refine WQ_then_exit ?_ | refine WQ_block_normal ?_ | refine WQ_block_ret ?_ | refine WQ_block_exit ?_ | refine n9 ?_)
        refine WL_runs rfl rfl rfl (R_shl rfl rfl (by decide) (shl32 r)) ?_
        repeat (first | refine n1 ?_ | refine n2 (fun b _ => ?_) | refine n3 (fun _ _ => ?_) | refine n4 ?_ | refine n5 ?_ | refine WL_nil ?_ | refine W_seq ?_ | refine W_region ?_ | refine n7 ?_ | refine n8 ?_ | refine W_block ?_ | refine W_skip ?_ | refine W_ret ?_ | refine W_exit ?_ | refine WQ_then ?_ | refine WQ_then_ret ?_ | refine WQ_then_exit ?_ | refine WQ_block_normal ?_ | refine WQ_block_ret ?_ | refine WQ_block_exit ?_ | refine n9 ?_)
        ((apply WQ_again ((n + 1, r <<< 1))); (focus exact ⟨h8, by rw [hz, hz2]⟩); (focus (omega)); (focus (repeat (first | exact FrIn.nil _ | (apply FrIn.cons; exact rfl; (first | exact rfl | (congr 1; first | omega | (dsimp only; omega)) | (simp; done)))))); (focus (repeat (first | exact SubO.nil _ | (apply SubO.cons; (focus (repeat' (first | exact Pick.head _ _ | apply Pick.tail))))))); (focus (repeat (first | exact AllE.nil _ | (apply AllE.cons; (focus (first | exact ent_nilBy | exact ent_nilSl | (apply Ent.mem; repeat' (first | exact mcs | apply mct)))))))))
    · obtain rfl : n = 8 := by omega
      replace hr : r = tb32 i := by rw [hr, tb32]
      subst hr
      repeat (first | refine n1 ?_ | refine n2 (fun b _ => ?_) | refine n3 (fun _ _ => ?_) | refine n4 ?_ | refine n5 ?_ | refine WL_nil ?_ | refine W_seq ?_ | refine W_region ?_ | refine n7 ?_ | refine n8 ?_ | refine W_block ?_ | refine W_skip ?_ | refine W_ret ?_ | refine W_exit ?_ | refine WQ_then ?_ | refine WQ_then_ret ?_ | refine WQ_then_exit ?_ | refine WQ_block_normal ?_ | refine WQ_block_ret ?_ | refine WQ_block_exit ?_ | refine n9 ?_)
      refine WL_do rfl rfl (E_storeAt rfl rfl (by repeat' (first | exact Pick.head _ _ | apply Pick.tail)) rfl (by intro _; exact rfl) (by rw [tc32_length]; exact h)) ?_
      intro _ _
      rw [tc32_set i h]
      repeat (first | refine n1 ?_ | refine n2 (fun b _ => ?_) | refine n3 (fun _ _ => ?_) | refine n4 ?_ | refine n5 ?_ | refine WL_nil ?_ | refine W_seq ?_ | refine W_region ?_ | refine n7 ?_ | refine n8 ?_ | refine W_block ?_ | refine W_skip ?_ | refine W_ret ?_ | refine W_exit ?_ | refine WQ_then ?_ | refine WQ_then_ret ?_ | refine WQ_then_exit ?_ | refine WQ_block_normal ?_ | refine WQ_block_ret ?_ | refine WQ_block_exit ?_ | refine n9 ?_)
      ((apply WQ_again (i + 1)); (focus exact h); (focus (omega)); (focus (repeat (first | exact FrIn.nil _ | (apply FrIn.cons; exact rfl; (first | exact rfl | (congr 1; first | omega | (dsimp only; omega)) | (simp; done)))))); (focus (repeat (first | exact SubO.nil _ | (apply SubO.cons; (focus (repeat' (first | exact Pick.head _ _ | apply Pick.tail))))))); (focus (repeat (first | exact AllE.nil _ | (apply AllE.cons; (focus (first | exact ent_nilBy | exact ent_nilSl | (apply Ent.mem; repeat' (first | exact mcs | apply mct)))))))))
  · obtain rfl : x = 256 := by omega
    repeat (first | refine n1 ?_ | refine n2 (fun b _ => ?_) | refine n3 (fun _ _ => ?_) | refine n4 ?_ | refine n5 ?_ | refine WL_nil ?_ | refine W_seq ?_ | refine W_region ?_ | refine n7 ?_ | refine n8 ?_ | refine W_block ?_ | refine W_skip ?_ | refine W_ret ?_ | refine W_exit ?_ | refine WQ_then ?_ | refine WQ_then_ret ?_ | refine WQ_then_exit ?_ | refine WQ_block_normal ?_ | refine WQ_block_ret ?_ | refine WQ_block_exit ?_ | refine n9 ?_)
    refine WL_runs rfl rfl rfl (R_loadN rfl (by repeat' (first | exact Pick.head _ _ | apply Pick.tail)) (by intro _; exact rfl) (by intro _; exact rfl) (takeN_full (tc32_length 256))) ?_
    refine WL_do rfl rfl (E_storeAll (us := tc32 256) rfl rfl (by repeat' (first | exact Pick.head _ _ | apply Pick.tail)) (tc32_one 256) (by intro _; rw [tc32_length]; exact rfl) rfl) ?_
    intro _ _
    repeat (first | refine n1 ?_ | refine n2 (fun b _ => ?_) | refine n3 (fun _ _ => ?_) | refine n4 ?_ | refine n5 ?_ | refine WL_nil ?_ | refine W_seq ?_ | refine W_region ?_ | refine n7 ?_ | refine n8 ?_ | refine W_block ?_ | refine W_skip ?_ | refine W_ret ?_ | refine W_exit ?_ | refine WQ_then ?_ | refine WQ_then_ret ?_ | refine WQ_then_exit ?_ | refine WQ_block_normal ?_ | refine WQ_block_ret ?_ | refine WQ_block_exit ?_ | refine n9 ?_)
    refine ret1 Try.results65 () trivial (RV_cellN rfl (by repeat' (first | exact Pick.head _ _ | apply Pick.tail)) (by intro _; exact rfl) (by intro _; exact rfl) (takeN_full (tc32_length 256))) rfl (by (repeat (first | exact SubO.nil _ | (apply SubO.cons; (focus (repeat' (first | exact Pick.head _ _ | apply Pick.tail))))))) (by (repeat (first | exact AllE.nil _ | (apply AllE.cons; (focus (first | exact ent_nilBy | exact ent_nilSl | (apply Ent.mem; repeat' (first | exact mcs | apply mct))))))))
theorem lt8 (r : BitVec 8) : r.toNat < 256 := r.isLt
theorem shl8 (r : BitVec 8) : IntKind.u8.wrap ((r.toNat : Int) * 2 ^ (min (1 : Int).toNat IntKind.u8.bits)) = ((r <<< 1).toNat : Int) := by
  have h := lt8 r
  rw [BitVec.toNat_shiftLeft, IntKind.wrap_u8]
  rw [show ((2 : Int) ^ (min (1 : Int).toNat IntKind.u8.bits)) = 2 from rfl, Nat.shiftLeft_eq]
  omega
theorem xor8 (r s : BitVec 8) : bits .xor .u8 (r.toNat : Int) (s.toNat : Int) = ((r ^^^ s).toNat : Int) := by
  rw [u8_xor_nat _ _ (lt8 r) (lt8 s), BitVec.toNat_xor]
theorem not8 (r : BitVec 8) : bits .xor .u8 (if IntKind.u8.signed then -1 else IntKind.u8.max) (r.toNat : Int) = ((~~~ r).toNat : Int) := by
  rw [BitVec.not_def]
  exact xor8 (BitVec.allOnes 8) r
theorem top8 (r : BitVec 8) : bits .and .u8 (r.toNat : Int) 128 = if r.msb then 128 else 0 := by
  have h := lt8 r
  rw [show (128 : Int) = ((128 : Nat) : Int) from rfl, u8_and_nat _ _ h (by decide)]
  have e : r.toNat &&& 128 = if r.msb then 128 else 0 := by
    apply Nat.eq_of_testBit_eq
    intro i
    rw [Nat.testBit_and, show (128 : Nat) = 2 ^ (8 - 1) from rfl, Nat.testBit_two_pow]
    by_cases h1 : 8 - 1 = i
    · subst h1
      rw [BitVec.msb_eq_getLsbD_last, BitVec.testBit_toNat]
      cases r.getLsbD (8 - 1)
      · simp
      · decide
    · simp only [h1, decide_false, Bool.and_false]
      cases r.msb
      · simp
      · have h2 : Nat.testBit (2 ^ (8 - 1)) i = decide (8 - 1 = i) := Nat.testBit_two_pow
        rw [decide_eq_false h1] at h2
        exact h2.symm
  rw [e]
  split <;> rfl

/-- the table's entry i. -/
def tb8 (i : Nat) : BitVec 8 := feed P8 (BitVec.ofNat 8 i <<< (8 - 8)) (List.replicate 8 false)
def tc8 (n : Nat) : List Value := (List.range 256).map fun j => .int .u8 (if j < n then ((tb8 j).toNat : Int) else 0)
theorem tc8_length (n : Nat) : (tc8 n).length = 256 := by simp [tc8]
theorem tc8_zero : tc8 0 = List.replicate 256 (.int .u8 0) := by
  apply List.ext_getElem
  · rw [tc8_length, List.length_replicate]
  · intro i h1 h2
    rw [List.getElem_replicate]
    simp only [tc8, List.getElem_map]
    rfl
theorem tc8_set (i : Nat) (h : i < 256) : (tc8 i).set i (.int .u8 ((tb8 i).toNat : Int)) = tc8 (i + 1) := by
  apply List.ext_getElem
  · simp [tc8]
  · intro j h1 h2
    rw [List.getElem_set]
    by_cases e : i = j
    · subst e
      simp [tc8]
    · rw [if_neg e]
      simp only [tc8, List.getElem_map, List.getElem_range]
      congr 1
      by_cases h3 : j < i
      · rw [if_pos h3, if_pos (by omega)]
      · rw [if_neg h3, if_neg (by omega)]
theorem tc8_one (n : Nat) : ∀ u ∈ tc8 n, u.oneCell' = true := by
  intro u hu
  obtain ⟨j, _, rfl⟩ := List.mem_map.1 hu
  rfl
theorem tc8_get (i : Nat) (h : i < 256) : (tc8 256)[i]? = some (.int .u8 ((tb8 i).toNat : Int)) := by
  simp [tc8, h]

attribute [local irreducible] tc8
end Go.Proofs.Ytbdcpahifcbcfaa.C03

/-
  Contracts of the check values: the program's.
-/
namespace Go.Proofs.Ytbdcpahifcbcfaa.C03
open Go Go.RowKit Go.Hs
attribute [local irreducible] WL W WQ PL Runs Effs AllE Ent SubO FrIn Pick OneC Ones CellsE PartsE SeqE UZ By Sl Pt Ct

theorem take_next (xs : List UInt8) (k : Nat) (h : k < xs.length) : xs.take (k + 1) = xs.take k ++ [xs.getD k 0] := by
  rw [List.take_succ_eq_append_getElem h, List.getD_eq_getElem?_getD, List.getElem?_eq_getElem h]
  rfl
theorem feed_next {w : Nat} (P s : BitVec w) (xs : List UInt8) (k : Nat) (h : k < xs.length) : feed P s (bitsL (xs.take (k + 1))) = feed P (feed P s (bitsL (xs.take k))) (bitsOf (xs.getD k 0)) := by
  rw [take_next xs k h, bitsL_append, feed_append, bitsL_cons, show bitsL [] = [] from rfl, List.append_nil]

theorem top_byte32 (c : UInt8) : toTop 32 (bitsOf c) = BitVec.ofNat 32 c.toNat <<< 24 := by
  have h : ∀ c : Fin 256, toTop 32 ((List.range 8).map fun k => c.val.testBit (7 - k)) = BitVec.ofNat 32 c.val <<< 24 := by decide +kernel
  exact h ⟨c.toNat, c.toNat_lt⟩
theorem top_byte8 (c : UInt8) : toTop 8 (bitsOf c) = BitVec.ofNat 8 c.toNat <<< 0 := by
  have h : ∀ c : Fin 256, toTop 8 ((List.range 8).map fun k => c.val.testBit (7 - k)) = BitVec.ofNat 8 c.val <<< 0 := by decide +kernel
  exact h ⟨c.toNat, c.toNat_lt⟩

theorem step8 (s : BitVec 8) (c : UInt8) : feed P8 s (bitsOf c) = tb8 (s.toNat ^^^ c.toNat) := by
  rw [feed_top (by decide) P8 (bitsOf c) s (by rw [bitsOf_length]; decide), bitsOf_length, top_byte8, tb8]
  congr 1
  apply BitVec.eq_of_toNat_eq
  have h := Nat.xor_lt_two_pow (x := s.toNat) (y := c.toNat) (n := 8) s.isLt c.toNat_lt
  simp

theorem feed_rep_xor {w : Nat} (P r s : BitVec w) (n : Nat) : feed P (r ^^^ s) (List.replicate n false) = feed P r (List.replicate n false) ^^^ feed P s (List.replicate n false) := by
  rw [← feed_xor P _ _ r s rfl, zip_self, List.map_replicate]
  rfl
theorem feed_low {w : Nat} (P : BitVec w) : ∀ (n : Nat) (x : BitVec w), (∀ i, i < n → x.getMsbD i = false) → feed P x (List.replicate n false) = x <<< n
  | 0, x, _ => by simp [feed]
  | n + 1, x, h => by
    have hm : x.msb = false := by rw [BitVec.msb_eq_getMsbD_zero]; exact h 0 (by omega)
    rw [List.replicate_succ, feed_cons, stp, show tpb w false = 0#w by simp [tpb], BitVec.xor_zero, zs, hm]
    simp only [Bool.false_eq_true, if_false, BitVec.xor_zero]
    rw [feed_low P n _ fun i hi => by
      rw [BitVec.getMsbD_shiftLeft]
      exact h (i + 1) (by omega)]
    rw [← BitVec.shiftLeft_add, Nat.add_comm]

theorem hi_bits (s : BitVec 32) (i : Nat) (hi : i < 8) : (BitVec.ofNat 32 (s.toNat / 16777216) <<< 24).getMsbD i = s.getMsbD i := by
  rw [BitVec.getMsbD, BitVec.getMsbD, BitVec.getLsbD_shiftLeft, BitVec.getLsbD_ofNat, show (16777216 : Nat) = 2 ^ 24 from rfl, Nat.testBit_div_two_pow, BitVec.testBit_toNat]
  have h1 : (32 - 1 - i < 32) := by omega
  have h2 : ¬ (32 - 1 - i < 24) := by omega
  have h3 : 32 - 1 - i - 24 < 32 := by omega
  have h4 : 32 - 1 - i - 24 + 24 = 32 - 1 - i := by omega
  simp only [h1, h2, h3, decide_true, decide_false, Bool.not_false, Bool.true_and, h4]
theorem step32 (s : BitVec 32) (c : UInt8) : feed P32 s (bitsOf c) = (s <<< 8) ^^^ tb32 ((s.toNat / 16777216) ^^^ c.toNat) := by
  rw [feed_top (by decide) P32 (bitsOf c) s (by rw [bitsOf_length]; decide), bitsOf_length, top_byte32, tb32]
  have hs := s.isLt
  have e1 : BitVec.ofNat 32 ((s.toNat / 16777216) ^^^ c.toNat) = BitVec.ofNat 32 (s.toNat / 16777216) ^^^ BitVec.ofNat 32 c.toNat := by
    apply BitVec.eq_of_toNat_eq
    have h := Nat.xor_lt_two_pow (x := s.toNat / 16777216) (y := c.toNat) (n := 8) (by omega) c.toNat_lt
    have hc : c.toNat < 256 := c.toNat_lt
    simp
  rw [e1, show (32 : Nat) - 8 = 24 from rfl, BitVec.shiftLeft_xor_distrib]
  have e2 : s ^^^ BitVec.ofNat 32 c.toNat <<< 24 = (s ^^^ BitVec.ofNat 32 (s.toNat / 16777216) <<< 24) ^^^ (BitVec.ofNat 32 (s.toNat / 16777216) <<< 24 ^^^ BitVec.ofNat 32 c.toNat <<< 24) := by
    rw [BitVec.xor_assoc, ← BitVec.xor_assoc (BitVec.ofNat 32 (s.toNat / 16777216) <<< 24), BitVec.xor_self, BitVec.zero_xor]
  rw [e2, feed_rep_xor, feed_low]
  · congr 1
    rw [BitVec.shiftLeft_xor_distrib, ← BitVec.shiftLeft_add]
    simp
  · intro i hi
    rw [BitVec.getMsbD_xor, hi_bits s i hi, Bool.xor_self]

theorem u8_nat (c : UInt8) : c.toNat ≤ 255 := by have := c.toNat_lt; omega

theorem shl8_32 (r : BitVec 32) : IntKind.u32.wrap ((r.toNat : Int) * 2 ^ (min (8 : Int).toNat IntKind.u32.bits)) = ((r <<< 8).toNat : Int) := by
  have h := lt32 r
  rw [BitVec.toNat_shiftLeft, IntKind.wrap_u32]
  rw [show ((2 : Int) ^ (min (8 : Int).toNat IntKind.u32.bits)) = 256 from rfl, Nat.shiftLeft_eq]
  omega
theorem shr24_32 (r : BitVec 32) : (r.toNat : Int).fdiv (2 ^ (min (24 : Int).toNat IntKind.u32.bits)) = ((r.toNat / 16777216 : Nat) : Int) := by
  rw [show ((2 : Int) ^ (min (24 : Int).toNat IntKind.u32.bits)) = 16777216 from rfl, Int.fdiv_eq_ediv_of_nonneg _ (by decide)]
  omega

set_option maxRecDepth 100000 in
set_option maxHeartbeats 1000000 in
theorem extend_fn (st : BitVec 32) (dv : Value) (xs : List UInt8) (hx : xs.length ≤ 1000000000) : CtD Try.prog 62 [.int .u32 (st.toNat : Int), dv] [By dv xs] (.int .u32 ((feed P32 st (bitsL xs)).toNat : Int)) := by
  refine Ct_intro Try.func62 rfl Try.ntmps62 (by simp) _ rfl (fun w0 O0 => ?_)
  repeat (first | refine n1 ?_ | refine n2 (fun b _ => ?_) | refine n3 (fun _ _ => ?_) | refine n4 ?_ | refine n5 ?_ | refine WL_nil ?_ | refine W_seq ?_ | refine W_region ?_ | refine n7 ?_ | refine n8 ?_ | refine W_block ?_ | refine W_skip ?_ | refine W_ret ?_ | refine W_exit ?_ | refine WQ_then ?_ | refine WQ_then_ret ?_ | refine WQ_then_exit ?_ | refine WQ_block_normal ?_ | refine WQ_block_ret ?_ | refine WQ_block_exit ?_ | refine n9 ?_)
  refine n6 table32 ?_
  refine WL_effs rfl rfl rfl (E_alloc (cs := List.replicate 256 (.int .u32 0)) (by intro _; exact rfl) (by kernel_rfl)) ?_
  intro b _
  refine WL_do rfl rfl (E_storeAll (us := tc32 256) rfl rfl (by repeat' (first | exact Pick.head _ _ | apply Pick.tail)) (tc32_one 256) (by intro _; rw [tc32_length]; exact rfl) (by rw [tc32_length]; exact (List.length_replicate ..).symm)) ?_
  intro _ _
  repeat (first | refine n1 ?_ | refine n2 (fun b _ => ?_) | refine n3 (fun _ _ => ?_) | refine n4 ?_ | refine n5 ?_ | refine WL_nil ?_ | refine W_seq ?_ | refine W_region ?_ | refine n7 ?_ | refine n8 ?_ | refine W_block ?_ | refine W_skip ?_ | refine W_ret ?_ | refine W_exit ?_ | refine WQ_then ?_ | refine WQ_then_ret ?_ | refine WQ_then_exit ?_ | refine WQ_block_normal ?_ | refine WQ_block_ret ?_ | refine WQ_block_exit ?_ | refine n9 ?_)
  ((apply W_loopK (X := Nat × BitVec 32) [11, 0] [] (fun y => y.1 ≤ xs.length ∧ y.2 = feed P32 st (bitsL (xs.take y.1))) (fun y => [(11, .int .i64 (y.1 : Int)), (0, .int .u32 (y.2.toNat : Int))]) (fun _ => []) (fun _ => []) (fun y => xs.length - y.1) ((0, st))); (focus exact ⟨by omega, rfl⟩); exact rfl; exact rfl; (intro _; exact rfl); (intro _; exact rfl); (intro _; exact rfl); (focus (repeat (first | exact FrIn.nil _ | (apply FrIn.cons; exact rfl; (first | exact rfl | (congr 1; first | omega | (dsimp only; omega)) | (simp; done)))))); (focus (repeat (first | exact SubO.nil _ | (apply SubO.cons; (focus (repeat' (first | exact Pick.head _ _ | apply Pick.tail))))))); (focus (repeat (first | exact AllE.nil _ | (apply AllE.cons; (focus (first | exact ent_nilBy | exact ent_nilSl | (apply Ent.mem; repeat' (first | exact mcs | apply mct)))))))); intro x hx)
  obtain ⟨k, s⟩ := x
  obtain ⟨hk, hs⟩ := hx
  replace hk : k ≤ xs.length := hk
  replace hs : s = feed P32 st (bitsL (xs.take k)) := hs
  by_cases h : k < xs.length
  · have hc := u8_nat (xs.getD k 0)
    have hlt : s.toNat < 4294967296 := s.isLt
    have hi := Nat.xor_lt_two_pow (x := s.toNat / 16777216) (y := (xs.getD k 0).toNat) (n := 8) (by omega) (xs.getD k 0).toNat_lt
    repeat (first | refine n1 ?_ | refine n2 (fun b _ => ?_) | refine n3 (fun _ _ => ?_) | refine n4 ?_ | refine n5 ?_ | refine WL_nil ?_ | refine W_seq ?_ | refine W_region ?_ | refine n7 ?_ | refine n8 ?_ | refine W_block ?_ | refine W_skip ?_ | refine W_ret ?_ | refine W_exit ?_ | refine WQ_then ?_ | refine WQ_then_ret ?_ | refine WQ_then_exit ?_ | refine WQ_block_normal ?_ | refine WQ_block_ret ?_ | refine WQ_block_exit ?_ | refine n9 ?_)
    refine WL_runs rfl rfl rfl (R_shl rfl rfl (by decide) (shl8_32 s)) ?_
    repeat (first | refine n1 ?_ | refine n2 (fun b _ => ?_) | refine n3 (fun _ _ => ?_) | refine n4 ?_ | refine n5 ?_ | refine WL_nil ?_ | refine W_seq ?_ | refine W_region ?_ | refine n7 ?_ | refine n8 ?_ | refine W_block ?_ | refine W_skip ?_ | refine W_ret ?_ | refine W_exit ?_ | refine WQ_then ?_ | refine WQ_then_ret ?_ | refine WQ_then_exit ?_ | refine WQ_block_normal ?_ | refine WQ_block_ret ?_ | refine WQ_block_exit ?_ | refine n9 ?_)
    refine WL_runs rfl rfl rfl (R_shr rfl rfl (by decide) (shr24_32 s)) ?_
    repeat (first | refine n1 ?_ | refine n2 (fun b _ => ?_) | refine n3 (fun _ _ => ?_) | refine n4 ?_ | refine n5 ?_ | refine WL_nil ?_ | refine W_seq ?_ | refine W_region ?_ | refine n7 ?_ | refine n8 ?_ | refine W_block ?_ | refine W_skip ?_ | refine W_ret ?_ | refine W_exit ?_ | refine WQ_then ?_ | refine WQ_then_ret ?_ | refine WQ_then_exit ?_ | refine WQ_block_normal ?_ | refine WQ_block_ret ?_ | refine WQ_block_exit ?_ | refine n9 ?_)
    refine WL_runs rfl rfl rfl (R_xor rfl rfl (u8_xor_nat (s.toNat / 16777216) (xs.getD k 0).toNat (by omega) (by omega))) ?_
    refine WL_runs rfl rfl rfl (R_idxArr rfl rfl rfl (by intro _; exact rfl) rfl hi) ?_
    refine WL_runs rfl rfl rfl (R_load1 rfl (by repeat' (first | exact Pick.head _ _ | apply Pick.tail)) (by intro _; exact rfl) (tc32_get _ hi)) ?_
    refine WL_runs rfl rfl rfl (R_xor rfl rfl (xor32 (s <<< 8) (tb32 (s.toNat / 16777216 ^^^ (xs.getD k 0).toNat)))) ?_
    repeat (first | refine n1 ?_ | refine n2 (fun b _ => ?_) | refine n3 (fun _ _ => ?_) | refine n4 ?_ | refine n5 ?_ | refine WL_nil ?_ | refine W_seq ?_ | refine W_region ?_ | refine n7 ?_ | refine n8 ?_ | refine W_block ?_ | refine W_skip ?_ | refine W_ret ?_ | refine W_exit ?_ | refine WQ_then ?_ | refine WQ_then_ret ?_ | refine WQ_then_exit ?_ | refine WQ_block_normal ?_ | refine WQ_block_ret ?_ | refine WQ_block_exit ?_ | refine n9 ?_)
    ((apply WQ_again ((k + 1, (s <<< 8) ^^^ tb32 (s.toNat / 16777216 ^^^ (xs.getD k 0).toNat)))); (focus exact ⟨h, by rw [feed_next _ _ _ _ h, ← hs, step32]⟩); (focus (omega)); (focus (repeat (first | exact FrIn.nil _ | (apply FrIn.cons; exact rfl; (first | exact rfl | (congr 1; first | omega | (dsimp only; omega)) | (simp; done)))))); (focus (repeat (first | exact SubO.nil _ | (apply SubO.cons; (focus (repeat' (first | exact Pick.head _ _ | apply Pick.tail))))))); (focus (repeat (first | exact AllE.nil _ | (apply AllE.cons; (focus (first | exact ent_nilBy | exact ent_nilSl | (apply Ent.mem; repeat' (first | exact mcs | apply mct)))))))))
  · obtain rfl : k = xs.length := by omega
    rw [List.take_length] at hs
    subst hs
    repeat (first | refine n1 ?_ | refine n2 (fun b _ => ?_) | refine n3 (fun _ _ => ?_) | refine n4 ?_ | refine n5 ?_ | refine WL_nil ?_ | refine W_seq ?_ | refine W_region ?_ | refine n7 ?_ | refine n8 ?_ | refine W_block ?_ | refine W_skip ?_ | refine W_ret ?_ | refine W_exit ?_ | refine WQ_then ?_ | refine WQ_then_ret ?_ | refine WQ_then_exit ?_ | refine WQ_block_normal ?_ | refine WQ_block_ret ?_ | refine WQ_block_exit ?_ | refine n9 ?_)
    ((apply ret1 Try.results62 ( ())); (focus (first | trivial | assumption | omega)); (focus (first | exact RV_tmp rfl | (apply RV_cellN; exact rfl; (repeat' (first | exact Pick.head _ _ | apply Pick.tail)); (intro _; exact rfl); (intro _; exact rfl); exact rfl) | (apply RV_cell1; exact rfl; (repeat' (first | exact Pick.head _ _ | apply Pick.tail)); (intro _; exact rfl); exact rfl)));  (focus (first | exact rfl | (simp; done))); (focus (repeat (first | exact SubO.nil _ | (apply SubO.cons; (focus (repeat' (first | exact Pick.head _ _ | apply Pick.tail))))))); (focus (repeat (first | exact AllE.nil _ | (apply AllE.cons; (focus (first | exact ent_nilBy | exact ent_nilSl | (apply Ent.mem; repeat' (first | exact mcs | apply mct)))))))))

set_option maxRecDepth 100000 in
theorem final_fn (s : BitVec 32) : CtD Try.prog 61 [.int .u32 (s.toNat : Int)] [] (.int .u32 ((~~~ s).toNat : Int)) := by
  refine Ct_intro Try.func61 rfl Try.ntmps61 (by simp) _ rfl (fun w0 O0 => ?_)
  repeat (first | refine n1 ?_ | refine n2 (fun b _ => ?_) | refine n3 (fun _ _ => ?_) | refine n4 ?_ | refine n5 ?_ | refine WL_nil ?_ | refine W_seq ?_ | refine W_region ?_ | refine n7 ?_ | refine n8 ?_ | refine W_block ?_ | refine W_skip ?_ | refine W_ret ?_ | refine W_exit ?_ | refine WQ_then ?_ | refine WQ_then_ret ?_ | refine WQ_then_exit ?_ | refine WQ_block_normal ?_ | refine WQ_block_ret ?_ | refine WQ_block_exit ?_ | refine n9 ?_)
  refine WL_runs rfl rfl rfl (R_com rfl (not32 s)) ?_
  repeat (first | refine n1 ?_ | refine n2 (fun b _ => ?_) | refine n3 (fun _ _ => ?_) | refine n4 ?_ | refine n5 ?_ | refine WL_nil ?_ | refine W_seq ?_ | refine W_region ?_ | refine n7 ?_ | refine n8 ?_ | refine W_block ?_ | refine W_skip ?_ | refine W_ret ?_ | refine W_exit ?_ | refine WQ_then ?_ | refine WQ_then_ret ?_ | refine WQ_then_exit ?_ | refine WQ_block_normal ?_ | refine WQ_block_ret ?_ | refine WQ_block_exit ?_ | refine n9 ?_)
  ((apply ret1 Try.results61 ( ())); (focus (first | trivial | assumption | omega)); (focus (first | exact RV_tmp rfl | (apply RV_cellN; exact rfl; (repeat' (first | exact Pick.head _ _ | apply Pick.tail)); (intro _; exact rfl); (intro _; exact rfl); exact rfl) | (apply RV_cell1; exact rfl; (repeat' (first | exact Pick.head _ _ | apply Pick.tail)); (intro _; exact rfl); exact rfl)));  (focus (first | exact rfl | (simp; done))); (focus (repeat (first | exact SubO.nil _ | (apply SubO.cons; (focus (repeat' (first | exact Pick.head _ _ | apply Pick.tail))))))); (focus (repeat (first | exact AllE.nil _ | (apply AllE.cons; (focus (first | exact ent_nilBy | exact ent_nilSl | (apply Ent.mem; repeat' (first | exact mcs | apply mct)))))))))

set_option maxRecDepth 100000 in
theorem crc32_fn (dv : Value) (xs : List UInt8) (hx : xs.length ≤ 1000000000) : CtD Try.prog 50 [dv] [By dv xs] (.int .u32 ((crc P32 xs).toNat : Int)) := by
  have h1 : CtD Try.prog 62 [.int .u32 4294967295, dv] [By dv xs] (.int .u32 ((feed P32 (BitVec.allOnes 32) (bitsL xs)).toNat : Int)) := extend_fn (BitVec.allOnes 32) dv xs hx
  have h2 := final_fn (feed P32 (BitVec.allOnes 32) (bitsL xs))
  refine Ct_intro Try.func50 rfl Try.ntmps50 (by simp) _ rfl (fun w0 O0 => ?_)
  repeat (first | refine n1 ?_ | refine n2 (fun b _ => ?_) | refine n3 (fun _ _ => ?_) | refine n4 ?_ | refine n5 ?_ | refine n6 (h1) ?_ | refine n6 (h2) ?_ | refine n6v (h1) ?_ | refine n6v (h2) ?_ | refine WL_nil ?_ | refine W_seq ?_ | refine W_region ?_ | refine n7 ?_ | refine n8 ?_ | refine W_block ?_ | refine W_skip ?_ | refine W_ret ?_ | refine W_exit ?_ | refine WQ_then ?_ | refine WQ_then_ret ?_ | refine WQ_then_exit ?_ | refine WQ_block_normal ?_ | refine WQ_block_ret ?_ | refine WQ_block_exit ?_ | refine n9 ?_)
  ((apply ret1 Try.results50 ( ())); (focus (first | trivial | assumption | omega)); (focus (first | exact RV_tmp rfl | (apply RV_cellN; exact rfl; (repeat' (first | exact Pick.head _ _ | apply Pick.tail)); (intro _; exact rfl); (intro _; exact rfl); exact rfl) | (apply RV_cell1; exact rfl; (repeat' (first | exact Pick.head _ _ | apply Pick.tail)); (intro _; exact rfl); exact rfl)));  (focus (first | exact rfl | (simp; done))); (focus (repeat (first | exact SubO.nil _ | (apply SubO.cons; (focus (repeat' (first | exact Pick.head _ _ | apply Pick.tail))))))); (focus (repeat (first | exact AllE.nil _ | (apply AllE.cons; (focus (first | exact ent_nilBy | exact ent_nilSl | (apply Ent.mem; repeat' (first | exact mcs | apply mct)))))))))
end Go.Proofs.Ytbdcpahifcbcfaa.C03

/-
  Contracts of the check values: the reference's.
-/
namespace Go.Proofs.Ytbdcpahifcbcfaa.C03
open Go Go.RowKit Go.Hs
attribute [local irreducible] WL W WQ PL Runs Effs AllE Ent SubO FrIn Pick OneC Ones CellsE PartsE SeqE UZ By Sl Pt Ct

def bitI (b : Bool) : Value := .int .i64 (if b then 1 else 0)
theorem bitI_one (b : Bool) : ∀ u ∈ [bitI b], u.oneCell' = true := fun u hu => by
  rcases List.mem_singleton.1 hu with rfl
  rfl

theorem bit_of (c : UInt8) (j : Nat) (hj : j < 8) : (((c.toNat : Int).tdiv ((128 / 2 ^ j : Nat) : Int)).tmod 2) = if (bitsOf c).getD j false then 1 else 0 := by
  have h : ∀ c : Fin 256, ∀ j : Fin 8, c.val / (128 / 2 ^ j.val) % 2 = if ((List.range 8).map fun k => c.val.testBit (7 - k)).getD j.val false then 1 else 0 := by decide +kernel
  have h2 := h ⟨c.toNat, c.toNat_lt⟩ ⟨j, hj⟩
  simp only at h2
  rw [show (((c.toNat : Int).tdiv ((128 / 2 ^ j : Nat) : Int)).tmod 2) = ((c.toNat / (128 / 2 ^ j) % 2 : Nat) : Int) from rfl, h2]
  unfold bitsOf
  split <;> rfl

theorem bits_take (c : UInt8) (j : Nat) (h : j < 8) : (bitsOf c).take (j + 1) = (bitsOf c).take j ++ [(bitsOf c).getD j false] := by
  have h2 : j < (bitsOf c).length := by rw [bitsOf_length]; exact h
  rw [List.take_succ_eq_append_getElem h2, List.getD_eq_getElem?_getD, List.getElem?_eq_getElem h2]
  rfl
theorem bitsL_take (xs : List UInt8) (k : Nat) (h : k < xs.length) : bitsL (xs.take (k + 1)) = bitsL (xs.take k) ++ bitsOf (xs.getD k 0) := by
  rw [take_next xs k h, bitsL_append, bitsL_cons, show bitsL [] = [] from rfl, List.append_nil]

set_option maxRecDepth 100000 in
set_option maxHeartbeats 1000000 in
theorem rbits_fn (dv : Value) (xs : List UInt8) (hx : xs.length ≤ 1000000000) : Ct Try.prog 66 [dv] [] [By dv xs]
    (X := Value) (fun _ => True) (fun x => x) (fun x => [.row x 3 1 (8 * xs.length) ((bitsL xs).map bitI)]) (fun _ => []) := by
  refine Ct_intro Try.func66 rfl Try.ntmps66 (by simp) _ rfl (fun w0 O0 => ?_)
  apply W_nilRow 3 1
  repeat (first | refine n1 ?_ | refine n2 (fun b _ => ?_) | refine n3 (fun _ _ => ?_) | refine n4 ?_ | refine n5 ?_ | refine WL_nil ?_ | refine W_seq ?_ | refine W_region ?_ | refine n7 ?_ | refine n8 ?_ | refine W_block ?_ | refine W_skip ?_ | refine W_ret ?_ | refine W_exit ?_ | refine WQ_then ?_ | refine WQ_then_ret ?_ | refine WQ_then_exit ?_ | refine WQ_block_normal ?_ | refine WQ_block_ret ?_ | refine WQ_block_exit ?_ | refine n9 ?_)
  ((apply W_loopK (X := Nat × Value) [4, 3] [0] (fun x => x.1 ≤ xs.length) (fun x => [(4, .int .i64 (x.1 : Int)), (3, x.2)]) (fun x => [.row x.2 3 1 (8 * x.1) ((bitsL (xs.take x.1)).map bitI)]) (fun _ => []) (fun x => xs.length - x.1) ((0, .slice none 0 0))); (focus exact Nat.zero_le _); exact rfl; exact rfl; (intro _; exact rfl); (intro _; exact rfl); (intro _; exact rfl); (focus (repeat (first | exact FrIn.nil _ | (apply FrIn.cons; exact rfl; (first | exact rfl | (congr 1; first | omega | (dsimp only; omega)) | (simp; done)))))); (focus (repeat (first | exact SubO.nil _ | (apply SubO.cons; (focus (repeat' (first | exact Pick.head _ _ | apply Pick.tail))))))); (focus (repeat (first | exact AllE.nil _ | (apply AllE.cons; (focus (first | exact ent_nilBy | exact ent_nilSl | (apply Ent.mem; repeat' (first | exact mcs | apply mct)))))))); intro x hx)
  obtain ⟨i, o⟩ := x
  replace hx : i ≤ xs.length := hx
  dsimp only
  by_cases h : i < xs.length
  · have hc := u8_nat (xs.getD i 0)
    repeat (first | refine n1 ?_ | refine n2 (fun b _ => ?_) | refine n3 (fun _ _ => ?_) | refine n4 ?_ | refine n5 ?_ | refine WL_nil ?_ | refine W_seq ?_ | refine W_region ?_ | refine n7 ?_ | refine n8 ?_ | refine W_block ?_ | refine W_skip ?_ | refine W_ret ?_ | refine W_exit ?_ | refine WQ_then ?_ | refine WQ_then_ret ?_ | refine WQ_then_exit ?_ | refine WQ_block_normal ?_ | refine WQ_block_ret ?_ | refine WQ_block_exit ?_ | refine n9 ?_)
    rw [show (bitsL (xs.take i)).map bitI = (bitsL (xs.take i) ++ (bitsOf (xs.getD i 0)).take 0).map bitI by simp]
    ((apply W_loopK (X := Nat × Nat × Value) [6, 3] [0] (fun y => y.1 ≤ 8 ∧ y.2.1 = 128 / 2 ^ y.1) (fun y => [(6, .int .i64 (y.2.1 : Int)), (3, y.2.2)]) (fun y => [.row y.2.2 3 1 (8 * i + y.1) ((bitsL (xs.take i) ++ (bitsOf (xs.getD i 0)).take y.1).map bitI)]) (fun _ => []) (fun y => 8 - y.1) ((0, 128, o))); (focus exact ⟨Nat.zero_le _, by simp⟩); exact rfl; exact rfl; (intro _; exact rfl); (intro _; exact rfl); (intro _; exact rfl); (focus (repeat (first | exact FrIn.nil _ | (apply FrIn.cons; exact rfl; (first | exact rfl | (congr 1; first | omega | (dsimp only; omega)) | (simp; done)))))); (focus (repeat (first | exact SubO.nil _ | (apply SubO.cons; (focus (repeat' (first | exact Pick.head _ _ | apply Pick.tail))))))); (focus (repeat (first | exact AllE.nil _ | (apply AllE.cons; (focus (first | exact ent_nilBy | exact ent_nilSl | (apply Ent.mem; repeat' (first | exact mcs | apply mct)))))))); intro x hx)
    obtain ⟨j, kk, q⟩ := x
    rename_i hi0
    obtain ⟨hj, hkk⟩ := hx
    replace hj : j ≤ 8 := hj
    replace hkk : kk = 128 / 2 ^ j := hkk
    subst hkk
    dsimp only
    by_cases h8 : j < 8
    · have hk : ∀ j : Fin 8, 0 < 128 / 2 ^ j.val ∧ 128 / 2 ^ j.val ≤ 128 := by decide
      have hk1 : 0 < 128 / 2 ^ j ∧ 128 / 2 ^ j ≤ 128 := hk ⟨j, h8⟩
      have hq : (xs.getD i 0).toNat / (128 / 2 ^ j) ≤ (xs.getD i 0).toNat := Nat.div_le_self _ _
      repeat (first | refine n1 ?_ | refine n2 (fun b _ => ?_) | refine n3 (fun _ _ => ?_) | refine n4 ?_ | refine n5 ?_ | refine WL_nil ?_ | refine W_seq ?_ | refine W_region ?_ | refine n7 ?_ | refine n8 ?_ | refine W_block ?_ | refine W_skip ?_ | refine W_ret ?_ | refine W_exit ?_ | refine WQ_then ?_ | refine WQ_then_ret ?_ | refine WQ_then_exit ?_ | refine WQ_block_normal ?_ | refine WQ_block_ret ?_ | refine WQ_block_exit ?_ | refine n9 ?_)
      refine WL_runs rfl rfl rfl (R_quo (c := (((xs.getD i 0).toNat / (128 / 2 ^ j) : Nat) : Int)) rfl rfl (by omega) (by rw [show (((xs.getD i 0).toNat : Int).tdiv ((128 / 2 ^ j : Nat) : Int)) = (((xs.getD i 0).toNat / (128 / 2 ^ j) : Nat) : Int) from rfl]; exact wx_i64 ⟨Int.le_trans (by decide) (Int.natCast_nonneg _), Int.le_trans (Int.ofNat_le.2 hq) (by omega)⟩)) ?_
      refine WL_runs rfl rfl rfl (R_rem rfl rfl (by decide) (bit_of (xs.getD i 0) j h8)) ?_
      (apply WL_effs; exact rfl; exact rfl; exact rfl; (apply E_buildSlice; exact rfl; (focus (repeat (first | apply SeqE.nil | (apply SeqE.cons; exact rfl; (focus (first | (apply CellsE.lit; exact rfl) | (apply CellsE.one; (first | (apply OneC.lit; exact rfl) | (apply OneC.by_; (repeat' (first | exact mcs | apply mct)); done) | (apply OneC.sl; (repeat' (first | exact mcs | apply mct)); done) | (apply OneC.rw; (repeat' (first | exact mcs | apply mct)); done) | (apply OneC.row; (repeat' (first | exact Pick.head _ _ | apply Pick.tail))))))); exact rfl) | exact rfl))); exact rfl; (first | (intro _; exact (rfl : _ = Result.ok 1 _)) | (intro _; exact (rfl : _ = Result.ok 2 _)) | (intro _; exact (rfl : _ = Result.ok 3 _)) | (intro _; exact (rfl : _ = Result.ok 4 _)) | (intro _; exact (rfl : _ = Result.ok 5 _)) | (intro _; exact (rfl : _ = Result.ok 6 _)) | (intro _; exact (rfl : _ = Result.ok 7 _)) | (intro _; exact (rfl : _ = Result.ok 8 _)) | (intro _; exact (rfl : _ = Result.ok 9 _)) | (intro _; exact (rfl : _ = Result.ok 13 _)) | (intro _; exact (rfl : _ = Result.ok 14 _)) | (intro _; exact (rfl : _ = Result.ok 26 _)) | (intro _; exact (rfl : _ = Result.ok 40 _)) | (intro _; exact (rfl : _ = Result.ok 41 _)) | (intro _; exact (rfl : _ = Result.ok 42 _)) | (intro _; exact (rfl : _ = Result.ok 43 _)) | (intro _; exact (rfl : _ = Result.ok 44 _)) | (intro _; exact (rfl : _ = Result.ok 45 _)) | (intro _; exact (rfl : _ = Result.ok 46 _))); (intro _; exact rfl); exact rfl; exact Nat.le_of_ble_eq_true rfl; exact Nat.le_of_ble_eq_true rfl); skip)
      intro q1 _
      refine WL_effs rfl rfl rfl (E_appendRow (news := [bitI ((bitsOf (xs.getD i 0)).getD j false)]) (all := (bitsL (xs.take i) ++ (bitsOf (xs.getD i 0)).take (j + 1)).map bitI) (nm := 8 * i + (j + 1)) rfl rfl (by repeat' (first | exact Pick.head _ _ | apply Pick.tail)) (by repeat' (first | exact Pick.head _ _ | apply Pick.tail)) rfl rfl rfl rfl rfl (Nat.le_of_ble_eq_true rfl) (bitI_one _) (Nat.le_of_ble_eq_true rfl) (by omega) (by omega) (by rw [bits_take _ j h8]; simp)) ?_
      intro q2 _
      repeat (first | refine n1 ?_ | refine n2 (fun b _ => ?_) | refine n3 (fun _ _ => ?_) | refine n4 ?_ | refine n5 ?_ | refine WL_nil ?_ | refine W_seq ?_ | refine W_region ?_ | refine n7 ?_ | refine n8 ?_ | refine W_block ?_ | refine W_skip ?_ | refine W_ret ?_ | refine W_exit ?_ | refine WQ_then ?_ | refine WQ_then_ret ?_ | refine WQ_then_exit ?_ | refine WQ_block_normal ?_ | refine WQ_block_ret ?_ | refine WQ_block_exit ?_ | refine n9 ?_)
      refine WL_runs rfl rfl rfl (R_quo (c := ((128 / 2 ^ (j + 1) : Nat) : Int)) rfl rfl (by decide) (by rw [Nat.pow_succ, ← Nat.div_div_eq_div_mul, show (((128 / 2 ^ j : Nat) : Int).tdiv 2) = ((128 / 2 ^ j / 2 : Nat) : Int) from rfl]; exact wx_i64 (by omega))) ?_
      repeat (first | refine n1 ?_ | refine n2 (fun b _ => ?_) | refine n3 (fun _ _ => ?_) | refine n4 ?_ | refine n5 ?_ | refine WL_nil ?_ | refine W_seq ?_ | refine W_region ?_ | refine n7 ?_ | refine n8 ?_ | refine W_block ?_ | refine W_skip ?_ | refine W_ret ?_ | refine W_exit ?_ | refine WQ_then ?_ | refine WQ_then_ret ?_ | refine WQ_then_exit ?_ | refine WQ_block_normal ?_ | refine WQ_block_ret ?_ | refine WQ_block_exit ?_ | refine n9 ?_)
      ((apply WQ_again ((j + 1, 128 / 2 ^ (j + 1), q2))); (focus exact ⟨h8, rfl⟩); (focus (omega)); (focus (repeat (first | exact FrIn.nil _ | (apply FrIn.cons; exact rfl; (first | exact rfl | (congr 1; first | omega | (dsimp only; omega)) | (simp; done)))))); (focus (repeat (first | exact SubO.nil _ | (apply SubO.cons; (focus (repeat' (first | exact Pick.head _ _ | apply Pick.tail))))))); (focus (repeat (first | exact AllE.nil _ | (apply AllE.cons; (focus (first | exact ent_nilBy | exact ent_nilSl | (apply Ent.mem; repeat' (first | exact mcs | apply mct)))))))))
    · obtain rfl : j = 8 := by omega
      have e0 : 128 / 2 ^ 8 = 0 := by decide
      have e1 : (bitsOf (xs.getD i 0)).take 8 = bitsOf (xs.getD i 0) := List.take_of_length_le (by rw [bitsOf_length]; decide)
      rw [e0, e1, ← bitsL_take xs i h]
      repeat (first | refine n1 ?_ | refine n2 (fun b _ => ?_) | refine n3 (fun _ _ => ?_) | refine n4 ?_ | refine n5 ?_ | refine WL_nil ?_ | refine W_seq ?_ | refine W_region ?_ | refine n7 ?_ | refine n8 ?_ | refine W_block ?_ | refine W_skip ?_ | refine W_ret ?_ | refine W_exit ?_ | refine WQ_then ?_ | refine WQ_then_ret ?_ | refine WQ_then_exit ?_ | refine WQ_block_normal ?_ | refine WQ_block_ret ?_ | refine WQ_block_exit ?_ | refine n9 ?_)
      rw [show 8 * i + 8 = 8 * (i + 1) by omega]
      ((apply WQ_again ((i + 1, q))); (focus exact h); (focus (omega)); (focus (repeat (first | exact FrIn.nil _ | (apply FrIn.cons; exact rfl; (first | exact rfl | (congr 1; first | omega | (dsimp only; omega)) | (simp; done)))))); (focus (repeat (first | exact SubO.nil _ | (apply SubO.cons; (focus (repeat' (first | exact Pick.head _ _ | apply Pick.tail))))))); (focus (repeat (first | exact AllE.nil _ | (apply AllE.cons; (focus (first | exact ent_nilBy | exact ent_nilSl | (apply Ent.mem; repeat' (first | exact mcs | apply mct)))))))))
  · obtain rfl : i = xs.length := by omega
    rw [List.take_length]
    repeat (first | refine n1 ?_ | refine n2 (fun b _ => ?_) | refine n3 (fun _ _ => ?_) | refine n4 ?_ | refine n5 ?_ | refine WL_nil ?_ | refine W_seq ?_ | refine W_region ?_ | refine n7 ?_ | refine n8 ?_ | refine W_block ?_ | refine W_skip ?_ | refine W_ret ?_ | refine W_exit ?_ | refine WQ_then ?_ | refine WQ_then_ret ?_ | refine WQ_then_exit ?_ | refine WQ_block_normal ?_ | refine WQ_block_ret ?_ | refine WQ_block_exit ?_ | refine n9 ?_)
    ((apply ret1 Try.results66 ( o)); (focus (first | trivial | assumption | omega)); (focus (first | exact RV_tmp rfl | (apply RV_cellN; exact rfl; (repeat' (first | exact Pick.head _ _ | apply Pick.tail)); (intro _; exact rfl); (intro _; exact rfl); exact rfl) | (apply RV_cell1; exact rfl; (repeat' (first | exact Pick.head _ _ | apply Pick.tail)); (intro _; exact rfl); exact rfl)));  (focus (first | exact rfl | (simp; done))); (focus (repeat (first | exact SubO.nil _ | (apply SubO.cons; (focus (repeat' (first | exact Pick.head _ _ | apply Pick.tail))))))); (focus (repeat (first | exact AllE.nil _ | (apply AllE.cons; (focus (first | exact ent_nilBy | exact ent_nilSl | (apply Ent.mem; repeat' (first | exact mcs | apply mct)))))))))

theorem tpb_shl {w : Nat} (hw : 0 < w) (b : Bool) : tpb w b <<< 1 = 0#w := by
  cases b with
  | false => simp [tpb]
  | true =>
    apply BitVec.eq_of_getLsbD_eq
    intro i hi
    rw [tpb, if_pos rfl, BitVec.getLsbD_shiftLeft, BitVec.getLsbD_twoPow]
    rw [Bool.eq_iff_iff]
    simp
    omega
theorem tpb_msb {w : Nat} (hw : 0 < w) (b : Bool) : (tpb w b).msb = b := by
  rw [BitVec.msb_eq_getMsbD_zero, tpb_msbD hw]
  simp
theorem stp_eq {w : Nat} (hw : 0 < w) (P r : BitVec w) (b : Bool) : stp P r b = (r <<< 1) ^^^ (if (r.msb ^^ b) then P else 0#w) := by
  rw [stp, zs, BitVec.shiftLeft_xor_distrib, tpb_shl hw, BitVec.xor_zero, BitVec.msb_xor, tpb_msb hw]

theorem half32 (r : BitVec 32) : IntKind.u64.wrap ((r.toNat : Int).tdiv 2147483648) = ((if r.msb then 1 else 0 : Nat) : Int) := by
  have h := lt32 r
  have e : r.toNat / 2147483648 = if r.msb then 1 else 0 := by
    have h2 : r.msb = r.toNat.testBit (32 - 1) := by rw [BitVec.msb_eq_getLsbD_last, BitVec.testBit_toNat]
    rw [h2, Nat.testBit_eq_decide_div_mod_eq, show (2 : Nat) ^ (32 - 1) = 2147483648 from rfl]
    rcases Nat.lt_or_ge r.toNat 2147483648 with h3 | h3
    · rw [Nat.div_eq_of_lt h3]
      rfl
    · have : r.toNat / 2147483648 = 1 := by omega
      rw [this]
      rfl
  rw [show ((r.toNat : Int).tdiv 2147483648) = ((r.toNat / 2147483648 : Nat) : Int) from rfl, e]
  split <;> rfl
theorem rest32 (r : BitVec 32) : IntKind.u64.wrap (((r.toNat % 2147483648 : Nat) : Int) * 2) = ((r <<< 1).toNat : Int) := by
  have h := lt32 r
  rw [wx_u64 (by omega), BitVec.toNat_shiftLeft, Nat.shiftLeft_eq]
  omega
theorem xorw32 (r s : BitVec 32) : bits .xor .u64 (r.toNat : Int) (s.toNat : Int) = ((r ^^^ s).toNat : Int) := by
  have h1 := lt32 r
  have h2 := lt32 s
  rw [u64_xor_nat _ _ (by omega) (by omega), BitVec.toNat_xor]

set_option maxRecDepth 100000 in
theorem step32_fn (r : BitVec 32) (b : Bool) : CtD Try.prog 67 [.int .u64 (r.toNat : Int), .int .u64 2147483648, .int .u64 136331795, .int .i64 (if b then 1 else 0)] [] (.int .u64 ((stp P32 r b).toNat : Int)) := by
  have hlt := lt32 r
  have hd := half32 r
  have hr := rest32 r
  have he := stp_eq (w := 32) (by decide) P32 r b
  by_cases hm : r.msb = true
  · rw [hm] at hd he
    cases b
    · rw [show (true ^^ false) = true from rfl, if_pos rfl] at he
      rw [he]
      refine Ct_intro Try.func67 rfl Try.ntmps67 (by simp) _ rfl (fun w0 O0 => ?_)
      repeat (first | refine n1 ?_ | refine n2 (fun b _ => ?_) | refine n3 (fun _ _ => ?_) | refine n4 ?_ | refine n5 ?_ | refine WL_nil ?_ | refine W_seq ?_ | refine W_region ?_ | refine n7 ?_ | refine n8 ?_ | refine W_block ?_ | refine W_skip ?_ | refine W_ret ?_ | refine W_exit ?_ | refine WQ_then ?_ | refine WQ_then_ret ?_ | refine WQ_then_exit ?_ | refine WQ_block_normal ?_ | refine WQ_block_ret ?_ | refine WQ_block_exit ?_ | refine n9 ?_)
      refine WL_runs rfl rfl rfl (R_quo rfl rfl (by decide) hd) ?_
      repeat (first | refine n1 ?_ | refine n2 (fun b _ => ?_) | refine n3 (fun _ _ => ?_) | refine n4 ?_ | refine n5 ?_ | refine WL_nil ?_ | refine W_seq ?_ | refine W_region ?_ | refine n7 ?_ | refine n8 ?_ | refine W_block ?_ | refine W_skip ?_ | refine W_ret ?_ | refine W_exit ?_ | refine WQ_then ?_ | refine WQ_then_ret ?_ | refine WQ_then_exit ?_ | refine WQ_block_normal ?_ | refine WQ_block_ret ?_ | refine WQ_block_exit ?_ | refine n9 ?_)
      refine WL_runs rfl rfl rfl (R_rem (c := 1) rfl rfl (by decide) rfl) ?_
      repeat (first | refine n1 ?_ | refine n2 (fun b _ => ?_) | refine n3 (fun _ _ => ?_) | refine n4 ?_ | refine n5 ?_ | refine WL_nil ?_ | refine W_seq ?_ | refine W_region ?_ | refine n7 ?_ | refine n8 ?_ | refine W_block ?_ | refine W_skip ?_ | refine W_ret ?_ | refine W_exit ?_ | refine WQ_then ?_ | refine WQ_then_ret ?_ | refine WQ_then_exit ?_ | refine WQ_block_normal ?_ | refine WQ_block_ret ?_ | refine WQ_block_exit ?_ | refine n9 ?_)
      refine WL_runs rfl rfl rfl (R_rem (c := ((r.toNat % 2147483648 : Nat) : Int)) rfl rfl (by decide) rfl) ?_
      refine WL_runs rfl rfl rfl (R_mul rfl rfl hr) ?_
      repeat (first | refine n1 ?_ | refine n2 (fun b _ => ?_) | refine n3 (fun _ _ => ?_) | refine n4 ?_ | refine n5 ?_ | refine WL_nil ?_ | refine W_seq ?_ | refine W_region ?_ | refine n7 ?_ | refine n8 ?_ | refine W_block ?_ | refine W_skip ?_ | refine W_ret ?_ | refine W_exit ?_ | refine WQ_then ?_ | refine WQ_then_ret ?_ | refine WQ_then_exit ?_ | refine WQ_block_normal ?_ | refine WQ_block_ret ?_ | refine WQ_block_exit ?_ | refine n9 ?_)
      refine WL_runs rfl rfl rfl (R_xor (b := ((P32).toNat : Int)) rfl rfl (xorw32 (r <<< 1) P32)) ?_
      repeat (first | refine n1 ?_ | refine n2 (fun b _ => ?_) | refine n3 (fun _ _ => ?_) | refine n4 ?_ | refine n5 ?_ | refine WL_nil ?_ | refine W_seq ?_ | refine W_region ?_ | refine n7 ?_ | refine n8 ?_ | refine W_block ?_ | refine W_skip ?_ | refine W_ret ?_ | refine W_exit ?_ | refine WQ_then ?_ | refine WQ_then_ret ?_ | refine WQ_then_exit ?_ | refine WQ_block_normal ?_ | refine WQ_block_ret ?_ | refine WQ_block_exit ?_ | refine n9 ?_)
      ((apply ret1 Try.results67 ( ())); (focus (first | trivial | assumption | omega)); (focus (first | exact RV_tmp rfl | (apply RV_cellN; exact rfl; (repeat' (first | exact Pick.head _ _ | apply Pick.tail)); (intro _; exact rfl); (intro _; exact rfl); exact rfl) | (apply RV_cell1; exact rfl; (repeat' (first | exact Pick.head _ _ | apply Pick.tail)); (intro _; exact rfl); exact rfl)));  (focus (first | exact rfl | (simp; done))); (focus (repeat (first | exact SubO.nil _ | (apply SubO.cons; (focus (repeat' (first | exact Pick.head _ _ | apply Pick.tail))))))); (focus (repeat (first | exact AllE.nil _ | (apply AllE.cons; (focus (first | exact ent_nilBy | exact ent_nilSl | (apply Ent.mem; repeat' (first | exact mcs | apply mct)))))))))
    · rw [show (true ^^ true) = false from rfl, if_neg (by decide), BitVec.xor_zero] at he
      rw [he]
      refine Ct_intro Try.func67 rfl Try.ntmps67 (by simp) _ rfl (fun w0 O0 => ?_)
      repeat (first | refine n1 ?_ | refine n2 (fun b _ => ?_) | refine n3 (fun _ _ => ?_) | refine n4 ?_ | refine n5 ?_ | refine WL_nil ?_ | refine W_seq ?_ | refine W_region ?_ | refine n7 ?_ | refine n8 ?_ | refine W_block ?_ | refine W_skip ?_ | refine W_ret ?_ | refine W_exit ?_ | refine WQ_then ?_ | refine WQ_then_ret ?_ | refine WQ_then_exit ?_ | refine WQ_block_normal ?_ | refine WQ_block_ret ?_ | refine WQ_block_exit ?_ | refine n9 ?_)
      refine WL_runs rfl rfl rfl (R_quo rfl rfl (by decide) hd) ?_
      repeat (first | refine n1 ?_ | refine n2 (fun b _ => ?_) | refine n3 (fun _ _ => ?_) | refine n4 ?_ | refine n5 ?_ | refine WL_nil ?_ | refine W_seq ?_ | refine W_region ?_ | refine n7 ?_ | refine n8 ?_ | refine W_block ?_ | refine W_skip ?_ | refine W_ret ?_ | refine W_exit ?_ | refine WQ_then ?_ | refine WQ_then_ret ?_ | refine WQ_then_exit ?_ | refine WQ_block_normal ?_ | refine WQ_block_ret ?_ | refine WQ_block_exit ?_ | refine n9 ?_)
      refine WL_runs rfl rfl rfl (R_rem (c := 0) rfl rfl (by decide) rfl) ?_
      repeat (first | refine n1 ?_ | refine n2 (fun b _ => ?_) | refine n3 (fun _ _ => ?_) | refine n4 ?_ | refine n5 ?_ | refine WL_nil ?_ | refine W_seq ?_ | refine W_region ?_ | refine n7 ?_ | refine n8 ?_ | refine W_block ?_ | refine W_skip ?_ | refine W_ret ?_ | refine W_exit ?_ | refine WQ_then ?_ | refine WQ_then_ret ?_ | refine WQ_then_exit ?_ | refine WQ_block_normal ?_ | refine WQ_block_ret ?_ | refine WQ_block_exit ?_ | refine n9 ?_)
      refine WL_runs rfl rfl rfl (R_rem (c := ((r.toNat % 2147483648 : Nat) : Int)) rfl rfl (by decide) rfl) ?_
      refine WL_runs rfl rfl rfl (R_mul rfl rfl hr) ?_
      repeat (first | refine n1 ?_ | refine n2 (fun b _ => ?_) | refine n3 (fun _ _ => ?_) | refine n4 ?_ | refine n5 ?_ | refine WL_nil ?_ | refine W_seq ?_ | refine W_region ?_ | refine n7 ?_ | refine n8 ?_ | refine W_block ?_ | refine W_skip ?_ | refine W_ret ?_ | refine W_exit ?_ | refine WQ_then ?_ | refine WQ_then_ret ?_ | refine WQ_then_exit ?_ | refine WQ_block_normal ?_ | refine WQ_block_ret ?_ | refine WQ_block_exit ?_ | refine n9 ?_)
      ((apply ret1 Try.results67 ( ())); (focus (first | trivial | assumption | omega)); (focus (first | exact RV_tmp rfl | (apply RV_cellN; exact rfl; (repeat' (first | exact Pick.head _ _ | apply Pick.tail)); (intro _; exact rfl); (intro _; exact rfl); exact rfl) | (apply RV_cell1; exact rfl; (repeat' (first | exact Pick.head _ _ | apply Pick.tail)); (intro _; exact rfl); exact rfl)));  (focus (first | exact rfl | (simp; done))); (focus (repeat (first | exact SubO.nil _ | (apply SubO.cons; (focus (repeat' (first | exact Pick.head _ _ | apply Pick.tail))))))); (focus (repeat (first | exact AllE.nil _ | (apply AllE.cons; (focus (first | exact ent_nilBy | exact ent_nilSl | (apply Ent.mem; repeat' (first | exact mcs | apply mct)))))))))
  · rw [Bool.not_eq_true] at hm
    rw [hm] at hd he
    cases b
    · rw [show (false ^^ false) = false from rfl, if_neg (by decide), BitVec.xor_zero] at he
      rw [he]
      refine Ct_intro Try.func67 rfl Try.ntmps67 (by simp) _ rfl (fun w0 O0 => ?_)
      repeat (first | refine n1 ?_ | refine n2 (fun b _ => ?_) | refine n3 (fun _ _ => ?_) | refine n4 ?_ | refine n5 ?_ | refine WL_nil ?_ | refine W_seq ?_ | refine W_region ?_ | refine n7 ?_ | refine n8 ?_ | refine W_block ?_ | refine W_skip ?_ | refine W_ret ?_ | refine W_exit ?_ | refine WQ_then ?_ | refine WQ_then_ret ?_ | refine WQ_then_exit ?_ | refine WQ_block_normal ?_ | refine WQ_block_ret ?_ | refine WQ_block_exit ?_ | refine n9 ?_)
      refine WL_runs rfl rfl rfl (R_quo rfl rfl (by decide) hd) ?_
      repeat (first | refine n1 ?_ | refine n2 (fun b _ => ?_) | refine n3 (fun _ _ => ?_) | refine n4 ?_ | refine n5 ?_ | refine WL_nil ?_ | refine W_seq ?_ | refine W_region ?_ | refine n7 ?_ | refine n8 ?_ | refine W_block ?_ | refine W_skip ?_ | refine W_ret ?_ | refine W_exit ?_ | refine WQ_then ?_ | refine WQ_then_ret ?_ | refine WQ_then_exit ?_ | refine WQ_block_normal ?_ | refine WQ_block_ret ?_ | refine WQ_block_exit ?_ | refine n9 ?_)
      refine WL_runs rfl rfl rfl (R_rem (c := 0) rfl rfl (by decide) rfl) ?_
      repeat (first | refine n1 ?_ | refine n2 (fun b _ => ?_) | refine n3 (fun _ _ => ?_) | refine n4 ?_ | refine n5 ?_ | refine WL_nil ?_ | refine W_seq ?_ | refine W_region ?_ | refine n7 ?_ | refine n8 ?_ | refine W_block ?_ | refine W_skip ?_ | refine W_ret ?_ | refine W_exit ?_ | refine WQ_then ?_ | refine WQ_then_ret ?_ | refine WQ_then_exit ?_ | refine WQ_block_normal ?_ | refine WQ_block_ret ?_ | refine WQ_block_exit ?_ | refine n9 ?_)
      refine WL_runs rfl rfl rfl (R_rem (c := ((r.toNat % 2147483648 : Nat) : Int)) rfl rfl (by decide) rfl) ?_
      refine WL_runs rfl rfl rfl (R_mul rfl rfl hr) ?_
      repeat (first | refine n1 ?_ | refine n2 (fun b _ => ?_) | refine n3 (fun _ _ => ?_) | refine n4 ?_ | refine n5 ?_ | refine WL_nil ?_ | refine W_seq ?_ | refine W_region ?_ | refine n7 ?_ | refine n8 ?_ | refine W_block ?_ | refine W_skip ?_ | refine W_ret ?_ | refine W_exit ?_ | refine WQ_then ?_ | refine WQ_then_ret ?_ | refine WQ_then_exit ?_ | refine WQ_block_normal ?_ | refine WQ_block_ret ?_ | refine WQ_block_exit ?_ | refine n9 ?_)
      ((apply ret1 Try.results67 ( ())); (focus (first | trivial | assumption | omega)); (focus (first | exact RV_tmp rfl | (apply RV_cellN; exact rfl; (repeat' (first | exact Pick.head _ _ | apply Pick.tail)); (intro _; exact rfl); (intro _; exact rfl); exact rfl) | (apply RV_cell1; exact rfl; (repeat' (first | exact Pick.head _ _ | apply Pick.tail)); (intro _; exact rfl); exact rfl)));  (focus (first | exact rfl | (simp; done))); (focus (repeat (first | exact SubO.nil _ | (apply SubO.cons; (focus (repeat' (first | exact Pick.head _ _ | apply Pick.tail))))))); (focus (repeat (first | exact AllE.nil _ | (apply AllE.cons; (focus (first | exact ent_nilBy | exact ent_nilSl | (apply Ent.mem; repeat' (first | exact mcs | apply mct)))))))))
    · rw [show (false ^^ true) = true from rfl, if_pos rfl] at he
      rw [he]
      refine Ct_intro Try.func67 rfl Try.ntmps67 (by simp) _ rfl (fun w0 O0 => ?_)
      repeat (first | refine n1 ?_ | refine n2 (fun b _ => ?_) | refine n3 (fun _ _ => ?_) | refine n4 ?_ | refine n5 ?_ | refine WL_nil ?_ | refine W_seq ?_ | refine W_region ?_ | refine n7 ?_ | refine n8 ?_ | refine W_block ?_ | refine W_skip ?_ | refine W_ret ?_ | refine W_exit ?_ | refine WQ_then ?_ | refine WQ_then_ret ?_ | refine WQ_then_exit ?_ | refine WQ_block_normal ?_ | refine WQ_block_ret ?_ | refine WQ_block_exit ?_ | refine n9 ?_)
      refine WL_runs rfl rfl rfl (R_quo rfl rfl (by decide) hd) ?_
      repeat (first | refine n1 ?_ | refine n2 (fun b _ => ?_) | refine n3 (fun _ _ => ?_) | refine n4 ?_ | refine n5 ?_ | refine WL_nil ?_ | refine W_seq ?_ | refine W_region ?_ | refine n7 ?_ | refine n8 ?_ | refine W_block ?_ | refine W_skip ?_ | refine W_ret ?_ | refine W_exit ?_ | refine WQ_then ?_ | refine WQ_then_ret ?_ | refine WQ_then_exit ?_ | refine WQ_block_normal ?_ | refine WQ_block_ret ?_ | refine WQ_block_exit ?_ | refine n9 ?_)
      refine WL_runs rfl rfl rfl (R_rem (c := 1) rfl rfl (by decide) rfl) ?_
      repeat (first | refine n1 ?_ | refine n2 (fun b _ => ?_) | refine n3 (fun _ _ => ?_) | refine n4 ?_ | refine n5 ?_ | refine WL_nil ?_ | refine W_seq ?_ | refine W_region ?_ | refine n7 ?_ | refine n8 ?_ | refine W_block ?_ | refine W_skip ?_ | refine W_ret ?_ | refine W_exit ?_ | refine WQ_then ?_ | refine WQ_then_ret ?_ | refine WQ_then_exit ?_ | refine WQ_block_normal ?_ | refine WQ_block_ret ?_ | refine WQ_block_exit ?_ | refine n9 ?_)
      refine WL_runs rfl rfl rfl (R_rem (c := ((r.toNat % 2147483648 : Nat) : Int)) rfl rfl (by decide) rfl) ?_
      refine WL_runs rfl rfl rfl (R_mul rfl rfl hr) ?_
      repeat (first | refine n1 ?_ | refine n2 (fun b _ => ?_) | refine n3 (fun _ _ => ?_) | refine n4 ?_ | refine n5 ?_ | refine WL_nil ?_ | refine W_seq ?_ | refine W_region ?_ | refine n7 ?_ | refine n8 ?_ | refine W_block ?_ | refine W_skip ?_ | refine W_ret ?_ | refine W_exit ?_ | refine WQ_then ?_ | refine WQ_then_ret ?_ | refine WQ_then_exit ?_ | refine WQ_block_normal ?_ | refine WQ_block_ret ?_ | refine WQ_block_exit ?_ | refine n9 ?_)
      refine WL_runs rfl rfl rfl (R_xor (b := ((P32).toNat : Int)) rfl rfl (xorw32 (r <<< 1) P32)) ?_
      repeat (first | refine n1 ?_ | refine n2 (fun b _ => ?_) | refine n3 (fun _ _ => ?_) | refine n4 ?_ | refine n5 ?_ | refine WL_nil ?_ | refine W_seq ?_ | refine W_region ?_ | refine n7 ?_ | refine n8 ?_ | refine W_block ?_ | refine W_skip ?_ | refine W_ret ?_ | refine W_exit ?_ | refine WQ_then ?_ | refine WQ_then_ret ?_ | refine WQ_then_exit ?_ | refine WQ_block_normal ?_ | refine WQ_block_ret ?_ | refine WQ_block_exit ?_ | refine n9 ?_)
      ((apply ret1 Try.results67 ( ())); (focus (first | trivial | assumption | omega)); (focus (first | exact RV_tmp rfl | (apply RV_cellN; exact rfl; (repeat' (first | exact Pick.head _ _ | apply Pick.tail)); (intro _; exact rfl); (intro _; exact rfl); exact rfl) | (apply RV_cell1; exact rfl; (repeat' (first | exact Pick.head _ _ | apply Pick.tail)); (intro _; exact rfl); exact rfl)));  (focus (first | exact rfl | (simp; done))); (focus (repeat (first | exact SubO.nil _ | (apply SubO.cons; (focus (repeat' (first | exact Pick.head _ _ | apply Pick.tail))))))); (focus (repeat (first | exact AllE.nil _ | (apply AllE.cons; (focus (first | exact ent_nilBy | exact ent_nilSl | (apply Ent.mem; repeat' (first | exact mcs | apply mct)))))))))
theorem half8 (r : BitVec 8) : IntKind.u64.wrap ((r.toNat : Int).tdiv 128) = ((if r.msb then 1 else 0 : Nat) : Int) := by
  have h := lt8 r
  have e : r.toNat / 128 = if r.msb then 1 else 0 := by
    have h2 : r.msb = r.toNat.testBit (8 - 1) := by rw [BitVec.msb_eq_getLsbD_last, BitVec.testBit_toNat]
    rw [h2, Nat.testBit_eq_decide_div_mod_eq, show (2 : Nat) ^ (8 - 1) = 128 from rfl]
    rcases Nat.lt_or_ge r.toNat 128 with h3 | h3
    · rw [Nat.div_eq_of_lt h3]
      rfl
    · have : r.toNat / 128 = 1 := by omega
      rw [this]
      rfl
  rw [show ((r.toNat : Int).tdiv 128) = ((r.toNat / 128 : Nat) : Int) from rfl, e]
  split <;> rfl
theorem rest8 (r : BitVec 8) : IntKind.u64.wrap (((r.toNat % 128 : Nat) : Int) * 2) = ((r <<< 1).toNat : Int) := by
  have h := lt8 r
  rw [wx_u64 (by omega), BitVec.toNat_shiftLeft, Nat.shiftLeft_eq]
  omega
theorem xorw8 (r s : BitVec 8) : bits .xor .u64 (r.toNat : Int) (s.toNat : Int) = ((r ^^^ s).toNat : Int) := by
  have h1 := lt8 r
  have h2 := lt8 s
  rw [u64_xor_nat _ _ (by omega) (by omega), BitVec.toNat_xor]

set_option maxRecDepth 100000 in
theorem step8_fn (r : BitVec 8) (b : Bool) : CtD Try.prog 67 [.int .u64 (r.toNat : Int), .int .u64 128, .int .u64 97, .int .i64 (if b then 1 else 0)] [] (.int .u64 ((stp P8 r b).toNat : Int)) := by
  have hlt := lt8 r
  have hd := half8 r
  have hr := rest8 r
  have he := stp_eq (w := 8) (by decide) P8 r b
  by_cases hm : r.msb = true
  · rw [hm] at hd he
    cases b
    · rw [show (true ^^ false) = true from rfl, if_pos rfl] at he
      rw [he]
      refine Ct_intro Try.func67 rfl Try.ntmps67 (by simp) _ rfl (fun w0 O0 => ?_)
      repeat (first | refine n1 ?_ | refine n2 (fun b _ => ?_) | refine n3 (fun _ _ => ?_) | refine n4 ?_ | refine n5 ?_ | refine WL_nil ?_ | refine W_seq ?_ | refine W_region ?_ | refine n7 ?_ | refine n8 ?_ | refine W_block ?_ | refine W_skip ?_ | refine W_ret ?_ | refine W_exit ?_ | refine WQ_then ?_ | refine WQ_then_ret ?_ | refine WQ_then_exit ?_ | refine WQ_block_normal ?_ | refine WQ_block_ret ?_ | refine WQ_block_exit ?_ | refine n9 ?_)
      refine WL_runs rfl rfl rfl (R_quo rfl rfl (by decide) hd) ?_
      repeat (first | refine n1 ?_ | refine n2 (fun b _ => ?_) | refine n3 (fun _ _ => ?_) | refine n4 ?_ | refine n5 ?_ | refine WL_nil ?_ | refine W_seq ?_ | refine W_region ?_ | refine n7 ?_ | refine n8 ?_ | refine W_block ?_ | refine W_skip ?_ | refine W_ret ?_ | refine W_exit ?_ | refine WQ_then ?_ | refine WQ_then_ret ?_ | refine WQ_then_exit ?_ | refine WQ_block_normal ?_ | refine WQ_block_ret ?_ | refine WQ_block_exit ?_ | refine n9 ?_)
      refine WL_runs rfl rfl rfl (R_rem (c := 1) rfl rfl (by decide) rfl) ?_
      repeat (first | refine n1 ?_ | refine n2 (fun b _ => ?_) | refine n3 (fun _ _ => ?_) | refine n4 ?_ | refine n5 ?_ | refine WL_nil ?_ | refine W_seq ?_ | refine W_region ?_ | refine n7 ?_ | refine n8 ?_ | refine W_block ?_ | refine W_skip ?_ | refine W_ret ?_ | refine W_exit ?_ | refine WQ_then ?_ | refine WQ_then_ret ?_ | refine WQ_then_exit ?_ | refine WQ_block_normal ?_ | refine WQ_block_ret ?_ | refine WQ_block_exit ?_ | refine n9 ?_)
      refine WL_runs rfl rfl rfl (R_rem (c := ((r.toNat % 128 : Nat) : Int)) rfl rfl (by decide) rfl) ?_
      refine WL_runs rfl rfl rfl (R_mul rfl rfl hr) ?_
      repeat (first | refine n1 ?_ | refine n2 (fun b _ => ?_) | refine n3 (fun _ _ => ?_) | refine n4 ?_ | refine n5 ?_ | refine WL_nil ?_ | refine W_seq ?_ | refine W_region ?_ | refine n7 ?_ | refine n8 ?_ | refine W_block ?_ | refine W_skip ?_ | refine W_ret ?_ | refine W_exit ?_ | refine WQ_then ?_ | refine WQ_then_ret ?_ | refine WQ_then_exit ?_ | refine WQ_block_normal ?_ | refine WQ_block_ret ?_ | refine WQ_block_exit ?_ | refine n9 ?_)
      refine WL_runs rfl rfl rfl (R_xor (b := ((P8).toNat : Int)) rfl rfl (xorw8 (r <<< 1) P8)) ?_
      repeat (first | refine n1 ?_ | refine n2 (fun b _ => ?_) | refine n3 (fun _ _ => ?_) | refine n4 ?_ | refine n5 ?_ | refine WL_nil ?_ | refine W_seq ?_ | refine W_region ?_ | refine n7 ?_ | refine n8 ?_ | refine W_block ?_ | refine W_skip ?_ | refine W_ret ?_ | refine W_exit ?_ | refine WQ_then ?_ | refine WQ_then_ret ?_ | refine WQ_then_exit ?_ | refine WQ_block_normal ?_ | refine WQ_block_ret ?_ | refine WQ_block_exit ?_ | refine n9 ?_)
      ((apply ret1 Try.results67 ( ())); (focus (first | trivial | assumption | omega)); (focus (first | exact RV_tmp rfl | (apply RV_cellN; exact rfl; (repeat' (first | exact Pick.head _ _ | apply Pick.tail)); (intro _; exact rfl); (intro _; exact rfl); exact rfl) | (apply RV_cell1; exact rfl; (repeat' (first | exact Pick.head _ _ | apply Pick.tail)); (intro _; exact rfl); exact rfl)));  (focus (first | exact rfl | (simp; done))); (focus (repeat (first | exact SubO.nil _ | (apply SubO.cons; (focus (repeat' (first | exact Pick.head _ _ | apply Pick.tail))))))); (focus (repeat (first | exact AllE.nil _ | (apply AllE.cons; (focus (first | exact ent_nilBy | exact ent_nilSl | (apply Ent.mem; repeat' (first | exact mcs | apply mct)))))))))
    · rw [show (true ^^ true) = false from rfl, if_neg (by decide), BitVec.xor_zero] at he
      rw [he]
      refine Ct_intro Try.func67 rfl Try.ntmps67 (by simp) _ rfl (fun w0 O0 => ?_)
      repeat (first | refine n1 ?_ | refine n2 (fun b _ => ?_) | refine n3 (fun _ _ => ?_) | refine n4 ?_ | refine n5 ?_ | refine WL_nil ?_ | refine W_seq ?_ | refine W_region ?_ | refine n7 ?_ | refine n8 ?_ | refine W_block ?_ | refine W_skip ?_ | refine W_ret ?_ | refine W_exit ?_ | refine WQ_then ?_ | refine WQ_then_ret ?_ | refine WQ_then_exit ?_ | refine WQ_block_normal ?_ | refine WQ_block_ret ?_ | refine WQ_block_exit ?_ | refine n9 ?_)
      refine WL_runs rfl rfl rfl (R_quo rfl rfl (by decide) hd) ?_
      repeat (first | refine n1 ?_ | refine n2 (fun b _ => ?_) | refine n3 (fun _ _ => ?_) | refine n4 ?_ | refine n5 ?_ | refine WL_nil ?_ | refine W_seq ?_ | refine W_region ?_ | refine n7 ?_ | refine n8 ?_ | refine W_block ?_ | refine W_skip ?_ | refine W_ret ?_ | refine W_exit ?_ | refine WQ_then ?_ | refine WQ_then_ret ?_ | refine WQ_then_exit ?_ | refine WQ_block_normal ?_ | refine WQ_block_ret ?_ | refine WQ_block_exit ?_ | refine n9 ?_)
      refine WL_runs rfl rfl rfl (R_rem (c := 0) rfl rfl (by decide) rfl) ?_
      repeat (first | refine n1 ?_ | refine n2 (fun b _ => ?_) | refine n3 (fun _ _ => ?_) | refine n4 ?_ | refine n5 ?_ | refine WL_nil ?_ | refine W_seq ?_ | refine W_region ?_ | refine n7 ?_ | refine n8 ?_ | refine W_block ?_ | refine W_skip ?_ | refine W_ret ?_ | refine W_exit ?_ | refine WQ_then ?_ | refine WQ_then_ret ?_ | refine WQ_then_exit ?_ | refine WQ_block_normal ?_ | refine WQ_block_ret ?_ | refine WQ_block_exit ?_ | refine n9 ?_)
      refine WL_runs rfl rfl rfl (R_rem (c := ((r.toNat % 128 : Nat) : Int)) rfl rfl (by decide) rfl) ?_
      refine WL_runs rfl rfl rfl (R_mul rfl rfl hr) ?_
      repeat (first | refine n1 ?_ | refine n2 (fun b _ => ?_) | refine n3 (fun _ _ => ?_) | refine n4 ?_ | refine n5 ?_ | refine WL_nil ?_ | refine W_seq ?_ | refine W_region ?_ | refine n7 ?_ | refine n8 ?_ | refine W_block ?_ | refine W_skip ?_ | refine W_ret ?_ | refine W_exit ?_ | refine WQ_then ?_ | refine WQ_then_ret ?_ | refine WQ_then_exit ?_ | refine WQ_block_normal ?_ | refine WQ_block_ret ?_ | refine WQ_block_exit ?_ | refine n9 ?_)
      ((apply ret1 Try.results67 ( ())); (focus (first | trivial | assumption | omega)); (focus (first | exact RV_tmp rfl | (apply RV_cellN; exact rfl; (repeat' (first | exact Pick.head _ _ | apply Pick.tail)); (intro _; exact rfl); (intro _; exact rfl); exact rfl) | (apply RV_cell1; exact rfl; (repeat' (first | exact Pick.head _ _ | apply Pick.tail)); (intro _; exact rfl); exact rfl)));  (focus (first | exact rfl | (simp; done))); (focus (repeat (first | exact SubO.nil _ | (apply SubO.cons; (focus (repeat' (first | exact Pick.head _ _ | apply Pick.tail))))))); (focus (repeat (first | exact AllE.nil _ | (apply AllE.cons; (focus (first | exact ent_nilBy | exact ent_nilSl | (apply Ent.mem; repeat' (first | exact mcs | apply mct)))))))))
  · rw [Bool.not_eq_true] at hm
    rw [hm] at hd he
    cases b
    · rw [show (false ^^ false) = false from rfl, if_neg (by decide), BitVec.xor_zero] at he
      rw [he]
      refine Ct_intro Try.func67 rfl Try.ntmps67 (by simp) _ rfl (fun w0 O0 => ?_)
      repeat (first | refine n1 ?_ | refine n2 (fun b _ => ?_) | refine n3 (fun _ _ => ?_) | refine n4 ?_ | refine n5 ?_ | refine WL_nil ?_ | refine W_seq ?_ | refine W_region ?_ | refine n7 ?_ | refine n8 ?_ | refine W_block ?_ | refine W_skip ?_ | refine W_ret ?_ | refine W_exit ?_ | refine WQ_then ?_ | refine WQ_then_ret ?_ | refine WQ_then_exit ?_ | refine WQ_block_normal ?_ | refine WQ_block_ret ?_ | refine WQ_block_exit ?_ | refine n9 ?_)
      refine WL_runs rfl rfl rfl (R_quo rfl rfl (by decide) hd) ?_
      repeat (first | refine n1 ?_ | refine n2 (fun b _ => ?_) | refine n3 (fun _ _ => ?_) | refine n4 ?_ | refine n5 ?_ | refine WL_nil ?_ | refine W_seq ?_ | refine W_region ?_ | refine n7 ?_ | refine n8 ?_ | refine W_block ?_ | refine W_skip ?_ | refine W_ret ?_ | refine W_exit ?_ | refine WQ_then ?_ | refine WQ_then_ret ?_ | refine WQ_then_exit ?_ | refine WQ_block_normal ?_ | refine WQ_block_ret ?_ | refine WQ_block_exit ?_ | refine n9 ?_)
      refine WL_runs rfl rfl rfl (R_rem (c := 0) rfl rfl (by decide) rfl) ?_
      repeat (first | refine n1 ?_ | refine n2 (fun b _ => ?_) | refine n3 (fun _ _ => ?_) | refine n4 ?_ | refine n5 ?_ | refine WL_nil ?_ | refine W_seq ?_ | refine W_region ?_ | refine n7 ?_ | refine n8 ?_ | refine W_block ?_ | refine W_skip ?_ | refine W_ret ?_ | refine W_exit ?_ | refine WQ_then ?_ | refine WQ_then_ret ?_ | refine WQ_then_exit ?_ | refine WQ_block_normal ?_ | refine WQ_block_ret ?_ | refine WQ_block_exit ?_ | refine n9 ?_)
      refine WL_runs rfl rfl rfl (R_rem (c := ((r.toNat % 128 : Nat) : Int)) rfl rfl (by decide) rfl) ?_
      refine WL_runs rfl rfl rfl (R_mul rfl rfl hr) ?_
      repeat (first | refine n1 ?_ | refine n2 (fun b _ => ?_) | refine n3 (fun _ _ => ?_) | refine n4 ?_ | refine n5 ?_ | refine WL_nil ?_ | refine W_seq ?_ | refine W_region ?_ | refine n7 ?_ | refine n8 ?_ | refine W_block ?_ | refine W_skip ?_ | refine W_ret ?_ | refine W_exit ?_ | refine WQ_then ?_ | refine WQ_then_ret ?_ | refine WQ_then_exit ?_ | refine WQ_block_normal ?_ | refine WQ_block_ret ?_ | refine WQ_block_exit ?_ | refine n9 ?_)
      ((apply ret1 Try.results67 ( ())); (focus (first | trivial | assumption | omega)); (focus (first | exact RV_tmp rfl | (apply RV_cellN; exact rfl; (repeat' (first | exact Pick.head _ _ | apply Pick.tail)); (intro _; exact rfl); (intro _; exact rfl); exact rfl) | (apply RV_cell1; exact rfl; (repeat' (first | exact Pick.head _ _ | apply Pick.tail)); (intro _; exact rfl); exact rfl)));  (focus (first | exact rfl | (simp; done))); (focus (repeat (first | exact SubO.nil _ | (apply SubO.cons; (focus (repeat' (first | exact Pick.head _ _ | apply Pick.tail))))))); (focus (repeat (first | exact AllE.nil _ | (apply AllE.cons; (focus (first | exact ent_nilBy | exact ent_nilSl | (apply Ent.mem; repeat' (first | exact mcs | apply mct)))))))))
    · rw [show (false ^^ true) = true from rfl, if_pos rfl] at he
      rw [he]
      refine Ct_intro Try.func67 rfl Try.ntmps67 (by simp) _ rfl (fun w0 O0 => ?_)
      repeat (first | refine n1 ?_ | refine n2 (fun b _ => ?_) | refine n3 (fun _ _ => ?_) | refine n4 ?_ | refine n5 ?_ | refine WL_nil ?_ | refine W_seq ?_ | refine W_region ?_ | refine n7 ?_ | refine n8 ?_ | refine W_block ?_ | refine W_skip ?_ | refine W_ret ?_ | refine W_exit ?_ | refine WQ_then ?_ | refine WQ_then_ret ?_ | refine WQ_then_exit ?_ | refine WQ_block_normal ?_ | refine WQ_block_ret ?_ | refine WQ_block_exit ?_ | refine n9 ?_)
      refine WL_runs rfl rfl rfl (R_quo rfl rfl (by decide) hd) ?_
      repeat (first | refine n1 ?_ | refine n2 (fun b _ => ?_) | refine n3 (fun _ _ => ?_) | refine n4 ?_ | refine n5 ?_ | refine WL_nil ?_ | refine W_seq ?_ | refine W_region ?_ | refine n7 ?_ | refine n8 ?_ | refine W_block ?_ | refine W_skip ?_ | refine W_ret ?_ | refine W_exit ?_ | refine WQ_then ?_ | refine WQ_then_ret ?_ | refine WQ_then_exit ?_ | refine WQ_block_normal ?_ | refine WQ_block_ret ?_ | refine WQ_block_exit ?_ | refine n9 ?_)
      refine WL_runs rfl rfl rfl (R_rem (c := 1) rfl rfl (by decide) rfl) ?_
      repeat (first | refine n1 ?_ | refine n2 (fun b _ => ?_) | refine n3 (fun _ _ => ?_) | refine n4 ?_ | refine n5 ?_ | refine WL_nil ?_ | refine W_seq ?_ | refine W_region ?_ | refine n7 ?_ | refine n8 ?_ | refine W_block ?_ | refine W_skip ?_ | refine W_ret ?_ | refine W_exit ?_ | refine WQ_then ?_ | refine WQ_then_ret ?_ | refine WQ_then_exit ?_ | refine WQ_block_normal ?_ | refine WQ_block_ret ?_ | refine WQ_block_exit ?_ | refine n9 ?_)
      refine WL_runs rfl rfl rfl (R_rem (c := ((r.toNat % 128 : Nat) : Int)) rfl rfl (by decide) rfl) ?_
      refine WL_runs rfl rfl rfl (R_mul rfl rfl hr) ?_
      repeat (first | refine n1 ?_ | refine n2 (fun b _ => ?_) | refine n3 (fun _ _ => ?_) | refine n4 ?_ | refine n5 ?_ | refine WL_nil ?_ | refine W_seq ?_ | refine W_region ?_ | refine n7 ?_ | refine n8 ?_ | refine W_block ?_ | refine W_skip ?_ | refine W_ret ?_ | refine W_exit ?_ | refine WQ_then ?_ | refine WQ_then_ret ?_ | refine WQ_then_exit ?_ | refine WQ_block_normal ?_ | refine WQ_block_ret ?_ | refine WQ_block_exit ?_ | refine n9 ?_)
      refine WL_runs rfl rfl rfl (R_xor (b := ((P8).toNat : Int)) rfl rfl (xorw8 (r <<< 1) P8)) ?_
      repeat (first | refine n1 ?_ | refine n2 (fun b _ => ?_) | refine n3 (fun _ _ => ?_) | refine n4 ?_ | refine n5 ?_ | refine WL_nil ?_ | refine W_seq ?_ | refine W_region ?_ | refine n7 ?_ | refine n8 ?_ | refine W_block ?_ | refine W_skip ?_ | refine W_ret ?_ | refine W_exit ?_ | refine WQ_then ?_ | refine WQ_then_ret ?_ | refine WQ_then_exit ?_ | refine WQ_block_normal ?_ | refine WQ_block_ret ?_ | refine WQ_block_exit ?_ | refine n9 ?_)
      ((apply ret1 Try.results67 ( ())); (focus (first | trivial | assumption | omega)); (focus (first | exact RV_tmp rfl | (apply RV_cellN; exact rfl; (repeat' (first | exact Pick.head _ _ | apply Pick.tail)); (intro _; exact rfl); (intro _; exact rfl); exact rfl) | (apply RV_cell1; exact rfl; (repeat' (first | exact Pick.head _ _ | apply Pick.tail)); (intro _; exact rfl); exact rfl)));  (focus (first | exact rfl | (simp; done))); (focus (repeat (first | exact SubO.nil _ | (apply SubO.cons; (focus (repeat' (first | exact Pick.head _ _ | apply Pick.tail))))))); (focus (repeat (first | exact AllE.nil _ | (apply AllE.cons; (focus (first | exact ent_nilBy | exact ent_nilSl | (apply Ent.mem; repeat' (first | exact mcs | apply mct)))))))))

theorem take_bit (l : List Bool) (k : Nat) (h : k < l.length) : l.take (k + 1) = l.take k ++ [l.getD k false] := by
  rw [List.take_succ_eq_append_getElem h, List.getD_eq_getElem?_getD, List.getElem?_eq_getElem h]
  rfl
theorem map_bit (l : List Bool) (k : Nat) (h : k < l.length) : (l.map bitI)[k]? = some (.int .i64 (if l.getD k false then 1 else 0)) := by
  rw [List.getElem?_map, List.getElem?_eq_getElem h, List.getD_eq_getElem?_getD, List.getElem?_eq_getElem h]
  rfl

set_option maxRecDepth 100000 in
set_option maxHeartbeats 1000000 in
theorem rextend_fn (st : BitVec 32) (dv : Value) (xs : List UInt8) (hx : xs.length ≤ 1000000000) : CtD Try.prog 64 [.int .u32 (st.toNat : Int), dv] [By dv xs] (.int .u32 ((feed P32 st (bitsL xs)).toNat : Int)) := by
  have hn := bitsL_length xs
  have hst := lt32 st
  refine Ct_intro Try.func64 rfl Try.ntmps64 (by simp) _ rfl (fun w0 O0 => ?_)
  repeat (first | refine n1 ?_ | refine n2 (fun b _ => ?_) | refine n3 (fun _ _ => ?_) | refine n4 ?_ | refine n5 ?_ | refine WL_nil ?_ | refine W_seq ?_ | refine W_region ?_ | refine n7 ?_ | refine n8 ?_ | refine W_block ?_ | refine W_skip ?_ | refine W_ret ?_ | refine W_exit ?_ | refine WQ_then ?_ | refine WQ_then_ret ?_ | refine WQ_then_exit ?_ | refine WQ_block_normal ?_ | refine WQ_block_ret ?_ | refine WQ_block_exit ?_ | refine n9 ?_)
  (apply WL_effs; exact rfl; exact rfl; exact rfl; apply E_call; exact rfl; (intro _ _; simp); exact rbits_fn dv xs hx; (repeat (first | exact AllE.nil _ | (apply AllE.cons; (focus (first | exact ent_nilBy | exact ent_nilSl | (apply Ent.mem; repeat' (first | exact mcs | apply mct))))))); (intro _; exact rfl); (intro _; exact rfl))
  intro l _
  generalize bitsL xs = bs at *
  repeat (first | refine n1 ?_ | refine n2 (fun b _ => ?_) | refine n3 (fun _ _ => ?_) | refine n4 ?_ | refine n5 ?_ | refine WL_nil ?_ | refine W_seq ?_ | refine W_region ?_ | refine n7 ?_ | refine n8 ?_ | refine W_block ?_ | refine W_skip ?_ | refine W_ret ?_ | refine W_exit ?_ | refine WQ_then ?_ | refine WQ_then_ret ?_ | refine WQ_then_exit ?_ | refine WQ_block_normal ?_ | refine WQ_block_ret ?_ | refine WQ_block_exit ?_ | refine n9 ?_)
  ((apply W_loopK (X := Nat × BitVec 32) [7, 5] [] (fun y => y.1 ≤ bs.length ∧ y.2 = feed P32 st (bs.take y.1)) (fun y => [(7, .int .i64 (y.1 : Int)), (5, .int .u64 (y.2.toNat : Int))]) (fun _ => []) (fun _ => []) (fun y => bs.length - y.1) ((0, st))); (focus exact ⟨by omega, rfl⟩); exact rfl; exact rfl; (intro _; exact rfl); (intro _; exact rfl); (intro _; exact rfl); (focus (repeat (first | exact FrIn.nil _ | (apply FrIn.cons; exact rfl; (first | exact rfl | (congr 1; first | omega | (dsimp only; omega)) | (simp; done)))))); (focus (repeat (first | exact SubO.nil _ | (apply SubO.cons; (focus (repeat' (first | exact Pick.head _ _ | apply Pick.tail))))))); (focus (repeat (first | exact AllE.nil _ | (apply AllE.cons; (focus (first | exact ent_nilBy | exact ent_nilSl | (apply Ent.mem; repeat' (first | exact mcs | apply mct)))))))); intro x hx)
  obtain ⟨k, s⟩ := x
  obtain ⟨hk, hs⟩ := hx
  replace hk : k ≤ bs.length := hk
  replace hs : s = feed P32 st (bs.take k) := hs
  by_cases h : k < bs.length
  · have hbit := map_bit bs k h
    repeat (first | refine n1 ?_ | refine n2 (fun b _ => ?_) | refine n3 (fun _ _ => ?_) | refine n4 ?_ | refine n5 ?_ | refine n6 (step32_fn s (bs.getD k false)) ?_ | refine n6v (step32_fn s (bs.getD k false)) ?_ | refine WL_nil ?_ | refine W_seq ?_ | refine W_region ?_ | refine n7 ?_ | refine n8 ?_ | refine W_block ?_ | refine W_skip ?_ | refine W_ret ?_ | refine W_exit ?_ | refine WQ_then ?_ | refine WQ_then_ret ?_ | refine WQ_then_exit ?_ | refine WQ_block_normal ?_ | refine WQ_block_ret ?_ | refine WQ_block_exit ?_ | refine n9 ?_)
    ((apply WQ_again ((k + 1, stp P32 s (bs.getD k false)))); (focus exact ⟨h, by rw [take_bit _ _ h, feed_append, ← hs, feed_cons, feed_nil]⟩); (focus (omega)); (focus (repeat (first | exact FrIn.nil _ | (apply FrIn.cons; exact rfl; (first | exact rfl | (congr 1; first | omega | (dsimp only; omega)) | (simp; done)))))); (focus (repeat (first | exact SubO.nil _ | (apply SubO.cons; (focus (repeat' (first | exact Pick.head _ _ | apply Pick.tail))))))); (focus (repeat (first | exact AllE.nil _ | (apply AllE.cons; (focus (first | exact ent_nilBy | exact ent_nilSl | (apply Ent.mem; repeat' (first | exact mcs | apply mct)))))))))
  · obtain rfl : k = bs.length := by omega
    rw [List.take_length] at hs
    subst hs
    have hlt := lt32 (feed P32 st bs)
    repeat (first | refine n1 ?_ | refine n2 (fun b _ => ?_) | refine n3 (fun _ _ => ?_) | refine n4 ?_ | refine n5 ?_ | refine WL_nil ?_ | refine W_seq ?_ | refine W_region ?_ | refine n7 ?_ | refine n8 ?_ | refine W_block ?_ | refine W_skip ?_ | refine W_ret ?_ | refine W_exit ?_ | refine WQ_then ?_ | refine WQ_then_ret ?_ | refine WQ_then_exit ?_ | refine WQ_block_normal ?_ | refine WQ_block_ret ?_ | refine WQ_block_exit ?_ | refine n9 ?_)
    ((apply ret1 Try.results64 ( ())); (focus (first | trivial | assumption | omega)); (focus (first | exact RV_tmp rfl | (apply RV_cellN; exact rfl; (repeat' (first | exact Pick.head _ _ | apply Pick.tail)); (intro _; exact rfl); (intro _; exact rfl); exact rfl) | (apply RV_cell1; exact rfl; (repeat' (first | exact Pick.head _ _ | apply Pick.tail)); (intro _; exact rfl); exact rfl)));  (focus (first | exact rfl | (simp; done))); (focus (repeat (first | exact SubO.nil _ | (apply SubO.cons; (focus (repeat' (first | exact Pick.head _ _ | apply Pick.tail))))))); (focus (repeat (first | exact AllE.nil _ | (apply AllE.cons; (focus (first | exact ent_nilBy | exact ent_nilSl | (apply Ent.mem; repeat' (first | exact mcs | apply mct)))))))))

set_option maxRecDepth 100000 in
theorem rcrc32_fn (dv : Value) (xs : List UInt8) (hx : xs.length ≤ 1000000000) : CtD Try.prog 60 [dv] [By dv xs] (.int .u32 ((crc P32 xs).toNat : Int)) := by
  have h1 : CtD Try.prog 64 [.int .u32 4294967295, dv] [By dv xs] (.int .u32 ((feed P32 (BitVec.allOnes 32) (bitsL xs)).toNat : Int)) := rextend_fn (BitVec.allOnes 32) dv xs hx
  have hlt := lt32 (feed P32 (BitVec.allOnes 32) (bitsL xs))
  refine Ct_intro Try.func60 rfl Try.ntmps60 (by simp) _ rfl (fun w0 O0 => ?_)
  repeat (first | refine n1 ?_ | refine n2 (fun b _ => ?_) | refine n3 (fun _ _ => ?_) | refine n4 ?_ | refine n5 ?_ | refine n6 (h1) ?_ | refine n6v (h1) ?_ | refine WL_nil ?_ | refine W_seq ?_ | refine W_region ?_ | refine n7 ?_ | refine n8 ?_ | refine W_block ?_ | refine W_skip ?_ | refine W_ret ?_ | refine W_exit ?_ | refine WQ_then ?_ | refine WQ_then_ret ?_ | refine WQ_then_exit ?_ | refine WQ_block_normal ?_ | refine WQ_block_ret ?_ | refine WQ_block_exit ?_ | refine n9 ?_)
  rw [show (4294967295 - ((feed P32 (BitVec.allOnes 32) (bitsL xs)).toNat : Int)) = ((crc P32 xs).toNat : Int) by rw [crc, BitVec.toNat_not]; omega]
  ((apply ret1 Try.results60 ( ())); (focus (first | trivial | assumption | omega)); (focus (first | exact RV_tmp rfl | (apply RV_cellN; exact rfl; (repeat' (first | exact Pick.head _ _ | apply Pick.tail)); (intro _; exact rfl); (intro _; exact rfl); exact rfl) | (apply RV_cell1; exact rfl; (repeat' (first | exact Pick.head _ _ | apply Pick.tail)); (intro _; exact rfl); exact rfl)));  (focus (first | exact rfl | (simp; done))); (focus (repeat (first | exact SubO.nil _ | (apply SubO.cons; (focus (repeat' (first | exact Pick.head _ _ | apply Pick.tail))))))); (focus (repeat (first | exact AllE.nil _ | (apply AllE.cons; (focus (first | exact ent_nilBy | exact ent_nilSl | (apply Ent.mem; repeat' (first | exact mcs | apply mct)))))))))
end Go.Proofs.Ytbdcpahifcbcfaa.C03

/-
  The law 'CheckValues' walked.
-/
namespace Go.Proofs.Ytbdcpahifcbcfaa.C03
open Go Go.RowKit Go.Hs
attribute [local irreducible] WL W WQ PL Runs Effs AllE Ent SubO FrIn Pick OneC Ones CellsE PartsE SeqE UZ By Sl Pt Ct

end Go.Proofs.Ytbdcpahifcbcfaa.C03

/-
  Contracts: strings with their check values, the program's.
-/
namespace Go.Proofs.Ytbdcpahifcbcfaa.C03
open Go Go.RowKit Go.Hs
attribute [local irreducible] WL W WQ PL Runs Effs AllE Ent SubO FrIn Pick OneC Ones CellsE PartsE SeqE UZ By Sl Pt Ct

theorem low8 (x : Nat) : IntKind.u8.wrap (x : Int) = (((UInt8.ofNat x).toNat : Nat) : Int) := by
  rw [IntKind.wrap_u8]
  simp
theorem shr16_32 (r : BitVec 32) : (r.toNat : Int).fdiv (2 ^ (min (16 : Int).toNat IntKind.u32.bits)) = ((r.toNat / 65536 : Nat) : Int) := by
  rw [show ((2 : Int) ^ (min (16 : Int).toNat IntKind.u32.bits)) = 65536 from rfl, Int.fdiv_eq_ediv_of_nonneg _ (by decide)]
  omega
theorem shr8_32 (r : BitVec 32) : (r.toNat : Int).fdiv (2 ^ (min (8 : Int).toNat IntKind.u32.bits)) = ((r.toNat / 256 : Nat) : Int) := by
  rw [show ((2 : Int) ^ (min (8 : Int).toNat IntKind.u32.bits)) = 256 from rfl, Int.fdiv_eq_ediv_of_nonneg _ (by decide)]
  omega
theorem byte8 (c : BitVec 8) : (UInt8.ofNat c.toNat).toNat = c.toNat := by
  rw [UInt8.toNat_ofNat', Nat.mod_eq_of_lt c.isLt]
theorem cb8_map (c : BitVec 8) : [Value.int .u8 (c.toNat : Int)] = (cb8 c).map bcell := by
  simp only [cb8, List.map_cons, List.map_nil, bcell, byte8]

set_option maxRecDepth 100000 in
theorem join_fn (v u : Value) (xs ys : List UInt8) (hx : xs.length ≤ 1000000000) (hy : ys.length ≤ 1000000000) : Ct Try.prog 51 [v, u] [] [By v xs, By u ys]
    (X := Value) (fun _ => True) (fun x => x) (fun x => [.row x 5 1 (xs.length + ys.length) ((xs ++ ys).map bcell)]) (fun _ => []) := by
  refine Ct_intro Try.func51 rfl Try.ntmps51 (by simp) _ rfl (fun w0 O0 => ?_)
  repeat (first | refine n1 ?_ | refine n2 (fun b _ => ?_) | refine n3 (fun _ _ => ?_) | refine n4 ?_ | refine n5 ?_ | refine WL_nil ?_ | refine W_seq ?_ | refine W_region ?_ | refine n7 ?_ | refine n8 ?_ | refine W_block ?_ | refine W_skip ?_ | refine W_ret ?_ | refine W_exit ?_ | refine WQ_then ?_ | refine WQ_then_ret ?_ | refine WQ_then_exit ?_ | refine WQ_block_normal ?_ | refine WQ_block_ret ?_ | refine WQ_block_exit ?_ | refine n9 ?_)
  refine WL_effs rfl rfl rfl (E_make (n := 0) (c := xs.length + ys.length) (us := ([] : List UInt8).map bcell) rfl rfl rfl (by omega) (by omega) rfl rfl rfl rfl (Nat.le_of_ble_eq_true rfl) (by omega) (by rw [Nat.zero_mul, List.take_zero]; exact rfl)) ?_
  intro o _
  repeat (first | refine n1 ?_ | refine n2 (fun b _ => ?_) | refine n3 (fun _ _ => ?_) | refine n4 ?_ | refine n5 ?_ | refine WL_nil ?_ | refine W_seq ?_ | refine W_region ?_ | refine n7 ?_ | refine n8 ?_ | refine W_block ?_ | refine W_skip ?_ | refine W_ret ?_ | refine W_exit ?_ | refine WQ_then ?_ | refine WQ_then_ret ?_ | refine WQ_then_exit ?_ | refine WQ_block_normal ?_ | refine WQ_block_ret ?_ | refine WQ_block_exit ?_ | refine n9 ?_)
  (apply WL_effs; exact rfl; exact rfl; exact rfl; (apply E_appendBy; exact rfl; exact rfl; (repeat' (first | exact Pick.head _ _ | apply Pick.tail)); (repeat' (first | exact mcs | apply mct)); (first | exact nil_map | exact one_map _ | exact two_map _ _ | exact rfl); exact rfl; exact rfl; exact rfl; exact rfl; exact rfl; exact Nat.le_of_ble_eq_true rfl; (first | omega | (simp only [List.length_take, List.length_drop, List.length_append, List.length_cons, List.length_nil, List.length_map, List.length_replicate]; omega)); (focus (first | exact Nat.zero_add _ | exact rfl)); (focus ((try (conv => lhs; simp only [Nat.add_sub_cancel_left, Nat.sub_zero, List.drop_zero, List.nil_append])); (first | done | exact rfl)))); skip)
  intro o1 _
  repeat (first | refine n1 ?_ | refine n2 (fun b _ => ?_) | refine n3 (fun _ _ => ?_) | refine n4 ?_ | refine n5 ?_ | refine WL_nil ?_ | refine W_seq ?_ | refine W_region ?_ | refine n7 ?_ | refine n8 ?_ | refine W_block ?_ | refine W_skip ?_ | refine W_ret ?_ | refine W_exit ?_ | refine WQ_then ?_ | refine WQ_then_ret ?_ | refine WQ_then_exit ?_ | refine WQ_block_normal ?_ | refine WQ_block_ret ?_ | refine WQ_block_exit ?_ | refine n9 ?_)
  (apply WL_effs; exact rfl; exact rfl; exact rfl; (apply E_appendBy; exact rfl; exact rfl; (repeat' (first | exact Pick.head _ _ | apply Pick.tail)); (repeat' (first | exact mcs | apply mct)); (first | exact nil_map | exact one_map _ | exact two_map _ _ | exact rfl); exact rfl; exact rfl; exact rfl; exact rfl; exact rfl; exact Nat.le_of_ble_eq_true rfl; (first | omega | (simp only [List.length_take, List.length_drop, List.length_append, List.length_cons, List.length_nil, List.length_map, List.length_replicate]; omega)); (focus (first | exact Nat.zero_add _ | exact rfl)); (focus ((try (conv => lhs; simp only [Nat.add_sub_cancel_left, Nat.sub_zero, List.drop_zero, List.nil_append])); (first | done | exact rfl)))); skip)
  intro o2 _
  repeat (first | refine n1 ?_ | refine n2 (fun b _ => ?_) | refine n3 (fun _ _ => ?_) | refine n4 ?_ | refine n5 ?_ | refine WL_nil ?_ | refine W_seq ?_ | refine W_region ?_ | refine n7 ?_ | refine n8 ?_ | refine W_block ?_ | refine W_skip ?_ | refine W_ret ?_ | refine W_exit ?_ | refine WQ_then ?_ | refine WQ_then_ret ?_ | refine WQ_then_exit ?_ | refine WQ_block_normal ?_ | refine WQ_block_ret ?_ | refine WQ_block_exit ?_ | refine n9 ?_)
  ((apply ret1 Try.results51 ( o2)); (focus (first | trivial | assumption | omega)); (focus (first | exact RV_tmp rfl | (apply RV_cellN; exact rfl; (repeat' (first | exact Pick.head _ _ | apply Pick.tail)); (intro _; exact rfl); (intro _; exact rfl); exact rfl) | (apply RV_cell1; exact rfl; (repeat' (first | exact Pick.head _ _ | apply Pick.tail)); (intro _; exact rfl); exact rfl)));  (focus (first | exact rfl | (simp; done))); (focus (repeat (first | exact SubO.nil _ | (apply SubO.cons; (focus (repeat' (first | exact Pick.head _ _ | apply Pick.tail))))))); (focus (repeat (first | exact AllE.nil _ | (apply AllE.cons; (focus (first | exact ent_nilBy | exact ent_nilSl | (apply Ent.mem; repeat' (first | exact mcs | apply mct)))))))))

theorem cb_length32 (c : BitVec 32) : (cb32 c).length = 4 := rfl
theorem cb_length8 (c : BitVec 8) : (cb8 c).length = 1 := rfl

set_option maxRecDepth 100000 in
theorem append_fn (v : Value) (xs : List UInt8) (hx : xs.length ≤ 999999999) : Ct Try.prog 30 [v] [] [By v xs]
    (X := Value) (fun _ => True) (fun x => x) (fun x => [.row x 5 1 (xs.length + 4) ((xs ++ cb32 (crc P32 xs)).map bcell)]) (fun _ => []) := by
  have hc := crc32_fn v xs (by omega)
  generalize crc P32 xs = c at *
  refine Ct_intro Try.func30 rfl Try.ntmps30 (by simp) _ rfl (fun w0 O0 => ?_)
  repeat (first | refine n1 ?_ | refine n2 (fun b _ => ?_) | refine n3 (fun _ _ => ?_) | refine n4 ?_ | refine n5 ?_ | refine n6 (hc) ?_ | refine n6v (hc) ?_ | refine WL_nil ?_ | refine W_seq ?_ | refine W_region ?_ | refine n7 ?_ | refine n8 ?_ | refine W_block ?_ | refine W_skip ?_ | refine W_ret ?_ | refine W_exit ?_ | refine WQ_then ?_ | refine WQ_then_ret ?_ | refine WQ_then_exit ?_ | refine WQ_block_normal ?_ | refine WQ_block_ret ?_ | refine WQ_block_exit ?_ | refine n9 ?_)
  refine WL_runs rfl rfl rfl (R_shr rfl rfl (by decide) (shr24_32 c)) ?_
  refine WL_runs rfl rfl rfl (R_convi rfl rfl rfl (low8 _)) ?_
  repeat (first | refine n1 ?_ | refine n2 (fun b _ => ?_) | refine n3 (fun _ _ => ?_) | refine n4 ?_ | refine n5 ?_ | refine WL_nil ?_ | refine W_seq ?_ | refine W_region ?_ | refine n7 ?_ | refine n8 ?_ | refine W_block ?_ | refine W_skip ?_ | refine W_ret ?_ | refine W_exit ?_ | refine WQ_then ?_ | refine WQ_then_ret ?_ | refine WQ_then_exit ?_ | refine WQ_block_normal ?_ | refine WQ_block_ret ?_ | refine WQ_block_exit ?_ | refine n9 ?_)
  refine WL_runs rfl rfl rfl (R_shr rfl rfl (by decide) (shr16_32 c)) ?_
  refine WL_runs rfl rfl rfl (R_convi rfl rfl rfl (low8 _)) ?_
  repeat (first | refine n1 ?_ | refine n2 (fun b _ => ?_) | refine n3 (fun _ _ => ?_) | refine n4 ?_ | refine n5 ?_ | refine WL_nil ?_ | refine W_seq ?_ | refine W_region ?_ | refine n7 ?_ | refine n8 ?_ | refine W_block ?_ | refine W_skip ?_ | refine W_ret ?_ | refine W_exit ?_ | refine WQ_then ?_ | refine WQ_then_ret ?_ | refine WQ_then_exit ?_ | refine WQ_block_normal ?_ | refine WQ_block_ret ?_ | refine WQ_block_exit ?_ | refine n9 ?_)
  refine WL_runs rfl rfl rfl (R_shr rfl rfl (by decide) (shr8_32 c)) ?_
  refine WL_runs rfl rfl rfl (R_convi rfl rfl rfl (low8 _)) ?_
  refine n1 ?_
  refine WL_runs rfl rfl rfl (R_convi rfl rfl rfl (low8 _)) ?_
  (apply WL_effs; exact rfl; exact rfl; exact rfl; (apply E_buildSlice; exact rfl; (focus (repeat (first | apply SeqE.nil | (apply SeqE.cons; exact rfl; (focus (first | (apply CellsE.lit; exact rfl) | (apply CellsE.one; (first | (apply OneC.lit; exact rfl) | (apply OneC.by_; (repeat' (first | exact mcs | apply mct)); done) | (apply OneC.sl; (repeat' (first | exact mcs | apply mct)); done) | (apply OneC.rw; (repeat' (first | exact mcs | apply mct)); done) | (apply OneC.row; (repeat' (first | exact Pick.head _ _ | apply Pick.tail))))))); exact rfl) | exact rfl))); exact rfl; (first | (intro _; exact (rfl : _ = Result.ok 1 _)) | (intro _; exact (rfl : _ = Result.ok 2 _)) | (intro _; exact (rfl : _ = Result.ok 3 _)) | (intro _; exact (rfl : _ = Result.ok 4 _)) | (intro _; exact (rfl : _ = Result.ok 5 _)) | (intro _; exact (rfl : _ = Result.ok 6 _)) | (intro _; exact (rfl : _ = Result.ok 7 _)) | (intro _; exact (rfl : _ = Result.ok 8 _)) | (intro _; exact (rfl : _ = Result.ok 9 _)) | (intro _; exact (rfl : _ = Result.ok 13 _)) | (intro _; exact (rfl : _ = Result.ok 14 _)) | (intro _; exact (rfl : _ = Result.ok 26 _)) | (intro _; exact (rfl : _ = Result.ok 40 _)) | (intro _; exact (rfl : _ = Result.ok 41 _)) | (intro _; exact (rfl : _ = Result.ok 42 _)) | (intro _; exact (rfl : _ = Result.ok 43 _)) | (intro _; exact (rfl : _ = Result.ok 44 _)) | (intro _; exact (rfl : _ = Result.ok 45 _)) | (intro _; exact (rfl : _ = Result.ok 46 _))); (intro _; exact rfl); exact rfl; exact Nat.le_of_ble_eq_true rfl; exact Nat.le_of_ble_eq_true rfl); skip)
  intro q _
  refine WL_letgoB (bs := cb32 c) (by repeat' (first | exact Pick.head _ _ | apply Pick.tail)) rfl ?_
  (apply WL_effs; exact rfl; exact rfl; exact rfl; apply E_call; exact rfl; (intro _ _; simp); (exact join_fn v q xs (cb32 c) (by omega) (by rw [cb_length32]; decide)); (repeat (first | exact AllE.nil _ | (apply AllE.cons; (focus (first | exact ent_nilBy | exact ent_nilSl | (apply Ent.mem; repeat' (first | exact mcs | apply mct))))))); (intro _; exact rfl); (intro _; exact rfl))
  intro o _
  repeat (first | refine n1 ?_ | refine n2 (fun b _ => ?_) | refine n3 (fun _ _ => ?_) | refine n4 ?_ | refine n5 ?_ | refine WL_nil ?_ | refine W_seq ?_ | refine W_region ?_ | refine n7 ?_ | refine n8 ?_ | refine W_block ?_ | refine W_skip ?_ | refine W_ret ?_ | refine W_exit ?_ | refine WQ_then ?_ | refine WQ_then_ret ?_ | refine WQ_then_exit ?_ | refine WQ_block_normal ?_ | refine WQ_block_ret ?_ | refine WQ_block_exit ?_ | refine n9 ?_)
  ((apply ret1 Try.results30 ( o)); (focus (first | trivial | assumption | omega)); (focus (first | exact RV_tmp rfl | (apply RV_cellN; exact rfl; (repeat' (first | exact Pick.head _ _ | apply Pick.tail)); (intro _; exact rfl); (intro _; exact rfl); exact rfl) | (apply RV_cell1; exact rfl; (repeat' (first | exact Pick.head _ _ | apply Pick.tail)); (intro _; exact rfl); exact rfl)));  (focus (first | exact rfl | (simp; done))); (focus (repeat (first | exact SubO.nil _ | (apply SubO.cons; (focus (repeat' (first | exact Pick.head _ _ | apply Pick.tail))))))); (focus (repeat (first | exact AllE.nil _ | (apply AllE.cons; (focus (first | exact ent_nilBy | exact ent_nilSl | (apply Ent.mem; repeat' (first | exact mcs | apply mct)))))))))

def vE {w : Nat} (P : BitVec w) (cb : BitVec w → List UInt8) (m : Nat) (xs : List UInt8) : Int :=
  if xs.length < m then 10 else if xs.drop (xs.length - m) = cb (crc P (xs.take (xs.length - m))) then 0 else 31
def vB {w : Nat} (P : BitVec w) (cb : BitVec w → List UInt8) (m : Nat) (xs : List UInt8) : List UInt8 := if vE P cb m xs = 0 then xs.take (xs.length - m) else []

theorem getD4 (ys : List UInt8) (h : ys.length = 4) : ys = [ys.getD 0 0, ys.getD 1 0, ys.getD 2 0, ys.getD 3 0] := by
  match ys, h with
  | [a, b, c, d], _ => rfl
theorem getD1 (ys : List UInt8) (h : ys.length = 1) : ys = [ys.getD 0 0] := by
  match ys, h with
  | [a], _ => rfl
theorem u8_eq {a b : UInt8} (h : ¬ a = b) : ¬ (a.toNat : Int) = (b.toNat : Int) := fun e => h (UInt8.toNat_inj.1 (Int.ofNat.inj e))
theorem dec_eq {p : Prop} [Decidable p] (h : p) : decide p = true := decide_eq_true h

set_option maxRecDepth 100000 in
set_option maxHeartbeats 1000000 in
theorem verify1_fn (v u : Value) (xs ys : List UInt8) (hx : xs.length ≤ 1000000000) (hy : ys.length = 4) : CtD Try.prog 53 [v, u] [By v xs, By u ys] (.bool (decide (ys = cb32 (crc P32 xs)))) := by
  have hc := crc32_fn v xs hx
  generalize crc P32 xs = c at *
  have hb : ∀ i, (ys.getD i 0).toNat ≤ 255 := fun i => u8_nat _
  by_cases h0 : UInt8.ofNat (c.toNat / 16777216) = ys.getD 0 0
  · by_cases h1 : UInt8.ofNat (c.toNat / 65536) = ys.getD 1 0
    · by_cases h2 : UInt8.ofNat (c.toNat / 256) = ys.getD 2 0
      · by_cases h3 : UInt8.ofNat c.toNat = ys.getD 3 0
        · rw [decide_eq_true (show ys = cb32 c by rw [getD4 ys hy, cb32, ← h0, ← h1, ← h2, ← h3])]
          refine Ct_intro Try.func53 rfl Try.ntmps53 (by simp) _ rfl (fun w0 O0 => ?_)
          repeat (first | refine n1 ?_ | refine n2 (fun b _ => ?_) | refine n3 (fun _ _ => ?_) | refine n4 ?_ | refine n5 ?_ | refine n6 (hc) ?_ | refine n6v (hc) ?_ | refine WL_nil ?_ | refine W_seq ?_ | refine W_region ?_ | refine n7 ?_ | refine n8 ?_ | refine W_block ?_ | refine W_skip ?_ | refine W_ret ?_ | refine W_exit ?_ | refine WQ_then ?_ | refine WQ_then_ret ?_ | refine WQ_then_exit ?_ | refine WQ_block_normal ?_ | refine WQ_block_ret ?_ | refine WQ_block_exit ?_ | refine n9 ?_)
          refine WL_runs rfl rfl rfl (R_shr rfl rfl (by decide) (shr24_32 c)) ?_
          refine WL_runs rfl rfl rfl (R_convi rfl rfl rfl (low8 _)) ?_
          rw [h0]
          repeat (first | refine n1 ?_ | refine n2 (fun b _ => ?_) | refine n3 (fun _ _ => ?_) | refine n4 ?_ | refine n5 ?_ | refine WL_nil ?_ | refine W_seq ?_ | refine W_region ?_ | refine n7 ?_ | refine n8 ?_ | refine W_block ?_ | refine W_skip ?_ | refine W_ret ?_ | refine W_exit ?_ | refine WQ_then ?_ | refine WQ_then_ret ?_ | refine WQ_then_exit ?_ | refine WQ_block_normal ?_ | refine WQ_block_ret ?_ | refine WQ_block_exit ?_ | refine n9 ?_)
          refine WL_runs rfl rfl rfl (R_shr rfl rfl (by decide) (shr16_32 c)) ?_
          refine WL_runs rfl rfl rfl (R_convi rfl rfl rfl (low8 _)) ?_
          rw [h1]
          repeat (first | refine n1 ?_ | refine n2 (fun b _ => ?_) | refine n3 (fun _ _ => ?_) | refine n4 ?_ | refine n5 ?_ | refine WL_nil ?_ | refine W_seq ?_ | refine W_region ?_ | refine n7 ?_ | refine n8 ?_ | refine W_block ?_ | refine W_skip ?_ | refine W_ret ?_ | refine W_exit ?_ | refine WQ_then ?_ | refine WQ_then_ret ?_ | refine WQ_then_exit ?_ | refine WQ_block_normal ?_ | refine WQ_block_ret ?_ | refine WQ_block_exit ?_ | refine n9 ?_)
          refine WL_runs rfl rfl rfl (R_shr rfl rfl (by decide) (shr8_32 c)) ?_
          refine WL_runs rfl rfl rfl (R_convi rfl rfl rfl (low8 _)) ?_
          rw [h2]
          iterate 7 (first | refine n1 ?_ | refine n4 ?_)
          refine WL_runs rfl rfl rfl (R_convi rfl rfl rfl (low8 _)) ?_
          rw [h3]
          repeat (first | refine n1 ?_ | refine n2 (fun b _ => ?_) | refine n3 (fun _ _ => ?_) | refine n4 ?_ | refine n5 ?_ | refine WL_nil ?_ | refine W_seq ?_ | refine W_region ?_ | refine n7 ?_ | refine n8 ?_ | refine W_block ?_ | refine W_skip ?_ | refine W_ret ?_ | refine W_exit ?_ | refine WQ_then ?_ | refine WQ_then_ret ?_ | refine WQ_then_exit ?_ | refine WQ_block_normal ?_ | refine WQ_block_ret ?_ | refine WQ_block_exit ?_ | refine n9 ?_)
          ((apply ret1 Try.results53 ( ())); (focus (first | trivial | assumption | omega)); (focus (first | exact RV_tmp rfl | (apply RV_cellN; exact rfl; (repeat' (first | exact Pick.head _ _ | apply Pick.tail)); (intro _; exact rfl); (intro _; exact rfl); exact rfl) | (apply RV_cell1; exact rfl; (repeat' (first | exact Pick.head _ _ | apply Pick.tail)); (intro _; exact rfl); exact rfl)));  (focus (first | exact rfl | (simp; done))); (focus (repeat (first | exact SubO.nil _ | (apply SubO.cons; (focus (repeat' (first | exact Pick.head _ _ | apply Pick.tail))))))); (focus (repeat (first | exact AllE.nil _ | (apply AllE.cons; (focus (first | exact ent_nilBy | exact ent_nilSl | (apply Ent.mem; repeat' (first | exact mcs | apply mct)))))))))
        · rw [decide_eq_false (show ¬ ys = cb32 c from fun e => h3 (by rw [e]; rfl))]
          have h3' := u8_eq h3
          refine Ct_intro Try.func53 rfl Try.ntmps53 (by simp) _ rfl (fun w0 O0 => ?_)
          repeat (first | refine n1 ?_ | refine n2 (fun b _ => ?_) | refine n3 (fun _ _ => ?_) | refine n4 ?_ | refine n5 ?_ | refine n6 (hc) ?_ | refine n6v (hc) ?_ | refine WL_nil ?_ | refine W_seq ?_ | refine W_region ?_ | refine n7 ?_ | refine n8 ?_ | refine W_block ?_ | refine W_skip ?_ | refine W_ret ?_ | refine W_exit ?_ | refine WQ_then ?_ | refine WQ_then_ret ?_ | refine WQ_then_exit ?_ | refine WQ_block_normal ?_ | refine WQ_block_ret ?_ | refine WQ_block_exit ?_ | refine n9 ?_)
          refine WL_runs rfl rfl rfl (R_shr rfl rfl (by decide) (shr24_32 c)) ?_
          refine WL_runs rfl rfl rfl (R_convi rfl rfl rfl (low8 _)) ?_
          rw [h0]
          repeat (first | refine n1 ?_ | refine n2 (fun b _ => ?_) | refine n3 (fun _ _ => ?_) | refine n4 ?_ | refine n5 ?_ | refine WL_nil ?_ | refine W_seq ?_ | refine W_region ?_ | refine n7 ?_ | refine n8 ?_ | refine W_block ?_ | refine W_skip ?_ | refine W_ret ?_ | refine W_exit ?_ | refine WQ_then ?_ | refine WQ_then_ret ?_ | refine WQ_then_exit ?_ | refine WQ_block_normal ?_ | refine WQ_block_ret ?_ | refine WQ_block_exit ?_ | refine n9 ?_)
          refine WL_runs rfl rfl rfl (R_shr rfl rfl (by decide) (shr16_32 c)) ?_
          refine WL_runs rfl rfl rfl (R_convi rfl rfl rfl (low8 _)) ?_
          rw [h1]
          repeat (first | refine n1 ?_ | refine n2 (fun b _ => ?_) | refine n3 (fun _ _ => ?_) | refine n4 ?_ | refine n5 ?_ | refine WL_nil ?_ | refine W_seq ?_ | refine W_region ?_ | refine n7 ?_ | refine n8 ?_ | refine W_block ?_ | refine W_skip ?_ | refine W_ret ?_ | refine W_exit ?_ | refine WQ_then ?_ | refine WQ_then_ret ?_ | refine WQ_then_exit ?_ | refine WQ_block_normal ?_ | refine WQ_block_ret ?_ | refine WQ_block_exit ?_ | refine n9 ?_)
          refine WL_runs rfl rfl rfl (R_shr rfl rfl (by decide) (shr8_32 c)) ?_
          refine WL_runs rfl rfl rfl (R_convi rfl rfl rfl (low8 _)) ?_
          rw [h2]
          iterate 7 (first | refine n1 ?_ | refine n4 ?_)
          refine WL_runs rfl rfl rfl (R_convi rfl rfl rfl (low8 _)) ?_
          repeat (first | refine n1 ?_ | refine n2 (fun b _ => ?_) | refine n3 (fun _ _ => ?_) | refine n4 ?_ | refine n5 ?_ | refine WL_nil ?_ | refine W_seq ?_ | refine W_region ?_ | refine n7 ?_ | refine n8 ?_ | refine W_block ?_ | refine W_skip ?_ | refine W_ret ?_ | refine W_exit ?_ | refine WQ_then ?_ | refine WQ_then_ret ?_ | refine WQ_then_exit ?_ | refine WQ_block_normal ?_ | refine WQ_block_ret ?_ | refine WQ_block_exit ?_ | refine n9 ?_)
          ((apply ret1 Try.results53 ( ())); (focus (first | trivial | assumption | omega)); (focus (first | exact RV_tmp rfl | (apply RV_cellN; exact rfl; (repeat' (first | exact Pick.head _ _ | apply Pick.tail)); (intro _; exact rfl); (intro _; exact rfl); exact rfl) | (apply RV_cell1; exact rfl; (repeat' (first | exact Pick.head _ _ | apply Pick.tail)); (intro _; exact rfl); exact rfl)));  (focus (first | exact rfl | (simp; done))); (focus (repeat (first | exact SubO.nil _ | (apply SubO.cons; (focus (repeat' (first | exact Pick.head _ _ | apply Pick.tail))))))); (focus (repeat (first | exact AllE.nil _ | (apply AllE.cons; (focus (first | exact ent_nilBy | exact ent_nilSl | (apply Ent.mem; repeat' (first | exact mcs | apply mct)))))))))
      · rw [decide_eq_false (show ¬ ys = cb32 c from fun e => h2 (by rw [e]; rfl))]
        have h2' := u8_eq h2
        refine Ct_intro Try.func53 rfl Try.ntmps53 (by simp) _ rfl (fun w0 O0 => ?_)
        repeat (first | refine n1 ?_ | refine n2 (fun b _ => ?_) | refine n3 (fun _ _ => ?_) | refine n4 ?_ | refine n5 ?_ | refine n6 (hc) ?_ | refine n6v (hc) ?_ | refine WL_nil ?_ | refine W_seq ?_ | refine W_region ?_ | refine n7 ?_ | refine n8 ?_ | refine W_block ?_ | refine W_skip ?_ | refine W_ret ?_ | refine W_exit ?_ | refine WQ_then ?_ | refine WQ_then_ret ?_ | refine WQ_then_exit ?_ | refine WQ_block_normal ?_ | refine WQ_block_ret ?_ | refine WQ_block_exit ?_ | refine n9 ?_)
        refine WL_runs rfl rfl rfl (R_shr rfl rfl (by decide) (shr24_32 c)) ?_
        refine WL_runs rfl rfl rfl (R_convi rfl rfl rfl (low8 _)) ?_
        rw [h0]
        repeat (first | refine n1 ?_ | refine n2 (fun b _ => ?_) | refine n3 (fun _ _ => ?_) | refine n4 ?_ | refine n5 ?_ | refine WL_nil ?_ | refine W_seq ?_ | refine W_region ?_ | refine n7 ?_ | refine n8 ?_ | refine W_block ?_ | refine W_skip ?_ | refine W_ret ?_ | refine W_exit ?_ | refine WQ_then ?_ | refine WQ_then_ret ?_ | refine WQ_then_exit ?_ | refine WQ_block_normal ?_ | refine WQ_block_ret ?_ | refine WQ_block_exit ?_ | refine n9 ?_)
        refine WL_runs rfl rfl rfl (R_shr rfl rfl (by decide) (shr16_32 c)) ?_
        refine WL_runs rfl rfl rfl (R_convi rfl rfl rfl (low8 _)) ?_
        rw [h1]
        repeat (first | refine n1 ?_ | refine n2 (fun b _ => ?_) | refine n3 (fun _ _ => ?_) | refine n4 ?_ | refine n5 ?_ | refine WL_nil ?_ | refine W_seq ?_ | refine W_region ?_ | refine n7 ?_ | refine n8 ?_ | refine W_block ?_ | refine W_skip ?_ | refine W_ret ?_ | refine W_exit ?_ | refine WQ_then ?_ | refine WQ_then_ret ?_ | refine WQ_then_exit ?_ | refine WQ_block_normal ?_ | refine WQ_block_ret ?_ | refine WQ_block_exit ?_ | refine n9 ?_)
        refine WL_runs rfl rfl rfl (R_shr rfl rfl (by decide) (shr8_32 c)) ?_
        refine WL_runs rfl rfl rfl (R_convi rfl rfl rfl (low8 _)) ?_
        repeat (first | refine n1 ?_ | refine n2 (fun b _ => ?_) | refine n3 (fun _ _ => ?_) | refine n4 ?_ | refine n5 ?_ | refine WL_nil ?_ | refine W_seq ?_ | refine W_region ?_ | refine n7 ?_ | refine n8 ?_ | refine W_block ?_ | refine W_skip ?_ | refine W_ret ?_ | refine W_exit ?_ | refine WQ_then ?_ | refine WQ_then_ret ?_ | refine WQ_then_exit ?_ | refine WQ_block_normal ?_ | refine WQ_block_ret ?_ | refine WQ_block_exit ?_ | refine n9 ?_)
        ((apply ret1 Try.results53 ( ())); (focus (first | trivial | assumption | omega)); (focus (first | exact RV_tmp rfl | (apply RV_cellN; exact rfl; (repeat' (first | exact Pick.head _ _ | apply Pick.tail)); (intro _; exact rfl); (intro _; exact rfl); exact rfl) | (apply RV_cell1; exact rfl; (repeat' (first | exact Pick.head _ _ | apply Pick.tail)); (intro _; exact rfl); exact rfl)));  (focus (first | exact rfl | (simp; done))); (focus (repeat (first | exact SubO.nil _ | (apply SubO.cons; (focus (repeat' (first | exact Pick.head _ _ | apply Pick.tail))))))); (focus (repeat (first | exact AllE.nil _ | (apply AllE.cons; (focus (first | exact ent_nilBy | exact ent_nilSl | (apply Ent.mem; repeat' (first | exact mcs | apply mct)))))))))
    · rw [decide_eq_false (show ¬ ys = cb32 c from fun e => h1 (by rw [e]; rfl))]
      have h1' := u8_eq h1
      refine Ct_intro Try.func53 rfl Try.ntmps53 (by simp) _ rfl (fun w0 O0 => ?_)
      repeat (first | refine n1 ?_ | refine n2 (fun b _ => ?_) | refine n3 (fun _ _ => ?_) | refine n4 ?_ | refine n5 ?_ | refine n6 (hc) ?_ | refine n6v (hc) ?_ | refine WL_nil ?_ | refine W_seq ?_ | refine W_region ?_ | refine n7 ?_ | refine n8 ?_ | refine W_block ?_ | refine W_skip ?_ | refine W_ret ?_ | refine W_exit ?_ | refine WQ_then ?_ | refine WQ_then_ret ?_ | refine WQ_then_exit ?_ | refine WQ_block_normal ?_ | refine WQ_block_ret ?_ | refine WQ_block_exit ?_ | refine n9 ?_)
      refine WL_runs rfl rfl rfl (R_shr rfl rfl (by decide) (shr24_32 c)) ?_
      refine WL_runs rfl rfl rfl (R_convi rfl rfl rfl (low8 _)) ?_
      rw [h0]
      repeat (first | refine n1 ?_ | refine n2 (fun b _ => ?_) | refine n3 (fun _ _ => ?_) | refine n4 ?_ | refine n5 ?_ | refine WL_nil ?_ | refine W_seq ?_ | refine W_region ?_ | refine n7 ?_ | refine n8 ?_ | refine W_block ?_ | refine W_skip ?_ | refine W_ret ?_ | refine W_exit ?_ | refine WQ_then ?_ | refine WQ_then_ret ?_ | refine WQ_then_exit ?_ | refine WQ_block_normal ?_ | refine WQ_block_ret ?_ | refine WQ_block_exit ?_ | refine n9 ?_)
      refine WL_runs rfl rfl rfl (R_shr rfl rfl (by decide) (shr16_32 c)) ?_
      refine WL_runs rfl rfl rfl (R_convi rfl rfl rfl (low8 _)) ?_
      repeat (first | refine n1 ?_ | refine n2 (fun b _ => ?_) | refine n3 (fun _ _ => ?_) | refine n4 ?_ | refine n5 ?_ | refine WL_nil ?_ | refine W_seq ?_ | refine W_region ?_ | refine n7 ?_ | refine n8 ?_ | refine W_block ?_ | refine W_skip ?_ | refine W_ret ?_ | refine W_exit ?_ | refine WQ_then ?_ | refine WQ_then_ret ?_ | refine WQ_then_exit ?_ | refine WQ_block_normal ?_ | refine WQ_block_ret ?_ | refine WQ_block_exit ?_ | refine n9 ?_)
      ((apply ret1 Try.results53 ( ())); (focus (first | trivial | assumption | omega)); (focus (first | exact RV_tmp rfl | (apply RV_cellN; exact rfl; (repeat' (first | exact Pick.head _ _ | apply Pick.tail)); (intro _; exact rfl); (intro _; exact rfl); exact rfl) | (apply RV_cell1; exact rfl; (repeat' (first | exact Pick.head _ _ | apply Pick.tail)); (intro _; exact rfl); exact rfl)));  (focus (first | exact rfl | (simp; done))); (focus (repeat (first | exact SubO.nil _ | (apply SubO.cons; (focus (repeat' (first | exact Pick.head _ _ | apply Pick.tail))))))); (focus (repeat (first | exact AllE.nil _ | (apply AllE.cons; (focus (first | exact ent_nilBy | exact ent_nilSl | (apply Ent.mem; repeat' (first | exact mcs | apply mct)))))))))
  · rw [decide_eq_false (show ¬ ys = cb32 c from fun e => h0 (by rw [e]; rfl))]
    have h0' := u8_eq h0
    refine Ct_intro Try.func53 rfl Try.ntmps53 (by simp) _ rfl (fun w0 O0 => ?_)
    repeat (first | refine n1 ?_ | refine n2 (fun b _ => ?_) | refine n3 (fun _ _ => ?_) | refine n4 ?_ | refine n5 ?_ | refine n6 (hc) ?_ | refine n6v (hc) ?_ | refine WL_nil ?_ | refine W_seq ?_ | refine W_region ?_ | refine n7 ?_ | refine n8 ?_ | refine W_block ?_ | refine W_skip ?_ | refine W_ret ?_ | refine W_exit ?_ | refine WQ_then ?_ | refine WQ_then_ret ?_ | refine WQ_then_exit ?_ | refine WQ_block_normal ?_ | refine WQ_block_ret ?_ | refine WQ_block_exit ?_ | refine n9 ?_)
    refine WL_runs rfl rfl rfl (R_shr rfl rfl (by decide) (shr24_32 c)) ?_
    refine WL_runs rfl rfl rfl (R_convi rfl rfl rfl (low8 _)) ?_
    repeat (first | refine n1 ?_ | refine n2 (fun b _ => ?_) | refine n3 (fun _ _ => ?_) | refine n4 ?_ | refine n5 ?_ | refine WL_nil ?_ | refine W_seq ?_ | refine W_region ?_ | refine n7 ?_ | refine n8 ?_ | refine W_block ?_ | refine W_skip ?_ | refine W_ret ?_ | refine W_exit ?_ | refine WQ_then ?_ | refine WQ_then_ret ?_ | refine WQ_then_exit ?_ | refine WQ_block_normal ?_ | refine WQ_block_ret ?_ | refine WQ_block_exit ?_ | refine n9 ?_)
    ((apply ret1 Try.results53 ( ())); (focus (first | trivial | assumption | omega)); (focus (first | exact RV_tmp rfl | (apply RV_cellN; exact rfl; (repeat' (first | exact Pick.head _ _ | apply Pick.tail)); (intro _; exact rfl); (intro _; exact rfl); exact rfl) | (apply RV_cell1; exact rfl; (repeat' (first | exact Pick.head _ _ | apply Pick.tail)); (intro _; exact rfl); exact rfl)));  (focus (first | exact rfl | (simp; done))); (focus (repeat (first | exact SubO.nil _ | (apply SubO.cons; (focus (repeat' (first | exact Pick.head _ _ | apply Pick.tail))))))); (focus (repeat (first | exact AllE.nil _ | (apply AllE.cons; (focus (first | exact ent_nilBy | exact ent_nilSl | (apply Ent.mem; repeat' (first | exact mcs | apply mct)))))))))

set_option maxRecDepth 100000 in
set_option maxHeartbeats 1000000 in
theorem front4 (dv : Value) (xs : List UInt8) (hx : xs.length ≤ 1000000000) : Ct Try.prog 52 [dv, .int .i64 4, .func (.func 53) #[] #[]] [] [By dv xs]
    (X := Value) (fun _ => True) (fun x => .tuple #[x, .int .i64 (vE P32 cb32 4 xs)]) (fun x => [.row x 5 1 (vB P32 cb32 4 xs).length ((vB P32 cb32 4 xs).map bcell)]) (fun _ => []) := by
  by_cases h1 : xs.length < 4
  · have e : vE P32 cb32 4 xs = 10 := if_pos h1
    rw [vB, e, if_neg (by decide)]
    refine Ct_intro Try.func52 rfl Try.ntmps52 (by simp) _ rfl (fun w0 O0 => ?_)
    repeat (first | refine n1 ?_ | refine n2 (fun b _ => ?_) | refine n3 (fun _ _ => ?_) | refine n4 ?_ | refine n5 ?_ | refine WL_nil ?_ | refine W_seq ?_ | refine W_region ?_ | refine n7 ?_ | refine n8 ?_ | refine W_block ?_ | refine W_skip ?_ | refine W_ret ?_ | refine W_exit ?_ | refine WQ_then ?_ | refine WQ_then_ret ?_ | refine WQ_then_exit ?_ | refine WQ_block_normal ?_ | refine WQ_block_ret ?_ | refine WQ_block_exit ?_ | refine n9 ?_)
    apply WQ_nilRow 5 1
    ((apply ret2 Try.results52 ( Value.slice none 0 0)); (focus (first | trivial | assumption | omega)); (focus (first | exact RV_tmp rfl | (apply RV_cellN; exact rfl; (repeat' (first | exact Pick.head _ _ | apply Pick.tail)); (intro _; exact rfl); (intro _; exact rfl); exact rfl) | (apply RV_cell1; exact rfl; (repeat' (first | exact Pick.head _ _ | apply Pick.tail)); (intro _; exact rfl); exact rfl))); (focus (first | exact RV_tmp rfl | (apply RV_cellN; exact rfl; (repeat' (first | exact Pick.head _ _ | apply Pick.tail)); (intro _; exact rfl); (intro _; exact rfl); exact rfl) | (apply RV_cell1; exact rfl; (repeat' (first | exact Pick.head _ _ | apply Pick.tail)); (intro _; exact rfl); exact rfl)));  (focus (first | exact rfl | (simp; done))); (focus (repeat (first | exact SubO.nil _ | (apply SubO.cons; (focus (repeat' (first | exact Pick.head _ _ | apply Pick.tail))))))); (focus (repeat (first | exact AllE.nil _ | (apply AllE.cons; (focus (first | exact ent_nilBy | exact ent_nilSl | (apply Ent.mem; repeat' (first | exact mcs | apply mct)))))))))
  · have hg := fun v u => verify1_fn v u (xs.take (xs.length - 4)) (xs.drop (xs.length - 4)) (by rw [List.length_take]; omega) (by rw [List.length_drop]; omega)
    by_cases h2 : xs.drop (xs.length - 4) = cb32 (crc P32 (xs.take (xs.length - 4)))
    · have e : vE P32 cb32 4 xs = 0 := by rw [vE, if_neg h1, if_pos h2]
      rw [vB, e, if_pos rfl]
      simp only [decide_eq_true h2] at hg
      refine Ct_intro Try.func52 rfl Try.ntmps52 (by simp) _ rfl (fun w0 O0 => ?_)
      repeat (first | refine n1 ?_ | refine n2 (fun b _ => ?_) | refine n3 (fun _ _ => ?_) | refine n4 ?_ | refine n5 ?_ | refine WL_nil ?_ | refine W_seq ?_ | refine W_region ?_ | refine n7 ?_ | refine n8 ?_ | refine W_block ?_ | refine W_skip ?_ | refine W_ret ?_ | refine W_exit ?_ | refine WQ_then ?_ | refine WQ_then_ret ?_ | refine WQ_then_exit ?_ | refine WQ_block_normal ?_ | refine WQ_block_ret ?_ | refine WQ_block_exit ?_ | refine n9 ?_)
      rw [show ((xs.length : Int) - 4) = ((xs.length - 4 : Nat) : Int) by omega]
      (refine W_regionP' [7] [] [0, 1, 2, 3, 4, 5, 6, 7, 8] [] (by kernel_rfl) (by kernel_rfl) (by repeat (first | exact UZ.nil _ _ | (apply UZ.cons; exact rfl; (intro _; exact rfl)))) (by exact rfl) (by (repeat (first | exact SubO.nil _ | (apply SubO.cons; (focus (repeat' (first | exact Pick.head _ _ | apply Pick.tail))))))) ?_)
      repeat (first | refine p1 ?_ | refine p2 (fun b _ => ?_) | refine p3 (fun _ _ => ?_) | refine p4 ?_ | refine p5 ?_ | refine p7 (fun b => ?_) | refine PL_nil ?_)
      rw [show List.take (xs.length - (xs.length - 4)) (xs.drop (xs.length - 4)) = xs.drop (xs.length - 4) from List.take_of_length_le (by rw [List.length_drop]; omega)]
      (apply PL_effs; exact rfl; exact rfl; exact rfl; exact rfl; exact rfl; (apply E_callG (first := #[]) (captured := #[]) (Γp := [])); exact rfl; exact rfl; exact rfl; (intro _ _; simp); exact hg _ _; exact .refl _; (repeat (first | exact AllE.nil _ | (apply AllE.cons; (focus (first | exact ent_nilBy | exact ent_nilSl | (apply Ent.mem; repeat' (first | exact mcs | apply mct))))))); (intro _; exact rfl); (intro _; exact rfl); (intro _; (repeat (first | exact SubO.nil _ | (apply SubO.cons; (focus (repeat' (first | exact Pick.head _ _ | apply Pick.tail))))))))
      intro _ _
      repeat (first | refine p1 ?_ | refine p2 (fun b _ => ?_) | refine p3 (fun _ _ => ?_) | refine p4 ?_ | refine p5 ?_ | refine p7 (fun b => ?_) | refine PL_nil ?_)
      repeat (first | refine n1 ?_ | refine n2 (fun b _ => ?_) | refine n3 (fun _ _ => ?_) | refine n4 ?_ | refine n5 ?_ | refine WL_nil ?_ | refine W_seq ?_ | refine W_region ?_ | refine n7 ?_ | refine n8 ?_ | refine W_block ?_ | refine W_skip ?_ | refine W_ret ?_ | refine W_exit ?_ | refine WQ_then ?_ | refine WQ_then_ret ?_ | refine WQ_then_exit ?_ | refine WQ_block_normal ?_ | refine WQ_block_ret ?_ | refine WQ_block_exit ?_ | refine n9 ?_)
      have hj := join_fn (cutV 1 0 (xs.length - 4) dv) (.slice none 0 0) (xs.take (xs.length - 4)) [] (by rw [List.length_take]; omega) (by simp)
      rw [List.append_nil, List.length_nil, Nat.add_zero] at hj
      (apply WL_effs; exact rfl; exact rfl; exact rfl; apply E_call; exact rfl; (intro _ _; simp); exact hj; (repeat (first | exact AllE.nil _ | (apply AllE.cons; (focus (first | exact ent_nilBy | exact ent_nilSl | (apply Ent.mem; repeat' (first | exact mcs | apply mct))))))); (intro _; exact rfl); (intro _; exact rfl))
      intro o _
      repeat (first | refine n1 ?_ | refine n2 (fun b _ => ?_) | refine n3 (fun _ _ => ?_) | refine n4 ?_ | refine n5 ?_ | refine WL_nil ?_ | refine W_seq ?_ | refine W_region ?_ | refine n7 ?_ | refine n8 ?_ | refine W_block ?_ | refine W_skip ?_ | refine W_ret ?_ | refine W_exit ?_ | refine WQ_then ?_ | refine WQ_then_ret ?_ | refine WQ_then_exit ?_ | refine WQ_block_normal ?_ | refine WQ_block_ret ?_ | refine WQ_block_exit ?_ | refine n9 ?_)
      ((apply ret2 Try.results52 ( o)); (focus (first | trivial | assumption | omega)); (focus (first | exact RV_tmp rfl | (apply RV_cellN; exact rfl; (repeat' (first | exact Pick.head _ _ | apply Pick.tail)); (intro _; exact rfl); (intro _; exact rfl); exact rfl) | (apply RV_cell1; exact rfl; (repeat' (first | exact Pick.head _ _ | apply Pick.tail)); (intro _; exact rfl); exact rfl))); (focus (first | exact RV_tmp rfl | (apply RV_cellN; exact rfl; (repeat' (first | exact Pick.head _ _ | apply Pick.tail)); (intro _; exact rfl); (intro _; exact rfl); exact rfl) | (apply RV_cell1; exact rfl; (repeat' (first | exact Pick.head _ _ | apply Pick.tail)); (intro _; exact rfl); exact rfl)));  (focus (first | exact rfl | (simp; done))); (focus (repeat (first | exact SubO.nil _ | (apply SubO.cons; (focus (repeat' (first | exact Pick.head _ _ | apply Pick.tail))))))); (focus (repeat (first | exact AllE.nil _ | (apply AllE.cons; (focus (first | exact ent_nilBy | exact ent_nilSl | (apply Ent.mem; repeat' (first | exact mcs | apply mct)))))))))
    · have e : vE P32 cb32 4 xs = 31 := by rw [vE, if_neg h1, if_neg h2]
      rw [vB, e, if_neg (by decide)]
      simp only [decide_eq_false h2] at hg
      refine Ct_intro Try.func52 rfl Try.ntmps52 (by simp) _ rfl (fun w0 O0 => ?_)
      repeat (first | refine n1 ?_ | refine n2 (fun b _ => ?_) | refine n3 (fun _ _ => ?_) | refine n4 ?_ | refine n5 ?_ | refine WL_nil ?_ | refine W_seq ?_ | refine W_region ?_ | refine n7 ?_ | refine n8 ?_ | refine W_block ?_ | refine W_skip ?_ | refine W_ret ?_ | refine W_exit ?_ | refine WQ_then ?_ | refine WQ_then_ret ?_ | refine WQ_then_exit ?_ | refine WQ_block_normal ?_ | refine WQ_block_ret ?_ | refine WQ_block_exit ?_ | refine n9 ?_)
      rw [show ((xs.length : Int) - 4) = ((xs.length - 4 : Nat) : Int) by omega]
      (refine W_regionP' [7] [] [0, 1, 2, 3, 4, 5, 6, 7, 8] [] (by kernel_rfl) (by kernel_rfl) (by repeat (first | exact UZ.nil _ _ | (apply UZ.cons; exact rfl; (intro _; exact rfl)))) (by exact rfl) (by (repeat (first | exact SubO.nil _ | (apply SubO.cons; (focus (repeat' (first | exact Pick.head _ _ | apply Pick.tail))))))) ?_)
      repeat (first | refine p1 ?_ | refine p2 (fun b _ => ?_) | refine p3 (fun _ _ => ?_) | refine p4 ?_ | refine p5 ?_ | refine p7 (fun b => ?_) | refine PL_nil ?_)
      rw [show List.take (xs.length - (xs.length - 4)) (xs.drop (xs.length - 4)) = xs.drop (xs.length - 4) from List.take_of_length_le (by rw [List.length_drop]; omega)]
      (apply PL_effs; exact rfl; exact rfl; exact rfl; exact rfl; exact rfl; (apply E_callG (first := #[]) (captured := #[]) (Γp := [])); exact rfl; exact rfl; exact rfl; (intro _ _; simp); exact hg _ _; exact .refl _; (repeat (first | exact AllE.nil _ | (apply AllE.cons; (focus (first | exact ent_nilBy | exact ent_nilSl | (apply Ent.mem; repeat' (first | exact mcs | apply mct))))))); (intro _; exact rfl); (intro _; exact rfl); (intro _; (repeat (first | exact SubO.nil _ | (apply SubO.cons; (focus (repeat' (first | exact Pick.head _ _ | apply Pick.tail))))))))
      intro _ _
      repeat (first | refine p1 ?_ | refine p2 (fun b _ => ?_) | refine p3 (fun _ _ => ?_) | refine p4 ?_ | refine p5 ?_ | refine p7 (fun b => ?_) | refine PL_nil ?_)
      repeat (first | refine n1 ?_ | refine n2 (fun b _ => ?_) | refine n3 (fun _ _ => ?_) | refine n4 ?_ | refine n5 ?_ | refine WL_nil ?_ | refine W_seq ?_ | refine W_region ?_ | refine n7 ?_ | refine n8 ?_ | refine W_block ?_ | refine W_skip ?_ | refine W_ret ?_ | refine W_exit ?_ | refine WQ_then ?_ | refine WQ_then_ret ?_ | refine WQ_then_exit ?_ | refine WQ_block_normal ?_ | refine WQ_block_ret ?_ | refine WQ_block_exit ?_ | refine n9 ?_)
      apply WQ_nilRow 5 1
      ((apply ret2 Try.results52 ( Value.slice none 0 0)); (focus (first | trivial | assumption | omega)); (focus (first | exact RV_tmp rfl | (apply RV_cellN; exact rfl; (repeat' (first | exact Pick.head _ _ | apply Pick.tail)); (intro _; exact rfl); (intro _; exact rfl); exact rfl) | (apply RV_cell1; exact rfl; (repeat' (first | exact Pick.head _ _ | apply Pick.tail)); (intro _; exact rfl); exact rfl))); (focus (first | exact RV_tmp rfl | (apply RV_cellN; exact rfl; (repeat' (first | exact Pick.head _ _ | apply Pick.tail)); (intro _; exact rfl); (intro _; exact rfl); exact rfl) | (apply RV_cell1; exact rfl; (repeat' (first | exact Pick.head _ _ | apply Pick.tail)); (intro _; exact rfl); exact rfl)));  (focus (first | exact rfl | (simp; done))); (focus (repeat (first | exact SubO.nil _ | (apply SubO.cons; (focus (repeat' (first | exact Pick.head _ _ | apply Pick.tail))))))); (focus (repeat (first | exact AllE.nil _ | (apply AllE.cons; (focus (first | exact ent_nilBy | exact ent_nilSl | (apply Ent.mem; repeat' (first | exact mcs | apply mct)))))))))

set_option maxRecDepth 100000 in
theorem verify_fn (dv : Value) (xs : List UInt8) (hx : xs.length ≤ 1000000000) : Ct Try.prog 31 [dv] [] [By dv xs]
    (X := Value) (fun _ => True) (fun x => .tuple #[x, .int .i64 (vE P32 cb32 4 xs)]) (fun x => [.row x 5 1 (vB P32 cb32 4 xs).length ((vB P32 cb32 4 xs).map bcell)]) (fun _ => []) := by
  refine Ct_intro Try.func31 rfl Try.ntmps31 (by simp) _ rfl (fun w0 O0 => ?_)
  repeat (first | refine n1 ?_ | refine n2 (fun b _ => ?_) | refine n3 (fun _ _ => ?_) | refine n4 ?_ | refine n5 ?_ | refine WL_nil ?_ | refine W_seq ?_ | refine W_region ?_ | refine n7 ?_ | refine n8 ?_ | refine W_block ?_ | refine W_skip ?_ | refine W_ret ?_ | refine W_exit ?_ | refine WQ_then ?_ | refine WQ_then_ret ?_ | refine WQ_then_exit ?_ | refine WQ_block_normal ?_ | refine WQ_block_ret ?_ | refine WQ_block_exit ?_ | refine n9 ?_)
  (apply WL_effs; exact rfl; exact rfl; exact rfl; apply E_call; exact rfl; (intro _ _; simp); exact front4 dv xs hx; (repeat (first | exact AllE.nil _ | (apply AllE.cons; (focus (first | exact ent_nilBy | exact ent_nilSl | (apply Ent.mem; repeat' (first | exact mcs | apply mct))))))); (intro _; exact rfl); (intro _; exact rfl))
  intro o _
  repeat (first | refine n1 ?_ | refine n2 (fun b _ => ?_) | refine n3 (fun _ _ => ?_) | refine n4 ?_ | refine n5 ?_ | refine WL_nil ?_ | refine W_seq ?_ | refine W_region ?_ | refine n7 ?_ | refine n8 ?_ | refine W_block ?_ | refine W_skip ?_ | refine W_ret ?_ | refine W_exit ?_ | refine WQ_then ?_ | refine WQ_then_ret ?_ | refine WQ_then_exit ?_ | refine WQ_block_normal ?_ | refine WQ_block_ret ?_ | refine WQ_block_exit ?_ | refine n9 ?_)
  ((apply ret2 Try.results31 ( o)); (focus (first | trivial | assumption | omega)); (focus (first | exact RV_tmp rfl | (apply RV_cellN; exact rfl; (repeat' (first | exact Pick.head _ _ | apply Pick.tail)); (intro _; exact rfl); (intro _; exact rfl); exact rfl) | (apply RV_cell1; exact rfl; (repeat' (first | exact Pick.head _ _ | apply Pick.tail)); (intro _; exact rfl); exact rfl))); (focus (first | exact RV_tmp rfl | (apply RV_cellN; exact rfl; (repeat' (first | exact Pick.head _ _ | apply Pick.tail)); (intro _; exact rfl); (intro _; exact rfl); exact rfl) | (apply RV_cell1; exact rfl; (repeat' (first | exact Pick.head _ _ | apply Pick.tail)); (intro _; exact rfl); exact rfl)));  (focus (first | exact rfl | (simp; done))); (focus (repeat (first | exact SubO.nil _ | (apply SubO.cons; (focus (repeat' (first | exact Pick.head _ _ | apply Pick.tail))))))); (focus (repeat (first | exact AllE.nil _ | (apply AllE.cons; (focus (first | exact ent_nilBy | exact ent_nilSl | (apply Ent.mem; repeat' (first | exact mcs | apply mct)))))))))
end Go.Proofs.Ytbdcpahifcbcfaa.C03

/-
  Contracts: strings with their check values, the reference's; the chapter's examples.
-/
namespace Go.Proofs.Ytbdcpahifcbcfaa.C03
open Go Go.RowKit Go.Hs
attribute [local irreducible] WL W WQ PL Runs Effs AllE Ent SubO FrIn Pick OneC Ones CellsE PartsE SeqE UZ By Sl Pt Ct

theorem quo32 (c : BitVec 32) (n : Nat) (hn : 1 ≤ n) : IntKind.u32.wrap ((c.toNat : Int).tdiv (n : Int)) = ((c.toNat / n : Nat) : Int) := by
  rw [show ((c.toNat : Int).tdiv (n : Int)) = ((c.toNat / n : Nat) : Int) from rfl]
  have h1 := lt32 c
  have h2 := Nat.div_le_self c.toNat n
  exact wx_u32 ⟨Int.natCast_nonneg _, Int.le_trans (Int.ofNat_le.2 h2) (by omega)⟩
theorem low8m (x : Nat) : IntKind.u8.wrap ((x % 256 : Nat) : Int) = (((UInt8.ofNat x).toNat : Nat) : Int) := by
  rw [IntKind.wrap_u8]
  simp

set_option maxRecDepth 100000 in
theorem rappend_fn (v : Value) (xs : List UInt8) (hx : xs.length ≤ 999999999) : Ct Try.prog 46 [v] [] [By v xs]
    (X := Value) (fun _ => True) (fun x => x) (fun _ => []) (fun x => [By x (xs ++ cb32 (crc P32 xs))]) := by
  have hc := rcrc32_fn v xs (by omega)
  generalize crc P32 xs = c at *
  have hcl := cb_length32 c
  refine Ct_intro Try.func46 rfl Try.ntmps46 (by simp) _ rfl (fun w0 O0 => ?_)
  repeat (first | refine n1 ?_ | refine n2 (fun b _ => ?_) | refine n3 (fun _ _ => ?_) | refine n4 ?_ | refine n5 ?_ | refine n6 (hc) ?_ | refine n6v (hc) ?_ | refine WL_nil ?_ | refine W_seq ?_ | refine W_region ?_ | refine n7 ?_ | refine n8 ?_ | refine W_block ?_ | refine W_skip ?_ | refine W_ret ?_ | refine W_exit ?_ | refine WQ_then ?_ | refine WQ_then_ret ?_ | refine WQ_then_exit ?_ | refine WQ_block_normal ?_ | refine WQ_block_ret ?_ | refine WQ_block_exit ?_ | refine n9 ?_)
  (apply WL_effs; exact rfl; exact rfl; exact rfl; (apply E_buildSlice; exact rfl; (focus (repeat (first | apply SeqE.nil | (apply SeqE.cons; exact rfl; (focus (first | (apply CellsE.lit; exact rfl) | (apply CellsE.one; (first | (apply OneC.lit; exact rfl) | (apply OneC.by_; (repeat' (first | exact mcs | apply mct)); done) | (apply OneC.sl; (repeat' (first | exact mcs | apply mct)); done) | (apply OneC.rw; (repeat' (first | exact mcs | apply mct)); done) | (apply OneC.row; (repeat' (first | exact Pick.head _ _ | apply Pick.tail))))))); exact rfl) | exact rfl))); exact rfl; (first | (intro _; exact (rfl : _ = Result.ok 1 _)) | (intro _; exact (rfl : _ = Result.ok 2 _)) | (intro _; exact (rfl : _ = Result.ok 3 _)) | (intro _; exact (rfl : _ = Result.ok 4 _)) | (intro _; exact (rfl : _ = Result.ok 5 _)) | (intro _; exact (rfl : _ = Result.ok 6 _)) | (intro _; exact (rfl : _ = Result.ok 7 _)) | (intro _; exact (rfl : _ = Result.ok 8 _)) | (intro _; exact (rfl : _ = Result.ok 9 _)) | (intro _; exact (rfl : _ = Result.ok 13 _)) | (intro _; exact (rfl : _ = Result.ok 14 _)) | (intro _; exact (rfl : _ = Result.ok 26 _)) | (intro _; exact (rfl : _ = Result.ok 40 _)) | (intro _; exact (rfl : _ = Result.ok 41 _)) | (intro _; exact (rfl : _ = Result.ok 42 _)) | (intro _; exact (rfl : _ = Result.ok 43 _)) | (intro _; exact (rfl : _ = Result.ok 44 _)) | (intro _; exact (rfl : _ = Result.ok 45 _)) | (intro _; exact (rfl : _ = Result.ok 46 _))); (intro _; exact rfl); exact rfl; exact Nat.le_of_ble_eq_true rfl; exact Nat.le_of_ble_eq_true rfl); skip)
  intro o _
  repeat (first | refine n1 ?_ | refine n2 (fun b _ => ?_) | refine n3 (fun _ _ => ?_) | refine n4 ?_ | refine n5 ?_ | refine WL_nil ?_ | refine W_seq ?_ | refine W_region ?_ | refine n7 ?_ | refine n8 ?_ | refine W_block ?_ | refine W_skip ?_ | refine W_ret ?_ | refine W_exit ?_ | refine WQ_then ?_ | refine WQ_then_ret ?_ | refine WQ_then_exit ?_ | refine WQ_block_normal ?_ | refine WQ_block_ret ?_ | refine WQ_block_exit ?_ | refine n9 ?_)
  (apply WL_effs; exact rfl; exact rfl; exact rfl; (apply E_appendBy; exact rfl; exact rfl; (repeat' (first | exact Pick.head _ _ | apply Pick.tail)); (repeat' (first | exact mcs | apply mct)); (first | exact nil_map | exact one_map _ | exact two_map _ _ | exact rfl); exact rfl; exact rfl; exact rfl; exact rfl; exact rfl; exact Nat.le_of_ble_eq_true rfl; (first | omega | (simp only [List.length_take, List.length_drop, List.length_append, List.length_cons, List.length_nil, List.length_map, List.length_replicate]; omega)); (focus (first | exact Nat.zero_add _ | exact rfl)); (focus ((try (conv => lhs; simp only [Nat.add_sub_cancel_left, Nat.sub_zero, List.drop_zero, List.nil_append])); (first | done | exact rfl)))); skip)
  intro o1 _
  repeat (first | refine n1 ?_ | refine n2 (fun b _ => ?_) | refine n3 (fun _ _ => ?_) | refine n4 ?_ | refine n5 ?_ | refine WL_nil ?_ | refine W_seq ?_ | refine W_region ?_ | refine n7 ?_ | refine n8 ?_ | refine W_block ?_ | refine W_skip ?_ | refine W_ret ?_ | refine W_exit ?_ | refine WQ_then ?_ | refine WQ_then_ret ?_ | refine WQ_then_exit ?_ | refine WQ_block_normal ?_ | refine WQ_block_ret ?_ | refine WQ_block_exit ?_ | refine n9 ?_)
  refine WL_runs rfl rfl rfl (R_quo rfl rfl (by decide) (quo32 c 16777216 (by decide))) ?_
  refine WL_runs rfl rfl rfl (R_convi rfl rfl rfl (wx_b8 _)) ?_
  repeat (first | refine n1 ?_ | refine n2 (fun b _ => ?_) | refine n3 (fun _ _ => ?_) | refine n4 ?_ | refine n5 ?_ | refine WL_nil ?_ | refine W_seq ?_ | refine W_region ?_ | refine n7 ?_ | refine n8 ?_ | refine W_block ?_ | refine W_skip ?_ | refine W_ret ?_ | refine W_exit ?_ | refine WQ_then ?_ | refine WQ_then_ret ?_ | refine WQ_then_exit ?_ | refine WQ_block_normal ?_ | refine WQ_block_ret ?_ | refine WQ_block_exit ?_ | refine n9 ?_)
  refine WL_runs rfl rfl rfl (R_quo rfl rfl (by decide) (quo32 c 65536 (by decide))) ?_
  refine WL_runs rfl rfl rfl (R_rem rfl rfl (by decide) (show (((c.toNat / 65536 : Nat) : Int).tmod 256) = ((c.toNat / 65536 % 256 : Nat) : Int) from rfl)) ?_
  refine WL_runs rfl rfl rfl (R_convi rfl rfl rfl (low8m _)) ?_
  repeat (first | refine n1 ?_ | refine n2 (fun b _ => ?_) | refine n3 (fun _ _ => ?_) | refine n4 ?_ | refine n5 ?_ | refine WL_nil ?_ | refine W_seq ?_ | refine W_region ?_ | refine n7 ?_ | refine n8 ?_ | refine W_block ?_ | refine W_skip ?_ | refine W_ret ?_ | refine W_exit ?_ | refine WQ_then ?_ | refine WQ_then_ret ?_ | refine WQ_then_exit ?_ | refine WQ_block_normal ?_ | refine WQ_block_ret ?_ | refine WQ_block_exit ?_ | refine n9 ?_)
  refine WL_runs rfl rfl rfl (R_quo rfl rfl (by decide) (quo32 c 256 (by decide))) ?_
  refine WL_runs rfl rfl rfl (R_rem rfl rfl (by decide) (show (((c.toNat / 256 : Nat) : Int).tmod 256) = ((c.toNat / 256 % 256 : Nat) : Int) from rfl)) ?_
  refine WL_runs rfl rfl rfl (R_convi rfl rfl rfl (low8m _)) ?_
  repeat (first | refine n1 ?_ | refine n2 (fun b _ => ?_) | refine n3 (fun _ _ => ?_) | refine n4 ?_ | refine n5 ?_ | refine WL_nil ?_ | refine W_seq ?_ | refine W_region ?_ | refine n7 ?_ | refine n8 ?_ | refine W_block ?_ | refine W_skip ?_ | refine W_ret ?_ | refine W_exit ?_ | refine WQ_then ?_ | refine WQ_then_ret ?_ | refine WQ_then_exit ?_ | refine WQ_block_normal ?_ | refine WQ_block_ret ?_ | refine WQ_block_exit ?_ | refine n9 ?_)
  refine WL_runs rfl rfl rfl (R_rem rfl rfl (by decide) (show ((c.toNat : Int).tmod 256) = ((c.toNat % 256 : Nat) : Int) from rfl)) ?_
  refine WL_runs rfl rfl rfl (R_convi rfl rfl rfl (low8m _)) ?_
  (apply WL_effs; exact rfl; exact rfl; exact rfl; (apply E_buildSlice; exact rfl; (focus (repeat (first | apply SeqE.nil | (apply SeqE.cons; exact rfl; (focus (first | (apply CellsE.lit; exact rfl) | (apply CellsE.one; (first | (apply OneC.lit; exact rfl) | (apply OneC.by_; (repeat' (first | exact mcs | apply mct)); done) | (apply OneC.sl; (repeat' (first | exact mcs | apply mct)); done) | (apply OneC.rw; (repeat' (first | exact mcs | apply mct)); done) | (apply OneC.row; (repeat' (first | exact Pick.head _ _ | apply Pick.tail))))))); exact rfl) | exact rfl))); exact rfl; (first | (intro _; exact (rfl : _ = Result.ok 1 _)) | (intro _; exact (rfl : _ = Result.ok 2 _)) | (intro _; exact (rfl : _ = Result.ok 3 _)) | (intro _; exact (rfl : _ = Result.ok 4 _)) | (intro _; exact (rfl : _ = Result.ok 5 _)) | (intro _; exact (rfl : _ = Result.ok 6 _)) | (intro _; exact (rfl : _ = Result.ok 7 _)) | (intro _; exact (rfl : _ = Result.ok 8 _)) | (intro _; exact (rfl : _ = Result.ok 9 _)) | (intro _; exact (rfl : _ = Result.ok 13 _)) | (intro _; exact (rfl : _ = Result.ok 14 _)) | (intro _; exact (rfl : _ = Result.ok 26 _)) | (intro _; exact (rfl : _ = Result.ok 40 _)) | (intro _; exact (rfl : _ = Result.ok 41 _)) | (intro _; exact (rfl : _ = Result.ok 42 _)) | (intro _; exact (rfl : _ = Result.ok 43 _)) | (intro _; exact (rfl : _ = Result.ok 44 _)) | (intro _; exact (rfl : _ = Result.ok 45 _)) | (intro _; exact (rfl : _ = Result.ok 46 _))); (intro _; exact rfl); exact rfl; exact Nat.le_of_ble_eq_true rfl; exact Nat.le_of_ble_eq_true rfl); skip)
  intro q _
  refine WL_letgoB (bs := cb32 c) (by repeat' (first | exact Pick.head _ _ | apply Pick.tail)) rfl ?_
  repeat (first | refine n1 ?_ | refine n2 (fun b _ => ?_) | refine n3 (fun _ _ => ?_) | refine n4 ?_ | refine n5 ?_ | refine WL_nil ?_ | refine W_seq ?_ | refine W_region ?_ | refine n7 ?_ | refine n8 ?_ | refine W_block ?_ | refine W_skip ?_ | refine W_ret ?_ | refine W_exit ?_ | refine WQ_then ?_ | refine WQ_then_ret ?_ | refine WQ_then_exit ?_ | refine WQ_block_normal ?_ | refine WQ_block_ret ?_ | refine WQ_block_exit ?_ | refine n9 ?_)
  (apply WL_effs; exact rfl; exact rfl; exact rfl; (apply E_appendBy; exact rfl; exact rfl; (repeat' (first | exact Pick.head _ _ | apply Pick.tail)); (repeat' (first | exact mcs | apply mct)); (first | exact nil_map | exact one_map _ | exact two_map _ _ | exact rfl); exact rfl; exact rfl; exact rfl; exact rfl; exact rfl; exact Nat.le_of_ble_eq_true rfl; (first | omega | (simp only [List.length_take, List.length_drop, List.length_append, List.length_cons, List.length_nil, List.length_map, List.length_replicate]; omega)); (focus (first | exact Nat.zero_add _ | exact rfl)); (focus ((try (conv => lhs; simp only [Nat.add_sub_cancel_left, Nat.sub_zero, List.drop_zero, List.nil_append])); (first | done | exact rfl)))); skip)
  intro o2 _
  repeat (first | refine n1 ?_ | refine n2 (fun b _ => ?_) | refine n3 (fun _ _ => ?_) | refine n4 ?_ | refine n5 ?_ | refine WL_nil ?_ | refine W_seq ?_ | refine W_region ?_ | refine n7 ?_ | refine n8 ?_ | refine W_block ?_ | refine W_skip ?_ | refine W_ret ?_ | refine W_exit ?_ | refine WQ_then ?_ | refine WQ_then_ret ?_ | refine WQ_then_exit ?_ | refine WQ_block_normal ?_ | refine WQ_block_ret ?_ | refine WQ_block_exit ?_ | refine n9 ?_)
  refine WQ_letgoB (bs := xs ++ cb32 c) (by repeat' (first | exact Pick.head _ _ | apply Pick.tail)) rfl ?_
  ((apply ret1 Try.results46 ( o2)); (focus (first | trivial | assumption | omega)); (focus (first | exact RV_tmp rfl | (apply RV_cellN; exact rfl; (repeat' (first | exact Pick.head _ _ | apply Pick.tail)); (intro _; exact rfl); (intro _; exact rfl); exact rfl) | (apply RV_cell1; exact rfl; (repeat' (first | exact Pick.head _ _ | apply Pick.tail)); (intro _; exact rfl); exact rfl)));  (focus (first | exact rfl | (simp; done))); (focus (repeat (first | exact SubO.nil _ | (apply SubO.cons; (focus (repeat' (first | exact Pick.head _ _ | apply Pick.tail))))))); (focus (repeat (first | exact AllE.nil _ | (apply AllE.cons; (focus (first | exact ent_nilBy | exact ent_nilSl | (apply Ent.mem; repeat' (first | exact mcs | apply mct)))))))))

theorem front_iff (xs c : List UInt8) (m : Nat) (h : m ≤ xs.length) : (xs.take (xs.length - m) ++ c = xs) ↔ xs.drop (xs.length - m) = c := by
  constructor
  · intro e
    have h1 : (xs.take (xs.length - m) ++ c).drop (xs.length - m) = xs.drop (xs.length - m) := by rw [e]
    rw [List.drop_left' (by rw [List.length_take]; omega)] at h1
    exact h1.symm
  · intro e
    rw [← e, List.take_append_drop]

set_option maxRecDepth 100000 in
set_option maxHeartbeats 1000000 in
theorem rverify_fn (dv : Value) (xs : List UInt8) (hx : xs.length ≤ 999999999) : Ct Try.prog 37 [dv] [] [By dv xs]
    (X := Value) (fun _ => True) (fun x => .tuple #[x, .int .i64 (vE P32 cb32 4 xs)]) (fun _ => []) (fun x => [By x (vB P32 cb32 4 xs)]) := by
  by_cases h1 : xs.length < 4
  · have e : vE P32 cb32 4 xs = 10 := if_pos h1
    rw [vB, e, if_neg (by decide)]
    refine Ct_intro Try.func37 rfl Try.ntmps37 (by simp) _ rfl (fun w0 O0 => ?_)
    repeat (first | refine n1 ?_ | refine n2 (fun b _ => ?_) | refine n3 (fun _ _ => ?_) | refine n4 ?_ | refine n5 ?_ | refine WL_nil ?_ | refine W_seq ?_ | refine W_region ?_ | refine n7 ?_ | refine n8 ?_ | refine W_block ?_ | refine W_skip ?_ | refine W_ret ?_ | refine W_exit ?_ | refine WQ_then ?_ | refine WQ_then_ret ?_ | refine WQ_then_exit ?_ | refine WQ_block_normal ?_ | refine WQ_block_ret ?_ | refine WQ_block_exit ?_ | refine n9 ?_)
    ((apply ret2 Try.results37 ( Value.slice none 0 0)); (focus (first | trivial | assumption | omega)); (focus (first | exact RV_tmp rfl | (apply RV_cellN; exact rfl; (repeat' (first | exact Pick.head _ _ | apply Pick.tail)); (intro _; exact rfl); (intro _; exact rfl); exact rfl) | (apply RV_cell1; exact rfl; (repeat' (first | exact Pick.head _ _ | apply Pick.tail)); (intro _; exact rfl); exact rfl))); (focus (first | exact RV_tmp rfl | (apply RV_cellN; exact rfl; (repeat' (first | exact Pick.head _ _ | apply Pick.tail)); (intro _; exact rfl); (intro _; exact rfl); exact rfl) | (apply RV_cell1; exact rfl; (repeat' (first | exact Pick.head _ _ | apply Pick.tail)); (intro _; exact rfl); exact rfl)));  (focus (first | exact rfl | (simp; done))); (focus (repeat (first | exact SubO.nil _ | (apply SubO.cons; (focus (repeat' (first | exact Pick.head _ _ | apply Pick.tail))))))); (focus (repeat (first | exact AllE.nil _ | (apply AllE.cons; (focus (first | exact ent_nilBy | exact ent_nilSl | (apply Ent.mem; repeat' (first | exact mcs | apply mct)))))))))
  · have hf := front_iff xs (cb32 (crc P32 (xs.take (xs.length - 4)))) 4 (by omega)
    have hl : (xs.take (xs.length - 4)).length = xs.length - 4 := by rw [List.length_take]; omega
    by_cases h2 : xs.drop (xs.length - 4) = cb32 (crc P32 (xs.take (xs.length - 4)))
    · have e : vE P32 cb32 4 xs = 0 := by rw [vE, if_neg h1, if_pos h2]
      rw [vB, e, if_pos rfl]
      have hd := hf.2 h2
      refine Ct_intro Try.func37 rfl Try.ntmps37 (by simp) _ rfl (fun w0 O0 => ?_)
      repeat (first | refine n1 ?_ | refine n2 (fun b _ => ?_) | refine n3 (fun _ _ => ?_) | refine n4 ?_ | refine n5 ?_ | refine WL_nil ?_ | refine W_seq ?_ | refine W_region ?_ | refine n7 ?_ | refine n8 ?_ | refine W_block ?_ | refine W_skip ?_ | refine W_ret ?_ | refine W_exit ?_ | refine WQ_then ?_ | refine WQ_then_ret ?_ | refine WQ_then_exit ?_ | refine WQ_block_normal ?_ | refine WQ_block_ret ?_ | refine WQ_block_exit ?_ | refine n9 ?_)
      (apply WL_effs; exact rfl; exact rfl; exact rfl; (apply E_buildSlice; exact rfl; (focus (repeat (first | apply SeqE.nil | (apply SeqE.cons; exact rfl; (focus (first | (apply CellsE.lit; exact rfl) | (apply CellsE.one; (first | (apply OneC.lit; exact rfl) | (apply OneC.by_; (repeat' (first | exact mcs | apply mct)); done) | (apply OneC.sl; (repeat' (first | exact mcs | apply mct)); done) | (apply OneC.rw; (repeat' (first | exact mcs | apply mct)); done) | (apply OneC.row; (repeat' (first | exact Pick.head _ _ | apply Pick.tail))))))); exact rfl) | exact rfl))); exact rfl; (first | (intro _; exact (rfl : _ = Result.ok 1 _)) | (intro _; exact (rfl : _ = Result.ok 2 _)) | (intro _; exact (rfl : _ = Result.ok 3 _)) | (intro _; exact (rfl : _ = Result.ok 4 _)) | (intro _; exact (rfl : _ = Result.ok 5 _)) | (intro _; exact (rfl : _ = Result.ok 6 _)) | (intro _; exact (rfl : _ = Result.ok 7 _)) | (intro _; exact (rfl : _ = Result.ok 8 _)) | (intro _; exact (rfl : _ = Result.ok 9 _)) | (intro _; exact (rfl : _ = Result.ok 13 _)) | (intro _; exact (rfl : _ = Result.ok 14 _)) | (intro _; exact (rfl : _ = Result.ok 26 _)) | (intro _; exact (rfl : _ = Result.ok 40 _)) | (intro _; exact (rfl : _ = Result.ok 41 _)) | (intro _; exact (rfl : _ = Result.ok 42 _)) | (intro _; exact (rfl : _ = Result.ok 43 _)) | (intro _; exact (rfl : _ = Result.ok 44 _)) | (intro _; exact (rfl : _ = Result.ok 45 _)) | (intro _; exact (rfl : _ = Result.ok 46 _))); (intro _; exact rfl); exact rfl; exact Nat.le_of_ble_eq_true rfl; exact Nat.le_of_ble_eq_true rfl); skip)
      intro o _
      repeat (first | refine n1 ?_ | refine n2 (fun b _ => ?_) | refine n3 (fun _ _ => ?_) | refine n4 ?_ | refine n5 ?_ | refine WL_nil ?_ | refine W_seq ?_ | refine W_region ?_ | refine n7 ?_ | refine n8 ?_ | refine W_block ?_ | refine W_skip ?_ | refine W_ret ?_ | refine W_exit ?_ | refine WQ_then ?_ | refine WQ_then_ret ?_ | refine WQ_then_exit ?_ | refine WQ_block_normal ?_ | refine WQ_block_ret ?_ | refine WQ_block_exit ?_ | refine n9 ?_)
      rw [show ((xs.length : Int) - 4) = ((xs.length - 4 : Nat) : Int) by omega]
      repeat (first | refine n1 ?_ | refine n2 (fun b _ => ?_) | refine n3 (fun _ _ => ?_) | refine n4 ?_ | refine n5 ?_ | refine WL_nil ?_ | refine W_seq ?_ | refine W_region ?_ | refine n7 ?_ | refine n8 ?_ | refine W_block ?_ | refine W_skip ?_ | refine W_ret ?_ | refine W_exit ?_ | refine WQ_then ?_ | refine WQ_then_ret ?_ | refine WQ_then_exit ?_ | refine WQ_block_normal ?_ | refine WQ_block_ret ?_ | refine WQ_block_exit ?_ | refine n9 ?_)
      (apply WL_effs; exact rfl; exact rfl; exact rfl; (apply E_appendBy; exact rfl; exact rfl; (repeat' (first | exact Pick.head _ _ | apply Pick.tail)); (repeat' (first | exact mcs | apply mct)); (first | exact nil_map | exact one_map _ | exact two_map _ _ | exact rfl); exact rfl; exact rfl; exact rfl; exact rfl; exact rfl; exact Nat.le_of_ble_eq_true rfl; (first | omega | (simp only [List.length_take, List.length_drop, List.length_append, List.length_cons, List.length_nil, List.length_map, List.length_replicate]; omega)); (focus (first | exact Nat.zero_add _ | exact rfl)); (focus ((try (conv => lhs; simp only [Nat.add_sub_cancel_left, Nat.sub_zero, List.drop_zero, List.nil_append])); (first | done | exact rfl)))); skip)
      intro o1 _
      repeat (first | refine n1 ?_ | refine n2 (fun b _ => ?_) | refine n3 (fun _ _ => ?_) | refine n4 ?_ | refine n5 ?_ | refine WL_nil ?_ | refine W_seq ?_ | refine W_region ?_ | refine n7 ?_ | refine n8 ?_ | refine W_block ?_ | refine W_skip ?_ | refine W_ret ?_ | refine W_exit ?_ | refine WQ_then ?_ | refine WQ_then_ret ?_ | refine WQ_then_exit ?_ | refine WQ_block_normal ?_ | refine WQ_block_ret ?_ | refine WQ_block_exit ?_ | refine n9 ?_)
      refine W_letgoB (bs := xs.take (xs.length - 4)) (by repeat' (first | exact Pick.head _ _ | apply Pick.tail)) rfl ?_
      (refine W_regionP' [1] [] [0, 3, 4, 1, 2, 5] [] (by kernel_rfl) (by kernel_rfl) (by repeat (first | exact UZ.nil _ _ | (apply UZ.cons; exact rfl; (intro _; exact rfl)))) (by exact rfl) (by (repeat (first | exact SubO.nil _ | (apply SubO.cons; (focus (repeat' (first | exact Pick.head _ _ | apply Pick.tail))))))) ?_)
      repeat (first | refine p1 ?_ | refine p2 (fun b _ => ?_) | refine p3 (fun _ _ => ?_) | refine p4 ?_ | refine p5 ?_ | refine p7 (fun b => ?_) | refine PL_nil ?_)
      (apply PL_effs; exact rfl; exact rfl; exact rfl; exact rfl; exact rfl; apply E_call; exact rfl; (intro _ _; simp); (exact rappend_fn o1 (xs.take (xs.length - 4)) (by omega)); (repeat (first | exact AllE.nil _ | (apply AllE.cons; (focus (first | exact ent_nilBy | exact ent_nilSl | (apply Ent.mem; repeat' (first | exact mcs | apply mct))))))); (intro _; exact rfl); (intro _; exact rfl); (intro _; (repeat (first | exact SubO.nil _ | (apply SubO.cons; (focus (repeat' (first | exact Pick.head _ _ | apply Pick.tail))))))))
      intro o2 _
      rw [hd]
      repeat (first | refine p1 ?_ | refine p2 (fun b _ => ?_) | refine p3 (fun _ _ => ?_) | refine p4 ?_ | refine p5 ?_ | refine p7 (fun b => ?_) | refine PL_nil ?_)
      repeat (first | refine n1 ?_ | refine n2 (fun b _ => ?_) | refine n3 (fun _ _ => ?_) | refine n4 ?_ | refine n5 ?_ | refine WL_nil ?_ | refine W_seq ?_ | refine W_region ?_ | refine n7 ?_ | refine n8 ?_ | refine W_block ?_ | refine W_skip ?_ | refine W_ret ?_ | refine W_exit ?_ | refine WQ_then ?_ | refine WQ_then_ret ?_ | refine WQ_then_exit ?_ | refine WQ_block_normal ?_ | refine WQ_block_ret ?_ | refine WQ_block_exit ?_ | refine n9 ?_)
      ((apply ret2 Try.results37 ( o1)); (focus (first | trivial | assumption | omega)); (focus (first | exact RV_tmp rfl | (apply RV_cellN; exact rfl; (repeat' (first | exact Pick.head _ _ | apply Pick.tail)); (intro _; exact rfl); (intro _; exact rfl); exact rfl) | (apply RV_cell1; exact rfl; (repeat' (first | exact Pick.head _ _ | apply Pick.tail)); (intro _; exact rfl); exact rfl))); (focus (first | exact RV_tmp rfl | (apply RV_cellN; exact rfl; (repeat' (first | exact Pick.head _ _ | apply Pick.tail)); (intro _; exact rfl); (intro _; exact rfl); exact rfl) | (apply RV_cell1; exact rfl; (repeat' (first | exact Pick.head _ _ | apply Pick.tail)); (intro _; exact rfl); exact rfl)));  (focus (first | exact rfl | (simp; done))); (focus (repeat (first | exact SubO.nil _ | (apply SubO.cons; (focus (repeat' (first | exact Pick.head _ _ | apply Pick.tail))))))); (focus (repeat (first | exact AllE.nil _ | (apply AllE.cons; (focus (first | exact ent_nilBy | exact ent_nilSl | (apply Ent.mem; repeat' (first | exact mcs | apply mct)))))))))
    · have e : vE P32 cb32 4 xs = 31 := by rw [vE, if_neg h1, if_neg h2]
      rw [vB, e, if_neg (by decide)]
      have hd := fun h => h2 (hf.1 h)
      refine Ct_intro Try.func37 rfl Try.ntmps37 (by simp) _ rfl (fun w0 O0 => ?_)
      repeat (first | refine n1 ?_ | refine n2 (fun b _ => ?_) | refine n3 (fun _ _ => ?_) | refine n4 ?_ | refine n5 ?_ | refine WL_nil ?_ | refine W_seq ?_ | refine W_region ?_ | refine n7 ?_ | refine n8 ?_ | refine W_block ?_ | refine W_skip ?_ | refine W_ret ?_ | refine W_exit ?_ | refine WQ_then ?_ | refine WQ_then_ret ?_ | refine WQ_then_exit ?_ | refine WQ_block_normal ?_ | refine WQ_block_ret ?_ | refine WQ_block_exit ?_ | refine n9 ?_)
      (apply WL_effs; exact rfl; exact rfl; exact rfl; (apply E_buildSlice; exact rfl; (focus (repeat (first | apply SeqE.nil | (apply SeqE.cons; exact rfl; (focus (first | (apply CellsE.lit; exact rfl) | (apply CellsE.one; (first | (apply OneC.lit; exact rfl) | (apply OneC.by_; (repeat' (first | exact mcs | apply mct)); done) | (apply OneC.sl; (repeat' (first | exact mcs | apply mct)); done) | (apply OneC.rw; (repeat' (first | exact mcs | apply mct)); done) | (apply OneC.row; (repeat' (first | exact Pick.head _ _ | apply Pick.tail))))))); exact rfl) | exact rfl))); exact rfl; (first | (intro _; exact (rfl : _ = Result.ok 1 _)) | (intro _; exact (rfl : _ = Result.ok 2 _)) | (intro _; exact (rfl : _ = Result.ok 3 _)) | (intro _; exact (rfl : _ = Result.ok 4 _)) | (intro _; exact (rfl : _ = Result.ok 5 _)) | (intro _; exact (rfl : _ = Result.ok 6 _)) | (intro _; exact (rfl : _ = Result.ok 7 _)) | (intro _; exact (rfl : _ = Result.ok 8 _)) | (intro _; exact (rfl : _ = Result.ok 9 _)) | (intro _; exact (rfl : _ = Result.ok 13 _)) | (intro _; exact (rfl : _ = Result.ok 14 _)) | (intro _; exact (rfl : _ = Result.ok 26 _)) | (intro _; exact (rfl : _ = Result.ok 40 _)) | (intro _; exact (rfl : _ = Result.ok 41 _)) | (intro _; exact (rfl : _ = Result.ok 42 _)) | (intro _; exact (rfl : _ = Result.ok 43 _)) | (intro _; exact (rfl : _ = Result.ok 44 _)) | (intro _; exact (rfl : _ = Result.ok 45 _)) | (intro _; exact (rfl : _ = Result.ok 46 _))); (intro _; exact rfl); exact rfl; exact Nat.le_of_ble_eq_true rfl; exact Nat.le_of_ble_eq_true rfl); skip)
      intro o _
      repeat (first | refine n1 ?_ | refine n2 (fun b _ => ?_) | refine n3 (fun _ _ => ?_) | refine n4 ?_ | refine n5 ?_ | refine WL_nil ?_ | refine W_seq ?_ | refine W_region ?_ | refine n7 ?_ | refine n8 ?_ | refine W_block ?_ | refine W_skip ?_ | refine W_ret ?_ | refine W_exit ?_ | refine WQ_then ?_ | refine WQ_then_ret ?_ | refine WQ_then_exit ?_ | refine WQ_block_normal ?_ | refine WQ_block_ret ?_ | refine WQ_block_exit ?_ | refine n9 ?_)
      rw [show ((xs.length : Int) - 4) = ((xs.length - 4 : Nat) : Int) by omega]
      repeat (first | refine n1 ?_ | refine n2 (fun b _ => ?_) | refine n3 (fun _ _ => ?_) | refine n4 ?_ | refine n5 ?_ | refine WL_nil ?_ | refine W_seq ?_ | refine W_region ?_ | refine n7 ?_ | refine n8 ?_ | refine W_block ?_ | refine W_skip ?_ | refine W_ret ?_ | refine W_exit ?_ | refine WQ_then ?_ | refine WQ_then_ret ?_ | refine WQ_then_exit ?_ | refine WQ_block_normal ?_ | refine WQ_block_ret ?_ | refine WQ_block_exit ?_ | refine n9 ?_)
      (apply WL_effs; exact rfl; exact rfl; exact rfl; (apply E_appendBy; exact rfl; exact rfl; (repeat' (first | exact Pick.head _ _ | apply Pick.tail)); (repeat' (first | exact mcs | apply mct)); (first | exact nil_map | exact one_map _ | exact two_map _ _ | exact rfl); exact rfl; exact rfl; exact rfl; exact rfl; exact rfl; exact Nat.le_of_ble_eq_true rfl; (first | omega | (simp only [List.length_take, List.length_drop, List.length_append, List.length_cons, List.length_nil, List.length_map, List.length_replicate]; omega)); (focus (first | exact Nat.zero_add _ | exact rfl)); (focus ((try (conv => lhs; simp only [Nat.add_sub_cancel_left, Nat.sub_zero, List.drop_zero, List.nil_append])); (first | done | exact rfl)))); skip)
      intro o1 _
      repeat (first | refine n1 ?_ | refine n2 (fun b _ => ?_) | refine n3 (fun _ _ => ?_) | refine n4 ?_ | refine n5 ?_ | refine WL_nil ?_ | refine W_seq ?_ | refine W_region ?_ | refine n7 ?_ | refine n8 ?_ | refine W_block ?_ | refine W_skip ?_ | refine W_ret ?_ | refine W_exit ?_ | refine WQ_then ?_ | refine WQ_then_ret ?_ | refine WQ_then_exit ?_ | refine WQ_block_normal ?_ | refine WQ_block_ret ?_ | refine WQ_block_exit ?_ | refine n9 ?_)
      refine W_letgoB (bs := xs.take (xs.length - 4)) (by repeat' (first | exact Pick.head _ _ | apply Pick.tail)) rfl ?_
      (refine W_regionP' [1] [] [0, 3, 4, 1, 2, 5] [] (by kernel_rfl) (by kernel_rfl) (by repeat (first | exact UZ.nil _ _ | (apply UZ.cons; exact rfl; (intro _; exact rfl)))) (by exact rfl) (by (repeat (first | exact SubO.nil _ | (apply SubO.cons; (focus (repeat' (first | exact Pick.head _ _ | apply Pick.tail))))))) ?_)
      repeat (first | refine p1 ?_ | refine p2 (fun b _ => ?_) | refine p3 (fun _ _ => ?_) | refine p4 ?_ | refine p5 ?_ | refine p7 (fun b => ?_) | refine PL_nil ?_)
      (apply PL_effs; exact rfl; exact rfl; exact rfl; exact rfl; exact rfl; apply E_call; exact rfl; (intro _ _; simp); (exact rappend_fn o1 (xs.take (xs.length - 4)) (by omega)); (repeat (first | exact AllE.nil _ | (apply AllE.cons; (focus (first | exact ent_nilBy | exact ent_nilSl | (apply Ent.mem; repeat' (first | exact mcs | apply mct))))))); (intro _; exact rfl); (intro _; exact rfl); (intro _; (repeat (first | exact SubO.nil _ | (apply SubO.cons; (focus (repeat' (first | exact Pick.head _ _ | apply Pick.tail))))))))
      intro o2 _
      repeat (first | refine p1 ?_ | refine p2 (fun b _ => ?_) | refine p3 (fun _ _ => ?_) | refine p4 ?_ | refine p5 ?_ | refine p7 (fun b => ?_) | refine PL_nil ?_)
      repeat (first | refine n1 ?_ | refine n2 (fun b _ => ?_) | refine n3 (fun _ _ => ?_) | refine n4 ?_ | refine n5 ?_ | refine WL_nil ?_ | refine W_seq ?_ | refine W_region ?_ | refine n7 ?_ | refine n8 ?_ | refine W_block ?_ | refine W_skip ?_ | refine W_ret ?_ | refine W_exit ?_ | refine WQ_then ?_ | refine WQ_then_ret ?_ | refine WQ_then_exit ?_ | refine WQ_block_normal ?_ | refine WQ_block_ret ?_ | refine WQ_block_exit ?_ | refine n9 ?_)
      ((apply ret2 Try.results37 ( Value.slice none 0 0)); (focus (first | trivial | assumption | omega)); (focus (first | exact RV_tmp rfl | (apply RV_cellN; exact rfl; (repeat' (first | exact Pick.head _ _ | apply Pick.tail)); (intro _; exact rfl); (intro _; exact rfl); exact rfl) | (apply RV_cell1; exact rfl; (repeat' (first | exact Pick.head _ _ | apply Pick.tail)); (intro _; exact rfl); exact rfl))); (focus (first | exact RV_tmp rfl | (apply RV_cellN; exact rfl; (repeat' (first | exact Pick.head _ _ | apply Pick.tail)); (intro _; exact rfl); (intro _; exact rfl); exact rfl) | (apply RV_cell1; exact rfl; (repeat' (first | exact Pick.head _ _ | apply Pick.tail)); (intro _; exact rfl); exact rfl)));  (focus (first | exact rfl | (simp; done))); (focus (repeat (first | exact SubO.nil _ | (apply SubO.cons; (focus (repeat' (first | exact Pick.head _ _ | apply Pick.tail))))))); (focus (repeat (first | exact AllE.nil _ | (apply AllE.cons; (focus (first | exact ent_nilBy | exact ent_nilSl | (apply Ent.mem; repeat' (first | exact mcs | apply mct)))))))))
theorem made_e {w : Nat} {P : BitVec w} {cb : BitVec w → List UInt8} {m : Nat} (g : Good P cb m) (xs : List UInt8) : vE P cb m (xs ++ cb (crc P xs)) = 0 := by
  have h := g.made xs
  unfold vok at h
  rw [vE, if_neg (by rw [List.length_append, g.length]; omega), if_pos h]
theorem made_b {w : Nat} {P : BitVec w} {cb : BitVec w → List UInt8} {m : Nat} (g : Good P cb m) (xs : List UInt8) : vB P cb m (xs ++ cb (crc P xs)) = xs := by
  rw [vB, if_pos (made_e g xs), List.length_append, g.length, Nat.add_sub_cancel, List.take_left' rfl]

theorem append_fnB (v : Value) (xs : List UInt8) (hx : xs.length ≤ 999999999) : Ct Try.prog 30 [v] [] [By v xs]
    (X := Value) (fun _ => True) (fun x => x) (fun _ => []) (fun x => [By x (xs ++ cb32 (crc P32 xs))]) := Ct.letB (bs := fun _ => xs ++ cb32 (crc P32 xs)) (append_fn v xs hx) (fun _ => rfl)
theorem verify_fnB (dv : Value) (xs : List UInt8) (hx : xs.length ≤ 1000000000) : Ct Try.prog 31 [dv] [] [By dv xs]
    (X := Value) (fun _ => True) (fun x => .tuple #[x, .int .i64 (vE P32 cb32 4 xs)]) (fun _ => []) (fun x => [By x (vB P32 cb32 4 xs)]) := Ct.letB (bs := fun _ => vB P32 cb32 4 xs) (verify_fn dv xs hx) (fun _ => rfl)
end Go.Proofs.Ytbdcpahifcbcfaa.C03

/-
  Bytes copied into a part of an own block.
-/
namespace Go.Hs
open Go Go.RowKit
section
variable {C : Ctx} {fr : Fr} {Γ Γ' : List OA} {Φ : List SP} {d : Tmp} {ty : TypeId} {pos : String} {aft : Array Edge} {g : Option (Nat × Bool)}
theorem E_copyBlk {t t' e bt : TypeId} {x y : Operand} {u : Value} {b o n : Nat} {bs : List UInt8} {cs ds : List Value} (hx : evO fr x = some (.slice (some ⟨b, o, none⟩) n n)) (hy : evO fr y = some u) (hp : Pick (.blk b bt cs) Γ Γ') (hm : By u bs ∈ Φ)
    (ht : C.P.underlying t = some (.slice e)) (hs : (C.P.info? e).map (·.size) = some 1) (hn : bs.length = n) (h0 : 0 < n) (hf : o + n ≤ cs.length) (hu : cs.take o ++ bs.map bcell ++ cs.drop (o + n) = ds) :
    Effs C fr Γ Φ ⟨some d, .call { callee := .builtin .copy, args := #[x, y], argTypes := #[t, t'] }, ty, pos, aft, g⟩ (X := Unit) (fun _ => True) (fun _ => .int .i64 (bs.length : Int)) (fun _ => .blk b bt ds :: Γ') (fun _ => Φ) := by
  subst hu
  refine ⟨fun _ => AllIn.refl _, fun R a w ha hw => ?_⟩
  have hw' := pick_holds (pick_app hp R) hw
  obtain ⟨hl, B, c', hu', _, _, hr⟩ := hw'.sp _ hm
  obtain ⟨ad, rfl, _, _, hcell⟩ := hr (by omega)
  subst hu'
  have hb : w.heap[b]? = some (.cells cs.toArray bt (0, 0)) := hw'.own.1
  have hrun := run_copy_row (P := C.P) w t t' ty e b o n n ad bs.length c' cs.toArray bt (bs.map bcell) ht hs hb (by rw [List.length_map]; exact (Nat.min_eq_left (Nat.le_of_eq hn)).symm) hcell (by rw [List.length_map, hn]; exact hf) (bcells_one _)
  refine .val (v := .int .i64 (bs.length : Int)) (w' := _) ?_ ⟨(), trivial, rfl, setRow_holds (ds := cs.take o ++ bs.map bcell ++ cs.drop (o + n)) hw'⟩
  have e2 : (bs.map bcell).length = n := by rw [List.length_map, hn]
  rw [e2] at hrun
  simp only [execOp, resolve, invoke, builtin, Sem.run_bind, Sem.run_pure, Result.andThen_ok, List.map_toArray, List.map_cons, List.map_nil, evO_sound ha hx, evO_sound ha hy, hrun]
  simp only [Result.andThen_ok, goInt, hn]
end
end Go.Hs

/-
  Rules for walks: an operation with a settled value, taken as an effect.
-/
namespace Go.Hs
open Go Go.RowKit
theorem SubO.self : ∀ Γ : List OA, SubO Γ Γ
  | [] => SubO.nil _
  | _ :: Γ => SubO.cons (Pick.head _ _) (SubO.self Γ)
theorem Effs.runs {C : Ctx} {fr : Fr} {Γ : List OA} {Φ : List SP} {o : Oper} {v : Value} (h : Runs C fr Γ Φ o v) : Effs C fr Γ Φ o (X := Unit) (fun _ => True) (fun _ => v) (fun _ => Γ) (fun _ => Φ) := by
  refine ⟨fun _ ψ hψ => hψ, fun R a w ha hw => ?_⟩
  refine (h a w ha (sub_holds hw (SubO.self Γ) (fun _ h => h))).mono fun v' w' ⟨e, m⟩ => ⟨(), trivial, e, hw.ext m⟩
end Go.Hs

/-
  The laws 'CheckParts', 'CheckBack' and 'CheckNames' walked.
-/
namespace Go.Proofs.Ytbdcpahifcbcfaa.C03
open Go Go.RowKit Go.Hs
attribute [local irreducible] WL W WQ PL Runs Effs AllE Ent SubO FrIn Pick OneC Ones CellsE PartsE SeqE UZ By Sl Pt Ct

theorem vE_cases {w : Nat} (P : BitVec w) (cb : BitVec w → List UInt8) (m : Nat) (xs : List UInt8) : vE P cb m xs = 0 ∧ xs.take (xs.length - m) ++ cb (crc P (xs.take (xs.length - m))) = xs ∨ ¬ vE P cb m xs = 0 := by
  unfold vE
  split
  · right; decide
  · split
    · rename_i h
      left
      refine ⟨rfl, ?_⟩
      rw [← h, List.take_append_drop]
    · right; decide

end Go.Proofs.Ytbdcpahifcbcfaa.C03

/-
  Rules for walks: what 'make' lays.
-/
namespace Go.Hs
open Go Go.RowKit
theorem made_one (c : Value) (k : Nat) : (madeCells #[c] k).toList = List.replicate k c := by
  unfold madeCells
  rw [Array.toList_map, Array.toList_range, List.eq_replicate_iff]
  refine ⟨by rw [List.length_map, List.length_range], fun b hb => ?_⟩
  obtain ⟨i, _, rfl⟩ := List.mem_map.1 hb
  show (#[c])[i % 1]! = c
  rw [Nat.mod_one]
  rfl
theorem made_u8 (k : Nat) : (madeCells (Value.int .u8 0).cells (k * 1)).toList.take (k * 1) = (List.replicate k (0 : UInt8)).map bcell := by
  rw [Nat.mul_one, show (Value.int .u8 0).cells = #[.int .u8 0] from rfl, made_one, List.take_of_length_le (by rw [List.length_replicate]; exact Nat.le_refl _), List.map_replicate]
  rfl
end Go.Hs
