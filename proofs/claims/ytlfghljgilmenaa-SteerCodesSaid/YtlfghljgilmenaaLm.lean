/-
  The rules of the small logic that read memory. No program is named here.
-/
import Derived.Test.YtlfghljgilmenaaLr
namespace Go.Hs
open Go Go.RowKit

-- ===== lists of cells, reckoned to the end =====

/-- the n cells from off on. -/
def takeN : Nat → Nat → List Value → Option (List Value)
  | _, 0, _ => some []
  | 0, n + 1, c :: cs => match takeN 0 n cs with
    | some r => some (c :: r)
    | none => none
  | off + 1, n + 1, _ :: cs => takeN off (n + 1) cs
  | _, _, [] => none

theorem takeN_eq : ∀ {off n : Nat} {cs us : List Value}, takeN off n cs = some us → off + n ≤ cs.length ∨ n = 0 ∧ us = []
  | off, 0, cs, us, h => by
    right
    cases off <;> cases cs <;> simp [takeN] at h <;> exact ⟨rfl, h⟩
  | 0, n + 1, [], us, h => by simp [takeN] at h
  | off + 1, n + 1, [], us, h => by simp [takeN] at h
  | 0, n + 1, c :: cs, us, h => by
    left
    simp only [takeN] at h
    cases hr : takeN 0 n cs with
    | none => rw [hr] at h; cases h
    | some r =>
      rcases takeN_eq hr with h1 | ⟨rfl, _⟩ <;> simp <;> omega
  | off + 1, n + 1, c :: cs, us, h => by
    left
    simp only [takeN] at h
    rcases takeN_eq h with h1 | ⟨h1, _⟩
    · simp; omega
    · cases h1

theorem takeN_at : ∀ {off n : Nat} {cs us : List Value}, takeN off n cs = some us → us.length = n ∧ ∀ j u, us[j]? = some u → cs[off + j]? = some u
  | off, 0, cs, us, h => by
    have : us = [] := by cases off <;> cases cs <;> simp [takeN] at h <;> exact h
    subst this
    exact ⟨rfl, fun j u hu => by simp at hu⟩
  | 0, n + 1, [], us, h => by simp [takeN] at h
  | off + 1, n + 1, [], us, h => by simp [takeN] at h
  | 0, n + 1, c :: cs, us, h => by
    simp only [takeN] at h
    cases hr : takeN 0 n cs with
    | none => rw [hr] at h; cases h
    | some r =>
      rw [hr] at h
      injection h with h
      subst h
      obtain ⟨h1, h2⟩ := takeN_at hr
      refine ⟨by simp [h1], fun j u hu => ?_⟩
      cases j with
      | zero => simpa using hu
      | succ j =>
        have := h2 j u (by simpa using hu)
        rw [Nat.zero_add] at this ⊢
        simpa using this
  | off + 1, n + 1, c :: cs, us, h => by
    simp only [takeN] at h
    obtain ⟨h1, h2⟩ := takeN_at h
    refine ⟨h1, fun j u hu => ?_⟩
    have := h2 j u hu
    rw [show off + 1 + j = (off + j) + 1 from by omega]
    simpa using this

/-- the list with us laid over it from off on. -/
def putN : Nat → List Value → List Value → Option (List Value)
  | 0, [], cs => some cs
  | 0, u :: us, _ :: cs => match putN 0 us cs with
    | some r => some (u :: r)
    | none => none
  | off + 1, us, c :: cs => match putN off us cs with
    | some r => some (c :: r)
    | none => none
  | _, _, [] => none

theorem putN_eq : ∀ {off : Nat} {us cs ds : List Value}, putN off us cs = some ds → off + us.length ≤ cs.length ∧ ds = cs.take off ++ us ++ cs.drop (off + us.length)
  | 0, [], cs, ds, h => by
    have : ds = cs := by cases cs <;> simp [putN] at h <;> first | exact h | exact h.symm
    subst this
    simp
  | 0, u :: us, [], ds, h => by simp [putN] at h
  | off + 1, us, [], ds, h => by simp [putN] at h
  | 0, u :: us, c :: cs, ds, h => by
    simp only [putN] at h
    cases hr : putN 0 us cs with
    | none => rw [hr] at h; cases h
    | some r =>
      rw [hr] at h
      injection h with h
      subst h
      obtain ⟨h1, h2⟩ := putN_eq hr
      subst h2
      refine ⟨by simp at h1 ⊢; omega, ?_⟩
      simp
  | off + 1, us, c :: cs, ds, h => by
    simp only [putN] at h
    cases hr : putN off us cs with
    | none => rw [hr] at h; cases h
    | some r =>
      rw [hr] at h
      injection h with h
      subst h
      obtain ⟨h1, h2⟩ := putN_eq hr
      subst h2
      refine ⟨by simp; omega, ?_⟩
      rw [show off + 1 + us.length = (off + us.length) + 1 from by omega]
      simp

-- ===== a row behind an own value =====

theorem row_nil_or {w : World} {v : Value} {t : TypeId} {size n : Nat} {xs : List Value} (h : w.ownsRow 0 t size v n xs) :
    ∃ A c, v = .slice A n c ∧ n ≤ c ∧ c ≤ maxLen ∧ (0 < n → ∃ g, A = some ⟨g, 0, none⟩) := by
  rcases h.2 with ⟨rfl, rfl⟩ | ⟨g, cap, cur, rfl, _, _, hc, hm, _⟩
  · exact ⟨none, 0, rfl, Nat.le_refl _, by simp [maxLen], fun h => absurd h (by omega)⟩
  · exact ⟨_, _, rfl, hc, hm, fun _ => ⟨g, rfl⟩⟩

/-- an own row, let go: its cells last. -/
theorem slP_of_row {w : World} {v : Value} {t : TypeId} {size n : Nat} {xs : List Value} {O : Nat → Prop} (h : w.ownsRow 0 t size v n xs) (hO : ∀ k, v.ownBlock = some k → ¬ O k) : slP size v n xs w O := by
  obtain ⟨h1, h2⟩ := h
  refine ⟨h1, ?_⟩
  rcases h2 with ⟨rfl, rfl⟩ | ⟨g, cap, cur, rfl, _, hh, hc, hm, hs, ht⟩
  · exact ⟨none, 0, rfl, Nat.le_refl _, by simp [maxLen], fun h => absurd h (by omega)⟩
  · refine ⟨_, _, rfl, hc, hm, fun _ => ⟨_, rfl, (Array.getElem?_eq_some_iff.1 hh).1, hO g rfl, fun j u hu => ?_⟩⟩
    exact World.ownsRow.cells (w := w) (base := 0) (e := t) (size := size) (v := .slice (some ⟨g, 0, none⟩) n cap) (n := n) (xs := xs) ⟨h1, .inr ⟨g, cap, cur, rfl, Nat.zero_le _, hh, hc, hm, hs, ht⟩⟩ rfl j u hu


section
variable {C : Ctx} {ops : Array Oper} {l : List Oper} {fr : Fr} {Γ Γ' : List OA} {Φ : List SP} {Q : Exit → Act → World → Prop}
  {d : Nat} {ty : TypeId} {pos : String} {aft : Array Edge} {g : Option (Nat × Bool)}

theorem Holds.letgo {v : Value} {t : TypeId} {size n : Nat} {xs : List Value} {w : World} (h : Holds C (.row v t size n xs :: Γ) Φ w) : Holds C Γ (Sl size v n xs :: Φ) w := by
  have ho := h.own
  refine h.drop.cons (slP_of_row ho.1 fun k hk hO => ?_)
  rcases hO with hO | hO
  · have h1 := h.o0 k hO
    rcases h.ofp k (fpL_cons.2 (.inl hk)) with h2 | h2
    · exact h1.2 h2
    · omega
  · exact ho.2.1 k hk hO

theorem Holds.letgoB {v : Value} {t : TypeId} {bs : List UInt8} {n : Nat} {xs : List Value} {w : World} (h : Holds C (.row v t 1 n xs :: Γ) Φ w) (hx : xs = bs.map bcell) : Holds C Γ (By v bs :: Φ) w := by
  have h1 := h.letgo
  have hn : n = bs.length := by
    have := h.own.1.1
    subst hx
    simpa using this.symm
  subst hx
  subst hn
  exact h1

theorem pick_holds {x : OA} {w : World} (hp : Pick x Γ Γ') (h : Holds C Γ Φ w) : Holds C (x :: Γ') Φ w := h.perm hp

theorem blk_cell {b : Nat} {t : TypeId} {cs : List Value} {w : World} (h : (OA.blk b t cs).holds w) (i : Nat) : w.cell? ⟨b, i, none⟩ = cs[i]? := by
  have h : w.heap[b]? = some (.cells cs.toArray t (0, 0)) := h
  rw [cell_of_row w b i cs.toArray t (0, 0) h]
  simp

theorem run_load_cell {P : Program} {w : World} {a : Addr} {v : Value} (h : w.cell? a = some v) : (load a).run P w = .ok v w := by
  simp only [load, Sem.run]
  rw [h]

theorem run_loadVar_one {P : Program} {w : World} {t : TypeId} {a : Addr} {v : Value} (hagg : ∀ w, (isAgg t).run P w = .ok false w) (h : w.cell? a = some v) : (loadVar t a).run P w = .ok v w := by
  simp only [loadVar, hagg, Sem.run_bind, Result.andThen_ok]
  exact run_load_cell h

theorem run_loadVar_agg {P : Program} {w : World} {t : TypeId} {a : Addr} {us : List Value} (hagg : ∀ w, (isAgg t).run P w = .ok true w) (hs : ∀ w, (sizeOf t).run P w = .ok us.length w)
    (h : ∀ j u, us[j]? = some u → w.cell? (a.add j) = some u) : (loadVar t a).run P w = .ok (.agg us.toArray) w := by
  simp [loadVar, hagg, hs, run_loadCells_list w a us h]

theorem R_load1 {t bt : TypeId} {x : Operand} {b off : Nat} {cs : List Value} {v : Value} (hx : evO fr x = some (.pointer (some ⟨b, off, none⟩)))
    (hp : Pick (.blk b bt cs) Γ Γ') (hagg : ∀ w, (isAgg t).run C.P w = .ok false w) (hc : cs[off]? = some v) : Runs C fr Γ Φ ⟨some d, .load t x, ty, pos, aft, g⟩ v :=
  Runs.pure fun a w ha hw => by
    have hb := (pick_holds hp hw).own.1
    simp [execOp, evO_sound ha hx, Instr.loadAt, Instr.sureAddr, run_loadVar_one hagg ((blk_cell hb off).trans hc)]

theorem R_loadN {t bt : TypeId} {x : Operand} {b off n : Nat} {cs us : List Value} (hx : evO fr x = some (.pointer (some ⟨b, off, none⟩)))
    (hp : Pick (.blk b bt cs) Γ Γ') (hagg : ∀ w, (isAgg t).run C.P w = .ok true w) (hs : ∀ w, (sizeOf t).run C.P w = .ok n w) (hc : takeN off n cs = some us) :
    Runs C fr Γ Φ ⟨some d, .load t x, ty, pos, aft, g⟩ (.agg us.toArray) :=
  Runs.pure fun a w ha hw => by
    have hb := (pick_holds hp hw).own.1
    obtain ⟨h1, h2⟩ := takeN_at hc
    have hl := run_loadVar_agg (P := C.P) (w := w) (t := t) (a := ⟨b, off, none⟩) (us := us) hagg (by rw [h1]; exact hs) (fun j u hu => by rw [Addr.add_lit, blk_cell hb]; exact h2 j u hu)
    simp [execOp, evO_sound ha hx, Instr.loadAt, Instr.sureAddr, hl]

theorem R_loadP {t : TypeId} {x : Operand} {p : Value} {us : List Value} {v : Value} (hx : evO fr x = some p)
    (hm : Pt p us ∈ Φ) (hagg : ∀ w, (isAgg t).run C.P w = .ok false w) (hc : us[0]? = some v) : Runs C fr Γ Φ ⟨some d, .load t x, ty, pos, aft, g⟩ v :=
  Runs.pure fun a w ha hw => by
    obtain ⟨ad, hv, _, _, hcell⟩ := hw.sp _ hm
    have h0 := hcell 0 v hc
    rw [Addr.add_zero'] at h0
    simp [execOp, evO_sound ha hx, hv, Instr.loadAt, Instr.sureAddr, run_loadVar_one hagg h0]

theorem R_loadPN {t : TypeId} {x : Operand} {p : Value} {us : List Value} (hx : evO fr x = some p)
    (hm : Pt p us ∈ Φ) (hagg : ∀ w, (isAgg t).run C.P w = .ok true w) (hs : ∀ w, (sizeOf t).run C.P w = .ok us.length w) : Runs C fr Γ Φ ⟨some d, .load t x, ty, pos, aft, g⟩ (.agg us.toArray) :=
  Runs.pure fun a w ha hw => by
    obtain ⟨ad, hv, _, _, hcell⟩ := hw.sp _ hm
    simp [execOp, evO_sound ha hx, hv, Instr.loadAt, Instr.sureAddr, run_loadVar_agg hagg hs hcell]

theorem run_fieldAt {P : Program} {t : TypeId} {fs : Array Field} {a : Addr} {i : Nat} {f : Field} {n : Nat} (ht : P.underlying t = some (.struct fs)) (hf : fs[i]? = some f) (hs : ∀ w, (sizeOf f.type).run P w = .ok n w) (hn : Nat.beq n 0 = false) (w : World) :
    (Instr.fieldAt t (.pointer (some a)) i).run P w = .ok (.pointer (some (a.add f.offset))) w := by
  have : n ≠ 0 := fun e => by subst e; cases hn
  simp [Instr.fieldAt, run_underlying ht, hf, Instr.sureAddr, fieldPlace, hs, this]

/-- a field's address in an own block. -/
theorem R_fieldO {t ft : TypeId} {fs : Array Field} {x : Operand} {b off i n fo bo : Nat} {nm tag pk : String} {emb : Bool} (hx : evO fr x = some (.pointer (some ⟨b, off, none⟩)))
    (ht : C.P.underlying t = some (.struct fs)) (hf : fs[i]? = some ⟨nm, ft, fo, emb, tag, pk, bo⟩) (hs : ∀ w, (sizeOf ft).run C.P w = .ok n w) (hn : Nat.beq n 0 = false) :
    Runs C fr Γ Φ ⟨some d, .fieldAddr t x i, ty, pos, aft, g⟩ (.pointer (some ⟨b, off + fo, none⟩)) :=
  Runs.pure fun a w ha _ => by
    have h := run_fieldAt (P := C.P) (a := ⟨b, off, none⟩) ht hf hs hn w
    simp only [Addr.add_lit] at h
    simp only [execOp, evO_sound ha hx, Sem.run_bind, h, Result.andThen_ok, Sem.run_pure]
theorem R_fieldO0 {t ft : TypeId} {fs : Array Field} {x : Operand} {b i n fo bo : Nat} {nm tag pk : String} {emb : Bool} (hx : evO fr x = some (.pointer (some ⟨b, 0, none⟩)))
    (ht : C.P.underlying t = some (.struct fs)) (hf : fs[i]? = some ⟨nm, ft, fo, emb, tag, pk, bo⟩) (hs : ∀ w, (sizeOf ft).run C.P w = .ok n w) (hn : Nat.beq n 0 = false) :
    Runs C fr Γ Φ ⟨some d, .fieldAddr t x i, ty, pos, aft, g⟩ (.pointer (some ⟨b, fo, none⟩)) := by
  have h := R_fieldO (Γ := Γ) (Φ := Φ) (d := d) (ty := ty) (pos := pos) (aft := aft) (g := g) hx ht hf hs hn
  rwa [Nat.zero_add] at h

/-- a field's address behind a pointer to data. -/
def fldV (off : Nat) : Value → Value
  | .pointer (some a) => .pointer (some (a.add off))
  | v => v

theorem ent_fld {p : Value} {us : List Value} {off : Nat} (hm : Pt p us ∈ Φ) : Ent Φ (Pt (fldV off p) (us.drop off)) := fun w O h => by
  obtain ⟨ad, hv, hlt, hO, hcell⟩ := h _ hm
  subst hv
  refine ⟨_, rfl, by rw [block_add]; exact hlt, by rw [block_add]; exact hO, fun j u hu => ?_⟩
  rw [add_add']
  exact hcell _ u (by rw [← hu, List.getElem?_drop])

theorem R_fieldP {t ft : TypeId} {fs : Array Field} {x : Operand} {p : Value} {us us' : List Value} {i off n bo : Nat} {nm tag pk : String} {emb : Bool} (hx : evO fr x = some p)
    (hm : Pt p us ∈ Φ) (ht : C.P.underlying t = some (.struct fs)) (hf : fs[i]? = some ⟨nm, ft, off, emb, tag, pk, bo⟩) (hs : ∀ w, (sizeOf ft).run C.P w = .ok n w) (hn : Nat.beq n 0 = false) (hd : us.drop off = us') :
    Runs C fr Γ Φ ⟨some d, .fieldAddr t x i, ty, pos, aft, g⟩ (fldV off p) ∧ Ent Φ (Pt (fldV off p) us') := by
  subst hd
  refine ⟨Runs.pure fun a w ha hw => ?_, ent_fld hm⟩
  obtain ⟨ad, hv, _, _, _⟩ := hw.sp _ hm
  have h := run_fieldAt (P := C.P) (a := ad) ht hf hs hn w
  simp only [execOp, evO_sound ha hx, hv, Sem.run_bind, h, Result.andThen_ok, Sem.run_pure, fldV]

theorem setRow_holds {b : Nat} {t : TypeId} {cs ds : List Value} {w : World} (h : Holds C (.blk b t cs :: Γ) Φ w) : Holds C (.blk b t ds :: Γ) Φ (w.setRow b ds.toArray) := by
  have hb : w.heap[b]? = some (.cells cs.toArray t (0, 0)) := h.own.1
  have hother : ∀ k, k ≠ b → (w.setRow b ds.toArray).heap[k]? = w.heap[k]? := fun k hk => setRow_other w b k _ hk
  refine h.move ⟨rfl, rfl, rfl, by simp, fun k _ hn => hother k fun e => hn (fpL_cons.2 (.inl e))⟩ ⟨?_, h.own.2.1, h.own.2.2.keep fun k _ hk => hother k fun e => h.own.2.1 k e hk⟩
    fun k _ hk => fpL_cons.2 (Or.imp_left (fun (e : k = b) => (e : (OA.blk b t cs).fp k)) (fpL_cons.1 hk))
  exact setRow_heap w b _ _ t _ hb

theorem run_storeVar_own {P : Program} {w : World} {t bt : TypeId} {b off : Nat} {cs us ds : List Value} {v : Value} (hb : w.heap[b]? = some (.cells cs.toArray bt (0, 0)))
    (hs : ∀ w, (sizeOf t).run P w = .ok us.length w) (hv : v.cells = us.toArray) (h1 : ∀ u ∈ us, u.oneCell' = true) (hp : putN off us cs = some ds) :
    (storeVar t ⟨b, off, none⟩ v).run P w = .ok () (w.setRow b ds.toArray) := by
  obtain ⟨hl, rfl⟩ := putN_eq hp
  have h := run_storeCells_at P b off bt us 0 cs.toArray w hb (by simpa using hl) h1
  simp only [Nat.add_zero] at h
  simp [storeVar, hv, hs, h]

-- ===== slices =====

theorem R_lenSl {t : TypeId} {x : Operand} {v : Value} {size n : Nat} {xs : List Value} {e : TypeId} (hx : evO fr x = some v)
    (hm : Sl size v n xs ∈ Φ) (ht : C.P.underlying t = some (.slice e)) : Runs C fr Γ Φ ⟨some d, .call { callee := .builtin .len, args := #[x], argTypes := #[t] }, ty, pos, aft, g⟩ (.int .i64 (n : Int)) :=
  Runs.pure fun a w ha hw => by
    obtain ⟨_, A, c, hv, _⟩ := hw.sp _ hm
    simp [execOp, resolve, invoke, builtin, evO_sound ha hx, hv, Builtin.len_, run_underlying ht, goInt]

theorem R_lenBy {t : TypeId} {x : Operand} {v : Value} {bs : List UInt8} {e : TypeId} (hx : evO fr x = some v)
    (hm : By v bs ∈ Φ) (ht : C.P.underlying t = some (.slice e)) : Runs C fr Γ Φ ⟨some d, .call { callee := .builtin .len, args := #[x], argTypes := #[t] }, ty, pos, aft, g⟩ (.int .i64 (bs.length : Int)) :=
  Runs.pure fun a w ha hw => by
    obtain ⟨_, A, c, hv, _⟩ := hw.sp _ hm
    simp [execOp, resolve, invoke, builtin, evO_sound ha hx, hv, Builtin.len_, run_underlying ht, goInt]

theorem R_lenRow {t : TypeId} {x : Operand} {v : Value} {rt : TypeId} {size n : Nat} {xs : List Value} {e : TypeId} (hx : evO fr x = some v)
    (hp : Pick (.row v rt size n xs) Γ Γ') (ht : C.P.underlying t = some (.slice e)) : Runs C fr Γ Φ ⟨some d, .call { callee := .builtin .len, args := #[x], argTypes := #[t] }, ty, pos, aft, g⟩ (.int .i64 (n : Int)) :=
  Runs.pure fun a w ha hw => by
    obtain ⟨A, c, hv, _⟩ := row_nil_or (pick_holds hp hw).own.1
    simp [execOp, resolve, invoke, builtin, evO_sound ha hx, hv, Builtin.len_, run_underlying ht, goInt]

theorem R_lenNil {t : TypeId} {x : Operand} {A : Option Addr} {n c : Nat} {e : TypeId} (hx : evO fr x = some (.slice A n c))
    (ht : C.P.underlying t = some (.slice e)) : Runs C fr Γ Φ ⟨some d, .call { callee := .builtin .len, args := #[x], argTypes := #[t] }, ty, pos, aft, g⟩ (.int .i64 (n : Int)) :=
  Runs.pure fun a w ha _ => by
    simp [execOp, resolve, invoke, builtin, evO_sound ha hx, Builtin.len_, run_underlying ht, goInt]

theorem run_indexAt_some {P : Program} {w : World} {t e : TypeId} {size : Nat} {ad : Addr} {n c : Nat} {kd : IntKind} {i : Nat} (ht : P.underlying t = some (.slice e)) (hs : ∀ w, (sizeOf e).run P w = .ok size w) (hi : i < n) :
    (Instr.indexAt t (.slice (some ad) n c) (.int kd (i : Int))).run P w = .ok (.pointer (some (ad.add (i * size)))) w := by
  simp [Instr.indexAt, asIntOf, run_underlying ht, hs, hi]


/-- an element's address in lasting data. -/
def idxV (size i : Nat) : Value → Value
  | .slice (some ad) _ _ => .pointer (some (ad.add (i * size)))
  | v => v

theorem ent_idx {v : Value} {size n i : Nat} {xs : List Value} (hm : Sl size v n xs ∈ Φ) (hi : i < n) : Ent Φ (Pt (idxV size i v) ((xs.drop (i * size)).take size)) := fun w O h => by
  obtain ⟨hl, A, c, hv, _, _, hr⟩ := h _ hm
  obtain ⟨ad, rfl, hlt, hO, hcell⟩ := hr (by omega)
  subst hv
  refine ⟨_, rfl, by rw [block_add]; exact hlt, by rw [block_add]; exact hO, fun j u hu => ?_⟩
  rw [add_add']
  rw [List.getElem?_take] at hu
  split at hu
  · exact hcell _ u (by rw [← hu, List.getElem?_drop])
  · cases hu

theorem R_idxSl {t e : TypeId} {x y : Operand} {v : Value} {size n : Nat} {xs us : List Value} {kd : IntKind} {ii : Int} {i : Nat}
    (hx : evO fr x = some v) (hy : evO fr y = some (.int kd ii)) (hm : Sl size v n xs ∈ Φ) (ht : C.P.underlying t = some (.slice e)) (hs : ∀ w, (sizeOf e).run C.P w = .ok size w) (hii : ii = (i : Int)) (hi : i < n)
    (hu : (xs.drop (i * size)).take size = us) :
    Runs C fr Γ Φ ⟨some d, .indexAddr t x y, ty, pos, aft, g⟩ (idxV size i v) ∧ Ent Φ (Pt (idxV size i v) us) := by
  subst hii
  subst hu
  refine ⟨Runs.pure fun a w ha hw => ?_, ent_idx hm hi⟩
  obtain ⟨hl, A, c, hv, _, _, hr⟩ := hw.sp _ hm
  obtain ⟨ad, rfl, _⟩ := hr (by omega)
  simp [execOp, evO_sound ha hx, evO_sound ha hy, hv, run_indexAt_some ht hs hi, idxV]

theorem ent_idxBy {v : Value} {bs : List UInt8} {i : Nat} (hm : By v bs ∈ Φ) (hi : i < bs.length) : Ent Φ (Pt (idxV 1 i v) [bcell (bs.getD i 0)]) := fun w O h => by
  obtain ⟨hl, A, c, hv, _, _, hr⟩ := h _ hm
  obtain ⟨ad, rfl, hlt, hO, hcell⟩ := hr (by omega)
  subst hv
  refine ⟨_, rfl, by rw [block_add]; exact hlt, by rw [block_add]; exact hO, fun j u hu => ?_⟩
  cases j with
  | zero =>
    rw [Addr.add_zero', Nat.mul_one]
    refine hcell i u ?_
    simp at hu
    subst hu
    simp [hi]
  | succ j => simp at hu

theorem R_idxBy {t e : TypeId} {x y : Operand} {v : Value} {bs : List UInt8} {kd : IntKind} {ii : Int} {i : Nat}
    (hx : evO fr x = some v) (hy : evO fr y = some (.int kd ii)) (hm : By v bs ∈ Φ) (ht : C.P.underlying t = some (.slice e)) (hs : ∀ w, (sizeOf e).run C.P w = .ok 1 w) (hii : ii = (i : Int)) (hi : i < bs.length) :
    Runs C fr Γ Φ ⟨some d, .indexAddr t x y, ty, pos, aft, g⟩ (idxV 1 i v) ∧ Ent Φ (Pt (idxV 1 i v) [bcell (bs.getD i 0)]) := by
  subst hii
  refine ⟨Runs.pure fun a w ha hw => ?_, ent_idxBy hm hi⟩
  obtain ⟨hl, A, c, hv, _, _, hr⟩ := hw.sp _ hm
  obtain ⟨ad, rfl, _⟩ := hr (by omega)
  simp [execOp, evO_sound ha hx, evO_sound ha hy, hv, run_indexAt_some ht hs hi, idxV]

/-- x[lo:hi] of lasting data. -/
theorem run_slice_data {P : Program} {w : World} {t e : TypeId} {size n c lo hi : Nat} {A : Option Addr} {kl kh : IntKind} (ht : P.underlying t = some (.slice e)) (hs : ∀ w, (sizeOf e).run P w = .ok size w) (h1 : lo ≤ hi) (h2 : hi ≤ c) :
    (Instr.sliceAt t (.slice A n c) (some (.int kl (lo : Int))) (some (.int kh (hi : Int))) none).run P w = .ok (.slice (if c = lo then A else A.map (·.add (lo * size))) (hi - lo) (c - lo)) w := by
  simp [Instr.sliceAt, Instr.slice, Instr.sliceBounds, Instr.sliceBound, asIntOf, run_underlying ht, hs, h1, h2]

theorem run_slice_data_h {P : Program} {w : World} {t e : TypeId} {size n c hi : Nat} {A : Option Addr} {kh : IntKind} (ht : P.underlying t = some (.slice e)) (hs : ∀ w, (sizeOf e).run P w = .ok size w) (h2 : hi ≤ c) :
    (Instr.sliceAt t (.slice A n c) none (some (.int kh (hi : Int))) none).run P w = .ok (.slice (if c = 0 then A else A.map (·.add (0 * size))) (hi - 0) (c - 0)) w := by
  simp [Instr.sliceAt, Instr.slice, Instr.sliceBounds, Instr.sliceBound, asIntOf, run_underlying ht, hs, h2]

theorem run_slice_data_l {P : Program} {w : World} {t e : TypeId} {size n c lo : Nat} {A : Option Addr} {kl : IntKind} (ht : P.underlying t = some (.slice e)) (hs : ∀ w, (sizeOf e).run P w = .ok size w) (h1 : lo ≤ n) :
    (Instr.sliceAt t (.slice A n c) (some (.int kl (lo : Int))) none none).run P w = .ok (.slice (if c = lo then A else A.map (·.add (lo * size))) (n - lo) (c - lo)) w := by
  simp [Instr.sliceAt, Instr.slice, Instr.sliceBounds, Instr.sliceBound, asIntOf, run_underlying ht, hs, h1]

theorem slP_cut {size n c lo hi : Nat} {A : Option Addr} {xs : List Value} {w : World} {O : Nat → Prop} (h : slP size (.slice A n c) n xs w O) (h1 : lo ≤ hi) (h2 : hi ≤ n) :
    slP size (.slice (if c = lo then A else A.map (·.add (lo * size))) (hi - lo) (c - lo)) (hi - lo) ((xs.drop (lo * size)).take ((hi - lo) * size)) w O := by
  obtain ⟨hl, A', c', hv, hc, hcm, hr⟩ := h
  injection hv with e1 e2 e3
  subst e1
  subst e3
  refine ⟨?_, _, _, rfl, by omega, by omega, fun hn => ?_⟩
  · rw [List.length_take, List.length_drop, hl, ← Nat.sub_mul]
    exact Nat.min_eq_left (Nat.mul_le_mul_right _ (by omega))
  · obtain ⟨ad, rfl, hlt, hO, hcell⟩ := hr (by omega)
    rw [if_neg (by omega)]
    refine ⟨ad.add (lo * size), rfl, by rw [block_add]; exact hlt, by rw [block_add]; exact hO, fun j u hu => ?_⟩
    rw [add_add']
    rw [List.getElem?_take] at hu
    split at hu
    · exact hcell _ u (by rw [← hu, List.getElem?_drop])
    · cases hu

/-- the bounds that a slice expression names: (lo, hi) out of the operands, n the length. -/
def cutLo (fr : Fr) : Option Operand → Option Int
  | none => some 0
  | some x => match evO fr x with
    | some (.int _ i) => some i
    | _ => none
def cutHi (fr : Fr) (n : Nat) : Option Operand → Option Int
  | none => some (n : Int)
  | some x => match evO fr x with
    | some (.int _ i) => some i
    | _ => none

theorem run_cut {P : Program} {a : Act} {m : Ctx} {w : World} {t e : TypeId} {size n c lo hi : Nat} {A : Option Addr} {lo? hi? : Option Operand} (ha : fok m fr a) (ht : P.underlying t = some (.slice e)) (hs : ∀ w, (sizeOf e).run P w = .ok size w)
    (hlo : cutLo fr lo? = some (lo : Int)) (hhi : cutHi fr n hi? = some (hi : Int)) (h1 : lo ≤ hi) (h2 : hi ≤ n) (h3 : n ≤ c) :
    (Instr.sliceAt t (.slice A n c) (lo?.map a.eval) (hi?.map a.eval) none).run P w = .ok (.slice (if c = lo then A else A.map (·.add (lo * size))) (hi - lo) (c - lo)) w := by
  have hL : (lo? = none ∧ lo = 0) ∨ ∃ x kl, lo? = some x ∧ a.eval x = .int kl (lo : Int) := by
    cases lo? with
    | none => left; simp [cutLo] at hlo; exact ⟨rfl, by omega⟩
    | some x =>
      right
      simp only [cutLo] at hlo
      split at hlo
      · rename_i kl i hx
        injection hlo with hlo
        exact ⟨x, kl, rfl, by rw [← hlo]; exact evO_sound ha hx⟩
      · cases hlo
  have hH : (hi? = none ∧ hi = n) ∨ ∃ x kl, hi? = some x ∧ a.eval x = .int kl (hi : Int) := by
    cases hi? with
    | none => left; simp [cutHi] at hhi; exact ⟨rfl, by omega⟩
    | some x =>
      right
      simp only [cutHi] at hhi
      split at hhi
      · rename_i kl i hx
        injection hhi with hhi
        exact ⟨x, kl, rfl, by rw [← hhi]; exact evO_sound ha hx⟩
      · cases hhi
  rcases hL with ⟨rfl, rfl⟩ | ⟨x, kl, rfl, hx⟩ <;> rcases hH with ⟨rfl, rfl⟩ | ⟨y, kh, rfl, hy⟩
  · simp [Instr.sliceAt, Instr.slice, Instr.sliceBounds, run_underlying ht, hs]
  · simp only [Option.map_none, Option.map_some, hy]
    exact run_slice_data_h ht hs (by omega)
  · simp only [Option.map_none, Option.map_some, hx]
    exact run_slice_data_l ht hs h1
  · simp only [Option.map_some, hx, hy]
    exact run_slice_data ht hs h1 (by omega)


def cutV (size lo hi : Nat) : Value → Value
  | .slice A _ c => .slice (if c = lo then A else A.map (·.add (lo * size))) (hi - lo) (c - lo)
  | v => v

theorem ent_cut {v : Value} {size n lo hi : Nat} {xs : List Value} (hm : Sl size v n xs ∈ Φ) (h1 : lo ≤ hi) (h2 : hi ≤ n) :
    Ent Φ (Sl size (cutV size lo hi v) (hi - lo) ((xs.drop (lo * size)).take ((hi - lo) * size))) := fun w O h => by
  have hsl := h _ hm
  have hsl' : slP size v n xs w O := hsl
  obtain ⟨_, A, c, hv, hc, _⟩ := hsl
  subst hv
  exact slP_cut hsl' h1 h2

theorem ent_cutBy {v : Value} {lo hi : Nat} {bs : List UInt8} (hm : By v bs ∈ Φ) (h1 : lo ≤ hi) (h2 : hi ≤ bs.length) : Ent Φ (By (cutV 1 lo hi v) ((bs.drop lo).take (hi - lo))) := fun w O h => by
  have hsl := h _ hm
  have hsl' : slP 1 v bs.length (bs.map bcell) w O := hsl
  obtain ⟨_, A, c, hv, hc, _⟩ := hsl
  subst hv
  have h := slP_cut hsl' h1 h2
  show slP 1 _ ((bs.drop lo).take (hi - lo)).length (((bs.drop lo).take (hi - lo)).map bcell) w _
  have e1 : ((bs.drop lo).take (hi - lo)).length = hi - lo := by simp; omega
  have e2 : (((bs.map bcell).drop (lo * 1)).take ((hi - lo) * 1)) = ((bs.drop lo).take (hi - lo)).map bcell := by simp [List.map_take, List.map_drop]
  rw [e1, ← e2]
  exact h

theorem R_cutSl {t e : TypeId} {x : Operand} {lo? hi? : Option Operand} {v : Value} {size n : Nat} {xs us : List Value} {ilo ihi : Int} {lo hi m : Nat}
    (hx : evO fr x = some v) (hm : Sl size v n xs ∈ Φ) (ht : C.P.underlying t = some (.slice e)) (hs : ∀ w, (sizeOf e).run C.P w = .ok size w)
    (hlo : cutLo fr lo? = some ilo) (hhi : cutHi fr n hi? = some ihi) (el : ilo = (lo : Int)) (eh : ihi = (hi : Int)) (h1 : lo ≤ hi) (h2 : hi ≤ n) (hm' : hi - lo = m) (hu : (xs.drop (lo * size)).take ((hi - lo) * size) = us) :
    Runs C fr Γ Φ ⟨some d, .slice t x lo? hi? none, ty, pos, aft, g⟩ (cutV size lo hi v) ∧ Ent Φ (Sl size (cutV size lo hi v) m us) := by
  subst el; subst eh; subst hm'; subst hu
  refine ⟨Runs.pure fun a w ha hw => ?_, ent_cut hm h1 h2⟩
  obtain ⟨_, A, c, hv, hc, _⟩ := hw.sp _ hm
  subst hv
  simp only [execOp, Sem.run_bind, evO_sound ha hx, run_cut ha ht hs hlo hhi h1 h2 hc, Option.map_none, Result.andThen_ok, Sem.run_pure, cutV]

theorem R_cutBy {t e : TypeId} {x : Operand} {lo? hi? : Option Operand} {v : Value} {bs bs' : List UInt8} {ilo ihi : Int} {lo hi : Nat}
    (hx : evO fr x = some v) (hm : By v bs ∈ Φ) (ht : C.P.underlying t = some (.slice e)) (hs : ∀ w, (sizeOf e).run C.P w = .ok 1 w)
    (hlo : cutLo fr lo? = some ilo) (hhi : cutHi fr bs.length hi? = some ihi) (el : ilo = (lo : Int)) (eh : ihi = (hi : Int)) (h1 : lo ≤ hi) (h2 : hi ≤ bs.length) (hb : (bs.drop lo).take (hi - lo) = bs') :
    Runs C fr Γ Φ ⟨some d, .slice t x lo? hi? none, ty, pos, aft, g⟩ (cutV 1 lo hi v) ∧ Ent Φ (By (cutV 1 lo hi v) bs') := by
  subst el; subst eh; subst hb
  refine ⟨Runs.pure fun a w ha hw => ?_, ent_cutBy hm h1 h2⟩
  obtain ⟨_, A, c, hv, hc, _⟩ := hw.sp _ hm
  subst hv
  simp only [execOp, Sem.run_bind, evO_sound ha hx, run_cut ha ht hs hlo hhi h1 h2 hc, Option.map_none, Result.andThen_ok, Sem.run_pure, cutV]

-- ===== strings =====

theorem run_bytesToString' {P : Program} {w : World} {v : Value} {bs : List UInt8} {O : Nat → Prop} (h : slP 1 v bs.length (bs.map bcell) w O) : (Conv.bytesToString v).run P w = .ok (strV bs) w := by
  obtain ⟨_, A, A_c, rfl, _, _, hr⟩ := h
  cases A with
  | none =>
    have : bs = [] := by
      cases bs with
      | nil => rfl
      | cons b r => obtain ⟨ad, h, _⟩ := hr (by simp); cases h
    subst this
    rfl
  | some ad =>
    have hc : (loadCells ad bs.length).run P w = .ok (bs.map bcell).toArray w := by
      have := run_loadCells_list (P := P) w ad (bs.map bcell) (fun j u hu => by
        by_cases hb : 0 < bs.length
        · obtain ⟨ad', h, _, _, hcell⟩ := hr hb
          injection h with h
          subst h
          exact hcell j u hu
        · have : bs = [] := List.eq_nil_of_length_eq_zero (by omega)
          subst this
          simp at hu)
      simpa using this
    have hf : ∀ (l : List UInt8) (s : ByteArray), (l.map fun b => (b.toNat : Int)).foldl (fun r n => r.push (UInt8.ofNat n.toNat)) s = ⟨s.data ++ l.toArray⟩ := by
      intro l
      induction l with
      | nil => intro s; simp
      | cons b r ih =>
        intro s
        simp only [List.map_cons, List.foldl_cons, ih, Int.toNat_natCast, UInt8.ofNat_toNat]
        simp [ByteArray.push]
    have hr := run_bytesToString (P := P) w ad bs.length A_c (bs.map fun b => (b.toNat : Int)) (by rw [hc]; simp [bcell, Function.comp_def])
    rw [hr, hf]
    simp [strV, ByteArray.empty, ByteArray.emptyWithCapacity]
    rfl

theorem R_toStr {s t e : TypeId} {x : Operand} {v : Value} {bs : List UInt8} (hx : evO fr x = some v)
    (hm : By v bs ∈ Φ) (hs : C.P.underlying s = some (.slice e)) (he : C.P.underlying e = some (.int .u8)) (ht : C.P.underlying t = some .string) :
    Runs C fr Γ Φ ⟨some d, .convert s t x, ty, pos, aft, g⟩ (strV bs) :=
  Runs.pure fun a w ha hw => by
    have hsl : slP 1 v bs.length (bs.map bcell) w (avo C.O0 Γ) := hw.sp _ hm
    have hr := run_bytesToString' (P := C.P) hsl
    obtain ⟨_, A, c, hv, _⟩ := hsl
    subst hv
    simp only [execOp, evO_sound ha hx, convert, Sem.run_bind, run_underlying hs, run_underlying ht, Result.andThen_ok, run_underlying he, hr, Sem.run_pure]

/-- an own row read as a string. -/
theorem R_toStrRow {s t e rt : TypeId} {x : Operand} {v : Value} {bs : List UInt8} {n : Nat} {xs : List Value} (hx : evO fr x = some v)
    (hp : Pick (.row v rt 1 n xs) Γ Γ') (hxs : xs = bs.map bcell) (hs : C.P.underlying s = some (.slice e)) (he : C.P.underlying e = some (.int .u8)) (ht : C.P.underlying t = some .string) :
    Runs C fr Γ Φ ⟨some d, .convert s t x, ty, pos, aft, g⟩ (strV bs) :=
  Runs.pure fun a w ha hw => by
    have h1 := (pick_holds hp hw).letgoB hxs
    have hsl : slP 1 v bs.length (bs.map bcell) w (avo C.O0 Γ') := h1.sp _ List.mem_cons_self
    have hr := run_bytesToString' (P := C.P) hsl
    obtain ⟨_, A, c, hv, _⟩ := hsl
    subst hv
    simp only [execOp, evO_sound ha hx, convert, Sem.run_bind, run_underlying hs, run_underlying ht, Result.andThen_ok, run_underlying he, hr, Sem.run_pure]

theorem ent_nilBy : Ent Φ (By (.slice none 0 0) []) := fun _ _ _ => ⟨rfl, none, 0, rfl, Nat.le_refl _, by simp [maxLen], fun h => absurd h (by simp)⟩
theorem ent_nilSl {size : Nat} : Ent Φ (Sl size (.slice none 0 0) 0 []) := fun _ _ _ => ⟨by simp, none, 0, rfl, Nat.le_refl _, by simp [maxLen], fun h => absurd h (by simp)⟩

-- ===== what a value's cells are =====

/-- the value is of one cell. -/
def OneC (C : Ctx) (Γ : List OA) (Φ : List SP) (u : Value) : Prop := ∀ R w, Holds C (Γ ++ R) Φ w → u.oneCell' = true
theorem OneC.lit {u : Value} (h : u.oneCell' = true) : OneC C Γ Φ u := fun _ _ _ => h
theorem OneC.by_ {u : Value} {bs : List UInt8} (h : By u bs ∈ Φ) : OneC C Γ Φ u := fun _ _ hw => by
  obtain ⟨_, A, c, rfl, _⟩ := hw.sp _ h
  rfl
theorem OneC.sl {u : Value} {size n : Nat} {xs : List Value} (h : Sl size u n xs ∈ Φ) : OneC C Γ Φ u := fun _ _ hw => by
  obtain ⟨_, A, c, rfl, _⟩ := hw.sp _ h
  rfl
theorem OneC.row {u : Value} {t : TypeId} {size n : Nat} {xs : List Value} (h : Pick (.row u t size n xs) Γ Γ') : OneC C Γ Φ u := fun R _ hw => by
  obtain ⟨A, c, rfl, _⟩ := row_nil_or (pick_holds (h.append_right R) hw).own.1
  rfl
def Ones (C : Ctx) (Γ : List OA) (Φ : List SP) (us : List Value) : Prop := ∀ u ∈ us, OneC C Γ Φ u
theorem Ones.nil : Ones C Γ Φ [] := fun _ h => by cases h
theorem Ones.cons {u : Value} {us : List Value} (h : OneC C Γ Φ u) (k : Ones C Γ Φ us) : Ones C Γ Φ (u :: us) := fun v hv => by
  rcases List.mem_cons.1 hv with rfl | hv
  · exact h
  · exact k v hv
theorem Ones.bytes {bs : List UInt8} : Ones C Γ Φ (bs.map bcell) := fun u hu _ _ _ => bcells_one bs u hu

/-- the value's cells. -/
def CellsE (C : Ctx) (Γ : List OA) (Φ : List SP) (v : Value) (us : List Value) : Prop := ∀ R w, Holds C (Γ ++ R) Φ w → v.cells = us.toArray
theorem CellsE.lit {v : Value} {us : List Value} (h : listO v.cells.toList = some us) : CellsE C Γ Φ v us := fun _ _ _ => by rw [← listO_eq h]
theorem CellsE.one {v : Value} (h : OneC C Γ Φ v) : CellsE C Γ Φ v [v] := fun R w hw => by
  have := h R w hw
  cases v <;> first | rfl | cases this

-- ===== what makes memory, or writes what is owned =====

theorem pick_app {x : OA} {Γ Γ' : List OA} (h : Pick x Γ Γ') (R : List OA) : Pick x (Γ ++ R) (Γ' ++ R) := h.append_right R

theorem E_alloc {t : TypeId} {z : Value} {cs : List Value} (hz : ∀ w, (zeroValue t).run C.P w = .ok z w) (hc : listO z.cells.toList = some cs) :
    Effs C fr Γ Φ ⟨some d, .alloc t, ty, pos, aft, g⟩ (X := Nat) (fun _ => True) (fun b => .pointer (some ⟨b, 0, none⟩)) (fun b => .blk b t cs :: Γ) (fun _ => Φ) := by
  have hc := listO_eq hc
  subst hc
  refine ⟨fun _ => AllIn.refl _, fun R a w _ hw => .val (w' := w.alloc (.cells z.cells t)) ?_ ⟨w.heap.size, trivial, rfl, hw.alloc t z.cells⟩⟩
  simp only [execOp, Instr.alloc, Sem.run_bind, hz, Result.andThen_ok, newVar, newRow, newObj]
  rfl

theorem E_box {t : TypeId} {x : Operand} {v : Value} {cs : List Value} (hx : evO fr x = some v) (hc : CellsE C Γ Φ v cs) :
    Effs C fr Γ Φ ⟨some d, .box t x, ty, pos, aft, g⟩ (X := Nat) (fun _ => True) (fun b => .pointer (some ⟨b, 0, none⟩)) (fun b => .blk b t cs :: Γ) (fun _ => Φ) := by
  refine ⟨fun _ => AllIn.refl _, fun R a w ha hw => ?_⟩
  have hc := hc R w hw
  have hal := hw.alloc t v.cells
  rw [hc] at hal
  refine .val (w' := w.alloc (.cells v.cells t)) ?_ ⟨w.heap.size, trivial, rfl, by rw [hc]; exact hal⟩
  simp only [execOp, Instr.box, Sem.run_bind, newVar, newRow, newObj, evO_sound ha hx]
  rfl

/-- a store into an own block: v's cells are us. -/
theorem E_store {t bt : TypeId} {x y : Operand} {b off : Nat} {cs us ds : List Value} {v : Value} (hx : evO fr x = some (.pointer (some ⟨b, off, none⟩))) (hy : evO fr y = some v)
    (hp : Pick (.blk b bt cs) Γ Γ') (hv : CellsE C Γ Φ v us) (hs : ∀ w, (sizeOf t).run C.P w = .ok us.length w) (h1 : Ones C Γ Φ us) (hn : putN off us cs = some ds) :
    Effs C fr Γ Φ ⟨none, .store t x y, ty, pos, aft, g⟩ (X := Unit) (fun _ => True) (fun _ => undef) (fun _ => .blk b bt ds :: Γ') (fun _ => Φ) := by
  refine ⟨fun _ => AllIn.refl _, fun R a w ha hw => ?_⟩
  have hv := hv R w hw
  have h1 : ∀ u ∈ us, u.oneCell' = true := fun u hu => h1 u hu R w hw
  have hw' := pick_holds (pick_app hp R) hw
  have hb : w.heap[b]? = some (.cells cs.toArray bt (0, 0)) := hw'.own.1
  refine .skip (w' := w.setRow b ds.toArray) ?_ ⟨(), trivial, rfl, setRow_holds hw'⟩
  simp [execOp, evO_sound ha hx, evO_sound ha hy, Instr.storeAt, Instr.sureAddr, run_storeVar_own hb hs hv h1 hn]

end
end Go.Hs
