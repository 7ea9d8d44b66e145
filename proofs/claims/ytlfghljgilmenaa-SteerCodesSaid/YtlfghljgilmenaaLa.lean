/-
  The rules of the small logic for slices that are made, grown and written. No program is named here.
-/
import Derived.Test.YtlfghljgilmenaaLf
namespace Go.Hs
open Go Go.RowKit

/-- where data to be appended comes from: lasting cells. -/
theorem run_append_data {P : Program} (w : World) (t ty e : TypeId) (i : TypeInfo) (z : Value) (size : Nat) (ht : P.underlying t = some (.slice e)) (hi : P.info? e = some i) (hz : i.zero = some z)
    (hsize : i.size = size) (hzs : z.cells.size = size) (hsz : 0 < size)
    (v : Value) (n : Nat) (xs : List Value) (hown : w.ownsRow 0 e size v n xs)
    (u : Value) (m : Nat) (news : List Value) (O : Nat → Prop) (hsl : slP size u m news w O) (h1 : ∀ u ∈ news, u.oneCell' = true)
    (h63 : n + m ≤ maxLen) (hbytes : (n + m) * i.bytes ≤ 140737488355328) :
    ∃ v' w', (Builtin.append_ #[t, t] ty #[v, u]).run P w = .ok v' w' ∧ w'.ownsRow 0 e size v' (n + m) (xs ++ news) ∧ w.grownBy w' v.ownBlock ∧ (v'.ownBlock = v.ownBlock ∨ v'.ownBlock = some w.heap.size) := by
  obtain ⟨hl, A, c, rfl, _, _, hr⟩ := hsl
  cases A with
  | none =>
    have hm0 : m = 0 := by
      rcases Nat.eq_zero_or_pos m with h | h
      · exact h
      · obtain ⟨_, h, _⟩ := hr h; cases h
    subst hm0
    have hn : news = [] := List.eq_nil_of_length_eq_zero (by simpa using hl)
    subst hn
    refine ⟨v, w, ?_, by simpa using hown, World.grownBy.refl w _, .inl rfl⟩
    obtain ⟨A, c', rfl, hc, _⟩ := row_nil_or hown
    rcases A with _ | ad
    · have hn0 : n ≤ c' := hc
      simp [Builtin.append_, run_underlying ht, sizeOf, typeInfo, hi, Builtin.lenOf, Builtin.firstCells, hn0]
    · simp [Builtin.append_, run_underlying ht, sizeOf, typeInfo, hi, Builtin.lenOf, Builtin.firstCells, hc, storeCells]
  | some ad =>
    have hcells : ∀ j u, news[j]? = some u → w.cell? (ad.add j) = some u := by
      intro j u hu
      rcases Nat.eq_zero_or_pos m with h0 | h0
      · subst h0
        have hn : news = [] := List.eq_nil_of_length_eq_zero (by simpa using hl)
        subst hn
        simp at hu
      · obtain ⟨ad', h, _, _, hc⟩ := hr h0
        injection h with h
        subst h
        exact hc j u hu
    obtain ⟨v', w', hrun, h2, h3, _, h5⟩ := run_append_own_at (P := P) w 0 t ty e i z size i.bytes ht hi hz hsize rfl hzs hsz v n xs hown ad m c news hl hcells h1 h63 hbytes (Nat.zero_le _)
    exact ⟨v', w', hrun, h2, h3, h5⟩

section
variable {C : Ctx} {fr : Fr} {Γ Γ' Γ1 : List OA} {Φ : List SP}
  {d : Nat} {ty : TypeId} {pos : String} {aft : Array Edge} {g : Option (Nat × Bool)}

theorem Holds.grown {v v' : Value} {t : TypeId} {size n n' : Nat} {xs xs' : List Value} {w w' : World} (h : Holds C (.row v t size n xs :: Γ) Φ w) (hown : w'.ownsRow 0 t size v' n' xs') (hg : w.grownBy w' v.ownBlock)
    (hb : v'.ownBlock = v.ownBlock ∨ v'.ownBlock = some w.heap.size) : Holds C (.row v' t size n' xs' :: Γ) Φ w' := by
  have hold : ∀ k, k < w.heap.size → v'.ownBlock = some k → v.ownBlock = some k := fun k hk e => by
    rcases hb with hb | hb
    · rw [← hb]; exact e
    · rw [hb] at e; injection e with e; omega
  refine h.move ⟨hg.os, hg.tape, hg.output, hg.size, fun k hk hn => hg.block k hk fun e => hn (fpL_cons.2 (.inl e.symm))⟩ ⟨hown, fun k hk hn => ?_, h.own.2.2.keep fun k hk hn => hg.block k hk fun e => h.own.2.1 k e.symm hn⟩ fun k hk hk' => ?_
  · have hlt := Own.lt h.own.2.2 hn
    exact h.own.2.1 k (hold k hlt hk) hn
  · rcases fpL_cons.1 hk' with hk' | hk'
    · exact fpL_cons.2 (.inl (hold k hk hk'))
    · exact fpL_cons.2 (.inr hk')

/-- append to an own row, of lasting data. -/
theorem E_append {t e : TypeId} {x y : Operand} {v u : Value} {size n m nm : Nat} {xs news all : List Value} {i : TypeInfo} {z : Value}
    (hx : evO fr x = some v) (hy : evO fr y = some u) (hp : Pick (.row v e size n xs) Γ Γ') (hm : Sl size u m news ∈ Φ)
    (ht : C.P.underlying t = some (.slice e)) (hi : C.P.info? e = some i) (hz : i.zero = some z) (hsize : i.size = size) (hzs : z.cells.size = size) (hsz : 0 < size) (h1 : ∀ u ∈ news, u.oneCell' = true)
    (hby : i.bytes ≤ 128) (hb : n + m ≤ 1099511627776) (hnm : n + m = nm) (hall : xs ++ news = all) :
    Effs C fr Γ Φ ⟨some d, .call { callee := .builtin .append, args := #[x, y], argTypes := #[t, t] }, ty, pos, aft, g⟩ (X := Value) (fun _ => True) (fun q => q) (fun v' => .row v' e size nm all :: Γ') (fun _ => Φ) := by
  subst hnm; subst hall
  refine ⟨fun _ => AllIn.refl _, fun R a w ha hw => ?_⟩
  have hw' := pick_holds (pick_app hp R) hw
  have hbb : (n + m) * i.bytes ≤ 140737488355328 := Nat.le_trans (Nat.mul_le_mul hb hby) (by decide)
  obtain ⟨v', w', hrun, h2, h3, h4⟩ := run_append_data (P := C.P) w t ty e i z size ht hi hz hsize hzs hsz v n xs hw'.own.1 u m news _ (hw'.sp _ hm) h1 (by simp only [maxLen]; omega) hbb
  refine .val (v := v') (w' := w') ?_ ⟨v', trivial, rfl, hw'.grown h2 h3 h4⟩
  simp only [execOp, resolve, invoke, builtin, Sem.run_bind, Sem.run_pure, Result.andThen_ok, List.map_toArray, List.map_cons, List.map_nil, evO_sound ha hx, evO_sound ha hy, hrun]

theorem E_appendBy {t e : TypeId} {x y : Operand} {v u : Value} {n nm : Nat} {bs news all : List UInt8} {i : TypeInfo} {z : Value} {xs : List Value}
    (hx : evO fr x = some v) (hy : evO fr y = some u) (hp : Pick (.row v e 1 n xs) Γ Γ') (hm : By u news ∈ Φ) (hxs : xs = bs.map bcell)
    (ht : C.P.underlying t = some (.slice e)) (hi : C.P.info? e = some i) (hz : i.zero = some z) (hsize : i.size = 1) (hzs : z.cells.size = 1) (hby : i.bytes ≤ 128)
    (hb : n + news.length ≤ 1099511627776) (hnm : n + news.length = nm) (hall : bs ++ news = all) :
    Effs C fr Γ Φ ⟨some d, .call { callee := .builtin .append, args := #[x, y], argTypes := #[t, t] }, ty, pos, aft, g⟩ (X := Value) (fun _ => True) (fun q => q) (fun v' => .row v' e 1 nm (all.map bcell) :: Γ') (fun _ => Φ) := by
  subst hnm; subst hall; subst hxs
  refine ⟨fun _ => AllIn.refl _, fun R a w ha hw => ?_⟩
  have hw' := pick_holds (pick_app hp R) hw
  have hbb : (n + news.length) * i.bytes ≤ 140737488355328 := Nat.le_trans (Nat.mul_le_mul hb hby) (by decide)
  obtain ⟨v', w', hrun, h2, h3, h4⟩ := run_append_data (P := C.P) w t ty e i z 1 ht hi hz hsize hzs (by decide) v _ _ hw'.own.1 u news.length (news.map bcell) _ (hw'.sp _ hm) (bcells_one _) (by simp only [maxLen]; omega) hbb
  rw [← List.map_append] at h2
  refine .val (v := v') (w' := w') ?_ ⟨v', trivial, rfl, hw'.grown h2 h3 h4⟩
  simp only [execOp, resolve, invoke, builtin, Sem.run_bind, Sem.run_pure, Result.andThen_ok, List.map_toArray, List.map_cons, List.map_nil, evO_sound ha hx, evO_sound ha hy, hrun]

/-- append to an own row, of an own row (an element's own box, say): the second is let go. -/
theorem E_appendRow {t e : TypeId} {x y : Operand} {v u : Value} {size n m nm : Nat} {xs news all : List Value} {i : TypeInfo} {z : Value}
    (hx : evO fr x = some v) (hy : evO fr y = some u) (hp : Pick (.row v e size n xs) Γ Γ') (hp' : Pick (.row u e size m news) Γ' Γ1)
    (ht : C.P.underlying t = some (.slice e)) (hi : C.P.info? e = some i) (hz : i.zero = some z) (hsize : i.size = size) (hzs : z.cells.size = size) (hsz : 0 < size) (h1 : ∀ u ∈ news, u.oneCell' = true)
    (hby : i.bytes ≤ 128) (hb : n + m ≤ 1099511627776) (hnm : n + m = nm) (hall : xs ++ news = all) :
    Effs C fr Γ Φ ⟨some d, .call { callee := .builtin .append, args := #[x, y], argTypes := #[t, t] }, ty, pos, aft, g⟩ (X := Value) (fun _ => True) (fun q => q) (fun v' => .row v' e size nm all :: Γ1) (fun _ => Φ) := by
  refine ⟨fun _ => AllIn.refl _, fun R a w ha hw => ?_⟩
  have hw' := pick_holds (pick_app hp R) hw
  have hw'' := (hw'.perm ((List.Perm.cons _ (pick_app hp' R)).trans (.swap _ _ _))).letgo
  refine ((E_append (Γ := .row v e size n xs :: Γ1) (Γ' := Γ1) (Φ := Sl size u m news :: Φ) hx hy (.head _ _) List.mem_cons_self ht hi hz hsize hzs hsz h1 hby hb hnm hall).2 R a w ha hw'').mono ?_
  rintro v' w' ⟨x, hx, hv, hh⟩
  exact ⟨x, hx, hv, hh.sub fun ψ hψ => List.mem_cons_of_mem _ hψ⟩

/-- the same for bytes. -/
theorem E_appendRowB {t e : TypeId} {x y : Operand} {v u : Value} {n m nm : Nat} {bs news all : List UInt8} {xs ys : List Value} {i : TypeInfo} {z : Value}
    (hx : evO fr x = some v) (hy : evO fr y = some u) (hp : Pick (.row v e 1 n xs) Γ Γ') (hp' : Pick (.row u e 1 m ys) Γ' Γ1) (hxs : xs = bs.map bcell) (hys : ys = news.map bcell)
    (ht : C.P.underlying t = some (.slice e)) (hi : C.P.info? e = some i) (hz : i.zero = some z) (hsize : i.size = 1) (hzs : z.cells.size = 1)
    (hby : i.bytes ≤ 128) (hb : n + m ≤ 1099511627776) (hnm : n + m = nm) (hall : bs ++ news = all) :
    Effs C fr Γ Φ ⟨some d, .call { callee := .builtin .append, args := #[x, y], argTypes := #[t, t] }, ty, pos, aft, g⟩ (X := Value) (fun _ => True) (fun q => q) (fun v' => .row v' e 1 nm (all.map bcell) :: Γ1) (fun _ => Φ) :=
  E_appendRow hx hy hp hp' ht hi hz hsize hzs (by decide) (by subst hys; exact bcells_one _) hby hb hnm (by subst hxs; subst hys; subst hall; simp)

/-- a new row of an element type's zeros. -/
def zeros (z : Value) (n : Nat) : List Value := (madeCells z.cells n).toList

theorem own_new {w : World} {e : TypeId} {size n c : Nat} {cur : Array Value} (hs : cur.size = c * size) (hn : n ≤ c) (hm : c ≤ maxLen) :
    (w.alloc (.cells cur e)).ownsRow 0 e size (.slice (some ⟨w.heap.size, 0, none⟩) n c) n (cur.toList.take (n * size)) := by
  refine ⟨?_, .inr ⟨w.heap.size, c, cur, rfl, Nat.zero_le _, heap_alloc_new w _, hn, hm, hs, rfl⟩⟩
  rw [List.length_take, Array.length_toList, hs]
  exact Nat.min_eq_left (Nat.mul_le_mul_right _ hn)

theorem Holds.newRow {w : World} {e : TypeId} {size n c : Nat} {cur : Array Value} (h : Holds C Γ Φ w) (hs : cur.size = c * size) (hn : n ≤ c) (hm : c ≤ maxLen) :
    Holds C (.row (.slice (some ⟨w.heap.size, 0, none⟩) n c) e size n (cur.toList.take (n * size)) :: Γ) Φ (w.alloc (.cells cur e)) := by
  have ha := h.alloc e cur
  refine ha.move (Mod.refl _ _) ⟨own_new hs hn hm, fun k hk hn' => ?_, ha.own.2.2⟩ fun k _ hk => ?_
  · have : some w.heap.size = some k := hk
    injection this with this
    exact ha.own.2.1 k this.symm hn'
  · rcases fpL_cons.1 hk with hk | hk
    · have : some w.heap.size = some k := hk
      injection this with this
      exact fpL_cons.2 (.inl this.symm)
    · exact fpL_cons.2 (.inr hk)

/-- make([]T, n) or make([]T, n, c). -/
theorem E_make {t e : TypeId} {x y : Operand} {kl kc : IntKind} {il ic : Int} {n c size : Nat} {i : TypeInfo} {z : Value} {us : List Value}
    (hx : evO fr x = some (.int kl il)) (hy : evO fr y = some (.int kc ic)) (hil : il = (n : Int)) (hic : ic = (c : Int)) (hnc : n ≤ c)
    (ht : C.P.underlying t = some (.slice e)) (hi : C.P.info? e = some i) (hz : i.zero = some z) (hsize : i.size = size) (hby : i.bytes ≤ 128) (hc : c ≤ 1099511627776) (hu : (madeCells z.cells (c * size)).toList.take (n * size) = us) :
    Effs C fr Γ Φ ⟨some d, .makeSlice t x y, ty, pos, aft, g⟩ (X := Value) (fun _ => True) (fun q => q) (fun v' => .row v' e size n us :: Γ) (fun _ => Φ) := by
  subst hil; subst hic; subst hsize; subst hu
  refine ⟨fun _ => AllIn.refl _, fun R a w ha hw => ?_⟩
  have hb : (i.bytes : Int) * (c : Int) ≤ 281474976710656 := by
    have h : i.bytes * c ≤ 281474976710656 := Nat.le_trans (Nat.mul_le_mul hby hc) (by decide)
    have h' : ((i.bytes * c : Nat) : Int) ≤ 281474976710656 := by omega
    rwa [Int.natCast_mul] at h'
  have hr := run_make (P := C.P) w t e i z ht hi hz kl kc n c (by omega) (by omega) hb (by omega)
  simp only [Int.toNat_natCast] at hr
  refine .val (v := .slice (some ⟨w.heap.size, 0, none⟩) n c) (w' := w.alloc (.cells (madeCells z.cells (c * i.size)) e)) ?_ ⟨_, trivial, rfl, hw.newRow (by simp [madeCells]) hnc (by simp only [maxLen]; omega)⟩
  simp only [execOp, evO_sound ha hx, evO_sound ha hy, Sem.run_bind, hr, Result.andThen_ok, Sem.run_pure]

-- ===== literals of structs and slices =====

theorem fold_set : ∀ (us : List Value) (k off : Nat) (cs : List Value), off + k + us.length ≤ cs.length →
    ((us.zipIdx k).foldl (fun (cs : Array Value) (p : Value × Nat) => cs.setIfInBounds (off + p.2) p.1) cs.toArray) = (cs.take (off + k) ++ us ++ cs.drop (off + k + us.length)).toArray
  | [], k, off, cs, _ => by simp
  | u :: us, k, off, cs, h => by
    simp only [List.length_cons] at h
    have hlt : off + k < cs.length := by omega
    simp only [List.zipIdx_cons, List.foldl_cons, List.setIfInBounds_toArray]
    rw [fold_set us (k + 1) off (cs.set (off + k) u) (by simp; omega)]
    congr 1
    have e1 : (cs.set (off + k) u).take (off + (k + 1)) = cs.take (off + k) ++ [u] := by
      rw [← Nat.add_assoc, List.take_add_one, List.take_set_of_le (Nat.le_refl _), List.getElem?_set_self hlt]
      rfl
    have e2 : (cs.set (off + k) u).drop (off + (k + 1) + us.length) = cs.drop (off + k + (us.length + 1)) := by
      rw [List.drop_set_of_lt (by omega)]
      congr 1
      omega
    rw [e1, e2]
    simp

/-- the parts of a struct, laid over its zeros. -/
def fillO (pl : List (Nat × Nat)) : List Value → List (Nat × List Value) → Option (List Value)
  | cs, [] => some cs
  | cs, (i, us) :: r => match pl[i]? with
    | some (off, sz) => bif Nat.beq us.length sz then (match putN off us cs with
      | some ds => fillO pl ds r
      | none => none) else none
    | none => none

def PartsE (C : Ctx) (Γ : List OA) (Φ : List SP) : List (Nat × Value) → List (Nat × List Value) → Prop
  | [], [] => True
  | (i, v) :: r, (j, us) :: s => i = j ∧ CellsE C Γ Φ v us ∧ PartsE C Γ Φ r s
  | _, _ => False
theorem PartsE.nil {C : Ctx} {Γ : List OA} {Φ : List SP} : PartsE C Γ Φ [] [] := trivial
theorem PartsE.cons {C : Ctx} {Γ : List OA} {Φ : List SP} {i : Nat} {v : Value} {us : List Value} {r : List (Nat × Value)} {s : List (Nat × List Value)} (h : CellsE C Γ Φ v us) (k : PartsE C Γ Φ r s) : PartsE C Γ Φ ((i, v) :: r) ((i, us) :: s) := ⟨rfl, h, k⟩

theorem fill_eq {pl : List (Nat × Nat)} {R : List OA} {w : World} (hw : Holds C (Γ ++ R) Φ w) : ∀ {ps : List (Nat × Value)} {qs : List (Nat × List Value)} {cs ds : List Value}, PartsE C Γ Φ ps qs → fillO pl cs qs = some ds →
    Instr.fill (fun i => pl.toArray[i]?) cs.toArray ps = some ds.toArray
  | [], [], cs, ds, _, h => by
    simp only [fillO, Option.some.injEq] at h
    subst h
    rfl
  | [], _ :: _, _, _, h, _ => h.elim
  | _ :: _, [], _, _, h, _ => h.elim
  | (i, v) :: r, (j, us) :: s, cs, ds, hp, h => by
    obtain ⟨rfl, hc, hp⟩ := hp
    have hc := hc R w hw
    simp only [fillO] at h
    cases hpl : pl[i]? with
    | none => rw [hpl] at h; cases h
    | some os =>
      obtain ⟨off, sz⟩ := os
      rw [hpl] at h
      simp only at h
      cases hb : Nat.beq us.length sz with
      | false => rw [hb] at h; cases h
      | true =>
        rw [hb] at h
        have hsz : us.length = sz := Nat.eq_of_beq_eq_true hb
        cases hpn : putN off us cs with
        | none => rw [hpn] at h; cases h
        | some es =>
          rw [hpn] at h
          obtain ⟨hl, rfl⟩ := putN_eq hpn
          have ih := fill_eq hw hp h
          have hf := fold_set us 0 off cs (by simpa using hl)
          simp only [Nat.add_zero] at hf
          have h1 : pl.toArray[i]? = some (off, sz) := by simpa using hpl
          simp only [Instr.fill, h1, hc]
          rw [if_neg (by simp [hsz]; omega)]
          rw [← ih, ← hf]
          congr 1
          rw [← Array.foldl_toList]
          simp

theorem R_build {t : TypeId} {fs : Array Field} {parts : Array (Nat × Operand)} {pv : List (Nat × Value)} {qs : List (Nat × List Value)} {z : Value} {zs ds : List Value} {pl : List (Nat × Nat)}
    (hpv : evPs fr parts.toList = some pv) (hq : PartsE C Γ Φ pv qs) (hz : ∀ w, (zeroValue t).run C.P w = .ok z w) (hzs : listO z.cells.toList = some zs) (ht : C.P.underlying t = some (.struct fs))
    (hpl : ∀ w, Sem.run C.P (fs.mapM fun (f : Field) => (do pure (f.offset, ← sizeOf f.type) : Sem (Nat × Nat))) w = .ok pl.toArray w) (hf : fillO pl zs qs = some ds) :
    Runs C fr Γ Φ ⟨some d, .build t parts, ty, pos, aft, g⟩ (.agg ds.toArray) :=
  Runs.pure fun a w ha hw => by
    have h1 := fill_eq (R := []) (by simpa using hw) hq hf
    have e : z.cells = zs.toArray := by rw [← listO_eq hzs]
    simp only [execOp, evPs_sound ha hpv, Instr.build, Sem.run_bind, hz, Result.andThen_ok, run_underlying ht, hpl, e, h1, Sem.run_pure]

/-- the elements of a slice literal, one behind the other. -/
def SeqE (C : Ctx) (Γ : List OA) (Φ : List SP) (size : Nat) : Nat → List (Nat × Value) → List Value → Prop
  | _, [], us => us = []
  | k, (i, v) :: r, us => i = k ∧ ∃ u1 u2, us = u1 ++ u2 ∧ u1.length = size ∧ CellsE C Γ Φ v u1 ∧ SeqE C Γ Φ size (k + 1) r u2
theorem SeqE.nil {C : Ctx} {Γ : List OA} {Φ : List SP} {size k : Nat} : SeqE C Γ Φ size k [] [] := rfl
theorem SeqE.cons {C : Ctx} {Γ : List OA} {Φ : List SP} {size k : Nat} {i : Nat} {v : Value} {u1 u2 us : List Value} {r : List (Nat × Value)} (hi : i = k) (h : CellsE C Γ Φ v u1) (hl : u1.length = size) (hs : SeqE C Γ Φ size (k + 1) r u2) (ha : appO u1 u2 = some us) : SeqE C Γ Φ size k ((i, v) :: r) us :=
  ⟨hi, u1, u2, (appO_eq ha).symm, hl, h, hs⟩

theorem fill_seq {size : Nat} {R : List OA} {w : World} (hw : Holds C (Γ ++ R) Φ w) : ∀ {ps : List (Nat × Value)} {k : Nat} {us done rest : List Value}, SeqE C Γ Φ size k ps us → done.length = k * size → rest.length = us.length →
    Instr.fill (fun i => some (i * size, size)) (done ++ rest).toArray ps = some (done ++ us).toArray
  | [], k, us, done, rest, h, _, hr => by
    have h : us = [] := h
    subst h
    have : rest = [] := List.eq_nil_of_length_eq_zero (by simpa using hr)
    subst this
    rfl
  | (i, v) :: r, k, us, done, rest, h, hd, hr => by
    obtain ⟨rfl, u1, u2, rfl, hl, hc, hs⟩ := h
    have hc := hc R w hw
    have hlen : i * size + size ≤ (done ++ rest).length := by simp [hd, hr, hl]
    have hf := fold_set u1 0 (i * size) (done ++ rest) (by simpa [hl] using hlen)
    have e1 : (done ++ rest).take (i * size) = done := by rw [← hd]; simp
    have e2 : (done ++ rest).drop (i * size + u1.length) = rest.drop u1.length := by rw [← hd, ← List.drop_drop]; simp
    simp only [Nat.add_zero, e1, e2] at hf
    simp only [Instr.fill, hc]
    rw [if_neg (by simp [hl] at hlen ⊢; omega)]
    have ih := fill_seq hw hs (done := done ++ u1) (rest := rest.drop u1.length) (by simp [hd, hl, Nat.add_mul]) (by simp [hr])
    rw [← List.append_assoc done u1 u2, ← ih]
    congr 1
    rw [← Array.foldl_toList]
    simpa using hf

/-- a slice literal. -/
theorem E_buildSlice {t e : TypeId} {len : Nat} {parts : Array (Nat × Operand)} {pv : List (Nat × Value)} {size : Nat} {us : List Value} {z : Value}
    (hpv : evPs fr parts.toList = some pv) (hq : SeqE C Γ Φ size 0 pv us) (ht : C.P.underlying t = some (.slice e)) (hs : ∀ w, (sizeOf e).run C.P w = .ok size w) (hz : ∀ w, (zeroValue e).run C.P w = .ok z w)
    (hl : us.length = len * size) (hm : len * size ≤ 16777216) (hm' : len ≤ 16777216) :
    Effs C fr Γ Φ ⟨some d, .buildSlice t len parts, ty, pos, aft, g⟩ (X := Value) (fun _ => True) (fun q => q) (fun v' => .row v' e size len us :: Γ) (fun _ => Φ) := by
  refine ⟨fun _ => AllIn.refl _, fun R a w ha hw => ?_⟩
  have hn := hw.newRow (e := e) (size := size) (n := len) (c := len) (cur := us.toArray) (by simpa using hl) (Nat.le_refl _) (by simp only [maxLen]; omega)
  rw [show us.toArray.toList.take (len * size) = us from by rw [← hl]; simp] at hn
  have key : ∀ zc : Array Value, Instr.fill (fun i => some (i * size, size)) ((Array.range (len * size)).map (zc[· % zc.size]!)) pv = some us.toArray := fun zc => by
    have h1 := fill_seq hw hq (done := []) (rest := ((Array.range (len * size)).map (zc[· % zc.size]!)).toList) (by simp) (by simp [hl])
    rw [List.nil_append, List.nil_append, Array.toArray_toList] at h1
    exact h1
  have hm2 : ¬ len * size > 2 ^ 24 := by omega
  refine .val (v := .slice (some ⟨w.heap.size, 0, none⟩) len len) (w' := w.alloc (.cells us.toArray e)) ?_ ⟨_, trivial, rfl, hn⟩
  have hr : (Instr.buildSlice t len pv.toArray).run C.P w = .ok (.slice (some ⟨w.heap.size, 0, none⟩) len len) (w.alloc (.cells us.toArray e)) := by
    by_cases h0 : len * size = 0
    · have hk := key #[]
      have h3 : ¬ (0 : Nat) > 2 ^ 24 := by decide
      rw [h0] at hk
      simp only [Instr.buildSlice, Sem.run_bind, run_underlying ht, hs, Result.andThen_ok, h0, h3, if_false, if_true, Sem.run_pure, hk, newRow, newObj]
      rfl
    · simp only [Instr.buildSlice, Sem.run_bind, run_underlying ht, hs, Result.andThen_ok, hm2, if_false, h0, hz, Sem.run_pure, key, newRow, newObj]
      rfl
  simp only [execOp, evPs_sound ha hpv, Sem.run_bind, hr, Result.andThen_ok, Sem.run_pure]

theorem R_field1 {t : TypeId} {fs : Array Field} {x : Operand} {cs : List Value} {i : Nat} {f : Field} {v : Value} (hx : evO fr x = some (.agg cs.toArray)) (ht : C.P.underlying t = some (.struct fs)) (hf : fs[i]? = some f)
    (hagg : ∀ w, (isAgg f.type).run C.P w = .ok false w) (hc : cs[f.offset]? = some v) : Runs C fr Γ Φ ⟨some d, .field t x i, ty, pos, aft, g⟩ v :=
  Runs.pure fun a w ha _ => by
    have hc' : cs.toArray[f.offset]? = some v := by simpa using hc
    simp only [execOp, evO_sound ha hx, Instr.field, Sem.run_bind, run_underlying ht, Result.andThen_ok, hf, asAgg, part, hagg, Sem.run_pure, Bool.false_eq_true, if_false, hc']

theorem R_fieldN {t : TypeId} {fs : Array Field} {x : Operand} {cs us : List Value} {i n : Nat} {f : Field} (hx : evO fr x = some (.agg cs.toArray)) (ht : C.P.underlying t = some (.struct fs)) (hf : fs[i]? = some f)
    (hagg : ∀ w, (isAgg f.type).run C.P w = .ok true w) (hs : ∀ w, (sizeOf f.type).run C.P w = .ok n w) (hc : takeN f.offset n cs = some us) : Runs C fr Γ Φ ⟨some d, .field t x i, ty, pos, aft, g⟩ (.agg us.toArray) :=
  Runs.pure fun a w ha _ => by
    obtain ⟨h1, h2⟩ := takeN_at hc
    have he : cs.toArray.extract f.offset (f.offset + n) = us.toArray := by
      apply Array.ext'
      simp only [List.extract_toArray, List.extract_eq_take_drop]
      apply List.ext_getElem?
      intro j
      by_cases hj : j < n
      · have hu : us[j]? = some (us[j]'(by omega)) := List.getElem?_eq_getElem (by omega)
        rw [hu, List.getElem?_take, if_pos (by omega), List.getElem?_drop]
        exact h2 j _ hu
      · rw [List.getElem?_eq_none (l := us) (by omega), List.getElem?_take, if_neg (by omega)]
    simp only [execOp, evO_sound ha hx, Instr.field, Sem.run_bind, run_underlying ht, Result.andThen_ok, hf, asAgg, part, hagg, hs, Sem.run_pure, if_true, he]

end
end Go.Hs
