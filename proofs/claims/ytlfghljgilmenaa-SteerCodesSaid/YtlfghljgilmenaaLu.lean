/-
  Elements of own rows of structs, boxes let go, own rows cut and cleared, max. No program is named here.
-/
import Derived.Test.YtlfghljgilmenaaLt
namespace Go.Hs
open Go Go.RowKit

/-- a truth kept out of the way of reckoning tactics. -/
structure Kp (p : Prop) : Prop where
  out : p

theorem row_cell {w : World} {v : Value} {t : TypeId} {size n : Nat} {xs : List Value} (h : w.ownsRow 0 t size v n xs) {k : Nat} {u : Value} (hk : xs[k]? = some u) :
    ∃ b c cur, v = .slice (some ⟨b, 0, none⟩) n c ∧ w.heap[b]? = some (.cells cur t (0, 0)) ∧ n ≤ c ∧ cur.size = c * size ∧ cur.toList.take (n * size) = xs ∧ w.cell? ⟨b, k, none⟩ = some u := by
  obtain ⟨h1, h2⟩ := h
  have hlt := (List.getElem?_eq_some_iff.1 hk).1
  rcases h2 with ⟨rfl, rfl⟩ | ⟨g, cap, cur, rfl, _, hh, hc, hm, hs, ht⟩
  · omega
  · refine ⟨g, cap, cur, rfl, hh, hc, hs, ht, ?_⟩
    simp only [World.cell?, hh]
    rw [← ht, List.getElem?_take_of_lt (by omega)] at hk
    simpa using hk

theorem putN_mk : ∀ (off : Nat) (us cs : List Value), off + us.length ≤ cs.length → putN off us cs = some (cs.take off ++ us ++ cs.drop (off + us.length)) := by
  intro off
  induction off with
  | zero =>
    intro us
    induction us with
    | nil => intro cs _; rw [putN_nil]; simp
    | cons u us ih =>
      intro cs hcs
      cases cs with
      | nil => simp at hcs
      | cons c cs =>
        have ih' := ih cs (by simp at hcs; omega)
        simp only [putN, ih']
        simp
  | succ off ih =>
    intro us cs hcs
    cases cs with
    | nil => simp at hcs
    | cons c cs =>
      have ih' := ih us cs (by simp at hcs; omega)
      simp only [putN, ih']
      simp [Nat.add_right_comm]

section
variable {C : Ctx} {ops : Array Oper} {l : List Oper} {fr : Fr} {Γ Γ' Γ1 : List OA} {Φ : List SP} {Q : Exit → Act → World → Prop}
  {d : Nat} {ty : TypeId} {pos : String} {aft : Array Edge} {g : Option (Nat × Bool)}

/-- an 'if' stands next. -/
theorem W_isIf {id : Nat} {o : Array Oper} {bb : Bool} {c : Operand} {x y z : Code} (h : W C (.seq (.seq (.region id o bb) (.cond c x y)) z) fr Γ Φ Q) : W C (.seq (.seq (.region id o bb) (.cond c x y)) z) fr Γ Φ Q := h

theorem R_max2 {x y : Operand} {kd : IntKind} {a b m : Int} {ts : Array TypeId} (hx : evO fr x = some (.int kd a)) (hy : evO fr y = some (.int kd b))
    (hr : (if b > a then b else a) = m) : Runs C fr Γ Φ ⟨some d, .call { callee := .builtin .max, args := #[x, y], argTypes := ts }, ty, pos, aft, g⟩ (.int kd m) :=
  Runs.pure fun a' w ha _ => by
    subst hr
    simp [execOp, resolve, invoke, builtin, evO_sound ha hx, evO_sound ha hy, Builtin.max_, Builtin.max2]
theorem R_min2 {x y : Operand} {kd : IntKind} {a b m : Int} {ts : Array TypeId} (hx : evO fr x = some (.int kd a)) (hy : evO fr y = some (.int kd b))
    (hr : (if b < a then b else a) = m) : Runs C fr Γ Φ ⟨some d, .call { callee := .builtin .min, args := #[x, y], argTypes := ts }, ty, pos, aft, g⟩ (.int kd m) :=
  Runs.pure fun a' w ha _ => by
    subst hr
    simp [execOp, resolve, invoke, builtin, evO_sound ha hx, evO_sound ha hy, Builtin.min_, Builtin.min2]

theorem R_addS {x y : Operand} {t t' : TypeId} {a b : List UInt8} (hx : evO fr x = some (strV a)) (hy : evO fr y = some (strV b)) (hl : a.length + b.length ≤ 9223372036854775807) :
    Runs C fr Γ Φ ⟨some d, .binOp .add t x y t', ty, pos, aft, g⟩ (strV (a ++ b)) :=
  Runs.pure fun a' w ha _ => by
    have e1 := evO_sound ha hx
    have e2 := evO_sound ha hy
    simp only [strV] at e1 e2
    have hb : (⟨a.toArray⟩ : ByteArray) ++ ⟨b.toArray⟩ = ⟨(a ++ b).toArray⟩ := by
      apply ByteArray.ext
      rw [ByteArray.data_append]
      simp
    have hn : ¬ ((((⟨a.toArray⟩ : ByteArray).size + (⟨b.toArray⟩ : ByteArray).size : Nat) : Int) > IntKind.i64.max) := by
      have e3 : (⟨a.toArray⟩ : ByteArray).size = a.length := by simp [ByteArray.size]
      have e4 : (⟨b.toArray⟩ : ByteArray).size = b.length := by simp [ByteArray.size]
      rw [e3, e4]
      have : IntKind.i64.max = 9223372036854775807 := rfl
      omega
    have hg : (eqGuard .add t x y (.string ⟨a.toArray⟩) (.string ⟨b.toArray⟩)).run C.P w = .ok () w := by simp [eqGuard]
    simp only [execOp, e1, e2, hg, binOp, Op.stringOp, Sem.run_bind, if_neg hn, Sem.run_pure, Result.andThen_ok, hb, strV]

/-- a list laid open: all its cells. -/
theorem ent_rwSl {v : Value} {size n : Nat} {f : Nat → List Value} {xs : List Value} (h0 : 0 < size) (hl : xs.length = n * size) (hf : ∀ i, i < n → (xs.drop (i * size)).take size = f i) (hm : Rw size v n f ∈ Φ) : Ent Φ (Sl size v n xs) := fun w O h => by
  obtain ⟨A, c, hv, h1, h2, hr⟩ := h _ hm
  refine ⟨hl, A, c, hv, h1, h2, fun hn => ?_⟩
  obtain ⟨ad, hA, hlt, hO, hcell⟩ := hr hn
  refine ⟨ad, hA, hlt, hO, fun j u hu => ?_⟩
  have hj : j < n * size := by rw [← hl]; exact (List.getElem?_eq_some_iff.1 hu).1
  have hi : j / size < n := (Nat.div_lt_iff_lt_mul h0).2 hj
  have hj2 : j / size * size + j % size = j := by rw [Nat.mul_comm]; exact Nat.div_add_mod j size
  have h3 := hcell (j / size) hi (j % size) u (by
    rw [← hf _ hi, List.getElem?_take_of_lt (Nat.mod_lt _ h0), List.getElem?_drop, hj2]
    exact hu)
  rwa [hj2] at h3

theorem Ones.append {us vs : List Value} (h : Ones C Γ Φ us) (k : Ones C Γ Φ vs) : Ones C Γ Φ (us ++ vs) := fun u hu => (List.mem_append.1 hu).elim (h u) (k u)
theorem ones_tree {t : T} (hm : t.tf ∈ Φ) : Ones C Γ Φ t.cells := by
  have key : ∀ (t : T) (O : Nat → Prop) (w : World), t.tfP w O → ∀ u ∈ t.cells, u.oneCell' = true := by
    intro t O w
    induction t with
    | nil => intro _ u hu; cases hu
    | cons id ext dv data sv subs next _ ih =>
      intro h u hu
      simp only [T.cells, List.mem_cons] at hu
      rcases hu with rfl | rfl | rfl | rfl | hu
      · rfl
      · rfl
      · obtain ⟨_, A, c, rfl, _⟩ := (show slP 1 u data.length (data.map bcell) w O from h.1)
        rfl
      · obtain ⟨A, c, rfl, _⟩ := (show rwP 4 u subs.len subs.at_ w O from h.2.1)
        rfl
      · exact ih h.2.2.2 u hu
  exact fun u hu R w hw => key t _ w (hw.sp _ hm) u hu
theorem ent_rwT {v : Value} {t : T} (hm : Rw 4 v t.len t.at_ ∈ Φ) : Ent Φ (Sl 4 v t.len t.cells) := ent_rwSl (by decide) (T.cells_length t) (fun i hi => T.cells_at t i hi) hm

/-- append to an own row, of lasting data whose cells are each one. -/
theorem E_appendO {t e : TypeId} {x y : Operand} {v u : Value} {size n m nm : Nat} {xs news all : List Value} {i : TypeInfo} {z : Value}
    (hx : evO fr x = some v) (hy : evO fr y = some u) (hp : Pick (.row v e size n xs) Γ Γ') (hm : Sl size u m news ∈ Φ)
    (ht : C.P.underlying t = some (.slice e)) (hi : C.P.info? e = some i) (hz : i.zero = some z) (hsize : i.size = size) (hzs : z.cells.size = size) (hsz : 0 < size) (h1 : Ones C Γ Φ news)
    (hby : i.bytes ≤ 128) (hb : n + m ≤ 1099511627776) (hnm : n + m = nm) (hall : xs ++ news = all) :
    Effs C fr Γ Φ ⟨some d, .call { callee := .builtin .append, args := #[x, y], argTypes := #[t, t] }, ty, pos, aft, g⟩ (X := Value) (fun _ => True) (fun q => q) (fun v' => .row v' e size nm all :: Γ') (fun _ => Φ) := by
  refine ⟨fun _ => AllIn.refl _, fun R a w ha hw => ?_⟩
  exact (E_append hx hy hp hm ht hi hz hsize hzs hsz (fun u hu => h1 u hu R w hw) hby hb hnm hall).2 R a w ha hw

/-- a field's address in an element of an own row. -/
theorem R_fieldRow {t ft rt : TypeId} {fs : Array Field} {x : Operand} {v : Value} {i j n fo bo size sz : Nat} {xs : List Value} {nm tag pk : String} {emb : Bool} (hx : evO fr x = some (idxV size i v))
    (hp : Pick (.row v rt size n xs) Γ Γ') (hi : i < n)
    (ht : C.P.underlying t = some (.struct fs)) (hf : fs[j]? = some ⟨nm, ft, fo, emb, tag, pk, bo⟩) (hs : ∀ w, (sizeOf ft).run C.P w = .ok sz w) (hn : Nat.beq sz 0 = false) :
    Runs C fr Γ Φ ⟨some d, .fieldAddr t x j, ty, pos, aft, g⟩ (fldV fo (idxV size i v)) :=
  Runs.pure fun a w ha hw => by
    obtain ⟨hl, h2⟩ := (pick_holds hp hw).own.1
    rcases h2 with ⟨h2, _⟩ | ⟨b, cap, cur, rfl, _, hb, hc, hm, hsz, htk⟩
    · omega
    · have h := run_fieldAt (P := C.P) (a := (⟨b, 0, none⟩ : Addr).add (i * size)) ht hf hs hn w
      simp only [execOp, evO_sound ha hx, idxV, Sem.run_bind, h, Result.andThen_ok, Sem.run_pure, fldV]

theorem R_loadRowF {t rt : TypeId} {x : Operand} {v u : Value} {n i off size : Nat} {xs : List Value} (hx : evO fr x = some (fldV off (idxV size i v))) (hp : Pick (.row v rt size n xs) Γ Γ') (hagg : ∀ w, (isAgg t).run C.P w = .ok false w)
    (hc : xs[i * size + off]? = some u) : Runs C fr Γ Φ ⟨some d, .load t x, ty, pos, aft, g⟩ u :=
  Runs.pure fun a w ha hw => by
    obtain ⟨b, c, cur, rfl, hb, _, _, _, h0⟩ := row_cell (pick_holds hp hw).own.1 hc
    have h0 : w.cell? (((⟨b, 0, none⟩ : Addr).add (i * size)).add off) = some u := by
      rw [Addr.add_lit, Addr.add_lit, Nat.zero_add]
      exact h0
    simp [execOp, evO_sound ha hx, idxV, fldV, Instr.loadAt, Instr.sureAddr, run_loadVar_one hagg h0]

theorem R_loadRowN {t rt : TypeId} {x : Operand} {v : Value} {n i size : Nat} {xs us : List Value} (hx : evO fr x = some (idxV size i v)) (hp : Pick (.row v rt size n xs) Γ Γ') (hagg : ∀ w, (isAgg t).run C.P w = .ok true w)
    (hs : ∀ w, (sizeOf t).run C.P w = .ok us.length w) (hi : i < n) (hc : ∀ j u, us[j]? = some u → xs[i * size + j]? = some u) : Runs C fr Γ Φ ⟨some d, .load t x, ty, pos, aft, g⟩ (.agg us.toArray) :=
  Runs.pure fun a w ha hw => by
    obtain ⟨hl, h2⟩ := (pick_holds hp hw).own.1
    rcases h2 with ⟨h2, _⟩ | ⟨b, cap, cur, rfl, _, hb, hcc, hm, hsz, htk⟩
    · omega
    · have hcell : ∀ j u, us[j]? = some u → w.cell? (((⟨b, 0, none⟩ : Addr).add (i * size)).add j) = some u := fun j u hu => by
        obtain ⟨b', c, cur', e, _, _, _, _, h0⟩ := row_cell (pick_holds hp hw).own.1 (hc j u hu)
        injection e with e
        injection e with e
        injection e with e
        subst e
        rw [Addr.add_lit, Addr.add_lit, Nat.zero_add]
        exact h0
      simp [execOp, evO_sound ha hx, idxV, Instr.loadAt, Instr.sureAddr, run_loadVar_agg hagg hs hcell]

/-- a store into an own row, at whatever place. -/
theorem E_storeRowK {t rt : TypeId} {x y : Operand} {v z : Value} {n i off size k : Nat} {xs us ds : List Value} (hx : evO fr x = some (fldV off (idxV size i v))) (hy : evO fr y = some z) (hp : Pick (.row v rt size n xs) Γ Γ')
    (hv : CellsE C Γ Φ z us) (h1 : Ones C Γ Φ us) (hs : ∀ w, (sizeOf t).run C.P w = .ok us.length w) (hi : i < n) (hk : i * size + off = k) (hn : putN k us xs = some ds) :
    Effs C fr Γ Φ ⟨none, .store t x y, ty, pos, aft, g⟩ (X := Unit) (fun _ => True) (fun _ => undef) (fun _ => .row v rt size n ds :: Γ') (fun _ => Φ) := by
  subst hk
  refine ⟨fun _ => AllIn.refl _, fun R a w ha hw => ?_⟩
  have hv := hv R w hw
  have h1 : ∀ u ∈ us, u.oneCell' = true := fun u hu => h1 u hu R w hw
  have hw' := pick_holds (pick_app hp R) hw
  obtain ⟨hl, h2⟩ := hw'.own.1
  rcases h2 with ⟨h2, _⟩ | ⟨b, cap, cur, rfl, _, hb, hcc, hm, hsz, htk⟩
  · omega
  · obtain ⟨hlen, hds⟩ := putN_eq hn
    have hle : xs.length ≤ cur.size := by rw [← htk]; simp; omega
    have hb' : w.heap[b]? = some (.cells cur.toList.toArray rt (0, 0)) := by simpa using hb
    have hpp := putN_mk (i * size + off) us cur.toList (by simp; omega)
    have hst := run_storeVar_own (P := C.P) (w := w) (t := t) (us := us) (v := z) hb' hs hv h1 hpp
    have hna : (off + i * size) = i * size + off := by omega
    refine .skip (w' := w.setRow b (cur.toList.take (i * size + off) ++ us ++ cur.toList.drop (i * size + off + us.length)).toArray) ?_ ⟨(), trivial, rfl, setRow_row hw' hb ?_ ?_⟩
    · simp only [execOp, evO_sound ha hx, evO_sound ha hy, fldV, idxV, Addr.add_lit, Nat.zero_add]
      simp [Instr.storeAt, Instr.sureAddr, hst]
    · simp
      omega
    · rw [hds, ← htk]
      apply List.ext_getElem?
      intro j
      have hcs : n * size ≤ cur.size := by rw [hsz]; exact Nat.mul_le_mul_right _ hcc
      simp only [List.getElem?_append, List.getElem?_take, List.getElem?_drop, List.length_append, List.length_take, Array.length_toList]
      rw [Nat.min_eq_left (show i * size + off ≤ cur.size by omega), Nat.min_eq_left hcs, Nat.min_eq_left (show i * size + off ≤ n * size by omega)]
      by_cases c1 : j < i * size + off
      · rw [if_pos (show j < n * size by omega), if_pos (show j < i * size + off + us.length by omega), if_pos c1, if_pos c1, if_pos (show j < i * size + off + us.length by omega), if_pos c1, if_pos c1, if_pos (show j < n * size by omega)]
      · by_cases c2 : j < i * size + off + us.length
        · rw [if_pos (show j < n * size by omega), if_pos c2, if_neg c1, if_pos c2, if_neg c1]
        · by_cases c3 : j < n * size
          · rw [if_pos c3, if_neg c2, if_neg c2, if_pos (by omega)]
          · rw [if_neg c3, if_neg c2, if_neg (by omega)]

theorem E_storeRowN {t rt : TypeId} {x y : Operand} {v z : Value} {n i size k : Nat} {xs us ds : List Value} (hx : evO fr x = some (idxV size i v)) (hy : evO fr y = some z) (hp : Pick (.row v rt size n xs) Γ Γ')
    (hv : CellsE C Γ Φ z us) (h1 : Ones C Γ Φ us) (hs : ∀ w, (sizeOf t).run C.P w = .ok us.length w) (hi : i < n) (hk : i * size = k) (hn : putN k us xs = some ds) :
    Effs C fr Γ Φ ⟨none, .store t x y, ty, pos, aft, g⟩ (X := Unit) (fun _ => True) (fun _ => undef) (fun _ => .row v rt size n ds :: Γ') (fun _ => Φ) := by
  have key : ∀ (O : List OA) (w : World), Holds C (Γ ++ O) Φ w → fldV 0 (idxV size i v) = idxV size i v := fun O w hw => by
    obtain ⟨hl, h2⟩ := (pick_holds (pick_app hp O) hw).own.1
    rcases h2 with ⟨h2, _⟩ | ⟨b, cap, cur, rfl, _, hb, hcc, hm, hsz, htk⟩
    · omega
    · simp only [idxV, fldV, Addr.add_lit, Nat.add_zero]
  refine ⟨fun _ => AllIn.refl _, fun R a w ha hw => ?_⟩
  have hx' : evO fr x = some (fldV 0 (idxV size i v)) := by rw [key R w hw]; exact hx
  exact (E_storeRowK hx' hy hp hv h1 hs hi (by rw [Nat.add_zero]; exact hk) hn).2 R a w ha hw

/-- an own block, let go. -/
theorem Holds.letgoK {b : Nat} {t : TypeId} {cs : List Value} {w : World} (h : Holds C (.blk b t cs :: Γ) Φ w) : Holds C Γ (Pt (.pointer (some ⟨b, 0, none⟩)) cs :: Φ) w := by
  have ho := h.own
  refine h.drop.cons ⟨⟨b, 0, none⟩, rfl, OA.lt ho.1 rfl, fun hO => ?_, fun j u hu => ?_⟩
  · rcases hO with hO | hO
    · have h1 := h.o0 b hO
      rcases h.ofp b (fpL_cons.2 (.inl rfl)) with h2 | h2
      · exact h1.2 h2
      · have := h1.1
        omega
    · exact ho.2.1 b rfl hO
  · rw [Addr.add_lit, Nat.zero_add, blk_cell ho.1]
    exact hu
theorem W_letgoK {c : Code} {b : Nat} {t : TypeId} {cs : List Value} (hp : Pick (.blk b t cs) Γ Γ1) (h : W C c fr Γ1 (Pt (.pointer (some ⟨b, 0, none⟩)) cs :: Φ) Q) : W C c fr Γ Φ Q := fun a w ha hw => h a w ha (pick_holds hp hw).letgoK
theorem WL_letgoK {b : Nat} {t : TypeId} {cs : List Value} (hp : Pick (.blk b t cs) Γ Γ1) (h : WL C ops l fr Γ1 (Pt (.pointer (some ⟨b, 0, none⟩)) cs :: Φ) Q) : WL C ops l fr Γ Φ Q := fun a w ha hw => h a w ha (pick_holds hp hw).letgoK
theorem WQ_letgoK {e : Exit} {b : Nat} {t : TypeId} {cs : List Value} (hp : Pick (.blk b t cs) Γ Γ1) (h : WQ C e fr Γ1 (Pt (.pointer (some ⟨b, 0, none⟩)) cs :: Φ) Q) : WQ C e fr Γ Φ Q := fun a w ha hw => h a w ha (pick_holds hp hw).letgoK

/-- the front of an own row. -/
theorem E_cutRow {t e rt : TypeId} {x y : Operand} {v : Value} {size n j : Nat} {kd : IntKind} {ii : Int} {xs us : List Value} (hx : evO fr x = some v) (hy : evO fr y = some (.int kd ii)) (hp : Pick (.row v rt size n xs) Γ Γ')
    (ht : C.P.underlying t = some (.slice e)) (hs : ∀ w, (sizeOf e).run C.P w = .ok size w) (hii : ii = (j : Int)) (hj : j ≤ n) (hu : xs.take (j * size) = us) :
    Effs C fr Γ Φ ⟨some d, .slice t x none (some y) none, ty, pos, aft, g⟩ (X := Unit) (fun _ => True) (fun _ => cutV size 0 j v) (fun _ => .row (cutV size 0 j v) rt size j us :: Γ') (fun _ => Φ) := by
  subst hii
  subst hu
  refine ⟨fun _ => AllIn.refl _, fun R a w ha hw => ?_⟩
  have hw' := pick_holds (pick_app hp R) hw
  obtain ⟨hl, h2⟩ := hw'.own.1
  have hrun : ∀ A c, v = .slice A n c → n ≤ c → (execOp a.eval ⟨some d, .slice t x none (some y) none, ty, pos, aft, g⟩).run C.P w = .ok (.value (cutV size 0 j v)) w := fun A c hv hc => by
    subst hv
    have h := run_slice_data_h (P := C.P) (w := w) (n := n) (A := A) (c := c) (kh := kd) ht hs (show j ≤ c by omega)
    simp [execOp, evO_sound ha hx, evO_sound ha hy, h, cutV]
  rcases h2 with ⟨rfl, rfl⟩ | ⟨b, cap, cur, rfl, _, hb, hcc, hm, hsz, htk⟩
  · obtain rfl : j = 0 := by omega
    refine .val (hrun none 0 rfl (Nat.le_refl _)) ⟨(), trivial, rfl, ?_⟩
    have e : cutV size 0 0 (.slice none 0 0) = .slice none 0 0 := rfl
    rw [e]
    refine hw'.move (Mod.refl _ _) ⟨⟨by simp, .inl ⟨rfl, rfl⟩⟩, hw'.own.2.1, hw'.own.2.2⟩ fun k _ hk => ?_
    rcases fpL_cons.1 hk with hk | hk
    · exact fpL_cons.2 (.inl hk)
    · exact fpL_cons.2 (.inr hk)
  · refine .val (hrun _ cap rfl hcc) ⟨(), trivial, rfl, ?_⟩
    have e : cutV size 0 j (.slice (some ⟨b, 0, none⟩) n cap) = .slice (some ⟨b, 0, none⟩) j cap := by
      simp only [cutV, Nat.zero_mul, Nat.sub_zero, Option.map_some, Addr.add_lit, Nat.zero_add]
      split <;> rfl
    rw [e]
    have hj2 : j * size ≤ n * size := Nat.mul_le_mul_right _ hj
    refine hw'.move (Mod.refl _ _) ⟨⟨by simp; omega, .inr ⟨b, cap, cur, rfl, Nat.zero_le _, hb, by omega, hm, hsz, ?_⟩⟩, hw'.own.2.1, hw'.own.2.2⟩ fun k _ hk => ?_
    · rw [← htk, List.take_take, Nat.min_eq_left hj2]
    · rcases fpL_cons.1 hk with hk | hk
      · exact fpL_cons.2 (.inl hk)
      · exact fpL_cons.2 (.inr hk)

/-- the end of an own row made zero. -/
theorem E_clearRow {t e rt : TypeId} {x : Operand} {v z : Value} {size n j : Nat} {xs : List Value} (hx : evO fr x = some (cutV size j n v)) (hp : Pick (.row v rt size n xs) Γ Γ')
    (ht : C.P.underlying t = some (.slice e)) (hz : ∀ w, (zeroValue e).run C.P w = .ok z w) (hzs : z.cells.size = size) (hz1 : z.cells.toList.all (fun u => u.oneCell') = true) (hj : j ≤ n) :
    Effs C fr Γ Φ ⟨none, .call { callee := .builtin .clear, args := #[x], argTypes := #[t] }, ty, pos, aft, g⟩ (X := List Value) (fun _ => True) (fun _ => .tuple #[]) (fun zs => .row v rt size n (xs.take (j * size) ++ zs) :: Γ') (fun _ => Φ) := by
  refine ⟨fun _ => AllIn.refl _, fun R a w ha hw => ?_⟩
  have hw' := pick_holds (pick_app hp R) hw
  obtain ⟨hl, h2⟩ := hw'.own.1
  by_cases hjn : j = n
  · subst hjn
    refine .val (w' := w) (v := .tuple #[]) ?_ ⟨[], trivial, rfl, ?_⟩
    · rcases h2 with ⟨rfl, rfl⟩ | ⟨b, cap, cur, rfl, _, hb, hcc, hm, hsz, htk⟩
      · simp [execOp, resolve, invoke, builtin, evO_sound ha hx, cutV, Builtin.clear_, run_underlying ht]
      · by_cases hcn : cap = j
        · simp [execOp, resolve, invoke, builtin, evO_sound ha hx, cutV, Builtin.clear_, run_underlying ht, hcn]
        · simp [execOp, resolve, invoke, builtin, evO_sound ha hx, cutV, Builtin.clear_, run_underlying ht, hcn]
    · show Holds C (.row v rt size j (xs.take (j * size) ++ []) :: Γ' ++ R) Φ w
      rw [List.append_nil, List.take_of_length_le (by omega)]
      exact hw'
  · rcases h2 with ⟨rfl, rfl⟩ | ⟨b, cap, cur, rfl, _, hb, hcc, hm, hsz, htk⟩
    · omega
    · have hz1' : ∀ u ∈ (Builtin.zeroCells z.cells (n - j)).toList, u.oneCell' = true := by
        intro u hu
        have hall : ∀ u ∈ z.cells.toList, u.oneCell' = true := List.all_eq_true.1 hz1
        simp only [Builtin.zeroCells, Array.toList_map, List.mem_map] at hu
        obtain ⟨i, hi, rfl⟩ := hu
        have hi' : i < (n - j) * z.cells.size := by simpa using hi
        have h0 : 0 < z.cells.size := by
          rcases Nat.eq_zero_or_pos z.cells.size with h | h
          · rw [h] at hi'; omega
          · exact h
        have hlt : i % z.cells.size < z.cells.size := Nat.mod_lt _ h0
        rw [getElem!_pos z.cells _ hlt]
        exact hall _ (by simp)
      have hzl : (Builtin.zeroCells z.cells (n - j)).toList.length = (n - j) * size := by simp [Builtin.zeroCells, hzs]
      have hsum : j * size + (n - j) * size = n * size := by rw [← Nat.add_mul]; congr 1; omega
      have hcap : n * size ≤ cap * size := Nat.mul_le_mul_right _ hcc
      have hst := run_storeCells_at C.P b (j * size) rt (Builtin.zeroCells z.cells (n - j)).toList 0 cur w hb (by rw [hzl]; omega) hz1'
      rw [Nat.add_zero] at hst
      refine .val (w' := w.setRow b (cur.toList.take (j * size) ++ (Builtin.zeroCells z.cells (n - j)).toList ++ cur.toList.drop (j * size + (Builtin.zeroCells z.cells (n - j)).toList.length)).toArray) (v := .tuple #[]) ?_ ⟨(Builtin.zeroCells z.cells (n - j)).toList, trivial, rfl, setRow_row hw' hb ?_ ?_⟩
      · have hne : ¬ cap = j := by omega
        obtain ⟨m', hpos⟩ : ∃ m', n - j = m' + 1 := ⟨n - j - 1, by omega⟩
        simp only [execOp, resolve, invoke, builtin, evO_sound ha hx, cutV, hne, if_false, Option.map_some, Addr.add_lit, Nat.zero_add]
        rw [hpos] at hst ⊢
        simp [hpos, Deferred.ofValue, Builtin.clear_, run_underlying ht, hz, evO_sound ha hx, cutV, hne, Addr.add_lit, hst]
      · simp only [List.size_toArray, List.length_append, List.length_take, List.length_drop, hzl, Array.length_toList]
        omega
      · have l1 : (cur.toList.take (j * size)).length = j * size := by rw [List.length_take, Array.length_toList]; omega
        rw [List.take_left' (by rw [List.length_append, l1, hzl]; exact hsum), ← htk, List.take_take, Nat.min_eq_left (by omega)]

/-- where ways meet again, ahead of what follows. -/
theorem W_cutKT {x y : Code} {X : Type} (ds ps : List Nat) (I : X → Prop) (ch : X → Fr) (gn : X → List OA) (hn : X → List SP) {fr1 : Fr} {Γ1 : List OA} {F : X → Fr} {G : X → List OA} {H : X → List SP}
    (hf : keepO ds fr = some fr1) (hg : dropO ps 0 Γ = some Γ1) (hF : ∀ x, appO (ch x) fr1 = some (F x)) (hG : ∀ x, appO (gn x) Γ1 = some (G x)) (hH : ∀ x, appO (hn x) Φ = some (H x))
    (h : W C x fr Γ Φ (Exit.then (fun a w => ∃ z, I z ∧ fok C (F z) a ∧ Holds C (G z) (H z) w) Q)) (k : ∀ z, I z → W C y (F z) (G z) (H z) Q) : W C x fr Γ Φ (Exit.then (y.wpIn (fenceOf C.rd) 0 C.P Q) Q) := by
  intro a w ha hw
  refine wpIn_mono (h a w ha hw) fun e a' w' he => ?_
  cases e <;> first | exact he | (obtain ⟨z, h0, h1, h2⟩ := he; exact k z h0 a' w' h1 h2)
end
end Go.Hs
