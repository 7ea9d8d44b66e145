/-
  A region that draws its order: one walk, in an order of our own, serves every order that the edges allow. No program is named here.
-/
import Derived.Test.YtlfghljgilmenaaLx
namespace Go.Hs
open Go Go.RowKit

def clsOf (es us : List Nat) (i : Nat) : Nat := if es.contains i then 1 else if us.contains i then 2 else 0

def depOn (ops : Array Oper) (i j : Nat) : Bool := ((Region.before ops).getD i 0).testBit j

/-- the walk of a region that draws: settled operations ('Runs') lean on Γs alone; those of es make or write what is owned; those of us are plain new blocks. -/
def PL (C : Ctx) (ops : Array Oper) (Γs : List OA) (es us : List Nat) (Q : Exit → Act → World → Prop) : List Nat → Fr → List OA → List SP → Prop
  | [], fr, Γ, Φ => WQ C .normal fr Γ Φ Q
  | i :: π, fr, Γ, Φ => ∃ o, ops[i]? = some o ∧ dstOk o.dst C.n = true ∧
      ((clsOf es us i = 0 ∧ ∃ v N, (∀ ψ ∈ N, Ent Φ ψ) ∧ ((gv ops fr o.guard = some true ∧ Runs C fr Γs Φ o v) ∨ (gv ops fr o.guard = some false ∧ v = undef)) ∧ PL C ops Γs es us Q π (putFr o.dst v fr) Γ (N ++ Φ)) ∨
       (clsOf es us i = 1 ∧ gv ops fr o.guard = some true ∧ ∃ (X : Type) (pf : X → Prop) (vx : X → Value) (Γ' : X → List OA) (Φ' : X → List SP), Effs C fr Γ Φ o pf vx Γ' Φ' ∧
          ∀ x, pf x → (SubO (Γ' x) Γs ∨ (π = [] ∧ ∀ j, j < ops.size → j ≠ i → depOn ops i j = true)) ∧ PL C ops Γs es us Q π (putFr o.dst (vx x) fr) (Γ' x) (Φ' x)) ∨
       (clsOf es us i = 2 ∧ ∃ t z, o.op = .alloc t ∧ o.guard = none ∧ (∀ w, (zeroValue t).run C.P w = .ok z w) ∧
          ∀ b, PL C ops Γs es us Q π (putFr o.dst (.pointer (some ⟨b, 0, none⟩)) fr) (.blk b t z.cells.toList :: Γ) Φ))

def dstAt (ops : Array Oper) (i : Nat) : Option Tmp := (ops[i]?).bind (·.dst)

def puts (ops : Array Oper) (a : Act) (val : Nat → Value) : List Nat → Act
  | [] => a
  | j :: r => (puts ops a val r).put (dstAt ops j) (val j)

theorem put_defers' (a : Act) (d : Option Tmp) (v : Value) : (a.put d v).defers = a.defers := by cases d <;> rfl
theorem put_size (a : Act) (d : Option Tmp) (v : Value) : (a.put d v).tmps.size = a.tmps.size := by cases d <;> simp [Act.put]

theorem puts_defers {ops : Array Oper} {a : Act} {val : Nat → Value} : ∀ l, (puts ops a val l).defers = a.defers
  | [] => rfl
  | j :: r => by rw [puts, put_defers', puts_defers r]
theorem puts_size {ops : Array Oper} {a : Act} {val : Nat → Value} : ∀ l, (puts ops a val l).tmps.size = a.tmps.size
  | [] => rfl
  | j :: r => by rw [puts, put_size, puts_size r]

theorem puts_get {ops : Array Oper} {a : Act} {val : Nat → Value} (t : Nat) : ∀ l, (puts ops a val l).tmps[t]? = match l.find? (fun j => dstAt ops j == some t) with
    | some j => if t < a.tmps.size then some (val j) else none
    | none => a.tmps[t]?
  | [] => rfl
  | j :: r => by
    rw [puts, List.find?_cons]
    by_cases h : dstAt ops j = some t
    · rw [h]
      simp only [Act.put, beq_self_eq_true]
      have hs := puts_size (ops := ops) (a := a) (val := val) r
      rw [Array.getElem?_setIfInBounds]
      simp [hs]
    · have hb : (dstAt ops j == some t) = false := by simpa using h
      rw [hb]
      simp only
      rw [← puts_get t r]
      cases hd : dstAt ops j with
      | none => rfl
      | some d =>
        have hne : d ≠ t := fun e => h (by rw [hd, e])
        simp [Act.put, Array.getElem?_setIfInBounds_ne hne]

theorem puts_congr {ops : Array Oper} {a : Act} {val val' : Nat → Value} : ∀ l, (∀ j ∈ l, val j = val' j) → puts ops a val l = puts ops a val' l
  | [], _ => rfl
  | j :: r, h => by rw [puts, puts, puts_congr r fun k hk => h k (List.mem_cons_of_mem _ hk), h j List.mem_cons_self]


/-- what the edges give, and the order of our walk. -/
structure Fit (ops : Array Oper) (es us π0 : List Nat) : Prop where
  nodup : π0.Nodup
  len : π0.length ≤ ops.size
  all : ∀ i, i < ops.size → i ∈ π0
  lt : ∀ i, i ∈ π0 → i < ops.size
  dist : ∀ i j t, dstAt ops i = some t → dstAt ops j = some t → i = j
  apart : ∀ i j oi oj, i ≠ j → ops[i]? = some oi → ops[j]? = some oj → depOn ops i j = true ∨ depOn ops j i = true ∨ ∀ t, oi.dst = some t → t ∉ oj.looksAt ops
  edge : ∀ i o e, ops[i]? = some o → e ∈ o.after → Region.binds .any e = true → depOn ops i e.on = true
  clos : ∀ i j, i < ops.size → depOn ops i j = true → ∃ o e, ops[i]? = some o ∧ e ∈ o.after ∧ Region.binds .any e = true ∧ (e.on = j ∨ depOn ops e.on j = true)
  ord : ∀ l1 i l2, π0 = l1 ++ i :: l2 → ∀ j, depOn ops i j = true → j ∈ l1
  eff : ∀ l1 i l2, π0 = l1 ++ i :: l2 → clsOf es us i ≠ 0 → ∀ j ∈ l2, clsOf es us j ≠ 2 → depOn ops j i = true
  nosel : ∀ (i : Nat) (o : Oper) cs b, ops[i]? = some o → o.op ≠ .select cs b

def Proper (ops : Array Oper) (i : Nat) (o : Oper) (S : List Nat) : Prop :=
  (∀ j, depOn ops i j = true → j ∈ S) ∧ (∀ k ∈ S, depOn ops i k = true ∨ ∀ t, dstAt ops k = some t → t ∉ o.looksAt ops)

section
variable {C : Ctx} {ops : Array Oper} {es us π0 : List Nat} {Γs : List OA} {Q : Exit → Act → World → Prop}

theorem look_same (F : Fit ops es us π0) {a0 : Act} {val : Nat → Value} {i : Nat} {o : Oper} {S T : List Nat} (hS : Proper ops i o S) (hT : Proper ops i o T) {t : Nat} (ht : t ∈ o.looksAt ops) :
    (puts ops a0 val S).tmps[t]? = (puts ops a0 val T).tmps[t]? := by
  rw [puts_get, puts_get]
  have key : ∀ {S T : List Nat}, Proper ops i o S → Proper ops i o T → ∀ k, S.find? (fun j => dstAt ops j == some t) = some k → T.find? (fun j => dstAt ops j == some t) = some k := by
    intro S T hS hT k hk
    have h1 := List.mem_of_find?_eq_some hk
    have h2 : dstAt ops k = some t := by simpa using List.find?_some hk
    have h3 : depOn ops i k = true := (hS.2 k h1).resolve_right fun h => h t h2 ht
    have h4 := hT.1 k h3
    cases hf : T.find? (fun j => dstAt ops j == some t) with
    | none => exact absurd h2 (by have := List.find?_eq_none.1 hf k h4; simpa using this)
    | some k' =>
      have h5 : dstAt ops k' = some t := by simpa using List.find?_some hf
      rw [F.dist k' k t h5 h2]
  cases hf : S.find? (fun j => dstAt ops j == some t) with
  | some k => rw [key hS hT k hf]
  | none =>
    cases hg : T.find? (fun j => dstAt ops j == some t) with
    | none => rfl
    | some k => rw [key hT hS k hg] at hf; cases hf

theorem exec_same (F : Fit ops es us π0) {a0 : Act} {val : Nat → Value} {i : Nat} {o : Oper} (ho : ops[i]? = some o) {S T : List Nat} (hS : Proper ops i o S) (hT : Proper ops i o T) :
    execOp (puts ops a0 val S).eval o = execOp (puts ops a0 val T).eval o ∧ Region.wanted o (yielded ops (puts ops a0 val S).tmps) = Region.wanted o (yielded ops (puts ops a0 val T).tmps) := by
  constructor
  · refine execOp_congr o (fun cs b => F.nosel i o cs b ho) fun x hx => ?_
    cases x with
    | tmp t =>
      have h := look_same F (a0 := a0) (val := val) hS hT (t := t) (List.mem_append_left _ (List.mem_filterMap.2 ⟨.tmp t, by simpa using hx, rfl⟩))
      simp only [Act.eval, Array.getD_eq_getD_getElem?, h]
    | _ => rfl
  · unfold Region.wanted
    cases hg : o.guard with
    | none => rfl
    | some gw =>
      obtain ⟨gd, want⟩ := gw
      have : yielded ops (puts ops a0 val S).tmps gd = yielded ops (puts ops a0 val T).tmps gd := by
        unfold yielded
        cases ht : (ops[gd]?).bind (·.dst) with
        | none => rfl
        | some t =>
          have h := look_same F (a0 := a0) (val := val) hS hT (t := t) (List.mem_append_right _ (by simp [hg, ht]))
          simp only [Option.bind_some, h]
      simp only [this]

theorem fok_same (F : Fit ops es us π0) {C : Ctx} {a0 : Act} {val : Nat → Value} {fr : Fr} {S T : List Nat} (hST : ∀ j, j ∈ S ↔ j ∈ T) (h : fok C fr (puts ops a0 val S)) : fok C fr (puts ops a0 val T) := by
  refine ⟨by have := h.1; rw [puts_defers] at this ⊢; exact this, by have := h.2.1; rw [puts_size] at this ⊢; exact this, fun t v hv => ?_⟩
  have h3 := h.2.2 t v hv
  have : (puts ops a0 val S).tmps[t]? = (puts ops a0 val T).tmps[t]? := by
    rw [puts_get, puts_get]
    have key : ∀ {S T : List Nat}, (∀ j, j ∈ S ↔ j ∈ T) → ∀ k, S.find? (fun j => dstAt ops j == some t) = some k → T.find? (fun j => dstAt ops j == some t) = some k := by
      intro S T hST k hk
      have h1 := (hST k).1 (List.mem_of_find?_eq_some hk)
      have h2 : dstAt ops k = some t := by simpa using List.find?_some hk
      cases hf : T.find? (fun j => dstAt ops j == some t) with
      | none => exact absurd h2 (by have := List.find?_eq_none.1 hf k h1; simpa using this)
      | some k' =>
        have h5 : dstAt ops k' = some t := by simpa using List.find?_some hf
        rw [F.dist k' k t h5 h2]
    cases hf : S.find? (fun j => dstAt ops j == some t) with
    | some k => rw [key hST k hf]
    | none =>
      cases hg : T.find? (fun j => dstAt ops j == some t) with
      | none => rfl
      | some k => rw [key (fun j => (hST j).symm) k hg] at hf; cases hf
  rw [Array.getD_eq_getD_getElem?] at h3 ⊢
  rw [← this]
  exact h3

def upd (val : Nat → Value) (i : Nat) (v : Value) : Nat → Value := fun k => if k = i then v else val k
theorem upd_same (val : Nat → Value) (i : Nat) (v : Value) : upd val i v i = v := by simp [upd]
theorem upd_other (val : Nat → Value) {i k : Nat} (v : Value) (h : k ≠ i) : upd val i v k = val k := by simp [upd, h]

/-- a settled operation that waits. -/
def Pend (C : Ctx) (ops : Array Oper) (Γs : List OA) (a0 : Act) (val : Nat → Value) (Φ : List SP) (ps : List Nat) (j : Nat) : Prop :=
  ∃ o Φj S, ops[j]? = some o ∧ AllIn Φj Φ ∧ (∀ k ∈ S, k ∈ ps) ∧ Proper ops j o S ∧
    ((Region.wanted o (yielded ops (puts ops a0 val S).tmps) = true ∧ ∀ w, Holds C Γs Φj w → Gives C.P ((execOp (puts ops a0 val S).eval o).run C.P w) fun v' w' => v' = val j ∧ Mod noOwn w w') ∨
     (Region.wanted o (yielded ops (puts ops a0 val S).tmps) = false ∧ val j = undef))

theorem Pend.turn {a0 : Act} {val val' : Nat → Value} {Φ Φ' : List SP} {ps ps' : List Nat} {j : Nat} (h : Pend C ops Γs a0 val Φ ps j) (hv : ∀ k ∈ ps, val k = val' k) (hj : val j = val' j) (hΦ : AllIn Φ Φ') (hps : ∀ k ∈ ps, k ∈ ps') :
    Pend C ops Γs a0 val' Φ' ps' j := by
  obtain ⟨o, Φj, S, ho, hin, hS, hp, h⟩ := h
  have e : puts ops a0 val S = puts ops a0 val' S := puts_congr S fun k hk => hv k (hS k hk)
  refine ⟨o, Φj, S, ho, fun ψ hψ => hΦ ψ (hin ψ hψ), fun k hk => hps k (hS k hk), hp, ?_⟩
  rw [← e, ← hj]
  exact h

/-- a new block made ahead of its place in the walk. -/
def Early (C : Ctx) (ops : Array Oper) (val : Nat → Value) (i : Nat) (A : OA) : Prop :=
  ∃ o t z b, ops[i]? = some o ∧ o.op = .alloc t ∧ (∀ w, (zeroValue t).run C.P w = .ok z w) ∧ val i = .pointer (some ⟨b, 0, none⟩) ∧ A = .blk b t z.cells.toList

def UZ (C : Ctx) (ops : Array Oper) (us : List Nat) : Prop :=
  ∀ i ∈ us, ∃ o t z, ops[i]? = some o ∧ o.op = .alloc t ∧ o.guard = none ∧ (∀ w, (zeroValue t).run C.P w = .ok z w)
theorem UZ.nil (C : Ctx) (ops : Array Oper) : UZ C ops [] := fun _ h => by cases h
theorem UZ.cons' {i d : Nat} {us : List Nat} {t ty : TypeId} {pos : String} {aft : Array Edge} {z : Value} (ho : ops[i]? = some ⟨some d, .alloc t, ty, pos, aft, none⟩) (hz : ∀ w, (zeroValue t).run C.P w = .ok z w) (h : UZ C ops us) : UZ C ops (i :: us) := fun j hj => by
  rcases List.mem_cons.1 hj with rfl | hj
  · exact ⟨_, t, z, ho, rfl, rfl, hz⟩
  · exact h j hj

theorem cls_us {i : Nat} (h : clsOf es us i = 2) : i ∈ us := by
  unfold clsOf at h
  split at h
  · cases h
  · split at h
    · rename_i h1
      simpa using h1
    · cases h

theorem filter_lt {p q : Nat → Bool} (h : ∀ x, q x = true → p x = true) : ∀ {l : List Nat} {i : Nat}, i ∈ l → p i = true → q i = false → (l.filter q).length < (l.filter p).length
  | [], _, hi, _, _ => by cases hi
  | x :: r, i, hi, hp, hq => by
    have hle : (r.filter q).length ≤ (r.filter p).length := by
      clear hi
      induction r with
      | nil => simp
      | cons y r ih =>
        simp only [List.filter_cons]
        cases hqy : q y
        · cases p y <;> simp <;> omega
        · rw [h y hqy]; simp; exact ih
    rcases List.mem_cons.1 hi with rfl | hi
    · simp [hp, hq]; omega
    · have := filter_lt h hi hp hq
      simp only [List.filter_cons]
      cases hqx : q x
      · cases p x <;> simp <;> omega
      · rw [h x hqx]; simp; omega

theorem getD_set_iff {listed : Array Bool} {n i j : Nat} (hs : listed.size = n) (hi : i < n) : (listed.setIfInBounds i true).getD j false = true ↔ j = i ∨ listed.getD j false = true := by
  by_cases h : i = j
  · subst h
    simp [Array.getD_eq_getD_getElem?, hs, hi]
  · have : (listed.setIfInBounds i true)[j]? = listed[j]? := by rw [Array.getElem?_setIfInBounds_ne h]
    simp only [Array.getD_eq_getD_getElem?, this]
    constructor
    · exact .inr
    · rintro (h1 | h1)
      · exact absurd h1.symm h
      · exact h1

/-- the state of a drawn region, held against our walk. -/
structure St (C : Ctx) (ops : Array Oper) (es us π0 : List Nat) (Γs : List OA) (Q : Exit → Act → World → Prop) (a0 : Act) (fuel : Nat) (π ps ex : List Nat) (val : Nat → Value) (fr : Fr) (Γ : List OA) (Φ : List SP)
    (el : List (Nat × OA)) (listed : Array Bool) (w : World) : Prop where
  plan : π0 = ps.reverse ++ π
  lsz : listed.size = ops.size
  lex : ∀ i, i < ops.size → (listed.getD i false = true ↔ i ∈ ex)
  xlt : ∀ i ∈ ex, i < ops.size
  fu : (π0.filter fun k => !ex.contains k).length ≤ fuel
  xdep : ∀ i ∈ ex, ∀ j, depOn ops i j = true → j ∈ ex
  xps : ∀ i ∈ ex, i ∈ ps ∨ (i ∈ π ∧ ∃ A, (i, A) ∈ el)
  early : ∀ p ∈ el, p.1 ∈ ex ∧ p.1 ∈ π ∧ clsOf es us p.1 = 2 ∧ Early C ops val p.1 p.2
  elnd : (el.map (·.1)).Nodup
  pend : ∀ j ∈ ps, j ∉ ex → Pend C ops Γs a0 val Φ ps j
  frm : fok C fr (puts ops a0 val ps)
  hol : Holds C (Γ ++ el.map (·.2)) Φ w
  sub : SubO Γ Γs ∨ (π = [] ∧ ∀ j ∈ ps, j ∈ ex)
  walk : PL C ops Γs es us Q π fr Γ Φ

theorem puts_upd {a0 : Act} {val : Nat → Value} {i : Nat} {v : Value} {l : List Nat} (h : i ∉ l) : puts ops a0 (upd val i v) l = puts ops a0 val l :=
  puts_congr l fun _ hk => upd_other val v fun e => h (e ▸ hk)

theorem dstAt_eq {i : Nat} {o : Oper} (ho : ops[i]? = some o) : dstAt ops i = o.dst := by simp [dstAt, ho]

theorem sub_holds {Γ R : List OA} {Φ Φj : List SP} {w : World} (h : Holds C (Γ ++ R) Φ w) (hs : SubO Γ Γs) (hin : AllIn Φj Φ) : Holds C Γs Φj w := by
  obtain ⟨X, hX⟩ := hs
  have h1 := h.perm (hX.append_right R)
  rw [List.append_assoc] at h1
  exact h1.dropR.sub hin

/-- what all orders share: an operation that is ready sees what our walk saw. -/
theorem St.proper {a0 : Act} {fuel : Nat} {π ps ex : List Nat} {val : Nat → Value} {fr : Fr} {Γ : List OA} {Φ : List SP} {el : List (Nat × OA)} {listed : Array Bool} {w : World}
    (F : Fit ops es us π0) (S : St C ops es us π0 Γs Q a0 fuel π ps ex val fr Γ Φ el listed w) {i : Nat} {o : Oper} (ho : ops[i]? = some o) (hx : i ∉ ex) (hdep : ∀ j, depOn ops i j = true → j ∈ ex) : Proper ops i o ex := by
  refine ⟨hdep, fun k hk => ?_⟩
  obtain ⟨ok, hok⟩ : ∃ ok, ops[k]? = some ok := ⟨_, Array.getElem?_eq_getElem (S.xlt k hk)⟩
  have hne : k ≠ i := fun e => hx (e ▸ hk)
  rcases F.apart k i ok o hne hok ho with h | h | h
  · exact absurd (S.xdep k hk i h) hx
  · exact .inl h
  · exact .inr fun t ht => h t (by rw [← dstAt_eq hok]; exact ht)

/-- one operation is done: it waits no more, or it was a new block ahead of its place, or the walk's next. -/
theorem St.step (F : Fit ops es us π0) (hU : UZ C ops us) {a0 : Act} (_ : a0.defers = C.ds) {fuel : Nat}
    (ih : ∀ (π ps ex : List Nat) (val : Nat → Value) (fr : Fr) (Γ : List OA) (Φ : List SP) (el : List (Nat × OA)) (listed : Array Bool) (w : World), St C ops es us π0 Γs Q a0 fuel π ps ex val fr Γ Φ el listed w → wpAnyIn (fenceOf C.rd) 0 C.P .any ops Q fuel listed (puts ops a0 val ex) w)
    {π ps ex : List Nat} {val : Nat → Value} {fr : Fr} {Γ : List OA} {Φ : List SP} {el : List (Nat × OA)} {listed : Array Bool} {w : World}
    (S : St C ops es us π0 Γs Q a0 (fuel + 1) π ps ex val fr Γ Φ el listed w)
    (hst : ∀ h r, π = h :: r → h ∉ ex ∧ clsOf es us h ≠ 0) {i : Nat} (hlt : i < ops.size) (hx : i ∉ ex) (hdep : ∀ j, depOn ops i j = true → j ∈ ex) :
    wpOpIn (fenceOf C.rd) 0 C.P ops Q i (wpAnyIn (fenceOf C.rd) 0 C.P .any ops Q fuel (listed.setIfInBounds i true)) (puts ops a0 val ex) w := by
  obtain ⟨o, ho⟩ : ∃ o, ops[i]? = some o := ⟨_, Array.getElem?_eq_getElem hlt⟩
  have hprop := S.proper F ho hx hdep
  have hi0 := F.all i hlt
  have lsz' : (listed.setIfInBounds i true).size = ops.size := by simp [S.lsz]
  have lex' : ∀ j, j < ops.size → ((listed.setIfInBounds i true).getD j false = true ↔ j ∈ i :: ex) := fun j hj => by
    rw [getD_set_iff S.lsz hlt, S.lex j hj]
    simp
  have xlt' : ∀ j ∈ i :: ex, j < ops.size := fun j hj => by
    rcases List.mem_cons.1 hj with rfl | hj
    · exact hlt
    · exact S.xlt j hj
  have fu' : (π0.filter fun k => !(i :: ex).contains k).length ≤ fuel := by
    have := filter_lt (p := fun k => !ex.contains k) (q := fun k => !(i :: ex).contains k) (fun x hq => by simp at hq ⊢; exact hq.2) hi0 (by simpa using hx) (by simp)
    have := S.fu
    omega
  have xdep' : ∀ k ∈ i :: ex, ∀ j, depOn ops k j = true → j ∈ i :: ex := fun k hk j hj => by
    rcases List.mem_cons.1 hk with rfl | hk
    · exact List.mem_cons_of_mem _ (hdep j hj)
    · exact List.mem_cons_of_mem _ (S.xdep k hk j hj)
  have hmem : i ∈ ps ∨ i ∈ π := by
    rw [S.plan] at hi0
    simpa using hi0
  unfold wpOpIn
  rw [ho]
  show if Region.wanted o (yielded ops (puts ops a0 val ex).tmps) = true then _ else _
  rcases hmem with hmem | hmem
  · -- it waited
    obtain ⟨o', Φj, T, ho', hin, hT, hTp, h⟩ := S.pend i hmem hx
    obtain rfl : o = o' := by rw [ho] at ho'; injection ho' with e
    obtain ⟨e1, e2⟩ := exec_same F (a0 := a0) (val := val) ho hTp hprop
    have next : ∀ w', Holds C (Γ ++ el.map (·.2)) Φ w' → St C ops es us π0 Γs Q a0 fuel π ps (i :: ex) val fr Γ Φ el (listed.setIfInBounds i true) w' := fun w' hw' =>
      { plan := S.plan, lsz := lsz', lex := lex', xlt := xlt', fu := fu', xdep := xdep', elnd := S.elnd, frm := S.frm, hol := hw', sub := S.sub.imp_right (fun h => ⟨h.1, fun j hj => List.mem_cons_of_mem _ (h.2 j hj)⟩), walk := S.walk
        xps := fun k hk => by
          rcases List.mem_cons.1 hk with rfl | hk
          · exact .inl hmem
          · exact S.xps k hk
        early := fun p hp => ⟨List.mem_cons_of_mem _ (S.early p hp).1, (S.early p hp).2⟩
        pend := fun j hj hjx => S.pend j hj fun hk => hjx (List.mem_cons_of_mem _ hk) }
    rcases h with ⟨hw1, hg⟩ | ⟨hw1, hv⟩
    · rw [if_pos (by rw [← e2]; exact hw1)]
      have hG := hg w (sub_holds S.hol (S.sub.resolve_right fun h => hx (h.2 i hmem)) hin)
      rw [e1] at hG
      refine hG.wp fun v' w' ⟨hv, hm⟩ => ?_
      subst hv
      have := ih _ _ _ _ _ _ _ _ _ _ (next w' (S.hol.ext hm))
      rw [puts, dstAt_eq ho] at this
      exact this
    · rw [if_neg (by rw [← e2, hw1]; simp)]
      have := ih _ _ _ _ _ _ _ _ _ _ (next w S.hol)
      rw [puts, dstAt_eq ho, hv] at this
      exact ⟨fun f _ => fenceOf_fn _ f, this⟩
  · have hnps : i ∉ ps := fun h => by
      have := F.nodup
      rw [S.plan] at this
      exact (List.nodup_append.1 this).2.2 i (List.mem_reverse.2 h) i hmem rfl
    have hpps : ∀ k ∈ ps, k ≠ i := fun k hk e => hnps (e ▸ hk)
    by_cases hc : clsOf es us i = 2
    · -- a new block ahead of its place
      obtain ⟨o', t, z, ho', hop, hgd, hz⟩ := hU i (cls_us hc)
      obtain rfl : o = o' := by rw [ho] at ho'; injection ho' with e
      rw [if_pos (by simp [Region.wanted, hgd])]
      refine Gives.wp (post := fun v' w' => v' = .pointer (some ⟨w.heap.size, 0, none⟩) ∧ w' = w.alloc (.cells z.cells t)) ?_ fun v' w' ⟨hv, hw'⟩ => ?_
      · refine .val (v := .pointer (some ⟨w.heap.size, 0, none⟩)) (w' := w.alloc (.cells z.cells t)) ?_ ⟨rfl, rfl⟩
        unfold execOp
        rw [hop]
        simp only [Instr.alloc, Sem.run_bind, hz, Result.andThen_ok, newVar, newRow, newObj]
        rfl
      · subst hv; subst hw'
        have hnel : i ∉ el.map (·.1) := fun h => by
          obtain ⟨p, hp, e⟩ := List.mem_map.1 h
          exact hx (e ▸ (S.early p hp).1)
        have S' : St C ops es us π0 Γs Q a0 fuel π ps (i :: ex) (upd val i (.pointer (some ⟨w.heap.size, 0, none⟩))) fr Γ Φ ((i, .blk w.heap.size t z.cells.toList) :: el) (listed.setIfInBounds i true) (w.alloc (.cells z.cells t)) :=
          { plan := S.plan, lsz := lsz', lex := lex', xlt := xlt', fu := fu', xdep := xdep', sub := S.sub.imp_right (fun h => ⟨h.1, fun j hj => List.mem_cons_of_mem _ (h.2 j hj)⟩), walk := S.walk
            xps := fun k hk => by
              rcases List.mem_cons.1 hk with rfl | hk
              · exact .inr ⟨hmem, _, List.mem_cons_self⟩
              · rcases S.xps k hk with h | ⟨h, A, hA⟩
                · exact .inl h
                · exact .inr ⟨h, A, List.mem_cons_of_mem _ hA⟩
            early := fun p hp => by
              rcases List.mem_cons.1 hp with rfl | hp
              · exact ⟨List.mem_cons_self, hmem, hc, o, t, z, w.heap.size, ho, hop, hz, upd_same _ _ _, rfl⟩
              · obtain ⟨h1, h2, h3, o2, t2, z2, b2, h4, h5, h6, h7, h8⟩ := S.early p hp
                have hne : p.1 ≠ i := fun e => hx (e ▸ h1)
                refine ⟨List.mem_cons_of_mem _ h1, h2, h3, o2, t2, z2, b2, h4, h5, h6, ?_, h8⟩
                rw [upd_other _ _ hne]
                exact h7
            elnd := by simpa using ⟨by simpa using hnel, S.elnd⟩
            pend := fun j hj hjx => (S.pend j hj fun hk => hjx (List.mem_cons_of_mem _ hk)).turn (fun k hk => (upd_other _ _ (hpps k hk)).symm) (upd_other _ _ (hpps j hj)).symm (AllIn.refl _) fun k hk => hk
            frm := by rw [puts_upd hnps]; exact S.frm
            hol := (S.hol.alloc t z.cells).perm (List.perm_middle.symm) }
        have := ih _ _ _ _ _ _ _ _ _ _ S'
        rw [puts, dstAt_eq ho, upd_same, puts_upd hx] at this
        exact this
    · -- the walk's next
      cases hπ : π with
      | nil => rw [hπ] at hmem; cases hmem
      | cons h r =>
        obtain ⟨hhx, hh0⟩ := hst h r hπ
        have hih : i = h := by
          rw [hπ] at hmem
          rcases List.mem_cons.1 hmem with e | hr
          · exact e
          · exact absurd (hdep h (F.eff ps.reverse h r (by rw [S.plan, hπ]) hh0 i hr hc)) hhx
        subst hih
        have hpl := S.walk
        rw [hπ] at hpl
        obtain ⟨o', ho', hdo, hnode⟩ := hpl
        obtain rfl : o = o' := by rw [ho] at ho'; injection ho' with e
        rcases hnode with ⟨h0, _⟩ | ⟨_, hgv, X, pf, vx, Γ', Φ', heff, hk⟩ | ⟨h2, _⟩
        · exact absurd h0 hh0
        · have hpprop : Proper ops i o ps := by
            refine ⟨fun j hj => by simpa using F.ord ps.reverse i r (by rw [S.plan, hπ]) j hj, fun k hk => ?_⟩
            have hklt := F.lt k (by rw [S.plan]; simp [hk])
            obtain ⟨ok, hok⟩ : ∃ ok, ops[k]? = some ok := ⟨_, Array.getElem?_eq_getElem hklt⟩
            rcases F.apart k i ok o (hpps k hk) hok ho with h | h | h
            · exfalso
              obtain ⟨l1, l2, hl⟩ := List.append_of_mem (List.mem_reverse.2 hk)
              have h1 := F.ord l1 k (l2 ++ i :: r) (by rw [S.plan, hπ, hl]; simp) i h
              exact hnps (List.mem_reverse.1 (by rw [hl]; simp [h1]))
            · exact .inl h
            · exact .inr fun t ht => h t (by rw [← dstAt_eq hok]; exact ht)
          obtain ⟨e1, e2⟩ := exec_same F (a0 := a0) (val := val) ho hpprop hprop
          rw [if_pos (by rw [← e2]; exact gv_sound S.frm hgv)]
          have hG := heff.2 _ _ w S.frm S.hol
          rw [e1] at hG
          refine hG.wp fun v' w' ⟨x, hpf, hv, hw'⟩ => ?_
          subst hv
          obtain ⟨hsub, hpl'⟩ := hk x hpf
          have S' : St C ops es us π0 Γs Q a0 fuel r (i :: ps) (i :: ex) (upd val i (vx x)) (putFr o.dst (vx x) fr) (Γ' x) (Φ' x) el (listed.setIfInBounds i true) w' :=
            { plan := by rw [S.plan, hπ]; simp
              lsz := lsz', lex := lex', xlt := xlt', fu := fu', xdep := xdep', walk := hpl'
              sub := hsub.imp_right (fun h => ⟨h.1, fun j hj => by
                by_cases e : j = i
                · rw [e]; exact List.mem_cons_self
                · rcases List.mem_cons.1 hj with h' | h'
                  · exact absurd h' e
                  · exact List.mem_cons_of_mem _ (hdep j (h.2 j (F.lt j (by rw [S.plan]; simp [h'])) e))⟩)
             , elnd := S.elnd, hol := hw'
              xps := fun k hk => by
                rcases List.mem_cons.1 hk with rfl | hk
                · exact .inl List.mem_cons_self
                · rcases S.xps k hk with h | ⟨h, A, hA⟩
                  · exact .inl (List.mem_cons_of_mem _ h)
                  · rw [hπ] at h
                    rcases List.mem_cons.1 h with h | h
                    · exact absurd (h ▸ hk) hx
                    · exact .inr ⟨h, A, hA⟩
              early := fun p hp => by
                obtain ⟨h1, h2, h3, o2, t2, z2, b2, h4, h5, h6, h7, h8⟩ := S.early p hp
                have hne : p.1 ≠ i := fun e => hx (e ▸ h1)
                refine ⟨List.mem_cons_of_mem _ h1, ?_, h3, o2, t2, z2, b2, h4, h5, h6, ?_, h8⟩
                · rw [hπ] at h2
                  exact (List.mem_cons.1 h2).resolve_left hne
                · rw [upd_other _ _ hne]
                  exact h7
              pend := fun j hj hjx => by
                rcases List.mem_cons.1 hj with rfl | hj
                · exact absurd List.mem_cons_self hjx
                · exact (S.pend j hj fun hk => hjx (List.mem_cons_of_mem _ hk)).turn (fun k hk => (upd_other _ _ (hpps k hk)).symm) (upd_other _ _ (hpps j hj)).symm (heff.1 x) fun k hk => List.mem_cons_of_mem _ hk
              frm := by
                rw [puts, upd_same, puts_upd hnps, dstAt_eq ho]
                exact S.frm.putd hdo }
          have := ih _ _ _ _ _ _ _ _ _ _ S'
          rw [puts, dstAt_eq ho, upd_same, puts_upd hx] at this
          exact this
        · exact absurd h2 hc

theorem zero_same {P : Program} {t : TypeId} {z z' : Value} (h : ∀ w, (zeroValue t).run P w = .ok z w) (h' : ∀ w, (zeroValue t).run P w = .ok z' w) : z = z' := by
  have h1 := h default
  rw [h' default] at h1
  injection h1 with h1
  exact h1.symm

theorem ready_mem {listed : Array Bool} {i : Nat} (h : i ∈ Region.ready .any ops listed) : i < ops.size ∧ listed.getD i true = false ∧ ∃ o, ops[i]? = some o ∧ ∀ e ∈ o.after, Region.binds .any e = true → listed.getD e.on false = true := by
  obtain ⟨h1, o, h2, h3⟩ := mem_ready.1 h
  exact ⟨(Array.getElem?_eq_some_iff.1 h2).1, h1, o, h2, h3⟩

theorem St.ready {a0 : Act} {fuel : Nat} {π ps ex : List Nat} {val : Nat → Value} {fr : Fr} {Γ : List OA} {Φ : List SP} {el : List (Nat × OA)} {listed : Array Bool} {w : World}
    (F : Fit ops es us π0) (S : St C ops es us π0 Γs Q a0 fuel π ps ex val fr Γ Φ el listed w) {i : Nat} (h : i ∈ Region.ready .any ops listed) : i < ops.size ∧ i ∉ ex ∧ ∀ j, depOn ops i j = true → j ∈ ex := by
  obtain ⟨hlt, hl, o, ho, hall⟩ := ready_mem h
  refine ⟨hlt, fun hx => ?_, fun j hj => ?_⟩
  · have := (S.lex i hlt).2 hx
    have hlt' : i < listed.size := by rw [S.lsz]; exact hlt
    simp [Array.getD_eq_getD_getElem?, hlt'] at this hl
    rw [this] at hl
    cases hl
  · obtain ⟨o', e, ho', he, hb, hor⟩ := F.clos i j hlt hj
    obtain rfl : o = o' := by rw [ho] at ho'; injection ho' with e
    have hle := hall e he hb
    have helt : e.on < ops.size := by
      rcases Nat.lt_or_ge e.on ops.size with h | h
      · exact h
      · have : listed[e.on]? = none := Array.getElem?_eq_none (by rw [S.lsz]; exact h)
        simp [Array.getD_eq_getD_getElem?, this] at hle
    have hex := (S.lex e.on helt).1 hle
    rcases hor with rfl | hor
    · exact hex
    · exact S.xdep _ hex j hor

/-- nothing is ready: all is done. -/
theorem St.done {a0 : Act} {fuel : Nat} {π ps ex : List Nat} {val : Nat → Value} {fr : Fr} {Γ : List OA} {Φ : List SP} {el : List (Nat × OA)} {listed : Array Bool} {w : World}
    (F : Fit ops es us π0) (S : St C ops es us π0 Γs Q a0 fuel π ps ex val fr Γ Φ el listed w) (hr : Region.ready .any ops listed = []) : ∀ i ∈ π0, i ∈ ex := by
  have key : ∀ n l1 i l2, l1.length = n → π0 = l1 ++ i :: l2 → i ∈ ex := by
    intro n
    induction n using Nat.strongRecOn with
    | _ n ih =>
      intro l1 i l2 hn hl
      have hlt := F.lt i (by rw [hl]; simp)
      obtain ⟨o, ho⟩ : ∃ o, ops[i]? = some o := ⟨_, Array.getElem?_eq_getElem hlt⟩
      rcases Classical.em (i ∈ ex) with hx | hx
      · exact hx
      · exfalso
        have : i ∈ Region.ready .any ops listed := by
          refine mem_ready.2 ⟨?_, o, ho, fun e he hb => ?_⟩
          · have hlt' : i < listed.size := by rw [S.lsz]; exact hlt
            have h2 : ¬ listed.getD i false = true := fun h => hx ((S.lex i hlt).1 h)
            simp [Array.getD_eq_getD_getElem?, hlt'] at h2 ⊢
            exact h2
          · have hd := F.edge i o e ho he hb
            have hm := F.ord l1 i l2 hl e.on hd
            obtain ⟨m1, m2, hm2⟩ := List.append_of_mem hm
            have helt := F.lt e.on (by rw [hl, hm2]; simp)
            refine (S.lex e.on helt).2 (ih m1.length (by rw [← hn, hm2]; simp) m1 e.on (m2 ++ i :: l2) rfl (by rw [hl, hm2]; simp))
        rw [hr] at this
        cases this
  intro i hi
  obtain ⟨l1, l2, hl⟩ := List.append_of_mem hi
  exact key _ l1 i l2 rfl hl

theorem St.fin {a0 : Act} {fuel : Nat} {π ps ex : List Nat} {val : Nat → Value} {fr : Fr} {Γ : List OA} {Φ : List SP} {el : List (Nat × OA)} {listed : Array Bool} {w : World}
    (F : Fit ops es us π0) (S : St C ops es us π0 Γs Q a0 fuel π ps ex val fr Γ Φ el listed w) (hst : ∀ h r, π = h :: r → h ∉ ex ∧ clsOf es us h ≠ 0) (hall : ∀ i ∈ π0, i ∈ ex) : Q .normal (puts ops a0 val ex) w := by
  have hπ : π = [] := by
    cases hπ : π with
    | nil => rfl
    | cons h r => exact absurd (hall h (by rw [S.plan, hπ]; simp)) (hst h r hπ).1
  subst hπ
  have hel : el = [] := by
    cases el with
    | nil => rfl
    | cons p r => have := (S.early p List.mem_cons_self).2.1; cases this
  subst hel
  have hw := S.walk
  refine hw _ w (fok_same F (fun j => ⟨fun h => hall j (by rw [S.plan]; simp [h]), fun h => ?_⟩) S.frm) (by simpa using S.hol)
  rcases S.xps j h with h | ⟨h, _⟩
  · exact h
  · cases h

/-- what can be settled is settled, ahead of the next step. -/
theorem St.settle (F : Fit ops es us π0) {a0 : Act} {fuel : Nat} {listed : Array Bool} {w : World} {ex : List Nat} {K : (Nat → Value) → Prop}
    (hK : ∀ (π ps : List Nat) (val : Nat → Value) (fr : Fr) (Γ : List OA) (Φ : List SP) (el : List (Nat × OA)), St C ops es us π0 Γs Q a0 fuel π ps ex val fr Γ Φ el listed w → (∀ h r, π = h :: r → h ∉ ex ∧ clsOf es us h ≠ 0) → K val)
    (hKc : ∀ val val', (∀ k ∈ ex, val k = val' k) → K val' → K val) :
    ∀ (π ps : List Nat) (val : Nat → Value) (fr : Fr) (Γ : List OA) (Φ : List SP) (el : List (Nat × OA)), St C ops es us π0 Γs Q a0 fuel π ps ex val fr Γ Φ el listed w → K val := by
  intro π
  induction π with
  | nil => exact fun ps val fr Γ Φ el S => hK _ _ _ _ _ _ _ S fun h r e => by cases e
  | cons i r ih =>
    intro ps val fr Γ Φ el S
    have hnd := F.nodup
    rw [S.plan] at hnd
    have hnps : i ∉ ps := fun h => (List.nodup_append.1 hnd).2.2 i (List.mem_reverse.2 h) i List.mem_cons_self rfl
    have hpps : ∀ k ∈ ps, k ≠ i := fun k hk e => hnps (e ▸ hk)
    have hir : i ∉ r := (List.nodup_cons.1 (List.nodup_append.1 hnd).2.1).1
    have hlt := F.lt i (by rw [S.plan]; simp)
    obtain ⟨o, ho, hdo, hnode⟩ := S.walk
    have hpprop : Proper ops i o ps := by
      refine ⟨fun j hj => by simpa using F.ord ps.reverse i r S.plan j hj, fun k hk => ?_⟩
      have hklt := F.lt k (by rw [S.plan]; simp [hk])
      obtain ⟨ok, hok⟩ : ∃ ok, ops[k]? = some ok := ⟨_, Array.getElem?_eq_getElem hklt⟩
      rcases F.apart k i ok o (hpps k hk) hok ho with h | h | h
      · exfalso
        obtain ⟨l1, l2, hl⟩ := List.append_of_mem (List.mem_reverse.2 hk)
        have h1 := F.ord l1 k (l2 ++ i :: r) (by rw [S.plan, hl]; simp) i h
        exact hnps (List.mem_reverse.1 (by rw [hl]; simp [h1]))
      · exact .inl h
      · exact .inr fun t ht => h t (by rw [← dstAt_eq hok]; exact ht)
    rcases hnode with ⟨h0, v, N, hN, hrun, hpl⟩ | ⟨h1, _⟩ | ⟨h2, t, z, hop, hgd, hz, hpl⟩
    · -- settled by what is known
      have hix : i ∉ ex := fun h => by
        rcases S.xps i h with h | ⟨_, A, hA⟩
        · exact hnps h
        · have := (S.early _ hA).2.2.1
          rw [h0] at this
          cases this
      have hin : AllIn Φ (N ++ Φ) := fun ψ hψ => List.mem_append.2 (.inr hψ)
      refine hKc val (upd val i v) (fun k hk => (upd_other _ _ (fun (e : k = i) => hix (e ▸ hk))).symm) (ih (i :: ps) (upd val i v) (putFr o.dst v fr) Γ (N ++ Φ) el
        { plan := by rw [S.plan]; simp
          lsz := S.lsz, lex := S.lex, xlt := S.xlt, fu := S.fu, xdep := S.xdep, elnd := S.elnd, sub := .inl (S.sub.resolve_right fun h => by cases h.1), walk := hpl
          hol := ⟨S.hol.mod, S.hol.own, S.hol.ofp, S.hol.o0, fun ψ hψ => by
            rcases List.mem_append.1 hψ with hψ | hψ
            · exact hN ψ hψ _ _ S.hol.sp
            · exact S.hol.sp ψ hψ⟩
          xps := fun k hk => by
            rcases S.xps k hk with h | ⟨h, A⟩
            · exact .inl (List.mem_cons_of_mem _ h)
            · exact .inr ⟨(List.mem_cons.1 h).resolve_left (fun (e : k = i) => hix (by rw [← e]; exact hk)), A⟩
          early := fun p hp => by
            obtain ⟨h1, h2, h3, o2, t2, z2, b2, h4, h5, h6, h7, h8⟩ := S.early p hp
            have hne : p.1 ≠ i := fun e => hix (e ▸ h1)
            exact ⟨h1, (List.mem_cons.1 h2).resolve_left hne, h3, o2, t2, z2, b2, h4, h5, h6, by rw [upd_other _ _ hne]; exact h7, h8⟩
          pend := fun j hj hjx => by
            rcases List.mem_cons.1 hj with rfl | hj
            · refine ⟨o, Φ, ps, ho, hin, fun k hk => List.mem_cons_of_mem _ hk, hpprop, ?_⟩
              rw [puts_upd hnps, upd_same]
              rcases hrun with ⟨hg, hr⟩ | ⟨hg, hv⟩
              · refine .inl ⟨gv_sound S.frm hg, fun w' hw' => hr _ w' S.frm hw'⟩
              · exact .inr ⟨gv_sound S.frm hg, hv⟩
            · exact (S.pend j hj hjx).turn (fun k hk => (upd_other _ _ (hpps k hk)).symm) (upd_other _ _ (hpps j hj)).symm hin fun k hk => List.mem_cons_of_mem _ hk
          frm := by
            rw [puts, upd_same, puts_upd hnps, dstAt_eq ho]
            exact S.frm.putd hdo })
    · exact hK _ _ _ _ _ _ _ S fun h r' e => by
        injection e with e1 e2
        subst e1
        refine ⟨fun hx => ?_, by rw [h1]; decide⟩
        rcases S.xps i hx with h | ⟨_, A, hA⟩
        · exact hnps h
        · have := (S.early _ hA).2.2.1
          rw [h1] at this
          cases this
    · by_cases hx : i ∈ ex
      · -- a block made ahead takes its place
        obtain ⟨A, hA⟩ : ∃ A, (i, A) ∈ el := by
          rcases S.xps i hx with h | ⟨_, h⟩
          · exact absurd h hnps
          · exact h
        obtain ⟨_, _, _, o2, t2, z2, b, h4, h5, h6, h7, h8⟩ := S.early _ hA
        obtain rfl : o = o2 := by rw [ho] at h4; injection h4 with e
        obtain rfl : t = t2 := by rw [hop] at h5; injection h5 with e
        obtain rfl : z = z2 := zero_same hz h6
        obtain ⟨e1, e2, hel⟩ := List.append_of_mem hA
        have hnd2 := S.elnd
        rw [hel] at hnd2
        simp only [List.map_append, List.map_cons] at hnd2
        have hni : ∀ p ∈ e1 ++ e2, p.1 ≠ i := fun p hp e => by
          rw [List.nodup_append] at hnd2
          obtain ⟨_, h2, h3⟩ := hnd2
          rcases List.mem_append.1 hp with hp | hp
          · exact h3 p.1 (List.mem_map_of_mem hp) i List.mem_cons_self e
          · exact (List.nodup_cons.1 h2).1 (e ▸ List.mem_map_of_mem hp)
        refine ih (i :: ps) val (putFr o.dst (.pointer (some ⟨b, 0, none⟩)) fr) (.blk b t z.cells.toList :: Γ) Φ (e1 ++ e2)
          { plan := by rw [S.plan]; simp
            lsz := S.lsz, lex := S.lex, xlt := S.xlt, fu := S.fu, xdep := S.xdep, walk := hpl b
            sub := by
              obtain ⟨X, hX⟩ := S.sub.resolve_right fun h => by cases h.1
              exact .inl ⟨.blk b t z.cells.toList :: X, (List.Perm.cons _ hX).trans List.perm_middle.symm⟩
            elnd := by
              rw [List.map_append]
              rw [List.nodup_append] at hnd2 ⊢
              obtain ⟨h1, h2, h3⟩ := hnd2
              exact ⟨h1, (List.nodup_cons.1 h2).2, fun a ha b hb => h3 a ha b (List.mem_cons_of_mem _ hb)⟩
            hol := by
              have hh := S.hol
              rw [hel] at hh
              subst h8
              refine hh.perm ?_
              simp only [List.map_append, List.map_cons, List.cons_append]
              rw [← List.append_assoc, ← List.append_assoc]
              exact List.perm_middle
            xps := fun k hk => by
              rcases S.xps k hk with h | ⟨h, A', hA'⟩
              · exact .inl (List.mem_cons_of_mem _ h)
              · by_cases e : k = i
                · exact .inl (e ▸ List.mem_cons_self)
                · refine .inr ⟨(List.mem_cons.1 h).resolve_left e, A', ?_⟩
                  rw [hel] at hA'
                  rcases List.mem_append.1 hA' with h | h
                  · exact List.mem_append.2 (.inl h)
                  · rcases List.mem_cons.1 h with h | h
                    · injection h with h
                      exact absurd h e
                    · exact List.mem_append.2 (.inr h)
            early := fun p hp => by
              have hp' : p ∈ el := by
                rw [hel]
                rcases List.mem_append.1 hp with h | h
                · exact List.mem_append.2 (.inl h)
                · exact List.mem_append.2 (.inr (List.mem_cons_of_mem _ h))
              obtain ⟨h1, h2, h3⟩ := S.early p hp'
              exact ⟨h1, (List.mem_cons.1 h2).resolve_left (hni p hp), h3⟩
            pend := fun j hj hjx => by
              rcases List.mem_cons.1 hj with rfl | hj
              · exact absurd hx hjx
              · exact (S.pend j hj hjx).turn (fun _ _ => rfl) rfl (AllIn.refl _) fun k hk => List.mem_cons_of_mem _ hk
            frm := by
              rw [puts, h7, dstAt_eq ho]
              exact S.frm.putd hdo }
      · exact hK _ _ _ _ _ _ _ S fun h r' e => by
          injection e with e1 e2
          subst e1
          exact ⟨hx, by rw [h2]; decide⟩

theorem PL_main (F : Fit ops es us π0) (hU : UZ C ops us) (a0 : Act) (hd0 : a0.defers = C.ds) : ∀ (fuel : Nat) (π ps ex : List Nat) (val : Nat → Value) (fr : Fr) (Γ : List OA) (Φ : List SP) (el : List (Nat × OA)) (listed : Array Bool) (w : World),
    St C ops es us π0 Γs Q a0 fuel π ps ex val fr Γ Φ el listed w → wpAnyIn (fenceOf C.rd) 0 C.P .any ops Q fuel listed (puts ops a0 val ex) w := by
  intro fuel
  induction fuel with
  | zero =>
    intro π ps ex val fr Γ Φ el listed w S
    refine St.settle F (K := fun val => wpAnyIn (fenceOf C.rd) 0 C.P .any ops Q 0 listed (puts ops a0 val ex) w) ?_ (fun v v' h hk => by rw [puts_congr ex h]; exact hk) π ps val fr Γ Φ el S
    intro π ps val fr Γ Φ el S hst
    have hall : ∀ i ∈ π0, i ∈ ex := fun i hi => by
      rcases Classical.em (i ∈ ex) with h | h
      · exact h
      · have : i ∈ π0.filter fun k => !ex.contains k := List.mem_filter.2 ⟨hi, by simpa using h⟩
        have h0 := List.length_pos_of_mem this
        have := S.fu
        omega
    refine ⟨?_, S.fin F hst hall⟩
    cases hr : Region.ready .any ops listed with
    | nil => rfl
    | cons i r =>
      obtain ⟨h1, h2, _⟩ := S.ready F (i := i) (by rw [hr]; exact List.mem_cons_self)
      exact absurd (hall i (F.all i h1)) h2
  | succ fuel ih =>
    intro π ps ex val fr Γ Φ el listed w S
    refine St.settle F (K := fun val => wpAnyIn (fenceOf C.rd) 0 C.P .any ops Q (fuel + 1) listed (puts ops a0 val ex) w) ?_ (fun v v' h hk => by rw [puts_congr ex h]; exact hk) π ps val fr Γ Φ el S
    intro π ps val fr Γ Φ el S hst
    refine ⟨fun hr => S.fin F hst (S.done F hr), fun i hi => ?_⟩
    obtain ⟨h1, h2, h3⟩ := S.ready F hi
    exact St.step F hU hd0 ih S hst h1 h2 h3


-- ===== the check of the order, by reckoning =====

def ordOk (D : Array Nat) (n : Nat) (seen : List Nat) : List Nat → Bool
  | [] => true
  | i :: r => ((List.range n).all fun j => !((D.getD i 0).testBit j) || seen.contains j) && ordOk D n (i :: seen) r
def effOk (D : Array Nat) (es us : List Nat) : List Nat → Bool
  | [] => true
  | i :: r => (clsOf es us i == 0 || r.all fun j => clsOf es us j == 2 || (D.getD j 0).testBit i) && effOk D es us r
def nodupOk : List Nat → Bool
  | [] => true
  | i :: r => !r.contains i && nodupOk r
def edgesOk (D : Array Nat) (n : Nat) (i : Nat) (o : Oper) : Bool :=
  (o.after.toList.all fun e => !Region.binds .any e || (D.getD i 0).testBit e.on) &&
  ((List.range n).all fun j => !((D.getD i 0).testBit j) || o.after.toList.any fun e => Region.binds .any e && (e.on == j || (D.getD e.on 0).testBit j))
def noSel (o : Oper) : Bool := match o.op with | .select .. => false | _ => true
def pairOk (D : Array Nat) (ops : Array Oper) (i j : Nat) (oi oj : Oper) : Bool :=
  i == j || ((oi.dst == none || oi.dst != oj.dst) && ((D.getD i 0).testBit j || (D.getD j 0).testBit i || (match oi.dst with | some t => !(oj.looksAt ops).contains t | none => true)))
def chk (ops : Array Oper) (es us π0 : List Nat) : Bool :=
  let D := Region.before ops
  let n := ops.size
  let l := ops.toList.zipIdx
  D.size == n && (D.toList.all fun x => Nat.blt x (2 ^ n)) && nodupOk π0 && Nat.ble π0.length n && ((List.range n).all fun i => π0.contains i) && (π0.all fun i => Nat.blt i n) && ordOk D n [] π0 && effOk D es us π0 &&
  (l.all fun p => edgesOk D n p.2 p.1 && noSel p.1 && l.all fun q => pairOk D ops p.2 q.2 p.1 q.1)

theorem nodupOk_spec : ∀ {l : List Nat}, nodupOk l = true → l.Nodup
  | [], _ => List.nodup_nil
  | i :: r, h => by
    simp only [nodupOk, Bool.and_eq_true, Bool.not_eq_true'] at h
    exact List.nodup_cons.2 ⟨by simpa using h.1, nodupOk_spec h.2⟩

theorem ordOk_spec {D : Array Nat} {n : Nat} (hD : ∀ i j, (D.getD i 0).testBit j = true → j < n) : ∀ {l seen : List Nat}, ordOk D n seen l = true → ∀ l1 i l2, l = l1 ++ i :: l2 → ∀ j, (D.getD i 0).testBit j = true → j ∈ seen ∨ j ∈ l1
  | [], _, _, l1, i, l2, hl, _, _ => by cases l1 <;> cases hl
  | k :: r, seen, h, l1, i, l2, hl, j, hj => by
    simp only [ordOk, Bool.and_eq_true, List.all_eq_true, List.mem_range] at h
    cases l1 with
    | nil =>
      injection hl with h1 h2
      subst h1
      have := h.1 j (hD _ _ hj)
      rw [hj] at this
      exact .inl (by simpa using this)
    | cons x l1 =>
      injection hl with h1 h2
      subst h1
      rcases ordOk_spec hD h.2 l1 i l2 h2 j hj with h3 | h3
      · rcases List.mem_cons.1 h3 with rfl | h3
        · exact .inr List.mem_cons_self
        · exact .inl h3
      · exact .inr (List.mem_cons_of_mem _ h3)

theorem effOk_spec {D : Array Nat} {es us : List Nat} : ∀ {l : List Nat}, effOk D es us l = true → ∀ l1 i l2, l = l1 ++ i :: l2 → clsOf es us i ≠ 0 → ∀ j ∈ l2, clsOf es us j ≠ 2 → (D.getD j 0).testBit i = true
  | [], _, l1, i, l2, hl, _, _, _, _ => by cases l1 <;> cases hl
  | k :: r, h, l1, i, l2, hl, hc, j, hj, hcj => by
    simp only [effOk, Bool.and_eq_true, Bool.or_eq_true, List.all_eq_true] at h
    cases l1 with
    | nil =>
      injection hl with h1 h2
      subst h1; subst h2
      rcases h.1 with h1 | h1
      · exact absurd (by simpa using h1) hc
      · exact (h1 j hj).resolve_left fun h => hcj (by simpa using h)
    | cons x l1 =>
      injection hl with h1 h2
      subst h1
      exact effOk_spec h.2 l1 i l2 h2 hc j hj hcj

theorem fit_of_chk (hc : chk ops es us π0 = true) : Fit ops es us π0 := by
  simp only [chk, Bool.and_eq_true, List.all_eq_true, List.mem_range] at hc
  obtain ⟨⟨⟨⟨⟨⟨⟨⟨hd1, hd2⟩, h1⟩, h2⟩, h3⟩, h4⟩, h5⟩, h6⟩, h7⟩ := hc
  have hD' : ∀ i j, ((Region.before ops).getD i 0).testBit j = true → j < ops.size := fun i j hj => by
    rcases Nat.lt_or_ge j ops.size with h | h
    · exact h
    · exfalso
      cases hx : (Region.before ops)[i]? with
      | none => simp [Array.getD_eq_getD_getElem?, hx] at hj
      | some x =>
        have hxm : x ∈ (Region.before ops).toList := by
          have := Array.mem_of_getElem? hx
          simpa using this
        have hlt : x < 2 ^ ops.size := by have := hd2 x hxm; simpa [Nat.blt_eq] using this
        have : x.testBit j = false := Nat.testBit_lt_two_pow (Nat.lt_of_lt_of_le hlt (Nat.pow_le_pow_right (by decide) h))
        rw [Array.getD_eq_getD_getElem?, hx, Option.getD_some, this] at hj
        cases hj
  have hp : ∀ i o, ops[i]? = some o → (o, i) ∈ ops.toList.zipIdx := fun i o ho => by
    rw [List.mem_zipIdx_iff_getElem?]
    simpa using ho
  have hdst : ∀ {i t}, dstAt ops i = some t → ∃ o, ops[i]? = some o ∧ o.dst = some t := fun {i t} h => by
    unfold dstAt at h
    cases ho : ops[i]? with
    | none => rw [ho] at h; cases h
    | some o => rw [ho] at h; exact ⟨o, rfl, h⟩
  refine { nodup := nodupOk_spec h1, len := Nat.le_of_ble_eq_true h2, all := fun i hi => by simpa using h3 i hi, lt := fun i hi => by have := h4 i hi; simpa [Nat.blt_eq] using this
           eff := effOk_spec h6, dist := ?_, apart := ?_, edge := ?_, clos := ?_, ord := ?_, nosel := ?_ }
  · intro i j t hi hj
    obtain ⟨oi, hoi, hti⟩ := hdst hi
    obtain ⟨oj, hoj, htj⟩ := hdst hj
    have := (h7 _ (hp i oi hoi)).2 _ (hp j oj hoj)
    simp only [pairOk, Bool.or_eq_true, Bool.and_eq_true] at this
    rcases this with h | ⟨h, _⟩
    · simpa using h
    · rw [hti, htj] at h
      simp at h
  · intro i j oi oj hne hoi hoj
    have := (h7 _ (hp i oi hoi)).2 _ (hp j oj hoj)
    simp only [pairOk, Bool.or_eq_true, Bool.and_eq_true] at this
    rcases this with h | ⟨_, h⟩
    · exact absurd (by simpa using h) hne
    · rcases h with (h | h) | h
      · exact .inl h
      · exact .inr (.inl h)
      · refine .inr (.inr fun t ht => ?_)
        rw [ht] at h
        simpa using h
  · intro i o e ho he hb
    have := (h7 _ (hp i o ho)).1.1
    simp only [edgesOk, Bool.and_eq_true, List.all_eq_true] at this
    have h8 := this.1 e (by simpa using he)
    rw [hb] at h8
    simpa [depOn] using h8
  · intro i j hi hj
    obtain ⟨o, ho⟩ : ∃ o, ops[i]? = some o := ⟨_, Array.getElem?_eq_getElem hi⟩
    have := (h7 _ (hp i o ho)).1.1
    simp only [edgesOk, Bool.and_eq_true, List.all_eq_true, List.mem_range] at this
    have h8 := this.2 j (hD' _ _ hj)
    unfold depOn at hj
    rw [hj] at h8
    simp only [Bool.not_true, Bool.false_or, List.any_eq_true, Bool.and_eq_true, Bool.or_eq_true, beq_iff_eq] at h8
    obtain ⟨e, he, hb, h9⟩ := h8
    exact ⟨o, e, ho, by simpa using he, hb, h9⟩
  · intro l1 i l2 hl j hj
    rcases ordOk_spec hD' h5 l1 i l2 hl j hj with h | h
    · cases h
    · exact h
  · intro i o cs b ho he
    have := (h7 _ (hp i o ho)).1.2
    unfold noSel at this
    rw [he] at this
    cases this

variable {fr : Fr} {Γ : List OA} {Φ : List SP} {π : List Nat} {i d : Nat} {o : Oper}

/-- a region that draws: 'chk' holds our order against the edges. -/
theorem W_regionP {id : Nat} {l : List Oper} (es us π0 : List Nat) (Γs : List OA) (hm : C.P.follows .mixedOrders = true) (hc : chk l.toArray es us π0 = true) (hz : UZ C l.toArray us) (hs : SubO Γ Γs)
    (h : PL C l.toArray Γs es us Q π0 fr Γ Φ) : W C (.region id l.toArray true) fr Γ Φ Q := by
  intro a w ha hw
  have F := fit_of_chk hc
  refine wpIn_region_any hm ?_
  refine PL_main F hz a ha.1 _ π0 [] [] (fun _ => undef) fr Γ Φ [] _ _ { plan := rfl, lsz := (by simp), lex := ?_, xlt := (fun _ h => by cases h), fu := ?_, xdep := (fun _ h => by cases h), xps := (fun _ h => by cases h), early := (fun _ h => by cases h), elnd := List.nodup_nil, pend := (fun _ h => by cases h), frm := ha, hol := ?_, sub := .inl hs, walk := h }
  · intro i hi
    have hi' : i < l.length := by simpa using hi
    simp [Array.getD_eq_getD_getElem?, hi']
  · have := F.len
    refine Nat.le_trans (List.length_filter_le _ _) ?_
    simpa using this
  · simpa using hw.ext (w' := { w with drawn := w.drawn + 1 }) ⟨rfl, rfl, rfl, Nat.le_refl _, fun _ _ _ => rfl⟩

def lget : List Oper → Nat → Option Oper
  | o :: _, 0 => some o
  | _ :: r, n + 1 => lget r n
  | [], _ => none
theorem lget_eq : ∀ {l : List Oper} {i : Nat} {o : Oper}, lget l i = some o → l[i]? = some o
  | [], i, o, h => by cases i <;> cases h
  | a :: r, 0, o, h => by simpa [lget] using h
  | a :: r, n + 1, o, h => by simpa using lget_eq (l := r) (i := n) h
theorem lget_ops {i : Nat} {o : Oper} (h : lget ops.toList i = some o) : ops[i]? = some o := by
  have := lget_eq h
  simpa using this

theorem PL_nil (h : WQ C .normal fr Γ Φ Q) : PL C ops Γs es us Q [] fr Γ Φ := h
theorem PL_runs {v : Value} (he : clsOf es us i = 0) (ho : lget ops.toList i = some o) (hg : gv ops fr o.guard = some true) (hd : o.dst = some d) (hn : Nat.blt d C.n = true) (h : Runs C fr Γs Φ o v)
    (k : PL C ops Γs es us Q π ((d, v) :: fr) Γ Φ) : PL C ops Γs es us Q (i :: π) fr Γ Φ :=
  ⟨o, lget_ops ho, by rw [hd]; exact hn, .inl ⟨he, v, [], (fun _ h => by cases h), .inl ⟨hg, h⟩, by rw [hd]; exact k⟩⟩
theorem PL_runsF {v : Value} {ψ : SP} (he : clsOf es us i = 0) (ho : lget ops.toList i = some o) (hg : gv ops fr o.guard = some true) (hd : o.dst = some d) (hn : Nat.blt d C.n = true) (h : Runs C fr Γs Φ o v ∧ Ent Φ ψ)
    (k : PL C ops Γs es us Q π ((d, v) :: fr) Γ (ψ :: Φ)) : PL C ops Γs es us Q (i :: π) fr Γ Φ :=
  ⟨o, lget_ops ho, by rw [hd]; exact hn, .inl ⟨he, v, [ψ], (fun χ hχ => by rcases List.mem_cons.1 hχ with rfl | hχ; exact h.2; cases hχ), .inl ⟨hg, h.1⟩, by rw [hd]; exact k⟩⟩
theorem PL_pass (he : clsOf es us i = 0) (ho : lget ops.toList i = some o) (hg : gv ops fr o.guard = some false) (hd : o.dst = some d) (hn : Nat.blt d C.n = true)
    (k : PL C ops Γs es us Q π ((d, undef) :: fr) Γ Φ) : PL C ops Γs es us Q (i :: π) fr Γ Φ :=
  ⟨o, lget_ops ho, by rw [hd]; exact hn, .inl ⟨he, undef, [], (fun _ h => by cases h), .inr ⟨hg, rfl⟩, by rw [hd]; exact k⟩⟩
theorem PL_effs {X : Type} {pf : X → Prop} {vx : X → Value} {Γ' : X → List OA} {Φ' : X → List SP} (he : clsOf es us i = 1) (ho : lget ops.toList i = some o) (hg : gv ops fr o.guard = some true) (hd : o.dst = some d) (hn : Nat.blt d C.n = true)
    (h : Effs C fr Γ Φ o pf vx Γ' Φ') (hs : ∀ x, SubO (Γ' x) Γs) (k : ∀ x, pf x → PL C ops Γs es us Q π ((d, vx x) :: fr) (Γ' x) (Φ' x)) : PL C ops Γs es us Q (i :: π) fr Γ Φ :=
  ⟨o, lget_ops ho, by rw [hd]; exact hn, .inr (.inl ⟨he, hg, X, pf, vx, Γ', Φ', h, fun x hx => ⟨.inl (hs x), by rw [hd]; exact k x hx⟩⟩)⟩
theorem PL_do {X : Type} {pf : X → Prop} {vx : X → Value} {Γ' : X → List OA} {Φ' : X → List SP} (he : clsOf es us i = 1) (ho : lget ops.toList i = some o) (hg : gv ops fr o.guard = some true) (hd : o.dst = none)
    (h : Effs C fr Γ Φ o pf vx Γ' Φ') (hs : ∀ x, SubO (Γ' x) Γs) (k : ∀ x, pf x → PL C ops Γs es us Q π fr (Γ' x) (Φ' x)) : PL C ops Γs es us Q (i :: π) fr Γ Φ :=
  ⟨o, lget_ops ho, by rw [hd]; rfl, .inr (.inl ⟨he, hg, X, pf, vx, Γ', Φ', h, fun x hx => ⟨.inl (hs x), by rw [hd]; exact k x hx⟩⟩)⟩
/-- the last operation of a region, all others ahead of it: it may write what the others read. -/
def allDep (ops : Array Oper) (i : Nat) : Bool := (List.range ops.size).all fun j => j == i || depOn ops i j
theorem PL_doL {X : Type} {pf : X → Prop} {vx : X → Value} {Γ' : X → List OA} {Φ' : X → List SP} (he : clsOf es us i = 1) (ho : lget ops.toList i = some o) (hg : gv ops fr o.guard = some true) (hd : o.dst = none)
    (h : Effs C fr Γ Φ o pf vx Γ' Φ') (hl : allDep ops i = true) (k : ∀ x, pf x → WQ C .normal fr (Γ' x) (Φ' x) Q) : PL C ops Γs es us Q [i] fr Γ Φ :=
  ⟨o, lget_ops ho, by rw [hd]; rfl, .inr (.inl ⟨he, hg, X, pf, vx, Γ', Φ', h, fun x hx => ⟨.inr ⟨rfl, fun j hj hne => by
    have h1 := List.all_eq_true.1 hl j (List.mem_range.2 hj)
    simpa [hne] using h1⟩, by rw [hd]; exact k x hx⟩⟩)⟩

theorem PL_new {t ty : TypeId} {pos : String} {aft : Array Edge} {z : Value} {cs : List Value} (he : clsOf es us i = 2) (ho : lget ops.toList i = some ⟨some d, .alloc t, ty, pos, aft, none⟩) (hn : Nat.blt d C.n = true)
    (hz : ∀ w, (zeroValue t).run C.P w = .ok z w) (hcs : listO z.cells.toList = some cs) (k : ∀ b, PL C ops Γs es us Q π ((d, .pointer (some ⟨b, 0, none⟩)) :: fr) (.blk b t cs :: Γ) Φ) : PL C ops Γs es us Q (i :: π) fr Γ Φ :=
  ⟨_, lget_ops ho, hn, .inr (.inr ⟨he, t, z, rfl, rfl, hz, fun b => by rw [listO_eq hcs]; exact k b⟩)⟩

/-- what is left of a list without the places named, reckoned to the end. -/
def dropO (ks : List Nat) : Nat → List OA → Option (List OA)
  | _, [] => some []
  | n, x :: r => match dropO ks (n + 1) r with
    | some t => bif ks.contains n then some t else some (x :: t)
    | none => none

theorem W_regionP' {id : Nat} {l : List Oper} (es us π0 : List Nat) (drop : List Nat) {Γs : List OA} (hm : C.P.follows .mixedOrders = true) (hc : chk l.toArray es us π0 = true) (hz : UZ C l.toArray us) (_ : dropO drop 0 Γ = some Γs) (hs : SubO Γ Γs)
    (h : PL C l.toArray Γs es us Q π0 fr Γ Φ) : W C (.region id l.toArray true) fr Γ Φ Q := W_regionP es us π0 Γs hm hc hz hs h

-- ===== signposts: each says which kind of goal stands =====
theorem WL_id {ops : Array Oper} {o : Oper} {l : List Oper} (h : WL C ops (o :: l) fr Γ Φ Q) : WL C ops (o :: l) fr Γ Φ Q := h
theorem W_id {c : Code} (h : W C c fr Γ Φ Q) : W C c fr Γ Φ Q := h
theorem WQ_id {e : Exit} (h : WQ C e fr Γ Φ Q) : WQ C e fr Γ Φ Q := h
theorem PL_id {ops : Array Oper} {Γs : List OA} {es us π : List Nat} (h : PL C ops Γs es us Q π fr Γ Φ) : PL C ops Γs es us Q π fr Γ Φ := h
section
variable {ty : TypeId} {pos : String} {aft : Array Edge} {g : Option (Nat × Bool)} {dst : Option Tmp} {v : Value}
theorem G_bin {op : BinOp} {t t' : TypeId} {x y : Operand} (h : Runs C fr Γ Φ ⟨dst, .binOp op t x y t', ty, pos, aft, g⟩ v) : Runs C fr Γ Φ ⟨dst, .binOp op t x y t', ty, pos, aft, g⟩ v := h
theorem G_load {t : TypeId} {x : Operand} (h : Runs C fr Γ Φ ⟨dst, .load t x, ty, pos, aft, g⟩ v) : Runs C fr Γ Φ ⟨dst, .load t x, ty, pos, aft, g⟩ v := h
theorem G_call {c : Call} (h : Runs C fr Γ Φ ⟨dst, .call c, ty, pos, aft, g⟩ v) : Runs C fr Γ Φ ⟨dst, .call c, ty, pos, aft, g⟩ v := h
end

theorem UZ.cons {i d : Nat} {us : List Nat} {t ty : TypeId} {pos : String} {aft : Array Edge} {z : Value} (ho : lget ops.toList i = some ⟨some d, .alloc t, ty, pos, aft, none⟩) (hz : ∀ w, (zeroValue t).run C.P w = .ok z w) (h : UZ C ops us) : UZ C ops (i :: us) :=
  UZ.cons' (lget_ops ho) hz h

end
end Go.Hs
