/-
  The rules of the small logic for arrays of six bytes, for slices of arrays, and for comparing things of several cells. No program is named here.
-/
import Derived.Test.YtlfghljgilmenaaLu
import Derived.Test.YtlfghljgilmenaaLq
import Derived.DeepKeys
namespace Go.Hs
open Go Go.RowKit

/-- six bytes. -/
structure A6 where
  a0 : UInt8
  a1 : UInt8
  a2 : UInt8
  a3 : UInt8
  a4 : UInt8
  a5 : UInt8
deriving DecidableEq
def A6.bytes (a : A6) : List UInt8 := [a.a0, a.a1, a.a2, a.a3, a.a4, a.a5]
def A6.cells (a : A6) : List Value := [bcell a.a0, bcell a.a1, bcell a.a2, bcell a.a3, bcell a.a4, bcell a.a5]
theorem A6.cells_map (a : A6) : a.cells = a.bytes.map bcell := rfl
theorem A6.bytes_inj {a b : A6} (h : a.bytes = b.bytes) : a = b := by
  obtain ⟨a0, a1, a2, a3, a4, a5⟩ := a
  obtain ⟨b0, b1, b2, b3, b4, b5⟩ := b
  simp only [A6.bytes, List.cons.injEq, and_true] at h
  obtain ⟨rfl, rfl, rfl, rfl, rfl, rfl⟩ := h
  rfl
def A6.of (l : List UInt8) : A6 := ⟨l.getD 0 0, l.getD 1 0, l.getD 2 0, l.getD 3 0, l.getD 4 0, l.getD 5 0⟩
theorem A6.of_bytes {l : List UInt8} (h : l.length = 6) : (A6.of l).bytes = l := by
  match l, h with
  | [_, _, _, _, _, _], _ => rfl
def zA6 : A6 := ⟨0, 0, 0, 0, 0, 0⟩
/-- a cell that holds a byte. -/
def Bc (v : Value) (b : UInt8) : Prop := v = bcell b
theorem Bc.self (b : UInt8) : Bc (bcell b) b := rfl
theorem Bc.zero : Bc (.int .u8 0) 0 := rfl
theorem Bc.lit (n : Nat) (h : Nat.blt n 256 = true) : Bc (.int .u8 (Int.ofNat n)) (UInt8.ofNat n) := by
  have h : n < 256 := Nat.le_of_ble_eq_true h
  show Value.int .u8 (Int.ofNat n) = .int .u8 ((UInt8.ofNat n).toNat : Int)
  rw [UInt8.toNat_ofNat', Nat.mod_eq_of_lt h]
  rfl

/-- a cell and what it tells when compared. -/
def Kc (P : Program) (t : TypeId) (cs : List Value) (ls : List Lit) : Prop := ∃ D, P.keyLits D t cs = some ls

section
variable {P : Program}
theorem keyLits_mono_u8 {e : TypeId} (he : P.underlying e = some (.int .u8)) (b : UInt8) : P.keyLits 1 e [bcell b] = some [.int .u8 (b.toNat : Int)] := by
  have h : (Lit.int .u8 (b.toNat : Int)).wf = true := by
    have := b.toNat_lt
    simp [Lit.wf, IntKind.min, IntKind.max, IntKind.signed, IntKind.bits] <;> omega
  simp [Program.keyLits, he, bcell, h]
theorem keyLits_a6 {t e : TypeId} (ht : P.underlying t = some (.array 6 e)) (he : P.underlying e = some (.int .u8)) (hce : P.cellsOf e = 1) (hct : P.cellsOf t = 6) (a : A6) :
    P.keyLits 2 t a.cells = some (a.bytes.map fun b => .int .u8 (b.toNat : Int)) := by
  have h := fun b => keyLits_mono_u8 he b
  have hr : List.range 6 = [0, 1, 2, 3, 4, 5] := rfl
  rw [show (2 : Nat) = 1 + 1 from rfl]
  unfold Program.keyLits
  simp only [ht, hct, hce, A6.cells, List.length_cons, List.length_nil, if_true, hr, List.mapM_cons, List.mapM_nil, Nat.zero_mul, Nat.one_mul, Nat.mul_one, List.drop_zero, List.drop_succ_cons, List.take_succ_cons, List.take_zero, h,
    Option.pure_def, Option.bind_eq_bind, Option.bind_some, Option.map_some]
  rfl
theorem a6_lits_inj {a b : A6} : (a.bytes.map fun b => Lit.int .u8 (b.toNat : Int)) = (b.bytes.map fun b => Lit.int .u8 (b.toNat : Int)) ↔ a = b := by
  constructor
  · intro h
    apply A6.bytes_inj
    refine List.map_inj_right (fun x y hxy => ?_) |>.1 h
    injection hxy with _ hxy
    exact UInt8.toNat_inj.1 (by omega)
  · rintro rfl; rfl
end

section
variable {C : Ctx} {ops : Array Oper} {l : List Oper} {fr : Fr} {Γ Γ' Γ1 : List OA} {Φ : List SP} {Q : Exit → Act → World → Prop}
  {d : Nat} {ty : TypeId} {pos : String} {aft : Array Edge} {g : Option (Nat × Bool)}

theorem neS_t' {α : Type} {a b : α} [Decidable (a = b)] (h : ¬ a = b) : (!decide (a = b)) = true := by rw [decide_eq_false h]; rfl
theorem neS_f' {α : Type} {a b : α} [Decidable (a = b)] (h : a = b) : (!decide (a = b)) = false := by rw [decide_eq_true h]; rfl
/-- two things of several cells compared. -/
theorem R_eqG {x y : Operand} {t t' : TypeId} {cs ds : List Value} {D D' : Nat} {la lb : List Lit} {c : Bool} {m : Nat} (hx : evO fr x = some (.agg cs.toArray)) (hy : evO fr y = some (.agg ds.toArray))
    (hk : C.P.keyTypeAt m t = true) (hm : Nat.ble m 10000 = true) (hg : C.P.eqGuardType C.P.depth t = false)
    (fx : (Value.agg cs.toArray).formed C.P t = true) (fy : (Value.agg ds.toArray).formed C.P t = true) {p : Prop} [Decidable p] (ka : C.P.keyLits D t cs = some la) (kb : C.P.keyLits D' t ds = some lb) (hp : la = lb ↔ p) (hr : decide p = c) :
    Runs C fr Γ Φ ⟨some d, .binOp .eql t x y t', ty, pos, aft, g⟩ (.bool c) :=
  Runs.pure fun a w ha hw => by
    subst hr
    obtain ⟨r, hr, hi⟩ := run_equalIn_deep (P := C.P) (10000 - m) m t hk w D D' (.agg cs.toArray) (.agg ds.toArray) la lb fx fy (by simpa [Value.cells] using ka) (by simpa [Value.cells] using kb)
    rw [show 10000 - m + m = 10000 from Nat.sub_add_cancel (Nat.le_of_ble_eq_true hm)] at hr
    have hd : r = decide p := by
      cases r
      · exact (decide_eq_false fun e => by simpa using hi.2 (hp.2 e)).symm
      · exact (decide_eq_true (hp.1 (hi.1 rfl))).symm
    subst hd
    simp only [execOp, evO_sound ha hx, evO_sound ha hy, Sem.run_bind, run_eqGuard_agg w .eql t x y _ _ hg, Result.andThen_ok, run_eql_struct, hr, Sem.run_pure]
theorem R_neG {x y : Operand} {t t' : TypeId} {cs ds : List Value} {D D' : Nat} {la lb : List Lit} {c : Bool} {m : Nat} (hx : evO fr x = some (.agg cs.toArray)) (hy : evO fr y = some (.agg ds.toArray))
    (hk : C.P.keyTypeAt m t = true) (hm : Nat.ble m 10000 = true) (hg : C.P.eqGuardType C.P.depth t = false)
    (fx : (Value.agg cs.toArray).formed C.P t = true) (fy : (Value.agg ds.toArray).formed C.P t = true) {p : Prop} [Decidable p] (ka : C.P.keyLits D t cs = some la) (kb : C.P.keyLits D' t ds = some lb) (hp : la = lb ↔ p) (hr : (!decide p) = c) :
    Runs C fr Γ Φ ⟨some d, .binOp .neq t x y t', ty, pos, aft, g⟩ (.bool c) :=
  Runs.pure fun a w ha hw => by
    subst hr
    obtain ⟨r, hr, hi⟩ := run_equalIn_deep (P := C.P) (10000 - m) m t hk w D D' (.agg cs.toArray) (.agg ds.toArray) la lb fx fy (by simpa [Value.cells] using ka) (by simpa [Value.cells] using kb)
    rw [show 10000 - m + m = 10000 from Nat.sub_add_cancel (Nat.le_of_ble_eq_true hm)] at hr
    have hd : r = decide p := by
      cases r
      · exact (decide_eq_false fun e => by simpa using hi.2 (hp.2 e)).symm
      · exact (decide_eq_true (hp.1 (hi.1 rfl))).symm
    subst hd
    simp only [execOp, evO_sound ha hx, evO_sound ha hy, Sem.run_bind, run_eqGuard_agg w .neq t x y _ _ hg, Result.andThen_ok, run_neq_struct, hr, Sem.run_pure]
/-- two addresses compared. -/
theorem R_eqA {x y : Operand} {t t' e : TypeId} {v0 v1 v2 v3 v4 v5 u0 u1 u2 u3 u4 u5 : Value} {a0 a1 a2 a3 a4 a5 b0 b1 b2 b3 b4 b5 : UInt8} {c : Bool} (hx : evO fr x = some (.agg #[v0, v1, v2, v3, v4, v5])) (hy : evO fr y = some (.agg #[u0, u1, u2, u3, u4, u5]))
    (ht : C.P.underlying t = some (.array 6 e)) (he : C.P.underlying e = some (.int .u8)) (hce : C.P.cellsOf e = 1) (hct : C.P.cellsOf t = 6) (hg : C.P.eqGuardType C.P.depth t = false)
    (p0 : Bc v0 a0) (p1 : Bc v1 a1) (p2 : Bc v2 a2) (p3 : Bc v3 a3) (p4 : Bc v4 a4) (p5 : Bc v5 a5) (q0 : Bc u0 b0) (q1 : Bc u1 b1) (q2 : Bc u2 b2) (q3 : Bc u3 b3) (q4 : Bc u4 b4) (q5 : Bc u5 b5)
    (hr : decide ((⟨a0, a1, a2, a3, a4, a5⟩ : A6) = ⟨b0, b1, b2, b3, b4, b5⟩) = c) : Runs C fr Γ Φ ⟨some d, .binOp .eql t x y t', ty, pos, aft, g⟩ (.bool c) := by
  subst p0; subst p1; subst p2; subst p3; subst p4; subst p5; subst q0; subst q1; subst q2; subst q3; subst q4; subst q5
  have hk : C.P.keyTypeAt 2 t = true := by simp [Program.keyTypeAt, ht, he]
  refine R_eqG (cs := A6.cells ⟨a0, a1, a2, a3, a4, a5⟩) (ds := A6.cells ⟨b0, b1, b2, b3, b4, b5⟩) hx hy hk rfl hg (by simp [Value.formed, ht, hct, A6.cells]) (by simp [Value.formed, ht, hct, A6.cells]) (keyLits_a6 ht he hce hct _) (keyLits_a6 ht he hce hct _) a6_lits_inj hr
theorem R_neA {x y : Operand} {t t' e : TypeId} {v0 v1 v2 v3 v4 v5 u0 u1 u2 u3 u4 u5 : Value} {a0 a1 a2 a3 a4 a5 b0 b1 b2 b3 b4 b5 : UInt8} {c : Bool} (hx : evO fr x = some (.agg #[v0, v1, v2, v3, v4, v5])) (hy : evO fr y = some (.agg #[u0, u1, u2, u3, u4, u5]))
    (ht : C.P.underlying t = some (.array 6 e)) (he : C.P.underlying e = some (.int .u8)) (hce : C.P.cellsOf e = 1) (hct : C.P.cellsOf t = 6) (hg : C.P.eqGuardType C.P.depth t = false)
    (p0 : Bc v0 a0) (p1 : Bc v1 a1) (p2 : Bc v2 a2) (p3 : Bc v3 a3) (p4 : Bc v4 a4) (p5 : Bc v5 a5) (q0 : Bc u0 b0) (q1 : Bc u1 b1) (q2 : Bc u2 b2) (q3 : Bc u3 b3) (q4 : Bc u4 b4) (q5 : Bc u5 b5)
    (hr : (!decide ((⟨a0, a1, a2, a3, a4, a5⟩ : A6) = ⟨b0, b1, b2, b3, b4, b5⟩)) = c) : Runs C fr Γ Φ ⟨some d, .binOp .neq t x y t', ty, pos, aft, g⟩ (.bool c) := by
  subst p0; subst p1; subst p2; subst p3; subst p4; subst p5; subst q0; subst q1; subst q2; subst q3; subst q4; subst q5
  have hk : C.P.keyTypeAt 2 t = true := by simp [Program.keyTypeAt, ht, he]
  refine R_neG (cs := A6.cells ⟨a0, a1, a2, a3, a4, a5⟩) (ds := A6.cells ⟨b0, b1, b2, b3, b4, b5⟩) hx hy hk rfl hg (by simp [Value.formed, ht, hct, A6.cells]) (by simp [Value.formed, ht, hct, A6.cells]) (keyLits_a6 ht he hce hct _) (keyLits_a6 ht he hce hct _) a6_lits_inj hr

/-- the front of what a pointer leads to is loaded. -/
theorem R_loadPT {t : TypeId} {x : Operand} {p : Value} {us us' : List Value} {n : Nat} (hx : evO fr x = some p)
    (hm : Pt p us ∈ Φ) (hagg : ∀ w, (isAgg t).run C.P w = .ok true w) (hs : ∀ w, (sizeOf t).run C.P w = .ok n w) (ht : takeN 0 n us = some us') : Runs C fr Γ Φ ⟨some d, .load t x, ty, pos, aft, g⟩ (.agg us'.toArray) :=
  Runs.pure fun a w ha hw => by
    obtain ⟨ad, hv, _, _, hcell⟩ := hw.sp _ hm
    obtain ⟨h1, h2⟩ := takeN_at ht
    simp [execOp, evO_sound ha hx, hv, Instr.loadAt, Instr.sureAddr, run_loadVar_agg (w := w) (a := ad) (us := us') hagg (fun w => by rw [h1]; exact hs w) (fun j u hu => hcell j u (by have := h2 j u hu; rwa [Nat.zero_add] at this))]
/-- a part of a lasting block is loaded. -/
theorem R_loadPO {t : TypeId} {x : Operand} {b off : Nat} {us : List Value} {v : Value} (hx : evO fr x = some (.pointer (some ⟨b, off, none⟩)))
    (hm : Pt (.pointer (some ⟨b, 0, none⟩)) us ∈ Φ) (hagg : ∀ w, (isAgg t).run C.P w = .ok false w) (hc : us[off]? = some v) : Runs C fr Γ Φ ⟨some d, .load t x, ty, pos, aft, g⟩ v :=
  Runs.pure fun a w ha hw => by
    obtain ⟨ad, hv, _, _, hcell⟩ := hw.sp _ hm
    injection hv with hv
    injection hv with hv
    subst hv
    have h0 := hcell off v hc
    rw [Addr.add_lit, Nat.zero_add] at h0
    simp [execOp, evO_sound ha hx, Instr.loadAt, Instr.sureAddr, run_loadVar_one hagg h0]
theorem R_loadPON {t : TypeId} {x : Operand} {b off n : Nat} {us us' : List Value} (hx : evO fr x = some (.pointer (some ⟨b, off, none⟩)))
    (hm : Pt (.pointer (some ⟨b, 0, none⟩)) us ∈ Φ) (hagg : ∀ w, (isAgg t).run C.P w = .ok true w) (hs : ∀ w, (sizeOf t).run C.P w = .ok n w) (ht : takeN off n us = some us') : Runs C fr Γ Φ ⟨some d, .load t x, ty, pos, aft, g⟩ (.agg us'.toArray) :=
  Runs.pure fun a w ha hw => by
    obtain ⟨ad, hv, _, _, hcell⟩ := hw.sp _ hm
    injection hv with hv
    injection hv with hv
    subst hv
    obtain ⟨h1, h2⟩ := takeN_at ht
    simp [execOp, evO_sound ha hx, Instr.loadAt, Instr.sureAddr, run_loadVar_agg (w := w) (a := ⟨b, off, none⟩) (us := us') hagg (fun w => by rw [h1]; exact hs w) (fun j u hu => by
      have h3 := hcell _ u (h2 j u hu)
      rw [Addr.add_lit, Nat.zero_add] at h3
      rw [Addr.add_lit]
      exact h3)]
/-- a slice of an array, whole: the slice's value. -/
theorem R_sliceArr {t e : TypeId} {x : Operand} {b off n : Nat} (hx : evO fr x = some (.pointer (some ⟨b, off, none⟩))) (ht : C.P.underlying t = some (.array n e))
    (hs : ∀ w, (sizeOf e).run C.P w = .ok 1 w) (hn : Nat.beq n 0 = false) : Runs C fr Γ Φ ⟨some d, .slice t x none none none, ty, pos, aft, g⟩ (.slice (some ⟨b, off, none⟩) n n) :=
  Runs.pure fun a w ha hw => by
    have h0 : ¬ n = 0 := fun e => by rw [e] at hn; cases hn
    simp [execOp, evO_sound ha hx, Instr.sliceAt, Instr.sliceBounds, run_underlying ht, hs, h0, Instr.sureAddr, Addr.add]

/-- a part of what a pointer leads to, read as bytes. -/
theorem ent_ptBy {b off n : Nat} {xs : List Value} {bs : List UInt8} (hm : Pt (.pointer (some ⟨b, off, none⟩)) xs ∈ Φ) (hx : xs.take n = bs.map bcell) (hl : bs.length = n) (h0 : 0 < n) (hn : n ≤ 1000) : Ent Φ (By (.slice (some ⟨b, off, none⟩) n n) bs) := fun w O h => by
  obtain ⟨ad, hv, hlt, hO, hcell⟩ := h _ hm
  injection hv with hv
  injection hv with hv
  subst hv
  have hlen : n ≤ xs.length := by
    have := congrArg List.length hx
    rw [List.length_take, List.length_map, hl] at this
    omega
  refine ⟨by rw [List.length_map, Nat.mul_one], some ⟨b, off, none⟩, n, by rw [hl], by omega, by simp [maxLen]; omega, fun _ => ⟨_, rfl, hlt, hO, fun j u hu => ?_⟩⟩
  · rw [← hx, List.getElem?_take] at hu
    split at hu
    · exact hcell j u hu
    · cases hu
end
end Go.Hs
