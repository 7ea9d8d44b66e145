/-
  The rules of the small logic: one for each form of operation. No program is named here.
-/
import Derived.Test.YtlfghljgilmenaaLg
namespace Go.Hs
open Go Go.RowKit

-- ===== slices as lasting data =====

theorem add_add' (a : Addr) (i j : Nat) : (a.add i).add j = a.add (i + j) := by
  unfold Addr.add
  by_cases hi : i = 0 <;> by_cases hj : j = 0 <;> simp [hi, hj, Nat.add_assoc]
theorem block_add (a : Addr) (n : Nat) : (a.add n).block = a.block := by unfold Addr.add; split <;> rfl

def slP (size : Nat) (v : Value) (n : Nat) (xs : List Value) (w : World) (O : Nat → Prop) : Prop :=
  xs.length = n * size ∧ ∃ A c, v = .slice A n c ∧ n ≤ c ∧ c ≤ maxLen ∧
    (0 < n → ∃ ad, A = some ad ∧ ad.block < w.heap.size ∧ ¬ O ad.block ∧ ∀ j u, xs[j]? = some u → w.cell? (ad.add j) = some u)

theorem slP.st {size : Nat} {v : Value} {n : Nat} {xs : List Value} {w w' : World} {O O' : Nat → Prop} (h : slP size v n xs w O) (hm : Mod O w w') (ho : ∀ k, k < w.heap.size → O' k → O k) : slP size v n xs w' O' := by
  obtain ⟨h1, A, c, hv, hc, hcm, hr⟩ := h
  refine ⟨h1, A, c, hv, hc, hcm, fun hn => ?_⟩
  obtain ⟨ad, hA, hlt, hO, hcell⟩ := hr hn
  refine ⟨ad, hA, Nat.lt_of_lt_of_le hlt hm.size, fun h => hO (ho _ hlt h), fun j u hu => ?_⟩
  rw [World.cell?_of_block (w := w) (by rw [block_add]; exact hm.block _ hlt hO)]
  exact hcell j u hu

/-- the slice value v of n elements (size cells each) reads the cells xs. -/
def Sl (size : Nat) (v : Value) (n : Nat) (xs : List Value) : SP := ⟨slP size v n xs, slP.st⟩

def ptP (v : Value) (xs : List Value) (w : World) (O : Nat → Prop) : Prop :=
  ∃ ad, v = .pointer (some ad) ∧ ad.block < w.heap.size ∧ ¬ O ad.block ∧ ∀ j u, xs[j]? = some u → w.cell? (ad.add j) = some u

theorem ptP.st {v : Value} {xs : List Value} {w w' : World} {O O' : Nat → Prop} (h : ptP v xs w O) (hm : Mod O w w') (ho : ∀ k, k < w.heap.size → O' k → O k) : ptP v xs w' O' := by
  obtain ⟨ad, hv, hlt, hO, hcell⟩ := h
  refine ⟨ad, hv, Nat.lt_of_lt_of_le hlt hm.size, fun h => hO (ho _ hlt h), fun j u hu => ?_⟩
  rw [World.cell?_of_block (w := w) (by rw [block_add]; exact hm.block _ hlt hO)]
  exact hcell j u hu

/-- the pointer v leads to the cells xs. -/
def Pt (v : Value) (xs : List Value) : SP := ⟨ptP v xs, ptP.st⟩

def bcell (b : UInt8) : Value := .int .u8 (b.toNat : Int)
theorem bcell_one (b : UInt8) : (bcell b).oneCell' = true := rfl
theorem bcells_one (bs : List UInt8) : ∀ u ∈ bs.map bcell, u.oneCell' = true := by
  intro u hu
  obtain ⟨b, _, rfl⟩ := List.mem_map.1 hu
  rfl

/-- a byte slice as a list of bytes. -/
def By (v : Value) (bs : List UInt8) : SP := ⟨slP 1 v bs.length (bs.map bcell), slP.st⟩

def strV (bs : List UInt8) : Value := .string ⟨bs.toArray⟩

section
variable {C : Ctx} {ops : Array Oper} {l : List Oper} {fr : Fr} {Γ Γ' : List OA} {Φ : List SP} {Q : Exit → Act → World → Prop}
  {d : Nat} {ty : TypeId} {pos : String} {aft : Array Edge} {g : Option (Nat × Bool)}

theorem R_move {x : Operand} {v : Value}  (hx : evO fr x = some v) :
    Runs C fr Γ Φ ⟨some d, .move x, ty, pos, aft, g⟩ (v) :=
  Runs.pure fun a w ha _ => by simp [execOp, evO_sound ha hx]
theorem R_assign {x : Operand} {v : Value}  (hx : evO fr x = some v) :
    Runs C fr Γ Φ ⟨some d, .assign x, ty, pos, aft, g⟩ (v) :=
  Runs.pure fun a w ha _ => by simp [execOp, evO_sound ha hx]
theorem R_pick_t {c x y : Operand} {v : Value}  (hc : evO fr c = some (.bool true)) (hx : evO fr x = some v) :
    Runs C fr Γ Φ ⟨some d, .pick c x y, ty, pos, aft, g⟩ (v) :=
  Runs.pure fun a w ha _ => by simp [execOp, evO_sound ha hx, evO_sound ha hc, asBool]
theorem R_pick_f {c x y : Operand} {v : Value}  (hc : evO fr c = some (.bool false)) (hy : evO fr y = some v) :
    Runs C fr Γ Φ ⟨some d, .pick c x y, ty, pos, aft, g⟩ (v) :=
  Runs.pure fun a w ha _ => by simp [execOp, evO_sound ha hy, evO_sound ha hc, asBool]

theorem R_extract {x : Operand} {vs : Array Value} {i : Nat} {v : Value}  (hx : evO fr x = some (.tuple vs)) (hi : vs[i]? = some v) :
    Runs C fr Γ Φ ⟨some d, .extract x i, ty, pos, aft, g⟩ (v) :=
  Runs.pure fun a w ha _ => by simp [execOp, evO_sound ha hx, Instr.extract, hi]

theorem R_field {x : Operand} {xv v : Value} {t : TypeId} {i : Nat}  (hx : evO fr x = some xv)
    (hr : ∀ w, (Instr.field t xv i).run C.P w = .ok v w) :
    Runs C fr Γ Φ ⟨some d, .field t x i, ty, pos, aft, g⟩ (v) :=
  Runs.pure fun a w ha _ => by simp [execOp, evO_sound ha hx, hr]

theorem R_fieldAddr {x : Operand} {xv v : Value} {t : TypeId} {i : Nat}  (hx : evO fr x = some xv)
    (hr : ∀ w, (Instr.fieldAt t xv i).run C.P w = .ok v w) :
    Runs C fr Γ Φ ⟨some d, .fieldAddr t x i, ty, pos, aft, g⟩ (v) :=
  Runs.pure fun a w ha _ => by simp [execOp, evO_sound ha hx, hr]

theorem R_convert {x : Operand} {xv v : Value} {s t : TypeId}  (hx : evO fr x = some xv)
    (hr : ∀ w, (convert s t xv).run C.P w = .ok v w) :
    Runs C fr Γ Φ ⟨some d, .convert s t x, ty, pos, aft, g⟩ (v) :=
  Runs.pure fun a w ha _ => by simp [execOp, evO_sound ha hx, hr]

theorem R_convi {x : Operand} {k' : IntKind} {n m : Int} {s t : TypeId} {kd : IntKind} {ds : TypeDesc}  (hx : evO fr x = some (.int k' n))
    (hs : C.P.underlying s = some ds) (ht : C.P.underlying t = some (.int kd)) (hr : kd.wrap n = m) :
    Runs C fr Γ Φ ⟨some d, .convert s t x, ty, pos, aft, g⟩ (.int kd m) :=
  Runs.pure fun a w ha _ => by
    subst hr
    have h1 := run_underlying (P := C.P) hs w
    have h2 := run_underlying (P := C.P) ht w
    simp [execOp, evO_sound ha hx, convert, h1, h2]
    cases ds <;> rfl

theorem R_binI {op : BinOp} {x y : Operand} {t t' : TypeId} {kd : IntKind} {a b : Int} {v : Value} 
    (hx : evO fr x = some (.int kd a)) (hy : evO fr y = some (.int kd b)) (hr : binOp op t (.int kd a) (.int kd b) = pure v) :
    Runs C fr Γ Φ ⟨some d, .binOp op t x y t', ty, pos, aft, g⟩ (v) :=
  Runs.pure fun a' w ha _ => by simp [execOp, evO_sound ha hx, evO_sound ha hy, eqGuard_at_int, hr]

theorem R_add {x y : Operand} {t t' : TypeId} {kd : IntKind} {a b c : Int} 
    (hx : evO fr x = some (.int kd a)) (hy : evO fr y = some (.int kd b)) (hr : kd.wrap (a + b) = c) :
    Runs C fr Γ Φ ⟨some d, .binOp .add t x y t', ty, pos, aft, g⟩ (.int kd c) :=
  R_binI hx hy (by subst hr; rw [binOp_add]; rfl)
theorem R_sub {x y : Operand} {t t' : TypeId} {kd : IntKind} {a b c : Int} 
    (hx : evO fr x = some (.int kd a)) (hy : evO fr y = some (.int kd b)) (hr : kd.wrap (a - b) = c) :
    Runs C fr Γ Φ ⟨some d, .binOp .sub t x y t', ty, pos, aft, g⟩ (.int kd c) :=
  R_binI hx hy (by subst hr; rw [binOp_sub]; rfl)
theorem R_mul {x y : Operand} {t t' : TypeId} {kd : IntKind} {a b c : Int} 
    (hx : evO fr x = some (.int kd a)) (hy : evO fr y = some (.int kd b)) (hr : kd.wrap (a * b) = c) :
    Runs C fr Γ Φ ⟨some d, .binOp .mul t x y t', ty, pos, aft, g⟩ (.int kd c) :=
  R_binI hx hy (by subst hr; rw [binOp_mul]; rfl)
theorem R_quo {x y : Operand} {t t' : TypeId} {kd : IntKind} {a b c : Int} 
    (hx : evO fr x = some (.int kd a)) (hy : evO fr y = some (.int kd b)) (hb : b ≠ 0) (hr : kd.wrap (a.tdiv b) = c) :
    Runs C fr Γ Φ ⟨some d, .binOp .quo t x y t', ty, pos, aft, g⟩ (.int kd c) :=
  R_binI hx hy (by subst hr; rw [binOp_quo]; simp [Op.intDiv, hb])
theorem R_rem {x y : Operand} {t t' : TypeId} {kd : IntKind} {a b c : Int} 
    (hx : evO fr x = some (.int kd a)) (hy : evO fr y = some (.int kd b)) (hb : b ≠ 0) (hr : a.tmod b = c) :
    Runs C fr Γ Φ ⟨some d, .binOp .rem t x y t', ty, pos, aft, g⟩ (.int kd c) :=
  R_binI hx hy (by subst hr; rw [binOp_rem]; simp [Op.intDiv, hb])
theorem R_and {x y : Operand} {t t' : TypeId} {kd : IntKind} {a b c : Int} 
    (hx : evO fr x = some (.int kd a)) (hy : evO fr y = some (.int kd b)) (hr : bits .and kd a b = c) :
    Runs C fr Γ Φ ⟨some d, .binOp .and t x y t', ty, pos, aft, g⟩ (.int kd c) :=
  R_binI hx hy (by subst hr; rw [binOp_and, intBits_and])
theorem R_or {x y : Operand} {t t' : TypeId} {kd : IntKind} {a b c : Int} 
    (hx : evO fr x = some (.int kd a)) (hy : evO fr y = some (.int kd b)) (hr : bits .or kd a b = c) :
    Runs C fr Γ Φ ⟨some d, .binOp .or t x y t', ty, pos, aft, g⟩ (.int kd c) :=
  R_binI hx hy (by subst hr; rw [binOp_or, intBits_or])
theorem R_xor {x y : Operand} {t t' : TypeId} {kd : IntKind} {a b c : Int} 
    (hx : evO fr x = some (.int kd a)) (hy : evO fr y = some (.int kd b)) (hr : bits .xor kd a b = c) :
    Runs C fr Γ Φ ⟨some d, .binOp .xor t x y t', ty, pos, aft, g⟩ (.int kd c) :=
  R_binI hx hy (by subst hr; rw [binOp_xor, intBits_xor])
theorem R_andNot {x y : Operand} {t t' : TypeId} {kd : IntKind} {a b c : Int} 
    (hx : evO fr x = some (.int kd a)) (hy : evO fr y = some (.int kd b)) (hr : bits .andNot kd a b = c) :
    Runs C fr Γ Φ ⟨some d, .binOp .andNot t x y t', ty, pos, aft, g⟩ (.int kd c) :=
  R_binI hx hy (by subst hr; rw [binOp_andNot, intBits_andNot])
theorem R_eql {x y : Operand} {t t' : TypeId} {kd : IntKind} {a b : Int} {c : Bool} 
    (hx : evO fr x = some (.int kd a)) (hy : evO fr y = some (.int kd b)) (hr : decide (a = b) = c) :
    Runs C fr Γ Φ ⟨some d, .binOp .eql t x y t', ty, pos, aft, g⟩ (.bool c) :=
  R_binI hx hy (by subst hr; rw [binOp_eql]; rfl)
theorem R_neq {x y : Operand} {t t' : TypeId} {kd : IntKind} {a b : Int} {c : Bool} 
    (hx : evO fr x = some (.int kd a)) (hy : evO fr y = some (.int kd b)) (hr : decide (a ≠ b) = c) :
    Runs C fr Γ Φ ⟨some d, .binOp .neq t x y t', ty, pos, aft, g⟩ (.bool c) :=
  R_binI hx hy (by
    subst hr; rw [binOp_neq]
    have : (a != b) = decide (a ≠ b) := by by_cases h : a = b <;> simp [h]
    rw [this])
theorem R_lss {x y : Operand} {t t' : TypeId} {kd : IntKind} {a b : Int} {c : Bool} 
    (hx : evO fr x = some (.int kd a)) (hy : evO fr y = some (.int kd b)) (hr : decide (a < b) = c) :
    Runs C fr Γ Φ ⟨some d, .binOp .lss t x y t', ty, pos, aft, g⟩ (.bool c) :=
  R_binI hx hy (by subst hr; rw [binOp_lss])
theorem R_leq {x y : Operand} {t t' : TypeId} {kd : IntKind} {a b : Int} {c : Bool} 
    (hx : evO fr x = some (.int kd a)) (hy : evO fr y = some (.int kd b)) (hr : decide (a ≤ b) = c) :
    Runs C fr Γ Φ ⟨some d, .binOp .leq t x y t', ty, pos, aft, g⟩ (.bool c) :=
  R_binI hx hy (by subst hr; rw [binOp_leq])
theorem R_gtr {x y : Operand} {t t' : TypeId} {kd : IntKind} {a b : Int} {c : Bool} 
    (hx : evO fr x = some (.int kd a)) (hy : evO fr y = some (.int kd b)) (hr : decide (b < a) = c) :
    Runs C fr Γ Φ ⟨some d, .binOp .gtr t x y t', ty, pos, aft, g⟩ (.bool c) :=
  R_binI hx hy (by subst hr; rw [binOp_gtr])
theorem R_geq {x y : Operand} {t t' : TypeId} {kd : IntKind} {a b : Int} {c : Bool} 
    (hx : evO fr x = some (.int kd a)) (hy : evO fr y = some (.int kd b)) (hr : decide (b ≤ a) = c) :
    Runs C fr Γ Φ ⟨some d, .binOp .geq t x y t', ty, pos, aft, g⟩ (.bool c) :=
  R_binI hx hy (by subst hr; rw [binOp_geq])

theorem R_shl {x y : Operand} {t t' : TypeId} {kd yk : IntKind} {a b c : Int} 
    (hx : evO fr x = some (.int kd a)) (hy : evO fr y = some (.int yk b)) (hb : 0 ≤ b) (hr : kd.wrap (a * 2 ^ (min b.toNat kd.bits)) = c) :
    Runs C fr Γ Φ ⟨some d, .binOp .shl t x y t', ty, pos, aft, g⟩ (.int kd c) :=
  Runs.pure fun a' w ha _ => by
    subst hr
    have h0 : ¬ b < 0 := by omega
    simp [execOp, evO_sound ha hx, evO_sound ha hy, eqGuard_at_int, binOp_shl, Op.shift, h0]
theorem R_shr {x y : Operand} {t t' : TypeId} {kd yk : IntKind} {a b c : Int} 
    (hx : evO fr x = some (.int kd a)) (hy : evO fr y = some (.int yk b)) (hb : 0 ≤ b) (hr : a.fdiv (2 ^ (min b.toNat kd.bits)) = c) :
    Runs C fr Γ Φ ⟨some d, .binOp .shr t x y t', ty, pos, aft, g⟩ (.int kd c) :=
  Runs.pure fun a' w ha _ => by
    subst hr
    have h0 : ¬ b < 0 := by omega
    simp [execOp, evO_sound ha hx, evO_sound ha hy, eqGuard_at_int, binOp_shr, Op.shift, h0]

theorem R_not {x : Operand} {t : TypeId} {b c : Bool}  (hx : evO fr x = some (.bool b)) (hr : (!b) = c) :
    Runs C fr Γ Φ ⟨some d, .unOp .not t x, ty, pos, aft, g⟩ (.bool c) :=
  Runs.pure fun a' w ha _ => by subst hr; simp [execOp, evO_sound ha hx, Op.unary]
theorem R_neg {x : Operand} {t : TypeId} {kd : IntKind} {a c : Int}  (hx : evO fr x = some (.int kd a)) (hr : kd.wrap (0 - a) = c) :
    Runs C fr Γ Φ ⟨some d, .unOp .neg t x, ty, pos, aft, g⟩ (.int kd c) :=
  Runs.pure fun a' w ha _ => by subst hr; simp [execOp, evO_sound ha hx, Op.unary, Op.intArith]
theorem R_com {x : Operand} {t : TypeId} {kd : IntKind} {a c : Int}  (hx : evO fr x = some (.int kd a))
    (hr : bits .xor kd (if kd.signed then -1 else kd.max) a = c) :
    Runs C fr Γ Φ ⟨some d, .unOp .xor t x, ty, pos, aft, g⟩ (.int kd c) :=
  Runs.pure fun a' w ha _ => by subst hr; simp [execOp, evO_sound ha hx, Op.unary, intBits_xor]

theorem R_eqB {x y : Operand} {t t' : TypeId} {a b c : Bool} 
    (hx : evO fr x = some (.bool a)) (hy : evO fr y = some (.bool b)) (ht : C.P.underlying t = some .bool) (hr : (a == b) = c) :
    Runs C fr Γ Φ ⟨some d, .binOp .eql t x y t', ty, pos, aft, g⟩ (.bool c) :=
  Runs.pure fun a' w ha _ => by subst hr; simp [execOp, evO_sound ha hx, evO_sound ha hy, eqGuard_at_bool, run_eql_bool w t a b ht]
theorem R_neB {x y : Operand} {t t' : TypeId} {a b c : Bool} 
    (hx : evO fr x = some (.bool a)) (hy : evO fr y = some (.bool b)) (ht : C.P.underlying t = some .bool) (hr : (!(a == b)) = c) :
    Runs C fr Γ Φ ⟨some d, .binOp .neq t x y t', ty, pos, aft, g⟩ (.bool c) :=
  Runs.pure fun a' w ha _ => by subst hr; simp [execOp, evO_sound ha hx, evO_sound ha hy, eqGuard_at_bool, run_neq_bool w t a b ht]

theorem str_beq (a b : List UInt8) : (a == b) = decide (a = b) := by
  by_cases h : a = b <;> simp [h]

theorem R_eqS {x y : Operand} {t t' : TypeId} {a b : List UInt8} {c : Bool} 
    (hx : evO fr x = some (strV a)) (hy : evO fr y = some (strV b)) (hr : decide (a = b) = c) :
    Runs C fr Γ Φ ⟨some d, .binOp .eql t x y t', ty, pos, aft, g⟩ (.bool c) :=
  Runs.pure fun a' w ha _ => by
    subst hr
    have e1 := evO_sound ha hx
    have e2 := evO_sound ha hy
    simp only [strV] at e1 e2
    simp only [execOp, e1, e2, eqGuard_at_string, binOp, Op.stringOp, Sem.run_bind, Sem.run_pure, Result.andThen_ok, ByteArray.toList_mk, str_beq]

/-- comparisons, all by one rule. -/
def cmpP (op : BinOp) (a b : Int) : Option Bool := match op with
  | .eql => some (decide (a = b)) | .neq => some (decide (a ≠ b)) | .lss => some (decide (a < b)) | .leq => some (decide (a ≤ b)) | .gtr => some (decide (b < a)) | .geq => some (decide (b ≤ a)) | _ => none
theorem R_cmp {op : BinOp} {x y : Operand} {t t' : TypeId} {kd : IntKind} {a b : Int} {q c : Bool}
    (hx : evO fr x = some (.int kd a)) (hy : evO fr y = some (.int kd b)) (hq : cmpP op a b = some q) (hr : q = c) :
    Runs C fr Γ Φ ⟨some d, .binOp op t x y t', ty, pos, aft, g⟩ (.bool c) := by
  subst hr
  cases op <;> simp only [cmpP, Option.some.injEq, reduceCtorEq] at hq <;> subst hq
  · exact R_eql hx hy rfl
  · exact R_neq hx hy rfl
  · exact R_lss hx hy rfl
  · exact R_leq hx hy rfl
  · exact R_gtr hx hy rfl
  · exact R_geq hx hy rfl
/-- sums, differences, products, by one rule. -/
def arP (op : BinOp) (a b : Int) : Option Int := match op with
  | .add => some (a + b) | .sub => some (a - b) | .mul => some (a * b) | _ => none
theorem R_ari {op : BinOp} {x y : Operand} {t t' : TypeId} {kd : IntKind} {a b q c : Int}
    (hx : evO fr x = some (.int kd a)) (hy : evO fr y = some (.int kd b)) (hq : arP op a b = some q) (hr : kd.wrap q = c) :
    Runs C fr Γ Φ ⟨some d, .binOp op t x y t', ty, pos, aft, g⟩ (.int kd c) := by
  cases op <;> simp only [arP, Option.some.injEq, reduceCtorEq] at hq <;> subst hq
  · exact R_add hx hy hr
  · exact R_sub hx hy hr
  · exact R_mul hx hy hr

end
end Go.Hs
