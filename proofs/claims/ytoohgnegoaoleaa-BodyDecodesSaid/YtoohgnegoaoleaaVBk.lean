/-
  Bodies of all kinds together; the chapter's example.
-/
import Derived.Test.YtoohgnegoaoleaaVBj
import Derived.Test.YtoohgnegoaoleaaVBe
namespace Go.Proofs.Ytoohgnegoaoleaa
open Go Go.RowKit Go.Hs
structure All6 where
  bm : Nat
  bi : Nat
  bc : Nat
  bv : Value
  bt : T
  aa : Nat
  as_ : Nat
  ad : Nat
  av : Value
  at_ : T
  rc : Nat
  rl : Nat
  ro : A6
  rv : Value
  rt : T
  ag : Bool
  pc : Nat
  ps : Nat
  pa : Int
  pv : Value
  pt : T
  nc : Nat
  nv : Value
  nt : T
  c0 : UInt8
  c1 : UInt8
  c2 : UInt8
  cv : Value
  cd : List UInt8
  t0 : Int
  t1 : Int
  k0 : Int
  k1 : Int
  kb : Nat
@[reducible] def All6.bcn (x : All6) : List Value := [.int .u64 (x.bm : Int), .int .u16 (x.bi : Int), .int .u16 (x.bc : Int), x.bv]
@[reducible] def All6.acn (x : All6) : List Value := [.int .u16 (x.aa : Int), .int .u16 (x.as_ : Int), .int .u16 (x.ad : Int), x.av]
@[reducible] def All6.rcn (x : All6) : List Value := [.int .u16 (x.rc : Int), .int .u16 (x.rl : Int), bcell x.ro.a0, bcell x.ro.a1, bcell x.ro.a2, bcell x.ro.a3, bcell x.ro.a4, bcell x.ro.a5, x.rv]
@[reducible] def All6.cells (x : All6) : List Value := [.int .u64 (x.bm : Int), .int .u16 (x.bi : Int), .int .u16 (x.bc : Int), x.bv, .int .u16 (x.aa : Int), .int .u16 (x.as_ : Int), .int .u16 (x.ad : Int), x.av,
  .int .u16 (x.rc : Int), .int .u16 (x.rl : Int), bcell x.ro.a0, bcell x.ro.a1, bcell x.ro.a2, bcell x.ro.a3, bcell x.ro.a4, bcell x.ro.a5, x.rv, .bool x.ag, .int .u16 (x.pc : Int), .int .u16 (x.ps : Int), .int .i64 x.pa, x.pv,
  .int .u16 (x.nc : Int), x.nv, bcell x.c0, bcell x.c1, bcell x.c2, x.cv, .int .i64 x.t0, .int .i64 x.t1, .int .i64 x.k0, .int .i64 x.k1, .int .u64 (x.kb : Int)]
@[reducible] def All6.val (x : All6) : Value := .agg x.cells.toArray
@[reducible] def All6.facts (x : All6) : List SP := [Rw 4 x.bv x.bt.len x.bt.at_, x.bt.tf, Rw 4 x.av x.at_.len x.at_.at_, x.at_.tf, Rw 4 x.rv x.rt.len x.rt.at_, x.rt.tf, Rw 4 x.pv x.pt.len x.pt.at_, x.pt.tf, Rw 4 x.nv x.nt.len x.nt.at_, x.nt.tf, By x.cv x.cd]
/-- numbers within their types. -/
def All6.w (x : All6) : Prop := x.bm < 18446744073709551616 ∧ x.bi < 65536 ∧ x.bc < 65536 ∧ x.aa < 65536 ∧ x.as_ < 65536 ∧ x.ad < 65536 ∧ x.rc < 65536 ∧ x.rl < 65536 ∧ x.pc < 65536 ∧ x.ps < 65536 ∧ x.nc < 65536 ∧ x.kb < 18446744073709551616
def All6.sm (x : All6) : Prop := C04.Sm x.bt.er ∧ C04.Sm x.at_.er ∧ C04.Sm x.rt.er ∧ C04.Sm x.pt.er ∧ C04.Sm x.nt.er ∧ x.cd.length ≤ 2400
def zAll : All6 := ⟨0, 0, 0, .slice none 0 0, .nil, 0, 0, 0, .slice none 0 0, .nil, 0, 0, zA6, .slice none 0 0, .nil, false, 0, 0, 0, .slice none 0 0, .nil, 0, .slice none 0 0, .nil, 0, 0, 0, .slice none 0 0, [], 0, 0, 0, 0, 0⟩
def w64 (n : Int) : Prop := (Lit.int .i64 n).wf = true
theorem i64_lits {P : Program} {t : TypeId} (ht : P.underlying t = some (.int .i64)) {n : Int} (h : w64 n) (d : Nat) : P.keyLits (d + 1) t [.int .i64 n] = some [.int .i64 n] := by
  have h : (Lit.int .i64 n).wf = true := h
  simp [Program.keyLits, ht, h]
theorem u64_lits {P : Program} {t : TypeId} (ht : P.underlying t = some (.int .u64)) {n : Nat} (hn : n < 18446744073709551616) (d : Nat) : P.keyLits (d + 1) t [.int .u64 (n : Int)] = some [.int .u64 (n : Int)] := by
  have h : (Lit.int .u64 (n : Int)).wf = true := by
    simp [Lit.wf, IntKind.min, IntKind.max, IntKind.signed, IntKind.bits] <;> omega
  simp [Program.keyLits, ht, h]
theorem bar_lits (a b : Int) (ha : w64 a) (hb : w64 b) : Try.prog.keyLits 3 41 [.int .i64 a, .int .i64 b] = some [.int .i64 a, .int .i64 b] := by
  have hc : Try.prog.cellsOf 41 = 2 := by kernel_rfl
  have hi : Try.prog.cellsOf 3 = 1 := by kernel_rfl
  have e2 := fun n (h : w64 n) => i64_lits (P := Try.prog) Try.underlying3 h 1
  rw [show (3 : Nat) = 2 + 1 from rfl]
  unfold Program.keyLits
  rw [Try.underlying41]
  simp [hc, hi, e2 _ ha, e2 _ hb]
theorem back_lits (a b : Int) (n : Nat) (ha : w64 a) (hb : w64 b) (hn : n < 18446744073709551616) : Try.prog.keyLits 3 43 [.int .i64 a, .int .i64 b, .int .u64 (n : Int)] = some [.int .i64 a, .int .i64 b, .int .u64 (n : Int)] := by
  have hc : Try.prog.cellsOf 43 = 3 := by kernel_rfl
  have hi : Try.prog.cellsOf 3 = 1 := by kernel_rfl
  have hu : Try.prog.cellsOf 22 = 1 := by kernel_rfl
  have e2 := fun n (h : w64 n) => i64_lits (P := Try.prog) Try.underlying3 h 1
  have e3 := u64_lits (P := Try.prog) Try.underlying22 hn 1
  rw [show (3 : Nat) = 2 + 1 from rfl]
  unfold Program.keyLits
  rw [Try.underlying43]
  simp [hc, hi, hu, e2 _ ha, e2 _ hb, e3]
theorem bar_eq (a b c d : Int) : ([Lit.int .i64 a, .int .i64 b] = [Lit.int .i64 c, .int .i64 d]) ↔ (a = c ∧ b = d) := by simp
theorem back_eq (a b c d : Int) (n m : Nat) : ([Lit.int .i64 a, .int .i64 b, .int .u64 (n : Int)] = [Lit.int .i64 c, .int .i64 d, .int .u64 (m : Int)]) ↔ (a = c ∧ b = d ∧ n = m) := by
  simp
  intros
  omega
attribute [local irreducible] WL W WQ PL Runs Effs AllE Ent SubO FrIn Pick OneC Ones CellsE PartsE SeqE UZ By Sl Pt Ct

end Go.Proofs.Ytoohgnegoaoleaa
