/-
  Partial frames, streams, collectors: what they are.
-/
import Derived.Test.YtglmcnjkcmbefaaXd
import Derived.Test.YtglmcnjkcmbefaaXc
namespace Go.Proofs.Ytglmcnjkcmbefaa
open Go Go.RowKit Go.Hs C05

/-- a partial frame as it stands in memory. -/
structure Pa where
  head : Hd
  next : Int
  bv : Value
  body : List UInt8
  since : Int
/-- the same without the value that leads to the body. -/
structure Pz where
  head : Hd
  next : Int
  body : List UInt8
  since : Int
deriving DecidableEq
def Pa.z (p : Pa) : Pz := ⟨p.head, p.next, p.body, p.since⟩
@[reducible] def Pa.cells (p : Pa) : List Value := [bcell p.head.kind, bcell p.head.sub, .bool p.head.toDs, .bool p.head.fromDs, .bool p.head.more, .bool p.head.retry, .bool p.head.sleep, .bool p.head.md, .bool p.head.prot, .int .i64 p.head.dur, bcell p.head.a1.a0, bcell p.head.a1.a1, bcell p.head.a1.a2, bcell p.head.a1.a3, bcell p.head.a1.a4, bcell p.head.a1.a5, bcell p.head.a2.a0, bcell p.head.a2.a1, bcell p.head.a2.a2, bcell p.head.a2.a3, bcell p.head.a2.a4, bcell p.head.a2.a5, bcell p.head.a3.a0, bcell p.head.a3.a1, bcell p.head.a3.a2, bcell p.head.a3.a3, bcell p.head.a3.a4, bcell p.head.a3.a5, bcell p.head.a4.a0, bcell p.head.a4.a1, bcell p.head.a4.a2, bcell p.head.a4.a3, bcell p.head.a4.a4, bcell p.head.a4.a5, .int .i64 p.head.seq, .int .i64 p.head.frag, .int .i64 p.head.tid, bcell p.head.ack, .bool p.head.amsdu, .bool p.head.eosp, .int .i64 p.next, p.bv, .int .i64 p.since]
@[reducible] def Pa.val (p : Pa) : Value := .agg p.cells.toArray
def p0_ : Pa := ⟨h0_, 0, .slice none 0 0, [], 0⟩
def fcP (l : List Pa) : List Value := l.flatMap Pa.cells
theorem pa_len (p : Pa) : p.cells.length = 43 := rfl
theorem fcP_length (l : List Pa) : (fcP l).length = l.length * 43 := fc_length pa_len l
theorem fcP_snoc (l : List Pa) (v : Pa) : fcP l ++ v.cells = fcP (l ++ [v]) := by
  show fcP l ++ v.cells = List.flatMap Pa.cells (l ++ [v])
  rw [List.flatMap_append]
  simp [fcP]
theorem pa_one (p : Pa) (h : p.bv.oneCell' = true) : ∀ u ∈ p.cells, u.oneCell' = true := fun u hu => by
  simp only [Pa.cells, List.mem_cons, List.not_mem_nil, or_false] at hu
  rcases hu with rfl | rfl | rfl | rfl | rfl | rfl | rfl | rfl | rfl | rfl | rfl | rfl | rfl | rfl | rfl | rfl | rfl | rfl | rfl | rfl | rfl | rfl | rfl | rfl | rfl | rfl | rfl | rfl | rfl | rfl | rfl | rfl | rfl | rfl | rfl | rfl | rfl | rfl | rfl | rfl | rfl | rfl | rfl <;> first | rfl | exact h
theorem fcP_one {l : List Pa} (h : ∀ p ∈ l, p.bv.oneCell' = true) : ∀ u ∈ fcP l, u.oneCell' = true := fun u hu => by
  obtain ⟨v, hm, hv⟩ := List.mem_flatMap.1 hu
  exact pa_one v (h v hm) u hv
/-- the bodies last. -/
def Bd (l : List Pa) : SP := ⟨fun w O => ∀ p ∈ l, (By p.bv p.body).p w O, fun h hm ho p hp => (By p.bv p.body).st (h p hp) hm ho⟩
theorem ent_bd {Φ : List SP} {l : List Pa} {p : Pa} (hm : Bd l ∈ Φ) (hp : p ∈ l) : Ent Φ (By p.bv p.body) := fun _ _ h => h _ hm p hp
theorem ent_bd0 {Φ : List SP} : Ent Φ (Bd []) := fun _ _ _ _ h => by cases h
theorem ent_bdApp {Φ : List SP} {l m : List Pa} (h : Bd l ∈ Φ) (k : Bd m ∈ Φ) : Ent Φ (Bd (l ++ m)) := fun w O hw p hp => (List.mem_append.1 hp).elim (hw _ h p) (hw _ k p)
theorem ent_bd1 {Φ : List SP} {p : Pa} (h : By p.bv p.body ∈ Φ) : Ent Φ (Bd [p]) := fun w O hw q hq => by
  rcases List.mem_singleton.1 hq with rfl
  exact hw _ h
theorem ent_bdSub {Φ : List SP} {l m : List Pa} (h : Bd l ∈ Φ) (k : ∀ p ∈ m, p ∈ l) : Ent Φ (Bd m) := fun w O hw p hp => hw _ h p (k p hp)
theorem bd_one {C : Ctx} {Γ : List OA} {Φ : List SP} {l : List Pa} (hm : Bd l ∈ Φ) : ∀ w, Holds C Γ Φ w → ∀ p ∈ l, p.bv.oneCell' = true := fun w hw p hp => by
  obtain ⟨_, A, c, hv, _⟩ := (hw.sp _ hm p hp : (By p.bv p.body).p w _)
  rw [hv]
  rfl

/-- a stream. -/
structure Stm where
  to_ : A6
  frm : A6
  kind : UInt8
  traf : Bool
  tid : Int
deriving DecidableEq
@[reducible] def Stm.cells (s : Stm) : List Value := [bcell s.to_.a0, bcell s.to_.a1, bcell s.to_.a2, bcell s.to_.a3, bcell s.to_.a4, bcell s.to_.a5, bcell s.frm.a0, bcell s.frm.a1, bcell s.frm.a2, bcell s.frm.a3, bcell s.frm.a4, bcell s.frm.a5, bcell s.kind, .bool s.traf, .int .i64 s.tid]
@[reducible] def Stm.val (s : Stm) : Value := .agg s.cells.toArray
def stO (h : Hd) : Stm := ⟨h.a1, h.a2, h.kind, trafB h.kind h.sub, h.tid⟩

def maxT : Int := 1099511627776
/-- one partial frame is sound. -/
def okP (p : Pz) : Bool := (hdB p.head && (!decide (p.head.kind.toNat = 1) && (decide (p.head.frag = 0) && p.head.more))) && (decide (1 ≤ p.next ∧ p.next ≤ 16) && (decide (p.body.length ≤ 2304) && decide (0 ≤ p.since ∧ p.since ≤ maxT)))
def stP (p : Pz) : Stm := stO p.head
def validC (l : List Pz) : Bool := l.all okP && (decide ((l.map stP).Nodup) && decide (l.length ≤ 8))
def chkC (l : List Pz) : Int := if validC l = true then 0 else 8
/-- a frame can be encoded, but for its length. -/
def sndB (h : Hd) (body : List UInt8) : Bool := hdB h && !(barB h && decide (0 < body.length))
def freshP (now : Int) (p : Pz) : Bool := decide (now - p.since ≤ 500000)
def lateB (now : Int) : Bool := decide (now < 0) || decide (maxT < now)
end Go.Proofs.Ytglmcnjkcmbefaa
