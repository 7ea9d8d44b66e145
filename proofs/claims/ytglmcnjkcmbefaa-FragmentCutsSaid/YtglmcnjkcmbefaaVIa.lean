/-
  Partial frames, streams, collectors: what they are.
-/
import Derived.Test.YtglmcnjkcmbefaaXd
namespace Go.Proofs.Ytglmcnjkcmbefaa
open Go Go.RowKit Go.Hs C05

/-- a partial frame as it stands in memory. -/
structure Pa where
  head : Hd
  next : Int
  bv : Value
  body : List UInt8
  since : Int
/-- the same without the value that leads to the body. -/
structure Pz where
  head : Hd
  next : Int
  body : List UInt8
  since : Int
deriving DecidableEq
def Pa.z (p : Pa) : Pz := ⟨p.head, p.next, p.body, p.since⟩
@[reducible] def Pa.cells (p : Pa) : List Value := [bcell p.head.kind, bcell p.head.sub, .bool p.head.toDs, .bool p.head.fromDs, .bool p.head.more, .bool p.head.retry, .bool p.head.sleep, .bool p.head.md, .bool p.head.prot, .int .i64 p.head.dur, bcell p.head.a1.a0, bcell p.head.a1.a1, bcell p.head.a1.a2, bcell p.head.a1.a3, bcell p.head.a1.a4, bcell p.head.a1.a5, bcell p.head.a2.a0, bcell p.head.a2.a1, bcell p.head.a2.a2, bcell p.head.a2.a3, bcell p.head.a2.a4, bcell p.head.a2.a5, bcell p.head.a3.a0, bcell p.head.a3.a1, bcell p.head.a3.a2, bcell p.head.a3.a3, bcell p.head.a3.a4, bcell p.head.a3.a5, bcell p.head.a4.a0, bcell p.head.a4.a1, bcell p.head.a4.a2, bcell p.head.a4.a3, bcell p.head.a4.a4, bcell p.head.a4.a5, .int .i64 p.head.seq, .int .i64 p.head.frag, .int .i64 p.head.tid, bcell p.head.ack, .bool p.head.amsdu, .bool p.head.eosp, .int .i64 p.next, p.bv, .int .i64 p.since]
@[reducible] def Pa.val (p : Pa) : Value := .agg p.cells.toArray
def p0_ : Pa := ⟨h0_, 0, .slice none 0 0, [], 0⟩
def fcP (l : List Pa) : List Value := l.flatMap Pa.cells
/-- the bodies last. -/
def Bd (l : List Pa) : SP := ⟨fun w O => ∀ p ∈ l, (By p.bv p.body).p w O, fun h hm ho p hp => (By p.bv p.body).st (h p hp) hm ho⟩
/-- a stream. -/
structure Stm where
  to_ : A6
  frm : A6
  kind : UInt8
  traf : Bool
  tid : Int
deriving DecidableEq
@[reducible] def Stm.cells (s : Stm) : List Value := [bcell s.to_.a0, bcell s.to_.a1, bcell s.to_.a2, bcell s.to_.a3, bcell s.to_.a4, bcell s.to_.a5, bcell s.frm.a0, bcell s.frm.a1, bcell s.frm.a2, bcell s.frm.a3, bcell s.frm.a4, bcell s.frm.a5, bcell s.kind, .bool s.traf, .int .i64 s.tid]
@[reducible] def Stm.val (s : Stm) : Value := .agg s.cells.toArray
def stO (h : Hd) : Stm := ⟨h.a1, h.a2, h.kind, trafB h.kind h.sub, h.tid⟩

def maxT : Int := 1099511627776
/-- one partial frame is sound. -/
def okP (p : Pz) : Bool := (hdB p.head && (!decide (p.head.kind.toNat = 1) && (decide (p.head.frag = 0) && p.head.more))) && (decide (1 ≤ p.next ∧ p.next ≤ 16) && (decide (p.body.length ≤ 2304) && decide (0 ≤ p.since ∧ p.since ≤ maxT)))
def stP (p : Pz) : Stm := stO p.head
def validC (l : List Pz) : Bool := l.all okP && (decide ((l.map stP).Nodup) && decide (l.length ≤ 8))
def chkC (l : List Pz) : Int := if validC l = true then 0 else 8
/-- a frame can be encoded, but for its length. -/
def sndB (h : Hd) (body : List UInt8) : Bool := hdB h && !(barB h && decide (0 < body.length))
def freshP (now : Int) (p : Pz) : Bool := decide (now - p.since ≤ 500000)
def lateB (now : Int) : Bool := decide (now < 0) || decide (maxT < now)
end Go.Proofs.Ytglmcnjkcmbefaa
