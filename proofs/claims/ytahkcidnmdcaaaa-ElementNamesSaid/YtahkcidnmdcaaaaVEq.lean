/-
  The reference's long, Check, Encode.
-/
import Derived.Test.YtahkcidnmdcaaaaVEp
namespace Go.Proofs.Ytahkcidnmdcaaaa
open Go Go.RowKit Go.Hs
attribute [local irreducible] WL W WQ PL Runs Effs AllE Ent SubO FrIn Pick OneC Ones CellsE PartsE SeqE UZ By Sl Pt Ct

def lng : Fo → Bool
  | .nil => false
  | .cons id _ data subs next => decide (1024 < (inn id data (enc subs)).length) || lng subs || lng next
/-- the bytes that Encode hands back. -/
def encE (t : Fo) : List UInt8 := if chk t = 0 then enc t else []
theorem encE_ok {t : Fo} (h : chk t = 0) : encE t = enc t := if_pos h
theorem encE_bad {t : Fo} (h : ¬ chk t = 0) : encE t = [] := if_neg h
end Go.Proofs.Ytahkcidnmdcaaaa
