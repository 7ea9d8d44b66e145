/-
  The law 'ElementUnknown' walked.
-/
import Derived.Test.YtahkcidnmdcaaaaVFd
namespace Go.Proofs.Ytahkcidnmdcaaaa
open Go Go.RowKit Go.Hs
attribute [local irreducible] WL W WQ PL Runs Effs AllE Ent SubO FrIn Pick OneC Ones CellsE PartsE SeqE UZ By Sl Pt Ct

/-- a list with other Ids. -/
def Rl : Fo → Fo → Prop
  | .nil, .nil => True
  | .cons id _ data _ next, .cons id' ext' data' subs' next' => contB id = false ∧ id.toNat < 254 ∧ id'.toNat < 200 ∧ ext' = 0 ∧ data' = data ∧ subs' = .nil ∧ Rl next next'
  | _, _ => False
end Go.Proofs.Ytahkcidnmdcaaaa
