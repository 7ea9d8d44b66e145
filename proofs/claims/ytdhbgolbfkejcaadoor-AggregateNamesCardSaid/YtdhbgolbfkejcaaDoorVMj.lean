/-
  Plain law: what is packed is unpacked, and the other way round.
-/
import Derived.Test.YtdhbgolbfkejcaaDoorVMi
namespace Go.Proofs.YtdhbgolbfkejcaaDoor
open Go Go.RowKit Go.Hs C01 C08
def entz (z : Kz) : List UInt8 := z.to_.bytes ++ (z.fr_.bytes ++ (dl2 z.data.length ++ z.data))
def okZ (z : Kz) : Prop := grp z.fr_.a0 = false ∧ z.data.length ≤ 1500
end Go.Proofs.YtdhbgolbfkejcaaDoor
