/-
  Bodies of each kind, encoded and decoded: plain law.
-/
import Derived.Test.YtoohgnegoaoleaaVBr
namespace Go.Proofs.Ytoohgnegoaoleaa
open Go Go.RowKit Go.Hs
end Go.Proofs.Ytoohgnegoaoleaa
