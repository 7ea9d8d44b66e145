/-
  Bodies that are handed in, opened.
-/
import Derived.Test.YtoohgnegoaoleaaVBk
import Derived.Test.YtoohgnegoaoleaaXd
namespace Go.Proofs.Ytoohgnegoaoleaa
open Go Go.RowKit Go.Hs Go.ChangeShapes Go.WideShapes Go.ChangeAt
section
variable {H : Type} {enc : TypeId × Value → H} {w : World} {held : Bool}
/-- the whole numbers too are within their type. -/
def All6.wi (x : All6) : Prop := w64 x.pa ∧ w64 x.t0 ∧ w64 x.t1 ∧ w64 x.k0 ∧ w64 x.k1
end
end Go.Proofs.Ytoohgnegoaoleaa
