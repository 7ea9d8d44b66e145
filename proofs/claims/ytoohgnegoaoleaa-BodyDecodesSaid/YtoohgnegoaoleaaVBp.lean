/-
  Bodies of frames, there and back: plain law.
-/
import Derived.Test.YtoohgnegoaoleaaVBk
import Derived.Test.YtoohgnegoaoleaaVBl
import Derived.Test.YtoohgnegoaoleaaXd
namespace Go.Proofs.Ytoohgnegoaoleaa
open Go Go.RowKit Go.Hs
end Go.Proofs.Ytoohgnegoaoleaa
