/-
  A list of elements that is handed in: what is read off its reading.
-/
import Derived.Test.YtahkcidnmdcaaaaVEw
import Derived.Test.YtahkcidnmdcaaaaXc
namespace Go.Proofs.Ytahkcidnmdcaaaa
open Go Go.RowKit Go.Hs Go.ChangeShapes Go.WideShapes Go.ChangeAt

end Go.Proofs.Ytahkcidnmdcaaaa
