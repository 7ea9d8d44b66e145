/-
  Collectors: lists of different streams.
-/
import Derived.Test.YtglmcnjkcmbefaaVIh
namespace Go.Proofs.Ytglmcnjkcmbefaa
open Go Go.RowKit Go.Hs C05
end Go.Proofs.Ytglmcnjkcmbefaa
