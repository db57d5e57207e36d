/- What a text that walks a great region with stores imports. -/
import Derived.BigRegion
import Derived.Shelf.RegionOpenPlain
namespace Go.Proofs.Ytmebogkhdbbbbaa.C
theorem big_here : True := trivial
end Go.Proofs.Ytmebogkhdbbbbaa.C
