/- Laws of the library that the hand contracts of place lean on, under one name. -/
import Derived.Lib.OthersKept
import Derived.Laws.RangeAny
import Derived.Laws.RangeString
import Derived.Deep.RegionHeld3
import Derived.StillTailTactics
import Derived.IntWalk
namespace Go.Proofs.Ytmebogkhdbbbbaa.C
end Go.Proofs.Ytmebogkhdbbbbaa.C
