/- Tactics and laws of the library that hand contracts lean on, under one name. -/
import Derived.StillTailTactics
import Derived.IntWalk
import Derived.Deep.RegionHeld3
namespace Go.Proofs.Ytmebogkhdbbbbaa.C
end Go.Proofs.Ytmebogkhdbbbbaa.C
