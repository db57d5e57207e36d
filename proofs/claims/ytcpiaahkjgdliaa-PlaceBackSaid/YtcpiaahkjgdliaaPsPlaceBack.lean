/- The pure statement of PlaceBack. Written by a program of this session (wip/tools/genrow.py). -/
import Derived.Test.YtcpiaahkjgdliaaPx6
import Derived.Test.YtcpiaahkjgdliaaO
namespace Go.Proofs.Ytcpiaahkjgdliaa.P
open Go Go.RowKit Go.Proofs.Ytcpiaahkjgdliaa.O Go.Proofs.YtcpiaahkjgdliaaW.PrintWords
def pascalinelaw07_PlaceBack.Pure : Prop := ∀ (a0 : ByteArray), a0.size ≤ 140737488351232 → pascalinelaw07_PlaceBack.f a0 = some true
end Go.Proofs.Ytcpiaahkjgdliaa.P
