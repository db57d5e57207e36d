/- The pure statement of PlaceMarks. Written by a program of this session (wip/tools/genrow.py). -/
import Derived.Test.YtcpiaahkjgdliaaPx14
import Derived.Test.YtcpiaahkjgdliaaO
namespace Go.Proofs.Ytcpiaahkjgdliaa.P
open Go Go.RowKit Go.Proofs.Ytcpiaahkjgdliaa.O Go.Proofs.YtcpiaahkjgdliaaW.PrintWords
def pascalinelaw07_PlaceMarks.Pure : Prop := ∀ (a0 : ByteArray) (a1 : Int), a0.size ≤ 140737488351232 → (Lit.int .i64 a1).wf = true → ∃ k, pascalinelaw07_PlaceMarks.f k a0 a1 = some true
end Go.Proofs.Ytcpiaahkjgdliaa.P
