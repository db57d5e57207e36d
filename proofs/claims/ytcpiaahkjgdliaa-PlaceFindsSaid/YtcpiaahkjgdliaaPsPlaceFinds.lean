/- The pure statement of PlaceFinds. Written by a program of this session (wip/tools/genrow.py). -/
import Derived.Test.YtcpiaahkjgdliaaPx11
import Derived.Test.YtcpiaahkjgdliaaO
namespace Go.Proofs.Ytcpiaahkjgdliaa.P
open Go Go.RowKit Go.Proofs.Ytcpiaahkjgdliaa.O Go.Proofs.YtcpiaahkjgdliaaW.PrintWords
def pascalinelaw07_PlaceFinds.Pure : Prop := ∀ (a0 : ByteArray) (a1 : Int) (a2_0 : Int) (a2_1 : Int), a0.size ≤ 140737488351232 → (Lit.int .i64 a1).wf = true → (Lit.int .i64 a2_0).wf = true → (Lit.int .i64 a2_1).wf = true → ∃ k, pascalinelaw07_PlaceFinds.f k a0 a1 a2_0 a2_1 = some true
end Go.Proofs.Ytcpiaahkjgdliaa.P
