/- Values of this seat's struct types: what is known of them, and that whatever reads as data reads so. Written by a program of this session (wip/tools/genrow.py). -/
import Derived.Test.YtcpiaahkjgdliaaPx0
import Derived.Test.YtcpiaahkjgdliaaCOpen
namespace Go.Proofs.Ytcpiaahkjgdliaa.O
open Go Go.RowKit Go.Proofs.Ytcpiaahkjgdliaa.P Go.Proofs.Ytcpiaahkjgdliaa.C Go.Proofs.YtcpiaahkjgdliaaW.PrintWords Go.Proofs.YtcpiaahkjgdliaaW.PrintLast Go.Proofs.YtcpiaahkjgdliaaW.PrintMore
set_option linter.unusedVariables false
set_option linter.unusedSimpArgs false

end Go.Proofs.Ytcpiaahkjgdliaa.O
