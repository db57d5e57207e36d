/- The pure statement of KonstTexts. Written by a program of this session (wip/tools/genrow.py). -/
import Derived.Test.YteaaicpmhdafgaaPx23
import Derived.Test.YteaaicpmhdafgaaO
namespace Go.Proofs.Yteaaicpmhdafgaa.P
open Go Go.RowKit Go.Proofs.Yteaaicpmhdafgaa.O Go.Proofs.YteaaicpmhdafgaaW.PrintWords
def pascalinelaw10_KonstTexts.Pure : Prop := ∀ (a0_0 : Int) (a0_1 : Int), (Lit.int .i64 a0_0).wf = true → (Lit.int .i32 a0_1).wf = true → ∃ k, pascalinelaw10_KonstTexts.f k a0_0 a0_1 = some true
end Go.Proofs.Yteaaicpmhdafgaa.P
