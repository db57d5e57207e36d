/- The pure statement of KonstOrder. Written by a program of this session (wip/tools/genrow.py). -/
import Derived.Test.YteaaicpmhdafgaaPx25
import Derived.Test.YteaaicpmhdafgaaO
namespace Go.Proofs.Yteaaicpmhdafgaa.P
open Go Go.RowKit Go.Proofs.Yteaaicpmhdafgaa.O Go.Proofs.YteaaicpmhdafgaaW.PrintWords
def pascalinelaw10_KonstOrder.Pure : Prop := ∀ (a0_0 : Int) (a0_1 : Int) (a1_0 : Int) (a1_1 : Int), (Lit.int .i64 a0_0).wf = true → (Lit.int .i32 a0_1).wf = true → (Lit.int .i64 a1_0).wf = true → (Lit.int .i32 a1_1).wf = true → ∃ k, pascalinelaw10_KonstOrder.f k a0_0 a0_1 a1_0 a1_1 = some true
end Go.Proofs.Yteaaicpmhdafgaa.P
