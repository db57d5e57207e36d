/- The pure statement of KonstTwo. Written by a program of this session (wip/tools/genrow.py). -/
import Derived.Test.YteaaicpmhdafgaaPx18
import Derived.Test.YteaaicpmhdafgaaO
namespace Go.Proofs.Yteaaicpmhdafgaa.P
open Go Go.RowKit Go.Proofs.Yteaaicpmhdafgaa.O Go.Proofs.YteaaicpmhdafgaaW.PrintWords
def pascalinelaw10_KonstTwo.Pure : Prop := ∀ (a0 : ByteArray) (a1_0 : Int) (a1_1 : Int) (a2_0 : Int) (a2_1 : Int), a0.size ≤ 140737488351232 → (Lit.int .i64 a1_0).wf = true → (Lit.int .i32 a1_1).wf = true → (Lit.int .i64 a2_0).wf = true → (Lit.int .i32 a2_1).wf = true → ∃ k, pascalinelaw10_KonstTwo.f k a0 a1_0 a1_1 a2_0 a2_1 = some true
end Go.Proofs.Yteaaicpmhdafgaa.P
