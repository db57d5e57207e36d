/- The pure statement of ScopeNested, where the bulk is small. Written by a program of this session (wip/tools/genrowu.py). -/
import Derived.Test.YtkgjpelddncfdaaPx27
import Derived.Test.YtkgjpelddncfdaaU
namespace Go.Proofs.Ytkgjpelddncfdaa.P
open Go Go.RowKit Go.Proofs.Ytkgjpelddncfdaa.O Go.Proofs.YtkgjpelddncfdaaW.PrintWords
def pascalinelaw11_ScopeNested.PureU : Prop := ∀ (l0 : List (S57)) (a1_0 : ByteArray) (a1_1 : Int) (a1_2 : Int) (a1_3 : Int) (a1_4 : Int) (a1_5 : Int) (a1_6 : Bool) (l1_7 : List (S69)) (a2 : Int), (l0.length ≤ 1048576 ∧ ∀ x ∈ l0, goodU57 x) → a1_0.size ≤ 1048576 → (Lit.int .i64 a1_1).wf = true → (Lit.int .i64 a1_2).wf = true → (Lit.int .i64 a1_3).wf = true → (Lit.int .i32 a1_4).wf = true → (Lit.int .i64 a1_5).wf = true → (l1_7.length ≤ 1048576 ∧ ∀ x ∈ l1_7, goodU69 x) → (Lit.int .u8 a2).wf = true → pascalinelaw11_ScopeNested.f l0 a1_0 a1_1 a1_2 a1_3 a1_4 a1_5 a1_6 l1_7 a2 = some true
end Go.Proofs.Ytkgjpelddncfdaa.P
