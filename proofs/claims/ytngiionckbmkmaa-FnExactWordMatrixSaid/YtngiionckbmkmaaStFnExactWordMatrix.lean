import Derived.Test.YtngiionckbmkmaaPx61
namespace Go.Proofs.Ytngiionckbmkmaa.P
open Go.RowKit Go.Proofs.YtngiionckbmkmaaW.PrintWords Go.Proofs.YtngiionckbmkmaaW.PrintLast Go.Proofs.YtngiionckbmkmaaW.PrintMore
/-- The one pure statement of laws_FnExactWordMatrix. -/
def laws_FnExactWordMatrix.Pure : Prop := ∀ (a0_0 : Int) (a0_1 : Int) (l1 : List Int), ((Lit.int .i64 a0_0).wf = true) → ((Lit.int .i64 a0_1).wf = true) → (l1.length ≤ maxLen) → (∀ x ∈ l1, (Lit.int .i64 x).wf = true) → ∃ k, laws_FnExactWordMatrix.f k a0_0 a0_1 l1 = some true
end Go.Proofs.Ytngiionckbmkmaa.P
