/- The pure statement of FnExactCheapest. -/
import Derived.Test.YtfeaabdighopbabPCx14
import Derived.Test.YtfeaabdighopbabPCxo
namespace Go.Proofs.Ytfeaabdighopbab.PC
open Go.RowKit Go.Proofs.Ytfeaabdighopbab Go.Proofs.YtfeaabdighopbabW.PrintWords Go.Proofs.YtfeaabdighopbabW.PrintLast
def laws_FnExactCheapest.Pure : Prop := ∀ (x0 : S31) (a1 : Int), gS31 x0 → (Lit.int .i64 a1).wf = true → ∃ k, laws_FnExactCheapest.f k x0.f0 x0.f1 x0.f2 x0.f3 a1 = some true
end Go.Proofs.Ytfeaabdighopbab.PC
