/- The pure statement of FnExactFindBox. -/
import Derived.Test.YtfeaabdighopbabPBx10
import Derived.Test.YtfeaabdighopbabPBxo
namespace Go.Proofs.Ytfeaabdighopbab.PB
open Go.RowKit Go.Proofs.Ytfeaabdighopbab Go.Proofs.YtfeaabdighopbabW.PrintWords Go.Proofs.YtfeaabdighopbabW.PrintLast
def laws_FnExactFindBox.Pure : Prop := ∀ (x0 : S56) (a1 : Int), gS56 x0 → (Lit.int .i64 a1).wf = true → ∃ k, laws_FnExactFindBox.f k x0.f0 x0.f1 a1 = some true
end Go.Proofs.Ytfeaabdighopbab.PB
