/- The pure statement of FnExactYardOk. -/
import Derived.Test.YtfeaabdighopbabPBx7
import Derived.Test.YtfeaabdighopbabPBxo
namespace Go.Proofs.Ytfeaabdighopbab.PB
open Go.RowKit Go.Proofs.Ytfeaabdighopbab Go.Proofs.YtfeaabdighopbabW.PrintWords Go.Proofs.YtfeaabdighopbabW.PrintLast
def laws_FnExactYardOk.Pure : Prop := ∀ (x0 : S56), gS56 x0 → ∃ k, laws_FnExactYardOk.f k x0.f0 x0.f1 = some true
end Go.Proofs.Ytfeaabdighopbab.PB
