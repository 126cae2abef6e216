/- Plain lemmas on the printed functions (Places). -/
import Derived.Test.YtfeaabdighopbabPu0
import Derived.Test.YtfeaabdighopbabPCx0
import Derived.Test.YtfeaabdighopbabPCx4
import Derived.Test.YtfeaabdighopbabPCx9
import Derived.Test.YtfeaabdighopbabCQBase
import Derived.Test.YtfeaabdighopbabCQSeas
import Derived.Test.YtfeaabdighopbabCQNexts
namespace Go.Proofs.Ytfeaabdighopbab.Pu
open Go.RowKit Go.Proofs.Ytfeaabdighopbab Go.Proofs.Ytfeaabdighopbab.PC Go.Proofs.Ytfeaabdighopbab.Pu Go.Proofs.YtfeaabdighopbabW.PrintWords Go.Proofs.YtfeaabdighopbabW.PrintLast Go.Proofs.YtfeaabdighopbabW.PrintMore
set_option linter.unusedVariables false
set_option linter.unusedSimpArgs false
theorem pl1 (a b : Int) (l : List Int) (f : List S143) (p : Int) (h1 : 1 ≤ a * b) (h2 : a * b ≤ 144) : spec_l7Place.f a b l f p = some (inB p 0 (a * b - 1)) := by
  simp only [spec_l7Place.f, l1In_eq, Option.bind_some]
  rw [wr (x := a * b) (by omega), wr (by omega)]
theorem pl2 (a b : Int) (l : List Int) (f : List S143) (p : Int) (hl : (l.length : Int) = a * b) (h1 : 1 ≤ a * b) (h2 : a * b ≤ 144) : impl_Sea_place.f a b l f p = some (inB p 0 (a * b - 1)) := by
  simp only [impl_Sea_place.f, in_eq, Option.bind_some]
  rw [hl, wr (by omega)]
end Go.Proofs.Ytfeaabdighopbab.Pu
