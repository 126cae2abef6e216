/- Plain lemmas on the printed functions (Places). -/
import Derived.Test.YtlmohamgfindmacPu0
import Derived.Test.YtlmohamgfindmacPAx0
import Derived.Test.YtlmohamgfindmacPAx31
import Derived.Test.YtlmohamgfindmacPAx35
import Derived.Test.YtlmohamgfindmacQBase
import Derived.Test.YtlmohamgfindmacQSeas
import Derived.Test.YtlmohamgfindmacQNexts
namespace Go.Proofs.Ytlmohamgfindmac.Pu
open Go.RowKit Go.Proofs.Ytlmohamgfindmac Go.Proofs.Ytlmohamgfindmac.PA Go.Proofs.Ytlmohamgfindmac.Pu Go.Proofs.YtlmohamgfindmacW.PrintWords Go.Proofs.YtlmohamgfindmacW.PrintLast Go.Proofs.YtlmohamgfindmacW.PrintMore
set_option linter.unusedVariables false
set_option linter.unusedSimpArgs false
theorem pl1 (a b : Int) (l : List Int) (f : List S192) (p : Int) (h1 : 1 ≤ a * b) (h2 : a * b ≤ 144) : spec_l7Place.f a b l f p = some (inB p 0 (a * b - 1)) := by
  simp only [spec_l7Place.f, l1In_eq, Option.bind_some]
  rw [wr (x := a * b) (by omega), wr (by omega)]
theorem pl2 (a b : Int) (l : List Int) (f : List S192) (p : Int) (hl : (l.length : Int) = a * b) (h1 : 1 ≤ a * b) (h2 : a * b ≤ 144) : impl_Sea_place.f a b l f p = some (inB p 0 (a * b - 1)) := by
  simp only [impl_Sea_place.f, in_eq, Option.bind_some]
  rw [hl, wr (by omega)]
theorem nextL_len (a b p : Int) : (nextL a b p).length ≤ 4 := by
  unfold nextL
  simp only [List.length_append]
  have m : ∀ (c : Prop) [Decidable c] (z : Int), (if c then [z] else []).length ≤ 1 := by
    intro c _ z
    by_cases h : c <;> simp [h]
  have h1 := m (p / a > 0) (p - a); have h2 := m (p % a > 0) (p - 1); have h3 := m (p % a < a - 1) (p + 1); have h4 := m (p / a < b - 1) (p + a)
  omega
theorem any_adj (a b p q : Int) (ha : 1 ≤ a) (hp : 0 ≤ p) (hp2 : p < a * b) (hq : 0 ≤ q) (hq2 : q < a * b) : (nextL a b p).any (fun z => z == q) = adjB a p q := by
  rw [Bool.eq_iff_iff, ← next_mem a b p q ha hp hp2 hq hq2, List.any_eq_true]
  constructor
  · rintro ⟨z, hz, h⟩
    rw [beq_iff_eq] at h
    rwa [← h]
  · intro h
    exact ⟨q, h, by simp⟩

end Go.Proofs.Ytlmohamgfindmac.Pu
