/- Plain lemmas on the printed functions (ConvFeatureS). -/
import Derived.Test.YtlmohamgfindmacPu0
import Derived.Test.YtlmohamgfindmacPAx0
import Derived.Test.YtlmohamgfindmacPAx5
import Derived.Test.YtlmohamgfindmacPAx8
import Derived.Test.YtlmohamgfindmacPAx9
namespace Go.Proofs.Ytlmohamgfindmac.Pu
open Go.RowKit Go.Proofs.Ytlmohamgfindmac Go.Proofs.Ytlmohamgfindmac.PA Go.Proofs.Ytlmohamgfindmac.Pu Go.Proofs.YtlmohamgfindmacW.PrintWords Go.Proofs.YtlmohamgfindmacW.PrintLast Go.Proofs.YtlmohamgfindmacW.PrintMore
set_option linter.unusedVariables false
set_option linter.unusedSimpArgs false
def cFeature (x : S180) : S128 := ⟨x.f0, x.f1, x.f2, x.f3, x.f4⟩
theorem toFeatureS_ev (l : List S180) (hl : l.length ≤ 5864062014805) : Ev (fun k => laws_toFeatureS.f k l) (l.map cFeature) := by
  have key : ∀ i, i ≤ l.length → Ev (fun k => laws_toFeatureS.l0 k l ((l.take i).map cFeature ++ List.replicate (l.length - i) z128) (i : Int)) (l.map cFeature) := by
    refine down ?_ ?_
    · rw [fill_all]
      refine Ev.step (fun _ => rfl) ?_
      simp only [laws_toFeatureS.l0]
      exact ev_f (by omega) (Ev.now _)
    · intro i hi ih
      refine Ev.step (fun _ => rfl) ?_
      simp only [laws_toFeatureS.l0, laws_toFeature.f, Option.bind_some]
      refine ev_t (by omega) (ev_t (by omega) (ev_t (by simp; omega) ?_))
      rw [wr (by omega), Int.toNat_natCast, set_fill l cFeature z128 i hi _ (by simp [rd_T180, hi, cFeature])]
      exact ih
  have h0 := key 0 (Nat.zero_le _)
  rw [fill_none] at h0
  simp only [laws_toFeatureS.f]
  refine ev_t (by omega) (ev_t (by omega) ?_)
  simpa using h0
theorem eqFeatureS_ev (l : List S128) (hl : l.length ≤ 5864062014805) : Ev (fun k => laws_eqFeatureS.f k l l) true := by
  have key : ∀ i, i ≤ l.length → Ev (fun k => laws_eqFeatureS.l0 k l l (i : Int)) true := by
    refine down ?_ ?_
    · refine Ev.step (fun _ => rfl) ?_
      simp only [laws_eqFeatureS.l0]
      exact ev_f (by omega) (Ev.now _)
    · intro i hi ih
      refine Ev.step (fun _ => rfl) ?_
      simp only [laws_eqFeatureS.l0, laws_eqFeature.f, if_true, Bool.not_true, bne_self_eq_false, Bool.false_eq_true, if_false, Option.bind_some]
      refine ev_t (by omega) (ev_t (by omega) (ev_t (by omega) ?_))
      rw [wr (by omega)]
      exact ih
  simp only [laws_eqFeatureS.f]
  exact ev_t (by first | rfl | trivial) (key 0 (Nat.zero_le _))

end Go.Proofs.Ytlmohamgfindmac.Pu
