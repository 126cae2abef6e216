/- Plain lemmas on the printed functions (ConvHatchS). -/
import Derived.Test.YtlmohamgfindmaaPu0
import Derived.Test.YtlmohamgfindmaaPAx0
import Derived.Test.YtlmohamgfindmaaPAx30
import Derived.Test.YtlmohamgfindmaaPAx31
import Derived.Test.YtlmohamgfindmaaPAx32
namespace Go.Proofs.Ytlmohamgfindmaa.Pu
open Go.RowKit Go.Proofs.Ytlmohamgfindmaa Go.Proofs.Ytlmohamgfindmaa.PA Go.Proofs.Ytlmohamgfindmaa.Pu Go.Proofs.YtlmohamgfindmaaW.PrintWords Go.Proofs.YtlmohamgfindmaaW.PrintLast Go.Proofs.YtlmohamgfindmaaW.PrintMore
set_option linter.unusedVariables false
set_option linter.unusedSimpArgs false
def cHatch (x : S137) : S135 := ⟨x.f0, x.f1, x.f2, x.f3⟩
theorem toHatchS_ev (l : List S137) (hl : l.length ≤ 8796093022208) : Ev (fun k => laws_toHatchS.f k l) (l.map cHatch) := by
  have key : ∀ i, i ≤ l.length → Ev (fun k => laws_toHatchS.l0 k l ((l.take i).map cHatch ++ List.replicate (l.length - i) z135) (i : Int)) (l.map cHatch) := by
    refine down ?_ ?_
    · rw [fill_all]
      refine Ev.step (fun _ => rfl) ?_
      simp only [laws_toHatchS.l0]
      exact ev_f (by omega) (Ev.now _)
    · intro i hi ih
      refine Ev.step (fun _ => rfl) ?_
      simp only [laws_toHatchS.l0, laws_toHatch.f, Option.bind_some]
      refine ev_t (by omega) (ev_t (by omega) (ev_t (by simp; omega) ?_))
      rw [wr (by omega), Int.toNat_natCast, set_fill l cHatch z135 i hi _ (by simp [rd_T137, hi, cHatch])]
      exact ih
  have h0 := key 0 (Nat.zero_le _)
  rw [fill_none] at h0
  simp only [laws_toHatchS.f]
  refine ev_t (by omega) (ev_t (by omega) ?_)
  simpa using h0
theorem eqHatchS_ev (l : List S135) (hl : l.length ≤ 8796093022208) : Ev (fun k => laws_eqHatchS.f k l l) true := by
  have key : ∀ i, i ≤ l.length → Ev (fun k => laws_eqHatchS.l0 k l l (i : Int)) true := by
    refine down ?_ ?_
    · refine Ev.step (fun _ => rfl) ?_
      simp only [laws_eqHatchS.l0]
      exact ev_f (by omega) (Ev.now _)
    · intro i hi ih
      refine Ev.step (fun _ => rfl) ?_
      simp only [laws_eqHatchS.l0, laws_eqHatch.f, if_true, Bool.not_true, bne_self_eq_false, Bool.false_eq_true, if_false, Option.bind_some]
      refine ev_t (by omega) (ev_t (by omega) (ev_t (by omega) ?_))
      rw [wr (by omega)]
      exact ih
  simp only [laws_eqHatchS.f]
  exact ev_t (by first | rfl | trivial) (key 0 (Nat.zero_le _))

end Go.Proofs.Ytlmohamgfindmaa.Pu
