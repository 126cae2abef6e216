/- The pure statement of FnExactHouseOk, proved: for every input that the opening lets in, the printed law comes to true. -/
import Derived.Test.YtfeaabdighopbaaPu0
import Derived.Test.YtfeaabdighopbaaPDx0
import Derived.Test.YtfeaabdighopbaaPDx1
import Derived.Test.YtfeaabdighopbaaPDx3
import Derived.Test.YtfeaabdighopbaaPDx10
import Derived.Test.YtfeaabdighopbaaPDx11
import Derived.Test.YtfeaabdighopbaaDQBase
import Derived.Test.YtfeaabdighopbaaDQConvLotS
import Derived.Test.YtfeaabdighopbaaDQConvTraderS
import Derived.Test.YtfeaabdighopbaaDQHouse
import Derived.Test.YtfeaabdighopbaaStFnExactHouseOk
namespace Go.Proofs.Ytfeaabdighopbaa.Pure
open Go.RowKit Go.Proofs.Ytfeaabdighopbaa Go.Proofs.Ytfeaabdighopbaa.PD Go.Proofs.Ytfeaabdighopbaa.Pu Go.Proofs.YtfeaabdighopbaaW.PrintWords Go.Proofs.YtfeaabdighopbaaW.PrintLast Go.Proofs.YtfeaabdighopbaaW.PrintMore
set_option linter.unusedVariables false
set_option linter.unusedSimpArgs false
theorem szHouse_ev (l : List S144) (t : List S146) (a : Int) (hl : l.length ≤ 9223372036854775807) (ht : t.length ≤ 9223372036854775807) : ∃ s, laws_szHouse.f l t a 1048576 = some s ∧ (0 ≤ s → l.length ≤ 1048576 ∧ t.length ≤ 1048576) := by
  simp only [laws_szHouse.f, laws_szLotS.f, laws_szTraderS.f]
  rw [wr (x := 1048576 - (l.length : Int)) (by omega)]
  by_cases c : 1048576 - (l.length : Int) < 0
  · rw [if_pos c]; exact ⟨-1, rfl, fun h => by omega⟩
  · rw [if_neg c, Option.bind_some, if_neg c, wr (x := 1048576 - (l.length : Int) - (t.length : Int)) (by omega)]
    by_cases d : 1048576 - (l.length : Int) - (t.length : Int) < 0
    · rw [if_pos d]; exact ⟨-1, rfl, fun h => by omega⟩
    · rw [if_neg d, Option.bind_some, if_neg d]; exact ⟨_, rfl, fun _ => by omega⟩
theorem P_HouseOk : ∀ (l : List S144) (t : List S146) (a : Int), l.length ≤ maxLen → t.length ≤ maxLen → ∃ k, laws_FnExactHouseOk.f k l t a = some true := by
  intro l t a hl ht
  refine Ev.rounds ?_
  unfold maxLen at hl ht
  simp only [laws_FnExactHouseOk.f]
  obtain ⟨s, hs, hs2⟩ := szHouse_ev l t a (by omega) (by omega)
  simp only [hs, Option.bind_some]
  by_cases h : s < 0
  · exact ev_t h (Ev.now _)
  · have h1 := hs2 (by omega)
    have hto : Ev (fun k => laws_toHouse.f k l t a) (l.map cLot, t.map cTrader, a) := by
      simp only [laws_toHouse.f]
      exact Ev.bind (toLotS_ev l (by omega)) (Ev.bind (toTraderS_ev t (by omega)) (Ev.now _))
    obtain ⟨v, v1, v2⟩ := house_same (l.map cLot) (t.map cTrader) a (by simp; omega) (by simp; omega)
    have heq : Ev (fun k => laws_eqHouse.f k (l.map cLot) (t.map cTrader) a (l.map cLot) (t.map cTrader) a) true := by
      simp only [laws_eqHouse.f]
      exact Ev.bind (eqLotS_ev _ (by simp; omega)) (ev_t rfl (Ev.bind (eqTraderS_ev _ (by simp; omega)) (ev_t rfl (ev_t (by first | rfl | trivial) (Ev.now _)))))
    exact ev_f h (Ev.bind hto (Ev.bind v1 (Ev.bind hto (Ev.bind v2 (ev_f (by simp) (Ev.bind hto (Ev.bind heq (ev_t rfl (Ev.now _)))))))))
theorem FnExactHouseOk : laws_FnExactHouseOk.Pure := fun x g => P_HouseOk x.f0 x.f1 x.f2 g.1.1 g.2.1.1

end Go.Proofs.Ytfeaabdighopbaa.Pure
