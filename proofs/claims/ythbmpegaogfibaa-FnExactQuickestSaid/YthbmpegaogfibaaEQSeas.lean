/- Plain lemmas on the printed functions (Seas). -/
import Derived.Test.YthbmpegaogfibaaPu0
import Derived.Test.YthbmpegaogfibaaPEx0
import Derived.Test.YthbmpegaogfibaaPEx1
import Derived.Test.YthbmpegaogfibaaPEx2
import Derived.Test.YthbmpegaogfibaaPEx5
import Derived.Test.YthbmpegaogfibaaPEx7
import Derived.Test.YthbmpegaogfibaaPEx13
import Derived.Test.YthbmpegaogfibaaEQBase
import Derived.Test.YthbmpegaogfibaaEQL3
import Derived.Test.YthbmpegaogfibaaEQConvIntS
import Derived.Test.YthbmpegaogfibaaEQConvClosedS
namespace Go.Proofs.Ythbmpegaogfibaa.Pu
open Go.RowKit Go.Proofs.Ythbmpegaogfibaa Go.Proofs.Ythbmpegaogfibaa.PE Go.Proofs.Ythbmpegaogfibaa.Pu Go.Proofs.YthbmpegaogfibaaW.PrintWords Go.Proofs.YthbmpegaogfibaaW.PrintLast Go.Proofs.YthbmpegaogfibaaW.PrintMore
set_option linter.unusedVariables false
set_option linter.unusedSimpArgs false
theorem szSea_ev (a b : Int) (l : List Int) (f : List S54) (hl : l.length ≤ 9223372036854775807) (hf : f.length ≤ 9223372036854775807) : ∃ v, laws_szSea.f a b l f 1048576 = some v ∧ (0 ≤ v → l.length ≤ 1048576 ∧ f.length ≤ 1048576) := by
  simp only [laws_szSea.f, laws_szIntS.f, laws_szClosedS.f]
  rw [wr (by omega)]
  by_cases h : 1048576 - (l.length : Int) < 0
  · rw [if_pos h]
    simp only [Option.bind_some]
    rw [if_pos (by omega)]
    exact ⟨-1, rfl, fun h => by omega⟩
  · rw [if_neg h]
    simp only [Option.bind_some]
    rw [if_neg h, wr (x := 1048576 - (l.length : Int) - (f.length : Int)) (by omega)]
    by_cases c : 1048576 - (l.length : Int) - (f.length : Int) < 0
    · rw [if_pos c]
      simp only [Option.bind_some]
      rw [if_pos (by omega)]
      exact ⟨-1, rfl, fun h => by omega⟩
    · rw [if_neg c]
      simp only [Option.bind_some]
      rw [if_neg c]
      exact ⟨_, rfl, fun _ => by omega⟩
theorem toSea_ev (a b : Int) (l : List Int) (f : List S54) (hl : l.length ≤ 1048576) (hf : f.length ≤ 1048576) : Ev (fun k => laws_toSea.f k a b l f) (a, b, l, f.map cClosed) := by
  simp only [laws_toSea.f]
  exact Ev.bind (toIntS_id l (by omega)) (Ev.bind (toClosedS_ev f (by omega)) (Ev.now _))
theorem eqSea_ev (a b : Int) (l : List Int) (f : List S52) (hl : l.length ≤ 1048576) (hf : f.length ≤ 1048576) : Ev (fun k => laws_eqSea.f k a b l f a b l f) true := by
  simp only [laws_eqSea.f]
  exact ev_t (by first | rfl | trivial) (ev_t (by first | rfl | trivial) (Ev.bind (eqIntS_ev l (by omega)) (ev_t rfl (Ev.bind (eqClosedS_ev f (by omega)) (ev_t rfl (Ev.now _))))))
def shB (x : S52) : Bool := inB x.f0 0 x.f2 && (inB x.f1 0 x.f3 && (!decide (x.f2 ≥ 12) && (!decide (x.f3 ≥ 12) && (inB x.f4 0 x.f5 && !decide (x.f5 > 1000000)))))
theorem sea_l0 (a b : Int) (l : List Int) (f : List S52) (hf : f.length ≤ 1048576) : Ev (fun k => spec_SeaOk.l0 k 0 a b l f) (f.all shB) := by
  have key : ∀ i, i ≤ f.length → Ev (fun k => spec_SeaOk.l0 k (i : Int) a b l f) ((f.drop i).all shB) := by
    refine down ?_ ?_
    · refine Ev.step (fun _ => rfl) ?_
      simp only [spec_SeaOk.l0]
      exact ev_f (by omega) (by simpa using Ev.now true)
    · intro i hi ih
      refine Ev.step (fun _ => rfl) ?_
      simp only [spec_SeaOk.l0, l1In_eq, Option.bind_some]
      refine ev_t (by omega) (ev_t (by omega) ?_)
      rw [wr (by omega), List.drop_eq_getElem_cons hi, List.all_cons, show rd_T52 f (i : Int) = f[i] by simp [rd_T52, hi]]
      have ih' : Ev (fun k => spec_SeaOk.l0 k ((i : Int) + 1) a b l f) ((f.drop (i + 1)).all shB) := ih
      generalize (f.drop (i + 1)).all shB = r at ih' ⊢
      generalize f[i] = x
      unfold shB
      cases inB x.f0 0 x.f2 with
      | false => exact Ev.now false
      | true =>
      cases inB x.f1 0 x.f3 with
      | false => exact Ev.now false
      | true =>
      refine ev_t rfl (ev_t rfl ?_)
      by_cases h1 : x.f2 ≥ 12
      · refine ev_t h1 ?_; simpa [h1] using Ev.now false
      refine ev_f h1 ?_
      by_cases h2 : x.f3 ≥ 12
      · refine ev_t h2 ?_; simpa [h1, h2] using Ev.now false
      refine ev_f h2 ?_
      cases inB x.f4 0 x.f5 with
      | false => simpa [h1, h2] using Ev.now false
      | true =>
      refine ev_t rfl ?_
      by_cases h3 : x.f5 > 1000000
      · refine ev_t h3 ?_; simpa [h1, h2, h3] using Ev.now false
      · refine ev_f h3 ?_; simpa [h1, h2, h3] using ih'
  simpa using key 0 (Nat.zero_le _)
theorem sea_i0 (f : List S52) (hf : f.length ≤ 1048576) : Ev (fun k => impl_SeaOk.l0 k f f.length 0) (f.all shB) := by
  have key : ∀ i, i ≤ f.length → Ev (fun k => impl_SeaOk.l0 k f f.length (i : Int)) ((f.drop i).all shB) := by
    refine down ?_ ?_
    · refine Ev.step (fun _ => rfl) ?_
      simp only [impl_SeaOk.l0]
      exact ev_f (by omega) (by simpa using Ev.now true)
    · intro i hi ih
      refine Ev.step (fun _ => rfl) ?_
      simp only [impl_SeaOk.l0, in_eq, Option.bind_some]
      refine ev_t (by omega) (ev_t (by omega) (ev_t (by omega) ?_))
      rw [wr (by omega), List.drop_eq_getElem_cons hi, List.all_cons, show rd_T52 f (i : Int) = f[i] by simp [rd_T52, hi]]
      have ih' : Ev (fun k => impl_SeaOk.l0 k f f.length ((i : Int) + 1)) ((f.drop (i + 1)).all shB) := ih
      generalize (f.drop (i + 1)).all shB = r at ih' ⊢
      generalize f[i] = x
      unfold shB
      cases inB x.f0 0 x.f2 with
      | false => exact Ev.now false
      | true =>
      refine ev_t rfl ?_
      by_cases h1 : x.f2 > 11
      · refine ev_t h1 ?_
        have h1' : x.f2 ≥ 12 := by omega
        simpa [h1'] using Ev.now false
      refine ev_f h1 ?_
      have h1' : ¬ x.f2 ≥ 12 := by omega
      cases inB x.f1 0 x.f3 with
      | false => simpa [h1'] using Ev.now false
      | true =>
      refine ev_t rfl ?_
      by_cases h2 : x.f3 > 11
      · refine ev_t h2 ?_
        have h2' : x.f3 ≥ 12 := by omega
        simpa [h1', h2'] using Ev.now false
      refine ev_f h2 ?_
      have h2' : ¬ x.f3 ≥ 12 := by omega
      cases inB x.f4 0 x.f5 with
      | false => simpa [h1', h2'] using Ev.now false
      | true =>
      refine ev_t rfl ?_
      by_cases h3 : x.f5 > 1000000
      · refine ev_t h3 ?_; simpa [h1', h2', h3] using Ev.now false
      · refine ev_f h3 ?_; simpa [h1', h2', h3] using ih'
  simpa using key 0 (Nat.zero_le _)
def seaB (a b : Int) (l : List Int) (f : List S52) : Bool :=
  inB a 1 12 && (inB b 1 12 && (decide ((l.length : Int) = wrap64 (a * b)) && (!decide ((f.length : Int) > 10) && ((l.all fun x => inB x 0 1000) && f.all shB))))
theorem sea1 (a b : Int) (l : List Int) (f : List S52) (hl : l.length ≤ 1048576) (hf : f.length ≤ 1048576) : Ev (fun k => spec_SeaOk.f k a b l f) (seaB a b l f) := by
  have jf : ∀ c, Ev (fun k => spec_SeaOk.j0 k c a b l f) (!c && f.all shB) := by
    intro c
    refine Ev.step (fun _ => rfl) ?_
    simp only [spec_SeaOk.j0]
    cases c with
    | true => exact Ev.now _
    | false => simpa using sea_l0 a b l f hf
  simp only [spec_SeaOk.f, l1In_eq, Option.bind_some, seaB]
  cases inB a 1 12 with
  | false => simpa using jf true
  | true =>
  cases inB b 1 12 with
  | false => simpa using jf true
  | true =>
  refine ev_t rfl (ev_t rfl ?_)
  by_cases h : (l.length : Int) = wrap64 (a * b)
  · refine ev_t h ?_
    by_cases h2 : (f.length : Int) > 10
    · refine ev_t h2 ?_
      simpa [h, h2] using jf true
    · refine ev_f h2 (Ev.bind (l3All_ev l 0 1000 (by omega)) ?_)
      have := jf (!(l.all fun x => inB x 0 1000))
      simpa [h, h2] using this
  · refine ev_f h ?_
    simpa [h] using jf true
theorem sea2 (a b : Int) (l : List Int) (f : List S52) (hl : l.length ≤ 1048576) (hf : f.length ≤ 1048576) : Ev (fun k => impl_SeaOk.f k a b l f) (seaB a b l f) := by
  have jf : ∀ c, Ev (fun k => impl_SeaOk.j0 k c a b l f) (!c && f.all shB) := by
    intro c
    refine Ev.step (fun _ => rfl) ?_
    simp only [impl_SeaOk.j0]
    cases c with
    | true => exact Ev.now _
    | false => simpa using sea_i0 f hf
  simp only [impl_SeaOk.f, in_eq, all_eq, Option.bind_some, seaB]
  cases inB a 1 12 with
  | false => simpa using jf true
  | true =>
  cases inB b 1 12 with
  | false => simpa using jf true
  | true =>
  refine ev_t rfl (ev_t rfl ?_)
  by_cases h : (l.length : Int) = wrap64 (a * b)
  · refine ev_t h ?_
    cases h1 : l.all fun x => inB x 0 1000 with
    | false => simpa [h] using jf true
    | true =>
      refine ev_t rfl ?_
      simpa [h] using jf (decide ((f.length : Int) > 10))
  · refine ev_f h ?_
    simpa [h] using jf true
theorem seaB_t {a b : Int} {l : List Int} {f : List S52} (h : seaB a b l f = true) : 1 ≤ a ∧ a ≤ 12 ∧ 1 ≤ b ∧ b ≤ 12 ∧ (l.length : Int) = a * b ∧ a * b ≤ 144 ∧ 1 ≤ a * b ∧ f.length ≤ 10 ∧ ∀ i : Nat, i < l.length → 0 ≤ rd l i ∧ rd l i ≤ 1000 := by
  simp only [seaB, Bool.and_eq_true, inB_t, decide_eq_true_eq, Bool.not_eq_true', decide_eq_false_iff_not, List.all_eq_true] at h
  obtain ⟨ha, hb, hw, hf, hc, _⟩ := h
  have hab : a * b ≤ 144 := Int.le_trans (Int.mul_le_mul ha.2 hb.2 (by omega) (by omega)) (by omega)
  have hab1 : 1 * 1 ≤ a * b := Int.mul_le_mul ha.1 hb.1 (by omega) (by omega)
  rw [wr (by omega)] at hw
  refine ⟨ha.1, ha.2, hb.1, hb.2, hw, hab, by omega, by omega, fun i hi => ?_⟩
  have := hc l[i] (List.getElem_mem hi)
  rwa [show rd l (i : Int) = l[i] by simp [rd, hi]]

end Go.Proofs.Ythbmpegaogfibaa.Pu
