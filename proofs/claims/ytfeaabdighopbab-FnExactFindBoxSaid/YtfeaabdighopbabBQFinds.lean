/- Plain lemmas on the printed functions (Finds). -/
import Derived.Test.YtfeaabdighopbabPu0
import Derived.Test.YtfeaabdighopbabPBx0
import Derived.Test.YtfeaabdighopbabPBx8
import Derived.Test.YtfeaabdighopbabPBx9
import Derived.Test.YtfeaabdighopbabBQBase
import Derived.Test.YtfeaabdighopbabBQConvIntS
import Derived.Test.YtfeaabdighopbabBQYards
namespace Go.Proofs.Ytfeaabdighopbab.Pu
open Go.RowKit Go.Proofs.Ytfeaabdighopbab Go.Proofs.Ytfeaabdighopbab.PB Go.Proofs.Ytfeaabdighopbab.Pu Go.Proofs.YtfeaabdighopbabW.PrintWords Go.Proofs.YtfeaabdighopbabW.PrintLast Go.Proofs.YtfeaabdighopbabW.PrintMore
set_option linter.unusedVariables false
set_option linter.unusedSimpArgs false
theorem row_find (a : Int) (ls : List (List Int)) (hl : ls.length ≤ 1048576) (x : Int) (i : Nat) (hi : i < ls.length) (hrow : (rd_L1 ls i).length ≤ 1048576) : ∃ t : Int, Ev (fun k => slices_Index_int_int.f k (rd_L1 ls i) x) t ∧ (t ≥ 0 → Ev (fun k => spec_FindBox.l1 k x i 0 a ls) (i, t, true)) ∧ (¬ t ≥ 0 → ∀ v, Ev (fun k => spec_FindBox.l0 k x (i + 1 : Nat) a ls) v → Ev (fun k => spec_FindBox.l1 k x i 0 a ls) v) := by
  have key : ∀ j : Nat, j ≤ (rd_L1 ls i).length → ∃ t : Int, Ev (fun k => slices_Index_int_int.l0 k (rd_L1 ls i) x ((rd_L1 ls i).length : Int) j) t ∧ (t ≥ 0 → Ev (fun k => spec_FindBox.l1 k x i j a ls) (i, t, true)) ∧ (¬ t ≥ 0 → ∀ v, Ev (fun k => spec_FindBox.l0 k x (i + 1 : Nat) a ls) v → Ev (fun k => spec_FindBox.l1 k x i j a ls) v) := by
    refine down ?_ ?_
    · refine ⟨-1, Ev.step (fun _ => rfl) ?_, fun h => absurd h (by decide), fun _ v hv => Ev.step (fun _ => rfl) ?_⟩
      · simp only [slices_Index_int_int.l0]; exact ev_f (by omega) (Ev.now _)
      · simp only [spec_FindBox.l1]
        rw [wr (x := (i : Int) + 1) (by omega)]
        exact ev_t (by omega) (ev_t (by omega) (ev_f (by omega) hv))
    · rintro j hj ⟨t, h1, h2, h3⟩
      by_cases hx : rd (rd_L1 ls i) j = x
      · refine ⟨j, Ev.step (fun _ => rfl) ?_, fun _ => Ev.step (fun _ => rfl) ?_, fun h => absurd (by omega) h⟩
        · simp only [slices_Index_int_int.l0]; exact ev_t (by omega) (ev_t (by omega) (ev_t (by omega) (ev_t hx.symm (Ev.now _))))
        · simp only [spec_FindBox.l1]; exact ev_t (by omega) (ev_t (by omega) (ev_t (by omega) (ev_t (by omega) (ev_t hx (Ev.now _)))))
      · refine ⟨t, Ev.step (fun _ => rfl) ?_, fun h => Ev.step (fun _ => rfl) ?_, fun h v hv => Ev.step (fun _ => rfl) ?_⟩
        · simp only [slices_Index_int_int.l0]; rw [wr (x := (j : Int) + 1) (by omega)]; exact ev_t (by omega) (ev_t (by omega) (ev_t (by omega) (ev_f (fun e => hx e.symm) h1)))
        · simp only [spec_FindBox.l1]; rw [wr (x := (j : Int) + 1) (by omega)]; exact ev_t (by omega) (ev_t (by omega) (ev_t (by omega) (ev_t (by omega) (ev_f hx (h2 h)))))
        · simp only [spec_FindBox.l1]; rw [wr (x := (j : Int) + 1) (by omega)]; exact ev_t (by omega) (ev_t (by omega) (ev_t (by omega) (ev_t (by omega) (ev_f hx (h3 h v hv)))))
  obtain ⟨t, h1, h2, h3⟩ := key 0 (Nat.zero_le _)
  exact ⟨t, by simp only [slices_Index_int_int.f]; exact h1, h2, h3⟩
theorem find_same (a : Int) (ls : List (List Int)) (hl : ls.length ≤ 1048576) (hs : ls.flatten.length ≤ 1048576) (x : Int) : ∃ v, Ev (fun k => spec_FindBox.f k a ls x) v ∧ Ev (fun k => impl_FindBox.f k a ls x) v := by
  have hy := specYard_ev a ls hl hs
  have hj : ∀ i : Int, Ev (fun k => spec_FindBox.j1 k x i false a ls) (-1, -1, false) := fun i => Ev.step (fun _ => rfl) (by simp only [spec_FindBox.j1]; exact ev_f (by simp) (Ev.now _))
  simp only [spec_FindBox.f, impl_FindBox.f, implYard, Option.bind_some]
  cases hb : yardB a ls with
  | false =>
    rw [hb] at hy
    refine ⟨(-1, -1, false), Ev.step (fun _ => rfl) ?_, ev_f (by simp) (Ev.now _)⟩
    simp only [spec_FindBox.l0]
    exact ev_ite (fun _ => Ev.bind hy (hj _)) (fun _ => hj _)
  | true =>
    rw [hb] at hy
    have key : ∀ i : Nat, i ≤ ls.length → ∃ v, Ev (fun k => spec_FindBox.l0 k x i a ls) v ∧ Ev (fun k => impl_FindBox.l0 k x ls ls.length i) v := by
      refine down ?_ ?_
      · refine ⟨(-1, -1, false), Ev.step (fun _ => rfl) ?_, Ev.step (fun _ => rfl) ?_⟩
        · simp only [spec_FindBox.l0]; exact ev_f (by omega) (hj _)
        · simp only [impl_FindBox.l0]; exact ev_f (by omega) (Ev.now _)
      · rintro i hi ⟨v, v1, v2⟩
        have hrow : (rd_L1 ls i).length ≤ 1048576 := by
          have h1 : (rd_L1 ls i).length ≤ ls.flatten.length := by
            have h2 : rd_L1 ls i ∈ ls := by rw [show rd_L1 ls i = ls[i] by simp [rd_L1, List.getD, hi]]; exact List.getElem_mem hi
            exact (List.sublist_flatten_of_mem h2).length_le
          omega
        obtain ⟨t, h1, h2, h3⟩ := row_find a ls hl x i hi hrow
        by_cases c : t ≥ 0
        · refine ⟨(i, t, true), Ev.step (fun _ => rfl) ?_, Ev.step (fun _ => rfl) ?_⟩
          · simp only [spec_FindBox.l0]
            refine ev_t (by omega) (Ev.bind hy (Ev.step (fun _ => rfl) ?_))
            simp only [spec_FindBox.j1]
            exact ev_t (by first | rfl | trivial) (h2 c)
          · simp only [impl_FindBox.l0]
            exact ev_t (by omega) (ev_t (by omega) (ev_t (by omega) (Ev.bind h1 (ev_t c (Ev.now _)))))
        · refine ⟨v, Ev.step (fun _ => rfl) ?_, Ev.step (fun _ => rfl) ?_⟩
          · simp only [spec_FindBox.l0]
            refine ev_t (by omega) (Ev.bind hy (Ev.step (fun _ => rfl) ?_))
            simp only [spec_FindBox.j1]
            exact ev_t (by first | rfl | trivial) (h3 c v v1)
          · simp only [impl_FindBox.l0]
            rw [wr (x := (i : Int) + 1) (by omega)]
            exact ev_t (by omega) (ev_t (by omega) (ev_t (by omega) (Ev.bind h1 (ev_f c v2))))
    obtain ⟨v, v1, v2⟩ := key 0 (Nat.zero_le _)
    exact ⟨v, v1, ev_t rfl v2⟩

end Go.Proofs.Ytfeaabdighopbab.Pu
