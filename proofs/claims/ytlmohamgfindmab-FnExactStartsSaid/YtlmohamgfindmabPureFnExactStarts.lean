/- The pure statement of FnExactStarts, proved: for every input that the opening lets in, the printed law comes to true. -/
import Derived.Test.YtlmohamgfindmabPu0
import Derived.Test.YtlmohamgfindmabPAx0
import Derived.Test.YtlmohamgfindmabPAx11
import Derived.Test.YtlmohamgfindmabPAx13
import Derived.Test.YtlmohamgfindmabPAx14
import Derived.Test.YtlmohamgfindmabPAx16
import Derived.Test.YtlmohamgfindmabPAx19
import Derived.Test.YtlmohamgfindmabQBase
import Derived.Test.YtlmohamgfindmabQCharter
import Derived.Test.YtlmohamgfindmabQSpells
import Derived.Test.YtlmohamgfindmabQConvSpellS
import Derived.Test.YtlmohamgfindmabStFnExactStarts
namespace Go.Proofs.Ytlmohamgfindmab.Pure
open Go.RowKit Go.Proofs.Ytlmohamgfindmab Go.Proofs.Ytlmohamgfindmab.PA Go.Proofs.Ytlmohamgfindmab.Pu Go.Proofs.YtlmohamgfindmabW.PrintWords Go.Proofs.YtlmohamgfindmabW.PrintLast Go.Proofs.YtlmohamgfindmabW.PrintMore
set_option linter.unusedVariables false
set_option linter.unusedSimpArgs false
theorem starts_l0 (l : List S119) (hl : l.length ≤ 1048576) : ∀ i : Nat, i ≤ l.length → ∀ m, ∃ v, Ev (fun k => spec_Starts.l0 k l m i) v ∧ Ev (fun k => impl_Starts.l0 k m l l.length i) v := by
  refine down ?_ ?_
  · intro m
    cases h : inB m 0 100000000 with
    | true =>
      refine ⟨(m, true), Ev.step (fun _ => rfl) ?_, Ev.step (fun _ => rfl) ?_⟩
      · simp only [spec_Starts.l0, spec_l1Minute.f, l1In_eq, Option.bind_some, h]; exact ev_f (by omega) (ev_t (by first | rfl | trivial) (Ev.now _))
      · simp only [impl_Starts.l0, impl_minuteOk.f, in_eq, Option.bind_some, h]; exact ev_f (by omega) (ev_t (by first | rfl | trivial) (Ev.now _))
    | false =>
      refine ⟨(-1, false), Ev.step (fun _ => rfl) ?_, Ev.step (fun _ => rfl) ?_⟩
      · simp only [spec_Starts.l0, spec_l1Minute.f, l1In_eq, Option.bind_some, h]; exact ev_f (by omega) (ev_f (by simp) (Ev.now _))
      · simp only [impl_Starts.l0, impl_minuteOk.f, in_eq, Option.bind_some, h]; exact ev_f (by omega) (ev_f (by simp) (Ev.now _))
  · intro i hi ih m
    cases h : inB m (rd_T119 l i).f0 (wrap64 ((rd_T119 l i).f1 - 1)) with
    | true =>
      obtain ⟨v, v1, v2⟩ := ih (rd_T119 l i).f1
      refine ⟨v, Ev.step (fun _ => rfl) ?_, Ev.step (fun _ => rfl) ?_⟩
      · simp only [spec_Starts.l0, l1In_eq, Option.bind_some, h]
        rw [wr (x := (i : Int) + 1) (by omega)]
        exact ev_t (by omega) (ev_t (by omega) (ev_t (by first | rfl | trivial) v1))
      · simp only [impl_Starts.l0, in_eq, Option.bind_some, h]
        rw [wr (x := (i : Int) + 1) (by omega)]
        exact ev_t (by omega) (ev_t (by omega) (ev_t (by omega) (ev_t (by first | rfl | trivial) v2)))
    | false =>
      obtain ⟨v, v1, v2⟩ := ih m
      refine ⟨v, Ev.step (fun _ => rfl) ?_, Ev.step (fun _ => rfl) ?_⟩
      · simp only [spec_Starts.l0, l1In_eq, Option.bind_some, h]
        rw [wr (x := (i : Int) + 1) (by omega)]
        exact ev_t (by omega) (ev_t (by omega) (ev_f (by simp) v1))
      · simp only [impl_Starts.l0, in_eq, Option.bind_some, h]
        rw [wr (x := (i : Int) + 1) (by omega)]
        exact ev_t (by omega) (ev_t (by omega) (ev_t (by omega) (ev_f (by simp) v2)))
theorem starts_same (a b c d m : Int) (l : List S119) (hl : l.length ≤ 1048576) : ∃ v, Ev (fun k => spec_Starts.f k a b c d m l) v ∧ Ev (fun k => impl_Starts.f k a b c d m l) v := by
  have s1 := spellsok1 l hl
  have s2 := spellsok2 l hl
  obtain ⟨v, v1, v2⟩ := starts_l0 l hl 0 (Nat.zero_le _) (wrap64 (m + a))
  have t2 : Ev (fun k => impl_Starts.j0 k m l true a b c d) (-1, false) := Ev.step (fun _ => rfl) (by simp only [impl_Starts.j0]; exact Ev.now _)
  have t3 : Ev (fun k => impl_Starts.j0 k m l false a b c d) v := Ev.step (fun _ => rfl) (by simp only [impl_Starts.j0]; exact ev_f (by simp) v2)
  simp only [spec_Starts.f, impl_Starts.f, CharterOk1, CharterOk2, spec_l1Minute.f, impl_minuteOk.f, l1In_eq, in_eq, Option.bind_some]
  cases (inB a 0 100000 && inB b 0 100000 && inB c 0 1000000000 && inB d 0 1000000000) with
  | false => exact ⟨(-1, false), by simpa using Ev.now _, by simpa using t2⟩
  | true =>
  cases inB m 0 100000000 with
  | false => exact ⟨(-1, false), by simpa using Ev.now _, by simpa using t2⟩
  | true =>
    generalize (allFrom (spellP l) 0 l.length && decide ((l.length : Int) ≤ 100)) = u at s1 s2
    cases u with
    | false => exact ⟨(-1, false), ev_t rfl (ev_t rfl (Ev.bind s1 (ev_f (by simp) (Ev.now _)))), ev_t rfl (ev_t rfl (Ev.bind s2 t2))⟩
    | true => exact ⟨v, ev_t rfl (ev_t rfl (Ev.bind s1 (ev_t rfl v1))), ev_t rfl (ev_t rfl (Ev.bind s2 t3))⟩
theorem P_Starts : ∀ (a b c d m : Int) (l : List S121), l.length ≤ maxLen → ∃ k, laws_FnExactStarts.f k a b c d m l = some true := by
  intro a b c d m l hl
  refine Ev.rounds ?_
  unfold maxLen at hl
  simp only [laws_FnExactStarts.f, laws_szSpellS.f, laws_toCharter.f, Option.bind_some]
  rw [wr (by omega)]
  by_cases h : (l.length : Int) ≤ 1048576
  · rw [if_neg (by omega)]
    simp only [Option.bind_some]
    have ht := toSpellS_ev l (by omega)
    have h' : (l.map cSpell).length ≤ 1048576 := by simp; omega
    obtain ⟨v, v1, v2⟩ := starts_same a b c d m (l.map cSpell) h'
    have fin : Ev (fun k => laws_FnExactStarts.j0 k l (l.map cSpell) false) true := by
      refine Ev.step (fun _ => rfl) ?_
      simp only [laws_FnExactStarts.j0]
      exact ev_f (by simp) (Ev.bind ht (Ev.bind (eqSpellS_ev _ (by omega)) (ev_t rfl (Ev.now _))))
    exact ev_f (by omega) (Ev.bind ht (Ev.bind v1 (Ev.bind ht (Ev.bind v2 (ev_t rfl (by simpa using fin))))))
  · rw [if_pos (by omega)]
    simp only [Option.bind_some]
    exact ev_t (by omega) (Ev.now _)
theorem FnExactStarts : laws_FnExactStarts.Pure := fun x m l _ _ h => P_Starts _ _ _ _ m l h.1

end Go.Proofs.Ytlmohamgfindmab.Pure
