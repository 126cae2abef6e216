/- Plain lemmas on the printed functions (CallsB). -/
import Derived.Test.YtfeaabdighopbaaPu0
import Derived.Test.YtfeaabdighopbaaPGx0
import Derived.Test.YtfeaabdighopbaaPGx8
import Derived.Test.YtfeaabdighopbaaGQBase
import Derived.Test.YtfeaabdighopbaaGQCalls
namespace Go.Proofs.Ytfeaabdighopbaa.Pu
open Go.RowKit Go.Proofs.Ytfeaabdighopbaa Go.Proofs.Ytfeaabdighopbaa.PG Go.Proofs.Ytfeaabdighopbaa.Pu Go.Proofs.YtfeaabdighopbaaW.PrintWords Go.Proofs.YtfeaabdighopbaaW.PrintLast Go.Proofs.YtfeaabdighopbaaW.PrintMore
set_option linter.unusedVariables false
set_option linter.unusedSimpArgs false
theorem Ev.inj' {α : Type} {f : Nat → Option α} {a b : α} (h : Ev f a) (h' : Ev f b) : a = b := by
  obtain ⟨K, hK⟩ := h
  obtain ⟨L, hL⟩ := h'
  exact Option.some.inj ((hK (K + L) (by omega)).symm.trans (hL (K + L) (by omega)))
def okB (g : Int) (l : List S91) (i : Nat) : Bool := inB (rd_T91 l i).f0 1 1000000 && (tB g (rd_T91 l i) && !(decide ((i : Int) > 0) && decide ((rd_T91 l ((i : Int) - 1)).f0 ≥ (rd_T91 l i).f0)))
def callsB (g : Int) (l : List S91) : Bool := inB g 1 1000 && (decide (l.length ≤ 24) && allFrom (okB g l) 0 l.length)
theorem impl_calls (g : Int) (l : List S91) (hl : l.length ≤ 1048576) : Ev (fun k => impl_CallsOk.f k g l) (callsB g l) := by
  have t2 : Ev (fun k => impl_CallsOk.j0 k g l true) false := Ev.step (fun _ => rfl) (by simp only [impl_CallsOk.j0]; exact Ev.now _)
  simp only [impl_CallsOk.f, in_eq, Option.bind_some, callsB]
  cases hg : inB g 1 1000 with
  | false => simpa using t2
  | true =>
    by_cases hn : (l.length : Int) > 24
    · rw [decide_eq_true hn, decide_eq_false (show ¬ l.length ≤ 24 by omega)]; simpa using t2
    · rw [decide_eq_false hn, decide_eq_true (show l.length ≤ 24 by omega)]
      refine ev_t (by first | rfl | trivial) (Ev.step (fun _ => rfl) ?_)
      simp only [impl_CallsOk.j0]
      refine ev_f (by simp) ?_
      have h0 : Ev (fun k => impl_CallsOk.l0 k g l l l.length 0) (allFrom (okB g l) 0 l.length && true) := by
        refine ev_all (n := l.length) (g := fun k i => impl_CallsOk.l0 k g l l l.length i) (okB g l) true ?_ ?_
        · refine Ev.step (fun _ => rfl) ?_
          simp only [impl_CallsOk.l0]
          exact ev_f (by omega) (Ev.now _)
        · intro i hi r hr
          obtain ⟨x, hx⟩ : ∃ x, x = rd_T91 l i := ⟨_, rfl⟩
          refine Ev.step (fun _ => rfl) ?_
          simp only [impl_CallsOk.l0, okB, ← hx, callOk_eq g (inB_t.1 hg) x, Option.bind_some]
          rw [wr (x := (i : Int) + 1) (by omega)]
          refine ev_t (by omega) (ev_t (by omega) (ev_t (by omega) ?_))
          cases inB x.f0 1 1000000 with
          | false => exact ev_f (by simp) (by simpa using Ev.now false)
          | true =>
          cases tB g x with
          | false => exact ev_f (by simp) (by simpa using Ev.now false)
          | true =>
          refine ev_t rfl ?_
          by_cases h0 : (i : Int) > 0
          · rw [wr (x := (i : Int) - 1) (by omega)]
            refine ev_t h0 (ev_t (by omega) (ev_t (by omega) ?_))
            by_cases ho : (rd_T91 l ((i : Int) - 1)).f0 ≥ x.f0
            · refine ev_t ho ?_
              rw [decide_eq_true h0, decide_eq_true ho]; simpa using Ev.now false
            · refine ev_f ho ?_
              rw [decide_eq_true h0, decide_eq_false ho]; simpa using hr
          · refine ev_f h0 ?_
            rw [decide_eq_false h0]; simpa using hr
      simpa using h0
theorem calls_rise {g : Int} {l : List S91} (h : callsB g l = true) : ∀ i j : Nat, i < j → j < l.length → (rd_T91 l i).f0 < (rd_T91 l j).f0 := by
  simp only [callsB, Bool.and_eq_true] at h
  have h1 := (allFrom_iff _ _).1 h.2.2
  intro i j hij hj
  obtain ⟨d, rfl⟩ : ∃ d, j = i + 1 + d := ⟨j - i - 1, by omega⟩
  induction d with
  | zero =>
    have h2 := h1 (i + 1) (by omega) (by omega)
    simp only [okB, Bool.and_eq_true] at h2
    have h3 := h2.2.2
    rw [decide_eq_true (show ((i + 1 : Nat) : Int) > 0 by omega), show ((i + 1 : Nat) : Int) - 1 = (i : Int) by omega] at h3
    simpa using h3
  | succ d ih =>
    have h0 := ih (by omega) (by omega)
    have h2 := h1 (i + 1 + d + 1) (by omega) (by omega)
    simp only [okB, Bool.and_eq_true] at h2
    have h3 := h2.2.2
    rw [decide_eq_true (show ((i + 1 + d + 1 : Nat) : Int) > 0 by omega), show ((i + 1 + d + 1 : Nat) : Int) - 1 = ((i + 1 + d : Nat) : Int) by omega] at h3
    have h4 : (rd_T91 l ((i + 1 + d : Nat) : Int)).f0 < (rd_T91 l ((i + 1 + d + 1 : Nat) : Int)).f0 := by simpa using h3
    have e : i + 1 + (d + 1) = i + 1 + d + 1 := by omega
    rw [e]; omega
theorem calls_bd {g : Int} {l : List S91} (h : callsB g l = true) : (1 ≤ g ∧ g ≤ 1000) ∧ ∀ i : Nat, i < l.length → 1 ≤ (rd_T91 l i).f1 := by
  simp only [callsB, Bool.and_eq_true] at h
  refine ⟨inB_t.1 h.1, fun i hi => ?_⟩
  have h2 := (allFrom_iff _ _).1 h.2.2 i (by omega) (by omega)
  simp only [okB, tB, Bool.and_eq_true] at h2
  exact (inB_t.1 h2.2.1.1).1

end Go.Proofs.Ytfeaabdighopbaa.Pu
