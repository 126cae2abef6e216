/- Plain lemmas on the printed functions (DrawsAl). -/
import Derived.Test.YtlmohamgfindmabPu0
import Derived.Test.YtlmohamgfindmabPDx5
import Derived.Test.YtlmohamgfindmabPDx6
import Derived.Test.YtlmohamgfindmabPDx7
import Derived.Test.YtlmohamgfindmabDQBase
import Derived.Test.YtlmohamgfindmabDQDraws
namespace Go.Proofs.Ytlmohamgfindmab.Pu
open Go.RowKit Go.Proofs.Ytlmohamgfindmab Go.Proofs.Ytlmohamgfindmab.PD Go.Proofs.Ytlmohamgfindmab.Pu Go.Proofs.YtlmohamgfindmabW.PrintWords Go.Proofs.YtlmohamgfindmabW.PrintLast Go.Proofs.YtlmohamgfindmabW.PrintMore
set_option linter.unusedVariables false
set_option linter.unusedSimpArgs false
theorem drawAl_l0 (b : List Int) (hb : b.length ≤ 1048576) (r0 r1 r2 : Int) : ∀ n : Nat, ∀ (x : List Int), x.length + n ≤ 1000 → ∀ p h, 0 ≤ p → ∃ lst : List Int, lst.length ≤ 1000 ∧ Ev (fun k => spec_DrawAlarms.l0 k x n b p h r0 r1 r2) (r0, r1, r2, lst) := by
  intro n
  induction n with
  | zero =>
    intro x hx p h hp
    obtain ⟨b1, p1, h1, e1, _, _, hp1⟩ := below_ev b hb p h 60 hp (by omega)
    obtain ⟨b2, p2, h2, e2, c2, d2, hp2⟩ := below_ev b hb p1 h1 2 hp1 (by omega)
    have d2 := d2 (by omega)
    cases hq : (b1 == 0) with
    | true =>
      refine ⟨List.replicate (500 + b2).toNat 0, by rw [List.length_replicate]; omega, Ev.step (fun _ => rfl) ?_⟩
      simp only [spec_DrawAlarms.l0, spec_l1Once.f, e1, Option.bind_some, hq, e2]
      rw [wr (x := 500 + b2) (by omega)]
      exact ev_f (by omega) (ev_t (by first | rfl | trivial) (ev_t (by omega) (ev_t (by omega) (Ev.now _))))
    | false =>
      refine ⟨x, by omega, Ev.step (fun _ => rfl) ?_⟩
      simp only [spec_DrawAlarms.l0, spec_l1Once.f, e1, Option.bind_some, hq]
      exact ev_f (by omega) (ev_f (by simp) (Ev.now _))
  | succ n ih =>
    intro x hx p h hp
    obtain ⟨b1, p1, h1, e1, _, _, hp1⟩ := below_ev b hb p h 18 hp (by omega)
    obtain ⟨lst, hl, he⟩ := ih (x ++ [wrap64 (b1 - 1)]) (by simp; omega) p1 h1 hp1
    refine ⟨lst, hl, Ev.step (fun _ => rfl) ?_⟩
    simp only [spec_DrawAlarms.l0, e1, Option.bind_some]
    rw [wr (x := ((n + 1 : Nat) : Int) - 1) (by omega), show ((n + 1 : Nat) : Int) - 1 = (n : Int) by omega]
    exact ev_t (by omega) (ev_t (by omega) he)
theorem drawAl_j0 (b : List Int) (hb : b.length ≤ 1048576) (r0 r1 r2 p h : Int) (hp : 0 ≤ p) : ∃ lst : List Int, lst.length ≤ 1000 ∧ Ev (fun k => spec_DrawAlarms.j0 k b b p h r0 r1 r2) (r0, r1, r2, lst) := by
  obtain ⟨t, ht, t1, t2⟩ := size_ev b hb
  obtain ⟨b1, p1, h1, e1, c1, d1, hp1⟩ := below_ev b hb p h (2 * t) hp (by omega)
  have hbd : b1 ≤ 80 := by
    by_cases c : 0 < 2 * t
    · have := d1 c; omega
    · unfold spec_l1Below.f at e1
      rw [if_pos (by omega)] at e1
      simp only [Option.some.injEq, Prod.mk.injEq] at e1
      omega
  obtain ⟨lst, hl, he⟩ := drawAl_l0 b hb r0 r1 r2 b1.toNat [] (by simp; omega) p1 h1 hp1
  refine ⟨lst, hl, Ev.step (fun _ => rfl) ?_⟩
  simp only [spec_DrawAlarms.j0, ht, Option.bind_some]
  rw [wr (x := 2 * t) (by omega), e1]
  simp only [Option.bind_some]
  rw [show ((b1.toNat : Nat) : Int) = b1 by omega] at he
  exact he
theorem drawAl (b : List Int) (hb : b.length ≤ 1048576) : ∃ (r0 r1 r2 : Int) (lst : List Int), lst.length ≤ 1000 ∧ Ev (fun k => spec_DrawAlarms.f k b) (r0, r1, r2, lst) := by
  obtain ⟨h0, e0⟩ := l1new_ev b hb
  obtain ⟨b1, p1, h1, e1, _, _, hp1⟩ := below_ev b hb 0 h0 9 (by omega) (by omega)
  obtain ⟨b2, p2, h2, e2, _, _, hp2⟩ := below_ev b hb p1 h1 6 hp1 (by omega)
  obtain ⟨b3, p3, h3, e3, _, _, hp3⟩ := below_ev b hb p2 h2 4 hp2 (by omega)
  obtain ⟨b4, p4, h4, e4, _, _, hp4⟩ := below_ev b hb p3 h3 30 hp3 (by omega)
  obtain ⟨b5, p5, h5, e5, hp5⟩ := pick_ev b hb p4 h4 hp4 [0, 100, 101] (by simp)
  obtain ⟨b6, p6, h6, e6, hp6⟩ := pick_ev b hb p4 h4 hp4 [(-1000001), wrap64 (b1 - 1), 1000001, 1000000] (by simp)
  obtain ⟨b7, p7, h7, e7, _, _, hp7⟩ := below_ev b hb p4 h4 2 hp4 (by omega)
  simp only [spec_DrawAlarms.f]
  by_cases c0 : b4 = 0
  · obtain ⟨lst, hl, he⟩ := drawAl_j0 b hb (wrap64 (b1 + b2)) b1 b5 p5 h5 hp5
    refine ⟨wrap64 (b1 + b2), b1, b5, lst, hl, Ev.bind e0 ?_⟩
    simp only [e1, e2, e3, e4, Option.bind_some, e5]
    exact ev_t c0 he
  by_cases c1 : b4 = 1
  · obtain ⟨lst, hl, he⟩ := drawAl_j0 b hb b6 b1 (wrap64 (1 + b3)) p6 h6 hp6
    refine ⟨b6, b1, wrap64 (1 + b3), lst, hl, Ev.bind e0 ?_⟩
    simp only [e1, e2, e3, e4, Option.bind_some, e6]
    exact ev_f c0 (ev_t c1 he)
  by_cases c2 : b4 = 2
  · obtain ⟨lst, hl, he⟩ := drawAl_j0 b hb (wrap64 (b1 + b2)) (wrap64 ((-1000001) + b7)) (wrap64 (1 + b3)) p7 h7 hp7
    refine ⟨wrap64 (b1 + b2), wrap64 ((-1000001) + b7), wrap64 (1 + b3), lst, hl, Ev.bind e0 ?_⟩
    simp only [e1, e2, e3, e4, Option.bind_some, e7]
    exact ev_f c0 (ev_f c1 (ev_t c2 he))
  · obtain ⟨lst, hl, he⟩ := drawAl_j0 b hb (wrap64 (b1 + b2)) b1 (wrap64 (1 + b3)) p4 h4 hp4
    refine ⟨wrap64 (b1 + b2), b1, wrap64 (1 + b3), lst, hl, Ev.bind e0 ?_⟩
    simp only [e1, e2, e3, e4, Option.bind_some]
    exact ev_f c0 (ev_f c1 (ev_f c2 he))

end Go.Proofs.Ytlmohamgfindmab.Pu
