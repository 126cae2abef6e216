/- The pure statement of FnExactCartsOk, proved: for every input that the opening lets in, the printed law comes to true. -/
import Derived.Test.YtlmohamgfindmabPu0
import Derived.Test.YtlmohamgfindmabPBx0
import Derived.Test.YtlmohamgfindmabPBx8
import Derived.Test.YtlmohamgfindmabPBx9
import Derived.Test.YtlmohamgfindmabPBx10
import Derived.Test.YtlmohamgfindmabPBx11
import Derived.Test.YtlmohamgfindmabPBx12
import Derived.Test.YtlmohamgfindmabPBx15
import Derived.Test.YtlmohamgfindmabBQBase
import Derived.Test.YtlmohamgfindmabBQL3
import Derived.Test.YtlmohamgfindmabBQFloor
import Derived.Test.YtlmohamgfindmabBQConvIntS
import Derived.Test.YtlmohamgfindmabBQConvCartS
import Derived.Test.YtlmohamgfindmabStFnExactCartsOk
namespace Go.Proofs.Ytlmohamgfindmab.Pure
open Go.RowKit Go.Proofs.Ytlmohamgfindmab Go.Proofs.Ytlmohamgfindmab.PB Go.Proofs.Ytlmohamgfindmab.Pu Go.Proofs.YtlmohamgfindmabW.PrintWords Go.Proofs.YtlmohamgfindmabW.PrintLast Go.Proofs.YtlmohamgfindmabW.PrintMore
set_option linter.unusedVariables false
set_option linter.unusedSimpArgs false
theorem szCarts_ev (a b : Int) (l : List Int) (cs : List S146) (hl : l.length ≤ 9223372036854775807) (hc : cs.length ≤ 9223372036854775807) : ∃ s, laws_szFloor.f a b l 1048576 = some s ∧ (0 ≤ s → l.length ≤ 1048576 ∧ ∃ t, laws_szCartS.f cs s = some t ∧ (0 ≤ t → cs.length ≤ 1048576)) := by
  simp only [laws_szFloor.f, laws_szIntS.f, laws_szCartS.f]
  rw [wr (by omega)]
  by_cases h : 1048576 - (l.length : Int) < 0
  · rw [if_pos h]
    simp only [Option.bind_some]
    rw [if_pos (by omega)]
    exact ⟨-1, rfl, fun h => by omega⟩
  · rw [if_neg h]
    simp only [Option.bind_some]
    rw [if_neg h]
    refine ⟨_, rfl, fun _ => ⟨by omega, ?_⟩⟩
    rw [wr (by omega)]
    by_cases c : 1048576 - (l.length : Int) - (cs.length : Int) < 0
    · rw [if_pos c]; exact ⟨-1, rfl, fun h => by omega⟩
    · rw [if_neg c]; exact ⟨_, rfl, fun _ => by omega⟩
theorem carts_l1 (a b : Int) (l : List Int) (cs : List S144) (hc : cs.length ≤ 1048576) (i : Nat) (hi : i < cs.length) (v : Bool) (hv : Ev (fun k => spec_CartsOk.l0 k cs (wrap64 ((i : Int) + 1)) a b l) v) :
    ∀ j : Nat, j ≤ i → Ev (fun k => spec_CartsOk.l1 k cs i j a b l) (!(((cs.take i).drop j).any fun x => x.f0 == (rd_T144 cs i).f0) && v) := by
  have hti : (cs.take i).length = i := by rw [List.length_take]; omega
  refine down ?_ ?_
  · refine Ev.step (fun _ => rfl) ?_
    simp only [spec_CartsOk.l1]
    rw [List.drop_eq_nil_of_le (by omega)]
    exact ev_f (by omega) (by simpa using hv)
  · intro j hj ih
    refine Ev.step (fun _ => rfl) ?_
    simp only [spec_CartsOk.l1]
    rw [List.drop_eq_getElem_cons (by omega), List.any_cons, List.getElem_take]
    have e : rd_T144 cs (j : Int) = cs[j] := by simp [rd_T144, show j < cs.length by omega]
    rw [e, wr (x := (j : Int) + 1) (by omega)]
    refine ev_t (by omega) (ev_t (by omega) (ev_t (by omega) (ev_t (by omega) (ev_t (by omega) ?_))))
    by_cases h : cs[j].f0 = (rd_T144 cs i).f0
    · refine ev_t h ?_
      simpa [h] using Ev.now false
    · refine ev_f h ?_
      have h' : (cs[j].f0 == (rd_T144 cs i).f0) = false := by simpa using h
      rw [h', Bool.false_or]
      exact ih
theorem carts_l0 (a b : Int) (l : List Int) (cs : List S144) (hc : cs.length ≤ 1048576) (ha : 1 ≤ a ∧ a ≤ 10) (hb : 1 ≤ b ∧ b ≤ 10) (hl : (l.length : Int) = wrap64 (a * b)) : ∀ i : Nat, i ≤ cs.length → ∃ v, Ev (fun k => spec_CartsOk.l0 k cs i a b l) v ∧ Ev (fun k => impl_CartsOk.l0 k cs cs cs.length i a b l) v := by
  have hab : a * b ≤ 100 := Int.le_trans (Int.mul_le_mul ha.2 hb.2 (by omega) (by omega)) (by omega)
  have hab1 : 1 * 1 ≤ a * b := Int.mul_le_mul ha.1 hb.1 (by omega) (by omega)
  have hw := hl
  rw [wr (by omega)] at hl
  have place : ∀ p, impl_Floor_place.f a b l p = some (inB p 0 (a * b - 1)) := by
    intro p
    simp only [impl_Floor_place.f, in_eq, Option.bind_some]
    rw [wr (x := a * b) (by omega), wr (by omega)]
  refine down ?_ ?_
  · refine ⟨true, Ev.step (fun _ => rfl) ?_, Ev.step (fun _ => rfl) ?_⟩
    · simp only [spec_CartsOk.l0]; exact ev_f (by omega) (Ev.now _)
    · simp only [impl_CartsOk.l0]; exact ev_f (by omega) (Ev.now _)
  · rintro i hi ⟨v, v1, v2⟩
    have g1 := carts_l1 a b l cs hc i hi v (by rw [wr (by omega)]; exact v1) 0 (Nat.zero_le _)
    rw [List.drop_zero] at g1
    have s2 : Ev (fun k => spec_CartsOk.j2 k cs i true a b l) false := Ev.step (fun _ => rfl) (by simp only [spec_CartsOk.j2]; exact Ev.now _)
    have s3 : Ev (fun k => spec_CartsOk.j2 k cs i false a b l) (!((cs.take i).any fun x => x.f0 == (rd_T144 cs i).f0) && v) := Ev.step (fun _ => rfl) (by simp only [spec_CartsOk.j2]; exact ev_f (by simp) g1)
    have key : ∀ y, y = rd_T144 cs i → Ev (fun k => (cf_impl_CartsOk_1_375.f (cs.take (i : Int).toNat) y.f0 y.f1).bind fun t381 => (if t381 = true then (some false) else (impl_CartsOk.l0 k cs cs cs.length (wrap64 ((i : Int) + 1)) a b l))) (!((cs.take i).any fun x => x.f0 == (rd_T144 cs i).f0) && v) := by
      rintro y rfl
      simp only [cf_impl_CartsOk_1_375.f, Option.bind_some, Int.toNat_natCast]
      rw [wr (by omega)]
      cases (cs.take i).any fun x => x.f0 == (rd_T144 cs i).f0 with
      | true => exact ev_t rfl (by simpa using Ev.now false)
      | false => exact ev_f (by simp) (by simpa using v2)
    have key := key _ rfl
    obtain ⟨y, hy⟩ : ∃ y, y = rd_T144 cs i := ⟨_, rfl⟩
    rw [← hy] at g1 s3 key
    have hr : l.length - 1 = a * b - 1 := by omega
    cases hp : inB y.f0 0 (a * b - 1) with
    | false =>
      refine ⟨false, Ev.step (fun _ => rfl) ?_, Ev.step (fun _ => rfl) ?_⟩
      · simp only [spec_CartsOk.l0, ← hy, l1In_eq, Option.bind_some]
        rw [wr (x := (l.length : Int) - 1) (by omega), hr, hp]
        exact ev_t (by omega) (ev_t (by omega) (ev_f (by simp) s2))
      · simp only [impl_CartsOk.l0, ← hy, place, hp, Option.bind_some]
        exact ev_t (by omega) (ev_t (by omega) (ev_t (by omega) (ev_f (by simp) (Ev.now _))))
    | true =>
      by_cases hg : y.f1 = -1
      · refine ⟨(!((cs.take i).any fun x => x.f0 == y.f0) && v), Ev.step (fun _ => rfl) ?_, Ev.step (fun _ => rfl) ?_⟩
        · simp only [spec_CartsOk.l0, ← hy, l1In_eq, Option.bind_some]
          rw [wr (x := (l.length : Int) - 1) (by omega), hr, hp, show inB y.f1 (-1) (a * b - 1) = true from inB_t.2 (by omega)]
          exact ev_t (by omega) (ev_t (by omega) (ev_t (by first | rfl | trivial) s3))
        · simp only [impl_CartsOk.l0, ← hy, place, hp, Option.bind_some]
          exact ev_t (by omega) (ev_t (by omega) (ev_t (by omega) (ev_t (by first | rfl | trivial) (ev_t hg (ev_t (by omega) key)))))
      · have e : inB y.f1 (-1) (a * b - 1) = inB y.f1 0 (a * b - 1) := by
          rw [Bool.eq_iff_iff, inB_t, inB_t]; omega
        cases hq : inB y.f1 0 (a * b - 1) with
        | true =>
          refine ⟨(!((cs.take i).any fun x => x.f0 == y.f0) && v), Ev.step (fun _ => rfl) ?_, Ev.step (fun _ => rfl) ?_⟩
          · simp only [spec_CartsOk.l0, ← hy, l1In_eq, Option.bind_some]
            rw [wr (x := (l.length : Int) - 1) (by omega), hr, hp, e, hq]
            exact ev_t (by omega) (ev_t (by omega) (ev_t (by first | rfl | trivial) s3))
          · simp only [impl_CartsOk.l0, ← hy, place, hp, hq, Option.bind_some]
            exact ev_t (by omega) (ev_t (by omega) (ev_t (by omega) (ev_t (by first | rfl | trivial) (ev_f hg (ev_t (by first | rfl | trivial) (ev_t (by omega) key))))))
        | false =>
          refine ⟨false, Ev.step (fun _ => rfl) ?_, Ev.step (fun _ => rfl) ?_⟩
          · simp only [spec_CartsOk.l0, ← hy, l1In_eq, Option.bind_some]
            rw [wr (x := (l.length : Int) - 1) (by omega), hr, hp, e, hq]
            exact ev_t (by omega) (ev_t (by omega) (ev_t (by first | rfl | trivial) s2))
          · simp only [impl_CartsOk.l0, ← hy, place, hp, hq, Option.bind_some]
            exact ev_t (by omega) (ev_t (by omega) (ev_t (by omega) (ev_t (by first | rfl | trivial) (ev_f hg (ev_f (by simp) (Ev.now _))))))
theorem carts_same (a b : Int) (l : List Int) (cs : List S144) (hl : l.length ≤ 1048576) (hc : cs.length ≤ 1048576) : ∃ v, Ev (fun k => spec_CartsOk.f k a b l cs) v ∧ Ev (fun k => impl_CartsOk.f k a b l cs) v := by
  have t1 : Ev (fun k => spec_CartsOk.j0 k cs true a b l) false := Ev.step (fun _ => rfl) (by simp only [spec_CartsOk.j0]; exact Ev.now _)
  have t2 : Ev (fun k => impl_CartsOk.j0 k cs true a b l) false := Ev.step (fun _ => rfl) (by simp only [impl_CartsOk.j0]; exact Ev.now _)
  have f1 := floor1 a b l (by omega)
  have f2 := floor2 a b l
  simp only [spec_CartsOk.f, impl_CartsOk.f]
  cases h : (inB a 1 10 && (inB b 1 10 && (decide ((l.length : Int) = wrap64 (a * b)) && l.all fun x => inB x 0 15))) with
  | false =>
    rw [h] at f1 f2
    simp only [f2, Option.bind_some]
    exact ⟨false, Ev.bind f1 (ev_f (by simp) t1), ev_f (by simp) t2⟩
  | true =>
    rw [h] at f1 f2
    simp only [f2, Option.bind_some]
    simp only [Bool.and_eq_true, inB_t, decide_eq_true_eq] at h
    by_cases hn : (cs.length : Int) > 12
    · exact ⟨false, Ev.bind f1 (ev_t rfl (by rw [decide_eq_true hn]; exact t1)), ev_t (by first | rfl | trivial) (by rw [decide_eq_true hn]; exact t2)⟩
    · obtain ⟨v, v1, v2⟩ := carts_l0 a b l cs hc h.1 h.2.1 h.2.2.1 0 (Nat.zero_le _)
      have u1 : Ev (fun k => spec_CartsOk.j0 k cs false a b l) v := Ev.step (fun _ => rfl) (by simp only [spec_CartsOk.j0]; exact ev_f (by simp) v1)
      have u2 : Ev (fun k => impl_CartsOk.j0 k cs false a b l) v := Ev.step (fun _ => rfl) (by simp only [impl_CartsOk.j0]; exact ev_f (by simp) v2)
      exact ⟨v, Ev.bind f1 (ev_t rfl (by rw [decide_eq_false hn]; exact u1)), ev_t (by first | rfl | trivial) (by rw [decide_eq_false hn]; exact u2)⟩
theorem P_CartsOk : ∀ (a b : Int) (l : List Int) (cs : List S146), l.length ≤ maxLen → cs.length ≤ maxLen → ∃ k, laws_FnExactCartsOk.f k a b l cs = some true := by
  intro a b l cs hl hc
  refine Ev.rounds ?_
  unfold maxLen at hl hc
  simp only [laws_FnExactCartsOk.f]
  obtain ⟨s, hs, hs2⟩ := szCarts_ev a b l cs (by omega) (by omega)
  simp only [hs, Option.bind_some]
  by_cases h : s < 0
  · exact ev_t h (Ev.now _)
  refine ev_f h ?_
  obtain ⟨h1, t, ht, ht2⟩ := hs2 (by omega)
  simp only [ht, Option.bind_some]
  by_cases h' : t < 0
  · exact ev_t h' (Ev.now _)
  refine ev_f h' ?_
  have h2 := ht2 (by omega)
  have hf := toFloor_ev a b l (by omega)
  have hcs := toCartS_ev cs (by omega)
  have h3 : (cs.map cCart).length ≤ 1048576 := by simp; omega
  obtain ⟨v, v1, v2⟩ := carts_same a b l (cs.map cCart) h1 h3
  exact Ev.bind hf (Ev.bind hcs (Ev.bind v1 (Ev.bind hf (Ev.bind hcs (Ev.bind v2 (ev_f (by simp) (Ev.bind hf (Ev.bind (eqFloor_ev a b l (by omega)) (ev_t rfl (Ev.bind hcs (Ev.bind (eqCartS_ev _ (by omega)) (ev_t rfl (Ev.now _)))))))))))))
theorem FnExactCartsOk : laws_FnExactCartsOk.Pure := fun x l h h2 => P_CartsOk _ _ _ l h.2.2.1 h2.1

end Go.Proofs.Ytlmohamgfindmab.Pure
