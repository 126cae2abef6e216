/- The pure statement of FnExactCheapest, proved: for every input that the opening lets in, the printed law comes to true. -/
import Derived.Test.YtfeaabdighopbabPu0
import Derived.Test.YtfeaabdighopbabPCx0
import Derived.Test.YtfeaabdighopbabPCx1
import Derived.Test.YtfeaabdighopbabPCx13
import Derived.Test.YtfeaabdighopbabPCx14
import Derived.Test.YtfeaabdighopbabCQBase
import Derived.Test.YtfeaabdighopbabCQL3
import Derived.Test.YtfeaabdighopbabCQConvIntS
import Derived.Test.YtfeaabdighopbabCQConvClosedS
import Derived.Test.YtfeaabdighopbabCQSeas
import Derived.Test.YtfeaabdighopbabCQNexts
import Derived.Test.YtfeaabdighopbabCQPlaces
import Derived.Test.YtfeaabdighopbabCQPaths
import Derived.Test.YtfeaabdighopbabCQPathS
import Derived.Test.YtfeaabdighopbabCQMarks
import Derived.Test.YtfeaabdighopbabStFnExactCheapest
namespace Go.Proofs.Ytfeaabdighopbab.Pure
open Go.RowKit Go.Proofs.Ytfeaabdighopbab Go.Proofs.Ytfeaabdighopbab.PC Go.Proofs.Ytfeaabdighopbab.Pu Go.Proofs.YtfeaabdighopbabW.PrintWords Go.Proofs.YtfeaabdighopbabW.PrintLast Go.Proofs.YtfeaabdighopbabW.PrintMore
set_option linter.unusedVariables false
set_option linter.unusedSimpArgs false
theorem ex_t {α : Type} {c : Prop} [Decidable c] {f g : Nat → Option α} {P : α → Prop} (hc : c) (h : ∃ y, Ev f y ∧ P y) : ∃ y, Ev (fun k => if c then f k else g k) y ∧ P y := by
  obtain ⟨y, h1, h2⟩ := h
  exact ⟨y, ev_t hc h1, h2⟩
theorem ex_b {α β : Type} {A : β} {F : Nat → β → Option α} {P : α → Prop} (Q : β → Prop) (hA : Q A) (h : ∀ y, Q y → ∃ r, Ev (fun k => F k y) r ∧ P r) : ∃ r, Ev (fun k => (some A).bind (F k)) r ∧ P r := h A hA
theorem markClosed_ev (l : List S143) (hl : l.length ≤ 1048576) (x : Int) (hx : 0 ≤ x ∧ x ≤ 2000000) : ∃ y, Ev (fun k => laws_markClosedS.f k l x) y ∧ 0 ≤ y.1 := by
  have key : ∀ i : Nat, i ≤ l.length → ∀ (o : List S143) (x : Int), o.length = l.length → 0 ≤ x → x ≤ 2000000 + 6 * i → ∃ y, Ev (fun k => laws_markClosedS.l0 k o x i) y ∧ 0 ≤ y.1 := by
    refine down ?_ ?_
    · intro o x ho hx hx2
      refine ⟨(x, o), Ev.step (fun _ => rfl) ?_, hx⟩
      simp only [laws_markClosedS.l0]
      exact ev_f (by omega) (Ev.now _)
    · intro i hi ih o x ho hx hx2
      have c1 : (i : Int) < (o.length : Int) := by omega
      have c2 : 0 ≤ (i : Int) := by omega
      have k1 : 0 ≤ x + 6 := by omega
      have k2 : x + 6 ≤ 2000000 + 6 * ((i + 1 : Nat) : Int) := by omega
      have e7 : wrap64 ((i : Int) + 1) = ((i + 1 : Nat) : Int) := by rw [wr (by omega)]; omega
      have e1 : wrap64 (x + 1) = x + 1 := wr (by clear e7; omega)
      have e2 : wrap64 (x + 1 + 1) = x + 2 := by clear e7 e1; rw [wr (by omega)]; omega
      have e3 : wrap64 (x + 2 + 1) = x + 3 := by clear e7 e1 e2; rw [wr (by omega)]; omega
      have e4 : wrap64 (x + 3 + 1) = x + 4 := by clear e7 e1 e2 e3; rw [wr (by omega)]; omega
      have e5 : wrap64 (x + 4 + 1) = x + 5 := by clear e7 e1 e2 e3 e4; rw [wr (by omega)]; omega
      have e6 : wrap64 (x + 5 + 1) = x + 6 := by clear e7 e1 e2 e3 e4 e5; rw [wr (by omega)]; omega
      have h0 : ∃ y, Ev (fun k => laws_markClosedS.l0 (k + 1) o x i) y ∧ 0 ≤ y.1 := by
        simp only [laws_markClosedS.l0]
        refine ex_t c1 (ex_t c2 ?_)
        refine ex_b (fun y : List S143 => y.length = l.length) ?_ ?_
        · simp [ho]
        intro y1 h1
        try dsimp only
        refine ex_b (fun y : List S143 => y.length = l.length) ?_ ?_
        · simp [h1]
        intro y2 h2
        try dsimp only
        refine ex_b (fun y : List S143 => y.length = l.length) ?_ ?_
        · simp [h2]
        intro y3 h3
        try dsimp only
        refine ex_b (fun y : List S143 => y.length = l.length) ?_ ?_
        · simp [h3]
        intro y4 h4
        try dsimp only
        refine ex_b (fun y : List S143 => y.length = l.length) ?_ ?_
        · simp [h4]
        intro y5 h5
        try dsimp only
        rw [e1, e2, e3, e4, e5, e6, e7]
        exact ih _ (x + 6) (by simp [h5]) k1 k2
      obtain ⟨y, h1, h2⟩ := h0
      exact ⟨y, Ev.step (fun _ => rfl) h1, h2⟩
  simp only [laws_markClosedS.f]
  exact key 0 (Nat.zero_le _) l x rfl hx.1 (by omega)
theorem P_Cheapest : ∀ (a b : Int) (l : List Int) (f : List S145) (s : Int), l.length ≤ maxLen → f.length ≤ maxLen → ∃ k, laws_FnExactCheapest.f k a b l f s = some true := by
  intro a b l f s hl hf
  refine Ev.rounds ?_
  unfold maxLen at hl hf
  simp only [laws_FnExactCheapest.f]
  obtain ⟨z, hz, hz2⟩ := szSea_ev a b l f (by omega) (by omega)
  simp only [hz, Option.bind_some]
  by_cases h : z < 0
  · exact ev_t h (Ev.now _)
  · obtain ⟨l1, l2⟩ := hz2 (by omega)
    have hto := toSea_ev a b l f l1 l2
    have l3 : (f.map cClosed).length ≤ 1048576 := by simpa using l2
    obtain ⟨v, v1, v2, v3⟩ := cheap_same a b l (f.map cClosed) s l1 l3
    have heq := eqSea_ev a b l (f.map cClosed) l1 l3
    have hev : Ev (fun k => laws_eqIntS.f k v.1 v.1) true := eqIntS_ev v.1 (by omega)
    have hm1 := markIntS_ev l (by omega)
    obtain ⟨y, hy1, hy2⟩ := markClosed_ev (f.map cClosed) l3 ((l.length : Int) + 1) (by omega)
    have hms : Ev (fun k => laws_markSea.f k a b l (f.map cClosed) 1) (y.1, ones l.length, y.2) := by
      simp only [laws_markSea.f]
      exact Ev.bind hm1 (Ev.bind hy1 (Ev.now _))
    have hmv := markIntS_ev v.1 (by omega)
    have hh := heldIntS_ev v.1.length (by omega)
    have j2 : Ev (fun k => laws_FnExactCheapest.j2 k (ones v.1.length) ((v.1.length : Int) + 1) false) true := Ev.step (fun _ => rfl) (by
      simp only [laws_FnExactCheapest.j2]
      exact ev_f (by simp) (Ev.bind hh (ev_f (by omega) (ev_t rfl (Ev.now _)))))
    have j1 : Ev (fun k => laws_FnExactCheapest.j1 k s v.1 v.2 v.1 false a b l f) true := Ev.step (fun _ => rfl) (by
      simp only [laws_FnExactCheapest.j1]
      refine ev_f (by simp) (Ev.bind hmv (Ev.bind hh (ev_f (by omega) (ev_t rfl (Ev.bind hto (Ev.bind v2 (Ev.bind hev (ev_t rfl ?_))))))))
      simpa using j2)
    have j0 : Ev (fun k => laws_FnExactCheapest.j0 k s v.1 v.2 v.1 v.2 false a b l f a b l (f.map cClosed)) true := Ev.step (fun _ => rfl) (by
      simp only [laws_FnExactCheapest.j0]
      refine ev_f (by simp) (Ev.bind hto (Ev.bind heq (ev_t rfl (Ev.bind hms (ev_f (by omega) (Ev.bind hev (ev_t rfl ?_)))))))
      simpa using j1)
    refine ev_f h (Ev.bind hto (Ev.bind v1 (Ev.bind hto (Ev.bind v2 (Ev.bind hev (ev_t rfl ?_))))))
    simpa using j0
theorem FnExactCheapest : laws_FnExactCheapest.Pure := fun x s g _ => P_Cheapest x.f0 x.f1 x.f2 x.f3 s g.2.2.1.1 g.2.2.2.1

end Go.Proofs.Ytfeaabdighopbab.Pure
