/- The pure statement of FnExactQuickest, proved: for every input that the opening lets in, the printed law comes to true. -/
import Derived.Test.YthbmpegaogfibaaPu0
import Derived.Test.YthbmpegaogfibaaPEx0
import Derived.Test.YthbmpegaogfibaaPEx4
import Derived.Test.YthbmpegaogfibaaPEx10
import Derived.Test.YthbmpegaogfibaaPEx14
import Derived.Test.YthbmpegaogfibaaEQBase
import Derived.Test.YthbmpegaogfibaaEQL3
import Derived.Test.YthbmpegaogfibaaEQConvIntS
import Derived.Test.YthbmpegaogfibaaEQConvClosedS
import Derived.Test.YthbmpegaogfibaaEQSeas
import Derived.Test.YthbmpegaogfibaaEQNexts
import Derived.Test.YthbmpegaogfibaaEQReach
import Derived.Test.YthbmpegaogfibaaEQQuickS
import Derived.Test.YthbmpegaogfibaaStFnExactQuickest
namespace Go.Proofs.Ythbmpegaogfibaa.Pure
open Go.RowKit Go.Proofs.Ythbmpegaogfibaa Go.Proofs.Ythbmpegaogfibaa.PE Go.Proofs.Ythbmpegaogfibaa.Pu Go.Proofs.YthbmpegaogfibaaW.PrintWords Go.Proofs.YthbmpegaogfibaaW.PrintLast Go.Proofs.YthbmpegaogfibaaW.PrintMore
set_option linter.unusedVariables false
set_option linter.unusedSimpArgs false
theorem quick_same (a b : Int) (l : List Int) (f : List S52) (s t most : Int) (hl : l.length ≤ 1048576) (hf : f.length ≤ 1048576) : ∃ v : Int × Bool, Ev (fun k => spec_Quickest.f k a b l f s t most) v ∧ Ev (fun k => impl_Quickest.f k a b l f s t most) v := by
  have h1 := sea1 a b l f hl hf
  have h2 := sea2 a b l f hl hf
  have jf : Ev (fun k => spec_Quickest.j0 k s t most true a b l f) (-1, false) := Ev.step (fun _ => rfl) (by simp only [spec_Quickest.j0]; exact ev_t (by first | rfl | trivial) (Ev.now _))
  simp only [spec_Quickest.f, impl_Quickest.f]
  cases hsea : seaB a b l f with
  | false =>
    rw [hsea] at h1 h2
    exact ⟨(-1, false), Ev.bind h1 (ev_f (by simp) jf), Ev.bind h2 (ev_f (by simp) (Ev.now _))⟩
  | true =>
    rw [hsea] at h1 h2
    obtain ⟨ha1, ha2, hb1, hb2, hlab, hab, hab1, _, hc⟩ := seaB_t hsea
    have p1 := pl1 a b l f s hab1 hab
    have p2 := pl2 a b l f s hlab hab1 hab
    have q1 := pl1 a b l f t hab1 hab
    have q2 := pl2 a b l f t hlab hab1 hab
    cases hp : inB s 0 (a * b - 1) with
    | false =>
      rw [hp] at p1 p2
      refine ⟨(-1, false), Ev.bind h1 (ev_t rfl ?_), Ev.bind h2 (ev_t rfl ?_)⟩
      · simp only [p1, Option.bind_some]; exact ev_f (by simp) jf
      · simp only [p2, Option.bind_some]; exact ev_f (by simp) (Ev.now _)
    | true =>
    cases hq : inB t 0 (a * b - 1) with
    | false =>
      rw [hp] at p1 p2
      rw [hq] at q1 q2
      refine ⟨(-1, false), Ev.bind h1 (ev_t rfl ?_), Ev.bind h2 (ev_t rfl ?_)⟩
      · simp only [p1, q1, Option.bind_some]; exact ev_t (by first | rfl | trivial) (ev_f (by simp) jf)
      · simp only [p2, q2, Option.bind_some]; exact ev_t (by first | rfl | trivial) (ev_f (by simp) (Ev.now _))
    | true =>
    rw [hp] at p1 p2
    rw [hq] at q1 q2
    have hs := inB_t.1 hp
    have ht := inB_t.1 hq
    cases hm : inB most 0 200 with
    | false =>
      refine ⟨(-1, false), Ev.bind h1 (ev_t rfl ?_), Ev.bind h2 (ev_t rfl ?_)⟩
      · simp only [p1, q1, l1In_eq, hm, Option.bind_some]; exact ev_t (by first | rfl | trivial) (ev_t (by first | rfl | trivial) jf)
      · simp only [p2, q2, in_eq, hm, Option.bind_some]; exact ev_t (by first | rfl | trivial) (ev_t (by first | rfl | trivial) (ev_f (by simp) (Ev.now _)))
    | true =>
    have hmo := inB_t.1 hm
    obtain ⟨d, hd⟩ : ∃ d : Nat, (0 : Int) + d = most := ⟨most.toNat, by omega⟩
    have hok := may_ev a b l f s 0 ha1 hf ⟨hs.1, by omega⟩
    refine ⟨resV (fun st => Rch a l f s st t) 0 d, Ev.bind h1 (ev_t rfl ?_), Ev.bind h2 (ev_t rfl ?_)⟩
    · simp only [p1, q1, l1In_eq, hm, Option.bind_some]
      refine ev_t (by first | rfl | trivial) (ev_t (by first | rfl | trivial) ?_)
      have h0 := l0_ok a b l f s t most hsea hf ⟨ht.1, by omega⟩ hmo.2 d 0 hd
      refine Ev.step (fun _ => rfl) ?_
      simp only [spec_Quickest.j0, Int.toNat_natCast, List.length_replicate, Option.bind_some]
      have hset : (List.replicate l.length false).set s.toNat (okV a l f s 0) = (List.range l.length).map fun i : Nat => Rch a l f s 0 (i : Int) := by
        rw [← map_false, set_map]
        refine map_congr _ _ _ fun i _ => ?_
        by_cases e : i = s.toNat
        · have e2 : ((i : Int) == s) = true := beq_iff_eq.2 (by omega)
          simp only [if_pos e, Rch, e2, Bool.true_and]
        · have e2 : ((i : Int) == s) = false := beq_eq_false_iff_ne.2 (by omega)
          simp only [if_neg e, Rch, e2, Bool.false_and]
      have j1 : Ev (fun k => spec_Quickest.j1 k t most ((List.replicate l.length false).set s.toNat (okV a l f s 0)) a b l f) (resV (fun st => Rch a l f s st t) 0 d) := Ev.step (fun _ => rfl) (by
        simp only [spec_Quickest.j1]
        rw [hset]
        exact h0)
      refine ev_f (by simp) (ev_t (by omega) (ev_t (by omega) (ev_t hs.1 (ev_t (by omega) ?_))))
      by_cases c : rd l s > 0
      · refine ev_t c (Ev.bind (shut_ev a b l f s 0 ha1 hf).1 (ev_t (by omega) ?_))
        have e : (!shutV a f s 0) = okV a l f s 0 := by simp [okV, c]
        rw [e]; exact j1
      · refine ev_f c (ev_t (by omega) ?_)
        have e : okV a l f s 0 = false := by simp [okV, c]
        rw [e] at j1; exact j1
    · simp only [p2, q2, in_eq, hm, Option.bind_some]
      refine ev_t (by first | rfl | trivial) (ev_t (by first | rfl | trivial) (ev_t (by first | rfl | trivial) (ev_t ⟨by omega, hmo.2, ht.1, by omega⟩ (Ev.bind hok ?_))))
      obtain ⟨K, hK⟩ := loop_ok a b l f s t most hsea hf ⟨ht.1, by omega⟩ hmo.2 d 0 (if okV a l f s 0 = true then [s] else []) hd (fun x => by
        cases c : okV a l f s 0 with
        | true =>
          simp only [if_true, List.mem_singleton, Rch, c, Bool.and_true, beq_iff_eq]
          constructor
          · rintro rfl; exact ⟨⟨hs.1, by omega⟩, rfl⟩
          · exact fun h => h.2
        | false => simp [Rch, c])
      exact ⟨K, fun k hk => hK k k hk hk⟩
theorem P_Quickest : ∀ (a b : Int) (l : List Int) (f : List S54) (s t most : Int), l.length ≤ maxLen → f.length ≤ maxLen → ∃ k, laws_FnExactQuickest.f k a b l f s t most = some true := by
  intro a b l f s t most hl hf
  refine Ev.rounds ?_
  unfold maxLen at hl hf
  simp only [laws_FnExactQuickest.f]
  obtain ⟨z, hz, hz2⟩ := szSea_ev a b l f (by omega) (by omega)
  simp only [hz, Option.bind_some]
  by_cases h : z < 0
  · exact ev_t h (Ev.now _)
  · obtain ⟨l1, l2⟩ := hz2 (by omega)
    have hto := toSea_ev a b l f l1 l2
    have l3 : (f.map cClosed).length ≤ 1048576 := by simpa using l2
    obtain ⟨v, v1, v2⟩ := quick_same a b l (f.map cClosed) s t most l1 l3
    have heq := eqSea_ev a b l (f.map cClosed) l1 l3
    have j0 : Ev (fun k => laws_FnExactQuickest.j0 k false a b l f a b l (f.map cClosed)) true := Ev.step (fun _ => rfl) (by
      simp only [laws_FnExactQuickest.j0]
      exact ev_f (by simp) (Ev.bind hto (Ev.bind heq (ev_t rfl (Ev.now _)))))
    refine ev_f h (Ev.bind hto (Ev.bind v1 (Ev.bind hto (Ev.bind v2 (ev_t rfl ?_)))))
    simpa using j0
theorem FnExactQuickest : laws_FnExactQuickest.Pure := fun x s t m g _ _ _ => P_Quickest x.f0 x.f1 x.f2 x.f3 s t m g.2.2.1.1 g.2.2.2.1

end Go.Proofs.Ythbmpegaogfibaa.Pure
