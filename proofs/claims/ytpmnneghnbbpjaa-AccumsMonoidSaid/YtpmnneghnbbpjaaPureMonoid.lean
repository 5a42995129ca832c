/- The law AccumsMonoid, on whole numbers alone: for any three accumulators the law's function answers true. No condition besides the numbers' own ranges. -/
import Derived.Test.YtpmnneghnbbpjaaPureFew
import Derived.Test.YtpmnneghnbbpjaaMyx9
namespace Go.Proofs.Ytpmnneghnbbpjaa.Pure
open Go.RowKit Go.Proofs.Ytpmnneghnbbpjaa.My Go.Proofs.Ytpmnneghnbbpjaa.PureJoin Go.Proofs.YtpmnneghnbbpjaaW.PrintWords Go.Proofs.YtpmnneghnbbpjaaW.PrintLast Go.Proofs.YtpmnneghnbbpjaaW.PrintMore

theorem few_ok {a : T} (h : few a = true) : ok a ∧ a.1 ≤ 268435456 := by
  unfold few at h
  simpa using h

theorem monoid_rest (a b c : T) (ha : few a = true) (hb : few b = true) (hc : few c = true) :
    tailwaterlaw16_AccumsMonoid.j0 10 true false a.1 a.2.1 a.2.2.1 a.2.2.2 b.1 b.2.1 b.2.2.1 b.2.2.2 c.1 c.2.1 c.2.2.1 c.2.2.2 = some true := by
  obtain ⟨oa, na⟩ := few_ok ha
  obtain ⟨ob, nb⟩ := few_ok hb
  obtain ⟨oc, nc⟩ := few_ok hc
  have oab := jn_ok a b oa ob (by omega)
  have obc := jn_ok b c ob oc (by omega)
  have nab := jn_n a b
  have nbc := jn_n b c
  have oabc := jn_ok (jn a b) c oab oc (by omega)
  simp only [tailwaterlaw16_AccumsMonoid.j0]
  rw [if_neg (by decide), join_eq 8 a b oa ob (by omega)]
  unfold joined
  simp only [Option.bind_some]
  rw [join_eq 8 b a ob oa (by omega)]
  unfold joined
  simp only [Option.bind_some]
  rw [join_eq 8 b c ob oc (by omega)]
  unfold joined
  simp only [Option.bind_some]
  rw [join_eq 8 (jn a b) c oab oc (by omega)]
  unfold joined
  simp only [Option.bind_some]
  rw [join_eq 8 a (jn b c) oa obc (by omega)]
  unfold joined
  simp only [Option.bind_some]
  rw [join_eq 8 a (0, 0, 0, 0) oa ok_zero (by simp only; omega)]
  unfold joined
  simp only [Option.bind_some]
  rw [join_eq 8 (0, 0, 0, 0) a ok_zero oa (by simp only; omega)]
  unfold joined
  simp only [Option.bind_some]
  rw [jn_comm b a ob oa, jn_assoc a b c oa ob oc, jn_zero a oa, zero_jn]
  have h0 := check_eq 8 (jn a (jn b c)).1 (jn a (jn b c)).2.1 (jn a (jn b c)).2.2.1 (jn a (jn b c)).2.2.2
  rw [jn_assoc a b c oa ob oc] at oabc
  rw [chk_yes oabc] at h0
  rw [h0]
  simp

theorem AccumsMonoid : tailwaterlaw16_AccumsMonoid.Pure := by
  intro a0 a1 a2 a3 b0 b1 b2 b3 c0 c1 c2 c3 _ _ _ _ _ _ _ _ _ _ _ _
  refine ⟨10, ?_⟩
  have al : tailwaterlaw16_alive.f 10 = some true := by decide +kernel
  have fa := few_eq 7 (a0, a1, a2, a3)
  have fb := few_eq 7 (b0, b1, b2, b3)
  have fc := few_eq 7 (c0, c1, c2, c3)
  simp only at fa fb fc
  unfold tailwaterlaw16_AccumsMonoid.f
  rw [al]
  simp only [Option.bind_some]
  rw [fa]
  simp only [Option.bind_some]
  have out : tailwaterlaw16_AccumsMonoid.j0 10 true true a0 a1 a2 a3 b0 b1 b2 b3 c0 c1 c2 c3 = some true := by simp only [tailwaterlaw16_AccumsMonoid.j0]; rfl
  cases ha : few (a0, a1, a2, a3)
  · rw [if_neg (by decide)]; exact out
  · rw [if_pos rfl, fb]
    simp only [Option.bind_some]
    cases hb : few (b0, b1, b2, b3)
    · rw [if_neg (by decide)]; exact out
    · rw [if_pos rfl, fc]
      simp only [Option.bind_some]
      cases hc : few (c0, c1, c2, c3)
      · rw [if_neg (by decide)]; exact out
      · rw [if_pos rfl]
        exact monoid_rest (a0, a1, a2, a3) (b0, b1, b2, b3) (c0, c1, c2, c3) ha hb hc

end Go.Proofs.Ytpmnneghnbbpjaa.Pure
