/- The law AccumsParts, on whole numbers alone: for any two accumulators the law's function answers true. No condition besides the numbers' own ranges. -/
import Derived.Test.YtpmnneghnbbpjaaPureFew
import Derived.Test.YtpmnneghnbbpjaaPureValue
import Derived.Test.YtpmnneghnbbpjaaMyx25
namespace Go.Proofs.Ytpmnneghnbbpjaa.PureParts
open Go.RowKit Go.Proofs.Ytpmnneghnbbpjaa.My Go.Proofs.Ytpmnneghnbbpjaa.PureJoin Go.Proofs.YtpmnneghnbbpjaaW.PrintWords Go.Proofs.YtpmnneghnbbpjaaW.PrintLast Go.Proofs.YtpmnneghnbbpjaaW.PrintMore

theorem few_ok {a : T} (h : few a = true) : ok a ∧ a.1 ≤ 268435456 := by
  unfold few at h
  simpa using h

theorem parts_rest (a b : T) (ha : few a = true) (hb : few b = true) (hz : a.1 ≠ 0) :
    tailwaterlaw16_AccumsParts.j0 10 true false a.1 a.2.1 a.2.2.1 a.2.2.2 b.1 b.2.1 b.2.2.1 b.2.2.2 = some true := by
  obtain ⟨oa, na⟩ := few_ok ha
  obtain ⟨ob, nb⟩ := few_ok hb
  have oab := jn_ok a b oa ob (by omega)
  have nab := jn_n a b
  have ra := ok_n oa
  have rb := ok_n ob
  have nz : (jn a b).1 ≠ 0 := by omega
  simp only [tailwaterlaw16_AccumsParts.j0]
  rw [if_neg (by decide), join_eq 8 a b oa ob (by omega)]
  unfold joined
  simp only [Option.bind_some]
  rw [value_eq 7 3 (jn a b), value_eq 7 4 (jn a b), value_eq 7 1 (jn a b), val_of 3 _ (by decide) (by decide) oab nz, val_of 4 _ (by decide) (by decide) oab nz, val_of 1 _ (by decide) (by decide) oab nz]
  simp (config := { decide := true }) only [Option.bind_some, if_true, if_false]
  have hw : wrap64 (a.1 + b.1) = a.1 + b.1 := by unfold wrap64; omega
  have hl : (jn a b).2.2.1 ≤ a.2.2.1 ∧ (jn a b).2.2.2 ≥ a.2.2.2 ∧ (b.1 = 0 → (jn a b).2.2.1 = a.2.2.1 ∧ (jn a b).2.2.2 = a.2.2.2) := by
    unfold jn
    rw [if_neg hz]
    split
    · exact ⟨Int.le_refl _, Int.le_refl _, fun _ => ⟨rfl, rfl⟩⟩
    · rename_i hb0
      refine ⟨?_, ?_, fun h => absurd h hb0⟩
      · simp only [mn]; split <;> omega
      · simp only [mx]; split <;> omega
  rw [if_pos hl.1, if_pos hl.2.1, hw, if_pos nab]
  by_cases h0 : b.1 > 0
  · rw [if_pos h0]
  · rw [if_neg h0, if_pos (hl.2.2 (by omega)).1, (hl.2.2 (by omega)).2]
    simp

theorem AccumsParts : tailwaterlaw16_AccumsParts.Pure := by
  intro a0 a1 a2 a3 b0 b1 b2 b3 _ _ _ _ _ _ _ _
  refine ⟨10, ?_⟩
  have al : tailwaterlaw16_alive.f 10 = some true := by decide +kernel
  have fa := few_eq 7 (a0, a1, a2, a3)
  have fb := few_eq 7 (b0, b1, b2, b3)
  simp only at fa fb
  unfold tailwaterlaw16_AccumsParts.f
  rw [al]
  simp only [Option.bind_some]
  rw [fa]
  simp only [Option.bind_some]
  have out : tailwaterlaw16_AccumsParts.j0 10 true true a0 a1 a2 a3 b0 b1 b2 b3 = some true := by simp only [tailwaterlaw16_AccumsParts.j0]; rfl
  cases ha : few (a0, a1, a2, a3)
  · rw [if_neg (by decide)]; exact out
  · rw [if_pos rfl, fb]
    simp only [Option.bind_some]
    cases hb : few (b0, b1, b2, b3)
    · rw [if_neg (by decide)]; exact out
    · rw [if_pos rfl]
      by_cases hz : a0 = 0
      · rw [if_pos hz]; exact out
      · rw [if_neg hz]
        exact parts_rest (a0, a1, a2, a3) (b0, b1, b2, b3) ha hb hz

end Go.Proofs.Ytpmnneghnbbpjaa.PureParts
