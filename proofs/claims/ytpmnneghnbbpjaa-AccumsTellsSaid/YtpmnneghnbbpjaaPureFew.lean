/- The reference's Check answers as the program's does, and the chapter's examples hold: on whole numbers alone, without a condition. -/
import Derived.Test.YtpmnneghnbbpjaaPureJoin
import Derived.Test.YtpmnneghnbbpjaaMyx6
import Derived.Test.YtpmnneghnbbpjaaMyx8
namespace Go.Proofs.Ytpmnneghnbbpjaa.PureJoin
open Go.RowKit Go.Proofs.Ytpmnneghnbbpjaa.My Go.Proofs.YtpmnneghnbbpjaaW.PrintWords Go.Proofs.YtpmnneghnbbpjaaW.PrintLast Go.Proofs.YtpmnneghnbbpjaaW.PrintMore

theorem j2_eq (k : Nat) (b : Bool) (n s l h : Int) : tailwaterref16_Check.j2 (k + 1) b n s l h = some (if b = true ∨ l > h then 8 else 0) := by
  simp only [tailwaterref16_Check.j2]
  by_cases hb : b = true
  · rw [if_pos hb, if_pos (.inl hb)]
  · rw [if_neg hb]
    by_cases hl : l > h
    · rw [if_pos hl, if_pos (.inr hl)]
    · rw [if_neg hl, if_neg (by rintro (z | z); exact hb z; exact hl z)]

theorem j1_eq (k : Nat) (b : Bool) (n s l h : Int) : tailwaterref16_Check.j1 (k + 2) b n s l h = some (if b = true ∨ (n = 1 ∧ (s ≠ l ∨ l ≠ h)) ∨ l > h then 8 else 0) := by
  simp only [tailwaterref16_Check.j1]
  by_cases hb : b = true
  · rw [if_pos hb, if_pos (.inl hb)]
  · rw [if_neg hb]
    by_cases hn : n = 1
    · rw [if_pos hn]
      by_cases hs : s = l
      · rw [if_pos hs, j2_eq]
        congr 1
        by_cases hl : l = h
        · have e : (l != h) = false := by simpa using hl
          rw [e, if_neg (by simp; omega), if_neg (by simp [hb]; omega)]
        · have e : (l != h) = true := by simpa using hl
          rw [e, if_pos (.inl rfl), if_pos (.inr (.inl ⟨hn, .inr hl⟩))]
      · rw [if_neg hs, j2_eq, if_pos (.inl rfl), if_pos (.inr (.inl ⟨hn, .inl hs⟩))]
    · rw [if_neg hn, j2_eq]
      congr 1
      by_cases hl : l > h
      · rw [if_pos (.inr hl), if_pos (.inr (.inr hl))]
      · rw [if_neg (by simp; omega), if_neg (by simp [hb, hn]; omega)]

theorem rcheck_eq (k : Nat) (n s l h : Int) : tailwaterref16_Check.f (k + 3) n s l h = some (chk (n, s, l, h)) := by
  unfold tailwaterref16_Check.f
  by_cases h0 : n < 0
  · rw [if_pos h0]
    simp only [tailwaterref16_Check.j0, decide_eq_true_eq]
    rw [if_pos h0, chk_no (by unfold ok; simp only; omega)]
  · rw [if_neg h0]
    simp only [tailwaterref16_Check.j0, decide_eq_true_eq]
    by_cases h1 : n > 1073741824
    · rw [if_pos h1, chk_no (by unfold ok; simp only; omega)]
    · rw [if_neg h1]
      by_cases hz : n = 0
      · rw [if_pos hz]
        by_cases a : s = 0
        · rw [if_pos a]
          by_cases b : l = 0
          · rw [if_pos b, j1_eq]
            by_cases c : h = 0
            · subst hz a b c
              rw [chk_yes ok_zero]; rfl
            · have e : (h != 0) = true := by simpa using c
              rw [e, if_pos (.inl rfl), chk_no (by unfold ok; simp only; omega)]
          · rw [if_neg b, j1_eq, if_pos (.inl rfl), chk_no (by unfold ok; simp only; omega)]
        · rw [if_neg a, j1_eq, if_pos (.inl rfl), chk_no (by unfold ok; simp only; omega)]
      · rw [if_neg hz, j1_eq]
        by_cases hok : ok (n, s, l, h)
        · rw [chk_yes hok, if_neg (by unfold ok at hok; simp only at hok; simp; omega)]
        · rw [chk_no hok, if_pos (by unfold ok at hok; simp only at hok; simp; omega)]

/-- Valid, and of few values. -/
def few (a : T) : Bool := decide (ok a) && decide (a.1 ≤ 268435456)
theorem few_eq (k : Nat) (a : T) : tailwaterlaw16_few.f (k + 3) a.1 a.2.1 a.2.2.1 a.2.2.2 = some (few a) := by
  unfold tailwaterlaw16_few.f few
  rw [rcheck_eq]
  simp only [Option.bind_some]
  by_cases h : ok a
  · rw [chk_yes h, if_pos rfl]; simp [h]
  · rw [chk_no h, if_neg (by decide)]; simp [h]

theorem alive_eq : tailwaterlaw16_alive.f 6 = some true := by decide +kernel

end Go.Proofs.Ytpmnneghnbbpjaa.PureJoin
