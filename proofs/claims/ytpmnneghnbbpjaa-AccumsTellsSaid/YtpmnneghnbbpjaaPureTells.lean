/- The law AccumsTells, on whole numbers alone: all four functions answer as the reference's do. No condition besides the numbers' own ranges. -/
import Derived.Test.YtpmnneghnbbpjaaPureFew
import Derived.Test.YtpmnneghnbbpjaaPureValue
import Derived.Test.YtpmnneghnbbpjaaMyx23
namespace Go.Proofs.Ytpmnneghnbbpjaa.PureTells
open Go.RowKit Go.Proofs.Ytpmnneghnbbpjaa.My Go.Proofs.Ytpmnneghnbbpjaa.PureJoin Go.Proofs.YtpmnneghnbbpjaaW.PrintWords Go.Proofs.YtpmnneghnbbpjaaW.PrintLast Go.Proofs.YtpmnneghnbbpjaaW.PrintMore

theorem wrap_in (n : Int) (h : -9223372036854775808 ≤ n ∧ n ≤ 9223372036854775807) : wrap64 n = n := by unfold wrap64; omega
theorem of_wf {n : Int} (h : (Lit.int .i64 n).wf = true) : -9223372036854775808 ≤ n ∧ n ≤ 9223372036854775807 := by
  simpa [Lit.wf, IntKind.min, IntKind.max, IntKind.signed, IntKind.bits] using h
theorem of_wf8 {n : Int} (h : (Lit.int .u8 n).wf = true) : 0 ≤ n ∧ n ≤ 255 := by
  simpa [Lit.wf, IntKind.min, IntKind.max, IntKind.signed, IntKind.bits] using h

theorem given_add (k : Nat) (x y : Int) : tailwaterref01_Given.f k 8 x y = some (wrap64 (x + y)) := by
  unfold tailwaterref01_Given.f
  rw [if_neg (by decide), if_neg (by decide), if_neg (by decide), if_pos rfl]

theorem both_eq (k : Nat) (an az al ah bn bs bl bh : Int) (hn : wrap64 (an + bn) = an + bn) :
    tailwaterref16_Both.f k an az al ah bn bs bl bh = some (jn (an, az, al, ah) (bn, bs, bl, bh)) := by
  unfold tailwaterref16_Both.f jn
  by_cases h0 : an = 0
  · simp only [if_pos h0]
  · by_cases h1 : bn = 0
    · simp only [if_neg h0, if_pos h1]
    · simp only [if_neg h0, if_neg h1]
      rw [given_add]
      simp only [Option.bind_some, hn, mn, mx]
      by_cases h2 : bl < al
      · by_cases h3 : bh > ah
        · rw [if_pos h2, if_pos h3]; congr 4 <;> (split <;> omega)
        · rw [if_pos h2, if_neg h3]; congr 4 <;> (split <;> omega)
      · by_cases h3 : bh > ah
        · rw [if_neg h2, if_pos h3]; congr 4 <;> (split <;> omega)
        · rw [if_neg h2, if_neg h3]; congr 4 <;> (split <;> omega)

theorem rjoin_eq (k : Nat) (an az al ah bn bs bl bh : Int) :
    tailwaterref16_Join.f (k + 4) an az al ah bn bs bl bh = accums_Join.f (k + 1) an az al ah bn bs bl bh := by
  unfold tailwaterref16_Join.f
  rw [rcheck_eq, rcheck_eq]
  simp only [Option.bind_some]
  by_cases ha : ok (an, az, al, ah)
  · rw [chk_yes ha, if_pos rfl]
    by_cases hb : ok (bn, bs, bl, bh)
    · rw [chk_yes hb]
      have na := ok_n ha
      have nb := ok_n hb
      simp only at na nb
      simp only [tailwaterref16_Join.j0]
      rw [if_neg (by decide), wrap_in (1073741824 - bn) (by omega)]
      by_cases hn : an + bn ≤ 1073741824
      · have hj := join_eq k (an, az, al, ah) (bn, bs, bl, bh) ha hb hn
        simp only at hj
        rw [hj, if_neg (by omega), both_eq _ _ _ _ _ _ _ _ _ (wrap_in _ (by omega))]
        rfl
      · have hj := join_many k (an, az, al, ah) (bn, bs, bl, bh) ha hb hn
        simp only at hj
        rw [hj, if_pos (by omega)]
    · have hj := join_bad k (an, az, al, ah) (bn, bs, bl, bh) (.inr hb)
      simp only at hj
      rw [hj, chk_no hb]
      rfl
  · have hj := join_bad k (an, az, al, ah) (bn, bs, bl, bh) (.inl ha)
    simp only at hj
    rw [hj, chk_no ha, if_neg (by decide)]
    rfl

theorem rvalue_eq (k : Nat) (g : Int) (hg : 0 ≤ g) (an az al ah : Int) : tailwaterref16_Value.f (k + 4) g an az al ah = some (val g (an, az, al, ah)) := by
  unfold tailwaterref16_Value.f val
  by_cases h0 : g = 0
  · rw [if_pos h0, if_pos (.inl (by omega))]
    simp only [tailwaterref16_Value.j0]
    rfl
  · rw [if_neg h0]
    simp only [tailwaterref16_Value.j0, decide_eq_true_eq]
    by_cases h4 : g > 4
    · rw [if_pos h4, if_pos (.inr h4)]
    · rw [if_neg h4, rcheck_eq, if_neg (show ¬ (g < 1 ∨ g > 4) by omega)]
      simp only [Option.bind_some]
      by_cases ho : ok (an, az, al, ah)
      · rw [chk_yes ho, if_pos rfl, if_neg (show ¬ ¬ ok (an, az, al, ah) from fun z => z ho)]
        by_cases hz : an = 0
        · rw [if_pos hz, if_pos hz]
        · rw [if_neg hz, if_neg hz]
          unfold tailwaterref16_Told.f
          by_cases e1 : g = 1
          · rw [if_pos e1, if_pos e1]; rfl
          · rw [if_neg e1, if_neg e1]
            by_cases e2 : g = 2
            · rw [if_pos e2, if_pos e2]; rfl
            · rw [if_neg e2, if_neg e2]
              by_cases e3 : g = 3
              · rw [if_pos e3, if_pos e3]; rfl
              · rw [if_neg e3, if_neg e3]; rfl
      · rw [chk_no ho, if_neg (by decide), if_pos ho]

theorem rof_eq (k : Nat) (v : Int) (hv : -9223372036854775808 ≤ v ∧ v ≤ 9223372036854775807) : tailwaterref16_Of.f (k + 1) v = some (1, v, v, v) := by
  unfold tailwaterref16_Of.f tailwaterref16_With.f
  rw [if_pos rfl]
  simp only [tailwaterref16_With.j0]
  rw [if_neg (by omega), if_neg (by omega), given_add, wrap_in (0 + v) (by omega), Int.zero_add, wrap_in (0 + 1) (by decide)]
  rfl

theorem holds : tailwaterlaw16_AccumsTells.Pure := by
  intro an az al ah bn bs bl bh v g w0 w1 w2 w3 w4 w5 w6 w7 wv wg
  refine ⟨10 + 4, ?_⟩
  unfold tailwaterlaw16_AccumsTells.f
  have hj : ∃ r, accums_Join.f (10 + 4) an az al ah bn bs bl bh = some r ∧ tailwaterref16_Join.f (10 + 4) an az al ah bn bs bl bh = some r := by
    by_cases ha : ok (an, az, al, ah)
    · by_cases hb : ok (bn, bs, bl, bh)
      · by_cases hn : an + bn ≤ 1073741824
        · exact ⟨_, join_eq 13 (an, az, al, ah) (bn, bs, bl, bh) ha hb hn, (rjoin_eq 10 an az al ah bn bs bl bh).trans (join_eq 10 (an, az, al, ah) (bn, bs, bl, bh) ha hb hn)⟩
        · exact ⟨_, join_many 13 (an, az, al, ah) (bn, bs, bl, bh) ha hb hn, (rjoin_eq 10 an az al ah bn bs bl bh).trans (join_many 10 (an, az, al, ah) (bn, bs, bl, bh) ha hb hn)⟩
      · exact ⟨_, join_bad 13 (an, az, al, ah) (bn, bs, bl, bh) (.inr hb), (rjoin_eq 10 an az al ah bn bs bl bh).trans (join_bad 10 (an, az, al, ah) (bn, bs, bl, bh) (.inr hb))⟩
    · exact ⟨_, join_bad 13 (an, az, al, ah) (bn, bs, bl, bh) (.inl ha), (rjoin_eq 10 an az al ah bn bs bl bh).trans (join_bad 10 (an, az, al, ah) (bn, bs, bl, bh) (.inl ha))⟩
  obtain ⟨r, j1, j2⟩ := hj
  have hv := value_eq 12 g (an, az, al, ah)
  simp only at hv
  rw [j1, j2, hv, rvalue_eq 10 g (of_wf8 wg).1, check_eq 13, rcheck_eq 11, rof_eq 13 v (of_wf wv), of_eq]
  simp only [Option.bind_some, beq_self_eq_true, Bool.and_self, if_true]
end Go.Proofs.Ytpmnneghnbbpjaa.PureTells
