/- The law IntsDoes, about whole numbers alone: for each kind and any two numbers, the number and the error of the program's Do are those of the reference's Do. No condition besides the kinds' own ranges. -/
import Derived.Test.YtpmnneghnbbpjaaPIntsDoesx2
namespace Go.Proofs.Ytpmnneghnbbpjaa.Pure
open Go.RowKit Go.Proofs.Ytpmnneghnbbpjaa.PIntsDoes Go.Proofs.YtpmnneghnbbpjaaW.PrintWords Go.Proofs.YtpmnneghnbbpjaaW.PrintLast Go.Proofs.YtpmnneghnbbpjaaW.PrintMore

theorem and63 (n : Int) : bits .and .i64 n 63 = n % 64 := by
  have h63 : (BitVec.ofInt 64 63).toNat = 2 ^ 6 - 1 := by decide
  have key : (BitVec.ofInt 64 n &&& BitVec.ofInt 64 63).toNat = (n % ((2 ^ 64 : Nat) : Int)).toNat % 2 ^ 6 := by
    rw [BitVec.toNat_and, BitVec.toNat_ofInt, h63, Nat.and_two_pow_sub_one_eq_mod]
  show IntKind.i64.wrap ((BitVec.ofInt 64 n &&& BitVec.ofInt 64 63).toNat : Nat) = n % 64
  rw [key, IntKind.wrap_i64]
  omega

theorem or_zero (a b : Int) (ha : -9223372036854775808 ≤ a ∧ a ≤ 9223372036854775807) (hb : -9223372036854775808 ≤ b ∧ b ≤ 9223372036854775807) :
    (bits .or .i64 a b != 0) = (a != 0 || b != 0) := by
  have zero (n : Int) (hn : -9223372036854775808 ≤ n ∧ n ≤ 9223372036854775807) : BitVec.ofInt 64 n = 0#64 ↔ n = 0 := by
    constructor
    · intro h
      have h1 := congrArg BitVec.toNat h
      rw [BitVec.toNat_ofInt] at h1
      have h2 : (n % 18446744073709551616).toNat = 0 := h1
      clear h1 h
      omega
    · rintro rfl; rfl
  have e : bits .or .i64 a b = 0 ↔ (a = 0 ∧ b = 0) := by
    show IntKind.i64.wrap ((BitVec.ofInt 64 a ||| BitVec.ofInt 64 b).toNat : Nat) = 0 ↔ _
    rw [IntKind.wrap_i64, ← zero a ha, ← zero b hb, ← BitVec.or_eq_zero_iff]
    show ((BitVec.ofInt 64 a ||| BitVec.ofInt 64 b).toNat + 9223372036854775808 : Int) % 18446744073709551616 - 9223372036854775808 = 0 ↔ (BitVec.ofInt 64 a ||| BitVec.ofInt 64 b) = 0#64
    generalize BitVec.ofInt 64 a ||| BitVec.ofInt 64 b = v
    have hlt : v.toNat < 18446744073709551616 := v.isLt
    constructor
    · intro h
      apply BitVec.eq_of_toNat_eq
      have : v.toNat = 0 := by omega
      rw [this]; rfl
    · intro h
      have : v.toNat = 0 := by rw [h]; rfl
      omega
  rw [Bool.eq_iff_iff]
  simp only [bne_iff_ne, ne_eq, Bool.or_eq_true, e]
  omega

theorem count_eq (b : Int) : tailwaterref01_Count.f b = some (b % 64) := by
  unfold tailwaterref01_Count.f
  have hu : IntKind.u64.wrap b = b % 18446744073709551616 := by
    simp [IntKind.wrap, IntKind.bits, IntKind.signed]
  rw [hu, Int.tmod_eq_emod_of_nonneg (by omega)]
  congr 1
  unfold wrap64
  omega

theorem half_eq (x : Int) (hx : -9223372036854775808 ≤ x ∧ x ≤ 9223372036854775807) : tailwaterref01_half.f x = some (x / 2) := by
  unfold tailwaterref01_half.f
  by_cases h : 0 ≤ x
  · rw [Int.tmod_eq_emod_of_nonneg h, Int.tdiv_eq_ediv_of_nonneg h, if_neg (by omega)]
    congr 1; unfold wrap64; omega
  · have h1 : Int.tmod x 2 = - ((-x) % 2) := by
      rw [show x = -(-x) by omega, Int.neg_tmod, Int.tmod_eq_emod_of_nonneg (by omega), Int.neg_neg]
    have h2 : Int.tdiv x 2 = - ((-x) / 2) := by
      rw [show x = -(-x) by omega, Int.neg_tdiv, Int.tdiv_eq_ediv_of_nonneg (by omega), Int.neg_neg]
    rw [h1, h2]
    by_cases c : (-x) % 2 = 0
    · rw [if_neg (by omega)]; congr 1; unfold wrap64; omega
    · rw [if_pos (by omega)]; congr 1; unfold wrap64; omega

theorem wrap64_step (x y : Int) : wrap64 (wrap64 x + wrap64 y) = wrap64 (x + y) := by unfold wrap64; omega

theorem wrap64_mul (a x : Int) : wrap64 (a * wrap64 x) = wrap64 (a * x) := by
  have : wrap64 x = x - 18446744073709551616 * ((x + 9223372036854775808) / 18446744073709551616) := by unfold wrap64; omega
  rw [this, Int.mul_sub, Int.mul_left_comm]
  unfold wrap64
  omega

theorem power_from (d : Nat) : ∀ (k : Nat) (n i : Int), 0 ≤ i → n ≤ 64 → n - i = d → d < k →
    tailwaterref01_power.l0 k n (wrap64 (2 ^ i.toNat)) i = some (wrap64 (2 ^ n.toNat)) := by
  induction d with
  | zero =>
    intro k n i h0 h1 hd hk
    obtain ⟨k, rfl⟩ : ∃ m, k = m + 1 := ⟨k - 1, by omega⟩
    simp only [tailwaterref01_power.l0]
    rw [if_neg (by omega), show i = n by omega]
  | succ d ih =>
    intro k n i h0 h1 hd hk
    obtain ⟨k, rfl⟩ : ∃ m, k = m + 1 := ⟨k - 1, by omega⟩
    simp only [tailwaterref01_power.l0]
    rw [if_pos (by omega), wrap64_step, show wrap64 (i + 1) = i + 1 by unfold wrap64; omega]
    have e : (2 : Int) ^ i.toNat + 2 ^ i.toNat = 2 ^ (i + 1).toNat := by
      rw [show (i + 1).toNat = i.toNat + 1 by omega, Int.pow_succ]; omega
    rw [e]
    exact ih k n (i + 1) (by omega) h1 (by omega) (by omega)

theorem power_eq (n : Int) (h0 : 0 ≤ n) (h1 : n ≤ 64) : tailwaterref01_power.f 70 n = some (wrap64 (2 ^ n.toNat)) := by
  unfold tailwaterref01_power.f
  have := power_from n.toNat 70 n 0 (by omega) h1 (by omega) (by omega)
  rw [show wrap64 (2 ^ (0 : Int).toNat) = 1 by decide +kernel] at this
  exact this

theorem half_in (x : Int) (hx : -9223372036854775808 ≤ x ∧ x ≤ 9223372036854775807) (j : Nat) :
    -9223372036854775808 ≤ x / 2 ^ j ∧ x / 2 ^ j ≤ 9223372036854775807 := by
  have hp : (0 : Int) < 2 ^ j := Int.pow_pos (by decide)
  have hp1 : (1 : Int) ≤ 2 ^ j := hp
  constructor
  · apply (Int.le_ediv_iff_mul_le hp).2
    have : (-9223372036854775808 : Int) * 2 ^ j ≤ -9223372036854775808 * 1 := Int.mul_le_mul_of_nonpos_left (by decide) hp1
    omega
  · by_cases h : 0 ≤ x
    · have := Int.ediv_le_self (2 ^ j) h; omega
    · have : x / 2 ^ j < 0 := Int.ediv_neg_of_neg_of_pos (by omega) hp
      omega

theorem shr_from (b a : Int) (ha : -9223372036854775808 ≤ a ∧ a ≤ 9223372036854775807) (d : Nat) : ∀ (k : Nat) (i : Int), 0 ≤ i → b % 64 - i = d → d < k →
    tailwaterref01_Given.l0 k (a / 2 ^ i.toNat) b i = some (a / 2 ^ (b % 64).toNat) := by
  induction d with
  | zero =>
    intro k i h0 hd hk
    obtain ⟨k, rfl⟩ : ∃ m, k = m + 1 := ⟨k - 1, by omega⟩
    simp only [tailwaterref01_Given.l0]
    rw [count_eq]; simp only [Option.bind_some]
    rw [if_neg (by omega), show i = b % 64 by omega]
  | succ d ih =>
    intro k i h0 hd hk
    obtain ⟨k, rfl⟩ : ∃ m, k = m + 1 := ⟨k - 1, by omega⟩
    simp only [tailwaterref01_Given.l0]
    rw [count_eq]; simp only [Option.bind_some]
    rw [if_pos (by omega), half_eq _ (half_in a ha _)]; simp only [Option.bind_some]
    rw [show wrap64 (i + 1) = i + 1 by unfold wrap64; omega]
    have e : a / 2 ^ i.toNat / 2 = a / 2 ^ (i + 1).toNat := by
      rw [show (i + 1).toNat = i.toNat + 1 by omega, Int.pow_succ, Int.ediv_ediv_of_nonneg (Int.le_of_lt (Int.pow_pos (by decide)))]
    rw [e]
    exact ih k (i + 1) (by omega) (by omega) (by omega)

theorem shr_eq (a b : Int) (ha : -9223372036854775808 ≤ a ∧ a ≤ 9223372036854775807) : tailwaterref01_Given.l0 70 a b 0 = some (a / 2 ^ (b % 64).toNat) := by
  have := shr_from b a ha (b % 64).toNat 70 0 (by omega) (by omega) (by omega)
  simpa using this

theorem of_wf {n : Int} (h : (Lit.int .i64 n).wf = true) : -9223372036854775808 ≤ n ∧ n ≤ 9223372036854775807 := by
  simpa [Lit.wf, IntKind.min, IntKind.max, IntKind.signed, IntKind.bits] using h

theorem truth_eq (b : Bool) : ints_truth.f b = tailwaterref01_Truth.f b := rfl
theorem truth_or (a b : Int) : (if a = 0 then tailwaterref01_Truth.f (b != 0) else tailwaterref01_Truth.f true) = tailwaterref01_Truth.f (a != 0 || b != 0) := by
  by_cases h : a = 0
  · simp [h]
  · have hb : (a != 0) = true := by simpa using h
    simp [h, hb]

/-- What an operator gives: the program's Do, written out as the reference's. -/
theorem given_eq (c a b : Int) (h1 : 5 ≤ c) (h2 : c ≤ 19) (ha : -9223372036854775808 ≤ a ∧ a ≤ 9223372036854775807) (hb : -9223372036854775808 ≤ b ∧ b ≤ 9223372036854775807) :
    ∃ v, tailwaterref01_Given.f 70 c a b = some v ∧ ints_Do.f c a b = some (v, 0) := by
  have hc : c = 5 ∨ c = 6 ∨ c = 7 ∨ c = 8 ∨ c = 9 ∨ c = 10 ∨ c = 11 ∨ c = 12 ∨ c = 13 ∨ c = 14 ∨ c = 15 ∨ c = 16 ∨ c = 17 ∨ c = 18 ∨ c = 19 := by omega
  have tr (t : Bool) : ∃ v, tailwaterref01_Truth.f t = some v := by cases t <;> exact ⟨_, rfl⟩
  rcases hc with rfl | rfl | rfl | rfl | rfl | rfl | rfl | rfl | rfl | rfl | rfl | rfl | rfl | rfl | rfl
  · exact ⟨_, by simp [tailwaterref01_Given.f]; rfl, by simp [ints_Do.f]⟩
  · obtain ⟨v, hv⟩ := tr (a == 0)
    exact ⟨v, by simp [tailwaterref01_Given.f, hv], by simp [ints_Do.f, truth_eq, hv]⟩
  · exact ⟨_, by simp [tailwaterref01_Given.f]; rfl, by simp [ints_Do.f]⟩
  · exact ⟨_, by simp [tailwaterref01_Given.f]; rfl, by simp [ints_Do.f]⟩
  · exact ⟨_, by simp [tailwaterref01_Given.f]; rfl, by simp [ints_Do.f]⟩
  · refine ⟨_, by simp [tailwaterref01_Given.f, count_eq, power_eq (b % 64) (by omega) (by omega)]; rfl, ?_⟩
    simp only [ints_Do.f, and63]
    simp (config := { decide := true }) only [if_true, if_false]
    rw [if_pos (by omega), wrap64_mul]
    unfold shl
    rw [IntKind.wrap_i64, Nat.min_eq_left (by simp [IntKind.bits]; omega)]
    unfold wrap64
    rfl
  · refine ⟨_, by simp [tailwaterref01_Given.f, shr_eq a b ha]; rfl, ?_⟩
    simp only [ints_Do.f, and63]
    simp (config := { decide := true }) only [if_true, if_false]
    rw [if_pos (by omega)]
    unfold shr
    rw [Nat.min_eq_left (by simp [IntKind.bits]; omega)]
  · obtain ⟨v, hv⟩ := tr (decide (a < b))
    exact ⟨v, by simp [tailwaterref01_Given.f, tailwaterref01_Compare.f, hv], by simp [ints_Do.f, truth_eq, hv]⟩
  · obtain ⟨v, hv⟩ := tr (decide (a ≤ b))
    refine ⟨v, ?_, by simp [ints_Do.f, truth_eq, hv]⟩
    simp only [tailwaterref01_Given.f, tailwaterref01_Compare.f]
    simp (config := { decide := true }) only [if_true, if_false]
    by_cases h : a < b
    · rw [if_pos h]; simp only [Option.bind_some]; rw [show decide (a ≤ b) = true by simp; omega] at hv; rw [hv]; rfl
    · rw [if_neg h]; simp only [Option.bind_some]; rw [show decide (a ≤ b) = (a == b) by rw [Bool.eq_iff_iff]; simp; omega] at hv; rw [hv]; rfl
  · obtain ⟨v, hv⟩ := tr (decide (b < a))
    exact ⟨v, by simp [tailwaterref01_Given.f, tailwaterref01_Compare.f, hv], by simp [ints_Do.f, truth_eq, hv]⟩
  · obtain ⟨v, hv⟩ := tr (decide (b ≤ a))
    refine ⟨v, ?_, by simp [ints_Do.f, truth_eq, hv]⟩
    simp only [tailwaterref01_Given.f, tailwaterref01_Compare.f]
    simp (config := { decide := true }) only [if_true, if_false]
    by_cases h : b < a
    · rw [if_pos h]; simp only [Option.bind_some]; rw [show decide (b ≤ a) = true by simp; omega] at hv; rw [hv]; rfl
    · rw [if_neg h]; simp only [Option.bind_some]; rw [show decide (b ≤ a) = (a == b) by rw [Bool.eq_iff_iff]; simp; omega] at hv; rw [hv]; rfl
  · obtain ⟨v, hv⟩ := tr (a == b)
    exact ⟨v, by simp [tailwaterref01_Given.f, tailwaterref01_Compare.f, hv], by simp [ints_Do.f, truth_eq, hv]⟩
  · obtain ⟨v, hv⟩ := tr (a != b)
    exact ⟨v, by simp [tailwaterref01_Given.f, tailwaterref01_Compare.f, hv], by simp [ints_Do.f, truth_eq, hv]⟩
  · by_cases h : a = 0
    · obtain ⟨v, hv⟩ := tr false
      exact ⟨v, by simp [tailwaterref01_Given.f, h, hv], by simp [ints_Do.f, truth_eq, h, hv]⟩
    · obtain ⟨v, hv⟩ := tr (b != 0)
      exact ⟨v, by simp [tailwaterref01_Given.f, h, hv], by simp [ints_Do.f, truth_eq, h, hv]⟩
  · by_cases h : a = 0
    · obtain ⟨v, hv⟩ := tr (b != 0)
      have ho := or_zero a b ha hb
      subst h
      exact ⟨v, by simp [tailwaterref01_Given.f, hv], by simp [ints_Do.f, truth_eq, ho, hv]⟩
    · obtain ⟨v, hv⟩ := tr true
      have ho := or_zero a b ha hb
      have hb : (a != 0) = true := by simpa using h
      exact ⟨v, by simp [tailwaterref01_Given.f, h, hv], by simp [ints_Do.f, truth_eq, ho, hb, hv]⟩

theorem IntsDoes : tailwaterlaw01_IntsDoes.Pure := by
  intro c a b _ ha hb
  have ha := of_wf ha
  have hb := of_wf hb
  refine ⟨70, ?_⟩
  unfold tailwaterlaw01_IntsDoes.f tailwaterref01_Do.f
  by_cases h1 : c < 5
  · have : ints_Do.f c a b = some (0, 2) := by
      unfold ints_Do.f
      rw [if_neg (by omega), if_neg (by omega), if_neg (by omega), if_neg (by omega), if_neg (by omega), if_neg (by omega), if_neg (by omega), if_neg (by omega), if_neg (by omega), if_neg (by omega), if_neg (by omega), if_neg (by omega), if_neg (by omega), if_neg (by omega), if_neg (by omega)]
    rw [this, if_pos h1]; rfl
  · by_cases h2 : c > 19
    · have : ints_Do.f c a b = some (0, 2) := by
        unfold ints_Do.f
        rw [if_neg (by omega), if_neg (by omega), if_neg (by omega), if_neg (by omega), if_neg (by omega), if_neg (by omega), if_neg (by omega), if_neg (by omega), if_neg (by omega), if_neg (by omega), if_neg (by omega), if_neg (by omega), if_neg (by omega), if_neg (by omega), if_neg (by omega)]
      rw [this, if_neg h1, if_pos h2]; rfl
    · obtain ⟨v, hg, hd⟩ := given_eq c a b (by omega) (by omega) ha hb
      rw [hd, if_neg h1, if_neg h2, hg]
      simp

end Go.Proofs.Ytpmnneghnbbpjaa.Pure
