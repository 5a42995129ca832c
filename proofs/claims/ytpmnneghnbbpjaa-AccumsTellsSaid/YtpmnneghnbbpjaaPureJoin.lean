/- Accumulators as four whole numbers: what Check, Join and Of answer, and that Join makes a commutative monoid of the valid ones whose numbers together do not pass 2^30. Conditions stand in each lemma. -/
import Derived.Test.YtpmnneghnbbpjaaMyx3
import Derived.Test.YtpmnneghnbbpjaaMyx4
namespace Go.Proofs.Ytpmnneghnbbpjaa.PureJoin
open Go.RowKit Go.Proofs.Ytpmnneghnbbpjaa.My Go.Proofs.YtpmnneghnbbpjaaW.PrintWords Go.Proofs.YtpmnneghnbbpjaaW.PrintLast Go.Proofs.YtpmnneghnbbpjaaW.PrintMore

abbrev T := Int × Int × Int × Int
def ok (a : T) : Prop := (a.1 = 0 ∧ a.2.1 = 0 ∧ a.2.2.1 = 0 ∧ a.2.2.2 = 0) ∨ (a.1 = 1 ∧ a.2.1 = a.2.2.1 ∧ a.2.1 = a.2.2.2) ∨ (1 < a.1 ∧ a.1 ≤ 1073741824 ∧ a.2.2.1 ≤ a.2.2.2)
instance (a : T) : Decidable (ok a) := by unfold ok; infer_instance
def chk (a : T) : Int := if ok a then 0 else 8
theorem chk_yes {a : T} (h : ok a) : chk a = 0 := if_pos h
theorem chk_no {a : T} (h : ¬ ok a) : chk a = 8 := if_neg h
theorem ok_of_chk {a : T} (h : chk a = 0) : ok a := by
  unfold chk at h
  split at h
  · assumption
  · omega

theorem check_eq (k : Nat) (n s l h : Int) : accums_Check.f (k + 1) n s l h = some (chk (n, s, l, h)) := by
  unfold accums_Check.f
  by_cases h0 : n = 0
  · rw [if_pos h0]
    by_cases hz : s = 0 ∧ l = 0 ∧ h = 0
    · obtain ⟨rfl, rfl, rfl⟩ := hz
      subst h0
      rw [chk_yes (.inl ⟨rfl, rfl, rfl, rfl⟩)]; rfl
    · rw [chk_no (by unfold ok; simp only; omega), if_neg (by simp only [Bool.and_eq_true, beq_iff_eq]; omega)]
  · rw [if_neg h0]
    by_cases h1 : n = 1
    · rw [if_pos h1]
      by_cases a : s = l
      · rw [if_pos a]
        by_cases b : s = h
        · rw [if_pos b, chk_yes (.inr (.inl ⟨h1, a, b⟩))]
        · rw [if_neg b, chk_no (by unfold ok; simp only; omega)]
      · rw [if_neg a, chk_no (by unfold ok; simp only; omega)]
    · rw [if_neg h1]
      by_cases h2 : n > 1
      · rw [if_pos h2]
        simp only [accums_Check.j0, decide_eq_true_eq]
        by_cases h3 : n ≤ 1073741824
        · rw [if_pos h3]
          by_cases h4 : l ≤ h
          · rw [if_pos h4, chk_yes (.inr (.inr ⟨h2, h3, h4⟩))]
          · rw [if_neg h4, chk_no (by unfold ok; simp only; omega)]
        · rw [if_neg h3, chk_no (by unfold ok; simp only; omega)]; rfl
      · rw [if_neg h2, chk_no (by unfold ok; simp only; omega)]; rfl

/-- Two accumulators together. -/
def jn (a b : T) : T := if a.1 = 0 then b else if b.1 = 0 then a else (a.1 + b.1, wrap64 (a.2.1 + b.2.1), mn a.2.2.1 b.2.2.1, mx a.2.2.2 b.2.2.2)
def joined (a b : T) : Option (Int × Int × Int × Int × Int) := some ((jn a b).1, (jn a b).2.1, (jn a b).2.2.1, (jn a b).2.2.2, 0)

theorem ok_n {a : T} (h : ok a) : 0 ≤ a.1 ∧ a.1 ≤ 1073741824 := by unfold ok at h; omega

theorem join_eq (k : Nat) (a b : T) (ha : ok a) (hb : ok b) (hn : a.1 + b.1 ≤ 1073741824) :
    accums_Join.f (k + 1) a.1 a.2.1 a.2.2.1 a.2.2.2 b.1 b.2.1 b.2.2.1 b.2.2.2 = joined a b := by
  obtain ⟨an, az, al, ah⟩ := a
  obtain ⟨bn, bs, bl, bh⟩ := b
  have na := ok_n ha
  have nb := ok_n hb
  simp only at hn na nb
  unfold accums_Join.f joined jn
  simp only [check_eq, Option.bind_some, chk_yes ha, chk_yes hb, if_true]
  simp only [accums_Join.j0]
  have hw : wrap64 (an + bn) = an + bn := by unfold wrap64; omega
  rw [hw, if_neg (by simp), if_neg (by omega)]
  by_cases h0 : an = 0
  · simp only [if_pos h0]
  · by_cases h1 : bn = 0
    · simp only [if_neg h0, if_pos h1]
    · simp only [if_neg h0, if_neg h1]

theorem join_bad (k : Nat) (a b : T) (h : ¬ ok a ∨ ¬ ok b) :
    accums_Join.f (k + 1) a.1 a.2.1 a.2.2.1 a.2.2.2 b.1 b.2.1 b.2.2.1 b.2.2.2 = some (0, 0, 0, 0, 8) := by
  obtain ⟨an, az, al, ah⟩ := a
  obtain ⟨bn, bs, bl, bh⟩ := b
  unfold accums_Join.f
  simp only [check_eq, Option.bind_some]
  by_cases ha : ok (an, az, al, ah)
  · have hb : ¬ ok (bn, bs, bl, bh) := h.resolve_left (fun z => z ha)
    rw [chk_yes ha, chk_no hb, if_pos rfl]
    simp only [accums_Join.j0]
    rfl
  · rw [chk_no ha, if_neg (by decide)]
    simp only [accums_Join.j0]
    rfl

theorem join_many (k : Nat) (a b : T) (ha : ok a) (hb : ok b) (hn : ¬ a.1 + b.1 ≤ 1073741824) :
    accums_Join.f (k + 1) a.1 a.2.1 a.2.2.1 a.2.2.2 b.1 b.2.1 b.2.2.1 b.2.2.2 = some (0, 0, 0, 0, 4) := by
  obtain ⟨an, az, al, ah⟩ := a
  obtain ⟨bn, bs, bl, bh⟩ := b
  have na := ok_n ha
  have nb := ok_n hb
  simp only at hn na nb
  unfold accums_Join.f
  simp only [check_eq, Option.bind_some, chk_yes ha, chk_yes hb, if_true]
  simp only [accums_Join.j0]
  have hw : wrap64 (an + bn) = an + bn := by unfold wrap64; omega
  rw [hw, if_neg (by simp), if_pos (by omega)]

theorem jn_n (a b : T) : (jn a b).1 = a.1 + b.1 := by
  unfold jn
  split
  · omega
  · split
    · omega
    · rfl

theorem jn_ok (a b : T) (ha : ok a) (hb : ok b) (hn : a.1 + b.1 ≤ 1073741824) : ok (jn a b) := by
  unfold jn
  split
  · exact hb
  · split
    · exact ha
    · refine .inr (.inr ⟨?_, ?_, ?_⟩)
      · have := ok_n ha; have := ok_n hb; simp only; omega
      · exact hn
      · simp only [mn, mx]
        unfold ok at ha hb
        split <;> split <;> omega

theorem zero_of {a : T} (ha : ok a) (h : a.1 = 0) : a = (0, 0, 0, 0) := by
  obtain ⟨n, s, l, u⟩ := a
  unfold ok at ha
  simp only at ha h
  simp only [Prod.mk.injEq]
  omega

theorem jn_zero (a : T) (ha : ok a) : jn a (0, 0, 0, 0) = a := by
  unfold jn
  split
  · rename_i h; exact (zero_of ha h).symm
  · rfl

theorem zero_jn (a : T) : jn (0, 0, 0, 0) a = a := rfl

theorem wrap_comm (x y : Int) : wrap64 (x + y) = wrap64 (y + x) := by rw [Int.add_comm]
theorem mn_comm (x y : Int) : mn x y = mn y x := by unfold mn; split <;> split <;> omega
theorem mx_comm (x y : Int) : mx x y = mx y x := by unfold mx; split <;> split <;> omega
theorem wrap_assoc (x y z : Int) : wrap64 (wrap64 (x + y) + z) = wrap64 (x + wrap64 (y + z)) := by unfold wrap64; omega
theorem mn_assoc (x y z : Int) : mn (mn x y) z = mn x (mn y z) := by unfold mn; repeat' split <;> omega
theorem mx_assoc (x y z : Int) : mx (mx x y) z = mx x (mx y z) := by unfold mx; repeat' split <;> omega

theorem jn_comm (a b : T) (ha : ok a) (hb : ok b) : jn a b = jn b a := by
  by_cases h0 : a.1 = 0
  · rw [zero_of ha h0, jn_zero b hb, zero_jn]
  · by_cases h1 : b.1 = 0
    · rw [zero_of hb h1, jn_zero a ha, zero_jn]
    · unfold jn
      rw [if_neg h0, if_neg h1, if_neg h1, if_neg h0, Int.add_comm a.1, wrap_comm a.2.1, mn_comm a.2.2.1, mx_comm a.2.2.2]

theorem jn_assoc (a b c : T) (ha : ok a) (hb : ok b) (hc : ok c) : jn (jn a b) c = jn a (jn b c) := by
  by_cases h0 : a.1 = 0
  · rw [zero_of ha h0, zero_jn, zero_jn]
  · by_cases h1 : b.1 = 0
    · rw [zero_of hb h1, zero_jn, jn_zero a ha]
    · by_cases h2 : c.1 = 0
      · rw [zero_of hc h2, jn_zero b hb]
        have : jn a b = (a.1 + b.1, wrap64 (a.2.1 + b.2.1), mn a.2.2.1 b.2.2.1, mx a.2.2.2 b.2.2.2) := by unfold jn; rw [if_neg h0, if_neg h1]
        rw [this]
        unfold jn
        rw [if_neg (by have := ok_n ha; have := ok_n hb; simp only; omega)]
        rfl
      · have na := ok_n ha
        have nb := ok_n hb
        have nc := ok_n hc
        have e1 : jn a b = (a.1 + b.1, wrap64 (a.2.1 + b.2.1), mn a.2.2.1 b.2.2.1, mx a.2.2.2 b.2.2.2) := by unfold jn; rw [if_neg h0, if_neg h1]
        have e2 : jn b c = (b.1 + c.1, wrap64 (b.2.1 + c.2.1), mn b.2.2.1 c.2.2.1, mx b.2.2.2 c.2.2.2) := by unfold jn; rw [if_neg h1, if_neg h2]
        rw [e1, e2]
        unfold jn
        rw [if_neg (by simp only; omega), if_neg h2, if_neg h0, if_neg (by simp only; omega)]
        simp only [wrap_assoc, mn_assoc, mx_assoc, Int.add_assoc]

theorem of_eq (v : Int) : accums_Of.f v = some (1, v, v, v) := rfl
theorem ok_one (v : Int) : ok (1, v, v, v) := .inr (.inl ⟨rfl, rfl, rfl⟩)
theorem ok_zero : ok (0, 0, 0, 0) := .inl ⟨rfl, rfl, rfl, rfl⟩

end Go.Proofs.Ytpmnneghnbbpjaa.PureJoin
