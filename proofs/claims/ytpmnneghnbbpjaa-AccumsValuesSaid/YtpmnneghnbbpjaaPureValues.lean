/- The law AccumsValues, on whole numbers alone: for any list of values and any place where it is cut the law's function answers true. Conditions: those of the list's own form (its length, its numbers' ranges). -/
import Derived.Test.YtpmnneghnbbpjaaPureValue
import Derived.Test.YtpmnneghnbbpjaaMyx29
namespace Go.Proofs.Ytpmnneghnbbpjaa.PureValues
open Go.RowKit Go.Proofs.Ytpmnneghnbbpjaa.My Go.Proofs.Ytpmnneghnbbpjaa.PureJoin Go.Proofs.YtpmnneghnbbpjaaW.PrintWords Go.Proofs.YtpmnneghnbbpjaaW.PrintLast Go.Proofs.YtpmnneghnbbpjaaW.PrintMore

/-- That of some values, joined one by one behind another. -/
def fold (a : T) (l : List Int) : T := l.foldl (fun a v => jn a (1, v, v, v)) a

theorem fold_nil (a : T) : fold a [] = a := rfl
theorem fold_cons (a : T) (v : Int) (l : List Int) : fold a (v :: l) = fold (jn a (1, v, v, v)) l := rfl

theorem fold_ok (l : List Int) : ∀ a : T, ok a → a.1 + l.length ≤ 1073741824 → ok (fold a l) ∧ (fold a l).1 = a.1 + l.length := by
  induction l with
  | nil => intro a h _; exact ⟨h, by simp [fold]⟩
  | cons v l ih =>
    intro a h hn
    simp only [List.length_cons] at hn
    have h1 := jn_ok a (1, v, v, v) h (ok_one v) (by simp only; omega)
    have h2 := jn_n a (1, v, v, v)
    simp only at h2
    obtain ⟨i1, i2⟩ := ih (jn a (1, v, v, v)) h1 (by omega)
    refine ⟨i1, ?_⟩
    show (fold (jn a (1, v, v, v)) l).1 = _
    rw [i2, h2]
    simp only [List.length_cons]
    omega

theorem jn_fold (l : List Int) : ∀ a b : T, ok a → ok b → a.1 + b.1 + l.length ≤ 1073741824 → fold (jn a b) l = jn a (fold b l) := by
  induction l with
  | nil => intro a b _ _ _; rfl
  | cons v l ih =>
    intro a b ha hb hn
    simp only [List.length_cons] at hn
    have ra := ok_n ha
    have h2 := jn_n b (1, v, v, v)
    simp only at h2
    show fold (jn (jn a b) (1, v, v, v)) l = jn a (fold (jn b (1, v, v, v)) l)
    rw [jn_assoc a b _ ha hb (ok_one v)]
    exact ih a (jn b (1, v, v, v)) ha (jn_ok b _ hb (ok_one v) (by simp only; omega)) (by omega)

theorem rd_drop (l : List Int) (i : Nat) (h : i < l.length) : l.drop i = rd l i :: l.drop (i + 1) := by
  rw [List.drop_eq_getElem_cons h]
  simp [rd, List.getD_eq_getElem?_getD, h]

theorem join_pos (k : Nat) (hk : 0 < k) (a b : T) (ha : ok a) (hb : ok b) (hn : a.1 + b.1 ≤ 1073741824) :
    accums_Join.f k a.1 a.2.1 a.2.2.1 a.2.2.2 b.1 b.2.1 b.2.2.1 b.2.2.2 = joined a b := by
  obtain ⟨m, rfl⟩ : ∃ m, k = m + 1 := ⟨k - 1, by omega⟩
  exact join_eq m a b ha hb hn

theorem of_from (d : Nat) : ∀ (k : Nat) (l : List Int) (i : Nat) (a : T), l.length - i = d → i ≤ l.length → d + 1 < k → l.length ≤ 60 → ok a → a.1 + d ≤ 1073741824 →
    tailwaterlaw16_of.l0 k l i a.1 a.2.1 a.2.2.1 a.2.2.2 = some ((fold a (l.drop i)).1, (fold a (l.drop i)).2.1, (fold a (l.drop i)).2.2.1, (fold a (l.drop i)).2.2.2, true) := by
  induction d with
  | zero =>
    intro k l i a hd hi hk hq ha hn
    obtain ⟨k, rfl⟩ : ∃ m, k = m + 1 := ⟨k - 1, by omega⟩
    simp only [tailwaterlaw16_of.l0]
    rw [if_neg (by omega), show l.drop i = [] by rw [List.drop_eq_nil_iff]; omega, fold_nil]
  | succ d ih =>
    intro k l i a hd hi hk hq ha hn
    obtain ⟨k, rfl⟩ : ∃ m, k = m + 1 := ⟨k - 1, by omega⟩
    simp only [tailwaterlaw16_of.l0]
    rw [if_pos (by omega), if_pos (by omega), of_eq]
    simp only [Option.bind_some]
    have hj := join_pos k (by omega) a (1, rd l i, rd l i, rd l i) ha (ok_one _) (by simp only; omega)
    simp only at hj
    rw [hj]
    unfold joined
    simp only [Option.bind_some]
    have h2 := jn_n a (1, rd l i, rd l i, rd l i)
    simp only at h2
    rw [if_pos trivial, show wrap64 ((i : Int) + 1) = ((i + 1 : Nat) : Int) by unfold wrap64; omega, rd_drop l i (by omega), fold_cons]
    exact ih k l (i + 1) (jn a (1, rd l i, rd l i, rd l i)) (by omega) (by omega) (by omega) hq (jn_ok a _ ha (ok_one _) (by simp only; omega)) (by omega)

theorem of_all (k : Nat) (l : List Int) (hk : l.length + 1 < k) (hl : l.length ≤ 60) :
    tailwaterlaw16_of.f k l = some ((fold (0, 0, 0, 0) l).1, (fold (0, 0, 0, 0) l).2.1, (fold (0, 0, 0, 0) l).2.2.1, (fold (0, 0, 0, 0) l).2.2.2, true) := by
  have := of_from l.length k l 0 (0, 0, 0, 0) (by omega) (by omega) hk hl ok_zero (by simp only; omega)
  simpa [tailwaterlaw16_of.f] using this

theorem both (l : List Int) (c : Nat) (hc : c ≤ l.length) (hl : l.length ≤ 60) :
    jn (fold (0, 0, 0, 0) (l.drop c)) (fold (0, 0, 0, 0) (l.take c)) = fold (0, 0, 0, 0) l := by
  obtain ⟨o1, n1⟩ := fold_ok (l.take c) (0, 0, 0, 0) ok_zero (by simp only [List.length_take]; omega)
  obtain ⟨o2, n2⟩ := fold_ok (l.drop c) (0, 0, 0, 0) ok_zero (by simp only [List.length_drop]; omega)
  simp only [List.length_take, List.length_drop] at n1 n2
  rw [jn_comm _ _ o2 o1, ← jn_fold (l.drop c) _ (0, 0, 0, 0) o1 ok_zero (by simp only [List.length_drop]; omega), jn_zero _ o1]
  unfold fold
  rw [← List.foldl_append, List.take_append_drop]

/-- Where the law's loop stands: what it has summed, its least and greatest one, and that of the values so far. -/
def Stands (l : List Int) (i : Nat) (a : T) (s lo hi : Int) : Prop := (i = 0 ∧ a = (0, 0, 0, 0) ∧ s = 0 ∧ lo = rd l 0 ∧ hi = rd l 0) ∨ (0 < i ∧ a = ((i : Int), s, lo, hi))

theorem stands_step (l : List Int) (i : Nat) (a : T) (s lo hi : Int) (h : Stands l i a s lo hi) (hw : -9223372036854775808 ≤ rd l i ∧ rd l i ≤ 9223372036854775807) :
    Stands l (i + 1) (jn a (1, rd l i, rd l i, rd l i)) (wrap64 (s + rd l i)) (mn lo (rd l i)) (mx hi (rd l i)) := by
  rcases h with ⟨rfl, rfl, rfl, rfl, rfl⟩ | ⟨hi0, rfl⟩
  · refine .inr ⟨by omega, ?_⟩
    rw [zero_jn]
    simp only [Prod.mk.injEq]
    refine ⟨by omega, ?_, ?_, ?_⟩
    · have hw' : -9223372036854775808 ≤ rd l 0 ∧ rd l 0 ≤ 9223372036854775807 := hw
      show rd l 0 = wrap64 (0 + rd l 0)
      unfold wrap64; omega
    · show rd l 0 = mn (rd l 0) (rd l 0)
      unfold mn; split <;> rfl
    · show rd l 0 = mx (rd l 0) (rd l 0)
      unfold mx; split <;> rfl
  · refine .inr ⟨by omega, ?_⟩
    unfold jn
    rw [if_neg (by simp only; omega), if_neg (show ¬ (1 : Int) = 0 by decide)]
    simp only [Prod.mk.injEq, and_true]
    omega

theorem do_add (a b : Int) : ints_Do.f 8 a b = some (wrap64 (a + b), 0) := rfl

theorem loop_from (d : Nat) : ∀ (k : Nat) (l : List Int) (i : Nat) (a z : T) (s lo hi : Int), l.length - i = d → i ≤ l.length → 0 < l.length → l.length ≤ 60 → d + 2 < k → Stands l i a s lo hi → fold a (l.drop i) = z → ok z → (∀ x ∈ l, -9223372036854775808 ≤ x ∧ x ≤ 9223372036854775807) →
    tailwaterlaw16_AccumsValues.l0 k l true s lo hi i z.1 z.2.1 z.2.2.1 z.2.2.2 = some true := by
  induction d with
  | zero =>
    intro k l i a z s lo hi hd hi' hl hq hk hs hf hz hw
    obtain ⟨k, rfl⟩ : ∃ m, k = m + 3 := ⟨k - 3, by omega⟩
    rw [show l.drop i = [] by rw [List.drop_eq_nil_iff]; omega] at hf
    rw [fold_nil] at hf
    subst hf
    rcases hs with ⟨h0, _⟩ | ⟨_, ha⟩
    · omega
    simp only [tailwaterlaw16_AccumsValues.l0]
    have nz : a.1 ≠ 0 := by rw [ha]; simp only; omega
    rw [if_neg (by omega), value_eq k 1 a, value_eq k 2 a, value_eq k 3 a, value_eq k 4 a, val_of 1 _ (by decide) (by decide) hz nz, val_of 2 _ (by decide) (by decide) hz nz, val_of 3 _ (by decide) (by decide) hz nz, val_of 4 _ (by decide) (by decide) hz nz]
    simp (config := { decide := true }) only [Option.bind_some, if_true, if_false]
    rw [ha]
    simp only
    rw [if_pos (by omega), if_pos trivial, if_pos trivial]
    simp
  | succ d ih =>
    intro k l i a z s lo hi hd hi' hl hq hk hs hf hz hw
    obtain ⟨k, rfl⟩ : ∃ m, k = m + 1 := ⟨k - 1, by omega⟩
    simp only [tailwaterlaw16_AccumsValues.l0]
    rw [if_pos (by omega), if_pos (by omega), do_add]
    simp only [Option.bind_some]
    rw [if_pos trivial, show wrap64 ((i : Int) + 1) = ((i + 1 : Nat) : Int) by unfold wrap64; omega]
    rw [rd_drop l i (by omega), fold_cons] at hf
    have hm : rd l i ∈ l := by
      have := List.mem_of_mem_drop (i := i) (l := l) (a := rd l i) (by rw [rd_drop l i (by omega)]; exact List.mem_cons_self)
      exact this
    exact ih k l (i + 1) (jn a (1, rd l i, rd l i, rd l i)) z _ _ _ (by omega) (by omega) hl hq (by omega) (stands_step l i a s lo hi hs (hw _ hm)) hf hz hw

theorem of_wf {n : Int} (h : (Lit.int .i64 n).wf = true) : -9223372036854775808 ≤ n ∧ n ≤ 9223372036854775807 := by
  simpa [Lit.wf, IntKind.min, IntKind.max, IntKind.signed, IntKind.bits] using h

theorem AccumsValues : tailwaterlaw16_AccumsValues.Pure := by
  intro l c _ _ hw _
  refine ⟨100, ?_⟩
  have al : tailwaterlaw16_alive.f 100 = some true := by decide +kernel
  have out : tailwaterlaw16_AccumsValues.j0 100 l c true true = some true := by simp only [tailwaterlaw16_AccumsValues.j0]; rfl
  unfold tailwaterlaw16_AccumsValues.f
  rw [al]
  simp only [Option.bind_some]
  by_cases h1 : (l.length : Int) < 1
  · rw [if_pos h1]; exact out
  rw [if_neg h1]
  by_cases h2 : (l.length : Int) > 60
  · rw [if_pos h2]; exact out
  rw [if_neg h2]
  by_cases h3 : c < 0
  · rw [if_pos h3]; exact out
  rw [if_neg h3]
  by_cases h4 : c > (l.length : Int)
  · rw [if_pos h4]; exact out
  rw [if_neg h4]
  obtain ⟨n, rfl⟩ : ∃ n : Nat, c = n := ⟨c.toNat, by omega⟩
  simp only [tailwaterlaw16_AccumsValues.j0, Bool.not_true]
  rw [if_neg (by decide), if_pos (by omega), if_pos (by omega), Int.toNat_natCast, of_all 99 (l.take n) (by simp only [List.length_take]; omega) (by simp only [List.length_take]; omega), of_all 99 (l.drop n) (by simp only [List.length_drop]; omega) (by simp only [List.length_drop]; omega)]
  simp only [Option.bind_some]
  obtain ⟨o1, n1⟩ := fold_ok (l.take n) (0, 0, 0, 0) ok_zero (by simp only [List.length_take]; omega)
  obtain ⟨o2, n2⟩ := fold_ok (l.drop n) (0, 0, 0, 0) ok_zero (by simp only [List.length_drop]; omega)
  obtain ⟨o3, _⟩ := fold_ok l (0, 0, 0, 0) ok_zero (by simp only; omega)
  simp only [List.length_take, List.length_drop] at n1 n2
  rw [join_eq 98 _ _ o2 o1 (by omega)]
  unfold joined
  simp only [Option.bind_some]
  rw [if_pos trivial, if_pos trivial, both l n (by omega) (by omega)]
  simp only [tailwaterlaw16_AccumsValues.j1]
  rw [if_neg (by decide), if_pos (by omega)]
  exact loop_from l.length 98 l 0 (0, 0, 0, 0) _ 0 (rd l 0) (rd l 0) (by omega) (by omega) (by omega) (by omega) (by omega) (.inl ⟨rfl, rfl, rfl, rfl, rfl⟩) rfl o3 (fun x hx => of_wf (hw x hx))

end Go.Proofs.Ytpmnneghnbbpjaa.PureValues
