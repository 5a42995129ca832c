/- Decimal texts, without any program: a text of digits as a number, Lib.parseIntB at the size 64 on such texts, Lib.itoa written and read again, and that a text is trimmed to nothing just if all its bytes are digits. -/
import Derived.Lib.ParseIntBCases
import Derived.Lib.ParseIntBTie
import Derived.Lib.ItoaMem
import Derived.Lib.SlTrimSet
namespace Go.Proofs.YtdcigijklknjaaaDoor.Nums
open Go.Lib
def ten : List UInt8 := [48, 49, 50, 51, 52, 53, 54, 55, 56, 57]
def dig (c : UInt8) : Prop := 48 ≤ c.toNat ∧ c.toNat ≤ 57
instance (c : UInt8) : Decidable (dig c) := by unfold dig; infer_instance
def val (l : List UInt8) (a : Nat) : Nat := l.foldl (fun a c => a * 10 + (c.toNat - 48)) a
theorem val_nil (a : Nat) : val [] a = a := rfl
theorem val_cons (c : UInt8) (l : List UInt8) (a : Nat) : val (c :: l) a = val l (a * 10 + (c.toNat - 48)) := by unfold val; rw [List.foldl_cons]
theorem val_append (x y : List UInt8) (a : Nat) : val (x ++ y) a = val y (val x a) := by unfold val; rw [List.foldl_append]
theorem val_ge (l : List UInt8) : ∀ a, a ≤ val l a := by
  induction l with
  | nil => intro a; exact Nat.le_refl _
  | cons c l ih => intro a; rw [val_cons]; exact Nat.le_trans (by omega) (ih _)

theorem ten_iff (c : UInt8) : ten.contains c = true ↔ dig c := by
  have h : ∀ n : Fin 256, (ten.contains (UInt8.ofNat n.val) = true ↔ (48 ≤ n.val ∧ n.val ≤ 57)) := by decide +kernel
  have := h ⟨c.toNat, c.toNat_lt⟩
  simpa [dig] using this

theorem dropWhile_nil {p : UInt8 → Bool} : ∀ {l : List UInt8}, l.dropWhile p = [] → ∀ c ∈ l, p c = true
  | [], _, c, hc => by cases hc
  | x :: l, h, c, hc => by
    rw [List.dropWhile_cons] at h
    by_cases hx : p x = true
    · rw [if_pos hx] at h
      rcases List.mem_cons.1 hc with rfl | hc
      · exact hx
      · exact dropWhile_nil h c hc
    · rw [if_neg hx] at h; cases h
theorem dropWhile_all {p : UInt8 → Bool} : ∀ {l : List UInt8}, (∀ c ∈ l, p c = true) → l.dropWhile p = []
  | [], _ => rfl
  | x :: l, h => by rw [List.dropWhile_cons, if_pos (h x List.mem_cons_self)]; exact dropWhile_all fun c hc => h c (List.mem_cons_of_mem _ hc)
theorem dropWhile_head {p : UInt8 → Bool} : ∀ {l : List UInt8} {x : UInt8} {r : List UInt8}, l.dropWhile p = x :: r → p x = false
  | [], _, _, h => by cases h
  | y :: l, x, r, h => by
    rw [List.dropWhile_cons] at h
    by_cases hy : p y = true
    · rw [if_pos hy] at h; exact dropWhile_head h
    · rw [if_neg hy] at h
      obtain ⟨rfl, _⟩ := List.cons.inj h
      simpa using hy

theorem trim_nil (l : List UInt8) : trimS l ten = [] ↔ ∀ c ∈ l, dig c := by
  have e : trimS l ten = (l.reverse.dropWhile (ten.contains ·)).reverse.dropWhile (ten.contains ·) := rfl
  rw [e]
  constructor
  · intro h
    have h1 := dropWhile_nil h
    cases hr : l.reverse.dropWhile (ten.contains ·) with
    | nil =>
      intro c hc
      exact (ten_iff c).1 (dropWhile_nil hr c (List.mem_reverse.2 hc))
    | cons x r =>
      have := dropWhile_head hr
      have hx := h1 x (by rw [hr]; simp)
      rw [this] at hx; cases hx
  · intro h
    rw [dropWhile_all (l := l.reverse) fun c hc => (ten_iff c).2 (h c (List.mem_reverse.1 hc))]
    rfl

theorem parseM (l : List UInt8) : ∀ a : Nat, (∀ c ∈ l, dig c) → a ≤ 18446744073709551615 → parseUintM (2 ^ 64 - 1) a l = if val l a ≤ 18446744073709551615 then .ok (val l a) else .range := by
  induction l with
  | nil => intro a _ ha; rw [val_nil, if_pos ha]; rfl
  | cons c l ih =>
    intro a h ha
    have hc : 48 ≤ c.toNat ∧ c.toNat ≤ 57 := h c List.mem_cons_self
    have hg := val_ge l (a * 10 + (c.toNat - 48))
    rw [val_cons]
    simp only [parseUintM]
    rw [if_pos hc]
    by_cases h1 : 1844674407370955162 ≤ a
    · rw [if_pos h1, if_neg (by omega)]
    · rw [if_neg h1]
      by_cases h2 : 18446744073709551615 < a * 10 + (c.toNat - 48)
      · rw [if_pos (by simpa using h2), if_neg (by omega)]
      · rw [if_neg (by simpa using h2)]
        exact ih _ (fun d hd => h d (List.mem_cons_of_mem _ hd)) (by omega)

/-- A text of digits, as a number of 64 bits. -/
theorem parse_digits (l : List UInt8) (hl : l ≠ []) (h : ∀ c ∈ l, dig c) : parseIntB 64 l = if val l 0 ≤ 9223372036854775807 then .ok (val l 0 : Int) else .range := by
  cases l with
  | nil => exact absurd rfl hl
  | cons c r =>
    have hc : 48 ≤ c.toNat ∧ c.toNat ≤ 57 := h c List.mem_cons_self
    have hp := parseM (c :: r) 0 h (by decide)
    simp only [parseIntB]
    rw [if_neg (by omega)]
    unfold parseUintB
    rw [if_neg (by simp), hp]
    by_cases h1 : val (c :: r) 0 ≤ 18446744073709551615
    · rw [if_pos h1]
      simp only
      by_cases h2 : val (c :: r) 0 ≤ 9223372036854775807
      · rw [if_neg (by simp; omega), if_neg (by omega), if_pos h2, if_neg (by omega)]
      · rw [if_pos (by simp; omega), if_neg h2]
    · rw [if_neg h1]
      simp only
      rw [if_neg (by omega)]

theorem dec_digits (u : Nat) : (∀ c ∈ decDigits u, dig c) ∧ decDigits u ≠ [] ∧ val (decDigits u) 0 = u := by
  induction u using Nat.strongRecOn with
  | _ u ih =>
    rw [decDigits]
    have small (n : Nat) (hn : n < 10) : (UInt8.ofNat (48 + n)).toNat = 48 + n := by
      rw [UInt8.toNat_ofNat']; exact Nat.mod_eq_of_lt (by omega)
    split
    · rename_i hu
      refine ⟨fun c hc => ?_, by simp, ?_⟩
      · simp only [List.mem_singleton] at hc
        subst hc
        unfold dig
        rw [small u hu]
        omega
      · rw [val_cons, val_nil, small u hu]
        omega
    · rename_i hu
      obtain ⟨h1, h2, h3⟩ := ih (u / 10) (by omega)
      refine ⟨fun c hc => ?_, by simp, ?_⟩
      · rcases List.mem_append.1 hc with hc | hc
        · exact h1 c hc
        · simp only [List.mem_singleton] at hc
          subst hc
          unfold dig
          rw [small _ (by omega)]
          omega
      · rw [val_append, h3, val_cons, val_nil, small _ (by omega)]
        omega

theorem itoa_ne (n : Int) : itoa n ≠ [] := by
  unfold itoa
  split
  · simp
  · exact (dec_digits _).2.1

theorem itoa_inj {n m : Int} (h : itoa n = itoa m) : n = m := by
  have no45 (u v : Nat) (r : List UInt8) (e : decDigits u = 45 :: r) : False := by
    have := (dec_digits u).1 45 (by rw [e]; exact List.mem_cons_self)
    revert this
    decide
  have one (u v : Nat) (e : decDigits u = decDigits v) : u = v := by
    rw [← (dec_digits u).2.2, ← (dec_digits v).2.2, e]
  unfold itoa at h
  split at h
  · split at h
    · have := one _ _ (List.cons.inj h).2; omega
    · exact (no45 _ 0 _ h.symm).elim
  · split at h
    · exact (no45 _ 0 _ h).elim
    · have := one _ _ h; omega

/-- What is written is read again. -/
theorem parse_itoa (n : Int) (h0 : -9223372036854775808 ≤ n) (h1 : n ≤ 9223372036854775807) : parseIntB 64 (itoa n) = .ok n := by
  unfold itoa
  split
  · rename_i hn
    obtain ⟨d1, d2, d3⟩ := dec_digits n.natAbs
    have hp := parseM (decDigits n.natAbs) 0 d1 (by decide)
    rw [d3, if_pos (by omega)] at hp
    simp only [parseIntB]
    rw [if_pos (.inr (by decide))]
    unfold parseUintB
    rw [if_neg d2, hp]
    simp only
    rw [if_neg (by simp), if_neg (by simp; omega), if_pos (by decide)]
    congr 1
    omega
  · rename_i hn
    obtain ⟨d1, d2, d3⟩ := dec_digits n.toNat
    rw [parse_digits _ d2 d1, d3, if_pos (by omega)]
    congr 1
    omega
end Go.Proofs.YtdcigijklknjaaaDoor.Nums
