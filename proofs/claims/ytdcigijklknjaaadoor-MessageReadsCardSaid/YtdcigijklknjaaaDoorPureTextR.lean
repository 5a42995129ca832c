/- What the reference's Written answers: a word, and each number behind a blank, in decimals. -/
import Derived.Test.YtdcigijklknjaaaDoorPureTextA
import Derived.Test.YtdcigijklknjaaaDoorPureMsgR
import Derived.Test.YtdcigijklknjaaaDoorMwg
namespace Go.Proofs.YtdcigijklknjaaaDoor.PureSaid
open Go.RowKit Go.Proofs.YtdcigijklknjaaaDoor.Mw Go.Proofs.YtdcigijklknjaaaDoorW.PrintWords Go.Proofs.YtdcigijklknjaaaDoorW.PrintLast Go.Proofs.YtdcigijklknjaaaDoorW.PrintMore
theorem one_byte (x : Int) (h0 : 0 ≤ x) (h1 : x ≤ 9) : strOfNums [(wrap64 (48 + x)) % 256] = ⟨[UInt8.ofNat (48 + x.toNat)].toArray⟩ := by
  unfold strOfNums
  rw [wrap_in _ (by omega)]
  simp only [List.map_cons, List.map_nil]
  rw [show ((48 + x) % 256).toNat = 48 + x.toNat by omega]
theorem tdiv_abs (n : Int) : Int.tdiv n 10 = if n < 0 then -((n.natAbs / 10 : Nat) : Int) else ((n.natAbs / 10 : Nat) : Int) := by
  by_cases h : n < 0
  · rw [if_pos h]
    obtain ⟨m, rfl⟩ : ∃ m : Nat, n = -(m : Int) := ⟨n.natAbs, by omega⟩
    rw [Int.neg_tdiv, Int.natAbs_neg, Int.natAbs_natCast, Int.tdiv_eq_ediv_of_nonneg (by omega)]
    omega
  · rw [if_neg h, Int.tdiv_eq_ediv_of_nonneg (by omega)]
    omega
theorem tmod_abs (n : Int) : Int.tmod n 10 = if n < 0 then -((n.natAbs % 10 : Nat) : Int) else ((n.natAbs % 10 : Nat) : Int) := by
  by_cases h : n < 0
  · rw [if_pos h]
    obtain ⟨m, rfl⟩ : ∃ m : Nat, n = -(m : Int) := ⟨n.natAbs, by omega⟩
    rw [Int.neg_tmod, Int.natAbs_neg, Int.natAbs_natCast, Int.tmod_eq_emod_of_nonneg (by omega)]
    omega
  · rw [if_neg h, Int.tmod_eq_emod_of_nonneg (by omega)]
    omega
theorem rtext_eq (m : Nat) : ∀ (k : Nat) (n : Int), -9223372036854775808 ≤ n ∧ n ≤ 9223372036854775807 → n.natAbs < 10 ^ (m + 1) → 2 * m + 2 ≤ k →
    tailwaterref01_Text.f k n = some ⟨(Lib.itoa n).toArray⟩ := by
  induction m with
  | zero =>
    intro k n hr hn hk
    obtain ⟨k, rfl⟩ : ∃ q, k = q + 2 := ⟨k - 2, by omega⟩
    have hx : ∃ x : Int, 0 ≤ x ∧ x ≤ 9 ∧ x.toNat = n.natAbs % 10 ∧ tailwaterref01_Text.f (k + 2) n = tailwaterref01_Text.j0 (k + 1) n x := by
      simp only [tailwaterref01_Text.f]
      rw [tmod_abs]
      by_cases hneg : n < 0
      · rw [if_pos hneg]
        by_cases hz : n.natAbs % 10 = 0
        · exact ⟨0, by omega, by omega, by omega, by rw [hz, if_neg (by simp)]; simp⟩
        · exact ⟨((n.natAbs % 10 : Nat) : Int), by omega, by omega, by omega, by rw [if_pos (by omega), Int.neg_neg, wrap_in _ (by omega)]⟩
      · rw [if_neg hneg]
        exact ⟨((n.natAbs % 10 : Nat) : Int), by omega, by omega, by omega, by rw [if_neg (by omega)]⟩
    obtain ⟨x, x0, x9, xe, hf⟩ := hx
    rw [hf]
    simp only [tailwaterref01_Text.j0, Option.bind_some]
    have h10 : n.natAbs < 10 := by simpa using hn
    rw [one_byte x x0 x9, xe]
    have hq : wrap64 (Int.tdiv n 10) = 0 := by
      rw [tdiv_abs, Nat.div_eq_of_lt h10]
      by_cases hneg : n < 0
      · rw [if_pos hneg]; unfold wrap64; omega
      · rw [if_neg hneg]; unfold wrap64; omega
    rw [if_pos hq, Nat.mod_eq_of_lt h10]
    unfold Lib.itoa
    by_cases hneg : n < 0
    · rw [if_pos hneg, if_pos hneg, if_pos (by show 1 + 1 ≤ _; omega), dec_small _ h10]
      show some ((⟨[45].toArray⟩ : ByteArray) ++ _) = _
      rw [ba_append]
      rfl
    · rw [if_neg hneg, if_neg hneg, show n.natAbs = n.toNat by omega, dec_small _ (by omega)]
  | succ m ih =>
    intro k n hr hn hk
    by_cases h10 : n.natAbs < 10 ^ (m + 1)
    · exact ih k n hr h10 (by omega)
    · have hge : 10 ≤ n.natAbs := by
        have : 10 ^ 1 ≤ 10 ^ (m + 1) := Nat.pow_le_pow_right (by decide) (by omega)
        omega
      obtain ⟨k, rfl⟩ : ∃ q, k = q + 2 := ⟨k - 2, by omega⟩
      have hx : ∃ x : Int, 0 ≤ x ∧ x ≤ 9 ∧ x.toNat = n.natAbs % 10 ∧ tailwaterref01_Text.f (k + 2) n = tailwaterref01_Text.j0 (k + 1) n x := by
        simp only [tailwaterref01_Text.f]
        rw [tmod_abs]
        by_cases hneg : n < 0
        · rw [if_pos hneg]
          by_cases hz : n.natAbs % 10 = 0
          · exact ⟨0, by omega, by omega, by omega, by rw [hz, if_neg (by simp)]; simp⟩
          · exact ⟨((n.natAbs % 10 : Nat) : Int), by omega, by omega, by omega, by rw [if_pos (by omega), Int.neg_neg, wrap_in _ (by omega)]⟩
        · rw [if_neg hneg]
          exact ⟨((n.natAbs % 10 : Nat) : Int), by omega, by omega, by omega, by rw [if_neg (by omega)]⟩
      obtain ⟨x, x0, x9, xe, hf⟩ := hx
      rw [hf]
      simp only [tailwaterref01_Text.j0, Option.bind_some]
      rw [one_byte x x0 x9, xe]
      have hq : wrap64 (Int.tdiv n 10) = Int.tdiv n 10 := by
        rw [tdiv_abs]
        by_cases hneg : n < 0
        · rw [if_pos hneg, wrap_in _ (by omega)]
        · rw [if_neg hneg, wrap_in _ (by omega)]
      have hne : ¬ Int.tdiv n 10 = 0 := by
        rw [tdiv_abs]
        by_cases hneg : n < 0
        · rw [if_pos hneg]; omega
        · rw [if_neg hneg]; omega
      have hr' : -9223372036854775808 ≤ Int.tdiv n 10 ∧ Int.tdiv n 10 ≤ 9223372036854775807 := by
        rw [tdiv_abs]
        by_cases hneg : n < 0
        · rw [if_pos hneg]; omega
        · rw [if_neg hneg]; omega
      have hab : (Int.tdiv n 10).natAbs = n.natAbs / 10 := by
        rw [tdiv_abs]
        by_cases hneg : n < 0
        · rw [if_pos hneg]; omega
        · rw [if_neg hneg]; omega
      rw [hq, if_neg hne, ih k (Int.tdiv n 10) hr' (by rw [hab]; rw [Nat.pow_succ] at hn; omega) (by omega)]
      simp only [Option.bind_some]
      have hz := itoa_size _ hr'
      rw [if_pos (by show _ + 1 ≤ _; omega), ba_append]
      have e : Lib.itoa (Int.tdiv n 10) ++ [UInt8.ofNat (48 + n.natAbs % 10)] = Lib.itoa n := by
        rw [tdiv_abs]
        unfold Lib.itoa
        by_cases hneg : n < 0
        · rw [if_pos hneg, if_pos hneg, if_pos (by omega), dec_step n.natAbs (by omega)]
          rw [show (-((n.natAbs / 10 : Nat) : Int)).natAbs = n.natAbs / 10 by omega]
          rfl
        · rw [if_neg hneg, if_neg hneg, if_neg (by omega), show n.natAbs = n.toNat by omega, dec_step n.toNat (by omega)]
          rw [show (((n.toNat / 10 : Nat) : Int)).toNat = n.toNat / 10 by omega]
      rw [e]
theorem rtext (k : Nat) (n : Int) (h : -9223372036854775808 ≤ n ∧ n ≤ 9223372036854775807) (hk : 60 ≤ k) : tailwaterref01_Text.f k n = some ⟨(Lib.itoa n).toArray⟩ :=
  rtext_eq 19 k n h (by have : (10 : Nat) ^ (19 + 1) = 100000000000000000000 := by decide
                        omega) (by omega)
theorem rd_nat (l : List Int) (i : Nat) (h : i < l.length) : rd l (i : Int) = l[i] := by unfold rd; simp [h]
theorem said_from (word : ByteArray) (l : List Int) (ht : Telling word l) (d : Nat) : ∀ (k i : Nat), l.length - i = d → i ≤ l.length → d + 61 ≤ k →
    tailwaterref25_said.l0 k ⟨(word.data.toList ++ flat (l.take i)).toArray⟩ l i = some (textB word l) := by
  obtain ⟨t1, t2, t3⟩ := ht
  induction d with
  | zero =>
    intro k i h1 h2 hk
    obtain ⟨k, rfl⟩ : ∃ m, k = m + 1 := ⟨k - 1, by omega⟩
    simp only [tailwaterref25_said.l0]
    rw [if_neg (by omega), show i = l.length by omega, List.take_length]
    rfl
  | succ d ih =>
    intro k i h1 h2 hk
    obtain ⟨k, rfl⟩ : ∃ m, k = m + 1 := ⟨k - 1, by omega⟩
    have hi : i < l.length := by omega
    have hn := t1 _ (List.getElem_mem hi)
    simp only [tailwaterref25_said.l0]
    have hz := itoa_size _ hn
    have hw : word.data.toList.length ≤ 6 := by rw [data_length]; exact t3
    have hf := flat_len (l.take i) (fun n h => t1 n (List.mem_of_mem_take h))
    rw [List.length_take] at hf
    rw [if_pos (by omega), if_pos (by omega), rd_nat l i hi, rtext k _ hn (by omega)]
    simp only [Option.bind_some]
    have e1 : (⟨#[32]⟩ : ByteArray) ++ ⟨(Lib.itoa l[i]).toArray⟩ = ⟨(32 :: Lib.itoa l[i]).toArray⟩ := ba_append [32] _
    have e2 : (⟨(word.data.toList ++ flat (l.take i)).toArray⟩ : ByteArray).size ≤ 200 := by
      show (word.data.toList ++ flat (l.take i)).toArray.size ≤ 200
      rw [List.size_toArray, List.length_append]; omega
    have e3 : (⟨(32 :: Lib.itoa l[i]).toArray⟩ : ByteArray).size ≤ 22 := by
      have : (Lib.itoa l[i]).toArray.size ≤ 21 := hz
      show (32 :: Lib.itoa l[i]).toArray.size ≤ 22
      simp at this ⊢; omega
    rw [if_pos (by omega), e1, if_pos (by omega), ba_append, List.append_assoc, ← flat_step l i hi, show wrap64 ((i : Int) + 1) = ((i + 1 : Nat) : Int) by rw [wrap_in _ (by omega)]; omega]
    exact ih k (i + 1) (by omega) (by omega) (by omega)
theorem said_eq (k : Nat) (word : ByteArray) (l : List Int) (ht : Telling word l) (hk : 66 ≤ k) : tailwaterref25_said.f k word l = some (textB word l) := by
  have h := said_from word l ht l.length k 0 (by omega) (by omega) (by have := ht.2.1; omega)
  have e : (⟨(word.data.toList ++ flat (l.take 0)).toArray⟩ : ByteArray) = word := by
    apply ByteArray.ext
    simp [flat]
  rw [e] at h
  exact h
end Go.Proofs.YtdcigijklknjaaaDoor.PureSaid
namespace Go.Proofs.YtdcigijklknjaaaDoor.PureTells
open Go.RowKit Go.Proofs.YtdcigijklknjaaaDoor.Mw Go.Proofs.YtdcigijklknjaaaDoor.PureMsg Go.Proofs.YtdcigijklknjaaaDoor.PureSaid

section
variable (k : Nat) (a0 a1 a2 a3 a4 a5 a6 a7 a8 a9 : Int) (h1 : inR a1) (h2 : inR a2) (h3 : inR a3) (h4 : inR a4) (h5 : inR a5) (h6 : inR a6) (h7 : inR a7) (h8 : inR a8) (h9 : inR a9)
include h1 h2 h3 h4 h5 h6 h7 h8 h9
theorem rwritten_eq (hk : 66 ≤ k) (hv : V a0 a1 a2 a3 a4 a5 a6 a7 a8 a9 = true) : tailwaterref25_Written.f k a0 a1 a2 a3 a4 a5 a6 a7 a8 a9 = some (msgText a0 a1 a2 a3 a4 a5 a6 a7 a8 a9) := by
  have h0 : a0 = 1 ∨ a0 = 2 ∨ a0 = 3 ∨ a0 = 4 := by
    unfold V at hv
    split at hv
    · omega
    · split at hv
      · omega
      · split at hv
        · omega
        · cases hv
  unfold tailwaterref25_Written.f msgText
  rw [said_eq k _ _ (telling3 ⟨#[114, 101, 99, 111, 114, 100]⟩ (by decide) _ _ _ h1 h2 h3) hk, said_eq k _ _ (telling1 ⟨#[109, 97, 114, 107]⟩ (by decide) _ h4) hk, said_eq k _ _ (telling5 ⟨#[114, 111, 119]⟩ (by decide) _ _ _ _ _ h5 h6 h7 h8 h9) hk, said_eq k _ _ (telling3 ⟨#[108, 97, 116, 101]⟩ (by decide) _ _ _ h1 h2 h3) hk]
  simp only [Option.bind_some]
  rcases h0 with rfl | rfl | rfl | rfl <;> rfl
end
end Go.Proofs.YtdcigijklknjaaaDoor.PureTells
