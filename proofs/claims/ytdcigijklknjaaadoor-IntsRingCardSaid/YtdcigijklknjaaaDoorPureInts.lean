/- What ints.Read, ints.Text and their references answer, on texts and whole numbers alone. Conditions (a text's size, a number's range, enough rounds) stand in each lemma. -/
import Derived.Test.YtdcigijklknjaaaDoorNums
import Derived.Lib.ItoaLen
import Derived.Test.YtdcigijklknjaaaDoorMyx1
import Derived.Test.YtdcigijklknjaaaDoorMyx2
import Derived.Test.YtdcigijklknjaaaDoorMyx4
import Derived.Test.YtdcigijklknjaaaDoorMyx5
namespace Go.Proofs.YtdcigijklknjaaaDoor.PureInts
open Go.RowKit Go.Proofs.YtdcigijklknjaaaDoor.My Go.Proofs.YtdcigijklknjaaaDoor.Nums Go.Proofs.YtdcigijklknjaaaDoorW.PrintWords Go.Proofs.YtdcigijklknjaaaDoorW.PrintLast Go.Proofs.YtdcigijklknjaaaDoorW.PrintMore

/-- What a text is read as: its number, and an error. -/
def rdN (l : List UInt8) : Int × Int := if l = [] then (0, 12) else if ∀ c ∈ l, dig c then (if val l 0 ≤ 9223372036854775807 then ((val l 0 : Int), 0) else (0, 16)) else (0, 12)

theorem read_eq (s : ByteArray) (hs : s.size ≤ 4294967280) : ints_Read.f s = some (rdN s.data.toList) := by
  unfold ints_Read.f rdN
  rw [show tenDigits = ten from rfl]
  rw [if_pos hs]
  by_cases h0 : s.data.toList = []
  · rw [if_pos h0, if_pos h0]
  · rw [if_neg h0, if_neg h0]
    by_cases h1 : ∀ c ∈ s.data.toList, dig c
    · rw [if_pos ((trim_nil _).2 h1), if_pos h1]
      unfold readNum
      rw [parse_digits _ h0 h1]
      by_cases h2 : val s.data.toList 0 ≤ 9223372036854775807
      · rw [if_pos h2, if_pos h2]
      · rw [if_neg h2, if_neg h2]
    · rw [if_neg (fun z => h1 ((trim_nil _).1 z)), if_neg h1]

theorem bt_drop (s : ByteArray) (i : Nat) (h : i < s.size) : ∃ c : UInt8, s.data.toList.drop i = c :: s.data.toList.drop (i + 1) ∧ bt s i = (c.toNat : Int) := by
  have hl : i < s.data.toList.length := by rw [data_length]; exact h
  refine ⟨s.data.toList[i], List.drop_eq_getElem_cons hl, ?_⟩
  unfold bt
  rw [dif_pos (show ((i : Int).toNat) < s.size by omega)]
  rfl

theorem wrap_in (n : Int) (h : -9223372036854775808 ≤ n ∧ n ≤ 9223372036854775807) : wrap64 n = n := by unfold wrap64; omega

theorem l1_eq (s : ByteArray) (hs : s.size ≤ 4294967280) (hd : ∀ c ∈ s.data.toList, dig c) (d : Nat) : ∀ (k i n : Nat), s.size - i = d → i ≤ s.size → d < k → n ≤ 9223372036854775807 →
    tailwaterref01_Read.l1 k s n i = some (if val (s.data.toList.drop i) n ≤ 9223372036854775807 then ((val (s.data.toList.drop i) n : Int), 0) else (0, 16)) := by
  induction d with
  | zero =>
    intro k i n h1 h2 hk hn
    obtain ⟨k, rfl⟩ : ∃ m, k = m + 1 := ⟨k - 1, by omega⟩
    simp only [tailwaterref01_Read.l1]
    rw [if_neg (by omega), show s.data.toList.drop i = [] by rw [List.drop_eq_nil_iff, data_length]; omega, val_nil, if_pos hn]
  | succ d ih =>
    intro k i n h1 h2 hk hn
    obtain ⟨k, rfl⟩ : ∃ m, k = m + 1 := ⟨k - 1, by omega⟩
    simp only [tailwaterref01_Read.l1]
    obtain ⟨c, e, hb⟩ := bt_drop s i (by omega)
    have hc : 48 ≤ c.toNat ∧ c.toNat ≤ 57 := hd c (List.mem_of_mem_drop (i := i) (by rw [e]; exact List.mem_cons_self))
    rw [if_pos (by omega), if_pos (by omega), hb, e, val_cons]
    have hg := val_ge (s.data.toList.drop (i + 1)) (n * 10 + (c.toNat - 48))
    by_cases h3 : n * 10 + (c.toNat - 48) ≤ 9223372036854775807
    · rw [if_neg (by omega), wrap_in (10 * (n : Int)) (by omega), show wrap64 (10 * (n : Int) + ((c.toNat : Int) - 48) % 256) = ((n * 10 + (c.toNat - 48) : Nat) : Int) by rw [wrap_in _ (by omega)]; omega, show wrap64 ((i : Int) + 1) = ((i + 1 : Nat) : Int) by rw [wrap_in _ (by omega)]; omega]
      exact ih k (i + 1) _ (by omega) (by omega) (by omega) h3
    · rw [if_pos (by omega), if_neg (by omega)]

theorem l0_eq (s : ByteArray) (hs : s.size ≤ 4294967280) (d : Nat) : ∀ (k i : Nat), s.size - i = d → i ≤ s.size → d < k →
    tailwaterref01_Read.l0 k s i = if ∀ c ∈ s.data.toList.drop i, dig c then tailwaterref01_Read.l1 (k - d - 1) s 0 0 else some (0, 12) := by
  induction d with
  | zero =>
    intro k i h1 h2 hk
    obtain ⟨k, rfl⟩ : ∃ m, k = m + 1 := ⟨k - 1, by omega⟩
    simp only [tailwaterref01_Read.l0]
    have e : s.data.toList.drop i = [] := by rw [List.drop_eq_nil_iff, data_length]; omega
    rw [if_neg (by omega), e, if_pos (by intro c hc; cases hc)]
    rfl
  | succ d ih =>
    intro k i h1 h2 hk
    obtain ⟨k, rfl⟩ : ∃ m, k = m + 1 := ⟨k - 1, by omega⟩
    simp only [tailwaterref01_Read.l0]
    obtain ⟨c, e, hb⟩ := bt_drop s i (by omega)
    rw [if_pos (by omega), if_pos (by omega), hb, e]
    by_cases ha : (c.toNat : Int) < 48
    · rw [if_pos ha, if_neg (fun z => by have := (z c List.mem_cons_self).1; omega)]
    · rw [if_neg ha]
      by_cases hb2 : (c.toNat : Int) > 57
      · rw [if_pos hb2, if_neg (fun z => by have := (z c List.mem_cons_self).2; omega)]
      · rw [if_neg hb2, show wrap64 ((i : Int) + 1) = ((i + 1 : Nat) : Int) by rw [wrap_in _ (by omega)]; omega, ih k (i + 1) (by omega) (by omega) (by omega)]
        have hc : dig c := ⟨by omega, by omega⟩
        have hk : k - d - 1 = k + 1 - (d + 1) - 1 := by omega
        by_cases hall : ∀ x ∈ s.data.toList.drop (i + 1), dig x
        · rw [if_pos hall, if_pos (fun x hx => by rcases List.mem_cons.1 hx with rfl | hx; exact hc; exact hall x hx), hk]
        · rw [if_neg hall, if_neg (fun z => hall fun x hx => z x (List.mem_cons_of_mem _ hx))]

theorem rread_eq (k : Nat) (s : ByteArray) (hs : s.size ≤ 4294967280) (hk : 2 * s.size + 2 ≤ k) : tailwaterref01_Read.f k s = some (rdN s.data.toList) := by
  unfold tailwaterref01_Read.f rdN
  have e : s.toList = s.data.toList := ByteArray.toList_eq s
  rw [e]
  by_cases h0 : s.data.toList = []
  · rw [if_pos h0, if_pos h0]
  · rw [if_neg h0, if_neg h0]
    have := l0_eq s hs s.size k 0 (by omega) (by omega) (by omega)
    rw [show ((0 : Nat) : Int) = 0 from rfl, List.drop_zero] at this
    rw [this]
    by_cases h1 : ∀ c ∈ s.data.toList, dig c
    · rw [if_pos h1, if_pos h1]
      have h2 := l1_eq s hs h1 s.size (k - s.size - 1) 0 0 (by omega) (by omega) (by omega) (by omega)
      rw [show ((0 : Nat) : Int) = 0 from rfl, List.drop_zero] at h2
      rw [h2]
    · rw [if_neg h1, if_neg h1]

theorem of_wf {n : Int} (h : (Lit.int .i64 n).wf = true) : -9223372036854775808 ≤ n ∧ n ≤ 9223372036854775807 := by
  simpa [Lit.wf, IntKind.min, IntKind.max, IntKind.signed, IntKind.bits] using h

theorem text_eq (n : Int) (h : -9223372036854775808 ≤ n ∧ n ≤ 9223372036854775807) : ints_Text.f n = some ⟨(Lib.itoa n).toArray⟩ := by
  unfold ints_Text.f strconv_FormatInt.f
  rw [if_pos ⟨rfl, h⟩]
  rfl

theorem ba_append (x y : List UInt8) : (⟨x.toArray⟩ : ByteArray) ++ ⟨y.toArray⟩ = ⟨(x ++ y).toArray⟩ := by
  apply ByteArray.ext
  rw [ByteArray.data_append]
  simp

theorem one_byte (x : Int) (h0 : 0 ≤ x) (h1 : x ≤ 9) : strOfNums [(wrap64 (48 + x)) % 256] = ⟨[UInt8.ofNat (48 + x.toNat)].toArray⟩ := by
  unfold strOfNums
  rw [wrap_in _ (by omega)]
  simp only [List.map_cons, List.map_nil]
  rw [show ((48 + x) % 256).toNat = 48 + x.toNat by omega]

theorem tdiv_abs (n : Int) : Int.tdiv n 10 = if n < 0 then -((n.natAbs / 10 : Nat) : Int) else ((n.natAbs / 10 : Nat) : Int) := by
  by_cases h : n < 0
  · rw [if_pos h]
    obtain ⟨m, rfl⟩ : ∃ m : Nat, n = -(m : Int) := ⟨n.natAbs, by omega⟩
    rw [Int.neg_tdiv, Int.natAbs_neg, Int.natAbs_natCast, Int.tdiv_eq_ediv_of_nonneg (by omega)]
    omega
  · rw [if_neg h, Int.tdiv_eq_ediv_of_nonneg (by omega)]
    omega
theorem tmod_abs (n : Int) : Int.tmod n 10 = if n < 0 then -((n.natAbs % 10 : Nat) : Int) else ((n.natAbs % 10 : Nat) : Int) := by
  by_cases h : n < 0
  · rw [if_pos h]
    obtain ⟨m, rfl⟩ : ∃ m : Nat, n = -(m : Int) := ⟨n.natAbs, by omega⟩
    rw [Int.neg_tmod, Int.natAbs_neg, Int.natAbs_natCast, Int.tmod_eq_emod_of_nonneg (by omega)]
    omega
  · rw [if_neg h, Int.tmod_eq_emod_of_nonneg (by omega)]
    omega

theorem dec_step (u : Nat) (h : ¬ u < 10) : Lib.decDigits u = Lib.decDigits (u / 10) ++ [UInt8.ofNat (48 + u % 10)] := by
  conv => lhs; rw [Lib.decDigits]
  rw [dif_neg h]
theorem dec_small (u : Nat) (h : u < 10) : Lib.decDigits u = [UInt8.ofNat (48 + u)] := by
  rw [Lib.decDigits, dif_pos h]

theorem itoa_size (n : Int) (h : -9223372036854775808 ≤ n ∧ n ≤ 9223372036854775807) : (⟨(Lib.itoa n).toArray⟩ : ByteArray).size ≤ 21 := by
  have := Lib.itoa_length_le n h.1 h.2
  show (Lib.itoa n).toArray.size ≤ 21
  simpa using this

theorem rtext_eq (m : Nat) : ∀ (k : Nat) (n : Int), -9223372036854775808 ≤ n ∧ n ≤ 9223372036854775807 → n.natAbs < 10 ^ (m + 1) → 2 * m + 2 ≤ k →
    tailwaterref01_Text.f k n = some ⟨(Lib.itoa n).toArray⟩ := by
  induction m with
  | zero =>
    intro k n hr hn hk
    obtain ⟨k, rfl⟩ : ∃ q, k = q + 2 := ⟨k - 2, by omega⟩
    have hx : ∃ x : Int, 0 ≤ x ∧ x ≤ 9 ∧ x.toNat = n.natAbs % 10 ∧ tailwaterref01_Text.f (k + 2) n = tailwaterref01_Text.j0 (k + 1) n x := by
      simp only [tailwaterref01_Text.f]
      rw [tmod_abs]
      by_cases hneg : n < 0
      · rw [if_pos hneg]
        by_cases hz : n.natAbs % 10 = 0
        · exact ⟨0, by omega, by omega, by omega, by rw [hz, if_neg (by simp)]; simp⟩
        · exact ⟨((n.natAbs % 10 : Nat) : Int), by omega, by omega, by omega, by rw [if_pos (by omega), Int.neg_neg, wrap_in _ (by omega)]⟩
      · rw [if_neg hneg]
        exact ⟨((n.natAbs % 10 : Nat) : Int), by omega, by omega, by omega, by rw [if_neg (by omega)]⟩
    obtain ⟨x, x0, x9, xe, hf⟩ := hx
    rw [hf]
    simp only [tailwaterref01_Text.j0, Option.bind_some]
    have h10 : n.natAbs < 10 := by simpa using hn
    rw [one_byte x x0 x9, xe]
    have hq : wrap64 (Int.tdiv n 10) = 0 := by
      rw [tdiv_abs, Nat.div_eq_of_lt h10]
      by_cases hneg : n < 0
      · rw [if_pos hneg]; unfold wrap64; omega
      · rw [if_neg hneg]; unfold wrap64; omega
    rw [if_pos hq, Nat.mod_eq_of_lt h10]
    unfold Lib.itoa
    by_cases hneg : n < 0
    · rw [if_pos hneg, if_pos hneg, if_pos (by show 1 + 1 ≤ _; omega), dec_small _ h10]
      show some ((⟨[45].toArray⟩ : ByteArray) ++ _) = _
      rw [ba_append]
      rfl
    · rw [if_neg hneg, if_neg hneg, show n.natAbs = n.toNat by omega, dec_small _ (by omega)]
  | succ m ih =>
    intro k n hr hn hk
    by_cases h10 : n.natAbs < 10 ^ (m + 1)
    · exact ih k n hr h10 (by omega)
    · have hge : 10 ≤ n.natAbs := by
        have : 10 ^ 1 ≤ 10 ^ (m + 1) := Nat.pow_le_pow_right (by decide) (by omega)
        omega
      obtain ⟨k, rfl⟩ : ∃ q, k = q + 2 := ⟨k - 2, by omega⟩
      have hx : ∃ x : Int, 0 ≤ x ∧ x ≤ 9 ∧ x.toNat = n.natAbs % 10 ∧ tailwaterref01_Text.f (k + 2) n = tailwaterref01_Text.j0 (k + 1) n x := by
        simp only [tailwaterref01_Text.f]
        rw [tmod_abs]
        by_cases hneg : n < 0
        · rw [if_pos hneg]
          by_cases hz : n.natAbs % 10 = 0
          · exact ⟨0, by omega, by omega, by omega, by rw [hz, if_neg (by simp)]; simp⟩
          · exact ⟨((n.natAbs % 10 : Nat) : Int), by omega, by omega, by omega, by rw [if_pos (by omega), Int.neg_neg, wrap_in _ (by omega)]⟩
        · rw [if_neg hneg]
          exact ⟨((n.natAbs % 10 : Nat) : Int), by omega, by omega, by omega, by rw [if_neg (by omega)]⟩
      obtain ⟨x, x0, x9, xe, hf⟩ := hx
      rw [hf]
      simp only [tailwaterref01_Text.j0, Option.bind_some]
      rw [one_byte x x0 x9, xe]
      have hq : wrap64 (Int.tdiv n 10) = Int.tdiv n 10 := by
        rw [tdiv_abs]
        by_cases hneg : n < 0
        · rw [if_pos hneg, wrap_in _ (by omega)]
        · rw [if_neg hneg, wrap_in _ (by omega)]
      have hne : ¬ Int.tdiv n 10 = 0 := by
        rw [tdiv_abs]
        by_cases hneg : n < 0
        · rw [if_pos hneg]; omega
        · rw [if_neg hneg]; omega
      have hr' : -9223372036854775808 ≤ Int.tdiv n 10 ∧ Int.tdiv n 10 ≤ 9223372036854775807 := by
        rw [tdiv_abs]
        by_cases hneg : n < 0
        · rw [if_pos hneg]; omega
        · rw [if_neg hneg]; omega
      have hab : (Int.tdiv n 10).natAbs = n.natAbs / 10 := by
        rw [tdiv_abs]
        by_cases hneg : n < 0
        · rw [if_pos hneg]; omega
        · rw [if_neg hneg]; omega
      rw [hq, if_neg hne, ih k (Int.tdiv n 10) hr' (by rw [hab]; rw [Nat.pow_succ] at hn; omega) (by omega)]
      simp only [Option.bind_some]
      have hz := itoa_size _ hr'
      rw [if_pos (by show _ + 1 ≤ _; omega), ba_append]
      have e : Lib.itoa (Int.tdiv n 10) ++ [UInt8.ofNat (48 + n.natAbs % 10)] = Lib.itoa n := by
        rw [tdiv_abs]
        unfold Lib.itoa
        by_cases hneg : n < 0
        · rw [if_pos hneg, if_pos hneg, if_pos (by omega), dec_step n.natAbs (by omega)]
          rw [show (-((n.natAbs / 10 : Nat) : Int)).natAbs = n.natAbs / 10 by omega]
          rfl
        · rw [if_neg hneg, if_neg hneg, if_neg (by omega), show n.natAbs = n.toNat by omega, dec_step n.toNat (by omega)]
          rw [show (((n.toNat / 10 : Nat) : Int)).toNat = n.toNat / 10 by omega]
      rw [e]

theorem rtext (k : Nat) (n : Int) (h : -9223372036854775808 ≤ n ∧ n ≤ 9223372036854775807) (hk : 60 ≤ k) : tailwaterref01_Text.f k n = some ⟨(Lib.itoa n).toArray⟩ :=
  rtext_eq 19 k n h (by have : (10 : Nat) ^ (19 + 1) = 100000000000000000000 := by decide
                        omega) (by omega)
end Go.Proofs.YtdcigijklknjaaaDoor.PureInts
