/- What the reference's Read answers, in plain Lean: the message whose text it is, if there is one; else no message and the error of the form. -/
import Derived.Test.YtdcigijklknjaaaDoorPureRead
import Derived.Test.YtdcigijklknjaaaDoorPureTextR
import Derived.Test.YtdcigijklknjaaaDoorMwx33
namespace Go.Proofs.YtdcigijklknjaaaDoor.PureRRead
open Go.RowKit Go.Proofs.YtdcigijklknjaaaDoor.Mw Go.Proofs.YtdcigijklknjaaaDoor.Nums Go.Proofs.YtdcigijklknjaaaDoor.PureMsg Go.Proofs.YtdcigijklknjaaaDoor.PureSaid Go.Proofs.YtdcigijklknjaaaDoor.PureTells Go.Proofs.YtdcigijklknjaaaDoor.PureSplit Go.Proofs.YtdcigijklknjaaaDoor.PureRead Go.Proofs.YtdcigijklknjaaaDoorW.PrintWords
open Go.Lib hiding toList_data

theorem wrap_r (x : Int) : inR (wrap64 x) := by unfold inR wrap64; omega
theorem bt_nat (s : ByteArray) (i : Nat) (h : i < s.size) : bt s (i : Int) = ((s.data.toList[i]'(by rw [Array.length_toList]; exact h)).toNat : Int) := by
  unfold bt
  rw [dif_pos (show (i : Int).toNat < s.size by omega)]
  rfl

/-! number: of any text some number; of a written one, it. -/
def ends (s : ByteArray) (x : Int) : Int := if 0 < s.size ∧ bt s 0 = 45 then x else wrap64 (-x)
theorem number_end (k : Nat) (s : ByteArray) (x : Int) (i : Int) : tailwaterref25_number.j1 (k + 1) s x i false = some (ends s x) := by
  simp only [tailwaterref25_number.j1, Bool.false_eq_true, if_false]
  unfold ends
  by_cases h : 0 < s.size
  · rw [if_pos (by omega), if_pos (by omega)]
    by_cases h2 : bt s 0 = 45
    · rw [if_pos h2, if_pos ⟨h, h2⟩]
    · rw [if_neg h2, if_neg fun z => h2 z.2]
  · rw [if_neg (by omega), if_neg fun z => h z.1]
theorem number_out (k : Nat) (s : ByteArray) (x : Int) (i : Nat) (h : s.size ≤ i ∨ 21 ≤ i) : tailwaterref25_number.l0 (k + 2) s x i = some (ends s x) := by
  simp only [tailwaterref25_number.l0]
  by_cases h1 : (i : Int) < (s.size : Int)
  · rw [if_pos h1, decide_eq_false (by omega)]; exact number_end k s x i
  · rw [if_neg h1]; exact number_end k s x i
theorem number_in (k : Nat) (s : ByteArray) (x : Int) (i : Nat) (h : i < s.size) (h2 : i < 21) :
    tailwaterref25_number.l0 (k + 2) s x i = if bt s i = 45 then tailwaterref25_number.l0 k s x ((i + 1 : Nat) : Int) else tailwaterref25_number.l0 k s (wrap64 (wrap64 (10 * x) - (bt s i - 48) % 256)) ((i + 1 : Nat) : Int) := by
  have e : wrap64 ((i : Int) + 1) = ((i + 1 : Nat) : Int) := by rw [wrap_in _ (by omega)]; omega
  simp only [tailwaterref25_number.l0]
  rw [if_pos (by omega), decide_eq_true (by omega)]
  simp only [tailwaterref25_number.j1]
  rw [if_pos trivial, if_pos (by omega), if_pos (by omega), e]
theorem number_any (s : ByteArray) (d : Nat) : ∀ (k i : Nat) (x : Int), inR x → 21 - i = d → 2 * d + 2 ≤ k → ∃ y, tailwaterref25_number.l0 k s x i = some (ends s y) ∧ inR y := by
  induction d with
  | zero =>
    intro k i x hx hd hk
    obtain ⟨k, rfl⟩ : ∃ q, k = q + 2 := ⟨k - 2, by omega⟩
    exact ⟨x, number_out k s x i (.inr (by omega)), hx⟩
  | succ d ih =>
    intro k i x hx hd hk
    obtain ⟨k, rfl⟩ : ∃ q, k = q + 2 := ⟨k - 2, by omega⟩
    by_cases h : i < s.size
    · rw [number_in k s x i h (by omega)]
      split
      · exact ih k (i + 1) x hx (by omega) (by omega)
      · exact ih k (i + 1) _ (wrap_r _) (by omega) (by omega)
    · exact ⟨x, number_out k s x i (.inl (by omega)), hx⟩
theorem number_some (s : ByteArray) (k : Nat) (hk : 50 ≤ k) : ∃ y, tailwaterref25_number.f k s = some y ∧ inR y := by
  obtain ⟨y, h, hy⟩ := number_any s 21 k 0 0 in0 (by omega) (by omega)
  refine ⟨_, h, ?_⟩
  unfold ends
  split
  · exact hy
  · exact wrap_r _
theorem number_digits (s : ByteArray) (hs : s.size ≤ 21) (ds : List UInt8) : ∀ (k i a : Nat), s.data.toList.drop i = ds → (∀ c ∈ ds, dig c) → val ds a ≤ 9223372036854775808 → 2 * ds.length + 2 ≤ k →
    tailwaterref25_number.l0 k s (-(a : Int)) i = some (ends s (-(val ds a : Int))) := by
  have hz : s.data.toList.length = s.size := by rw [Array.length_toList]; rfl
  induction ds with
  | nil =>
    intro k i a hd _ _ hk
    obtain ⟨k, rfl⟩ : ∃ q, k = q + 2 := ⟨k - 2, by omega⟩
    rw [val_nil]
    exact number_out k s _ i (.inl (by have := congrArg List.length hd; rw [List.length_drop, hz] at this; simp at this; omega))
  | cons c ds ih =>
    intro k i a hd hc hv hk
    obtain ⟨k, rfl⟩ : ∃ q, k = q + 2 := ⟨k - 2, by omega⟩
    have hi : i < s.size := by have := congrArg List.length hd; rw [List.length_drop, hz] at this; simp at this; omega
    have hd' := hd
    rw [List.drop_eq_getElem_cons (by omega)] at hd'
    obtain ⟨e1, e2⟩ := List.cons.inj hd'
    have hg : 48 ≤ c.toNat ∧ c.toNat ≤ 57 := hc c List.mem_cons_self
    rw [val_cons] at hv ⊢
    have hm := val_ge ds (a * 10 + (c.toNat - 48))
    rw [number_in k s _ i hi (by omega), bt_nat s i hi, e1, if_neg (by omega)]
    rw [show wrap64 (wrap64 (10 * -(a : Int)) - ((c.toNat : Int) - 48) % 256) = -((a * 10 + (c.toNat - 48) : Nat) : Int) by rw [wrap_in (10 * -(a : Int)) (by omega), wrap_in _ (by omega)]; omega]
    exact ih k (i + 1) _ e2 (fun z hz => hc z (List.mem_cons_of_mem _ hz)) hv (by simp at hk; omega)
theorem number_itoa (s : ByteArray) (v : Int) (hv : inR v) (h : s.data.toList = itoa v) (k : Nat) (hk : 50 ≤ k) : tailwaterref25_number.f k s = some v := by
  have hz : s.data.toList.length = s.size := by rw [Array.length_toList]; rfl
  have hl := itoa_length_le v hv.1 hv.2
  have hs : s.size ≤ 21 := by rw [← hz, h]; exact hl
  obtain ⟨hv1, hv2⟩ := hv
  unfold tailwaterref25_number.f
  by_cases hn : v < 0
  · have e : s.data.toList = 45 :: decDigits v.natAbs := by rw [h]; unfold itoa; rw [if_pos hn]
    have hs0 : 0 < s.size := by rw [← hz, e]; simp
    have hb : bt s 0 = 45 := by
      have := bt_nat s 0 hs0
      simp only [e] at this
      exact this
    obtain ⟨d1, d2, d3⟩ := dec_digits v.natAbs
    obtain ⟨k, rfl⟩ : ∃ q, k = q + 2 := ⟨k - 2, by omega⟩
    have hi := number_in k s 0 0 hs0 (by omega)
    rw [show ((0 : Nat) : Int) = 0 from rfl, if_pos hb] at hi
    rw [hi]
    have hd := number_digits s hs (decDigits v.natAbs) k 1 0 (by rw [e]; rfl) d1 (by rw [d3]; omega) (by have := congrArg List.length e; rw [hz] at this; simp at this; omega)
    rw [d3] at hd
    have : ends s (-(v.natAbs : Int)) = v := by unfold ends; rw [if_pos ⟨hs0, hb⟩]; omega
    rw [this] at hd
    exact hd
  · have e : s.data.toList = decDigits v.toNat := by rw [h]; unfold itoa; rw [if_neg hn]
    obtain ⟨d1, d2, d3⟩ := dec_digits v.toNat
    have hd := number_digits s hs (decDigits v.toNat) k 0 0 (by rw [e]; rfl) d1 (by rw [d3]; omega) (by have := congrArg List.length e; rw [hz] at this; omega)
    rw [d3] at hd
    have : ends s (-(v.toNat : Int)) = v := by
      unfold ends
      rw [if_neg]
      · rw [wrap_in _ (by omega)]; omega
      · rintro ⟨hs0, hb⟩
        have hb' := bt_nat s 0 hs0
        rw [show ((0 : Nat) : Int) = 0 from rfl, hb] at hb'
        have hm : s.data.toList[0]'(by omega) ∈ decDigits v.toNat := by rw [← e]; exact List.getElem_mem _
        have : 48 ≤ (s.data.toList[0]'(by omega)).toNat := (d1 _ hm).1
        omega
    rw [this] at hd
    exact hd

/-! the loop over the bytes: the pieces -/
theorem ext_list (s : ByteArray) (a b : Nat) : (s.extract a b).data.toList = (s.data.toList.take b).drop a := by
  rw [ByteArray.data_extract, Array.toList_extract]
  rw [List.extract_eq_take_drop, List.drop_take]
theorem bytes_loop (s : ByteArray) (hs : s.size ≤ 4294967280) (d : Nat) : ∀ (k from_ i : Nat) (acc : List ByteArray), s.size - i = d → from_ ≤ i → i ≤ s.size → acc.length ≤ i → (32 : UInt8) ∉ (s.data.toList.take i).drop from_ →
    ∃ P : List ByteArray, P.map (·.data.toList) = splitL (s.data.toList.drop from_) ∧ tailwaterref25_Read.l0 (k + d + 2) s acc from_ i = tailwaterref25_Read.l1 k s (acc ++ P) (List.replicate 6 0) 1 := by
  have hz : s.data.toList.length = s.size := by rw [Array.length_toList]; rfl
  induction d with
  | zero =>
    intro k from_ i acc hd hf hi ha hn
    obtain rfl : i = s.size := by omega
    have e : wrap64 ((s.size : Int) + 1) = ((s.size + 1 : Nat) : Int) := by rw [wrap_in _ (by omega)]; omega
    refine ⟨[s.extract from_ s.size], ?_, ?_⟩
    · rw [List.take_of_length_le (by omega)] at hn
      rw [splitL_none _ hn]
      simp only [List.map_cons, List.map_nil]
      rw [ext_list, List.take_of_length_le (by omega)]
    · show tailwaterref25_Read.l0 (k + 1 + 1) s acc from_ s.size = _
      rw [tailwaterref25_Read.l0]
      rw [if_pos (by omega), if_pos rfl, if_pos (by omega), if_pos (by omega), if_pos (by omega), e]
      rw [tailwaterref25_Read.l0]
      rw [if_neg (by omega), if_pos (by decide)]
      rfl
  | succ d ih =>
    intro k from_ i acc hd hf hi ha hn
    have hlt : i < s.size := by omega
    have e : wrap64 ((i : Int) + 1) = ((i + 1 : Nat) : Int) := by rw [wrap_in _ (by omega)]; omega
    have hstep : (s.data.toList.take (i + 1)) = s.data.toList.take i ++ [s.data.toList[i]'(by omega)] := List.take_succ_eq_append_getElem (by omega)
    have hlen : (s.data.toList.take i).length = i := by rw [List.length_take]; omega
    show ∃ P : List ByteArray, _ ∧ tailwaterref25_Read.l0 ((k + d + 2) + 1) s acc from_ i = _
    rw [tailwaterref25_Read.l0]
    rw [if_pos (by omega), if_neg (by omega), if_pos (by omega), if_pos (by omega), bt_nat s i hlt, e]
    by_cases hb : s.data.toList[i]'(by omega) = 32
    · rw [if_pos (by rw [hb]; rfl), if_pos (by omega), if_pos (by omega), if_pos (by omega)]
      obtain ⟨P, p1, p2⟩ := ih k (i + 1) (i + 1) (acc ++ [s.extract (from_ : Int).toNat (i : Int).toNat]) (by omega) (by omega) (by omega) (by simp; omega) (by rw [List.drop_eq_nil_of_le (by rw [List.length_take]; omega)]; simp)
      refine ⟨s.extract from_ i :: P, ?_, ?_⟩
      · rw [List.map_cons, p1, ext_list]
        have : s.data.toList.drop from_ = (s.data.toList.take i).drop from_ ++ 32 :: s.data.toList.drop (i + 1) := by
          have h1 : from_ ≤ (s.data.toList.take i).length := by omega
          have h2 : i < s.data.toList.length := by omega
          have h3 := List.drop_eq_getElem_cons h2
          rw [hb] at h3
          rw [← h3, ← List.drop_append_of_le_length h1, List.take_append_drop]
        rw [this, splitL_app _ hn]
      · rw [p2, List.append_assoc]; rfl
    · rw [if_neg (by intro z; exact hb (UInt8.toNat_inj.1 (by have h32 : (32 : UInt8).toNat = 32 := rfl
                                                              omega)))]
      refine ih k from_ (i + 1) acc (by omega) (by omega) (by omega) (by omega) ?_
      rw [hstep, List.drop_append_of_le_length (by omega)]
      intro z
      rcases List.mem_append.1 z with z | z
      · exact hn z
      · exact hb (List.mem_singleton.1 z).symm

/-! the loop over the numbers -/
theorem nums_any (s : ByteArray) (L : List ByteArray) (hl : L.length ≤ 4294967290) (k : Nat) (hk : 60 ≤ k) (d : Nat) : ∀ (i : Nat) (n : List Int), 6 - i = d → n.length = 6 → (∀ v ∈ n, inR v) →
    ∃ k' n', k ≤ k' ∧ n'.length = 6 ∧ (∀ v ∈ n', inR v) ∧ tailwaterref25_Read.l1 (k + d + 1) s L n i = tailwaterref25_Read.j2 k' s L n' := by
  induction d with
  | zero =>
    intro i n hd hn hv
    refine ⟨k, n, Nat.le_refl _, hn, hv, ?_⟩
    rw [tailwaterref25_Read.l1]
    by_cases h : (i : Int) < (L.length : Int)
    · rw [if_pos h, if_neg (by omega)]
    · rw [if_neg h]
  | succ d ih =>
    intro i n hd hn hv
    show ∃ k' n', _ ∧ _ ∧ _ ∧ tailwaterref25_Read.l1 ((k + d + 1) + 1) s L n i = _
    rw [tailwaterref25_Read.l1]
    by_cases h : (i : Int) < (L.length : Int)
    · rw [if_pos h, if_pos (by omega), if_pos (by omega)]
      obtain ⟨y, hy, hin⟩ := number_some (rdOf ByteArray.empty L i) (k + d + 1) (by omega)
      rw [hy, Option.bind_some, if_pos (by omega), show wrap64 ((i : Int) + 1) = ((i + 1 : Nat) : Int) by rw [wrap_in _ (by omega)]; omega]
      exact ih (i + 1) _ (by omega) (by simpa using hn) fun v hv' => by
        rcases List.mem_or_eq_of_mem_set hv' with hv' | rfl
        · exact hv v hv'
        · exact hin
    · rw [if_neg h]
      exact ⟨k + d + 1, n, by omega, hn, hv, rfl⟩

theorem j3_eq (k : Nat) (hk : 66 ≤ k) (s : ByteArray) (a0 a1 a2 a3 a4 a5 a6 a7 a8 a9 : Int) (h1 : inR a1) (h2 : inR a2) (h3 : inR a3) (h4 : inR a4) (h5 : inR a5) (h6 : inR a6) (h7 : inR a7) (h8 : inR a8) (h9 : inR a9) :
    ∃ r, tailwaterref25_Read.j3 (k + 1) s a0 a1 a2 a3 a4 a5 a6 a7 a8 a9 = some r ∧ (r = badR ∨ r = (a0, a1, a2, a3, a4, a5, a6, a7, a8, a9, 0) ∧ Tx s a0 a1 a2 a3 a4 a5 a6 a7 a8 a9) ∧ (Tx s a0 a1 a2 a3 a4 a5 a6 a7 a8 a9 → r = (a0, a1, a2, a3, a4, a5, a6, a7, a8, a9, 0)) := by
  obtain ⟨m, rfl⟩ : ∃ m, k = m + 1 := ⟨k - 1, by omega⟩
  rw [tailwaterref25_Read.j3, valid_eq, Option.bind_some]
  by_cases hv : V a0 a1 a2 a3 a4 a5 a6 a7 a8 a9 = true
  · rw [if_pos hv, rwritten_eq (m + 1) a0 a1 a2 a3 a4 a5 a6 a7 a8 a9 h1 h2 h3 h4 h5 h6 h7 h8 h9 hk hv, Option.bind_some, toList_data, toList_data]
    by_cases e : (msgText a0 a1 a2 a3 a4 a5 a6 a7 a8 a9).data.toList = s.data.toList
    · rw [if_pos e]
      have : msgText a0 a1 a2 a3 a4 a5 a6 a7 a8 a9 = s := ByteArray.ext (Array.toList_inj.1 e)
      exact ⟨_, rfl, .inr ⟨rfl, ⟨hv, h1, h2, h3, h4, h5, h6, h7, h8, h9, this⟩⟩, fun _ => rfl⟩
    · rw [if_neg e]
      exact ⟨_, rfl, .inl rfl, fun h => absurd (by rw [h.t]) e⟩
  · rw [if_neg hv]
    exact ⟨_, rfl, .inl rfl, fun h => absurd h.v hv⟩

theorem six (n : List Int) (h : n.length = 6) : ∃ b0 b1 b2 b3 b4 b5, n = [b0, b1, b2, b3, b4, b5] := by
  match n, h with
  | [b0, b1, b2, b3, b4, b5], _ => exact ⟨b0, b1, b2, b3, b4, b5, rfl⟩

def Shape (s : ByteArray) (r : R11) : Prop := r = badR ∨ ∃ a0 a1 a2 a3 a4 a5 a6 a7 a8 a9, r = (a0, a1, a2, a3, a4, a5, a6, a7, a8, a9, 0) ∧ Tx s a0 a1 a2 a3 a4 a5 a6 a7 a8 a9
theorem j2_shape (s p : ByteArray) (L : List ByteArray) (k : Nat) (hk : 70 ≤ k) (b0 b1 b2 b3 b4 b5 : Int) (h1 : inR b1) (h2 : inR b2) (h3 : inR b3) (h4 : inR b4) (h5 : inR b5) :
    ∃ r, tailwaterref25_Read.j2 k s (p :: L) [b0, b1, b2, b3, b4, b5] = some r ∧ Shape s r := by
  obtain ⟨k, rfl⟩ : ∃ q, k = q + 2 := ⟨k - 2, by omega⟩
  have go (a0 a1 a2 a3 a4 a5 a6 a7 a8 a9 : Int) (h1 : inR a1) (h2 : inR a2) (h3 : inR a3) (h4 : inR a4) (h5 : inR a5) (h6 : inR a6) (h7 : inR a7) (h8 : inR a8) (h9 : inR a9) : ∃ r, tailwaterref25_Read.j3 (k + 1) s a0 a1 a2 a3 a4 a5 a6 a7 a8 a9 = some r ∧ Shape s r := by
    obtain ⟨r, e, h, _⟩ := j3_eq k (by omega) s a0 a1 a2 a3 a4 a5 a6 a7 a8 a9 h1 h2 h3 h4 h5 h6 h7 h8 h9
    refine ⟨r, e, ?_⟩
    rcases h with h | ⟨h, t⟩
    · exact .inl h
    · exact .inr ⟨_, _, _, _, _, _, _, _, _, _, h, t⟩
  rw [tailwaterref25_Read.j2]
  rw [if_pos (by simp), show rdOf ByteArray.empty (p :: L) 0 = p from rfl]
  split
  · rw [if_pos (by simp), if_pos (by simp), if_pos (by simp)]; exact go _ _ _ _ _ _ _ _ _ _ h1 h2 h3 in0 in0 in0 in0 in0 in0
  · split
    · rw [if_pos (by simp), if_pos (by simp), if_pos (by simp)]; exact go _ _ _ _ _ _ _ _ _ _ h1 h2 h3 in0 in0 in0 in0 in0 in0
    · split
      · rw [if_pos (by simp)]; exact go _ _ _ _ _ _ _ _ _ _ in0 in0 in0 h1 in0 in0 in0 in0 in0
      · split
        · rw [if_pos (by simp), if_pos (by simp), if_pos (by simp), if_pos (by simp), if_pos (by simp)]; exact go _ _ _ _ _ _ _ _ _ _ in0 in0 in0 in0 h1 h2 h3 h4 h5
        · exact go _ _ _ _ _ _ _ _ _ _ in0 in0 in0 in0 in0 in0 in0 in0 in0

theorem rread_start (s : ByteArray) (hs : s.size ≤ 4294967280) (k : Nat) : ∃ p L, p.data.toList :: L.map (·.data.toList) = splitL s.data.toList ∧ L.length ≤ s.size ∧ tailwaterref25_Read.f (k + s.size + 2) s = tailwaterref25_Read.l1 k s (p :: L) [0, 0, 0, 0, 0, 0] 1 := by
  obtain ⟨P, p1, p2⟩ := bytes_loop s hs s.size k 0 0 [] (by omega) (by omega) (by omega) (by simp) (by simp)
  rw [List.drop_zero] at p1
  cases P with
  | nil => exact absurd p1.symm (splitL_ne _)
  | cons p L =>
    refine ⟨p, L, p1, ?_, p2⟩
    have := splitL_len s.data.toList
    rw [← p1] at this
    simp at this
    exact this
theorem rread_shape (s : ByteArray) (hs : s.size ≤ 4294967280) (k : Nat) (hk : 80 ≤ k) : ∃ r, tailwaterref25_Read.f (k + s.size + 8) s = some r ∧ Shape s r := by
  obtain ⟨p, L, e1, e2, e3⟩ := rread_start s hs (k + 6)
  rw [show k + s.size + 8 = k + 6 + s.size + 2 by omega, e3]
  obtain ⟨k', n', h1, h2, h3, h4⟩ := nums_any s (p :: L) (by simp; omega) k (by omega) 5 1 [0, 0, 0, 0, 0, 0] (by omega) rfl (fun v hv => by simp at hv; subst hv; exact in0)
  rw [show k + 6 = k + 5 + 1 by omega]
  rw [show ((1 : Nat) : Int) = 1 from rfl] at h4
  rw [h4]
  obtain ⟨b0, b1, b2, b3, b4, b5, rfl⟩ := six n' h2
  exact j2_shape s p L k' (by omega) b0 b1 b2 b3 b4 b5 (h3 _ (by simp)) (h3 _ (by simp)) (h3 _ (by simp)) (h3 _ (by simp)) (h3 _ (by simp))

theorem l1_step (k : Nat) (s : ByteArray) (L : List ByteArray) (n : List Int) (i : Nat) (hi : i < 6) (hL : i < L.length) (hn : n.length = 6) (v : Int) (hv : inR v) (e : L[i].data.toList = itoa v) (hk : 50 ≤ k) :
    tailwaterref25_Read.l1 (k + 1) s L n i = tailwaterref25_Read.l1 k s L (n.set i v) ((i + 1 : Nat) : Int) := by
  rw [tailwaterref25_Read.l1]
  rw [if_pos (by omega), if_pos (by omega), if_pos (by omega), rdOf_nat L i hL, number_itoa _ v hv e k hk, Option.bind_some, if_pos (by omega), show wrap64 ((i : Int) + 1) = ((i + 1 : Nat) : Int) by rw [wrap_in _ (by omega)]; omega]
  rfl
theorem l1_out (k : Nat) (s : ByteArray) (L : List ByteArray) (n : List Int) (i : Nat) (h : L.length ≤ i) : tailwaterref25_Read.l1 (k + 1) s L n i = tailwaterref25_Read.j2 k s L n := by
  rw [tailwaterref25_Read.l1]
  rw [if_neg (by omega)]

theorem map_cons_of {L : List ByteArray} {v : Int} {vs : List Int} (e : L.map (·.data.toList) = (v :: vs).map itoa) : ∃ x L', L = x :: L' ∧ x.data.toList = itoa v ∧ L'.map (·.data.toList) = vs.map itoa := by
  cases L with
  | nil => cases e
  | cons x L => exact ⟨x, L, rfl, (List.cons.inj e).1, (List.cons.inj e).2⟩
theorem map_nil_of {L : List ByteArray} (e : L.map (·.data.toList) = ([] : List Int).map itoa) : L = [] := List.map_eq_nil_iff.1 e

theorem rread_of (s : ByteArray) (hs : s.size ≤ 4294967280) (k : Nat) (hk : 80 ≤ k) {a0 a1 a2 a3 a4 a5 a6 a7 a8 a9 : Int} (h : Tx s a0 a1 a2 a3 a4 a5 a6 a7 a8 a9) :
    tailwaterref25_Read.f (k + s.size + 8) s = some (a0, a1, a2, a3, a4, a5, a6, a7, a8, a9, 0) := by
  have hT := h
  obtain ⟨hv, h1, h2, h3, h4, h5, h6, h7, h8, h9, ht⟩ := h
  obtain ⟨p, L, e1, e2, e3⟩ := rread_start s hs (k + 6)
  rw [show k + s.size + 8 = k + 6 + s.size + 2 by omega, e3]
  clear e3
  have fin (q : Nat) (hq : 66 ≤ q) : tailwaterref25_Read.j3 (q + 1) s a0 a1 a2 a3 a4 a5 a6 a7 a8 a9 = some (a0, a1, a2, a3, a4, a5, a6, a7, a8, a9, 0) := by
    obtain ⟨r, e, _, h⟩ := j3_eq q hq s a0 a1 a2 a3 a4 a5 a6 a7 a8 a9 h1 h2 h3 h4 h5 h6 h7 h8 h9
    rw [e, h hT]
  have three (a b c : Int) (ha : inR a) (hb : inR b) (hc : inR c) (e : L.map (·.data.toList) = [a, b, c].map itoa) : tailwaterref25_Read.l1 (k + 6) s (p :: L) [0, 0, 0, 0, 0, 0] 1 = tailwaterref25_Read.j2 (k + 2) s (p :: L) [0, a, b, c, 0, 0] := by
    obtain ⟨x, L, rfl, ex, e⟩ := map_cons_of e
    obtain ⟨y, L, rfl, ey, e⟩ := map_cons_of e
    obtain ⟨z, L, rfl, ez, e⟩ := map_cons_of e
    obtain rfl := map_nil_of e
    rw [show (1 : Int) = ((1 : Nat) : Int) from rfl, l1_step (k + 5) s [p, x, y, z] _ 1 (by omega) (by simp) rfl a ha ex (by omega), l1_step (k + 4) s [p, x, y, z] _ 2 (by omega) (by simp) rfl b hb ey (by omega), l1_step (k + 3) s [p, x, y, z] _ 3 (by omega) (by simp) rfl c hc ez (by omega), l1_out (k + 2) s [p, x, y, z] _ 4 (by simp)]
    rfl
  rcases V_cases hv with ⟨rfl | rfl, rfl, rfl, rfl, rfl, rfl, rfl⟩ | ⟨rfl, rfl, rfl, rfl, rfl, rfl, rfl, rfl, rfl⟩ | ⟨rfl, rfl, rfl, rfl, rfl⟩
  · have hp := pieces ⟨#[114, 101, 99, 111, 114, 100]⟩ (by decide) [a1, a2, a3]
    rw [show textB ⟨#[114, 101, 99, 111, 114, 100]⟩ [a1, a2, a3] = s from ht, ← e1] at hp
    obtain ⟨p1, p2⟩ := List.cons.inj hp
    rw [three a1 a2 a3 h1 h2 h3 p2, tailwaterref25_Read.j2]
    rw [if_pos (by simp), show rdOf ByteArray.empty (p :: L) 0 = p from rfl, toList_data, p1, if_pos rfl, if_pos (by simp), if_pos (by simp), if_pos (by simp)]
    exact fin k (by omega)
  · have hp := pieces ⟨#[108, 97, 116, 101]⟩ (by decide) [a1, a2, a3]
    rw [show textB ⟨#[108, 97, 116, 101]⟩ [a1, a2, a3] = s from ht, ← e1] at hp
    obtain ⟨p1, p2⟩ := List.cons.inj hp
    rw [three a1 a2 a3 h1 h2 h3 p2, tailwaterref25_Read.j2]
    rw [if_pos (by simp), show rdOf ByteArray.empty (p :: L) 0 = p from rfl, toList_data, p1, if_neg (by decide), if_pos rfl, if_pos (by simp), if_pos (by simp), if_pos (by simp)]
    exact fin k (by omega)
  · have hp := pieces ⟨#[109, 97, 114, 107]⟩ (by decide) [a4]
    rw [show textB ⟨#[109, 97, 114, 107]⟩ [a4] = s from ht, ← e1] at hp
    obtain ⟨p1, p2⟩ := List.cons.inj hp
    obtain ⟨x, L, rfl, ex, p2⟩ := map_cons_of p2
    obtain rfl := map_nil_of p2
    · rw [show (1 : Int) = ((1 : Nat) : Int) from rfl, l1_step (k + 5) s [p, x] _ 1 (by omega) (by simp) rfl a4 h4 ex (by omega), l1_out (k + 4) s [p, x] _ 2 (by simp), tailwaterref25_Read.j2]
      rw [if_pos (by simp), show rdOf ByteArray.empty (p :: [x]) 0 = p from rfl, toList_data, p1, if_neg (by decide), if_neg (by decide), if_pos rfl, if_pos (by simp)]
      exact fin (k + 2) (by omega)
  · have hp := pieces ⟨#[114, 111, 119]⟩ (by decide) [a5, a6, a7, a8, a9]
    rw [show textB ⟨#[114, 111, 119]⟩ [a5, a6, a7, a8, a9] = s from ht, ← e1] at hp
    obtain ⟨p1, p2⟩ := List.cons.inj hp
    obtain ⟨x, L, rfl, ex, p2⟩ := map_cons_of p2
    obtain ⟨y, L, rfl, ey, p2⟩ := map_cons_of p2
    obtain ⟨z, L, rfl, ez, p2⟩ := map_cons_of p2
    obtain ⟨u, L, rfl, eu, p2⟩ := map_cons_of p2
    obtain ⟨v, L, rfl, ev, p2⟩ := map_cons_of p2
    obtain rfl := map_nil_of p2
    · rw [show (1 : Int) = ((1 : Nat) : Int) from rfl, l1_step (k + 5) s [p, x, y, z, u, v] _ 1 (by omega) (by simp) rfl a5 h5 ex (by omega), l1_step (k + 4) s [p, x, y, z, u, v] _ 2 (by omega) (by simp) rfl a6 h6 ey (by omega), l1_step (k + 3) s [p, x, y, z, u, v] _ 3 (by omega) (by simp) rfl a7 h7 ez (by omega),
        l1_step (k + 2) s [p, x, y, z, u, v] _ 4 (by omega) (by simp) rfl a8 h8 eu (by omega), l1_step (k + 1) s [p, x, y, z, u, v] _ 5 (by omega) (by simp) rfl a9 h9 ev (by omega), l1_out k s [p, x, y, z, u, v] _ 6 (by simp)]
      obtain ⟨q, rfl⟩ : ∃ q, k = q + 2 := ⟨k - 2, by omega⟩
      rw [tailwaterref25_Read.j2]
      rw [if_pos (by simp), show rdOf ByteArray.empty (p :: [x, y, z, u, v]) 0 = p from rfl, toList_data, p1, if_neg (by decide), if_neg (by decide), if_neg (by decide), if_pos rfl, if_pos (by simp), if_pos (by simp), if_pos (by simp), if_pos (by simp), if_pos (by simp)]
      exact fin q (by omega)
end Go.Proofs.YtdcigijklknjaaaDoor.PureRRead
