/- What message.Read answers, in plain Lean: the message whose text it is, if there is one; else no message and the error of the form. -/
import Derived.Test.YtdcigijklknjaaaDoorPureTextA
import Derived.Test.YtdcigijklknjaaaDoorPureSplit
import Derived.Test.YtdcigijklknjaaaDoorMwb
namespace Go.Proofs.YtdcigijklknjaaaDoor.PureRead
open Go.RowKit Go.Lib Go.Proofs.YtdcigijklknjaaaDoor.Mw Go.Proofs.YtdcigijklknjaaaDoor.Nums Go.Proofs.YtdcigijklknjaaaDoor.PureMsg Go.Proofs.YtdcigijklknjaaaDoor.PureSaid Go.Proofs.YtdcigijklknjaaaDoor.PureTells Go.Proofs.YtdcigijklknjaaaDoor.PureSplit Go.Proofs.YtdcigijklknjaaaDoorW.PrintWords

theorem toList_data (s : ByteArray) : s.toList = s.data.toList := by rw [ByteArray.toList_eq]
theorem rdOf_nat (xs : List ByteArray) (i : Nat) (h : i < xs.length) : rdOf ByteArray.empty xs (i : Int) = xs[i] := by unfold rdOf; simp [h]
theorem parse_yes (p : ByteArray) (hs : p.size ≤ 4294967280) (v : Int) (h : parseIntB 64 p.data.toList = .ok v) : strconv_ParseInt.f p 10 64 = some (v, none) := by
  unfold strconv_ParseInt.f
  rw [if_pos ⟨hs, rfl, rfl⟩, h]
theorem parse_no (p : ByteArray) (hs : p.size ≤ 4294967280) (h : ∀ v, parseIntB 64 p.data.toList ≠ .ok v) : strconv_ParseInt.f p 10 64 = some (0, some 0) := by
  unfold strconv_ParseInt.f
  rw [if_pos ⟨hs, rfl, rfl⟩]
  cases hp : parseIntB 64 p.data.toList with
  | ok v => exact absurd hp (h v)
  | _ => rfl
theorem format_eq (v : Int) (h : inR v) : strconv_FormatInt.f v 10 = some ⟨(itoa v).toArray⟩ := by
  unfold strconv_FormatInt.f
  rw [if_pos ⟨rfl, h.1, h.2⟩]

theorem nums_loop (L : List ByteArray) (hl : L.length ≤ 4294967290) (hs : ∀ p ∈ L, p.size ≤ 4294967280) (d : Nat) : ∀ (k i : Nat) (acc : List Int), L.length - i = d → i ≤ L.length → acc.length = i → d < k →
    (∀ vs : List Int, (∀ v ∈ vs, inR v) → (L.drop i).map (·.data.toList) = vs.map itoa → message_numbers.l0 k acc L (L.length : Int) i = some (acc ++ vs, true)) ∧
    ((∀ vs : List Int, (∀ v ∈ vs, inR v) → (L.drop i).map (·.data.toList) ≠ vs.map itoa) → message_numbers.l0 k acc L (L.length : Int) i = some ([], false)) := by
  induction d with
  | zero =>
    intro k i acc h1 h2 h3 hk
    obtain ⟨k, rfl⟩ : ∃ m, k = m + 1 := ⟨k - 1, by omega⟩
    have hd : L.drop i = [] := List.drop_eq_nil_of_le (by omega)
    rw [hd]
    simp only [message_numbers.l0]
    rw [if_neg (by omega)]
    refine ⟨fun vs _ e => ?_, fun h => absurd rfl (h [] (by simp))⟩
    obtain rfl : vs = [] := List.map_eq_nil_iff.1 e.symm
    rw [List.append_nil]
  | succ d ih =>
    intro k i acc h1 h2 h3 hk
    obtain ⟨k, rfl⟩ : ∃ m, k = m + 1 := ⟨k - 1, by omega⟩
    have hi : i < L.length := by omega
    have hp := hs _ (List.getElem_mem hi)
    rw [List.drop_eq_getElem_cons hi, List.map_cons]
    simp only [message_numbers.l0]
    rw [if_pos (by omega), if_pos (by omega), if_pos (by omega), rdOf_nat L i hi]
    generalize L[i] = p at hp ⊢
    by_cases hv : ∃ v, parseIntB 64 p.data.toList = .ok v
    · obtain ⟨v, hv⟩ := hv
      have hr : inR v := by
        have := parseIntB_bounds hv
        unfold inR
        omega
      rw [parse_yes p hp v hv]
      simp only [Option.bind_some, Option.isNone_none]
      rw [if_pos trivial, format_eq v hr]
      simp only [Option.bind_some]
      rw [toList_data, toList_data]
      show (∀ vs : List Int, _ → _ → (if itoa v = p.data.toList then _ else _) = _) ∧ (_ → (if itoa v = p.data.toList then _ else _) = _)
      by_cases e : itoa v = p.data.toList
      · rw [if_pos e, if_pos (by omega), show wrap64 ((i : Int) + 1) = ((i + 1 : Nat) : Int) by rw [wrap_in _ (by omega)]; omega]
        obtain ⟨y, n⟩ := ih k (i + 1) (acc ++ [v]) (by omega) (by omega) (by simp [h3]) (by omega)
        constructor
        · intro vs hin he
          cases vs with
          | nil => cases he
          | cons u us =>
            obtain ⟨e1, e2⟩ := List.cons.inj he
            have : u = v := itoa_inj (by rw [e, ← e1])
            subst this
            rw [y us (fun z hz => hin z (List.mem_cons_of_mem _ hz)) e2, List.append_assoc]
            rfl
        · intro h
          exact n fun us hin he => h (v :: us) (fun z hz => by rcases List.mem_cons.1 hz with rfl | hz; exact hr; exact hin z hz) (by rw [List.map_cons, e, he])
      · rw [if_neg e]
        refine ⟨fun vs hin he => ?_, fun _ => rfl⟩
        cases vs with
        | nil => cases he
        | cons u us =>
          obtain ⟨e1, e2⟩ := List.cons.inj he
          have hu := hin u List.mem_cons_self
          rw [e1, parse_itoa u hu.1 hu.2] at hv
          injection hv with hv
          subst hv
          exact absurd e1.symm e
    · rw [parse_no p hp fun v h => hv ⟨v, h⟩]
      simp only [Option.bind_some]
      refine ⟨fun vs hin he => ?_, fun _ => rfl⟩
      cases vs with
      | nil => cases he
      | cons u us =>
        obtain ⟨e1, e2⟩ := List.cons.inj he
        have hu := hin u List.mem_cons_self
        exact absurd ⟨u, by rw [e1, parse_itoa u hu.1 hu.2]⟩ hv

section
variable (L : List ByteArray) (hl : L.length ≤ 4294967290) (hs : ∀ p ∈ L, p.size ≤ 4294967280) (k : Nat) (hk : L.length + 1 ≤ k) (n : Int)
include hl hs hk
theorem nums_yes (vs : List Int) (hin : ∀ v ∈ vs, inR v) (hn : (vs.length : Int) = n) (e : L.map (·.data.toList) = vs.map itoa) : message_numbers.f k L n = some (vs, true) := by
  have hlen : L.length = vs.length := by simpa using congrArg List.length e
  unfold message_numbers.f
  rw [if_pos (by omega)]
  exact (nums_loop L hl hs L.length k 0 [] (by omega) (by omega) rfl (by omega)).1 vs hin e
theorem nums_no (h : ∀ vs : List Int, (∀ v ∈ vs, inR v) → (vs.length : Int) = n → L.map (·.data.toList) ≠ vs.map itoa) : message_numbers.f k L n = some ([], false) := by
  unfold message_numbers.f
  by_cases hn : (L.length : Int) = n
  · rw [if_pos hn]
    refine (nums_loop L hl hs L.length k 0 [] (by omega) (by omega) rfl (by omega)).2 fun vs hin e => ?_
    have hlen : L.length = vs.length := by simpa using congrArg List.length e
    exact h vs hin (by omega) e
  · rw [if_neg hn]
end

abbrev R11 := Int × Int × Int × Int × Int × Int × Int × Int × Int × Int × Int
def badR : R11 := (0, 0, 0, 0, 0, 0, 0, 0, 0, 0, 12)
/-- The message is right, its numbers are numbers of 64 bits, and the text is its text. -/
structure Tx (s : ByteArray) (a0 a1 a2 a3 a4 a5 a6 a7 a8 a9 : Int) : Prop where
  v : V a0 a1 a2 a3 a4 a5 a6 a7 a8 a9 = true
  h1 : inR a1
  h2 : inR a2
  h3 : inR a3
  h4 : inR a4
  h5 : inR a5
  h6 : inR a6
  h7 : inR a7
  h8 : inR a8
  h9 : inR a9
  t : msgText a0 a1 a2 a3 a4 a5 a6 a7 a8 a9 = s
theorem in0 : inR 0 := ⟨by decide, by decide⟩

theorem j1_eq (k : Nat) (a0 a1 a2 a3 a4 a5 a6 a7 a8 a9 : Int) : message_Read.j1 (k + 2) a0 a1 a2 a3 a4 a5 a6 a7 a8 a9 = some (if V a0 a1 a2 a3 a4 a5 a6 a7 a8 a9 = true then (a0, a1, a2, a3, a4, a5, a6, a7, a8, a9, 0) else badR) := by
  simp only [message_Read.j1]
  rw [check_eq, Option.bind_some]
  by_cases h : V a0 a1 a2 a3 a4 a5 a6 a7 a8 a9 = true
  · rw [if_pos h, if_pos h, if_pos rfl]
  · rw [if_neg h, if_neg h, if_neg (by decide)]; rfl

section
variable (p : ByteArray) (L : List ByteArray) (hl : L.length ≤ 4294967290) (hs : ∀ p ∈ L, p.size ≤ 4294967280) (k : Nat) (hk : L.length + 1 ≤ k + 2)
include hl hs hk
/-- Three numbers are read. -/
theorem j0_three (c : Int) (h2 : c ≠ 2) (h3 : c ≠ 3) (a b d : Int) (ha : inR a) (hb : inR b) (hd : inR d) (e : L.map (·.data.toList) = [a, b, d].map itoa) :
    message_Read.j0 (k + 3) (p :: L) 3 c 0 0 0 0 0 0 0 0 0 = some (if V c a b d 0 0 0 0 0 0 = true then (c, a, b, d, 0, 0, 0, 0, 0, 0, 0) else badR) := by
  simp only [message_Read.j0]
  rw [if_pos (by rw [List.length_cons]; omega), List.drop_one, List.tail_cons, nums_yes L hl hs (k + 2) hk 3 [a, b, d] (fun v hv => by simp at hv; rcases hv with rfl | rfl | rfl <;> assumption) rfl e, Option.bind_some, if_pos rfl, if_neg h2, if_neg h3]
  rw [if_pos (by simp), if_pos (by simp), if_pos (by simp)]
  exact j1_eq k c a b d 0 0 0 0 0 0
theorem j0_one (a : Int) (ha : inR a) (e : L.map (·.data.toList) = [a].map itoa) :
    message_Read.j0 (k + 3) (p :: L) 1 2 0 0 0 0 0 0 0 0 0 = some (if V 2 0 0 0 a 0 0 0 0 0 = true then (2, 0, 0, 0, a, 0, 0, 0, 0, 0, 0) else badR) := by
  simp only [message_Read.j0]
  rw [if_pos (by rw [List.length_cons]; omega), List.drop_one, List.tail_cons, nums_yes L hl hs (k + 2) hk 1 [a] (fun v hv => by simp at hv; subst hv; assumption) rfl e, Option.bind_some, if_pos rfl, if_pos trivial]
  rw [if_pos (by simp)]
  exact j1_eq k 2 0 0 0 a 0 0 0 0 0
theorem j0_five (a b c d f : Int) (ha : inR a) (hb : inR b) (hc : inR c) (hd : inR d) (hf : inR f) (e : L.map (·.data.toList) = [a, b, c, d, f].map itoa) :
    message_Read.j0 (k + 3) (p :: L) 5 3 0 0 0 0 0 0 0 0 0 = some (if V 3 0 0 0 0 a b c d f = true then (3, 0, 0, 0, 0, a, b, c, d, f, 0) else badR) := by
  simp only [message_Read.j0]
  rw [if_pos (by rw [List.length_cons]; omega), List.drop_one, List.tail_cons, nums_yes L hl hs (k + 2) hk 5 [a, b, c, d, f] (fun v hv => by simp at hv; rcases hv with rfl | rfl | rfl | rfl | rfl <;> assumption) rfl e, Option.bind_some, if_pos rfl, if_neg (by decide), if_pos trivial]
  rw [if_pos (by simp), if_pos (by simp), if_pos (by simp), if_pos (by simp), if_pos (by simp)]
  exact j1_eq k 3 0 0 0 0 a b c d f
theorem j0_no (c n : Int) (h : ∀ vs : List Int, (∀ v ∈ vs, inR v) → (vs.length : Int) = n → L.map (·.data.toList) ≠ vs.map itoa) :
    message_Read.j0 (k + 3) (p :: L) n c 0 0 0 0 0 0 0 0 0 = some badR := by
  simp only [message_Read.j0]
  rw [if_pos (by rw [List.length_cons]; omega), List.drop_one, List.tail_cons, nums_no L hl hs (k + 2) hk n h, Option.bind_some, if_neg (by decide)]
  rfl
end

def wordOf (a0 : Int) : ByteArray := if a0 = 4 then ⟨#[108, 97, 116, 101]⟩ else if a0 = 2 then ⟨#[109, 97, 114, 107]⟩ else if a0 = 3 then ⟨#[114, 111, 119]⟩ else ⟨#[114, 101, 99, 111, 114, 100]⟩
theorem word_blank (a0 : Int) : (32 : UInt8) ∉ (wordOf a0).data.toList := by
  unfold wordOf
  split
  · decide
  · split
    · decide
    · split <;> decide
/-- A text that is a word and numbers, each behind a blank: its pieces. -/
theorem pieces (w : ByteArray) (hw : (32 : UInt8) ∉ w.data.toList) (l : List Int) : splitL (textB w l).data.toList = w.data.toList :: l.map itoa := by
  show splitL (w.data.toList ++ flat l).toArray.toList = _
  rw [List.toList_toArray]
  exact splitL_flat _ hw l
theorem of_pieces (s w : ByteArray) (l : List Int) (h : splitL s.data.toList = w.data.toList :: l.map itoa) : textB w l = s := by
  have := join_split s.data.toList
  rw [h, join_flat] at this
  apply ByteArray.ext
  show (w.data.toList ++ flat l).toArray = _
  rw [this]

theorem parts (s : ByteArray) (hs : s.size ≤ 4294967280) : ∃ p L, strings_Split.f s ⟨#[32]⟩ = some (p :: L) ∧ p.data.toList :: L.map (·.data.toList) = splitL s.data.toList ∧ L.length ≤ s.size ∧ (∀ q ∈ L, q.size ≤ 4294967280) := by
  have e := splitB_eq s
  unfold strings_Split.f
  rw [if_pos ⟨by omega, rfl⟩]
  generalize splitB ⟨#[32]⟩ 0 (countB s ⟨#[32]⟩) s = ps at e
  cases ps with
  | nil => exact absurd e.symm (splitL_ne _)
  | cons p L =>
    have hsz : s.data.toList.length = s.size := by rw [Array.length_toList]; rfl
    refine ⟨p, L, rfl, e, ?_, fun q hq => ?_⟩
    · have := splitL_len s.data.toList
      rw [← e] at this
      simp at this
      exact this
    · have := splitL_mem s.data.toList q.data.toList (by rw [← e]; exact List.mem_map.2 ⟨q, List.mem_cons_of_mem _ hq, rfl⟩)
      rw [hsz, Array.length_toList] at this
      exact Nat.le_trans this hs

theorem two_way (b : Bool) (x : R11) : ∃ r, some (if b = true then x else badR) = some r ∧ (r = badR ∨ b = true ∧ r = x) := by
  cases b
  · exact ⟨_, rfl, .inl rfl⟩
  · exact ⟨_, rfl, .inr ⟨rfl, rfl⟩⟩

/-- What Read gives is no message, or one whose text it is. -/
theorem read_shape (s : ByteArray) (hs : s.size ≤ 4294967280) (k : Nat) (hk : s.size + 1 ≤ k + 2) :
    ∃ r, message_Read.f (k + 3) s = some r ∧ (r = badR ∨ ∃ a0 a1 a2 a3 a4 a5 a6 a7 a8 a9, r = (a0, a1, a2, a3, a4, a5, a6, a7, a8, a9, 0) ∧ Tx s a0 a1 a2 a3 a4 a5 a6 a7 a8 a9) := by
  obtain ⟨p, L, e1, e2, e3, e4⟩ := parts s hs
  have hl : L.length ≤ 4294967290 := by omega
  have hk' : L.length + 1 ≤ k + 2 := by omega
  unfold message_Read.f
  rw [e1, Option.bind_some, if_pos (by simp), show rdOf ByteArray.empty (p :: L) 0 = p from rfl, toList_data]
  have three (c : Int) (h2 : c ≠ 2) (h3 : c ≠ 3) (w : ByteArray) (hw : p.data.toList = w.data.toList) (ht : V c 0 0 0 0 0 0 0 0 0 = V c 0 0 0 0 0 0 0 0 0 → ∀ a b d, V c a b d 0 0 0 0 0 0 = true → msgText c a b d 0 0 0 0 0 0 = textB w [a, b, d]) :
      ∃ r, message_Read.j0 (k + 3) (p :: L) 3 c 0 0 0 0 0 0 0 0 0 = some r ∧ (r = badR ∨ ∃ a0 a1 a2 a3 a4 a5 a6 a7 a8 a9, r = (a0, a1, a2, a3, a4, a5, a6, a7, a8, a9, 0) ∧ Tx s a0 a1 a2 a3 a4 a5 a6 a7 a8 a9) := by
    by_cases h : ∃ vs : List Int, (∀ v ∈ vs, inR v) ∧ (vs.length : Int) = 3 ∧ L.map (·.data.toList) = vs.map itoa
    · obtain ⟨vs, hin, hn, he⟩ := h
      match vs, hin, hn, he with
      | [a, b, d], hin, _, he =>
        have ha : inR a := hin a (by simp)
        have hb : inR b := hin b (by simp)
        have hd : inR d := hin d (by simp)
        rw [j0_three p L hl e4 k hk' c h2 h3 a b d ha hb hd he]
        obtain ⟨r, hr, h⟩ := two_way (V c a b d 0 0 0 0 0 0) (c, a, b, d, 0, 0, 0, 0, 0, 0, 0)
        refine ⟨r, hr, ?_⟩
        rcases h with h | ⟨hv, h⟩
        · exact .inl h
        · exact .inr ⟨_, _, _, _, _, _, _, _, _, _, h, ⟨hv, ha, hb, hd, in0, in0, in0, in0, in0, in0, by rw [ht rfl a b d hv]; exact of_pieces s w _ (by rw [← e2, hw, he])⟩⟩
    · rw [j0_no p L hl e4 k hk' c 3 fun vs h1 h2 h3 => h ⟨vs, h1, h2, h3⟩]
      exact ⟨_, rfl, .inl rfl⟩
  by_cases c1 : p.data.toList = [114, 101, 99, 111, 114, 100]
  · rw [if_pos c1]
    exact three 1 (by decide) (by decide) ⟨#[114, 101, 99, 111, 114, 100]⟩ c1 fun _ a b d _ => rfl
  rw [if_neg c1]
  by_cases c2 : p.data.toList = [108, 97, 116, 101]
  · rw [if_pos c2]
    exact three 4 (by decide) (by decide) ⟨#[108, 97, 116, 101]⟩ c2 fun _ a b d _ => rfl
  rw [if_neg c2]
  by_cases c3 : p.data.toList = [109, 97, 114, 107]
  · rw [if_pos c3]
    by_cases h : ∃ vs : List Int, (∀ v ∈ vs, inR v) ∧ (vs.length : Int) = 1 ∧ L.map (·.data.toList) = vs.map itoa
    · obtain ⟨vs, hin, hn, he⟩ := h
      match vs, hin, hn, he with
      | [a], hin, _, he =>
        have ha : inR a := hin a (by simp)
        rw [j0_one p L hl e4 k hk' a ha he]
        obtain ⟨r, hr, h⟩ := two_way (V 2 0 0 0 a 0 0 0 0 0) (2, 0, 0, 0, a, 0, 0, 0, 0, 0, 0)
        refine ⟨r, hr, ?_⟩
        rcases h with h | ⟨hv, h⟩
        · exact .inl h
        · exact .inr ⟨_, _, _, _, _, _, _, _, _, _, h, ⟨hv, in0, in0, in0, ha, in0, in0, in0, in0, in0, of_pieces s ⟨#[109, 97, 114, 107]⟩ _ (by rw [← e2, c3, he])⟩⟩
    · rw [j0_no p L hl e4 k hk' 2 1 fun vs h1 h2 h3 => h ⟨vs, h1, h2, h3⟩]
      exact ⟨_, rfl, .inl rfl⟩
  rw [if_neg c3]
  by_cases c4 : p.data.toList = [114, 111, 119]
  · rw [if_pos c4]
    by_cases h : ∃ vs : List Int, (∀ v ∈ vs, inR v) ∧ (vs.length : Int) = 5 ∧ L.map (·.data.toList) = vs.map itoa
    · obtain ⟨vs, hin, hn, he⟩ := h
      match vs, hin, hn, he with
      | [a, b, c, d, f], hin, _, he =>
        have ha : inR a := hin a (by simp)
        have hb : inR b := hin b (by simp)
        have hc : inR c := hin c (by simp)
        have hd : inR d := hin d (by simp)
        have hf : inR f := hin f (by simp)
        rw [j0_five p L hl e4 k hk' a b c d f ha hb hc hd hf he]
        obtain ⟨r, hr, h⟩ := two_way (V 3 0 0 0 0 a b c d f) (3, 0, 0, 0, 0, a, b, c, d, f, 0)
        refine ⟨r, hr, ?_⟩
        rcases h with h | ⟨hv, h⟩
        · exact .inl h
        · exact .inr ⟨_, _, _, _, _, _, _, _, _, _, h, ⟨hv, in0, in0, in0, in0, ha, hb, hc, hd, hf, of_pieces s ⟨#[114, 111, 119]⟩ _ (by rw [← e2, c4, he])⟩⟩
    · rw [j0_no p L hl e4 k hk' 3 5 fun vs h1 h2 h3 => h ⟨vs, h1, h2, h3⟩]
      exact ⟨_, rfl, .inl rfl⟩
  rw [if_neg c4]
  exact three 0 (by decide) (by decide) p rfl fun _ a b d h => by simp [V] at h

theorem V_cases {a0 a1 a2 a3 a4 a5 a6 a7 a8 a9 : Int} (h : V a0 a1 a2 a3 a4 a5 a6 a7 a8 a9 = true) :
    ((a0 = 1 ∨ a0 = 4) ∧ a4 = 0 ∧ a5 = 0 ∧ a6 = 0 ∧ a7 = 0 ∧ a8 = 0 ∧ a9 = 0) ∨ (a0 = 2 ∧ a1 = 0 ∧ a2 = 0 ∧ a3 = 0 ∧ a5 = 0 ∧ a6 = 0 ∧ a7 = 0 ∧ a8 = 0 ∧ a9 = 0) ∨ (a0 = 3 ∧ a1 = 0 ∧ a2 = 0 ∧ a3 = 0 ∧ a4 = 0) := by
  unfold V at h
  split at h
  · rename_i h0
    simp only [Bool.and_eq_true, beq_iff_eq] at h
    exact .inl ⟨h0, h.2.1, h.2.2.1, h.2.2.2.1.1, h.2.2.2.1.2, h.2.2.2.2.1, h.2.2.2.2.2⟩
  · split at h
    · rename_i h0
      simp only [Bool.and_eq_true, beq_iff_eq] at h
      exact .inr (.inl ⟨h0, h.2.1.1, h.2.1.2.1, h.2.1.2.2, h.2.2.1, h.2.2.2.1.1, h.2.2.2.1.2, h.2.2.2.2.1, h.2.2.2.2.2⟩)
    · split at h
      · rename_i h0
        simp only [Bool.and_eq_true, beq_iff_eq] at h
        exact .inr (.inr ⟨h0, h.2.1.1, h.2.1.2.1, h.2.1.2.2, h.2.2⟩)
      · cases h

/-- The text of a message is read as it. -/
theorem read_of (s : ByteArray) (hs : s.size ≤ 4294967280) (k : Nat) (hk : s.size + 1 ≤ k + 2) {a0 a1 a2 a3 a4 a5 a6 a7 a8 a9 : Int} (h : Tx s a0 a1 a2 a3 a4 a5 a6 a7 a8 a9) :
    message_Read.f (k + 3) s = some (a0, a1, a2, a3, a4, a5, a6, a7, a8, a9, 0) := by
  obtain ⟨hv, h1, h2, h3, h4, h5, h6, h7, h8, h9, ht⟩ := h
  obtain ⟨p, L, e1, e2, e3, e4⟩ := parts s hs
  have hl : L.length ≤ 4294967290 := by omega
  have hk' : L.length + 1 ≤ k + 2 := by omega
  unfold message_Read.f
  rw [e1, Option.bind_some, if_pos (by simp), show rdOf ByteArray.empty (p :: L) 0 = p from rfl, toList_data]
  rcases V_cases hv with ⟨rfl | rfl, rfl, rfl, rfl, rfl, rfl, rfl⟩ | ⟨rfl, rfl, rfl, rfl, rfl, rfl, rfl, rfl, rfl⟩ | ⟨rfl, rfl, rfl, rfl, rfl⟩
  · have hp := pieces ⟨#[114, 101, 99, 111, 114, 100]⟩ (by decide) [a1, a2, a3]
    rw [show textB ⟨#[114, 101, 99, 111, 114, 100]⟩ [a1, a2, a3] = s from ht, ← e2] at hp
    obtain ⟨p1, p2⟩ := List.cons.inj hp
    rw [p1, if_pos rfl, j0_three p L hl e4 k hk' 1 (by decide) (by decide) a1 a2 a3 h1 h2 h3 p2, if_pos hv]
  · have hp := pieces ⟨#[108, 97, 116, 101]⟩ (by decide) [a1, a2, a3]
    rw [show textB ⟨#[108, 97, 116, 101]⟩ [a1, a2, a3] = s from ht, ← e2] at hp
    obtain ⟨p1, p2⟩ := List.cons.inj hp
    rw [p1, if_neg (by decide), if_pos rfl, j0_three p L hl e4 k hk' 4 (by decide) (by decide) a1 a2 a3 h1 h2 h3 p2, if_pos hv]
  · have hp := pieces ⟨#[109, 97, 114, 107]⟩ (by decide) [a4]
    rw [show textB ⟨#[109, 97, 114, 107]⟩ [a4] = s from ht, ← e2] at hp
    obtain ⟨p1, p2⟩ := List.cons.inj hp
    rw [p1, if_neg (by decide), if_neg (by decide), if_pos rfl, j0_one p L hl e4 k hk' a4 h4 p2, if_pos hv]
  · have hp := pieces ⟨#[114, 111, 119]⟩ (by decide) [a5, a6, a7, a8, a9]
    rw [show textB ⟨#[114, 111, 119]⟩ [a5, a6, a7, a8, a9] = s from ht, ← e2] at hp
    obtain ⟨p1, p2⟩ := List.cons.inj hp
    rw [p1, if_neg (by decide), if_neg (by decide), if_neg (by decide), if_pos rfl, j0_five p L hl e4 k hk' a5 a6 a7 a8 a9 h5 h6 h7 h8 h9 p2, if_pos hv]
end Go.Proofs.YtdcigijklknjaaaDoor.PureRead
