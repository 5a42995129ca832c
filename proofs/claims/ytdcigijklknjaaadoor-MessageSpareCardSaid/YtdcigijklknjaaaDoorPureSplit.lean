/- A text cut at its blanks, without any program: the library's pieces are those of a plain recursion; they bear no blank, and joined by blanks they are the text again; a word and numbers, each behind a blank, are cut into the word and the numbers. -/
import Derived.Lib.SplitLaws
import Derived.Test.YtdcigijklknjaaaDoorTextB
import Derived.Test.YtdcigijklknjaaaDoorNums
namespace Go.Proofs.YtdcigijklknjaaaDoor.PureSplit
open Go.Lib Go.Proofs.YtdcigijklknjaaaDoor.Nums

def splitL : List UInt8 → List (List UInt8)
  | [] => [[]]
  | b :: l => if b = 32 then [] :: splitL l else (b :: (splitL l).headD []) :: (splitL l).tail
def joinL : List (List UInt8) → List UInt8
  | [] => []
  | p :: ps => p ++ ps.flatMap fun q => 32 :: q

theorem splitL_ne (l : List UInt8) : splitL l ≠ [] := by
  cases l with
  | nil => simp [splitL]
  | cons b l => unfold splitL; split <;> simp
theorem splitL_eq (l : List UInt8) : ∃ p ps, splitL l = p :: ps := by
  cases h : splitL l with
  | nil => exact absurd h (splitL_ne l)
  | cons p ps => exact ⟨p, ps, rfl⟩
theorem splitL_blank (l : List UInt8) : splitL (32 :: l) = [] :: splitL l := by rw [splitL, if_pos rfl]
theorem splitL_other (b : UInt8) (l : List UInt8) (h : b ≠ 32) (p : List UInt8) (ps : List (List UInt8)) (e : splitL l = p :: ps) : splitL (b :: l) = (b :: p) :: ps := by
  rw [splitL, if_neg h, e]; rfl

theorem splitL_none (l : List UInt8) (h : 32 ∉ l) : splitL l = [l] := by
  induction l with
  | nil => rfl
  | cons b l ih =>
    rw [splitL_other b l (fun e => h (by rw [e]; exact List.mem_cons_self)) l [] (ih fun z => h (List.mem_cons_of_mem _ z))]
theorem splitL_app (p : List UInt8) (h : 32 ∉ p) (r : List UInt8) : splitL (p ++ 32 :: r) = p :: splitL r := by
  induction p with
  | nil => exact splitL_blank r
  | cons b p ih =>
    exact splitL_other b (p ++ 32 :: r) (fun e => h (by rw [e]; exact List.mem_cons_self)) p (splitL r) (ih fun z => h (List.mem_cons_of_mem _ z))
theorem splitL_no (l : List UInt8) : ∀ p ∈ splitL l, 32 ∉ p := by
  induction l with
  | nil => intro p hp; simp [splitL] at hp; subst hp; simp
  | cons b l ih =>
    obtain ⟨q, qs, e⟩ := splitL_eq l
    by_cases h : b = 32
    · subst h
      rw [splitL_blank]
      intro p hp
      rcases List.mem_cons.1 hp with rfl | hp
      · simp
      · exact ih p hp
    · rw [splitL_other b l h q qs e]
      intro p hp
      rcases List.mem_cons.1 hp with rfl | hp
      · intro z
        rcases List.mem_cons.1 z with z | z
        · exact h z.symm
        · exact ih q (by rw [e]; exact List.mem_cons_self) z
      · exact ih p (by rw [e]; exact List.mem_cons_of_mem _ hp)
theorem join_split (l : List UInt8) : joinL (splitL l) = l := by
  induction l with
  | nil => rfl
  | cons b l ih =>
    obtain ⟨q, qs, e⟩ := splitL_eq l
    rw [e] at ih
    by_cases h : b = 32
    · subst h
      rw [splitL_blank, e]
      show [] ++ ((32 :: q) ++ qs.flatMap fun q => 32 :: q) = _
      have : joinL (q :: qs) = q ++ qs.flatMap fun q => 32 :: q := rfl
      rw [this] at ih
      simp [ih]
    · rw [splitL_other b l h q qs e]
      have : joinL (q :: qs) = q ++ qs.flatMap fun q => 32 :: q := rfl
      rw [this] at ih
      show (b :: q) ++ (qs.flatMap fun q => 32 :: q) = _
      simp [ih]

theorem splitL_len (l : List UInt8) : (splitL l).length ≤ l.length + 1 := by
  induction l with
  | nil => simp [splitL]
  | cons b l ih =>
    obtain ⟨q, qs, e⟩ := splitL_eq l
    by_cases h : b = 32
    · subst h; rw [splitL_blank]; simp; omega
    · rw [splitL_other b l h q qs e]; rw [e] at ih; simp at ih ⊢; omega
theorem splitL_mem (l : List UInt8) : ∀ p ∈ splitL l, p.length ≤ l.length := by
  induction l with
  | nil => intro p hp; simp [splitL] at hp; subst hp; simp
  | cons b l ih =>
    obtain ⟨q, qs, e⟩ := splitL_eq l
    intro p hp
    by_cases h : b = 32
    · subst h
      rw [splitL_blank] at hp
      rcases List.mem_cons.1 hp with rfl | hp
      · simp
      · have := ih p hp; simp; omega
    · rw [splitL_other b l h q qs e] at hp
      rcases List.mem_cons.1 hp with rfl | hp
      · have := ih q (by rw [e]; exact List.mem_cons_self); simp; omega
      · have := ih p (by rw [e]; exact List.mem_cons_of_mem _ hp); simp; omega

theorem count_blank (l : List UInt8) : count l [32] = l.count 32 := count_one 32 l
theorem index_nil32 : index [] [32] = -1 := by simp [index]
theorem index_blank (l : List UInt8) : index (32 :: l) [32] = 0 := by rw [index]; simp [List.isPrefixOf]
theorem index_other (b : UInt8) (l : List UInt8) (h : b ≠ 32) : index (b :: l) [32] = if index l [32] == -1 then -1 else index l [32] + 1 := by
  have hp : ([32] : List UInt8).isPrefixOf (b :: l) = false := by simp [List.isPrefixOf, Ne.symm h]
  rw [index, hp]; simp
theorem index_miss32 (l : List UInt8) (h : index l [32] = -1) : l.count 32 = 0 := by
  rw [← count_blank]; exact count_miss h
theorem index_hit32 (l : List UInt8) (h : ¬ index l [32] = -1) : ∃ c, l.count 32 = c + 1 := by
  obtain ⟨j, hj⟩ : ∃ j : Nat, index l [32] = j := ⟨(index l [32]).toNat, by have := index_ge l [32]; omega⟩
  have := count_hit (s := l) (sub := [32]) (by simp) hj
  rw [count_blank] at this
  exact ⟨_, by rw [this, Nat.add_comm]⟩

theorem splitK_eq (l : List UInt8) : splitK [32] 0 (l.count 32) l = splitL l := by
  induction l with
  | nil => rfl
  | cons b l ih =>
    by_cases h : b = 32
    · subst h
      rw [List.count_cons_self, splitK, index_blank, if_neg (by decide), splitL_blank]
      show _ :: splitK [32] 0 (l.count 32) l = _
      rw [ih]; rfl
    · rw [List.count_cons_of_ne h]
      by_cases hm : index l [32] = -1
      · have hc := index_miss32 l hm
        rw [hc] at ih ⊢
        exact (splitL_other b l h l [] ih.symm).symm
      · obtain ⟨c, hc⟩ := index_hit32 l hm
        have hge := index_ge l [32]
        rw [hc] at ih ⊢
        rw [splitK, if_neg (by simpa using hm)] at ih
        have e0 : index (b :: l) [32] = index l [32] + 1 := by rw [index_other b l h, if_neg (by simpa using hm)]
        rw [splitK, e0, if_neg (by simp; omega)]
        rw [splitL_other b l h _ _ ih.symm]
        have e1 : (index l [32] + 1).toNat = (index l [32]).toNat + 1 := by omega
        rw [e1]
        rfl

/-- The library's pieces of a text. -/
theorem splitB_eq (s : ByteArray) : (splitB ⟨#[32]⟩ 0 (countB s ⟨#[32]⟩) s).map (·.data.toList) = splitL s.data.toList := by
  rw [splitB_data]
  show splitK [32] 0 (count s.data.toList [32]) s.data.toList = _
  rw [count_blank, splitK_eq]

theorem itoa_blank (n : Int) : (32 : UInt8) ∉ itoa n := by
  have hd (u : Nat) : (32 : UInt8) ∉ decDigits u := fun z => by
    have := (dec_digits u).1 32 z
    revert this; unfold dig; decide
  unfold itoa
  split
  · intro z
    rcases List.mem_cons.1 z with z | z
    · revert z; decide
    · exact hd _ z
  · exact hd _
theorem splitL_flat (p : List UInt8) (h : 32 ∉ p) (l : List Int) : splitL (p ++ flat l) = p :: l.map itoa := by
  induction l generalizing p with
  | nil => simp [flat]; exact splitL_none p h
  | cons n l ih =>
    have e : flat (n :: l) = 32 :: (itoa n ++ flat l) := by simp [flat]
    rw [e, splitL_app p h, ih _ (itoa_blank n)]
    rfl
theorem join_flat (p : List UInt8) (l : List Int) : joinL (p :: l.map itoa) = p ++ flat l := by
  show p ++ (l.map itoa).flatMap (fun q => 32 :: q) = _
  unfold flat
  rw [List.flatMap_map]
end Go.Proofs.YtdcigijklknjaaaDoor.PureSplit
