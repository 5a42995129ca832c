/- What a builder is told: a word, and numbers, each behind a blank, in decimals; what it holds after some of them. -/
import Derived.Lib.ItoaLen
import Derived.Lib.UnsafeStr
namespace Go.Proofs.YtdcigijklknjaaaDoor

def flat (l : List Int) : List UInt8 := l.flatMap fun n => 32 :: Lib.itoa n
def textB (word : ByteArray) (l : List Int) : ByteArray := ⟨(word.data.toList ++ flat l).toArray⟩
/-- The numbers are numbers of 64 bits, and few; the word is short. -/
def Telling (word : ByteArray) (l : List Int) : Prop := (∀ n ∈ l, -9223372036854775808 ≤ n ∧ n ≤ 9223372036854775807) ∧ l.length ≤ 5 ∧ word.size ≤ 6
instance (word : ByteArray) (l : List Int) : Decidable (Telling word l) := inferInstanceAs (Decidable (_ ∧ _ ∧ _))
def telling (word : ByteArray) (l : List Int) : Bool := decide (Telling word l)
theorem flat_step (l : List Int) (i : Nat) (h : i < l.length) : flat (l.take (i + 1)) = flat (l.take i) ++ (32 :: Lib.itoa l[i]) := by
  unfold flat
  rw [List.take_succ_eq_append_getElem h, List.flatMap_append]
  simp
theorem flat_len (l : List Int) (hl : ∀ n ∈ l, -9223372036854775808 ≤ n ∧ n ≤ 9223372036854775807) : (flat l).length ≤ 22 * l.length := by
  induction l with
  | nil => simp [flat]
  | cons n l ih =>
    have h1 := ih fun m hm => hl m (List.mem_cons_of_mem _ hm)
    obtain ⟨h2, h3⟩ := hl n List.mem_cons_self
    have h4 := Lib.itoa_length_le n h2 h3
    show (flat (n :: l)).length ≤ _
    have e : flat (n :: l) = (32 :: Lib.itoa n) ++ flat l := by simp [flat]
    rw [e, List.length_append, List.length_cons, List.length_cons]
    omega
end Go.Proofs.YtdcigijklknjaaaDoor
