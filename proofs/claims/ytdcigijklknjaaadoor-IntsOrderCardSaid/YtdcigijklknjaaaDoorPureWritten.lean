/- The law IntsWritten, in plain Lean: what is written is read again, with noughts ahead of it too; two numbers are written alike only where they are one. -/
import Derived.Test.YtdcigijklknjaaaDoorPureInts
import Derived.Test.YtdcigijklknjaaaDoorMyx16
namespace Go.Proofs.YtdcigijklknjaaaDoor.PureWritten
open Go.RowKit Go.Proofs.YtdcigijklknjaaaDoor.My Go.Proofs.YtdcigijklknjaaaDoor.PureInts Go.Proofs.YtdcigijklknjaaaDoor.Nums Go.Lib Go.Proofs.YtdcigijklknjaaaDoorW.PrintWords Go.Proofs.YtdcigijklknjaaaDoorW.PrintLast Go.Proofs.YtdcigijklknjaaaDoorW.PrintMore

theorem alive_eq : tailwaterlaw01_alive.f = some true := by
  unfold tailwaterlaw01_alive.f
  rw [read_eq _ (by decide)]
  have h : rdN (⟨#[48, 48, 55]⟩ : ByteArray).data.toList = (7, 0) := by
    unfold rdN
    rw [if_neg (by decide), if_pos (by intro c hc; revert c; unfold dig; decide)]
    rfl
  rw [h]
  decide +kernel

/-- Noughts ahead. -/
def ahead (z : Nat) : ByteArray := ⟨(List.replicate z (48 : UInt8)).toArray⟩
theorem ahead_size (z : Nat) : (ahead z).size = z := by
  show (List.replicate z (48 : UInt8)).toArray.size = z
  simp
theorem ahead_more (z : Nat) : ahead z ++ (⟨#[48]⟩ : ByteArray) = ahead (z + 1) := by
  have := ba_append (List.replicate z 48) [48]
  rw [← List.replicate_succ'] at this
  exact this
theorem val_ahead (z a : Nat) (h : a = 0) : val (List.replicate z (48 : UInt8)) a = 0 := by
  induction z generalizing a with
  | zero => exact h
  | succ z ih =>
    rw [List.replicate_succ, val_cons]
    exact ih _ (by subst h; decide)

theorem read_back (x0 : Int) (h : -9223372036854775808 ≤ x0 ∧ x0 ≤ 9223372036854775807) (z : Nat) :
    rdN (List.replicate z (48 : UInt8) ++ itoa x0) = if x0 < 0 then (0, 12) else (x0, 0) := by
  unfold rdN
  rw [if_neg (by simp [itoa_ne])]
  by_cases hn : x0 < 0
  · rw [if_pos hn, if_neg]
    intro z0
    have : dig 45 := z0 45 (by unfold itoa; rw [if_pos hn]; simp)
    revert this; unfold dig; decide
  · rw [if_neg hn]
    obtain ⟨d1, d2, d3⟩ := dec_digits x0.toNat
    have e : itoa x0 = decDigits x0.toNat := by unfold itoa; rw [if_neg hn]
    rw [e, val_append, val_ahead z 0 rfl, d3]
    rw [if_pos, if_pos (by omega)]
    · rw [show ((x0.toNat : Nat) : Int) = x0 by omega]
    · intro c hc
      rcases List.mem_append.1 hc with hc | hc
      · obtain ⟨_, rfl⟩ := List.mem_replicate.1 hc
        unfold dig; decide
      · exact d1 c hc

theorem l0_eq (x0 : Int) (h : -9223372036854775808 ≤ x0 ∧ x0 ≤ 9223372036854775807) (d : Nat) : ∀ (k : Nat) (x2 : Int) (z : Nat), x2.toNat - z = d → x2 ≤ 30 → (z : Int) ≤ x2 → d < k →
    tailwaterlaw01_IntsWritten.l0 k x0 x2 ⟨(itoa x0).toArray⟩ (ahead z) z = some true := by
  induction d with
  | zero =>
    intro k x2 z h1 h2 h3 hk
    obtain ⟨k, rfl⟩ : ∃ m, k = m + 1 := ⟨k - 1, by omega⟩
    simp only [tailwaterlaw01_IntsWritten.l0]
    have hz := itoa_size x0 h
    rw [if_neg (by omega), ahead_size, if_pos (by omega)]
    unfold ahead
    rw [ba_append, read_eq _ (by show (List.replicate z 48 ++ itoa x0).toArray.size ≤ _
                                 have : (itoa x0).toArray.size ≤ 21 := hz
                                 simp at this ⊢; omega)]
    rw [show (⟨(List.replicate z (48 : UInt8) ++ itoa x0).toArray⟩ : ByteArray).data.toList = List.replicate z (48 : UInt8) ++ itoa x0 from by simp, read_back x0 h z]
    simp only [Option.bind_some]
    by_cases hn : x0 < 0
    · simp only [if_pos hn]
      have e : itoa x0 = 45 :: decDigits x0.natAbs := by unfold itoa; rw [if_pos hn]
      rw [e, if_pos trivial, if_pos (by show (0 : Int) < ((45 :: decDigits x0.natAbs).toArray.size : Nat); simp), if_pos (by unfold bt; rw [dif_pos (show (0 : Int).toNat < (⟨(45 :: decDigits x0.natAbs).toArray⟩ : ByteArray).size by show _ < (45 :: decDigits x0.natAbs).toArray.size; simp)]; rfl), alive_eq]
      rfl
    · simp only [if_neg hn]
      rw [if_pos trivial, if_pos trivial, alive_eq]
      rfl
  | succ d ih =>
    intro k x2 z h1 h2 h3 hk
    obtain ⟨k, rfl⟩ : ∃ m, k = m + 1 := ⟨k - 1, by omega⟩
    simp only [tailwaterlaw01_IntsWritten.l0]
    rw [if_pos (by omega), ahead_size, if_pos (by omega), ahead_more, show wrap64 ((z : Int) + 1) = ((z + 1 : Nat) : Int) by rw [wrap_in _ (by omega)]; omega]
    exact ih k x2 (z + 1) (by omega) h2 (by omega) (by omega)

theorem holds : tailwaterlaw01_IntsWritten.Pure := by
  intro a0 a1 a2 w0 w1 w2
  refine ⟨100, ?_⟩
  unfold tailwaterlaw01_IntsWritten.f
  have out : tailwaterlaw01_IntsWritten.j0 (99 + 1) a0 a1 a2 true = some true := by
    simp only [tailwaterlaw01_IntsWritten.j0]
    rw [if_pos trivial, alive_eq]
    rfl
  by_cases h0 : a2 < 0
  · rw [if_pos h0]; exact out
  · rw [if_neg h0]
    by_cases h1 : a2 > 30
    · rw [decide_eq_true h1]; exact out
    · rw [decide_eq_false h1]
      show tailwaterlaw01_IntsWritten.j0 (99 + 1) a0 a1 a2 false = some true
      simp only [tailwaterlaw01_IntsWritten.j0]
      rw [if_neg (by decide), text_eq a0 (of_wf w0), text_eq a1 (of_wf w1)]
      simp only [Option.bind_some]
      have tl (n : Int) : (⟨(itoa n).toArray⟩ : ByteArray).toList = itoa n := by rw [ByteArray.toList_eq]
      have hsame : (itoa a0 == itoa a1) = (a0 == a1) := by
        by_cases e : a0 = a1
        · subst e; simp
        · rw [beq_eq_false_iff_ne.2 e, beq_eq_false_iff_ne.2 (fun z => e (itoa_inj z))]
      rw [tl, tl, hsame, if_neg (by simp), beq_eq_false_iff_ne.2 (itoa_ne a0)]
      show tailwaterlaw01_IntsWritten.j1 (98 + 1) a0 a2 _ false = some true
      simp only [tailwaterlaw01_IntsWritten.j1]
      rw [if_neg (by decide)]
      exact l0_eq a0 (of_wf w0) (a2.toNat) 98 a2 0 (by omega) (by omega) (by omega) (by omega)
end Go.Proofs.YtdcigijklknjaaaDoor.PureWritten
