/- says, bad, none and alive of the laws of messages, in plain Lean. -/
import Derived.Test.YtdcigijklknjaaaDoorPureRead
import Derived.Test.YtdcigijklknjaaaDoorPureTextB
import Derived.Test.YtdcigijklknjaaaDoorMwc
namespace Go.Proofs.YtdcigijklknjaaaDoor.PureSays
open Go.RowKit Go.Proofs.YtdcigijklknjaaaDoor.Mw Go.Proofs.YtdcigijklknjaaaDoor.Nums Go.Proofs.YtdcigijklknjaaaDoor.PureMsg Go.Proofs.YtdcigijklknjaaaDoor.PureSaid Go.Proofs.YtdcigijklknjaaaDoor.PureTells Go.Proofs.YtdcigijklknjaaaDoor.PureSplit Go.Proofs.YtdcigijklknjaaaDoor.PureRead Go.Proofs.YtdcigijklknjaaaDoorW.PrintWords
open Go.Lib hiding toList_data

theorem text_yes (k : Nat) {s : ByteArray} {a0 a1 a2 a3 a4 a5 a6 a7 a8 a9 : Int} (h : Tx s a0 a1 a2 a3 a4 a5 a6 a7 a8 a9) : message_Text.f (k + 1) a0 a1 a2 a3 a4 a5 a6 a7 a8 a9 = some (s, 0) := by
  rw [text_eq k a0 a1 a2 a3 a4 a5 a6 a7 a8 a9 h.h1 h.h2 h.h3 h.h4 h.h5 h.h6 h.h7 h.h8 h.h9, if_pos h.v, h.t]
theorem says_yes (k : Nat) {s : ByteArray} {a0 a1 a2 a3 a4 a5 a6 a7 a8 a9 : Int} (h : Tx s a0 a1 a2 a3 a4 a5 a6 a7 a8 a9) (hs : s.size ≤ 4294967280) (hk : s.size + 1 ≤ k + 2) :
    tailwaterlaw25_says.f (k + 3) a0 a1 a2 a3 a4 a5 a6 a7 a8 a9 s = some true := by
  unfold tailwaterlaw25_says.f
  rw [text_yes (k + 2) h, read_of s hs k hk h]
  simp only [Option.bind_some, if_true, beq_self_eq_true, Bool.and_self]
theorem itoa_small (u : Nat) (h : u < 10) : itoa u = [UInt8.ofNat (48 + u)] := by
  unfold itoa
  rw [if_neg (by omega)]
  exact dec_small _ (by omega)

theorem alive_eq (k : Nat) (hk : 60 ≤ k) : tailwaterlaw25_alive.f k = some true := by
  obtain ⟨k, rfl⟩ : ∃ q, k = q + 3 := ⟨k - 3, by omega⟩
  unfold tailwaterlaw25_alive.f
  rw [says_yes k (s := ⟨#[114, 101, 99, 111, 114, 100, 32, 55, 32, 45, 51, 32, 53]⟩) ⟨by decide, by unfold inR; decide, by unfold inR; decide, by unfold inR; decide, by unfold inR; decide, by unfold inR; decide, by unfold inR; decide, by unfold inR; decide, by unfold inR; decide, by unfold inR; decide, by decide +kernel⟩ (by decide) (by show 13 + 1 ≤ _; omega)]
  rw [says_yes k (s := ⟨#[109, 97, 114, 107, 32, 57, 50, 50, 51, 51, 55, 50, 48, 51, 54, 56, 53, 52, 55, 55, 53, 56, 48, 55]⟩) ⟨by decide, by unfold inR; decide, by unfold inR; decide, by unfold inR; decide, by unfold inR; decide, by unfold inR; decide, by unfold inR; decide, by unfold inR; decide, by unfold inR; decide, by unfold inR; decide, by decide +kernel⟩ (by decide) (by show 24 + 1 ≤ _; omega)]
  rfl
theorem text_size {s : ByteArray} {a0 a1 a2 a3 a4 a5 a6 a7 a8 a9 : Int} (h : Tx s a0 a1 a2 a3 a4 a5 a6 a7 a8 a9) : s.size ≤ 116 := by
  have go (w : ByteArray) (l : List Int) (ht : Telling w l) : (textB w l).size ≤ 116 := by
    obtain ⟨t1, t2, t3⟩ := ht
    have hf := flat_len l t1
    show (w.data.toList ++ flat l).toArray.size ≤ 116
    rw [List.size_toArray, List.length_append, Array.length_toList]
    have : w.data.size = w.size := rfl
    omega
  rw [← h.t]
  unfold msgText
  split
  · exact go _ _ (telling3 _ (by decide) _ _ _ h.h1 h.h2 h.h3)
  · split
    · exact go _ _ (telling1 _ (by decide) _ h.h4)
    · split
      · exact go _ _ (telling5 _ (by decide) _ _ _ _ _ h.h5 h.h6 h.h7 h.h8 h.h9)
      · exact go _ _ (telling3 _ (by decide) _ _ _ h.h1 h.h2 h.h3)
end Go.Proofs.YtdcigijklknjaaaDoor.PureSays
