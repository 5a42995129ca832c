/- What a message's text is. -/
import Derived.Test.YtdcigijklknjaaaDoorPureMsgA
import Derived.Test.YtdcigijklknjaaaDoorPureSaidA
namespace Go.Proofs.YtdcigijklknjaaaDoor.PureTells
open Go.RowKit Go.Proofs.YtdcigijklknjaaaDoor.Mw Go.Proofs.YtdcigijklknjaaaDoor.PureMsg Go.Proofs.YtdcigijklknjaaaDoor.PureSaid

def inR (n : Int) : Prop := -9223372036854775808 ≤ n ∧ n ≤ 9223372036854775807
def msgText (a0 a1 a2 a3 a4 a5 a6 a7 a8 a9 : Int) : ByteArray :=
  if a0 = 4 then textB ⟨#[108, 97, 116, 101]⟩ [a1, a2, a3] else if a0 = 2 then textB ⟨#[109, 97, 114, 107]⟩ [a4] else if a0 = 3 then textB ⟨#[114, 111, 119]⟩ [a5, a6, a7, a8, a9] else textB ⟨#[114, 101, 99, 111, 114, 100]⟩ [a1, a2, a3]
theorem telling1 (w : ByteArray) (hw : w.size ≤ 6) (a : Int) (ha : inR a) : Telling w [a] := ⟨by intro n hn; simp at hn; subst hn; exact ha, by simp, hw⟩
theorem telling3 (w : ByteArray) (hw : w.size ≤ 6) (a b c : Int) (ha : inR a) (hb : inR b) (hc : inR c) : Telling w [a, b, c] :=
  ⟨by intro n hn; simp at hn; rcases hn with rfl | rfl | rfl <;> assumption, by simp, hw⟩
theorem telling5 (w : ByteArray) (hw : w.size ≤ 6) (a b c d e : Int) (ha : inR a) (hb : inR b) (hc : inR c) (hd : inR d) (he : inR e) : Telling w [a, b, c, d, e] :=
  ⟨by intro n hn; simp at hn; rcases hn with rfl | rfl | rfl | rfl | rfl <;> assumption, by simp, hw⟩
theorem telling_b {w : ByteArray} {l : List Int} (h : Telling w l) : telling w l = true := decide_eq_true h
end Go.Proofs.YtdcigijklknjaaaDoor.PureTells
