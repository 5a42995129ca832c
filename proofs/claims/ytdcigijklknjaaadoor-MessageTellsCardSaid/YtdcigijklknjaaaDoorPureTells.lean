/- What message.Text and Of and their references answer; the law MessageTells, in plain Lean. -/
import Derived.Test.YtdcigijklknjaaaDoorPureMsg
import Derived.Test.YtdcigijklknjaaaDoorPureSaid
import Derived.Test.YtdcigijklknjaaaDoorMwx31
namespace Go.Proofs.YtdcigijklknjaaaDoor.PureTells
open Go.RowKit Go.Proofs.YtdcigijklknjaaaDoor.Mw Go.Proofs.YtdcigijklknjaaaDoor.PureMsg Go.Proofs.YtdcigijklknjaaaDoor.PureSaid

def inR (n : Int) : Prop := -9223372036854775808 ≤ n ∧ n ≤ 9223372036854775807
def msgText (a0 a1 a2 a3 a4 a5 a6 a7 a8 a9 : Int) : ByteArray :=
  if a0 = 4 then textB ⟨#[108, 97, 116, 101]⟩ [a1, a2, a3] else if a0 = 2 then textB ⟨#[109, 97, 114, 107]⟩ [a4] else if a0 = 3 then textB ⟨#[114, 111, 119]⟩ [a5, a6, a7, a8, a9] else textB ⟨#[114, 101, 99, 111, 114, 100]⟩ [a1, a2, a3]
theorem telling1 (w : ByteArray) (hw : w.size ≤ 6) (a : Int) (ha : inR a) : Telling w [a] := ⟨by intro n hn; simp at hn; subst hn; exact ha, by simp, hw⟩
theorem telling3 (w : ByteArray) (hw : w.size ≤ 6) (a b c : Int) (ha : inR a) (hb : inR b) (hc : inR c) : Telling w [a, b, c] :=
  ⟨by intro n hn; simp at hn; rcases hn with rfl | rfl | rfl <;> assumption, by simp, hw⟩
theorem telling5 (w : ByteArray) (hw : w.size ≤ 6) (a b c d e : Int) (ha : inR a) (hb : inR b) (hc : inR c) (hd : inR d) (he : inR e) : Telling w [a, b, c, d, e] :=
  ⟨by intro n hn; simp at hn; rcases hn with rfl | rfl | rfl | rfl | rfl <;> assumption, by simp, hw⟩
theorem telling_b {w : ByteArray} {l : List Int} (h : Telling w l) : telling w l = true := decide_eq_true h

section
variable (k : Nat) (a0 a1 a2 a3 a4 a5 a6 a7 a8 a9 : Int) (h1 : inR a1) (h2 : inR a2) (h3 : inR a3) (h4 : inR a4) (h5 : inR a5) (h6 : inR a6) (h7 : inR a7) (h8 : inR a8) (h9 : inR a9)
include h1 h2 h3 h4 h5 h6 h7 h8 h9
theorem text_eq : message_Text.f (k + 1) a0 a1 a2 a3 a4 a5 a6 a7 a8 a9 = some (if V a0 a1 a2 a3 a4 a5 a6 a7 a8 a9 = true then (msgText a0 a1 a2 a3 a4 a5 a6 a7 a8 a9, 0) else (⟨#[]⟩, 8)) := by
  unfold message_Text.f
  rw [check_eq, Option.bind_some]
  by_cases hv : V a0 a1 a2 a3 a4 a5 a6 a7 a8 a9 = true
  · rw [if_pos hv, if_pos hv, if_pos rfl, Option.bind_some]
    unfold msgText
    simp only [message_Text.j0]
    by_cases e4 : a0 = 4
    · rw [if_pos e4, if_pos e4, if_pos (telling_b (telling3 _ (by decide) _ _ _ h1 h2 h3))]
    · rw [if_neg e4, if_neg e4]
      by_cases e2 : a0 = 2
      · rw [if_pos e2, if_pos e2, if_pos (telling_b (telling1 _ (by decide) _ h4))]
      · rw [if_neg e2, if_neg e2]
        by_cases e3 : a0 = 3
        · rw [if_pos e3, if_pos e3, if_pos (telling_b (telling5 _ (by decide) _ _ _ _ _ h5 h6 h7 h8 h9))]
        · rw [if_neg e3, if_neg e3, if_pos (telling_b (telling3 _ (by decide) _ _ _ h1 h2 h3))]
  · rw [if_neg hv, if_neg hv, if_neg (by decide)]
theorem rwritten_eq (hk : 66 ≤ k) (hv : V a0 a1 a2 a3 a4 a5 a6 a7 a8 a9 = true) : tailwaterref25_Written.f k a0 a1 a2 a3 a4 a5 a6 a7 a8 a9 = some (msgText a0 a1 a2 a3 a4 a5 a6 a7 a8 a9) := by
  have h0 : a0 = 1 ∨ a0 = 2 ∨ a0 = 3 ∨ a0 = 4 := by
    unfold V at hv
    split at hv
    · omega
    · split at hv
      · omega
      · split at hv
        · omega
        · cases hv
  unfold tailwaterref25_Written.f msgText
  rw [said_eq k _ _ (telling3 ⟨#[114, 101, 99, 111, 114, 100]⟩ (by decide) _ _ _ h1 h2 h3) hk, said_eq k _ _ (telling1 ⟨#[109, 97, 114, 107]⟩ (by decide) _ h4) hk, said_eq k _ _ (telling5 ⟨#[114, 111, 119]⟩ (by decide) _ _ _ _ _ h5 h6 h7 h8 h9) hk, said_eq k _ _ (telling3 ⟨#[108, 97, 116, 101]⟩ (by decide) _ _ _ h1 h2 h3) hk]
  simp only [Option.bind_some]
  rcases h0 with rfl | rfl | rfl | rfl <;> rfl
theorem rtext_eq' (hk : 66 ≤ k) : tailwaterref25_Text.f k a0 a1 a2 a3 a4 a5 a6 a7 a8 a9 = some (if V a0 a1 a2 a3 a4 a5 a6 a7 a8 a9 = true then (msgText a0 a1 a2 a3 a4 a5 a6 a7 a8 a9, 0) else (⟨#[]⟩, 8)) := by
  obtain ⟨m, rfl⟩ : ∃ m, k = m + 1 := ⟨k - 1, by omega⟩
  unfold tailwaterref25_Text.f
  rw [valid_eq, Option.bind_some]
  by_cases hv : V a0 a1 a2 a3 a4 a5 a6 a7 a8 a9 = true
  · rw [if_pos hv, if_pos hv, rwritten_eq (m + 1) a0 a1 a2 a3 a4 a5 a6 a7 a8 a9 h1 h2 h3 h4 h5 h6 h7 h8 h9 hk hv, Option.bind_some]
  · rw [if_neg hv, if_neg hv]
end
/-- A right event. -/
def E (b : Bool) (a1 a2 a3 a4 : Int) : Bool := if b = true then mk a1 && (a2 == 0 && (a3 == 0 && (a4 == 0))) else (a1 == 0) && tm a3
def ofV (b : Bool) (a1 a2 a3 a4 : Int) : Int × Int × Int × Int × Int × Int × Int × Int × Int × Int × Int :=
  if E b a1 a2 a3 a4 = true then (if b = true then (2, 0, 0, 0, a1, 0, 0, 0, 0, 0, 0) else (1, a2, a3, a4, 0, 0, 0, 0, 0, 0, 0)) else (0, 0, 0, 0, 0, 0, 0, 0, 0, 0, 8)
theorem of_eq (k : Nat) (b : Bool) (a1 a2 a3 a4 : Int) : message_Of.f (k + 1) b a1 a2 a3 a4 = some (ofV b a1 a2 a3 a4) := by
  unfold message_Of.f ofV E
  rw [isMark_eq, isTime_eq]
  simp only [message_Of.j0, Option.bind_some]
  cases b
  · simp only [Bool.false_eq_true, if_false]
    by_cases e : a1 = 0
    · rw [if_pos e, beq_iff_eq.2 e, Bool.true_and]
      cases tm a3 <;> rfl
    · rw [if_neg e, beq_eq_false_iff_ne.2 e, Bool.false_and]
      rfl
  · simp only [if_true]
    generalize mk a1 = p, (a2 == 0) = q2, (a3 == 0) = q3, (a4 == 0) = q4
    cases p <;> cases q2 <;> cases q3 <;> cases q4 <;> rfl
theorem event_eq (k : Nat) (b : Bool) (a1 a2 a3 a4 : Int) : message_Event.f (k + 1) b a1 a2 a3 a4 = some (if E b a1 a2 a3 a4 = true then 0 else 8) := by
  unfold message_Event.f
  rw [of_eq, Option.bind_some]
  unfold ofV
  by_cases h : E b a1 a2 a3 a4 = true
  · rw [if_pos h, if_pos h]
    cases b <;> rfl
  · rw [if_neg h, if_neg h]
theorem revent_eq (b : Bool) (a1 a2 a3 a4 : Int) : tailwaterref25_Event.f b a1 a2 a3 a4 = some (if E b a1 a2 a3 a4 = true then 0 else 8) := by
  unfold tailwaterref25_Event.f E
  rw [rMark_eq, rRight_eq]
  simp only [Option.bind_some]
  cases b
  · simp only [Bool.false_eq_true, if_false]
    by_cases e : a1 = 0
    · rw [if_pos e, beq_iff_eq.2 e, Bool.true_and]
      cases tm a3 <;> rfl
    · rw [if_neg e, beq_eq_false_iff_ne.2 e, Bool.false_and]
      rfl
  · simp only [if_true]
    generalize mk a1 = p, (a2 == 0) = q2, (a3 == 0) = q3, (a4 == 0) = q4
    cases p <;> cases q2 <;> cases q3 <;> cases q4 <;> rfl
theorem rof_eq (b : Bool) (a1 a2 a3 a4 : Int) : tailwaterref25_Of.f b a1 a2 a3 a4 = some (ofV b a1 a2 a3 a4) := by
  unfold tailwaterref25_Of.f ofV
  rw [revent_eq, Option.bind_some]
  by_cases h : E b a1 a2 a3 a4 = true
  · rw [if_pos h, if_pos h, if_pos rfl]
    cases b <;> rfl
  · rw [if_neg h, if_neg h, if_neg (by decide)]

theorem holds : tailwaterlaw25_MessageTells.Pure := by
  intro a0 a1 a2 a3 a4 a5 a6 a7 a8 a9 b b1 b2 b3 b4 w0 w1 w2 w3 w4 w5 w6 w7 w8 w9 v1 v2 v3 v4
  refine ⟨70 + 1, ?_⟩
  unfold tailwaterlaw25_MessageTells.f
  rw [text_eq 70 a0 a1 a2 a3 a4 a5 a6 a7 a8 a9 (of_wf w1) (of_wf w2) (of_wf w3) (of_wf w4) (of_wf w5) (of_wf w6) (of_wf w7) (of_wf w8) (of_wf w9),
    rtext_eq' (70 + 1) a0 a1 a2 a3 a4 a5 a6 a7 a8 a9 (of_wf w1) (of_wf w2) (of_wf w3) (of_wf w4) (of_wf w5) (of_wf w6) (of_wf w7) (of_wf w8) (of_wf w9) (by decide), of_eq, rof_eq, check_eq, rcheck_eq, event_eq, revent_eq]
  simp only [Option.bind_some, beq_self_eq_true, Bool.and_self, if_true]
end Go.Proofs.YtdcigijklknjaaaDoor.PureTells
