/- Each theorem X.calls below says: where the Lean function X.f answers, the Go function X returns that answer, and whatever lay in memory before the call is left as it was. -/
import Derived.Test.YtdcigijklknjaaaDoorMyx0
namespace Go.Proofs.YtdcigijklknjaaaDoor.My
open Go.RowKit Go.Proofs.YtdcigijklknjaaaDoorW.PrintWords Go.Proofs.YtdcigijklknjaaaDoorW.PrintLast Go.Proofs.YtdcigijklknjaaaDoorW.PrintMore
attribute [local go_sem] max2_int min2_int max_two min_two max_three min_three max_four min_four   -- for this text's walks alone
set_option linter.unusedVariables false
set_option linter.unusedSimpArgs false

/-! ### ints_Read: function 28 -/
/-- The ten digits, as bytes. -/
def tenDigits : List UInt8 := [48, 49, 50, 51, 52, 53, 54, 55, 56, 57]
def readNum (l : List UInt8) : Int × Int := match Lib.parseIntB 64 l with
  | .ok v => (v, 0)
  | _ => (0, 16)
def ints_Read.f (a0 : ByteArray) : Option (Int × Int) := if a0.size ≤ 4294967280 then (if a0.data.toList = [] then some (0, 12) else (if Lib.trimS a0.data.toList tenDigits = [] then some (readNum a0.data.toList) else some (0, 12))) else none
theorem str_ne_empty {s : ByteArray} (h : ¬ s.data.toList = []) : (s.toList == ([] : List UInt8)) = false ∧ (!s.toList.isEmpty) = true ∧ ¬ s.toList = [] := by
  have e : s.toList = s.data.toList := ByteArray.toList_eq s
  rw [e]
  refine ⟨by simpa using h, ?_, h⟩
  cases hl : s.data.toList with
  | nil => exact absurd hl h
  | cons a l => rfl
theorem read_call (s : ByteArray) (w : World) (hs : s.size ≤ 4294967280) :
    Calls Tryd.prog 49 #[.string s, .string ⟨#[48, 49, 50, 51, 52, 53, 54, 55, 56, 57]⟩] w fun e w' => e = .returned (.string ⟨(Lib.trimS s.data.toList tenDigits).toArray⟩) ∧ Below w.heap.size w w' :=
  Any.strings_Trim_laid Tryd.lays160 (by kernel_rfl) s ⟨#[48, 49, 50, 51, 52, 53, 54, 55, 56, 57]⟩ w (by omega) (by decide) (ascii_of_all (by decide))
theorem parse_ok (s : ByteArray) (w : World) (hs : s.size ≤ 4294967280) (v : Int) (h : Lib.parseIntB 64 s.data.toList = .ok v) :
    Calls Tryd.prog 50 #[.string s, .int .i64 10, .int .i64 64] w fun e w' => e = .returned (.tuple #[.int .i64 v, .nilIface]) ∧ Below w.heap.size w w' := by
  refine (Tryd.strconv_ParseInt_10_at64_ok s (by omega) v h w).mono ?_
  rintro e w' ⟨rfl, rfl | ⟨t, rfl⟩⟩
  · exact ⟨rfl, Below.refl _ _⟩
  · exact ⟨rfl, Joins.below_bytesWorld _ _ _ _ (Nat.le_refl _)⟩
theorem parse_no (s : ByteArray) (w : World) (hs : s.size ≤ 4294967280) (hT : TabG w) (h : ∀ v, Lib.parseIntB 64 s.data.toList ≠ .ok v) :
    Calls Tryd.prog 50 #[.string s, .int .i64 10, .int .i64 64] w fun e w' => (∃ (n : Int) (N : Nat), e = .returned (.tuple #[.int .i64 n, .iface 125 (.pointer (some ⟨N, 0, none⟩))])) ∧ Below w.heap.size w w' := by
  obtain ⟨_, ⟨t1, p1, h1⟩, ⟨t2, p2, h2⟩, _⟩ := hT
  cases hp : Lib.parseIntB 64 s.data.toList with
  | ok v => exact absurd hp (h v)
  | range =>
    refine (Tryd.strconv_ParseInt_10_at64_range_var s (by omega) hp t2 p2 w h2).mono ?_
    rintro e w' ⟨N, rfl, _, _, hb⟩
    exact ⟨⟨_, N, rfl⟩, hb⟩
  | _ =>
    refine (Tryd.strconv_ParseInt_10_at64_spelt_var s (by omega) h (by rw [hp]; intro z; cases z) t1 p1 w h1).mono ?_
    rintro e w' ⟨N, rfl, _, _, hb⟩
    exact ⟨⟨_, N, rfl⟩, hb⟩
set_option maxHeartbeats 1000000 in
theorem ints_Read.calls (a0 : ByteArray) (r1 : Int) (r2 : Int) (w : World) (hT : TabG w) (h : ints_Read.f a0 = some (r1, r2)) :
    Calls Tryd.prog 28 #[.string a0] w fun e w' => e = .returned (.tuple #[.int .i64 r1, .int .i64 r2]) ∧ Below w.heap.size w w' := by
  unfold ints_Read.f at h
  split at h
  · rename_i hs
    have HT0 := Aside0.mk hT
    clear hT
    by_cases h0 : a0.data.toList = []
    · rw [if_pos h0] at h
      simp only [Option.some.injEq, Prod.mk.injEq] at h
      obtain ⟨rfl, rfl⟩ := h
      obtain rfl : a0 = ⟨#[]⟩ := by
        cases a0 with
        | mk d => cases d with
          | mk l => simp at h0; rw [h0]
      clear h0 hs
      go_enter Tryd.func28, Tryd.ntmps28
      go_wp2
      go_ret2
      exact ⟨rfl, Below.refl _ _⟩
    · rw [if_neg h0] at h
      obtain ⟨e1, e2, e3⟩ := str_ne_empty h0
      have Hs := Aside0.mk hs
      clear hs h0
      by_cases ht : Lib.trimS a0.data.toList tenDigits = []
      · rw [if_pos ht] at h
        have hcon := read_call a0 w Hs.out
        rw [ht] at hcon
        have HC := Aside0.mk hcon
        clear hcon ht
        by_cases hp : ∃ v, Lib.parseIntB 64 a0.data.toList = .ok v
        · obtain ⟨v, hp⟩ := hp
          unfold readNum at h
          rw [hp] at h
          simp only [Option.some.injEq, Prod.mk.injEq] at h
          obtain ⟨rfl, rfl⟩ := h
          have HP := Aside0.mk hp
          clear hp
          go_enter Tryd.func28, Tryd.ntmps28
          go_wp2_with (first | (go_at_call 49; refine HC.out.mono ?_; rintro e w1 ⟨rfl, hb⟩; have HB := Aside0.mk hb; clear hb) | (go_at_call 50; refine (parse_ok a0 _ Hs.out v HP.out).mono ?_; rintro e w2 ⟨rfl, hb⟩; have HB2 := Aside0.mk hb; clear hb))
          go_ret2
          exact ⟨rfl, HB.out.trans (HB2.out.mono HB.out.size)⟩
        · have hp' : ∀ v, Lib.parseIntB 64 a0.data.toList ≠ .ok v := fun v e => hp ⟨v, e⟩
          clear hp
          have hr : readNum a0.data.toList = (0, 16) := by
            unfold readNum
            cases hq : Lib.parseIntB 64 a0.data.toList with
            | ok v => exact absurd hq (hp' v)
            | _ => rfl
          rw [hr] at h
          simp only [Option.some.injEq, Prod.mk.injEq] at h
          obtain ⟨rfl, rfl⟩ := h
          have HP := Aside0.mk hp'
          clear hp' hr
          go_enter Tryd.func28, Tryd.ntmps28
          go_wp2_with (first | (go_at_call 49; refine HC.out.mono ?_; rintro e w1 ⟨rfl, hb⟩; have HB := Aside0.mk hb; clear hb) | (go_at_call 50; refine (parse_no a0 _ Hs.out (HT0.out.below HB.out) HP.out).mono ?_; rintro e w2 ⟨⟨n, N, rfl⟩, hb⟩; have HB2 := Aside0.mk hb; clear hb))
          go_ret2
          exact ⟨rfl, HB.out.trans (HB2.out.mono HB.out.size)⟩
      · rw [if_neg ht] at h
        simp only [Option.some.injEq, Prod.mk.injEq] at h
        obtain ⟨rfl, rfl⟩ := h
        have hcon := read_call a0 w Hs.out
        obtain ⟨f1, f2, f3⟩ := str_ne_empty (s := ⟨(Lib.trimS a0.data.toList tenDigits).toArray⟩) ht
        generalize (⟨(Lib.trimS a0.data.toList tenDigits).toArray⟩ : ByteArray) = t at hcon f1 f2 f3
        have HC := Aside0.mk hcon
        clear hcon ht
        go_enter Tryd.func28, Tryd.ntmps28
        go_wp2_with (go_at_call 49; refine HC.out.mono ?_; rintro e w1 ⟨rfl, hb⟩; have HB := Aside0.mk hb; clear hb)
        go_ret2
        exact ⟨rfl, HB.out⟩
  · cases h

end Go.Proofs.YtdcigijklknjaaaDoor.My
