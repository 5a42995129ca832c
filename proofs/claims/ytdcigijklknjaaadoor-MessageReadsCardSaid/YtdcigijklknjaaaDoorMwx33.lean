/- Each theorem X.calls below says: where the Lean function X.f answers, the Go function X returns that answer, and whatever lay in memory before the call is left as it was. -/
import Derived.Test.YtdcigijklknjaaaDoorMwa
import Derived.Test.YtdcigijklknjaaaDoorMwd
import Derived.Test.YtdcigijklknjaaaDoorMwg
namespace Go.Proofs.YtdcigijklknjaaaDoor.Mw
open Go.RowKit Go.Proofs.YtdcigijklknjaaaDoorW.PrintWords Go.Proofs.YtdcigijklknjaaaDoorW.PrintLast Go.Proofs.YtdcigijklknjaaaDoorW.PrintMore
attribute [local go_sem] max2_int min2_int max_two min_two max_three min_three max_four min_four   -- for this text's walks alone
set_option linter.unusedVariables false
set_option linter.unusedSimpArgs false

/-! ### tailwaterref25_Read: function 33 -/
mutual
def tailwaterref25_Read.l0 : Nat → ByteArray → List ByteArray → Int → Int → Option (Int × Int × Int × Int × Int × Int × Int × Int × Int × Int × Int)
  | 0, _, _, _, _ => none
  | k + 1, x0, x4, x5, x6 => if x6 ≤ (x0.size : Int) then (if x6 = (x0.size : Int) then (if 0 ≤ x5 then (if x5 ≤ x6 then (if x4.length < 8796093022208 then (tailwaterref25_Read.l0 k x0 (x4 ++ [x0.extract (x5 : Int).toNat (x6 : Int).toNat]) (wrap64 (x6 + 1)) (wrap64 (x6 + 1))) else (none)) else (none)) else (none)) else (if 0 ≤ x6 then (if x6 < (x0.size : Int) then (if (bt x0 x6) = 32 then (if 0 ≤ x5 then (if x5 ≤ x6 then (if x4.length < 8796093022208 then (tailwaterref25_Read.l0 k x0 (x4 ++ [x0.extract (x5 : Int).toNat (x6 : Int).toNat]) (wrap64 (x6 + 1)) (wrap64 (x6 + 1))) else (none)) else (none)) else (none)) else (tailwaterref25_Read.l0 k x0 x4 x5 (wrap64 (x6 + 1)))) else (none)) else (none))) else (if 6 ≤ 35184372088832 then (tailwaterref25_Read.l1 k x0 x4 (List.replicate 6 0) 1) else (none))
def tailwaterref25_Read.j2 : Nat → ByteArray → List ByteArray → List Int → Option (Int × Int × Int × Int × Int × Int × Int × Int × Int × Int × Int)
  | 0, _, _, _ => none
  | k + 1, x0, x4, x7 => if 0 < (x4.length : Int) then (if (rdOf ByteArray.empty x4 0).toList = ([114, 101, 99, 111, 114, 100] : List UInt8) then (if 1 < (x7.length : Int) then (if 2 < (x7.length : Int) then (if 3 < (x7.length : Int) then (tailwaterref25_Read.j3 k x0 1 (rd x7 1) (rd x7 2) (rd x7 3) 0 0 0 0 0 0) else (none)) else (none)) else (none)) else (if (rdOf ByteArray.empty x4 0).toList = ([108, 97, 116, 101] : List UInt8) then (if 1 < (x7.length : Int) then (if 2 < (x7.length : Int) then (if 3 < (x7.length : Int) then (tailwaterref25_Read.j3 k x0 4 (rd x7 1) (rd x7 2) (rd x7 3) 0 0 0 0 0 0) else (none)) else (none)) else (none)) else (if (rdOf ByteArray.empty x4 0).toList = ([109, 97, 114, 107] : List UInt8) then (if 1 < (x7.length : Int) then (tailwaterref25_Read.j3 k x0 2 0 0 0 (rd x7 1) 0 0 0 0 0) else (none)) else (if (rdOf ByteArray.empty x4 0).toList = ([114, 111, 119] : List UInt8) then (if 1 < (x7.length : Int) then (if 2 < (x7.length : Int) then (if 3 < (x7.length : Int) then (if 4 < (x7.length : Int) then (if 5 < (x7.length : Int) then (tailwaterref25_Read.j3 k x0 3 0 0 0 0 (rd x7 1) (rd x7 2) (rd x7 3) (rd x7 4) (rd x7 5)) else (none)) else (none)) else (none)) else (none)) else (none)) else (tailwaterref25_Read.j3 k x0 0 0 0 0 0 0 0 0 0 0))))) else (none)
def tailwaterref25_Read.j3 : Nat → ByteArray → Int → Int → Int → Int → Int → Int → Int → Int → Int → Int → Option (Int × Int × Int × Int × Int × Int × Int × Int × Int × Int × Int)
  | 0, _, _, _, _, _, _, _, _, _, _, _ => none
  | k + 1, x0, x380000, x380001, x380002, x380003, x380004, x380005, x380006, x380007, x380008, x380009 => (tailwaterref25_Valid.f k x380000 x380001 x380002 x380003 x380004 x380005 x380006 x380007 x380008 x380009).bind fun t393 => (if t393 = true then ((tailwaterref25_Written.f k x380000 x380001 x380002 x380003 x380004 x380005 x380006 x380007 x380008 x380009).bind fun t394 => (if t394.toList = x0.toList then (some (x380000, x380001, x380002, x380003, x380004, x380005, x380006, x380007, x380008, x380009, 0)) else (some (0, 0, 0, 0, 0, 0, 0, 0, 0, 0, 12)))) else (some (0, 0, 0, 0, 0, 0, 0, 0, 0, 0, 12)))
def tailwaterref25_Read.l1 : Nat → ByteArray → List ByteArray → List Int → Int → Option (Int × Int × Int × Int × Int × Int × Int × Int × Int × Int × Int)
  | 0, _, _, _, _ => none
  | k + 1, x0, x4, x7, x8 => if x8 < (x4.length : Int) then (if x8 < 6 then (if 0 ≤ x8 then ((tailwaterref25_number.f k (rdOf ByteArray.empty x4 x8)).bind fun t377 => (if x8 < (x7.length : Int) then (tailwaterref25_Read.l1 k x0 x4 (x7.set (x8 : Int).toNat t377) (wrap64 (x8 + 1))) else (none))) else (none)) else (tailwaterref25_Read.j2 k x0 x4 x7)) else (tailwaterref25_Read.j2 k x0 x4 x7)
end
def tailwaterref25_Read.f (k : Nat) (a0 : ByteArray) : Option (Int × Int × Int × Int × Int × Int × Int × Int × Int × Int × Int) := tailwaterref25_Read.l0 k a0 ([] : List ByteArray) 0 0
theorem tailwaterref25_Read.mono_l : ∀ k, (∀ y0 y1 y2 y3, LeO (tailwaterref25_Read.l0 k y0 y1 y2 y3) (tailwaterref25_Read.l0 (k + 1) y0 y1 y2 y3)) ∧ (∀ y0 y1 y2, LeO (tailwaterref25_Read.j2 k y0 y1 y2) (tailwaterref25_Read.j2 (k + 1) y0 y1 y2)) ∧ (∀ y0 y1 y2 y3 y4 y5 y6 y7 y8 y9 y10, LeO (tailwaterref25_Read.j3 k y0 y1 y2 y3 y4 y5 y6 y7 y8 y9 y10) (tailwaterref25_Read.j3 (k + 1) y0 y1 y2 y3 y4 y5 y6 y7 y8 y9 y10)) ∧ (∀ y0 y1 y2 y3, LeO (tailwaterref25_Read.l1 k y0 y1 y2 y3) (tailwaterref25_Read.l1 (k + 1) y0 y1 y2 y3))
  | 0 => ⟨fun _ _ _ _ r h => by simp [tailwaterref25_Read.l0] at h, fun _ _ _ r h => by simp [tailwaterref25_Read.j2] at h, fun _ _ _ _ _ _ _ _ _ _ _ r h => by simp [tailwaterref25_Read.j3] at h, fun _ _ _ _ r h => by simp [tailwaterref25_Read.l1] at h⟩
  | k + 1 => by
    obtain ⟨ih0, ih1, ih2, ih3⟩ := tailwaterref25_Read.mono_l k
    refine ⟨?_, ?_, ?_, ?_⟩
    · intro y0 y1 y2 y3
      unfold tailwaterref25_Read.l0
      repeat' first
      | (with_reducible exact ih0 _ _ _ _)
      | (with_reducible exact ih1 _ _ _)
      | (with_reducible exact ih2 _ _ _ _ _ _ _ _ _ _ _)
      | (with_reducible exact ih3 _ _ _ _)
      | (with_reducible exact tailwaterref25_Valid.mono _ _ _ _ _ _ _ _ _ _ _)
      | (with_reducible exact tailwaterref25_Written.mono _ _ _ _ _ _ _ _ _ _ _)
      | (with_reducible exact tailwaterref25_number.mono _ _)
      | (with_reducible exact LeO.refl _)
      | (with_reducible exact LeO.none _)
      | (with_reducible refine LeO.ite ?_ ?_)
      | (with_reducible refine LeO.bind ?_ (fun _ => ?_))
      | exact ih0 _ _ _ _
      | exact ih1 _ _ _
      | exact ih2 _ _ _ _ _ _ _ _ _ _ _
      | exact ih3 _ _ _ _
      | exact tailwaterref25_Valid.mono _ _ _ _ _ _ _ _ _ _ _
      | exact tailwaterref25_Written.mono _ _ _ _ _ _ _ _ _ _ _
      | exact tailwaterref25_number.mono _ _
      | exact LeO.none _
      | refine LeO.ite ?_ ?_
      | refine LeO.bind ?_ (fun _ => ?_)
    · intro y0 y1 y2
      unfold tailwaterref25_Read.j2
      repeat' first
      | (with_reducible exact ih0 _ _ _ _)
      | (with_reducible exact ih1 _ _ _)
      | (with_reducible exact ih2 _ _ _ _ _ _ _ _ _ _ _)
      | (with_reducible exact ih3 _ _ _ _)
      | (with_reducible exact tailwaterref25_Valid.mono _ _ _ _ _ _ _ _ _ _ _)
      | (with_reducible exact tailwaterref25_Written.mono _ _ _ _ _ _ _ _ _ _ _)
      | (with_reducible exact tailwaterref25_number.mono _ _)
      | (with_reducible exact LeO.refl _)
      | (with_reducible exact LeO.none _)
      | (with_reducible refine LeO.ite ?_ ?_)
      | (with_reducible refine LeO.bind ?_ (fun _ => ?_))
      | exact ih0 _ _ _ _
      | exact ih1 _ _ _
      | exact ih2 _ _ _ _ _ _ _ _ _ _ _
      | exact ih3 _ _ _ _
      | exact tailwaterref25_Valid.mono _ _ _ _ _ _ _ _ _ _ _
      | exact tailwaterref25_Written.mono _ _ _ _ _ _ _ _ _ _ _
      | exact tailwaterref25_number.mono _ _
      | exact LeO.none _
      | refine LeO.ite ?_ ?_
      | refine LeO.bind ?_ (fun _ => ?_)
    · intro y0 y1 y2 y3 y4 y5 y6 y7 y8 y9 y10
      unfold tailwaterref25_Read.j3
      repeat' first
      | (with_reducible exact ih0 _ _ _ _)
      | (with_reducible exact ih1 _ _ _)
      | (with_reducible exact ih2 _ _ _ _ _ _ _ _ _ _ _)
      | (with_reducible exact ih3 _ _ _ _)
      | (with_reducible exact tailwaterref25_Valid.mono _ _ _ _ _ _ _ _ _ _ _)
      | (with_reducible exact tailwaterref25_Written.mono _ _ _ _ _ _ _ _ _ _ _)
      | (with_reducible exact tailwaterref25_number.mono _ _)
      | (with_reducible exact LeO.refl _)
      | (with_reducible exact LeO.none _)
      | (with_reducible refine LeO.ite ?_ ?_)
      | (with_reducible refine LeO.bind ?_ (fun _ => ?_))
      | exact ih0 _ _ _ _
      | exact ih1 _ _ _
      | exact ih2 _ _ _ _ _ _ _ _ _ _ _
      | exact ih3 _ _ _ _
      | exact tailwaterref25_Valid.mono _ _ _ _ _ _ _ _ _ _ _
      | exact tailwaterref25_Written.mono _ _ _ _ _ _ _ _ _ _ _
      | exact tailwaterref25_number.mono _ _
      | exact LeO.none _
      | refine LeO.ite ?_ ?_
      | refine LeO.bind ?_ (fun _ => ?_)
    · intro y0 y1 y2 y3
      unfold tailwaterref25_Read.l1
      repeat' first
      | (with_reducible exact ih0 _ _ _ _)
      | (with_reducible exact ih1 _ _ _)
      | (with_reducible exact ih2 _ _ _ _ _ _ _ _ _ _ _)
      | (with_reducible exact ih3 _ _ _ _)
      | (with_reducible exact tailwaterref25_Valid.mono _ _ _ _ _ _ _ _ _ _ _)
      | (with_reducible exact tailwaterref25_Written.mono _ _ _ _ _ _ _ _ _ _ _)
      | (with_reducible exact tailwaterref25_number.mono _ _)
      | (with_reducible exact LeO.refl _)
      | (with_reducible exact LeO.none _)
      | (with_reducible refine LeO.ite ?_ ?_)
      | (with_reducible refine LeO.bind ?_ (fun _ => ?_))
      | exact ih0 _ _ _ _
      | exact ih1 _ _ _
      | exact ih2 _ _ _ _ _ _ _ _ _ _ _
      | exact ih3 _ _ _ _
      | exact tailwaterref25_Valid.mono _ _ _ _ _ _ _ _ _ _ _
      | exact tailwaterref25_Written.mono _ _ _ _ _ _ _ _ _ _ _
      | exact tailwaterref25_number.mono _ _
      | exact LeO.none _
      | refine LeO.ite ?_ ?_
      | refine LeO.bind ?_ (fun _ => ?_)
theorem tailwaterref25_Read.mono : ∀ a0 k, LeO (tailwaterref25_Read.f k a0) (tailwaterref25_Read.f (k + 1) a0) := by
  intro a0 k
  obtain ⟨ih0, ih1, ih2, ih3⟩ := tailwaterref25_Read.mono_l k
  unfold tailwaterref25_Read.f
  repeat' first
      | (with_reducible exact ih0 _ _ _ _)
      | (with_reducible exact ih1 _ _ _)
      | (with_reducible exact ih2 _ _ _ _ _ _ _ _ _ _ _)
      | (with_reducible exact ih3 _ _ _ _)
      | (with_reducible exact tailwaterref25_Valid.mono _ _ _ _ _ _ _ _ _ _ _)
      | (with_reducible exact tailwaterref25_Written.mono _ _ _ _ _ _ _ _ _ _ _)
      | (with_reducible exact tailwaterref25_number.mono _ _)
      | (with_reducible exact LeO.refl _)
      | (with_reducible exact LeO.none _)
      | (with_reducible refine LeO.ite ?_ ?_)
      | (with_reducible refine LeO.bind ?_ (fun _ => ?_))
      | exact ih0 _ _ _ _
      | exact ih1 _ _ _
      | exact ih2 _ _ _ _ _ _ _ _ _ _ _
      | exact ih3 _ _ _ _
      | exact tailwaterref25_Valid.mono _ _ _ _ _ _ _ _ _ _ _
      | exact tailwaterref25_Written.mono _ _ _ _ _ _ _ _ _ _ _
      | exact tailwaterref25_number.mono _ _
      | exact LeO.none _
      | refine LeO.ite ?_ ?_
      | refine LeO.bind ?_ (fun _ => ?_)
def tailwaterref25_Read.T17 : Bool × List (List Nat × List Nat) := (true, [([], []), ([0], [0]), ([1], [1]), ([], []), ([3], [3]), ([4], [4]), ([], []), ([6], [6]), ([7], [7]), ([2, 5, 8], [2, 5, 8]), ([9], [9]), ([10, 0, 1, 2, 3, 4, 5, 6, 7, 8, 9, 10], [10])])
def tailwaterref25_Read.B17 : List Nat := [0, 1, 3, 0, 8, 24, 0, 64, 192, 511, 1023, 2047]
theorem tailwaterref25_Read.tab17 : rtab .any (opsOf Tryd.f33 17) = tailwaterref25_Read.T17 := by kernel_rfl
theorem tailwaterref25_Read.bits17 : waitsOk tailwaterref25_Read.T17.2 tailwaterref25_Read.B17 = true := by kernel_rfl
def tailwaterref25_Read.T19 : Bool × List (List Nat × List Nat) := (true, [([], []), ([0], [0]), ([1], [1]), ([], []), ([3], [3]), ([4], [4]), ([], []), ([6], [6]), ([7], [7]), ([2, 5, 8], [2, 5, 8]), ([9], [9]), ([10, 0, 1, 2, 3, 4, 5, 6, 7, 8, 9, 10], [10])])
def tailwaterref25_Read.B19 : List Nat := [0, 1, 3, 0, 8, 24, 0, 64, 192, 511, 1023, 2047]
theorem tailwaterref25_Read.tab19 : rtab .any (opsOf Tryd.f33 19) = tailwaterref25_Read.T19 := by kernel_rfl
theorem tailwaterref25_Read.bits19 : waitsOk tailwaterref25_Read.T19.2 tailwaterref25_Read.B19 = true := by kernel_rfl
def tailwaterref25_Read.T23 : Bool × List (List Nat × List Nat) := (true, [([], []), ([0], [0]), ([1], [1]), ([], []), ([3], [3]), ([4], [4]), ([], []), ([6], [6]), ([7], [7]), ([5, 8], [5, 8]), ([], []), ([10], [10]), ([11], [11]), ([], []), ([13], [13]), ([14], [14]), ([12, 15], [12, 15]), ([2, 9, 16], [2, 9, 16]), ([17], [17]), ([18, 0, 1, 2, 3, 4, 5, 6, 7, 8, 9, 10, 11, 12, 13, 14, 15, 16, 17, 18], [18])])
def tailwaterref25_Read.B23 : List Nat := [0, 1, 3, 0, 8, 24, 0, 64, 192, 504, 0, 1024, 3072, 0, 8192, 24576, 64512, 131071, 262143, 524287]
theorem tailwaterref25_Read.tab23 : rtab .any (opsOf Tryd.f33 23) = tailwaterref25_Read.T23 := by kernel_rfl
theorem tailwaterref25_Read.bits23 : waitsOk tailwaterref25_Read.T23.2 tailwaterref25_Read.B23 = true := by kernel_rfl
set_option maxHeartbeats 8000000 in
set_option maxRecDepth 100000 in
theorem tailwaterref25_Read.calls (k : Nat) (a0 : ByteArray) (r1 : Int) (r2 : Int) (r3 : Int) (r4 : Int) (r5 : Int) (r6 : Int) (r7 : Int) (r8 : Int) (r9 : Int) (r10 : Int) (r11 : Int) (w : World) (h : tailwaterref25_Read.f k a0 = some (r1, r2, r3, r4, r5, r6, r7, r8, r9, r10, r11)) :
    Calls Tryd.prog 33 #[.string a0] w fun e w' => e = .returned (.tuple #[.agg #[.int .u8 r1, .int .i64 r2, .int .i64 r3, .int .i64 r4, .int .i64 r5, .int .i64 r6, .int .i64 r7, .int .i64 r8, .int .i64 r9, .int .i64 r10], .int .i64 r11]) ∧ Below w.heap.size w w' := by
  have hu31 := Tryd.underlying31
  have hu29 := Tryd.underlying29
  have hu23 := Tryd.underlying23
  have hu24 := Tryd.underlying24
  have hu26 := Tryd.underlying26
  have HB := Aside0.mk (Below.refl w.heap.size w)
  have H : (tailwaterref25_Read.l0 k a0 ([] : List ByteArray) 0 0) = some (r1, r2, r3, r4, r5, r6, r7, r8, r9, r10, r11) := h
  clear h
  have H' := Aside0.mk H
  clear H
  go_enter Tryd.func33, Tryd.ntmps33
  go_wp2_with (first | ((with_reducible refine gate_dst (N := 2) rfl ?_); refine box_event ?hg (N := 2) ?hd (cs := #[.int .u8 0, .int .i64 0, .int .i64 0, .int .i64 0, .int .i64 0, .int .i64 0, .int .i64 0, .int .i64 0, .int .i64 0, .int .i64 0]) (t := 31) ?hr ?_; (case hd => rfl); (case hg => rfl); (case hr => first | (go_simp; done) | (go_simp; rfl)); intro gb366 hg w2 hbox hb; have n0_ := Aside0.mk (below_step (by repeat (first | (with_reducible first | exact HB.out | apply below_alloc | apply pw_below_drewN | apply below_drew1) | exact HB.out)) hb); have n1_ := Aside0.mk (hbox); have n2_ := Aside0.mk ((by rw [hg]; exact (below_size (by repeat (first | (with_reducible first | exact HB.out | apply below_alloc | apply pw_below_drewN | apply below_drew1) | exact HB.out))) : w.heap.size ≤ gb366)); have n3_ := Aside0.mk ((by rw [hg]; exact (below_size (by repeat (first | (with_reducible first | exact HB.out | apply below_alloc | apply pw_below_drewN | apply below_drew1) | exact HB.out))) : w.heap.size ≤ gb366)); clear HB; have HB := n0_; have BK366 := n1_; have GW366 := n2_; have GE366 := n3_; clear n0_ n1_ n2_ n3_; clear hb hbox hg))
  go_loopg [4, 5, 6] k (fun kq v4 v5 v6 w' => ∃ (x4_1 : List ByteArray) (x5_1 : Int) (x6_1 : Int), v5 = .int .i64 x5_1 ∧ v6 = .int .i64 x6_1 ∧ Aside0 (tailwaterref25_Read.l0 kq a0 x4_1 x5_1 x6_1 = some (r1, r2, r3, r4, r5, r6, r7, r8, r9, r10, r11)) ∧ Aside0 (kq ≤ k) ∧ Aside0 (Kd.R Kd.string 9 w' w.heap.size (fun _ => True) v4 x4_1) ∧ Aside0 (w'.heap[gb366]? = some (.cells #[.int .u8 0, .int .i64 0, .int .i64 0, .int .i64 0, .int .i64 0, .int .i64 0, .int .i64 0, .int .i64 0, .int .i64 0, .int .i64 0] 31 (0, 0))) ∧ Aside0 (Below w.heap.size w w'))
  case atStart => exact ⟨(([] : List ByteArray)), (0), (0), (by first | rfl | (simp; done) | (simp [*]; done)), (by first | rfl | (simp; done) | (simp [*]; done)), H', ⟨Nat.le_refl _⟩, ⟨by first | exact Kd.R_nil _ _ _ _ _ | exact Kd.N_nil _ _ _ _ _ | exact Kd.V_nil _ _ _ _ _ | exact Kd.Q_nil _ _ _ _ _ | exact Kd.S_nil _ _ _ _ _⟩, ⟨by (with_reducible repeat (first | refine blk_drewN ?_ _ | refine blk_drew ?_ | refine blk_alloc ?_ _)); exact BK366.out⟩, ⟨by repeat (first | (with_reducible first | exact HB.out | apply below_alloc | apply pw_below_drewN | apply below_drew1 | refine below_set ?_ GE366.out) | exact HB.out)⟩⟩
  case round =>
    clear H'
    try clear p2
    obtain ⟨x4_1, x5_1, x6_1, rfl, rfl, HA, HK1, HO_4, BK366, HB⟩ := hrel
    cases gk with
    | zero => exact absurd HA.out (by simp [tailwaterref25_Read.l0])
    | succ k1 =>
      have H := HA.out
      clear HA
      simp only [tailwaterref25_Read.l0] at H
      by_cases c3 : x6_1 ≤ (a0.size : Int)
      · rw [if_pos c3] at H
        have c3b0 : decide (x6_1 ≤ (a0.size : Int)) = true := decide_eq_true c3
        clear c3
        by_cases c4 : x6_1 = (a0.size : Int)
        · rw [if_pos c4] at H
          have c4b0 : (x6_1 == (a0.size : Int)) = true := beq_iff_eq.mpr c4
          have c4b1 : (x6_1 != (a0.size : Int)) = false := bne_eq_false_iff_eq.mpr c4
          clear c4
          by_cases c5 : 0 ≤ x5_1
          · rw [if_pos c5] at H
            have c5b0 := eq_true c5
            have c5b1 : decide (0 ≤ x5_1) = true := decide_eq_true c5
            clear c5
            by_cases c6 : x5_1 ≤ x6_1
            · rw [if_pos c6] at H
              have c6b0 := eq_true c6
              have c6b1 : decide (x5_1 ≤ x6_1) = true := decide_eq_true c6
              clear c6
              have c7b0 := eq_true (of_decide_eq_true (by first | (with_reducible assumption) | assumption) : x6_1 ≤ (a0.size : Int))
              by_cases c8 : x4_1.length < 8796093022208
              · rw [if_pos c8] at H
                have LMc8 := Aside0.mk c8
                clear c8
                obtain ⟨y367, hy367⟩ : ∃ y_ : List ByteArray, y_ = (x4_1 ++ [a0.extract (x5_1 : Int).toNat (x6_1 : Int).toNat]) := ⟨_, rfl⟩
                replace H : (tailwaterref25_Read.l0 k1 a0 y367 (wrap64 (x6_1 + 1)) (wrap64 (x6_1 + 1))) = some (r1, r2, r3, r4, r5, r6, r7, r8, r9, r10, r11) := by first | (rw [hy367]; with_reducible exact H) | (have H2_ := (Option.bind_some _ _).symm.trans H; rw [hy367]; with_reducible exact H2_) | (have H2_ := (Option.bind_some _ _).symm.trans H; with_reducible exact H2_) | with_reducible exact H | (rw [hy367]; exact H) | exact H
                have Ny367 := Aside0.mk hy367
                clear hy367
                have H' := Aside0.mk H
                clear H
                go_wp2_with (first | ((with_reducible refine gate_builtin (b := .append) (xs := #[.tmp 26, .tmp 31]) rfl ?_); at_builtin; refine Kd.R_append Kd.string (w0 := w) w.heap.size rfl (.tmp 26) (.tmp 31) 69 9 (.string ⟨#[]⟩) 16 rfl Tryd.underlying69 info9 rfl (by decide) (by omega) u4 x4_1 (a0.extract (x5_1 : Int).toNat (x6_1 : Int).toNat) [.string (a0.extract (x5_1 : Int).toNat (x6_1 : Int).toNat)] (fun _ => True) (fun _ => False) rfl rfl ?aP (fun _ hk => hk.elim) ?aF ?aO ?aB ?aS ?aL ?_; (case aP => exact rfl); (case aB => exact (by repeat (first | (with_reducible first | exact HB.out | apply below_alloc | apply pw_below_drewN | apply below_drew1 | refine below_set ?_ GE366.out) | exact HB.out))); (case aF => exact (fun _ _ => trivial)); (case aO => exact (by (with_reducible repeat (first | apply Kd.R_alloc | apply Kd.R_drewN | apply Kd.R_drew)); exact HO_4.out)); (case aS => exact (below_size (by repeat (first | (with_reducible first | exact HB.out | apply below_alloc | apply pw_below_drewN | apply below_drew1 | refine below_set ?_ GE366.out) | exact HB.out)))); (case aL => have := LMc8.out; omega); intro v368 w9 ho hb hg hat; rw [← Ny367.out] at ho; have n0_ := Aside0.mk (blk_grown (g := gb366) (o := .cells #[.int .u8 0, .int .i64 0, .int .i64 0, .int .i64 0, .int .i64 0, .int .i64 0, .int .i64 0, .int .i64 0, .int .i64 0, .int .i64 0] 31 (0, 0)) (by (with_reducible repeat (first | refine blk_drewN ?_ _ | refine blk_drew ?_ | refine blk_alloc ?_ _)); exact BK366.out) hg (Kd.R_ne HO_4.out BK366.out (by decide))); have n1_ := Aside0.mk (hb); have n2_ := Aside0.mk (ho); clear BK366; clear HB; clear HO_4; have BK366 := n0_; have HB := n1_; have HO369 := n2_; clear n0_ n1_ n2_; clear ho hb hg hat))
                go_roundg k1
                case measure => have := HK1.out; omega
                case rel => exact ⟨(y367), (wrap64 (x6_1 + 1)), (wrap64 (x6_1 + 1)), (by first | rfl | (simp; done) | (simp [*]; done)), (by first | rfl | (simp; done) | (simp [*]; done)), H', ⟨by have := HK1.out; omega⟩, ⟨by (with_reducible repeat (first | apply Kd.R_alloc | apply Kd.R_drewN | apply Kd.R_drew)); exact HO369.out⟩, ⟨by (with_reducible repeat (first | refine blk_drewN ?_ _ | refine blk_drew ?_ | refine blk_alloc ?_ _)); exact BK366.out⟩, ⟨by repeat (first | (with_reducible first | exact HB.out | apply below_alloc | apply pw_below_drewN | apply below_drew1 | refine below_set ?_ GE366.out) | exact HB.out)⟩⟩
              · rw [if_neg c8] at H
                exact absurd H (by simp)
            · rw [if_neg c6] at H
              exact absurd H (by simp)
          · rw [if_neg c5] at H
            exact absurd H (by simp)
        · rw [if_neg c4] at H
          have c4b0 : (x6_1 == (a0.size : Int)) = false := beq_eq_false_iff_ne.mpr c4
          have c4b1 : (x6_1 != (a0.size : Int)) = true := bne_iff_ne.mpr c4
          by_cases c10 : 0 ≤ x6_1
          · rw [if_pos c10] at H
            have c10b0 : decide (0 ≤ x6_1) = true := decide_eq_true c10
            clear c10
            by_cases c11 : x6_1 < (a0.size : Int)
            · rw [if_pos c11] at H
              have c11b0 : decide (x6_1 < (a0.size : Int)) = true := decide_eq_true c11
              clear c11
              by_cases c13 : (bt a0 x6_1) = 32
              · rw [if_pos c13] at H
                have c13b0 : ((bt a0 x6_1) == 32) = true := beq_iff_eq.mpr c13
                have c13b1 : ((bt a0 x6_1) != 32) = false := bne_eq_false_iff_eq.mpr c13
                clear c13
                by_cases c14 : 0 ≤ x5_1
                · rw [if_pos c14] at H
                  have c14b0 := eq_true c14
                  have c14b1 : decide (0 ≤ x5_1) = true := decide_eq_true c14
                  clear c14
                  by_cases c15 : x5_1 ≤ x6_1
                  · rw [if_pos c15] at H
                    have c15b0 := eq_true c15
                    have c15b1 : decide (x5_1 ≤ x6_1) = true := decide_eq_true c15
                    clear c15
                    have c16b0 := eq_true (of_decide_eq_true (by first | (with_reducible assumption) | assumption) : x6_1 ≤ (a0.size : Int))
                    by_cases c17 : x4_1.length < 8796093022208
                    · rw [if_pos c17] at H
                      have LMc17 := Aside0.mk c17
                      clear c17
                      obtain ⟨y370, hy370⟩ : ∃ y_ : List ByteArray, y_ = (x4_1 ++ [a0.extract (x5_1 : Int).toNat (x6_1 : Int).toNat]) := ⟨_, rfl⟩
                      replace H : (tailwaterref25_Read.l0 k1 a0 y370 (wrap64 (x6_1 + 1)) (wrap64 (x6_1 + 1))) = some (r1, r2, r3, r4, r5, r6, r7, r8, r9, r10, r11) := by first | (rw [hy370]; with_reducible exact H) | (have H2_ := (Option.bind_some _ _).symm.trans H; rw [hy370]; with_reducible exact H2_) | (have H2_ := (Option.bind_some _ _).symm.trans H; with_reducible exact H2_) | with_reducible exact H | (rw [hy370]; exact H) | exact H
                      have Ny370 := Aside0.mk hy370
                      clear hy370
                      have H' := Aside0.mk H
                      clear H
                      have p12 : 0 ≤ (x6_1 : Int) := of_decide_eq_true (by first | (with_reducible assumption) | assumption)
                      have q12 : x6_1 < (a0.size : Int) := of_decide_eq_true (by first | (with_reducible assumption) | assumption)
                      have hx12 := bt_at a0 x6_1
                      replace p12 := eq_true p12
                      replace q12 := eq_true q12
                      go_wp2_with (first | ((with_reducible refine gate_builtin (b := .append) (xs := #[.tmp 26, .tmp 31]) rfl ?_); at_builtin; refine Kd.R_append Kd.string (w0 := w) w.heap.size rfl (.tmp 26) (.tmp 31) 69 9 (.string ⟨#[]⟩) 16 rfl Tryd.underlying69 info9 rfl (by decide) (by omega) u4 x4_1 (a0.extract (x5_1 : Int).toNat (x6_1 : Int).toNat) [.string (a0.extract (x5_1 : Int).toNat (x6_1 : Int).toNat)] (fun _ => True) (fun _ => False) rfl rfl ?aP (fun _ hk => hk.elim) ?aF ?aO ?aB ?aS ?aL ?_; (case aP => exact rfl); (case aB => exact (by repeat (first | (with_reducible first | exact HB.out | apply below_alloc | apply pw_below_drewN | apply below_drew1 | refine below_set ?_ GE366.out) | exact HB.out))); (case aF => exact (fun _ _ => trivial)); (case aO => exact (by (with_reducible repeat (first | apply Kd.R_alloc | apply Kd.R_drewN | apply Kd.R_drew)); exact HO_4.out)); (case aS => exact (below_size (by repeat (first | (with_reducible first | exact HB.out | apply below_alloc | apply pw_below_drewN | apply below_drew1 | refine below_set ?_ GE366.out) | exact HB.out)))); (case aL => have := LMc17.out; omega); intro v371 w18 ho hb hg hat; rw [← Ny370.out] at ho; have n0_ := Aside0.mk (blk_grown (g := gb366) (o := .cells #[.int .u8 0, .int .i64 0, .int .i64 0, .int .i64 0, .int .i64 0, .int .i64 0, .int .i64 0, .int .i64 0, .int .i64 0, .int .i64 0] 31 (0, 0)) (by (with_reducible repeat (first | refine blk_drewN ?_ _ | refine blk_drew ?_ | refine blk_alloc ?_ _)); exact BK366.out) hg (Kd.R_ne HO_4.out BK366.out (by decide))); have n1_ := Aside0.mk (hb); have n2_ := Aside0.mk (ho); clear BK366; clear HB; clear HO_4; have BK366 := n0_; have HB := n1_; have HO372 := n2_; clear n0_ n1_ n2_; clear ho hb hg hat))
                      go_roundg k1
                      case measure => have := HK1.out; omega
                      case rel => exact ⟨(y370), (wrap64 (x6_1 + 1)), (wrap64 (x6_1 + 1)), (by first | rfl | (simp; done) | (simp [*]; done)), (by first | rfl | (simp; done) | (simp [*]; done)), H', ⟨by have := HK1.out; omega⟩, ⟨by (with_reducible repeat (first | apply Kd.R_alloc | apply Kd.R_drewN | apply Kd.R_drew)); exact HO372.out⟩, ⟨by (with_reducible repeat (first | refine blk_drewN ?_ _ | refine blk_drew ?_ | refine blk_alloc ?_ _)); exact BK366.out⟩, ⟨by repeat (first | (with_reducible first | exact HB.out | apply below_alloc | apply pw_below_drewN | apply below_drew1 | refine below_set ?_ GE366.out) | exact HB.out)⟩⟩
                    · rw [if_neg c17] at H
                      exact absurd H (by simp)
                  · rw [if_neg c15] at H
                    exact absurd H (by simp)
                · rw [if_neg c14] at H
                  exact absurd H (by simp)
              · rw [if_neg c13] at H
                have c13b0 : ((bt a0 x6_1) == 32) = false := beq_eq_false_iff_ne.mpr c13
                have c13b1 : ((bt a0 x6_1) != 32) = true := bne_iff_ne.mpr c13
                have H' := Aside0.mk H
                clear H
                have p12 : 0 ≤ (x6_1 : Int) := of_decide_eq_true (by first | (with_reducible assumption) | assumption)
                have q12 : x6_1 < (a0.size : Int) := of_decide_eq_true (by first | (with_reducible assumption) | assumption)
                have hx12 := bt_at a0 x6_1
                replace p12 := eq_true p12
                replace q12 := eq_true q12
                go_wp2
                go_roundg k1
                case measure => have := HK1.out; omega
                case rel => exact ⟨(x4_1), (x5_1), (wrap64 (x6_1 + 1)), (by first | rfl | (simp; done) | (simp [*]; done)), (by first | rfl | (simp; done) | (simp [*]; done)), H', ⟨by have := HK1.out; omega⟩, ⟨by (with_reducible repeat (first | apply Kd.R_alloc | apply Kd.R_drewN | apply Kd.R_drew)); exact HO_4.out⟩, ⟨by (with_reducible repeat (first | refine blk_drewN ?_ _ | refine blk_drew ?_ | refine blk_alloc ?_ _)); exact BK366.out⟩, ⟨by repeat (first | (with_reducible first | exact HB.out | apply below_alloc | apply pw_below_drewN | apply below_drew1 | refine below_set ?_ GE366.out) | exact HB.out)⟩⟩
            · rw [if_neg c11] at H
              exact absurd H (by simp)
          · rw [if_neg c10] at H
            exact absurd H (by simp)
      · rw [if_neg c3] at H
        have c3b0 : decide (x6_1 ≤ (a0.size : Int)) = false := decide_eq_false c3
        clear c3
        by_cases c19 : 6 ≤ 35184372088832
        · rw [if_pos c19] at H
          have c19b0 := eq_true c19
          have c19b1 : decide (6 ≤ 35184372088832) = true := decide_eq_true c19
          clear c19
          obtain ⟨y373, hy373⟩ : ∃ y_ : List Int, y_ = (List.replicate 6 0) := ⟨_, rfl⟩
          replace H : (tailwaterref25_Read.l1 k1 a0 x4_1 y373 1) = some (r1, r2, r3, r4, r5, r6, r7, r8, r9, r10, r11) := by first | (rw [hy373]; with_reducible exact H) | (have H2_ := (Option.bind_some _ _).symm.trans H; rw [hy373]; with_reducible exact H2_) | (have H2_ := (Option.bind_some _ _).symm.trans H; with_reducible exact H2_) | with_reducible exact H | (rw [hy373]; exact H) | exact H
          have Ny373 := Aside0.mk hy373
          clear hy373
          have HC20 := Aside0.mk H
          clear H
          go_upto_block 2 with (first | ((with_reducible refine gate_dst (N := 35) rfl ?_); refine Kd.R_make (Kd.int .i64) _ 2 rfl (N := 35) rfl 74 _ _ rfl 6 rfl rfl Tryd.underlying74 (.int .i64 0) 8 info2 rfl (by decide) (by omega) 0 (ok := fun _ => True) (okp := fun _ => True) rfl (fun _ hk => hk) trivial (by omega) (by omega) (Below.refl _ _) (Nat.le_refl _) ?_; intro v374 w21 ho22 hb hg_ hnew_; clear hg_ hnew_; (first | rw [← Ny373.out] at ho22 | (simp only [Int.reduceToNat] at ho22; rw [← Ny373.out] at ho22)); have n0_ := Aside0.mk (Kd.R_below (by (with_reducible repeat (first | apply Kd.R_alloc | apply Kd.R_drewN | apply Kd.R_drew)); exact HO_4.out) hb); have n1_ := Aside0.mk (Kd.R_lower ho22 (below_size (by repeat (first | (with_reducible first | exact HB.out | apply below_alloc | apply pw_below_drewN | apply below_drew1 | refine below_set ?_ GE366.out) | exact HB.out)))); have n2_ := Aside0.mk (blk_below (g := gb366) (o := .cells #[.int .u8 0, .int .i64 0, .int .i64 0, .int .i64 0, .int .i64 0, .int .i64 0, .int .i64 0, .int .i64 0, .int .i64 0, .int .i64 0] 31 (0, 0)) (by (with_reducible repeat (first | refine blk_drewN ?_ _ | refine blk_drew ?_ | refine blk_alloc ?_ _)); exact BK366.out) hb); have n3_ := Aside0.mk (below_step (by repeat (first | (with_reducible first | exact HB.out | apply below_alloc | apply pw_below_drewN | apply below_drew1 | refine below_set ?_ GE366.out) | exact HB.out)) hb); clear HO_4; clear BK366; clear HB; have HO_4 := n0_; have HO375 := n1_; have BK366 := n2_; have HB := n3_; clear n0_ n1_ n2_ n3_; clear hb ho22))
          (try simp only [Act.put, List.setIfInBounds_toArray, List.set_cons_zero, List.set_cons_succ])
          go_cut [] (fun wc => ∃ (kq : Nat) (x7_19 : List Int), Aside0 (tailwaterref25_Read.j2 kq a0 x4_1 x7_19 = some (r1, r2, r3, r4, r5, r6, r7, r8, r9, r10, r11)) ∧ Aside0 (kq ≤ k1) ∧ Aside0 (Kd.R Kd.string 9 wc w.heap.size (fun _ => True) u4 x4_1) ∧ Aside0 (Kd.R (Kd.int .i64) 2 wc w.heap.size (fun _ => True) v374 x7_19) ∧ Aside0 (wc.heap[gb366]? = some (.cells #[.int .u8 0, .int .i64 0, .int .i64 0, .int .i64 0, .int .i64 0, .int .i64 0, .int .i64 0, .int .i64 0, .int .i64 0, .int .i64 0] 31 (0, 0))) ∧ Aside0 (Below w.heap.size w wc))
          case first =>
            have H := HC20.out
            clear HC20
            have H' := Aside0.mk H
            clear H
            go_wp2
            go_loopg [8] k1 (fun kq v8 w' => ∃ (x7_2 : List Int) (x8_2 : Int), v8 = .int .i64 x8_2 ∧ Aside0 (tailwaterref25_Read.l1 kq a0 x4_1 x7_2 x8_2 = some (r1, r2, r3, r4, r5, r6, r7, r8, r9, r10, r11)) ∧ Aside0 (kq ≤ k1) ∧ Aside0 (Kd.R Kd.string 9 w' w.heap.size (fun _ => True) u4 x4_1) ∧ Aside0 (Kd.R (Kd.int .i64) 2 w' w.heap.size (fun _ => True) v374 x7_2) ∧ Aside0 (w'.heap[gb366]? = some (.cells #[.int .u8 0, .int .i64 0, .int .i64 0, .int .i64 0, .int .i64 0, .int .i64 0, .int .i64 0, .int .i64 0, .int .i64 0, .int .i64 0] 31 (0, 0))) ∧ Aside0 (Below w.heap.size w w'))
            case atStart => exact ⟨(y373), (1), (by first | rfl | (simp; done) | (simp [*]; done)), H', ⟨Nat.le_refl _⟩, ⟨by (with_reducible repeat (first | apply Kd.R_alloc | apply Kd.R_drewN | apply Kd.R_drew)); exact HO_4.out⟩, ⟨by (with_reducible repeat (first | apply Kd.R_alloc | apply Kd.R_drewN | apply Kd.R_drew)); exact HO375.out⟩, ⟨by (with_reducible repeat (first | refine blk_drewN ?_ _ | refine blk_drew ?_ | refine blk_alloc ?_ _)); exact BK366.out⟩, ⟨by repeat (first | (with_reducible first | exact HB.out | apply below_alloc | apply pw_below_drewN | apply below_drew1 | refine below_set ?_ GE366.out) | exact HB.out)⟩⟩
            case round =>
              clear H'
              try clear c1
              try clear p1
              try clear q1
              try clear hx1
              try clear p2
              try clear c3
              try clear c3b0
              try clear c4
              try clear c4b0
              try clear c4b1
              try clear c5
              try clear c5b0
              try clear c5b1
              try clear c6
              try clear c6b0
              try clear c6b1
              try clear p6
              try clear c7
              try clear c7b0
              try clear c8
              try clear c10
              try clear c10b0
              try clear c11
              try clear c11b0
              try clear p12
              try clear q12
              try clear hx12
              try clear c13
              try clear c13b0
              try clear c13b1
              try clear c14
              try clear c14b0
              try clear c14b1
              try clear c15
              try clear c15b0
              try clear c15b1
              try clear c16
              try clear c16b0
              try clear c17
              try clear c19
              try clear c19b0
              try clear c19b1
              try clear p12
              try clear p2
              try clear q12
              obtain ⟨x7_2, x8_2, rfl, HA, HK2, HO_4, HO_7, BK366, HB⟩ := hrel
              cases gk with
              | zero => exact absurd HA.out (by simp [tailwaterref25_Read.l1])
              | succ k2 =>
                have H := HA.out
                clear HA
                simp only [tailwaterref25_Read.l1] at H
                by_cases c23 : x8_2 < (x4_1.length : Int)
                · rw [if_pos c23] at H
                  have c23b0 : decide (x8_2 < (x4_1.length : Int)) = true := decide_eq_true c23
                  clear c23
                  (first | rw [c23b0] | (simp only [i64_w, i32_w]; rw [c23b0]) | skip)
                  by_cases c24 : x8_2 < 6
                  · rw [if_pos c24] at H
                    have c24b0 : decide (x8_2 < 6) = true := decide_eq_true c24
                    clear c24
                    by_cases c25 : 0 ≤ x8_2
                    · rw [if_pos c25] at H
                      have c25b0 : decide (0 ≤ x8_2) = true := decide_eq_true c25
                      clear c25
                      replace H := Option.bind_eq_some_iff.mp H
                      obtain ⟨t377, A260, H⟩ := H
                      replace H : (if x8_2 < (x7_2.length : Int) then (tailwaterref25_Read.l1 k2 a0 x4_1 (x7_2.set (x8_2 : Int).toNat t377) (wrap64 (x8_2 + 1))) else (none)) = some (r1, r2, r3, r4, r5, r6, r7, r8, r9, r10, r11) := H
                      have A26 := Aside0.mk A260
                      clear A260
                      by_cases c27 : x8_2 < (x7_2.length : Int)
                      · rw [if_pos c27] at H
                        have c27b0 : decide (x8_2 < (x7_2.length : Int)) = true := decide_eq_true c27
                        clear c27
                        obtain ⟨y378, hy378⟩ : ∃ y_ : List Int, y_ = (x7_2.set (x8_2 : Int).toNat t377) := ⟨_, rfl⟩
                        replace H : (tailwaterref25_Read.l1 k2 a0 x4_1 y378 (wrap64 (x8_2 + 1))) = some (r1, r2, r3, r4, r5, r6, r7, r8, r9, r10, r11) := by first | (rw [hy378]; with_reducible exact H) | (have H2_ := (Option.bind_some _ _).symm.trans H; rw [hy378]; with_reducible exact H2_) | (have H2_ := (Option.bind_some _ _).symm.trans H; with_reducible exact H2_) | with_reducible exact H | (rw [hy378]; exact H) | exact H
                        have Ny378 := Aside0.mk hy378
                        clear hy378
                        have H' := Aside0.mk H
                        clear H
                        obtain ⟨Ao29, co29, eo29⟩ := Kd.R_slice HO_4.out
                        subst eo29
                        have p376 : 0 ≤ (x8_2 : Int) := of_decide_eq_true (by first | (with_reducible assumption) | assumption)
                        have q376 : x8_2 < (x4_1.length : Int) := of_decide_eq_true (by first | (with_reducible assumption) | assumption)
                        obtain ⟨ad376, e376, hx376_0⟩ := Kd.at_string (Kd.R_reads' HO_4.out).2.2 x8_2 p376 q376
                        cases e376
                        replace p376 := eq_true p376
                        replace q376 := eq_true q376
                        go_wp2_with (first | ((with_reducible refine gate_callee (f := 53) rfl ?_); refine goesL_ (some 52) rfl rfl Tryd.func53 (by kernel_rfl) rfl #[.string (rdOf ByteArray.empty x4_1 x8_2)] rfl (by (try simp only [List.map_toArray, List.map_cons, List.map_nil]); first | done | rfl | (simp only [List.length_drop, List.length_take]; rfl)) ?_; (with_reducible refine (tailwaterref25_number.calls k2 (rdOf ByteArray.empty x4_1 x8_2) t377 _ A26.out).mono ?_); rintro e w' ⟨rfl, ⟨nd, rfl⟩⟩; refine ⟨_, rfl, ?_⟩; (try (rw [drewN_self wr]; generalize hq_ : World.drewN wr _ = wr; have n0_ : Aside0 (Kd.R Kd.string 9 wr w.heap.size (fun _ => True) (.slice (some ad376) x4_1.length co29) x4_1) := ⟨by rw [← hq_]; exact (by (with_reducible repeat (first | apply Kd.R_alloc | apply Kd.R_drewN | apply Kd.R_drew)); exact HO_4.out)⟩; have n1_ : Aside0 (Kd.R (Kd.int .i64) 2 wr w.heap.size (fun _ => True) v374 x7_2) := ⟨by rw [← hq_]; exact (by (with_reducible repeat (first | apply Kd.R_alloc | apply Kd.R_drewN | apply Kd.R_drew)); exact HO_7.out)⟩; have n2_ : Aside0 (wr.heap[gb366]? = some (.cells #[.int .u8 0, .int .i64 0, .int .i64 0, .int .i64 0, .int .i64 0, .int .i64 0, .int .i64 0, .int .i64 0, .int .i64 0, .int .i64 0] 31 (0, 0))) := ⟨by rw [← hq_]; exact (by (with_reducible repeat (first | refine blk_drewN ?_ _ | refine blk_drew ?_ | refine blk_alloc ?_ _)); exact BK366.out)⟩; have n3_ : Aside0 (Below w.heap.size w wr) := ⟨by rw [← hq_]; exact (by repeat (first | (with_reducible first | exact HB.out | apply below_alloc | apply pw_below_drewN | apply below_drew1 | refine below_set ?_ GE366.out) | exact HB.out))⟩; clear HO_4 HO_7 BK366 HB hq_; have HO_4 := n0_; have HO_7 := n1_; have BK366 := n2_; have HB := n3_; clear n0_ n1_ n2_ n3_)); have p28 : 0 ≤ (x8_2 : Int) := of_decide_eq_true (by first | (with_reducible assumption) | assumption); have q28 : (x8_2 : Int) < ((x7_2.length : Int) : Int) := of_decide_eq_true (by first | (with_reducible assumption) | assumption); obtain ⟨go28, co28, eo28, gb28, gl28, cl28, HG28⟩ := Kd.R_form HO_7.out (by omega); (first | cases eo28 | (injection eo28 with ea_ en_ ec_; (first | subst ea_ | (injection ea_ with ea_; subst ea_)); subst ec_; clear en_)); have GB28 := Aside0.mk gb28; have GG28 := Aside0.mk HG28; clear gb28 gl28 HG28; obtain ⟨hx28_0, hf28_0⟩ := Kd.R_celln 0 HO_7.out (x8_2 : Int) p28 q28; replace p28 := eq_true p28; replace q28 := eq_true q28; obtain ⟨hy30_, hz30_⟩ := Kd.R_celln 0 HO_7.out (x8_2 : Int) (of_decide_eq_true (by first | (with_reducible assumption) | assumption)) (of_decide_eq_true (by first | (with_reducible assumption) | assumption)); have HP30 := Kd.R_putg HO_7.out (x8_2 : Int) t377) | ((with_reducible refine gate_store (t := 2) (p := 53) rfl ?_); refine store_event (t := 2) (p := 53) (v := ?vo_w31) (w1 := (wr.setCell ⟨go28, (x8_2 : Int).toNat, none⟩ (.int .i64 t377))) ?hg ?ho ?hn ?hr ?_; (case ho => rfl); (case hg => rfl); (case hn => rfl); (case hr => first | (go_simp; done) | (go_simp; rfl)); intro w31 hw; have hg : wr.grownBy w31 (some go28) := (by rw [hw]; exact HP30.2); have hp_ : Kd.R (Kd.int .i64) 2 w31 w.heap.size (fun _ => True) (.slice (some ⟨go28, 0, none⟩) x7_2.length co28) y378 := (by rw [hw, Ny378.out]; exact HP30.1); clear HP30; have n0_ := Aside0.mk (Kd.R_over' (v := (.slice (some ⟨go28, 0, none⟩) x7_2.length co28)) (by (with_reducible repeat (first | apply Kd.R_alloc | apply Kd.R_drewN | apply Kd.R_drew)); exact HO_4.out) (Kd.R_typed HO_7.out) (by decide) hg); have n1_ := Aside0.mk (hp_); have n2_ := Aside0.mk (blk_grown (g := gb366) (o := .cells #[.int .u8 0, .int .i64 0, .int .i64 0, .int .i64 0, .int .i64 0, .int .i64 0, .int .i64 0, .int .i64 0, .int .i64 0, .int .i64 0] 31 (0, 0)) (by (with_reducible repeat (first | refine blk_drewN ?_ _ | refine blk_drew ?_ | refine blk_alloc ?_ _)); exact BK366.out) hg (Kd.R_ne HO_7.out BK366.out (by decide))); have n3_ := Aside0.mk ((by rw [hw]; exact below_set (HB.out) GB28.out : Below w.heap.size w w31)); clear HO_4; clear HO_7; clear BK366; clear HB; have HO_4 := n0_; have HO_7 := n1_; have BK366 := n2_; have HB := n3_; clear n0_ n1_ n2_ n3_; clear hg hw hp_))
                        go_roundg k2
                        case measure => have := HK1.out; have := HK2.out; omega
                        case rel => exact ⟨(y378), (wrap64 (x8_2 + 1)), (by first | rfl | (simp; done) | (simp [*]; done)), H', ⟨by have := HK1.out; have := HK2.out; omega⟩, ⟨by (with_reducible repeat (first | apply Kd.R_alloc | apply Kd.R_drewN | apply Kd.R_drew)); exact HO_4.out⟩, ⟨by (with_reducible repeat (first | apply Kd.R_alloc | apply Kd.R_drewN | apply Kd.R_drew)); exact HO_7.out⟩, ⟨by (with_reducible repeat (first | refine blk_drewN ?_ _ | refine blk_drew ?_ | refine blk_alloc ?_ _)); exact BK366.out⟩, ⟨by repeat (first | (with_reducible first | exact HB.out | apply below_alloc | apply pw_below_drewN | apply below_drew1 | refine below_set ?_ GE366.out) | exact HB.out)⟩⟩
                      · rw [if_neg c27] at H
                        exact absurd H (by simp)
                    · rw [if_neg c25] at H
                      exact absurd H (by simp)
                  · rw [if_neg c24] at H
                    have c24b0 : decide (x8_2 < 6) = false := decide_eq_false c24
                    clear c24
                    have H' := Aside0.mk H
                    clear H
                    obtain ⟨Ao32, co32, eo32⟩ := Kd.R_slice HO_4.out
                    subst eo32
                    go_wp2
                    go_meet
                    case rel => exact ⟨_, (x7_2), H', ⟨by have := HK1.out; have := HK2.out; first | omega | exact Nat.le_refl _⟩, ⟨by (with_reducible repeat (first | apply Kd.R_alloc | apply Kd.R_drewN | apply Kd.R_drew)); exact HO_4.out⟩, ⟨by (with_reducible repeat (first | apply Kd.R_alloc | apply Kd.R_drewN | apply Kd.R_drew)); exact HO_7.out⟩, ⟨by (with_reducible repeat (first | refine blk_drewN ?_ _ | refine blk_drew ?_ | refine blk_alloc ?_ _)); exact BK366.out⟩, ⟨by repeat (first | (with_reducible first | exact HB.out | apply below_alloc | apply pw_below_drewN | apply below_drew1 | refine below_set ?_ GE366.out) | exact HB.out)⟩⟩
                · rw [if_neg c23] at H
                  have c23b0 : decide (x8_2 < (x4_1.length : Int)) = false := decide_eq_false c23
                  clear c23
                  (first | rw [c23b0] | (simp only [i64_w, i32_w]; rw [c23b0]) | skip)
                  have H' := Aside0.mk H
                  clear H
                  obtain ⟨Ao33, co33, eo33⟩ := Kd.R_slice HO_4.out
                  subst eo33
                  go_wp2
                  go_meet
                  case rel => exact ⟨_, (x7_2), H', ⟨by have := HK1.out; have := HK2.out; first | omega | exact Nat.le_refl _⟩, ⟨by (with_reducible repeat (first | apply Kd.R_alloc | apply Kd.R_drewN | apply Kd.R_drew)); exact HO_4.out⟩, ⟨by (with_reducible repeat (first | apply Kd.R_alloc | apply Kd.R_drewN | apply Kd.R_drew)); exact HO_7.out⟩, ⟨by (with_reducible repeat (first | refine blk_drewN ?_ _ | refine blk_drew ?_ | refine blk_alloc ?_ _)); exact BK366.out⟩, ⟨by repeat (first | (with_reducible first | exact HB.out | apply below_alloc | apply pw_below_drewN | apply below_drew1 | refine below_set ?_ GE366.out) | exact HB.out)⟩⟩
          case rest =>
            clear HC20
            try clear c1
            try clear p1
            try clear q1
            try clear hx1
            try clear c2
            try clear p2
            try clear q2
            try clear hx2
            try clear hf2
            try clear c3
            try clear c3b0
            try clear p3
            try clear q3
            try clear hx3
            try clear c4
            try clear c4b0
            try clear c4b1
            try clear c5
            try clear c5b0
            try clear c5b1
            try clear c6
            try clear c6b0
            try clear c6b1
            try clear p6
            try clear c7
            try clear c7b0
            try clear c8
            try clear c10
            try clear c10b0
            try clear c11
            try clear c11b0
            try clear p12
            try clear q12
            try clear hx12
            try clear c13
            try clear c13b0
            try clear c13b1
            try clear c14
            try clear c14b0
            try clear c14b1
            try clear c15
            try clear c15b0
            try clear c15b1
            try clear c16
            try clear c16b0
            try clear c17
            try clear c19
            try clear c19b0
            try clear c19b1
            try clear c23
            try clear c23b0
            try clear c24
            try clear c24b0
            try clear c25
            try clear c25b0
            try clear c27
            try clear c27b0
            try clear p28
            try clear q28
            try clear hx28
            try clear hf28
            try clear c33
            try clear hx28_0
            try clear hx376_0
            try clear p1
            try clear p12
            try clear p2
            try clear p28
            try clear p376
            try clear p6
            try clear q1
            try clear q12
            try clear q28
            try clear q376
            obtain ⟨kq, x7_19, HA, HJ19, HO_4, HO_7, BK366, HB⟩ := hcut
            cases kq with
            | zero => exact absurd HA.out (by simp [tailwaterref25_Read.j2])
            | succ kj19 =>
              have H := HA.out
              clear HA
              simp only [tailwaterref25_Read.j2] at H
              by_cases c34 : 0 < (x4_1.length : Int)
              · rw [if_pos c34] at H
                have c34b0 : decide (0 < (x4_1.length : Int)) = true := decide_eq_true c34
                have c34b1 : decide (0 < x4_1.length) = true := decide_eq_true (by omega)
                clear c34
                have HC35 := Aside0.mk H
                clear H
                go_upto_block 4 with (first | ((with_reducible refine gate_dst (N := 9) rfl ?_); refine box_event ?hg (N := 9) ?hd (cs := #[.int .u8 0, .int .i64 0, .int .i64 0, .int .i64 0, .int .i64 0, .int .i64 0, .int .i64 0, .int .i64 0, .int .i64 0, .int .i64 0]) (t := 31) ?hr ?_; (case hd => rfl); (case hg => rfl); (case hr => first | (go_simp; done) | (go_simp; rfl)); intro gb379 hg w36 hbox hb; have n0_ := Aside0.mk (Kd.R_below (by (with_reducible repeat (first | apply Kd.R_alloc | apply Kd.R_drewN | apply Kd.R_drew)); exact HO_4.out) hb); have n1_ := Aside0.mk (Kd.R_below (by (with_reducible repeat (first | apply Kd.R_alloc | apply Kd.R_drewN | apply Kd.R_drew)); exact HO_7.out) hb); have n2_ := Aside0.mk (blk_below (g := gb366) (o := .cells #[.int .u8 0, .int .i64 0, .int .i64 0, .int .i64 0, .int .i64 0, .int .i64 0, .int .i64 0, .int .i64 0, .int .i64 0, .int .i64 0] 31 (0, 0)) (by (with_reducible repeat (first | refine blk_drewN ?_ _ | refine blk_drew ?_ | refine blk_alloc ?_ _)); exact BK366.out) hb); have n3_ := Aside0.mk (below_step (by repeat (first | (with_reducible first | exact HB.out | apply below_alloc | apply pw_below_drewN | apply below_drew1 | refine below_set ?_ GE366.out) | exact HB.out)) hb); have n4_ := Aside0.mk (hbox); have n5_ := Aside0.mk ((by rw [hg]; exact (below_size (by repeat (first | (with_reducible first | exact HB.out | apply below_alloc | apply pw_below_drewN | apply below_drew1 | refine below_set ?_ GE366.out) | exact HB.out))) : w.heap.size ≤ gb379)); have n6_ := Aside0.mk ((by rw [hg]; exact (below_size (by repeat (first | (with_reducible first | exact HB.out | apply below_alloc | apply pw_below_drewN | apply below_drew1 | refine below_set ?_ GE366.out) | exact HB.out))) : w.heap.size ≤ gb379)); have n7_ := Aside0.mk ((by rw [hg]; exact Nat.ne_of_lt (blk_lt (g := gb366) (o := .cells #[.int .u8 0, .int .i64 0, .int .i64 0, .int .i64 0, .int .i64 0, .int .i64 0, .int .i64 0, .int .i64 0, .int .i64 0, .int .i64 0] 31 (0, 0)) (by (with_reducible repeat (first | refine blk_drewN ?_ _ | refine blk_drew ?_ | refine blk_alloc ?_ _)); exact BK366.out)) : gb366 ≠ gb379)); have n8_ := Aside0.mk ((by rw [hg]; exact Nat.ne_of_gt (blk_lt (g := gb366) (o := .cells #[.int .u8 0, .int .i64 0, .int .i64 0, .int .i64 0, .int .i64 0, .int .i64 0, .int .i64 0, .int .i64 0, .int .i64 0, .int .i64 0] 31 (0, 0)) (by (with_reducible repeat (first | refine blk_drewN ?_ _ | refine blk_drew ?_ | refine blk_alloc ?_ _)); exact BK366.out)) : gb379 ≠ gb366)); clear HO_4; clear HO_7; clear BK366; clear HB; have HO_4 := n0_; have HO_7 := n1_; have BK366 := n2_; have HB := n3_; have BK379 := n4_; have GW379 := n5_; have GE379 := n6_; have NB366_379 := n7_; have NB379_366 := n8_; clear n0_ n1_ n2_ n3_ n4_ n5_ n6_ n7_ n8_; clear hb hbox hg; obtain ⟨Ao37, co37, eo37⟩ := Kd.R_slice HO_4.out; subst eo37; have p380 : 0 ≤ (0 : Int) := (by omega); have q380 : 0 < (x4_1.length : Int) := of_decide_eq_true (by first | (with_reducible assumption) | assumption); obtain ⟨ad380, e380, hx380_0⟩ := Kd.at_string (Kd.R_reads' HO_4.out).2.2 0 p380 q380; cases e380; have qi380 : (0 < x4_1.length) = True := eq_true (by omega); (try rw [show ((0 : Int)).toNat = 0 from rfl] at hx380_0); (try rw [Addr.add_zero'] at hx380_0); replace p380 := eq_true p380; replace q380 := eq_true q380))
                (try simp only [Act.put, List.setIfInBounds_toArray, List.set_cons_zero, List.set_cons_succ])
                go_cut [] (fun wc => ∃ (kq : Nat) (x380000_34 : Int) (x380001_34 : Int) (x380002_34 : Int) (x380003_34 : Int) (x380004_34 : Int) (x380005_34 : Int) (x380006_34 : Int) (x380007_34 : Int) (x380008_34 : Int) (x380009_34 : Int), Aside0 (tailwaterref25_Read.j3 kq a0 x380000_34 x380001_34 x380002_34 x380003_34 x380004_34 x380005_34 x380006_34 x380007_34 x380008_34 x380009_34 = some (r1, r2, r3, r4, r5, r6, r7, r8, r9, r10, r11)) ∧ Aside0 (kq ≤ kj19) ∧ Aside0 (wc.heap[gb366]? = some (.cells #[.int .u8 0, .int .i64 0, .int .i64 0, .int .i64 0, .int .i64 0, .int .i64 0, .int .i64 0, .int .i64 0, .int .i64 0, .int .i64 0] 31 (0, 0))) ∧ Aside0 (wc.heap[gb379]? = some (.cells #[.int .u8 x380000_34, .int .i64 x380001_34, .int .i64 x380002_34, .int .i64 x380003_34, .int .i64 x380004_34, .int .i64 x380005_34, .int .i64 x380006_34, .int .i64 x380007_34, .int .i64 x380008_34, .int .i64 x380009_34] 31 (0, 0))) ∧ Aside0 (Below w.heap.size w wc))
                case first =>
                  have H := HC35.out
                  clear HC35
                  by_cases c38 : (rdOf ByteArray.empty x4_1 0).toList = ([114, 101, 99, 111, 114, 100] : List UInt8)
                  · rw [if_pos c38] at H
                    have c38b0 : ((rdOf ByteArray.empty x4_1 0).toList == ([114, 101, 99, 111, 114, 100] : List UInt8)) = true := beq_iff_eq.mpr c38
                    have c38b1 : ((rdOf ByteArray.empty x4_1 0).toList != ([114, 101, 99, 111, 114, 100] : List UInt8)) = false := bne_eq_false_iff_eq.mpr c38
                    clear c38
                    (first | rw [c38b0] | (simp only [i64_w, i32_w]; rw [c38b0]) | skip)
                    by_cases c39 : 1 < (x7_19.length : Int)
                    · rw [if_pos c39] at H
                      have c39b0 : decide (1 < (x7_19.length : Int)) = true := decide_eq_true c39
                      have c39b1 : decide (1 < x7_19.length) = true := decide_eq_true (by omega)
                      clear c39
                      by_cases c40 : 2 < (x7_19.length : Int)
                      · rw [if_pos c40] at H
                        have c40b0 : decide (2 < (x7_19.length : Int)) = true := decide_eq_true c40
                        have c40b1 : decide (2 < x7_19.length) = true := decide_eq_true (by omega)
                        clear c40
                        by_cases c41 : 3 < (x7_19.length : Int)
                        · rw [if_pos c41] at H
                          have c41b0 : decide (3 < (x7_19.length : Int)) = true := decide_eq_true c41
                          have c41b1 : decide (3 < x7_19.length) = true := decide_eq_true (by omega)
                          clear c41
                          have H' := Aside0.mk H
                          clear H
                          try go_wp2
                          have n0_ := Aside0.mk (Kd.R_drew HO_4.out)
                          have n1_ := Aside0.mk (Kd.R_drew HO_7.out)
                          have n2_ := Aside0.mk (blk_drew BK366.out)
                          have n3_ := Aside0.mk (blk_drew BK379.out)
                          have n4_ := Aside0.mk (below_drew1 HB.out)
                          clear HO_4
                          clear HO_7
                          clear BK366
                          clear BK379
                          clear HB
                          have HO_4 := n0_
                          have HO_7 := n1_
                          have BK366 := n2_
                          have BK379 := n3_
                          have HB := n4_
                          clear n0_ n1_ n2_ n3_ n4_
                          obtain ⟨Ao43, co43, eo43⟩ := Kd.R_slice HO_7.out
                          (first | subst eo43 | (injection eo43 with f1_ f2_ f3_; have f4_ := f1_.symm; have f5_ := f3_.symm; clear f1_ f2_ f3_; subst f4_; subst f5_))
                          have p381 : 0 ≤ (1 : Int) := (by omega)
                          have q381 : 1 < (x7_19.length : Int) := of_decide_eq_true (by first | (with_reducible assumption) | assumption)
                          obtain ⟨ad381, e381, hx381_0⟩ := Kd.at_int (Kd.R_reads' HO_7.out).2.2 1 p381 q381
                          cases e381
                          (try simp only [show (1 : Int).toNat = 1 from rfl, Nat.reduceMul, Nat.reduceEqDiff, Go.Addr.add, ↓reduceIte] at hx381_0)
                          have qi381 : (1 < x7_19.length) = True := eq_true (by omega)
                          (try rw [show ((1 : Int)).toNat = 1 from rfl] at hx381_0)
                          replace p381 := eq_true p381
                          replace q381 := eq_true q381
                          have p382 : 0 ≤ (2 : Int) := (by omega)
                          have q382 : 2 < (x7_19.length : Int) := of_decide_eq_true (by first | (with_reducible assumption) | assumption)
                          obtain ⟨ad382, e382, hx382_0⟩ := Kd.at_int (Kd.R_reads' HO_7.out).2.2 2 p382 q382
                          obtain rfl : ad381 = ad382 := (by injection e382)
                          (try simp only [show (2 : Int).toNat = 2 from rfl, Nat.reduceMul, Nat.reduceEqDiff, Go.Addr.add, ↓reduceIte] at hx382_0)
                          have qi382 : (2 < x7_19.length) = True := eq_true (by omega)
                          (try rw [show ((2 : Int)).toNat = 2 from rfl] at hx382_0)
                          replace p382 := eq_true p382
                          replace q382 := eq_true q382
                          have p383 : 0 ≤ (3 : Int) := (by omega)
                          have q383 : 3 < (x7_19.length : Int) := of_decide_eq_true (by first | (with_reducible assumption) | assumption)
                          obtain ⟨ad383, e383, hx383_0⟩ := Kd.at_int (Kd.R_reads' HO_7.out).2.2 3 p383 q383
                          obtain rfl : ad381 = ad383 := (by injection e383)
                          (try simp only [show (3 : Int).toNat = 3 from rfl, Nat.reduceMul, Nat.reduceEqDiff, Go.Addr.add, ↓reduceIte] at hx383_0)
                          have qi383 : (3 < x7_19.length) = True := eq_true (by omega)
                          (try rw [show ((3 : Int)).toNat = 3 from rfl] at hx383_0)
                          replace p383 := eq_true p383
                          replace q383 := eq_true q383
                          refine start_ (n := 12) (S := fun w' => w'.cell? ⟨ad381.block, ad381.off + 1, none⟩ = some (.int .i64 (rd x7_19 1)) ∧ w'.cell? ⟨ad381.block, ad381.off + 2, none⟩ = some (.int .i64 (rd x7_19 2)) ∧ w'.cell? ⟨ad381.block, ad381.off + 3, none⟩ = some (.int .i64 (rd x7_19 3))) (ds := []) #[false, false, false, false, false, false, false, false, false, false, false, false] (by kernel_rfl) rfl rfl ⟨hx381_0, hx382_0, hx383_0⟩ (fun hHeld => ?_); refine with_tabW tailwaterref25_Read.tab17 tailwaterref25_Read.bits17 (fun HT_ HW_ => ?_)
                          generalize w36.drew = w42 at HO_4 HO_7 BK366 BK379 HB hx381_0 hx382_0 hx383_0 hHeld ⊢
                          refine pure_ (i := 0) (N := some 59) (v := ?_) (a' := ?_) #[true, false, false, false, false, false, false, false, false, false, false, false] rfl rfl (any_of HT_.out (by kernel_rfl)) (fun _ _ _ h => h) (Or.inl ⟨by rfl, ?_⟩) ?_ ?_
                          rotate_left
                          · intro w'
                            go_simp
                            with_reducible rfl
                          rotate_left
                          · simp only [Act.put, List.setIfInBounds_toArray, List.set_cons_zero, List.set_cons_succ, i64_w, i32_w]
                            rfl
                          refine pure_ (i := 1) (N := some 60) (v := ?_) (a' := ?_) #[true, true, false, false, false, false, false, false, false, false, false, false] rfl rfl (any_of HT_.out (by kernel_rfl)) (fun _ _ _ h => h) (Or.inl ⟨by rfl, ?_⟩) ?_ ?_
                          rotate_left
                          · intro w'
                            go_simp
                            with_reducible rfl
                          rotate_left
                          · simp only [Act.put, List.setIfInBounds_toArray, List.set_cons_zero, List.set_cons_succ, i64_w, i32_w]
                            rfl
                          refine pure_ (i := 3) (N := some 62) (v := ?_) (a' := ?_) #[true, true, false, true, false, false, false, false, false, false, false, false] rfl rfl (any_of HT_.out (by kernel_rfl)) (fun _ _ _ h => h) (Or.inl ⟨by rfl, ?_⟩) ?_ ?_
                          rotate_left
                          · intro w'
                            go_simp
                            with_reducible rfl
                          rotate_left
                          · simp only [Act.put, List.setIfInBounds_toArray, List.set_cons_zero, List.set_cons_succ, i64_w, i32_w]
                            rfl
                          refine pure_ (i := 4) (N := some 63) (v := ?_) (a' := ?_) #[true, true, false, true, true, false, false, false, false, false, false, false] rfl rfl (any_of HT_.out (by kernel_rfl)) (fun _ _ _ h => h) (Or.inl ⟨by rfl, ?_⟩) ?_ ?_
                          rotate_left
                          · intro w'
                            go_simp
                            with_reducible rfl
                          rotate_left
                          · simp only [Act.put, List.setIfInBounds_toArray, List.set_cons_zero, List.set_cons_succ, i64_w, i32_w]
                            rfl
                          refine pure_ (i := 6) (N := some 65) (v := ?_) (a' := ?_) #[true, true, false, true, true, false, true, false, false, false, false, false] rfl rfl (any_of HT_.out (by kernel_rfl)) (fun _ _ _ h => h) (Or.inl ⟨by rfl, ?_⟩) ?_ ?_
                          rotate_left
                          · intro w'
                            go_simp
                            with_reducible rfl
                          rotate_left
                          · simp only [Act.put, List.setIfInBounds_toArray, List.set_cons_zero, List.set_cons_succ, i64_w, i32_w]
                            rfl
                          refine pure_ (i := 7) (N := some 66) (v := ?_) (a' := ?_) #[true, true, false, true, true, false, true, true, false, false, false, false] rfl rfl (any_of HT_.out (by kernel_rfl)) (fun _ _ _ h => h) (Or.inl ⟨by rfl, ?_⟩) ?_ ?_
                          rotate_left
                          · intro w'
                            go_simp
                            with_reducible rfl
                          rotate_left
                          · simp only [Act.put, List.setIfInBounds_toArray, List.set_cons_zero, List.set_cons_succ, i64_w, i32_w]
                            rfl
                          refine take_ (i := 2) (N := some 61) (v := ?_) (a' := ?_) #[true, true, true, true, true, false, true, true, false, false, false, false] rfl rfl (take_ofW HT_.out HW_.out (by kernel_rfl)) (fun _ _ _ h => h) (Or.inl ⟨by rfl, ?_⟩) hHeld ?_ ?_
                          rotate_left
                          · rintro w' ⟨s0, s1, s2⟩
                            go_simp
                            with_reducible rfl
                          rotate_left
                          · simp only [Act.put, List.setIfInBounds_toArray, List.set_cons_zero, List.set_cons_succ, i64_w, i32_w]
                            rfl
                          refine take_ (i := 5) (N := some 64) (v := ?_) (a' := ?_) #[true, true, true, true, true, true, true, true, false, false, false, false] rfl rfl (take_ofW HT_.out HW_.out (by kernel_rfl)) (fun _ _ _ h => h) (Or.inl ⟨by rfl, ?_⟩) hHeld ?_ ?_
                          rotate_left
                          · rintro w' ⟨s0, s1, s2⟩
                            go_simp
                            with_reducible rfl
                          rotate_left
                          · simp only [Act.put, List.setIfInBounds_toArray, List.set_cons_zero, List.set_cons_succ, i64_w, i32_w]
                            rfl
                          refine take_ (i := 8) (N := some 67) (v := ?_) (a' := ?_) #[true, true, true, true, true, true, true, true, true, false, false, false] rfl rfl (take_ofW HT_.out HW_.out (by kernel_rfl)) (fun _ _ _ h => h) (Or.inl ⟨by rfl, ?_⟩) hHeld ?_ ?_
                          rotate_left
                          · rintro w' ⟨s0, s1, s2⟩
                            go_simp
                            with_reducible rfl
                          rotate_left
                          · simp only [Act.put, List.setIfInBounds_toArray, List.set_cons_zero, List.set_cons_succ, i64_w, i32_w]
                            rfl
                          refine pure_ (i := 9) (N := some 68) (v := ?_) (a' := ?_) #[true, true, true, true, true, true, true, true, true, true, false, false] rfl rfl (any_of HT_.out (by kernel_rfl)) (fun _ _ _ h => h) (Or.inl ⟨by rfl, ?_⟩) ?_ ?_
                          rotate_left
                          · intro w'
                            go_simp
                            with_reducible rfl
                          rotate_left
                          · simp only [Act.put, List.setIfInBounds_toArray, List.set_cons_zero, List.set_cons_succ, i64_w, i32_w]
                            rfl
                          refine pure_ (i := 10) (N := some 69) (v := ?_) (a' := ?_) #[true, true, true, true, true, true, true, true, true, true, true, false] rfl rfl (any_of HT_.out (by kernel_rfl)) (fun _ _ _ h => h) (Or.inl ⟨by rfl, ?_⟩) ?_ ?_
                          rotate_left
                          · intro w'
                            go_simp
                            with_reducible rfl
                          rotate_left
                          · simp only [Act.put, List.setIfInBounds_toArray, List.set_cons_zero, List.set_cons_succ, i64_w, i32_w]
                            rfl
                          refine one_ (i := 11) (N := none) #[true, true, true, true, true, true, true, true, true, true, true, true] rfl rfl (one_of HT_.out (by kernel_rfl)) (by decide) (fun K hK => ?_)
                          have hs44 : w42.cell? ⟨gb379, 0, none⟩ = some (.int .u8 0) := (blk_cell BK379.out 0).trans rfl
                          have hfs44 := blk_frozen BK379.out 0
                          have hns44_0 := NB366_379.out
                          have hms44_0 := NB379_366.out
                          have hs45 : w42.cell? ⟨gb379, 1, none⟩ = some (.int .i64 0) := (blk_cell BK379.out 1).trans rfl
                          have hfs45 := blk_frozen BK379.out 1
                          have hns45_0 := NB366_379.out
                          have hms45_0 := NB379_366.out
                          have hs46 : w42.cell? ⟨gb379, 2, none⟩ = some (.int .i64 0) := (blk_cell BK379.out 2).trans rfl
                          have hfs46 := blk_frozen BK379.out 2
                          have hns46_0 := NB366_379.out
                          have hms46_0 := NB379_366.out
                          have hs47 : w42.cell? ⟨gb379, 3, none⟩ = some (.int .i64 0) := (blk_cell BK379.out 3).trans rfl
                          have hfs47 := blk_frozen BK379.out 3
                          have hns47_0 := NB366_379.out
                          have hms47_0 := NB379_366.out
                          have hs48 : w42.cell? ⟨gb379, 4, none⟩ = some (.int .i64 0) := (blk_cell BK379.out 4).trans rfl
                          have hfs48 := blk_frozen BK379.out 4
                          have hns48_0 := NB366_379.out
                          have hms48_0 := NB379_366.out
                          have hs49 : w42.cell? ⟨gb379, 5, none⟩ = some (.int .i64 0) := (blk_cell BK379.out 5).trans rfl
                          have hfs49 := blk_frozen BK379.out 5
                          have hns49_0 := NB366_379.out
                          have hms49_0 := NB379_366.out
                          have hs50 : w42.cell? ⟨gb379, 6, none⟩ = some (.int .i64 0) := (blk_cell BK379.out 6).trans rfl
                          have hfs50 := blk_frozen BK379.out 6
                          have hns50_0 := NB366_379.out
                          have hms50_0 := NB379_366.out
                          have hs51 : w42.cell? ⟨gb379, 7, none⟩ = some (.int .i64 0) := (blk_cell BK379.out 7).trans rfl
                          have hfs51 := blk_frozen BK379.out 7
                          have hns51_0 := NB366_379.out
                          have hms51_0 := NB379_366.out
                          have hs52 : w42.cell? ⟨gb379, 8, none⟩ = some (.int .i64 0) := (blk_cell BK379.out 8).trans rfl
                          have hfs52 := blk_frozen BK379.out 8
                          have hns52_0 := NB366_379.out
                          have hms52_0 := NB379_366.out
                          have hs53 : w42.cell? ⟨gb379, 9, none⟩ = some (.int .i64 0) := (blk_cell BK379.out 9).trans rfl
                          have hfs53 := blk_frozen BK379.out 9
                          have hns53_0 := NB366_379.out
                          have hms53_0 := NB379_366.out
                          refine skip_ (w1 := ?_) (by rfl) rfl ?_ ?_
                          rotate_left
                          · go_simp
                            rfl
                          have hne_ : ad381.block ≠ gb379 := Kd.own_blk (Kd.R_ne HO_7.out BK379.out (by decide))
                          refine hK.out _ _ ⟨((cell_far (a := ⟨ad381.block, ad381.off + 1, none⟩) (p := ⟨gb379, _, none⟩) hne_ _).trans (((cell_far (a := ⟨ad381.block, ad381.off + 1, none⟩) (p := ⟨gb379, _, none⟩) hne_ _).trans (((cell_far (a := ⟨ad381.block, ad381.off + 1, none⟩) (p := ⟨gb379, _, none⟩) hne_ _).trans (((cell_far (a := ⟨ad381.block, ad381.off + 1, none⟩) (p := ⟨gb379, _, none⟩) hne_ _).trans (((cell_far (a := ⟨ad381.block, ad381.off + 1, none⟩) (p := ⟨gb379, _, none⟩) hne_ _).trans (((cell_far (a := ⟨ad381.block, ad381.off + 1, none⟩) (p := ⟨gb379, _, none⟩) hne_ _).trans (((cell_far (a := ⟨ad381.block, ad381.off + 1, none⟩) (p := ⟨gb379, _, none⟩) hne_ _).trans (((cell_far (a := ⟨ad381.block, ad381.off + 1, none⟩) (p := ⟨gb379, _, none⟩) hne_ _).trans (((cell_far (a := ⟨ad381.block, ad381.off + 1, none⟩) (p := ⟨gb379, _, none⟩) hne_ _).trans (((cell_far (a := ⟨ad381.block, ad381.off + 1, none⟩) (p := ⟨gb379, _, none⟩) hne_ _).trans (hHeld.1)))))))))))))))))))), ((cell_far (a := ⟨ad381.block, ad381.off + 2, none⟩) (p := ⟨gb379, _, none⟩) hne_ _).trans (((cell_far (a := ⟨ad381.block, ad381.off + 2, none⟩) (p := ⟨gb379, _, none⟩) hne_ _).trans (((cell_far (a := ⟨ad381.block, ad381.off + 2, none⟩) (p := ⟨gb379, _, none⟩) hne_ _).trans (((cell_far (a := ⟨ad381.block, ad381.off + 2, none⟩) (p := ⟨gb379, _, none⟩) hne_ _).trans (((cell_far (a := ⟨ad381.block, ad381.off + 2, none⟩) (p := ⟨gb379, _, none⟩) hne_ _).trans (((cell_far (a := ⟨ad381.block, ad381.off + 2, none⟩) (p := ⟨gb379, _, none⟩) hne_ _).trans (((cell_far (a := ⟨ad381.block, ad381.off + 2, none⟩) (p := ⟨gb379, _, none⟩) hne_ _).trans (((cell_far (a := ⟨ad381.block, ad381.off + 2, none⟩) (p := ⟨gb379, _, none⟩) hne_ _).trans (((cell_far (a := ⟨ad381.block, ad381.off + 2, none⟩) (p := ⟨gb379, _, none⟩) hne_ _).trans (((cell_far (a := ⟨ad381.block, ad381.off + 2, none⟩) (p := ⟨gb379, _, none⟩) hne_ _).trans (hHeld.2.1)))))))))))))))))))), ((cell_far (a := ⟨ad381.block, ad381.off + 3, none⟩) (p := ⟨gb379, _, none⟩) hne_ _).trans (((cell_far (a := ⟨ad381.block, ad381.off + 3, none⟩) (p := ⟨gb379, _, none⟩) hne_ _).trans (((cell_far (a := ⟨ad381.block, ad381.off + 3, none⟩) (p := ⟨gb379, _, none⟩) hne_ _).trans (((cell_far (a := ⟨ad381.block, ad381.off + 3, none⟩) (p := ⟨gb379, _, none⟩) hne_ _).trans (((cell_far (a := ⟨ad381.block, ad381.off + 3, none⟩) (p := ⟨gb379, _, none⟩) hne_ _).trans (((cell_far (a := ⟨ad381.block, ad381.off + 3, none⟩) (p := ⟨gb379, _, none⟩) hne_ _).trans (((cell_far (a := ⟨ad381.block, ad381.off + 3, none⟩) (p := ⟨gb379, _, none⟩) hne_ _).trans (((cell_far (a := ⟨ad381.block, ad381.off + 3, none⟩) (p := ⟨gb379, _, none⟩) hne_ _).trans (((cell_far (a := ⟨ad381.block, ad381.off + 3, none⟩) (p := ⟨gb379, _, none⟩) hne_ _).trans (((cell_far (a := ⟨ad381.block, ad381.off + 3, none⟩) (p := ⟨gb379, _, none⟩) hne_ _).trans (hHeld.2.2))))))))))))))))))))⟩ (fun hHeld => ?_)
                          clear hK K
                          refine done_ (done_of HT_.out (by kernel_rfl)) ?_
                          generalize hW_ : World.setCell _ _ _ = W_
                          have m0_ : Aside0 (W_.heap[gb366]? = some (.cells #[.int .u8 0, .int .i64 0, .int .i64 0, .int .i64 0, .int .i64 0, .int .i64 0, .int .i64 0, .int .i64 0, .int .i64 0, .int .i64 0] 31 (0, 0))) := ⟨by rw [← hW_]; (with_reducible repeat (first | refine blk_drewN ?_ _ | refine blk_drew ?_ | refine blk_alloc ?_ _)); refine blk_far ?_ NB366_379.out _; (with_reducible repeat (first | refine blk_drewN ?_ _ | refine blk_drew ?_ | refine blk_alloc ?_ _)); refine blk_far ?_ NB366_379.out _; (with_reducible repeat (first | refine blk_drewN ?_ _ | refine blk_drew ?_ | refine blk_alloc ?_ _)); refine blk_far ?_ NB366_379.out _; (with_reducible repeat (first | refine blk_drewN ?_ _ | refine blk_drew ?_ | refine blk_alloc ?_ _)); refine blk_far ?_ NB366_379.out _; (with_reducible repeat (first | refine blk_drewN ?_ _ | refine blk_drew ?_ | refine blk_alloc ?_ _)); refine blk_far ?_ NB366_379.out _; (with_reducible repeat (first | refine blk_drewN ?_ _ | refine blk_drew ?_ | refine blk_alloc ?_ _)); refine blk_far ?_ NB366_379.out _; (with_reducible repeat (first | refine blk_drewN ?_ _ | refine blk_drew ?_ | refine blk_alloc ?_ _)); refine blk_far ?_ NB366_379.out _; (with_reducible repeat (first | refine blk_drewN ?_ _ | refine blk_drew ?_ | refine blk_alloc ?_ _)); refine blk_far ?_ NB366_379.out _; (with_reducible repeat (first | refine blk_drewN ?_ _ | refine blk_drew ?_ | refine blk_alloc ?_ _)); refine blk_far ?_ NB366_379.out _; (with_reducible repeat (first | refine blk_drewN ?_ _ | refine blk_drew ?_ | refine blk_alloc ?_ _)); refine blk_far ?_ NB366_379.out _; (with_reducible repeat (first | refine blk_drewN ?_ _ | refine blk_drew ?_ | refine blk_alloc ?_ _)); exact BK366.out⟩
                          have m1_ : Aside0 (W_.heap[gb379]? = some (.cells #[.int .u8 (1), .int .i64 (rd x7_19 1), .int .i64 (rd x7_19 2), .int .i64 (rd x7_19 3), .int .i64 (0), .int .i64 (0), .int .i64 (0), .int .i64 (0), .int .i64 (0), .int .i64 (0)] 31 (0, 0))) := ⟨by rw [← hW_]; (with_reducible repeat (first | refine blk_drewN ?_ _ | refine blk_drew ?_ | refine blk_alloc ?_ _)); refine blk_put (cs := #[.int .u8 1, .int .i64 (rd x7_19 1), .int .i64 (rd x7_19 2), .int .i64 (rd x7_19 3), .int .i64 0, .int .i64 0, .int .i64 0, .int .i64 0, .int .i64 0, .int .i64 0]) ?_ 9 _ rfl; (with_reducible repeat (first | refine blk_drewN ?_ _ | refine blk_drew ?_ | refine blk_alloc ?_ _)); refine blk_put (cs := #[.int .u8 1, .int .i64 (rd x7_19 1), .int .i64 (rd x7_19 2), .int .i64 (rd x7_19 3), .int .i64 0, .int .i64 0, .int .i64 0, .int .i64 0, .int .i64 0, .int .i64 0]) ?_ 8 _ rfl; (with_reducible repeat (first | refine blk_drewN ?_ _ | refine blk_drew ?_ | refine blk_alloc ?_ _)); refine blk_put (cs := #[.int .u8 1, .int .i64 (rd x7_19 1), .int .i64 (rd x7_19 2), .int .i64 (rd x7_19 3), .int .i64 0, .int .i64 0, .int .i64 0, .int .i64 0, .int .i64 0, .int .i64 0]) ?_ 7 _ rfl; (with_reducible repeat (first | refine blk_drewN ?_ _ | refine blk_drew ?_ | refine blk_alloc ?_ _)); refine blk_put (cs := #[.int .u8 1, .int .i64 (rd x7_19 1), .int .i64 (rd x7_19 2), .int .i64 (rd x7_19 3), .int .i64 0, .int .i64 0, .int .i64 0, .int .i64 0, .int .i64 0, .int .i64 0]) ?_ 6 _ rfl; (with_reducible repeat (first | refine blk_drewN ?_ _ | refine blk_drew ?_ | refine blk_alloc ?_ _)); refine blk_put (cs := #[.int .u8 1, .int .i64 (rd x7_19 1), .int .i64 (rd x7_19 2), .int .i64 (rd x7_19 3), .int .i64 0, .int .i64 0, .int .i64 0, .int .i64 0, .int .i64 0, .int .i64 0]) ?_ 5 _ rfl; (with_reducible repeat (first | refine blk_drewN ?_ _ | refine blk_drew ?_ | refine blk_alloc ?_ _)); refine blk_put (cs := #[.int .u8 1, .int .i64 (rd x7_19 1), .int .i64 (rd x7_19 2), .int .i64 (rd x7_19 3), .int .i64 0, .int .i64 0, .int .i64 0, .int .i64 0, .int .i64 0, .int .i64 0]) ?_ 4 _ rfl; (with_reducible repeat (first | refine blk_drewN ?_ _ | refine blk_drew ?_ | refine blk_alloc ?_ _)); refine blk_put (cs := #[.int .u8 1, .int .i64 (rd x7_19 1), .int .i64 (rd x7_19 2), .int .i64 0, .int .i64 0, .int .i64 0, .int .i64 0, .int .i64 0, .int .i64 0, .int .i64 0]) ?_ 3 _ rfl; (with_reducible repeat (first | refine blk_drewN ?_ _ | refine blk_drew ?_ | refine blk_alloc ?_ _)); refine blk_put (cs := #[.int .u8 1, .int .i64 (rd x7_19 1), .int .i64 0, .int .i64 0, .int .i64 0, .int .i64 0, .int .i64 0, .int .i64 0, .int .i64 0, .int .i64 0]) ?_ 2 _ rfl; (with_reducible repeat (first | refine blk_drewN ?_ _ | refine blk_drew ?_ | refine blk_alloc ?_ _)); refine blk_put (cs := #[.int .u8 1, .int .i64 0, .int .i64 0, .int .i64 0, .int .i64 0, .int .i64 0, .int .i64 0, .int .i64 0, .int .i64 0, .int .i64 0]) ?_ 1 _ rfl; (with_reducible repeat (first | refine blk_drewN ?_ _ | refine blk_drew ?_ | refine blk_alloc ?_ _)); refine blk_put (cs := #[.int .u8 0, .int .i64 0, .int .i64 0, .int .i64 0, .int .i64 0, .int .i64 0, .int .i64 0, .int .i64 0, .int .i64 0, .int .i64 0]) ?_ 0 _ rfl; (with_reducible repeat (first | refine blk_drewN ?_ _ | refine blk_drew ?_ | refine blk_alloc ?_ _)); exact BK379.out⟩
                          have m2_ : Aside0 (Below w.heap.size w W_) := ⟨by rw [← hW_]; repeat (first | (with_reducible first | exact HB.out | apply below_alloc | apply pw_below_drewN | apply below_drew1 | refine below_set ?_ GE366.out | refine below_set ?_ GE379.out) | exact HB.out)⟩
                          clear hW_ hHeld HT_ HW_
                          try go_wp2
                          go_meet
                          case rel => exact ⟨_, (1), (rd x7_19 1), (rd x7_19 2), (rd x7_19 3), (0), (0), (0), (0), (0), (0), H', ⟨by have := HK1.out; have := HJ19.out; first | omega | exact Nat.le_refl _⟩, m0_, m1_, m2_⟩
                        · rw [if_neg c41] at H
                          exact absurd H (by simp)
                      · rw [if_neg c40] at H
                        exact absurd H (by simp)
                    · rw [if_neg c39] at H
                      exact absurd H (by simp)
                  · rw [if_neg c38] at H
                    have c38b0 : ((rdOf ByteArray.empty x4_1 0).toList == ([114, 101, 99, 111, 114, 100] : List UInt8)) = false := beq_eq_false_iff_ne.mpr c38
                    have c38b1 : ((rdOf ByteArray.empty x4_1 0).toList != ([114, 101, 99, 111, 114, 100] : List UInt8)) = true := bne_iff_ne.mpr c38
                    (first | rw [c38b0] | (simp only [i64_w, i32_w]; rw [c38b0]) | skip)
                    by_cases c54 : (rdOf ByteArray.empty x4_1 0).toList = ([108, 97, 116, 101] : List UInt8)
                    · rw [if_pos c54] at H
                      have c54b0 : ((rdOf ByteArray.empty x4_1 0).toList == ([108, 97, 116, 101] : List UInt8)) = true := beq_iff_eq.mpr c54
                      have c54b1 : ((rdOf ByteArray.empty x4_1 0).toList != ([108, 97, 116, 101] : List UInt8)) = false := bne_eq_false_iff_eq.mpr c54
                      clear c54
                      by_cases c55 : 1 < (x7_19.length : Int)
                      · rw [if_pos c55] at H
                        have c55b0 : decide (1 < (x7_19.length : Int)) = true := decide_eq_true c55
                        have c55b1 : decide (1 < x7_19.length) = true := decide_eq_true (by omega)
                        clear c55
                        by_cases c56 : 2 < (x7_19.length : Int)
                        · rw [if_pos c56] at H
                          have c56b0 : decide (2 < (x7_19.length : Int)) = true := decide_eq_true c56
                          have c56b1 : decide (2 < x7_19.length) = true := decide_eq_true (by omega)
                          clear c56
                          by_cases c57 : 3 < (x7_19.length : Int)
                          · rw [if_pos c57] at H
                            have c57b0 : decide (3 < (x7_19.length : Int)) = true := decide_eq_true c57
                            have c57b1 : decide (3 < x7_19.length) = true := decide_eq_true (by omega)
                            clear c57
                            have H' := Aside0.mk H
                            clear H
                            try go_wp2
                            have n0_ := Aside0.mk (Kd.R_drew HO_4.out)
                            have n1_ := Aside0.mk (Kd.R_drew HO_7.out)
                            have n2_ := Aside0.mk (blk_drew BK366.out)
                            have n3_ := Aside0.mk (blk_drew BK379.out)
                            have n4_ := Aside0.mk (below_drew1 HB.out)
                            clear HO_4
                            clear HO_7
                            clear BK366
                            clear BK379
                            clear HB
                            have HO_4 := n0_
                            have HO_7 := n1_
                            have BK366 := n2_
                            have BK379 := n3_
                            have HB := n4_
                            clear n0_ n1_ n2_ n3_ n4_
                            obtain ⟨Ao59, co59, eo59⟩ := Kd.R_slice HO_7.out
                            (first | subst eo59 | (injection eo59 with f1_ f2_ f3_; have f4_ := f1_.symm; have f5_ := f3_.symm; clear f1_ f2_ f3_; subst f4_; subst f5_))
                            have p384 : 0 ≤ (1 : Int) := (by omega)
                            have q384 : 1 < (x7_19.length : Int) := of_decide_eq_true (by first | (with_reducible assumption) | assumption)
                            obtain ⟨ad384, e384, hx384_0⟩ := Kd.at_int (Kd.R_reads' HO_7.out).2.2 1 p384 q384
                            cases e384
                            (try simp only [show (1 : Int).toNat = 1 from rfl, Nat.reduceMul, Nat.reduceEqDiff, Go.Addr.add, ↓reduceIte] at hx384_0)
                            have qi384 : (1 < x7_19.length) = True := eq_true (by omega)
                            (try rw [show ((1 : Int)).toNat = 1 from rfl] at hx384_0)
                            replace p384 := eq_true p384
                            replace q384 := eq_true q384
                            have p385 : 0 ≤ (2 : Int) := (by omega)
                            have q385 : 2 < (x7_19.length : Int) := of_decide_eq_true (by first | (with_reducible assumption) | assumption)
                            obtain ⟨ad385, e385, hx385_0⟩ := Kd.at_int (Kd.R_reads' HO_7.out).2.2 2 p385 q385
                            obtain rfl : ad384 = ad385 := (by injection e385)
                            (try simp only [show (2 : Int).toNat = 2 from rfl, Nat.reduceMul, Nat.reduceEqDiff, Go.Addr.add, ↓reduceIte] at hx385_0)
                            have qi385 : (2 < x7_19.length) = True := eq_true (by omega)
                            (try rw [show ((2 : Int)).toNat = 2 from rfl] at hx385_0)
                            replace p385 := eq_true p385
                            replace q385 := eq_true q385
                            have p386 : 0 ≤ (3 : Int) := (by omega)
                            have q386 : 3 < (x7_19.length : Int) := of_decide_eq_true (by first | (with_reducible assumption) | assumption)
                            obtain ⟨ad386, e386, hx386_0⟩ := Kd.at_int (Kd.R_reads' HO_7.out).2.2 3 p386 q386
                            obtain rfl : ad384 = ad386 := (by injection e386)
                            (try simp only [show (3 : Int).toNat = 3 from rfl, Nat.reduceMul, Nat.reduceEqDiff, Go.Addr.add, ↓reduceIte] at hx386_0)
                            have qi386 : (3 < x7_19.length) = True := eq_true (by omega)
                            (try rw [show ((3 : Int)).toNat = 3 from rfl] at hx386_0)
                            replace p386 := eq_true p386
                            replace q386 := eq_true q386
                            refine start_ (n := 12) (S := fun w' => w'.cell? ⟨ad384.block, ad384.off + 1, none⟩ = some (.int .i64 (rd x7_19 1)) ∧ w'.cell? ⟨ad384.block, ad384.off + 2, none⟩ = some (.int .i64 (rd x7_19 2)) ∧ w'.cell? ⟨ad384.block, ad384.off + 3, none⟩ = some (.int .i64 (rd x7_19 3))) (ds := []) #[false, false, false, false, false, false, false, false, false, false, false, false] (by kernel_rfl) rfl rfl ⟨hx384_0, hx385_0, hx386_0⟩ (fun hHeld => ?_); refine with_tabW tailwaterref25_Read.tab19 tailwaterref25_Read.bits19 (fun HT_ HW_ => ?_)
                            generalize w36.drew = w58 at HO_4 HO_7 BK366 BK379 HB hx384_0 hx385_0 hx386_0 hHeld ⊢
                            refine pure_ (i := 0) (N := some 72) (v := ?_) (a' := ?_) #[true, false, false, false, false, false, false, false, false, false, false, false] rfl rfl (any_of HT_.out (by kernel_rfl)) (fun _ _ _ h => h) (Or.inl ⟨by rfl, ?_⟩) ?_ ?_
                            rotate_left
                            · intro w'
                              go_simp
                              with_reducible rfl
                            rotate_left
                            · simp only [Act.put, List.setIfInBounds_toArray, List.set_cons_zero, List.set_cons_succ, i64_w, i32_w]
                              rfl
                            refine pure_ (i := 1) (N := some 73) (v := ?_) (a' := ?_) #[true, true, false, false, false, false, false, false, false, false, false, false] rfl rfl (any_of HT_.out (by kernel_rfl)) (fun _ _ _ h => h) (Or.inl ⟨by rfl, ?_⟩) ?_ ?_
                            rotate_left
                            · intro w'
                              go_simp
                              with_reducible rfl
                            rotate_left
                            · simp only [Act.put, List.setIfInBounds_toArray, List.set_cons_zero, List.set_cons_succ, i64_w, i32_w]
                              rfl
                            refine pure_ (i := 3) (N := some 75) (v := ?_) (a' := ?_) #[true, true, false, true, false, false, false, false, false, false, false, false] rfl rfl (any_of HT_.out (by kernel_rfl)) (fun _ _ _ h => h) (Or.inl ⟨by rfl, ?_⟩) ?_ ?_
                            rotate_left
                            · intro w'
                              go_simp
                              with_reducible rfl
                            rotate_left
                            · simp only [Act.put, List.setIfInBounds_toArray, List.set_cons_zero, List.set_cons_succ, i64_w, i32_w]
                              rfl
                            refine pure_ (i := 4) (N := some 76) (v := ?_) (a' := ?_) #[true, true, false, true, true, false, false, false, false, false, false, false] rfl rfl (any_of HT_.out (by kernel_rfl)) (fun _ _ _ h => h) (Or.inl ⟨by rfl, ?_⟩) ?_ ?_
                            rotate_left
                            · intro w'
                              go_simp
                              with_reducible rfl
                            rotate_left
                            · simp only [Act.put, List.setIfInBounds_toArray, List.set_cons_zero, List.set_cons_succ, i64_w, i32_w]
                              rfl
                            refine pure_ (i := 6) (N := some 78) (v := ?_) (a' := ?_) #[true, true, false, true, true, false, true, false, false, false, false, false] rfl rfl (any_of HT_.out (by kernel_rfl)) (fun _ _ _ h => h) (Or.inl ⟨by rfl, ?_⟩) ?_ ?_
                            rotate_left
                            · intro w'
                              go_simp
                              with_reducible rfl
                            rotate_left
                            · simp only [Act.put, List.setIfInBounds_toArray, List.set_cons_zero, List.set_cons_succ, i64_w, i32_w]
                              rfl
                            refine pure_ (i := 7) (N := some 79) (v := ?_) (a' := ?_) #[true, true, false, true, true, false, true, true, false, false, false, false] rfl rfl (any_of HT_.out (by kernel_rfl)) (fun _ _ _ h => h) (Or.inl ⟨by rfl, ?_⟩) ?_ ?_
                            rotate_left
                            · intro w'
                              go_simp
                              with_reducible rfl
                            rotate_left
                            · simp only [Act.put, List.setIfInBounds_toArray, List.set_cons_zero, List.set_cons_succ, i64_w, i32_w]
                              rfl
                            refine take_ (i := 2) (N := some 74) (v := ?_) (a' := ?_) #[true, true, true, true, true, false, true, true, false, false, false, false] rfl rfl (take_ofW HT_.out HW_.out (by kernel_rfl)) (fun _ _ _ h => h) (Or.inl ⟨by rfl, ?_⟩) hHeld ?_ ?_
                            rotate_left
                            · rintro w' ⟨s0, s1, s2⟩
                              go_simp
                              with_reducible rfl
                            rotate_left
                            · simp only [Act.put, List.setIfInBounds_toArray, List.set_cons_zero, List.set_cons_succ, i64_w, i32_w]
                              rfl
                            refine take_ (i := 5) (N := some 77) (v := ?_) (a' := ?_) #[true, true, true, true, true, true, true, true, false, false, false, false] rfl rfl (take_ofW HT_.out HW_.out (by kernel_rfl)) (fun _ _ _ h => h) (Or.inl ⟨by rfl, ?_⟩) hHeld ?_ ?_
                            rotate_left
                            · rintro w' ⟨s0, s1, s2⟩
                              go_simp
                              with_reducible rfl
                            rotate_left
                            · simp only [Act.put, List.setIfInBounds_toArray, List.set_cons_zero, List.set_cons_succ, i64_w, i32_w]
                              rfl
                            refine take_ (i := 8) (N := some 80) (v := ?_) (a' := ?_) #[true, true, true, true, true, true, true, true, true, false, false, false] rfl rfl (take_ofW HT_.out HW_.out (by kernel_rfl)) (fun _ _ _ h => h) (Or.inl ⟨by rfl, ?_⟩) hHeld ?_ ?_
                            rotate_left
                            · rintro w' ⟨s0, s1, s2⟩
                              go_simp
                              with_reducible rfl
                            rotate_left
                            · simp only [Act.put, List.setIfInBounds_toArray, List.set_cons_zero, List.set_cons_succ, i64_w, i32_w]
                              rfl
                            refine pure_ (i := 9) (N := some 81) (v := ?_) (a' := ?_) #[true, true, true, true, true, true, true, true, true, true, false, false] rfl rfl (any_of HT_.out (by kernel_rfl)) (fun _ _ _ h => h) (Or.inl ⟨by rfl, ?_⟩) ?_ ?_
                            rotate_left
                            · intro w'
                              go_simp
                              with_reducible rfl
                            rotate_left
                            · simp only [Act.put, List.setIfInBounds_toArray, List.set_cons_zero, List.set_cons_succ, i64_w, i32_w]
                              rfl
                            refine pure_ (i := 10) (N := some 82) (v := ?_) (a' := ?_) #[true, true, true, true, true, true, true, true, true, true, true, false] rfl rfl (any_of HT_.out (by kernel_rfl)) (fun _ _ _ h => h) (Or.inl ⟨by rfl, ?_⟩) ?_ ?_
                            rotate_left
                            · intro w'
                              go_simp
                              with_reducible rfl
                            rotate_left
                            · simp only [Act.put, List.setIfInBounds_toArray, List.set_cons_zero, List.set_cons_succ, i64_w, i32_w]
                              rfl
                            refine one_ (i := 11) (N := none) #[true, true, true, true, true, true, true, true, true, true, true, true] rfl rfl (one_of HT_.out (by kernel_rfl)) (by decide) (fun K hK => ?_)
                            have hs60 : w58.cell? ⟨gb379, 0, none⟩ = some (.int .u8 0) := (blk_cell BK379.out 0).trans rfl
                            have hfs60 := blk_frozen BK379.out 0
                            have hns60_0 := NB366_379.out
                            have hms60_0 := NB379_366.out
                            have hs61 : w58.cell? ⟨gb379, 1, none⟩ = some (.int .i64 0) := (blk_cell BK379.out 1).trans rfl
                            have hfs61 := blk_frozen BK379.out 1
                            have hns61_0 := NB366_379.out
                            have hms61_0 := NB379_366.out
                            have hs62 : w58.cell? ⟨gb379, 2, none⟩ = some (.int .i64 0) := (blk_cell BK379.out 2).trans rfl
                            have hfs62 := blk_frozen BK379.out 2
                            have hns62_0 := NB366_379.out
                            have hms62_0 := NB379_366.out
                            have hs63 : w58.cell? ⟨gb379, 3, none⟩ = some (.int .i64 0) := (blk_cell BK379.out 3).trans rfl
                            have hfs63 := blk_frozen BK379.out 3
                            have hns63_0 := NB366_379.out
                            have hms63_0 := NB379_366.out
                            have hs64 : w58.cell? ⟨gb379, 4, none⟩ = some (.int .i64 0) := (blk_cell BK379.out 4).trans rfl
                            have hfs64 := blk_frozen BK379.out 4
                            have hns64_0 := NB366_379.out
                            have hms64_0 := NB379_366.out
                            have hs65 : w58.cell? ⟨gb379, 5, none⟩ = some (.int .i64 0) := (blk_cell BK379.out 5).trans rfl
                            have hfs65 := blk_frozen BK379.out 5
                            have hns65_0 := NB366_379.out
                            have hms65_0 := NB379_366.out
                            have hs66 : w58.cell? ⟨gb379, 6, none⟩ = some (.int .i64 0) := (blk_cell BK379.out 6).trans rfl
                            have hfs66 := blk_frozen BK379.out 6
                            have hns66_0 := NB366_379.out
                            have hms66_0 := NB379_366.out
                            have hs67 : w58.cell? ⟨gb379, 7, none⟩ = some (.int .i64 0) := (blk_cell BK379.out 7).trans rfl
                            have hfs67 := blk_frozen BK379.out 7
                            have hns67_0 := NB366_379.out
                            have hms67_0 := NB379_366.out
                            have hs68 : w58.cell? ⟨gb379, 8, none⟩ = some (.int .i64 0) := (blk_cell BK379.out 8).trans rfl
                            have hfs68 := blk_frozen BK379.out 8
                            have hns68_0 := NB366_379.out
                            have hms68_0 := NB379_366.out
                            have hs69 : w58.cell? ⟨gb379, 9, none⟩ = some (.int .i64 0) := (blk_cell BK379.out 9).trans rfl
                            have hfs69 := blk_frozen BK379.out 9
                            have hns69_0 := NB366_379.out
                            have hms69_0 := NB379_366.out
                            refine skip_ (w1 := ?_) (by rfl) rfl ?_ ?_
                            rotate_left
                            · go_simp
                              rfl
                            have hne_ : ad384.block ≠ gb379 := Kd.own_blk (Kd.R_ne HO_7.out BK379.out (by decide))
                            refine hK.out _ _ ⟨((cell_far (a := ⟨ad384.block, ad384.off + 1, none⟩) (p := ⟨gb379, _, none⟩) hne_ _).trans (((cell_far (a := ⟨ad384.block, ad384.off + 1, none⟩) (p := ⟨gb379, _, none⟩) hne_ _).trans (((cell_far (a := ⟨ad384.block, ad384.off + 1, none⟩) (p := ⟨gb379, _, none⟩) hne_ _).trans (((cell_far (a := ⟨ad384.block, ad384.off + 1, none⟩) (p := ⟨gb379, _, none⟩) hne_ _).trans (((cell_far (a := ⟨ad384.block, ad384.off + 1, none⟩) (p := ⟨gb379, _, none⟩) hne_ _).trans (((cell_far (a := ⟨ad384.block, ad384.off + 1, none⟩) (p := ⟨gb379, _, none⟩) hne_ _).trans (((cell_far (a := ⟨ad384.block, ad384.off + 1, none⟩) (p := ⟨gb379, _, none⟩) hne_ _).trans (((cell_far (a := ⟨ad384.block, ad384.off + 1, none⟩) (p := ⟨gb379, _, none⟩) hne_ _).trans (((cell_far (a := ⟨ad384.block, ad384.off + 1, none⟩) (p := ⟨gb379, _, none⟩) hne_ _).trans (((cell_far (a := ⟨ad384.block, ad384.off + 1, none⟩) (p := ⟨gb379, _, none⟩) hne_ _).trans (hHeld.1)))))))))))))))))))), ((cell_far (a := ⟨ad384.block, ad384.off + 2, none⟩) (p := ⟨gb379, _, none⟩) hne_ _).trans (((cell_far (a := ⟨ad384.block, ad384.off + 2, none⟩) (p := ⟨gb379, _, none⟩) hne_ _).trans (((cell_far (a := ⟨ad384.block, ad384.off + 2, none⟩) (p := ⟨gb379, _, none⟩) hne_ _).trans (((cell_far (a := ⟨ad384.block, ad384.off + 2, none⟩) (p := ⟨gb379, _, none⟩) hne_ _).trans (((cell_far (a := ⟨ad384.block, ad384.off + 2, none⟩) (p := ⟨gb379, _, none⟩) hne_ _).trans (((cell_far (a := ⟨ad384.block, ad384.off + 2, none⟩) (p := ⟨gb379, _, none⟩) hne_ _).trans (((cell_far (a := ⟨ad384.block, ad384.off + 2, none⟩) (p := ⟨gb379, _, none⟩) hne_ _).trans (((cell_far (a := ⟨ad384.block, ad384.off + 2, none⟩) (p := ⟨gb379, _, none⟩) hne_ _).trans (((cell_far (a := ⟨ad384.block, ad384.off + 2, none⟩) (p := ⟨gb379, _, none⟩) hne_ _).trans (((cell_far (a := ⟨ad384.block, ad384.off + 2, none⟩) (p := ⟨gb379, _, none⟩) hne_ _).trans (hHeld.2.1)))))))))))))))))))), ((cell_far (a := ⟨ad384.block, ad384.off + 3, none⟩) (p := ⟨gb379, _, none⟩) hne_ _).trans (((cell_far (a := ⟨ad384.block, ad384.off + 3, none⟩) (p := ⟨gb379, _, none⟩) hne_ _).trans (((cell_far (a := ⟨ad384.block, ad384.off + 3, none⟩) (p := ⟨gb379, _, none⟩) hne_ _).trans (((cell_far (a := ⟨ad384.block, ad384.off + 3, none⟩) (p := ⟨gb379, _, none⟩) hne_ _).trans (((cell_far (a := ⟨ad384.block, ad384.off + 3, none⟩) (p := ⟨gb379, _, none⟩) hne_ _).trans (((cell_far (a := ⟨ad384.block, ad384.off + 3, none⟩) (p := ⟨gb379, _, none⟩) hne_ _).trans (((cell_far (a := ⟨ad384.block, ad384.off + 3, none⟩) (p := ⟨gb379, _, none⟩) hne_ _).trans (((cell_far (a := ⟨ad384.block, ad384.off + 3, none⟩) (p := ⟨gb379, _, none⟩) hne_ _).trans (((cell_far (a := ⟨ad384.block, ad384.off + 3, none⟩) (p := ⟨gb379, _, none⟩) hne_ _).trans (((cell_far (a := ⟨ad384.block, ad384.off + 3, none⟩) (p := ⟨gb379, _, none⟩) hne_ _).trans (hHeld.2.2))))))))))))))))))))⟩ (fun hHeld => ?_)
                            clear hK K
                            refine done_ (done_of HT_.out (by kernel_rfl)) ?_
                            generalize hW_ : World.setCell _ _ _ = W_
                            have m0_ : Aside0 (W_.heap[gb366]? = some (.cells #[.int .u8 0, .int .i64 0, .int .i64 0, .int .i64 0, .int .i64 0, .int .i64 0, .int .i64 0, .int .i64 0, .int .i64 0, .int .i64 0] 31 (0, 0))) := ⟨by rw [← hW_]; (with_reducible repeat (first | refine blk_drewN ?_ _ | refine blk_drew ?_ | refine blk_alloc ?_ _)); refine blk_far ?_ NB366_379.out _; (with_reducible repeat (first | refine blk_drewN ?_ _ | refine blk_drew ?_ | refine blk_alloc ?_ _)); refine blk_far ?_ NB366_379.out _; (with_reducible repeat (first | refine blk_drewN ?_ _ | refine blk_drew ?_ | refine blk_alloc ?_ _)); refine blk_far ?_ NB366_379.out _; (with_reducible repeat (first | refine blk_drewN ?_ _ | refine blk_drew ?_ | refine blk_alloc ?_ _)); refine blk_far ?_ NB366_379.out _; (with_reducible repeat (first | refine blk_drewN ?_ _ | refine blk_drew ?_ | refine blk_alloc ?_ _)); refine blk_far ?_ NB366_379.out _; (with_reducible repeat (first | refine blk_drewN ?_ _ | refine blk_drew ?_ | refine blk_alloc ?_ _)); refine blk_far ?_ NB366_379.out _; (with_reducible repeat (first | refine blk_drewN ?_ _ | refine blk_drew ?_ | refine blk_alloc ?_ _)); refine blk_far ?_ NB366_379.out _; (with_reducible repeat (first | refine blk_drewN ?_ _ | refine blk_drew ?_ | refine blk_alloc ?_ _)); refine blk_far ?_ NB366_379.out _; (with_reducible repeat (first | refine blk_drewN ?_ _ | refine blk_drew ?_ | refine blk_alloc ?_ _)); refine blk_far ?_ NB366_379.out _; (with_reducible repeat (first | refine blk_drewN ?_ _ | refine blk_drew ?_ | refine blk_alloc ?_ _)); refine blk_far ?_ NB366_379.out _; (with_reducible repeat (first | refine blk_drewN ?_ _ | refine blk_drew ?_ | refine blk_alloc ?_ _)); exact BK366.out⟩
                            have m1_ : Aside0 (W_.heap[gb379]? = some (.cells #[.int .u8 (4), .int .i64 (rd x7_19 1), .int .i64 (rd x7_19 2), .int .i64 (rd x7_19 3), .int .i64 (0), .int .i64 (0), .int .i64 (0), .int .i64 (0), .int .i64 (0), .int .i64 (0)] 31 (0, 0))) := ⟨by rw [← hW_]; (with_reducible repeat (first | refine blk_drewN ?_ _ | refine blk_drew ?_ | refine blk_alloc ?_ _)); refine blk_put (cs := #[.int .u8 4, .int .i64 (rd x7_19 1), .int .i64 (rd x7_19 2), .int .i64 (rd x7_19 3), .int .i64 0, .int .i64 0, .int .i64 0, .int .i64 0, .int .i64 0, .int .i64 0]) ?_ 9 _ rfl; (with_reducible repeat (first | refine blk_drewN ?_ _ | refine blk_drew ?_ | refine blk_alloc ?_ _)); refine blk_put (cs := #[.int .u8 4, .int .i64 (rd x7_19 1), .int .i64 (rd x7_19 2), .int .i64 (rd x7_19 3), .int .i64 0, .int .i64 0, .int .i64 0, .int .i64 0, .int .i64 0, .int .i64 0]) ?_ 8 _ rfl; (with_reducible repeat (first | refine blk_drewN ?_ _ | refine blk_drew ?_ | refine blk_alloc ?_ _)); refine blk_put (cs := #[.int .u8 4, .int .i64 (rd x7_19 1), .int .i64 (rd x7_19 2), .int .i64 (rd x7_19 3), .int .i64 0, .int .i64 0, .int .i64 0, .int .i64 0, .int .i64 0, .int .i64 0]) ?_ 7 _ rfl; (with_reducible repeat (first | refine blk_drewN ?_ _ | refine blk_drew ?_ | refine blk_alloc ?_ _)); refine blk_put (cs := #[.int .u8 4, .int .i64 (rd x7_19 1), .int .i64 (rd x7_19 2), .int .i64 (rd x7_19 3), .int .i64 0, .int .i64 0, .int .i64 0, .int .i64 0, .int .i64 0, .int .i64 0]) ?_ 6 _ rfl; (with_reducible repeat (first | refine blk_drewN ?_ _ | refine blk_drew ?_ | refine blk_alloc ?_ _)); refine blk_put (cs := #[.int .u8 4, .int .i64 (rd x7_19 1), .int .i64 (rd x7_19 2), .int .i64 (rd x7_19 3), .int .i64 0, .int .i64 0, .int .i64 0, .int .i64 0, .int .i64 0, .int .i64 0]) ?_ 5 _ rfl; (with_reducible repeat (first | refine blk_drewN ?_ _ | refine blk_drew ?_ | refine blk_alloc ?_ _)); refine blk_put (cs := #[.int .u8 4, .int .i64 (rd x7_19 1), .int .i64 (rd x7_19 2), .int .i64 (rd x7_19 3), .int .i64 0, .int .i64 0, .int .i64 0, .int .i64 0, .int .i64 0, .int .i64 0]) ?_ 4 _ rfl; (with_reducible repeat (first | refine blk_drewN ?_ _ | refine blk_drew ?_ | refine blk_alloc ?_ _)); refine blk_put (cs := #[.int .u8 4, .int .i64 (rd x7_19 1), .int .i64 (rd x7_19 2), .int .i64 0, .int .i64 0, .int .i64 0, .int .i64 0, .int .i64 0, .int .i64 0, .int .i64 0]) ?_ 3 _ rfl; (with_reducible repeat (first | refine blk_drewN ?_ _ | refine blk_drew ?_ | refine blk_alloc ?_ _)); refine blk_put (cs := #[.int .u8 4, .int .i64 (rd x7_19 1), .int .i64 0, .int .i64 0, .int .i64 0, .int .i64 0, .int .i64 0, .int .i64 0, .int .i64 0, .int .i64 0]) ?_ 2 _ rfl; (with_reducible repeat (first | refine blk_drewN ?_ _ | refine blk_drew ?_ | refine blk_alloc ?_ _)); refine blk_put (cs := #[.int .u8 4, .int .i64 0, .int .i64 0, .int .i64 0, .int .i64 0, .int .i64 0, .int .i64 0, .int .i64 0, .int .i64 0, .int .i64 0]) ?_ 1 _ rfl; (with_reducible repeat (first | refine blk_drewN ?_ _ | refine blk_drew ?_ | refine blk_alloc ?_ _)); refine blk_put (cs := #[.int .u8 0, .int .i64 0, .int .i64 0, .int .i64 0, .int .i64 0, .int .i64 0, .int .i64 0, .int .i64 0, .int .i64 0, .int .i64 0]) ?_ 0 _ rfl; (with_reducible repeat (first | refine blk_drewN ?_ _ | refine blk_drew ?_ | refine blk_alloc ?_ _)); exact BK379.out⟩
                            have m2_ : Aside0 (Below w.heap.size w W_) := ⟨by rw [← hW_]; repeat (first | (with_reducible first | exact HB.out | apply below_alloc | apply pw_below_drewN | apply below_drew1 | refine below_set ?_ GE366.out | refine below_set ?_ GE379.out) | exact HB.out)⟩
                            clear hW_ hHeld HT_ HW_
                            try go_wp2
                            go_meet
                            case rel => exact ⟨_, (4), (rd x7_19 1), (rd x7_19 2), (rd x7_19 3), (0), (0), (0), (0), (0), (0), H', ⟨by have := HK1.out; have := HJ19.out; first | omega | exact Nat.le_refl _⟩, m0_, m1_, m2_⟩
                          · rw [if_neg c57] at H
                            exact absurd H (by simp)
                        · rw [if_neg c56] at H
                          exact absurd H (by simp)
                      · rw [if_neg c55] at H
                        exact absurd H (by simp)
                    · rw [if_neg c54] at H
                      have c54b0 : ((rdOf ByteArray.empty x4_1 0).toList == ([108, 97, 116, 101] : List UInt8)) = false := beq_eq_false_iff_ne.mpr c54
                      have c54b1 : ((rdOf ByteArray.empty x4_1 0).toList != ([108, 97, 116, 101] : List UInt8)) = true := bne_iff_ne.mpr c54
                      by_cases c70 : (rdOf ByteArray.empty x4_1 0).toList = ([109, 97, 114, 107] : List UInt8)
                      · rw [if_pos c70] at H
                        have c70b0 : ((rdOf ByteArray.empty x4_1 0).toList == ([109, 97, 114, 107] : List UInt8)) = true := beq_iff_eq.mpr c70
                        have c70b1 : ((rdOf ByteArray.empty x4_1 0).toList != ([109, 97, 114, 107] : List UInt8)) = false := bne_eq_false_iff_eq.mpr c70
                        clear c70
                        by_cases c71 : 1 < (x7_19.length : Int)
                        · rw [if_pos c71] at H
                          have c71b0 : decide (1 < (x7_19.length : Int)) = true := decide_eq_true c71
                          have c71b1 : decide (1 < x7_19.length) = true := decide_eq_true (by omega)
                          clear c71
                          have H' := Aside0.mk H
                          clear H
                          obtain ⟨Ao72, co72, eo72⟩ := Kd.R_slice HO_7.out
                          subst eo72
                          have p387 : 0 ≤ (1 : Int) := (by omega)
                          have q387 : 1 < (x7_19.length : Int) := of_decide_eq_true (by first | (with_reducible assumption) | assumption)
                          obtain ⟨ad387, e387, hx387_0⟩ := Kd.at_int (Kd.R_reads' HO_7.out).2.2 1 p387 q387
                          cases e387
                          (try simp only [show (1 : Int).toNat = 1 from rfl, Nat.reduceMul, Nat.reduceEqDiff, Go.Addr.add, ↓reduceIte] at hx387_0)
                          have qi387 : (1 < x7_19.length) = True := eq_true (by omega)
                          (try rw [show ((1 : Int)).toNat = 1 from rfl] at hx387_0)
                          replace p387 := eq_true p387
                          replace q387 := eq_true q387
                          have hnb73 := NB379_366.out
                          have hnc73 := NB366_379.out
                          obtain ⟨hcz74_0, hcz74_1, hcz74_2, hcz74_3, hcz74_4, hcz74_5, hcz74_6, hcz74_7, hcz74_8, hcz74_9⟩ := cells10 BK379.out
                          obtain ⟨hfz74_0, hfz74_1, hfz74_2, hfz74_3, hfz74_4, hfz74_5, hfz74_6, hfz74_7, hfz74_8, hfz74_9⟩ := froz10 BK379.out
                          go_wp2
                          go_meet
                          case rel => exact ⟨_, (2), (0), (0), (0), (rd x7_19 1), (0), (0), (0), (0), (0), H', ⟨by have := HK1.out; have := HJ19.out; first | omega | exact Nat.le_refl _⟩, ⟨by (with_reducible repeat (first | refine blk_drewN ?_ _ | refine blk_drew ?_ | refine blk_alloc ?_ _)); refine blk_far ?_ NB366_379.out _; (with_reducible repeat (first | refine blk_drewN ?_ _ | refine blk_drew ?_ | refine blk_alloc ?_ _)); refine blk_far ?_ NB366_379.out _; (with_reducible repeat (first | refine blk_drewN ?_ _ | refine blk_drew ?_ | refine blk_alloc ?_ _)); refine blk_far ?_ NB366_379.out _; (with_reducible repeat (first | refine blk_drewN ?_ _ | refine blk_drew ?_ | refine blk_alloc ?_ _)); refine blk_far ?_ NB366_379.out _; (with_reducible repeat (first | refine blk_drewN ?_ _ | refine blk_drew ?_ | refine blk_alloc ?_ _)); refine blk_far ?_ NB366_379.out _; (with_reducible repeat (first | refine blk_drewN ?_ _ | refine blk_drew ?_ | refine blk_alloc ?_ _)); refine blk_far ?_ NB366_379.out _; (with_reducible repeat (first | refine blk_drewN ?_ _ | refine blk_drew ?_ | refine blk_alloc ?_ _)); refine blk_far ?_ NB366_379.out _; (with_reducible repeat (first | refine blk_drewN ?_ _ | refine blk_drew ?_ | refine blk_alloc ?_ _)); refine blk_far ?_ NB366_379.out _; (with_reducible repeat (first | refine blk_drewN ?_ _ | refine blk_drew ?_ | refine blk_alloc ?_ _)); refine blk_far ?_ NB366_379.out _; (with_reducible repeat (first | refine blk_drewN ?_ _ | refine blk_drew ?_ | refine blk_alloc ?_ _)); refine blk_far ?_ NB366_379.out _; (with_reducible repeat (first | refine blk_drewN ?_ _ | refine blk_drew ?_ | refine blk_alloc ?_ _)); exact BK366.out⟩, ⟨by (with_reducible repeat (first | refine blk_drewN ?_ _ | refine blk_drew ?_ | refine blk_alloc ?_ _)); refine blk_put (cs := #[.int .u8 2, .int .i64 0, .int .i64 0, .int .i64 0, .int .i64 (rd x7_19 1), .int .i64 0, .int .i64 0, .int .i64 0, .int .i64 0, .int .i64 0]) ?_ 9 _ rfl; (with_reducible repeat (first | refine blk_drewN ?_ _ | refine blk_drew ?_ | refine blk_alloc ?_ _)); refine blk_put (cs := #[.int .u8 2, .int .i64 0, .int .i64 0, .int .i64 0, .int .i64 (rd x7_19 1), .int .i64 0, .int .i64 0, .int .i64 0, .int .i64 0, .int .i64 0]) ?_ 8 _ rfl; (with_reducible repeat (first | refine blk_drewN ?_ _ | refine blk_drew ?_ | refine blk_alloc ?_ _)); refine blk_put (cs := #[.int .u8 2, .int .i64 0, .int .i64 0, .int .i64 0, .int .i64 (rd x7_19 1), .int .i64 0, .int .i64 0, .int .i64 0, .int .i64 0, .int .i64 0]) ?_ 7 _ rfl; (with_reducible repeat (first | refine blk_drewN ?_ _ | refine blk_drew ?_ | refine blk_alloc ?_ _)); refine blk_put (cs := #[.int .u8 2, .int .i64 0, .int .i64 0, .int .i64 0, .int .i64 (rd x7_19 1), .int .i64 0, .int .i64 0, .int .i64 0, .int .i64 0, .int .i64 0]) ?_ 6 _ rfl; (with_reducible repeat (first | refine blk_drewN ?_ _ | refine blk_drew ?_ | refine blk_alloc ?_ _)); refine blk_put (cs := #[.int .u8 2, .int .i64 0, .int .i64 0, .int .i64 0, .int .i64 (rd x7_19 1), .int .i64 0, .int .i64 0, .int .i64 0, .int .i64 0, .int .i64 0]) ?_ 5 _ rfl; (with_reducible repeat (first | refine blk_drewN ?_ _ | refine blk_drew ?_ | refine blk_alloc ?_ _)); refine blk_put (cs := #[.int .u8 2, .int .i64 0, .int .i64 0, .int .i64 0, .int .i64 0, .int .i64 0, .int .i64 0, .int .i64 0, .int .i64 0, .int .i64 0]) ?_ 4 _ rfl; (with_reducible repeat (first | refine blk_drewN ?_ _ | refine blk_drew ?_ | refine blk_alloc ?_ _)); refine blk_put (cs := #[.int .u8 2, .int .i64 0, .int .i64 0, .int .i64 0, .int .i64 0, .int .i64 0, .int .i64 0, .int .i64 0, .int .i64 0, .int .i64 0]) ?_ 3 _ rfl; (with_reducible repeat (first | refine blk_drewN ?_ _ | refine blk_drew ?_ | refine blk_alloc ?_ _)); refine blk_put (cs := #[.int .u8 2, .int .i64 0, .int .i64 0, .int .i64 0, .int .i64 0, .int .i64 0, .int .i64 0, .int .i64 0, .int .i64 0, .int .i64 0]) ?_ 2 _ rfl; (with_reducible repeat (first | refine blk_drewN ?_ _ | refine blk_drew ?_ | refine blk_alloc ?_ _)); refine blk_put (cs := #[.int .u8 2, .int .i64 0, .int .i64 0, .int .i64 0, .int .i64 0, .int .i64 0, .int .i64 0, .int .i64 0, .int .i64 0, .int .i64 0]) ?_ 1 _ rfl; (with_reducible repeat (first | refine blk_drewN ?_ _ | refine blk_drew ?_ | refine blk_alloc ?_ _)); refine blk_put (cs := #[.int .u8 0, .int .i64 0, .int .i64 0, .int .i64 0, .int .i64 0, .int .i64 0, .int .i64 0, .int .i64 0, .int .i64 0, .int .i64 0]) ?_ 0 _ rfl; (with_reducible repeat (first | refine blk_drewN ?_ _ | refine blk_drew ?_ | refine blk_alloc ?_ _)); exact BK379.out⟩, ⟨by repeat (first | (with_reducible first | exact HB.out | apply below_alloc | apply pw_below_drewN | apply below_drew1 | refine below_set ?_ GE366.out | refine below_set ?_ GE379.out) | exact HB.out)⟩⟩
                        · rw [if_neg c71] at H
                          exact absurd H (by simp)
                      · rw [if_neg c70] at H
                        have c70b0 : ((rdOf ByteArray.empty x4_1 0).toList == ([109, 97, 114, 107] : List UInt8)) = false := beq_eq_false_iff_ne.mpr c70
                        have c70b1 : ((rdOf ByteArray.empty x4_1 0).toList != ([109, 97, 114, 107] : List UInt8)) = true := bne_iff_ne.mpr c70
                        by_cases c75 : (rdOf ByteArray.empty x4_1 0).toList = ([114, 111, 119] : List UInt8)
                        · rw [if_pos c75] at H
                          have c75b0 : ((rdOf ByteArray.empty x4_1 0).toList == ([114, 111, 119] : List UInt8)) = true := beq_iff_eq.mpr c75
                          have c75b1 : ((rdOf ByteArray.empty x4_1 0).toList != ([114, 111, 119] : List UInt8)) = false := bne_eq_false_iff_eq.mpr c75
                          clear c75
                          by_cases c76 : 1 < (x7_19.length : Int)
                          · rw [if_pos c76] at H
                            have c76b0 : decide (1 < (x7_19.length : Int)) = true := decide_eq_true c76
                            have c76b1 : decide (1 < x7_19.length) = true := decide_eq_true (by omega)
                            clear c76
                            by_cases c77 : 2 < (x7_19.length : Int)
                            · rw [if_pos c77] at H
                              have c77b0 : decide (2 < (x7_19.length : Int)) = true := decide_eq_true c77
                              have c77b1 : decide (2 < x7_19.length) = true := decide_eq_true (by omega)
                              clear c77
                              by_cases c78 : 3 < (x7_19.length : Int)
                              · rw [if_pos c78] at H
                                have c78b0 : decide (3 < (x7_19.length : Int)) = true := decide_eq_true c78
                                have c78b1 : decide (3 < x7_19.length) = true := decide_eq_true (by omega)
                                clear c78
                                by_cases c79 : 4 < (x7_19.length : Int)
                                · rw [if_pos c79] at H
                                  have c79b0 : decide (4 < (x7_19.length : Int)) = true := decide_eq_true c79
                                  have c79b1 : decide (4 < x7_19.length) = true := decide_eq_true (by omega)
                                  clear c79
                                  by_cases c80 : 5 < (x7_19.length : Int)
                                  · rw [if_pos c80] at H
                                    have c80b0 : decide (5 < (x7_19.length : Int)) = true := decide_eq_true c80
                                    have c80b1 : decide (5 < x7_19.length) = true := decide_eq_true (by omega)
                                    clear c80
                                    have H' := Aside0.mk H
                                    clear H
                                    try go_wp2
                                    have n0_ := Aside0.mk (Kd.R_drew HO_4.out)
                                    have n1_ := Aside0.mk (Kd.R_drew HO_7.out)
                                    have n2_ := Aside0.mk (blk_drew BK366.out)
                                    have n3_ := Aside0.mk (blk_drew BK379.out)
                                    have n4_ := Aside0.mk (below_drew1 HB.out)
                                    clear HO_4
                                    clear HO_7
                                    clear BK366
                                    clear BK379
                                    clear HB
                                    have HO_4 := n0_
                                    have HO_7 := n1_
                                    have BK366 := n2_
                                    have BK379 := n3_
                                    have HB := n4_
                                    clear n0_ n1_ n2_ n3_ n4_
                                    obtain ⟨Ao82, co82, eo82⟩ := Kd.R_slice HO_7.out
                                    (first | subst eo82 | (injection eo82 with f1_ f2_ f3_; have f4_ := f1_.symm; have f5_ := f3_.symm; clear f1_ f2_ f3_; subst f4_; subst f5_))
                                    have p388 : 0 ≤ (1 : Int) := (by omega)
                                    have q388 : 1 < (x7_19.length : Int) := of_decide_eq_true (by first | (with_reducible assumption) | assumption)
                                    obtain ⟨ad388, e388, hx388_0⟩ := Kd.at_int (Kd.R_reads' HO_7.out).2.2 1 p388 q388
                                    cases e388
                                    (try simp only [show (1 : Int).toNat = 1 from rfl, Nat.reduceMul, Nat.reduceEqDiff, Go.Addr.add, ↓reduceIte] at hx388_0)
                                    have qi388 : (1 < x7_19.length) = True := eq_true (by omega)
                                    (try rw [show ((1 : Int)).toNat = 1 from rfl] at hx388_0)
                                    replace p388 := eq_true p388
                                    replace q388 := eq_true q388
                                    have p389 : 0 ≤ (2 : Int) := (by omega)
                                    have q389 : 2 < (x7_19.length : Int) := of_decide_eq_true (by first | (with_reducible assumption) | assumption)
                                    obtain ⟨ad389, e389, hx389_0⟩ := Kd.at_int (Kd.R_reads' HO_7.out).2.2 2 p389 q389
                                    obtain rfl : ad388 = ad389 := (by injection e389)
                                    (try simp only [show (2 : Int).toNat = 2 from rfl, Nat.reduceMul, Nat.reduceEqDiff, Go.Addr.add, ↓reduceIte] at hx389_0)
                                    have qi389 : (2 < x7_19.length) = True := eq_true (by omega)
                                    (try rw [show ((2 : Int)).toNat = 2 from rfl] at hx389_0)
                                    replace p389 := eq_true p389
                                    replace q389 := eq_true q389
                                    have p390 : 0 ≤ (3 : Int) := (by omega)
                                    have q390 : 3 < (x7_19.length : Int) := of_decide_eq_true (by first | (with_reducible assumption) | assumption)
                                    obtain ⟨ad390, e390, hx390_0⟩ := Kd.at_int (Kd.R_reads' HO_7.out).2.2 3 p390 q390
                                    obtain rfl : ad388 = ad390 := (by injection e390)
                                    (try simp only [show (3 : Int).toNat = 3 from rfl, Nat.reduceMul, Nat.reduceEqDiff, Go.Addr.add, ↓reduceIte] at hx390_0)
                                    have qi390 : (3 < x7_19.length) = True := eq_true (by omega)
                                    (try rw [show ((3 : Int)).toNat = 3 from rfl] at hx390_0)
                                    replace p390 := eq_true p390
                                    replace q390 := eq_true q390
                                    have p391 : 0 ≤ (4 : Int) := (by omega)
                                    have q391 : 4 < (x7_19.length : Int) := of_decide_eq_true (by first | (with_reducible assumption) | assumption)
                                    obtain ⟨ad391, e391, hx391_0⟩ := Kd.at_int (Kd.R_reads' HO_7.out).2.2 4 p391 q391
                                    obtain rfl : ad388 = ad391 := (by injection e391)
                                    (try simp only [show (4 : Int).toNat = 4 from rfl, Nat.reduceMul, Nat.reduceEqDiff, Go.Addr.add, ↓reduceIte] at hx391_0)
                                    have qi391 : (4 < x7_19.length) = True := eq_true (by omega)
                                    (try rw [show ((4 : Int)).toNat = 4 from rfl] at hx391_0)
                                    replace p391 := eq_true p391
                                    replace q391 := eq_true q391
                                    have p392 : 0 ≤ (5 : Int) := (by omega)
                                    have q392 : 5 < (x7_19.length : Int) := of_decide_eq_true (by first | (with_reducible assumption) | assumption)
                                    obtain ⟨ad392, e392, hx392_0⟩ := Kd.at_int (Kd.R_reads' HO_7.out).2.2 5 p392 q392
                                    obtain rfl : ad388 = ad392 := (by injection e392)
                                    (try simp only [show (5 : Int).toNat = 5 from rfl, Nat.reduceMul, Nat.reduceEqDiff, Go.Addr.add, ↓reduceIte] at hx392_0)
                                    have qi392 : (5 < x7_19.length) = True := eq_true (by omega)
                                    (try rw [show ((5 : Int)).toNat = 5 from rfl] at hx392_0)
                                    replace p392 := eq_true p392
                                    replace q392 := eq_true q392
                                    refine start_ (n := 20) (S := fun w' => w'.cell? ⟨ad388.block, ad388.off + 1, none⟩ = some (.int .i64 (rd x7_19 1)) ∧ w'.cell? ⟨ad388.block, ad388.off + 2, none⟩ = some (.int .i64 (rd x7_19 2)) ∧ w'.cell? ⟨ad388.block, ad388.off + 3, none⟩ = some (.int .i64 (rd x7_19 3)) ∧ w'.cell? ⟨ad388.block, ad388.off + 4, none⟩ = some (.int .i64 (rd x7_19 4)) ∧ w'.cell? ⟨ad388.block, ad388.off + 5, none⟩ = some (.int .i64 (rd x7_19 5))) (ds := []) #[false, false, false, false, false, false, false, false, false, false, false, false, false, false, false, false, false, false, false, false] (by kernel_rfl) rfl rfl ⟨hx388_0, hx389_0, hx390_0, hx391_0, hx392_0⟩ (fun hHeld => ?_); refine with_tabW tailwaterref25_Read.tab23 tailwaterref25_Read.bits23 (fun HT_ HW_ => ?_)
                                    generalize w36.drew = w81 at HO_4 HO_7 BK366 BK379 HB hx388_0 hx389_0 hx390_0 hx391_0 hx392_0 hHeld ⊢
                                    refine pure_ (i := 0) (N := some 91) (v := ?_) (a' := ?_) #[true, false, false, false, false, false, false, false, false, false, false, false, false, false, false, false, false, false, false, false] rfl rfl (any_of HT_.out (by kernel_rfl)) (fun _ _ _ h => h) (Or.inl ⟨by rfl, ?_⟩) ?_ ?_
                                    rotate_left
                                    · intro w'
                                      go_simp
                                      with_reducible rfl
                                    rotate_left
                                    · simp only [Act.put, List.setIfInBounds_toArray, List.set_cons_zero, List.set_cons_succ, i64_w, i32_w]
                                      rfl
                                    refine pure_ (i := 1) (N := some 92) (v := ?_) (a' := ?_) #[true, true, false, false, false, false, false, false, false, false, false, false, false, false, false, false, false, false, false, false] rfl rfl (any_of HT_.out (by kernel_rfl)) (fun _ _ _ h => h) (Or.inl ⟨by rfl, ?_⟩) ?_ ?_
                                    rotate_left
                                    · intro w'
                                      go_simp
                                      with_reducible rfl
                                    rotate_left
                                    · simp only [Act.put, List.setIfInBounds_toArray, List.set_cons_zero, List.set_cons_succ, i64_w, i32_w]
                                      rfl
                                    refine pure_ (i := 3) (N := some 94) (v := ?_) (a' := ?_) #[true, true, false, true, false, false, false, false, false, false, false, false, false, false, false, false, false, false, false, false] rfl rfl (any_of HT_.out (by kernel_rfl)) (fun _ _ _ h => h) (Or.inl ⟨by rfl, ?_⟩) ?_ ?_
                                    rotate_left
                                    · intro w'
                                      go_simp
                                      with_reducible rfl
                                    rotate_left
                                    · simp only [Act.put, List.setIfInBounds_toArray, List.set_cons_zero, List.set_cons_succ, i64_w, i32_w]
                                      rfl
                                    refine pure_ (i := 4) (N := some 95) (v := ?_) (a' := ?_) #[true, true, false, true, true, false, false, false, false, false, false, false, false, false, false, false, false, false, false, false] rfl rfl (any_of HT_.out (by kernel_rfl)) (fun _ _ _ h => h) (Or.inl ⟨by rfl, ?_⟩) ?_ ?_
                                    rotate_left
                                    · intro w'
                                      go_simp
                                      with_reducible rfl
                                    rotate_left
                                    · simp only [Act.put, List.setIfInBounds_toArray, List.set_cons_zero, List.set_cons_succ, i64_w, i32_w]
                                      rfl
                                    refine pure_ (i := 6) (N := some 97) (v := ?_) (a' := ?_) #[true, true, false, true, true, false, true, false, false, false, false, false, false, false, false, false, false, false, false, false] rfl rfl (any_of HT_.out (by kernel_rfl)) (fun _ _ _ h => h) (Or.inl ⟨by rfl, ?_⟩) ?_ ?_
                                    rotate_left
                                    · intro w'
                                      go_simp
                                      with_reducible rfl
                                    rotate_left
                                    · simp only [Act.put, List.setIfInBounds_toArray, List.set_cons_zero, List.set_cons_succ, i64_w, i32_w]
                                      rfl
                                    refine pure_ (i := 7) (N := some 98) (v := ?_) (a' := ?_) #[true, true, false, true, true, false, true, true, false, false, false, false, false, false, false, false, false, false, false, false] rfl rfl (any_of HT_.out (by kernel_rfl)) (fun _ _ _ h => h) (Or.inl ⟨by rfl, ?_⟩) ?_ ?_
                                    rotate_left
                                    · intro w'
                                      go_simp
                                      with_reducible rfl
                                    rotate_left
                                    · simp only [Act.put, List.setIfInBounds_toArray, List.set_cons_zero, List.set_cons_succ, i64_w, i32_w]
                                      rfl
                                    refine pure_ (i := 10) (N := some 101) (v := ?_) (a' := ?_) #[true, true, false, true, true, false, true, true, false, false, true, false, false, false, false, false, false, false, false, false] rfl rfl (any_of HT_.out (by kernel_rfl)) (fun _ _ _ h => h) (Or.inl ⟨by rfl, ?_⟩) ?_ ?_
                                    rotate_left
                                    · intro w'
                                      go_simp
                                      with_reducible rfl
                                    rotate_left
                                    · simp only [Act.put, List.setIfInBounds_toArray, List.set_cons_zero, List.set_cons_succ, i64_w, i32_w]
                                      rfl
                                    refine pure_ (i := 11) (N := some 102) (v := ?_) (a' := ?_) #[true, true, false, true, true, false, true, true, false, false, true, true, false, false, false, false, false, false, false, false] rfl rfl (any_of HT_.out (by kernel_rfl)) (fun _ _ _ h => h) (Or.inl ⟨by rfl, ?_⟩) ?_ ?_
                                    rotate_left
                                    · intro w'
                                      go_simp
                                      with_reducible rfl
                                    rotate_left
                                    · simp only [Act.put, List.setIfInBounds_toArray, List.set_cons_zero, List.set_cons_succ, i64_w, i32_w]
                                      rfl
                                    refine pure_ (i := 13) (N := some 104) (v := ?_) (a' := ?_) #[true, true, false, true, true, false, true, true, false, false, true, true, false, true, false, false, false, false, false, false] rfl rfl (any_of HT_.out (by kernel_rfl)) (fun _ _ _ h => h) (Or.inl ⟨by rfl, ?_⟩) ?_ ?_
                                    rotate_left
                                    · intro w'
                                      go_simp
                                      with_reducible rfl
                                    rotate_left
                                    · simp only [Act.put, List.setIfInBounds_toArray, List.set_cons_zero, List.set_cons_succ, i64_w, i32_w]
                                      rfl
                                    refine pure_ (i := 14) (N := some 105) (v := ?_) (a' := ?_) #[true, true, false, true, true, false, true, true, false, false, true, true, false, true, true, false, false, false, false, false] rfl rfl (any_of HT_.out (by kernel_rfl)) (fun _ _ _ h => h) (Or.inl ⟨by rfl, ?_⟩) ?_ ?_
                                    rotate_left
                                    · intro w'
                                      go_simp
                                      with_reducible rfl
                                    rotate_left
                                    · simp only [Act.put, List.setIfInBounds_toArray, List.set_cons_zero, List.set_cons_succ, i64_w, i32_w]
                                      rfl
                                    refine take_ (i := 2) (N := some 93) (v := ?_) (a' := ?_) #[true, true, true, true, true, false, true, true, false, false, true, true, false, true, true, false, false, false, false, false] rfl rfl (take_ofW HT_.out HW_.out (by kernel_rfl)) (fun _ _ _ h => h) (Or.inl ⟨by rfl, ?_⟩) hHeld ?_ ?_
                                    rotate_left
                                    · rintro w' ⟨s0, s1, s2, s3, s4⟩
                                      go_simp
                                      with_reducible rfl
                                    rotate_left
                                    · simp only [Act.put, List.setIfInBounds_toArray, List.set_cons_zero, List.set_cons_succ, i64_w, i32_w]
                                      rfl
                                    refine take_ (i := 5) (N := some 96) (v := ?_) (a' := ?_) #[true, true, true, true, true, true, true, true, false, false, true, true, false, true, true, false, false, false, false, false] rfl rfl (take_ofW HT_.out HW_.out (by kernel_rfl)) (fun _ _ _ h => h) (Or.inl ⟨by rfl, ?_⟩) hHeld ?_ ?_
                                    rotate_left
                                    · rintro w' ⟨s0, s1, s2, s3, s4⟩
                                      go_simp
                                      with_reducible rfl
                                    rotate_left
                                    · simp only [Act.put, List.setIfInBounds_toArray, List.set_cons_zero, List.set_cons_succ, i64_w, i32_w]
                                      rfl
                                    refine take_ (i := 8) (N := some 99) (v := ?_) (a' := ?_) #[true, true, true, true, true, true, true, true, true, false, true, true, false, true, true, false, false, false, false, false] rfl rfl (take_ofW HT_.out HW_.out (by kernel_rfl)) (fun _ _ _ h => h) (Or.inl ⟨by rfl, ?_⟩) hHeld ?_ ?_
                                    rotate_left
                                    · rintro w' ⟨s0, s1, s2, s3, s4⟩
                                      go_simp
                                      with_reducible rfl
                                    rotate_left
                                    · simp only [Act.put, List.setIfInBounds_toArray, List.set_cons_zero, List.set_cons_succ, i64_w, i32_w]
                                      rfl
                                    refine pure_ (i := 9) (N := some 100) (v := ?_) (a' := ?_) #[true, true, true, true, true, true, true, true, true, true, true, true, false, true, true, false, false, false, false, false] rfl rfl (any_of HT_.out (by kernel_rfl)) (fun _ _ _ h => h) (Or.inl ⟨by rfl, ?_⟩) ?_ ?_
                                    rotate_left
                                    · intro w'
                                      go_simp
                                      with_reducible rfl
                                    rotate_left
                                    · simp only [Act.put, List.setIfInBounds_toArray, List.set_cons_zero, List.set_cons_succ, i64_w, i32_w]
                                      rfl
                                    refine take_ (i := 12) (N := some 103) (v := ?_) (a' := ?_) #[true, true, true, true, true, true, true, true, true, true, true, true, true, true, true, false, false, false, false, false] rfl rfl (take_ofW HT_.out HW_.out (by kernel_rfl)) (fun _ _ _ h => h) (Or.inl ⟨by rfl, ?_⟩) hHeld ?_ ?_
                                    rotate_left
                                    · rintro w' ⟨s0, s1, s2, s3, s4⟩
                                      go_simp
                                      with_reducible rfl
                                    rotate_left
                                    · simp only [Act.put, List.setIfInBounds_toArray, List.set_cons_zero, List.set_cons_succ, i64_w, i32_w]
                                      rfl
                                    refine take_ (i := 15) (N := some 106) (v := ?_) (a' := ?_) #[true, true, true, true, true, true, true, true, true, true, true, true, true, true, true, true, false, false, false, false] rfl rfl (take_ofW HT_.out HW_.out (by kernel_rfl)) (fun _ _ _ h => h) (Or.inl ⟨by rfl, ?_⟩) hHeld ?_ ?_
                                    rotate_left
                                    · rintro w' ⟨s0, s1, s2, s3, s4⟩
                                      go_simp
                                      with_reducible rfl
                                    rotate_left
                                    · simp only [Act.put, List.setIfInBounds_toArray, List.set_cons_zero, List.set_cons_succ, i64_w, i32_w]
                                      rfl
                                    refine pure_ (i := 16) (N := some 107) (v := ?_) (a' := ?_) #[true, true, true, true, true, true, true, true, true, true, true, true, true, true, true, true, true, false, false, false] rfl rfl (any_of HT_.out (by kernel_rfl)) (fun _ _ _ h => h) (Or.inl ⟨by rfl, ?_⟩) ?_ ?_
                                    rotate_left
                                    · intro w'
                                      go_simp
                                      with_reducible rfl
                                    rotate_left
                                    · simp only [Act.put, List.setIfInBounds_toArray, List.set_cons_zero, List.set_cons_succ, i64_w, i32_w]
                                      rfl
                                    refine pure_ (i := 17) (N := some 108) (v := ?_) (a' := ?_) #[true, true, true, true, true, true, true, true, true, true, true, true, true, true, true, true, true, true, false, false] rfl rfl (any_of HT_.out (by kernel_rfl)) (fun _ _ _ h => h) (Or.inl ⟨by rfl, ?_⟩) ?_ ?_
                                    rotate_left
                                    · intro w'
                                      go_simp
                                      with_reducible rfl
                                    rotate_left
                                    · simp only [Act.put, List.setIfInBounds_toArray, List.set_cons_zero, List.set_cons_succ, i64_w, i32_w]
                                      rfl
                                    refine pure_ (i := 18) (N := some 109) (v := ?_) (a' := ?_) #[true, true, true, true, true, true, true, true, true, true, true, true, true, true, true, true, true, true, true, false] rfl rfl (any_of HT_.out (by kernel_rfl)) (fun _ _ _ h => h) (Or.inl ⟨by rfl, ?_⟩) ?_ ?_
                                    rotate_left
                                    · intro w'
                                      go_simp
                                      with_reducible rfl
                                    rotate_left
                                    · simp only [Act.put, List.setIfInBounds_toArray, List.set_cons_zero, List.set_cons_succ, i64_w, i32_w]
                                      rfl
                                    refine one_ (i := 19) (N := none) #[true, true, true, true, true, true, true, true, true, true, true, true, true, true, true, true, true, true, true, true] rfl rfl (one_of HT_.out (by kernel_rfl)) (by decide) (fun K hK => ?_)
                                    have hs83 : w81.cell? ⟨gb379, 0, none⟩ = some (.int .u8 0) := (blk_cell BK379.out 0).trans rfl
                                    have hfs83 := blk_frozen BK379.out 0
                                    have hns83_0 := NB366_379.out
                                    have hms83_0 := NB379_366.out
                                    have hs84 : w81.cell? ⟨gb379, 1, none⟩ = some (.int .i64 0) := (blk_cell BK379.out 1).trans rfl
                                    have hfs84 := blk_frozen BK379.out 1
                                    have hns84_0 := NB366_379.out
                                    have hms84_0 := NB379_366.out
                                    have hs85 : w81.cell? ⟨gb379, 2, none⟩ = some (.int .i64 0) := (blk_cell BK379.out 2).trans rfl
                                    have hfs85 := blk_frozen BK379.out 2
                                    have hns85_0 := NB366_379.out
                                    have hms85_0 := NB379_366.out
                                    have hs86 : w81.cell? ⟨gb379, 3, none⟩ = some (.int .i64 0) := (blk_cell BK379.out 3).trans rfl
                                    have hfs86 := blk_frozen BK379.out 3
                                    have hns86_0 := NB366_379.out
                                    have hms86_0 := NB379_366.out
                                    have hs87 : w81.cell? ⟨gb379, 4, none⟩ = some (.int .i64 0) := (blk_cell BK379.out 4).trans rfl
                                    have hfs87 := blk_frozen BK379.out 4
                                    have hns87_0 := NB366_379.out
                                    have hms87_0 := NB379_366.out
                                    have hs88 : w81.cell? ⟨gb379, 5, none⟩ = some (.int .i64 0) := (blk_cell BK379.out 5).trans rfl
                                    have hfs88 := blk_frozen BK379.out 5
                                    have hns88_0 := NB366_379.out
                                    have hms88_0 := NB379_366.out
                                    have hs89 : w81.cell? ⟨gb379, 6, none⟩ = some (.int .i64 0) := (blk_cell BK379.out 6).trans rfl
                                    have hfs89 := blk_frozen BK379.out 6
                                    have hns89_0 := NB366_379.out
                                    have hms89_0 := NB379_366.out
                                    have hs90 : w81.cell? ⟨gb379, 7, none⟩ = some (.int .i64 0) := (blk_cell BK379.out 7).trans rfl
                                    have hfs90 := blk_frozen BK379.out 7
                                    have hns90_0 := NB366_379.out
                                    have hms90_0 := NB379_366.out
                                    have hs91 : w81.cell? ⟨gb379, 8, none⟩ = some (.int .i64 0) := (blk_cell BK379.out 8).trans rfl
                                    have hfs91 := blk_frozen BK379.out 8
                                    have hns91_0 := NB366_379.out
                                    have hms91_0 := NB379_366.out
                                    have hs92 : w81.cell? ⟨gb379, 9, none⟩ = some (.int .i64 0) := (blk_cell BK379.out 9).trans rfl
                                    have hfs92 := blk_frozen BK379.out 9
                                    have hns92_0 := NB366_379.out
                                    have hms92_0 := NB379_366.out
                                    refine skip_ (w1 := ?_) (by rfl) rfl ?_ ?_
                                    rotate_left
                                    · go_simp
                                      rfl
                                    have hne_ : ad388.block ≠ gb379 := Kd.own_blk (Kd.R_ne HO_7.out BK379.out (by decide))
                                    refine hK.out _ _ ⟨((cell_far (a := ⟨ad388.block, ad388.off + 1, none⟩) (p := ⟨gb379, _, none⟩) hne_ _).trans (((cell_far (a := ⟨ad388.block, ad388.off + 1, none⟩) (p := ⟨gb379, _, none⟩) hne_ _).trans (((cell_far (a := ⟨ad388.block, ad388.off + 1, none⟩) (p := ⟨gb379, _, none⟩) hne_ _).trans (((cell_far (a := ⟨ad388.block, ad388.off + 1, none⟩) (p := ⟨gb379, _, none⟩) hne_ _).trans (((cell_far (a := ⟨ad388.block, ad388.off + 1, none⟩) (p := ⟨gb379, _, none⟩) hne_ _).trans (((cell_far (a := ⟨ad388.block, ad388.off + 1, none⟩) (p := ⟨gb379, _, none⟩) hne_ _).trans (((cell_far (a := ⟨ad388.block, ad388.off + 1, none⟩) (p := ⟨gb379, _, none⟩) hne_ _).trans (((cell_far (a := ⟨ad388.block, ad388.off + 1, none⟩) (p := ⟨gb379, _, none⟩) hne_ _).trans (((cell_far (a := ⟨ad388.block, ad388.off + 1, none⟩) (p := ⟨gb379, _, none⟩) hne_ _).trans (((cell_far (a := ⟨ad388.block, ad388.off + 1, none⟩) (p := ⟨gb379, _, none⟩) hne_ _).trans (hHeld.1)))))))))))))))))))), ((cell_far (a := ⟨ad388.block, ad388.off + 2, none⟩) (p := ⟨gb379, _, none⟩) hne_ _).trans (((cell_far (a := ⟨ad388.block, ad388.off + 2, none⟩) (p := ⟨gb379, _, none⟩) hne_ _).trans (((cell_far (a := ⟨ad388.block, ad388.off + 2, none⟩) (p := ⟨gb379, _, none⟩) hne_ _).trans (((cell_far (a := ⟨ad388.block, ad388.off + 2, none⟩) (p := ⟨gb379, _, none⟩) hne_ _).trans (((cell_far (a := ⟨ad388.block, ad388.off + 2, none⟩) (p := ⟨gb379, _, none⟩) hne_ _).trans (((cell_far (a := ⟨ad388.block, ad388.off + 2, none⟩) (p := ⟨gb379, _, none⟩) hne_ _).trans (((cell_far (a := ⟨ad388.block, ad388.off + 2, none⟩) (p := ⟨gb379, _, none⟩) hne_ _).trans (((cell_far (a := ⟨ad388.block, ad388.off + 2, none⟩) (p := ⟨gb379, _, none⟩) hne_ _).trans (((cell_far (a := ⟨ad388.block, ad388.off + 2, none⟩) (p := ⟨gb379, _, none⟩) hne_ _).trans (((cell_far (a := ⟨ad388.block, ad388.off + 2, none⟩) (p := ⟨gb379, _, none⟩) hne_ _).trans (hHeld.2.1)))))))))))))))))))), ((cell_far (a := ⟨ad388.block, ad388.off + 3, none⟩) (p := ⟨gb379, _, none⟩) hne_ _).trans (((cell_far (a := ⟨ad388.block, ad388.off + 3, none⟩) (p := ⟨gb379, _, none⟩) hne_ _).trans (((cell_far (a := ⟨ad388.block, ad388.off + 3, none⟩) (p := ⟨gb379, _, none⟩) hne_ _).trans (((cell_far (a := ⟨ad388.block, ad388.off + 3, none⟩) (p := ⟨gb379, _, none⟩) hne_ _).trans (((cell_far (a := ⟨ad388.block, ad388.off + 3, none⟩) (p := ⟨gb379, _, none⟩) hne_ _).trans (((cell_far (a := ⟨ad388.block, ad388.off + 3, none⟩) (p := ⟨gb379, _, none⟩) hne_ _).trans (((cell_far (a := ⟨ad388.block, ad388.off + 3, none⟩) (p := ⟨gb379, _, none⟩) hne_ _).trans (((cell_far (a := ⟨ad388.block, ad388.off + 3, none⟩) (p := ⟨gb379, _, none⟩) hne_ _).trans (((cell_far (a := ⟨ad388.block, ad388.off + 3, none⟩) (p := ⟨gb379, _, none⟩) hne_ _).trans (((cell_far (a := ⟨ad388.block, ad388.off + 3, none⟩) (p := ⟨gb379, _, none⟩) hne_ _).trans (hHeld.2.2.1)))))))))))))))))))), ((cell_far (a := ⟨ad388.block, ad388.off + 4, none⟩) (p := ⟨gb379, _, none⟩) hne_ _).trans (((cell_far (a := ⟨ad388.block, ad388.off + 4, none⟩) (p := ⟨gb379, _, none⟩) hne_ _).trans (((cell_far (a := ⟨ad388.block, ad388.off + 4, none⟩) (p := ⟨gb379, _, none⟩) hne_ _).trans (((cell_far (a := ⟨ad388.block, ad388.off + 4, none⟩) (p := ⟨gb379, _, none⟩) hne_ _).trans (((cell_far (a := ⟨ad388.block, ad388.off + 4, none⟩) (p := ⟨gb379, _, none⟩) hne_ _).trans (((cell_far (a := ⟨ad388.block, ad388.off + 4, none⟩) (p := ⟨gb379, _, none⟩) hne_ _).trans (((cell_far (a := ⟨ad388.block, ad388.off + 4, none⟩) (p := ⟨gb379, _, none⟩) hne_ _).trans (((cell_far (a := ⟨ad388.block, ad388.off + 4, none⟩) (p := ⟨gb379, _, none⟩) hne_ _).trans (((cell_far (a := ⟨ad388.block, ad388.off + 4, none⟩) (p := ⟨gb379, _, none⟩) hne_ _).trans (((cell_far (a := ⟨ad388.block, ad388.off + 4, none⟩) (p := ⟨gb379, _, none⟩) hne_ _).trans (hHeld.2.2.2.1)))))))))))))))))))), ((cell_far (a := ⟨ad388.block, ad388.off + 5, none⟩) (p := ⟨gb379, _, none⟩) hne_ _).trans (((cell_far (a := ⟨ad388.block, ad388.off + 5, none⟩) (p := ⟨gb379, _, none⟩) hne_ _).trans (((cell_far (a := ⟨ad388.block, ad388.off + 5, none⟩) (p := ⟨gb379, _, none⟩) hne_ _).trans (((cell_far (a := ⟨ad388.block, ad388.off + 5, none⟩) (p := ⟨gb379, _, none⟩) hne_ _).trans (((cell_far (a := ⟨ad388.block, ad388.off + 5, none⟩) (p := ⟨gb379, _, none⟩) hne_ _).trans (((cell_far (a := ⟨ad388.block, ad388.off + 5, none⟩) (p := ⟨gb379, _, none⟩) hne_ _).trans (((cell_far (a := ⟨ad388.block, ad388.off + 5, none⟩) (p := ⟨gb379, _, none⟩) hne_ _).trans (((cell_far (a := ⟨ad388.block, ad388.off + 5, none⟩) (p := ⟨gb379, _, none⟩) hne_ _).trans (((cell_far (a := ⟨ad388.block, ad388.off + 5, none⟩) (p := ⟨gb379, _, none⟩) hne_ _).trans (((cell_far (a := ⟨ad388.block, ad388.off + 5, none⟩) (p := ⟨gb379, _, none⟩) hne_ _).trans (hHeld.2.2.2.2))))))))))))))))))))⟩ (fun hHeld => ?_)
                                    clear hK K
                                    refine done_ (done_of HT_.out (by kernel_rfl)) ?_
                                    generalize hW_ : World.setCell _ _ _ = W_
                                    have m0_ : Aside0 (W_.heap[gb366]? = some (.cells #[.int .u8 0, .int .i64 0, .int .i64 0, .int .i64 0, .int .i64 0, .int .i64 0, .int .i64 0, .int .i64 0, .int .i64 0, .int .i64 0] 31 (0, 0))) := ⟨by rw [← hW_]; (with_reducible repeat (first | refine blk_drewN ?_ _ | refine blk_drew ?_ | refine blk_alloc ?_ _)); refine blk_far ?_ NB366_379.out _; (with_reducible repeat (first | refine blk_drewN ?_ _ | refine blk_drew ?_ | refine blk_alloc ?_ _)); refine blk_far ?_ NB366_379.out _; (with_reducible repeat (first | refine blk_drewN ?_ _ | refine blk_drew ?_ | refine blk_alloc ?_ _)); refine blk_far ?_ NB366_379.out _; (with_reducible repeat (first | refine blk_drewN ?_ _ | refine blk_drew ?_ | refine blk_alloc ?_ _)); refine blk_far ?_ NB366_379.out _; (with_reducible repeat (first | refine blk_drewN ?_ _ | refine blk_drew ?_ | refine blk_alloc ?_ _)); refine blk_far ?_ NB366_379.out _; (with_reducible repeat (first | refine blk_drewN ?_ _ | refine blk_drew ?_ | refine blk_alloc ?_ _)); refine blk_far ?_ NB366_379.out _; (with_reducible repeat (first | refine blk_drewN ?_ _ | refine blk_drew ?_ | refine blk_alloc ?_ _)); refine blk_far ?_ NB366_379.out _; (with_reducible repeat (first | refine blk_drewN ?_ _ | refine blk_drew ?_ | refine blk_alloc ?_ _)); refine blk_far ?_ NB366_379.out _; (with_reducible repeat (first | refine blk_drewN ?_ _ | refine blk_drew ?_ | refine blk_alloc ?_ _)); refine blk_far ?_ NB366_379.out _; (with_reducible repeat (first | refine blk_drewN ?_ _ | refine blk_drew ?_ | refine blk_alloc ?_ _)); refine blk_far ?_ NB366_379.out _; (with_reducible repeat (first | refine blk_drewN ?_ _ | refine blk_drew ?_ | refine blk_alloc ?_ _)); exact BK366.out⟩
                                    have m1_ : Aside0 (W_.heap[gb379]? = some (.cells #[.int .u8 (3), .int .i64 (0), .int .i64 (0), .int .i64 (0), .int .i64 (0), .int .i64 (rd x7_19 1), .int .i64 (rd x7_19 2), .int .i64 (rd x7_19 3), .int .i64 (rd x7_19 4), .int .i64 (rd x7_19 5)] 31 (0, 0))) := ⟨by rw [← hW_]; (with_reducible repeat (first | refine blk_drewN ?_ _ | refine blk_drew ?_ | refine blk_alloc ?_ _)); refine blk_put (cs := #[.int .u8 3, .int .i64 0, .int .i64 0, .int .i64 0, .int .i64 0, .int .i64 (rd x7_19 1), .int .i64 (rd x7_19 2), .int .i64 (rd x7_19 3), .int .i64 (rd x7_19 4), .int .i64 0]) ?_ 9 _ rfl; (with_reducible repeat (first | refine blk_drewN ?_ _ | refine blk_drew ?_ | refine blk_alloc ?_ _)); refine blk_put (cs := #[.int .u8 3, .int .i64 0, .int .i64 0, .int .i64 0, .int .i64 0, .int .i64 (rd x7_19 1), .int .i64 (rd x7_19 2), .int .i64 (rd x7_19 3), .int .i64 0, .int .i64 0]) ?_ 8 _ rfl; (with_reducible repeat (first | refine blk_drewN ?_ _ | refine blk_drew ?_ | refine blk_alloc ?_ _)); refine blk_put (cs := #[.int .u8 3, .int .i64 0, .int .i64 0, .int .i64 0, .int .i64 0, .int .i64 (rd x7_19 1), .int .i64 (rd x7_19 2), .int .i64 0, .int .i64 0, .int .i64 0]) ?_ 7 _ rfl; (with_reducible repeat (first | refine blk_drewN ?_ _ | refine blk_drew ?_ | refine blk_alloc ?_ _)); refine blk_put (cs := #[.int .u8 3, .int .i64 0, .int .i64 0, .int .i64 0, .int .i64 0, .int .i64 (rd x7_19 1), .int .i64 0, .int .i64 0, .int .i64 0, .int .i64 0]) ?_ 6 _ rfl; (with_reducible repeat (first | refine blk_drewN ?_ _ | refine blk_drew ?_ | refine blk_alloc ?_ _)); refine blk_put (cs := #[.int .u8 3, .int .i64 0, .int .i64 0, .int .i64 0, .int .i64 0, .int .i64 0, .int .i64 0, .int .i64 0, .int .i64 0, .int .i64 0]) ?_ 5 _ rfl; (with_reducible repeat (first | refine blk_drewN ?_ _ | refine blk_drew ?_ | refine blk_alloc ?_ _)); refine blk_put (cs := #[.int .u8 3, .int .i64 0, .int .i64 0, .int .i64 0, .int .i64 0, .int .i64 0, .int .i64 0, .int .i64 0, .int .i64 0, .int .i64 0]) ?_ 4 _ rfl; (with_reducible repeat (first | refine blk_drewN ?_ _ | refine blk_drew ?_ | refine blk_alloc ?_ _)); refine blk_put (cs := #[.int .u8 3, .int .i64 0, .int .i64 0, .int .i64 0, .int .i64 0, .int .i64 0, .int .i64 0, .int .i64 0, .int .i64 0, .int .i64 0]) ?_ 3 _ rfl; (with_reducible repeat (first | refine blk_drewN ?_ _ | refine blk_drew ?_ | refine blk_alloc ?_ _)); refine blk_put (cs := #[.int .u8 3, .int .i64 0, .int .i64 0, .int .i64 0, .int .i64 0, .int .i64 0, .int .i64 0, .int .i64 0, .int .i64 0, .int .i64 0]) ?_ 2 _ rfl; (with_reducible repeat (first | refine blk_drewN ?_ _ | refine blk_drew ?_ | refine blk_alloc ?_ _)); refine blk_put (cs := #[.int .u8 3, .int .i64 0, .int .i64 0, .int .i64 0, .int .i64 0, .int .i64 0, .int .i64 0, .int .i64 0, .int .i64 0, .int .i64 0]) ?_ 1 _ rfl; (with_reducible repeat (first | refine blk_drewN ?_ _ | refine blk_drew ?_ | refine blk_alloc ?_ _)); refine blk_put (cs := #[.int .u8 0, .int .i64 0, .int .i64 0, .int .i64 0, .int .i64 0, .int .i64 0, .int .i64 0, .int .i64 0, .int .i64 0, .int .i64 0]) ?_ 0 _ rfl; (with_reducible repeat (first | refine blk_drewN ?_ _ | refine blk_drew ?_ | refine blk_alloc ?_ _)); exact BK379.out⟩
                                    have m2_ : Aside0 (Below w.heap.size w W_) := ⟨by rw [← hW_]; repeat (first | (with_reducible first | exact HB.out | apply below_alloc | apply pw_below_drewN | apply below_drew1 | refine below_set ?_ GE366.out | refine below_set ?_ GE379.out) | exact HB.out)⟩
                                    clear hW_ hHeld HT_ HW_
                                    try go_wp2
                                    go_meet
                                    case rel => exact ⟨_, (3), (0), (0), (0), (0), (rd x7_19 1), (rd x7_19 2), (rd x7_19 3), (rd x7_19 4), (rd x7_19 5), H', ⟨by have := HK1.out; have := HJ19.out; first | omega | exact Nat.le_refl _⟩, m0_, m1_, m2_⟩
                                  · rw [if_neg c80] at H
                                    exact absurd H (by simp)
                                · rw [if_neg c79] at H
                                  exact absurd H (by simp)
                              · rw [if_neg c78] at H
                                exact absurd H (by simp)
                            · rw [if_neg c77] at H
                              exact absurd H (by simp)
                          · rw [if_neg c76] at H
                            exact absurd H (by simp)
                        · rw [if_neg c75] at H
                          have c75b0 : ((rdOf ByteArray.empty x4_1 0).toList == ([114, 111, 119] : List UInt8)) = false := beq_eq_false_iff_ne.mpr c75
                          have c75b1 : ((rdOf ByteArray.empty x4_1 0).toList != ([114, 111, 119] : List UInt8)) = true := bne_iff_ne.mpr c75
                          have H' := Aside0.mk H
                          clear H
                          go_wp2
                          go_meet
                          case rel => exact ⟨_, (0), (0), (0), (0), (0), (0), (0), (0), (0), (0), H', ⟨by have := HK1.out; have := HJ19.out; first | omega | exact Nat.le_refl _⟩, ⟨by (with_reducible repeat (first | refine blk_drewN ?_ _ | refine blk_drew ?_ | refine blk_alloc ?_ _)); exact BK366.out⟩, ⟨by (with_reducible repeat (first | refine blk_drewN ?_ _ | refine blk_drew ?_ | refine blk_alloc ?_ _)); exact BK379.out⟩, ⟨by repeat (first | (with_reducible first | exact HB.out | apply below_alloc | apply pw_below_drewN | apply below_drew1 | refine below_set ?_ GE366.out | refine below_set ?_ GE379.out) | exact HB.out)⟩⟩
                case rest =>
                  clear HC35
                  try clear p2
                  try clear c3
                  try clear p3
                  try clear q3
                  try clear hx3
                  try clear qi3
                  try clear c4
                  try clear c5
                  try clear c7
                  try clear c8
                  try clear c38
                  try clear c38b0
                  try clear c38b1
                  try clear p38
                  try clear q38
                  try clear hx38
                  try clear qi38
                  try clear c39
                  try clear p39
                  try clear q39
                  try clear hx39
                  try clear qi39
                  try clear c40
                  try clear c54
                  try clear c54b0
                  try clear c54b1
                  try clear c55
                  try clear c55b0
                  try clear c55b1
                  try clear c56
                  try clear c56b0
                  try clear c56b1
                  try clear c57
                  try clear c57b0
                  try clear c57b1
                  try clear c70
                  try clear c70b0
                  try clear c70b1
                  try clear c71
                  try clear c71b0
                  try clear c71b1
                  try clear c73
                  try clear c75
                  try clear c75b0
                  try clear c75b1
                  try clear c76
                  try clear c76b0
                  try clear c76b1
                  try clear c77
                  try clear c77b0
                  try clear c77b1
                  try clear c78
                  try clear c78b0
                  try clear c78b1
                  try clear c79
                  try clear c79b0
                  try clear c79b1
                  try clear c80
                  try clear c80b0
                  try clear c80b1
                  try clear hcz74_0
                  try clear hcz74_1
                  try clear hcz74_2
                  try clear hcz74_3
                  try clear hcz74_4
                  try clear hcz74_5
                  try clear hcz74_6
                  try clear hcz74_7
                  try clear hcz74_8
                  try clear hcz74_9
                  try clear hfz74_0
                  try clear hfz74_1
                  try clear hfz74_2
                  try clear hfz74_3
                  try clear hfz74_4
                  try clear hfz74_5
                  try clear hfz74_6
                  try clear hfz74_7
                  try clear hfz74_8
                  try clear hfz74_9
                  try clear hx384_0
                  try clear hx385_0
                  try clear hx386_0
                  try clear hx387_0
                  try clear hx388_0
                  try clear hx389_0
                  try clear hx390_0
                  try clear hx391_0
                  try clear hx392_0
                  try clear p384
                  try clear p385
                  try clear p386
                  try clear p387
                  try clear p388
                  try clear p389
                  try clear p390
                  try clear p391
                  try clear p392
                  try clear q384
                  try clear q385
                  try clear q386
                  try clear q387
                  try clear q388
                  try clear q389
                  try clear q390
                  try clear q391
                  try clear q392
                  obtain ⟨kq, x380000_34, x380001_34, x380002_34, x380003_34, x380004_34, x380005_34, x380006_34, x380007_34, x380008_34, x380009_34, HA, HJ34, BK366, BK379, HB⟩ := hcut
                  cases kq with
                  | zero => exact absurd HA.out (by simp [tailwaterref25_Read.j3])
                  | succ kj34 =>
                    have H := HA.out
                    clear HA
                    simp only [tailwaterref25_Read.j3] at H
                    replace H := Option.bind_eq_some_iff.mp H
                    obtain ⟨t393, A930, H⟩ := H
                    replace H : (if t393 = true then ((tailwaterref25_Written.f kj34 x380000_34 x380001_34 x380002_34 x380003_34 x380004_34 x380005_34 x380006_34 x380007_34 x380008_34 x380009_34).bind fun t394 => (if t394.toList = a0.toList then (some (x380000_34, x380001_34, x380002_34, x380003_34, x380004_34, x380005_34, x380006_34, x380007_34, x380008_34, x380009_34, 0)) else (some (0, 0, 0, 0, 0, 0, 0, 0, 0, 0, 12)))) else (some (0, 0, 0, 0, 0, 0, 0, 0, 0, 0, 12))) = some (r1, r2, r3, r4, r5, r6, r7, r8, r9, r10, r11) := H
                    have A93 := Aside0.mk A930
                    clear A930
                    by_cases c94 : t393 = true
                    · subst c94
                      have H1 : ((tailwaterref25_Written.f kj34 x380000_34 x380001_34 x380002_34 x380003_34 x380004_34 x380005_34 x380006_34 x380007_34 x380008_34 x380009_34).bind fun t394 => (if t394.toList = a0.toList then (some (x380000_34, x380001_34, x380002_34, x380003_34, x380004_34, x380005_34, x380006_34, x380007_34, x380008_34, x380009_34, 0)) else (some (0, 0, 0, 0, 0, 0, 0, 0, 0, 0, 12)))) = some (r1, r2, r3, r4, r5, r6, r7, r8, r9, r10, r11) := by rw [if_pos rfl] at H; exact H
                      clear H
                      have H := H1
                      clear H1
                      replace H := Option.bind_eq_some_iff.mp H
                      obtain ⟨t394, A950, H⟩ := H
                      replace H : (if t394.toList = a0.toList then (some (x380000_34, x380001_34, x380002_34, x380003_34, x380004_34, x380005_34, x380006_34, x380007_34, x380008_34, x380009_34, 0)) else (some (0, 0, 0, 0, 0, 0, 0, 0, 0, 0, 12))) = some (r1, r2, r3, r4, r5, r6, r7, r8, r9, r10, r11) := H
                      have A95 := Aside0.mk A950
                      clear A950
                      by_cases c96 : t394.toList = a0.toList
                      · rw [if_pos c96] at H
                        have c96b0 : (t394.toList == a0.toList) = true := beq_iff_eq.mpr c96
                        have c96b1 : (t394.toList != a0.toList) = false := bne_eq_false_iff_eq.mpr c96
                        clear c96
                        simp only [Option.some.injEq, Prod.mk.injEq] at H
                        obtain ⟨rfl, rfl, rfl, rfl, rfl, rfl, rfl, rfl, rfl, rfl, rfl⟩ := H
                        have hnb97 := NB379_366.out
                        have hnc97 := NB366_379.out
                        obtain ⟨hcz98_0, hcz98_1, hcz98_2, hcz98_3, hcz98_4, hcz98_5, hcz98_6, hcz98_7, hcz98_8, hcz98_9⟩ := cells10 BK379.out
                        obtain ⟨hfz98_0, hfz98_1, hfz98_2, hfz98_3, hfz98_4, hfz98_5, hfz98_6, hfz98_7, hfz98_8, hfz98_9⟩ := froz10 BK379.out
                        go_wp2_with (first | ((with_reducible refine gate_callee (f := 44) rfl ?_); refine goesL_ (some 111) rfl rfl Tryd.func44 (by kernel_rfl) rfl #[.agg #[.int .u8 x380000_34, .int .i64 x380001_34, .int .i64 x380002_34, .int .i64 x380003_34, .int .i64 x380004_34, .int .i64 x380005_34, .int .i64 x380006_34, .int .i64 x380007_34, .int .i64 x380008_34, .int .i64 x380009_34]] rfl (by (try simp only [List.map_toArray, List.map_cons, List.map_nil]); first | done | rfl | (simp only [List.length_drop, List.length_take]; rfl)) ?_; (with_reducible refine (tailwaterref25_Valid.calls kj34 x380000_34 x380001_34 x380002_34 x380003_34 x380004_34 x380005_34 x380006_34 x380007_34 x380008_34 x380009_34 true _ A93.out).mono ?_); rintro e w99 ⟨rfl, hb⟩; refine ⟨_, rfl, ?_⟩; have n0_ := Aside0.mk (blk_below (g := gb366) (o := .cells #[.int .u8 0, .int .i64 0, .int .i64 0, .int .i64 0, .int .i64 0, .int .i64 0, .int .i64 0, .int .i64 0, .int .i64 0, .int .i64 0] 31 (0, 0)) (by (with_reducible repeat (first | refine blk_drewN ?_ _ | refine blk_drew ?_ | refine blk_alloc ?_ _)); exact BK366.out) hb); have n1_ := Aside0.mk (blk_below (g := gb379) (o := .cells #[.int .u8 x380000_34, .int .i64 x380001_34, .int .i64 x380002_34, .int .i64 x380003_34, .int .i64 x380004_34, .int .i64 x380005_34, .int .i64 x380006_34, .int .i64 x380007_34, .int .i64 x380008_34, .int .i64 x380009_34] 31 (0, 0)) (by (with_reducible repeat (first | refine blk_drewN ?_ _ | refine blk_drew ?_ | refine blk_alloc ?_ _)); exact BK379.out) hb); have n2_ := Aside0.mk (below_step (by repeat (first | (with_reducible first | exact HB.out | apply below_alloc | apply pw_below_drewN | apply below_drew1 | refine below_set ?_ GE366.out | refine below_set ?_ GE379.out) | exact HB.out)) hb); clear BK366; clear BK379; clear HB; have BK366 := n0_; have BK379 := n1_; have HB := n2_; clear n0_ n1_ n2_; (try clear hb); (try clear hb2); (try clear hk); (try clear hi); obtain ⟨hcz100_0, hcz100_1, hcz100_2, hcz100_3, hcz100_4, hcz100_5, hcz100_6, hcz100_7, hcz100_8, hcz100_9⟩ := cells10 BK379.out; obtain ⟨hfz100_0, hfz100_1, hfz100_2, hfz100_3, hfz100_4, hfz100_5, hfz100_6, hfz100_7, hfz100_8, hfz100_9⟩ := froz10 BK379.out) | (go_at_call 45; (with_reducible refine (tailwaterref25_Written.calls kj34 x380000_34 x380001_34 x380002_34 x380003_34 x380004_34 x380005_34 x380006_34 x380007_34 x380008_34 x380009_34 t394 _ A95.out).mono ?_); rintro e w101 ⟨rfl, hb⟩; have n0_ := Aside0.mk (blk_below (g := gb366) (o := .cells #[.int .u8 0, .int .i64 0, .int .i64 0, .int .i64 0, .int .i64 0, .int .i64 0, .int .i64 0, .int .i64 0, .int .i64 0, .int .i64 0] 31 (0, 0)) (by (with_reducible repeat (first | refine blk_drewN ?_ _ | refine blk_drew ?_ | refine blk_alloc ?_ _)); exact BK366.out) hb); have n1_ := Aside0.mk (blk_below (g := gb379) (o := .cells #[.int .u8 x380000_34, .int .i64 x380001_34, .int .i64 x380002_34, .int .i64 x380003_34, .int .i64 x380004_34, .int .i64 x380005_34, .int .i64 x380006_34, .int .i64 x380007_34, .int .i64 x380008_34, .int .i64 x380009_34] 31 (0, 0)) (by (with_reducible repeat (first | refine blk_drewN ?_ _ | refine blk_drew ?_ | refine blk_alloc ?_ _)); exact BK379.out) hb); have n2_ := Aside0.mk (below_step (by repeat (first | (with_reducible first | exact HB.out | apply below_alloc | apply pw_below_drewN | apply below_drew1 | refine below_set ?_ GE366.out | refine below_set ?_ GE379.out) | exact HB.out)) hb); clear BK366; clear BK379; clear HB; have BK366 := n0_; have BK379 := n1_; have HB := n2_; clear n0_ n1_ n2_; (try clear hb); (try clear hb2); (try clear hk); (try clear hi); obtain ⟨hcz102_0, hcz102_1, hcz102_2, hcz102_3, hcz102_4, hcz102_5, hcz102_6, hcz102_7, hcz102_8, hcz102_9⟩ := cells10 BK379.out; obtain ⟨hfz102_0, hfz102_1, hfz102_2, hfz102_3, hfz102_4, hfz102_5, hfz102_6, hfz102_7, hfz102_8, hfz102_9⟩ := froz10 BK379.out; obtain ⟨hcz103_0, hcz103_1, hcz103_2, hcz103_3, hcz103_4, hcz103_5, hcz103_6, hcz103_7, hcz103_8, hcz103_9⟩ := cells10 BK366.out; obtain ⟨hfz103_0, hfz103_1, hfz103_2, hfz103_3, hfz103_4, hfz103_5, hfz103_6, hfz103_7, hfz103_8, hfz103_9⟩ := froz10 BK366.out))
                        refine bodyPost_ret (results_ct rfl _ _ gb366 31 #[.int .u8 x380000_34, .int .i64 x380001_34, .int .i64 x380002_34, .int .i64 x380003_34, .int .i64 x380004_34, .int .i64 x380005_34, .int .i64 x380006_34, .int .i64 x380007_34, .int .i64 x380008_34, .int .i64 x380009_34] (0, 0) _ rfl (by (with_reducible repeat (first | refine blk_drewN ?_ _ | refine blk_drew ?_ | refine blk_alloc ?_ _)); refine blk_put (cs := #[.int .u8 x380000_34, .int .i64 x380001_34, .int .i64 x380002_34, .int .i64 x380003_34, .int .i64 x380004_34, .int .i64 x380005_34, .int .i64 x380006_34, .int .i64 x380007_34, .int .i64 x380008_34, .int .i64 0]) ?_ 9 _ rfl; (with_reducible repeat (first | refine blk_drewN ?_ _ | refine blk_drew ?_ | refine blk_alloc ?_ _)); refine blk_put (cs := #[.int .u8 x380000_34, .int .i64 x380001_34, .int .i64 x380002_34, .int .i64 x380003_34, .int .i64 x380004_34, .int .i64 x380005_34, .int .i64 x380006_34, .int .i64 x380007_34, .int .i64 0, .int .i64 0]) ?_ 8 _ rfl; (with_reducible repeat (first | refine blk_drewN ?_ _ | refine blk_drew ?_ | refine blk_alloc ?_ _)); refine blk_put (cs := #[.int .u8 x380000_34, .int .i64 x380001_34, .int .i64 x380002_34, .int .i64 x380003_34, .int .i64 x380004_34, .int .i64 x380005_34, .int .i64 x380006_34, .int .i64 0, .int .i64 0, .int .i64 0]) ?_ 7 _ rfl; (with_reducible repeat (first | refine blk_drewN ?_ _ | refine blk_drew ?_ | refine blk_alloc ?_ _)); refine blk_put (cs := #[.int .u8 x380000_34, .int .i64 x380001_34, .int .i64 x380002_34, .int .i64 x380003_34, .int .i64 x380004_34, .int .i64 x380005_34, .int .i64 0, .int .i64 0, .int .i64 0, .int .i64 0]) ?_ 6 _ rfl; (with_reducible repeat (first | refine blk_drewN ?_ _ | refine blk_drew ?_ | refine blk_alloc ?_ _)); refine blk_put (cs := #[.int .u8 x380000_34, .int .i64 x380001_34, .int .i64 x380002_34, .int .i64 x380003_34, .int .i64 x380004_34, .int .i64 0, .int .i64 0, .int .i64 0, .int .i64 0, .int .i64 0]) ?_ 5 _ rfl; (with_reducible repeat (first | refine blk_drewN ?_ _ | refine blk_drew ?_ | refine blk_alloc ?_ _)); refine blk_put (cs := #[.int .u8 x380000_34, .int .i64 x380001_34, .int .i64 x380002_34, .int .i64 x380003_34, .int .i64 0, .int .i64 0, .int .i64 0, .int .i64 0, .int .i64 0, .int .i64 0]) ?_ 4 _ rfl; (with_reducible repeat (first | refine blk_drewN ?_ _ | refine blk_drew ?_ | refine blk_alloc ?_ _)); refine blk_put (cs := #[.int .u8 x380000_34, .int .i64 x380001_34, .int .i64 x380002_34, .int .i64 0, .int .i64 0, .int .i64 0, .int .i64 0, .int .i64 0, .int .i64 0, .int .i64 0]) ?_ 3 _ rfl; (with_reducible repeat (first | refine blk_drewN ?_ _ | refine blk_drew ?_ | refine blk_alloc ?_ _)); refine blk_put (cs := #[.int .u8 x380000_34, .int .i64 x380001_34, .int .i64 0, .int .i64 0, .int .i64 0, .int .i64 0, .int .i64 0, .int .i64 0, .int .i64 0, .int .i64 0]) ?_ 2 _ rfl; (with_reducible repeat (first | refine blk_drewN ?_ _ | refine blk_drew ?_ | refine blk_alloc ?_ _)); refine blk_put (cs := #[.int .u8 x380000_34, .int .i64 0, .int .i64 0, .int .i64 0, .int .i64 0, .int .i64 0, .int .i64 0, .int .i64 0, .int .i64 0, .int .i64 0]) ?_ 1 _ rfl; (with_reducible repeat (first | refine blk_drewN ?_ _ | refine blk_drew ?_ | refine blk_alloc ?_ _)); refine blk_put (cs := #[.int .u8 0, .int .i64 0, .int .i64 0, .int .i64 0, .int .i64 0, .int .i64 0, .int .i64 0, .int .i64 0, .int .i64 0, .int .i64 0]) ?_ 0 _ rfl; (with_reducible repeat (first | refine blk_drewN ?_ _ | refine blk_drew ?_ | refine blk_alloc ?_ _)); exact BK366.out) Tryd.underlying31 rfl (by kernel_rfl)) rfl ?_
                        exact ⟨by first | rfl | (simp [errW_none, errW_some] <;> rfl) | (simp [*, errW_none, errW_some] <;> rfl), by repeat (first | (with_reducible first | exact HB.out | apply below_alloc | apply pw_below_drewN | apply below_drew1 | refine below_set ?_ GE366.out | refine below_set ?_ GE379.out) | exact HB.out)⟩
                      · rw [if_neg c96] at H
                        have c96b0 : (t394.toList == a0.toList) = false := beq_eq_false_iff_ne.mpr c96
                        have c96b1 : (t394.toList != a0.toList) = true := bne_iff_ne.mpr c96
                        simp only [Option.some.injEq, Prod.mk.injEq] at H
                        obtain ⟨rfl, rfl, rfl, rfl, rfl, rfl, rfl, rfl, rfl, rfl, rfl⟩ := H
                        have hnb104 := NB379_366.out
                        have hnc104 := NB366_379.out
                        obtain ⟨hcz105_0, hcz105_1, hcz105_2, hcz105_3, hcz105_4, hcz105_5, hcz105_6, hcz105_7, hcz105_8, hcz105_9⟩ := cells10 BK379.out
                        obtain ⟨hfz105_0, hfz105_1, hfz105_2, hfz105_3, hfz105_4, hfz105_5, hfz105_6, hfz105_7, hfz105_8, hfz105_9⟩ := froz10 BK379.out
                        go_wp2_with (first | ((with_reducible refine gate_callee (f := 44) rfl ?_); refine goesL_ (some 111) rfl rfl Tryd.func44 (by kernel_rfl) rfl #[.agg #[.int .u8 x380000_34, .int .i64 x380001_34, .int .i64 x380002_34, .int .i64 x380003_34, .int .i64 x380004_34, .int .i64 x380005_34, .int .i64 x380006_34, .int .i64 x380007_34, .int .i64 x380008_34, .int .i64 x380009_34]] rfl (by (try simp only [List.map_toArray, List.map_cons, List.map_nil]); first | done | rfl | (simp only [List.length_drop, List.length_take]; rfl)) ?_; (with_reducible refine (tailwaterref25_Valid.calls kj34 x380000_34 x380001_34 x380002_34 x380003_34 x380004_34 x380005_34 x380006_34 x380007_34 x380008_34 x380009_34 true _ A93.out).mono ?_); rintro e w106 ⟨rfl, hb⟩; refine ⟨_, rfl, ?_⟩; have n0_ := Aside0.mk (blk_below (g := gb366) (o := .cells #[.int .u8 0, .int .i64 0, .int .i64 0, .int .i64 0, .int .i64 0, .int .i64 0, .int .i64 0, .int .i64 0, .int .i64 0, .int .i64 0] 31 (0, 0)) (by (with_reducible repeat (first | refine blk_drewN ?_ _ | refine blk_drew ?_ | refine blk_alloc ?_ _)); exact BK366.out) hb); have n1_ := Aside0.mk (blk_below (g := gb379) (o := .cells #[.int .u8 x380000_34, .int .i64 x380001_34, .int .i64 x380002_34, .int .i64 x380003_34, .int .i64 x380004_34, .int .i64 x380005_34, .int .i64 x380006_34, .int .i64 x380007_34, .int .i64 x380008_34, .int .i64 x380009_34] 31 (0, 0)) (by (with_reducible repeat (first | refine blk_drewN ?_ _ | refine blk_drew ?_ | refine blk_alloc ?_ _)); exact BK379.out) hb); have n2_ := Aside0.mk (below_step (by repeat (first | (with_reducible first | exact HB.out | apply below_alloc | apply pw_below_drewN | apply below_drew1 | refine below_set ?_ GE366.out | refine below_set ?_ GE379.out) | exact HB.out)) hb); clear BK366; clear BK379; clear HB; have BK366 := n0_; have BK379 := n1_; have HB := n2_; clear n0_ n1_ n2_; (try clear hb); (try clear hb2); (try clear hk); (try clear hi); obtain ⟨hcz107_0, hcz107_1, hcz107_2, hcz107_3, hcz107_4, hcz107_5, hcz107_6, hcz107_7, hcz107_8, hcz107_9⟩ := cells10 BK379.out; obtain ⟨hfz107_0, hfz107_1, hfz107_2, hfz107_3, hfz107_4, hfz107_5, hfz107_6, hfz107_7, hfz107_8, hfz107_9⟩ := froz10 BK379.out) | (go_at_call 45; (with_reducible refine (tailwaterref25_Written.calls kj34 x380000_34 x380001_34 x380002_34 x380003_34 x380004_34 x380005_34 x380006_34 x380007_34 x380008_34 x380009_34 t394 _ A95.out).mono ?_); rintro e w108 ⟨rfl, hb⟩; have n0_ := Aside0.mk (blk_below (g := gb366) (o := .cells #[.int .u8 0, .int .i64 0, .int .i64 0, .int .i64 0, .int .i64 0, .int .i64 0, .int .i64 0, .int .i64 0, .int .i64 0, .int .i64 0] 31 (0, 0)) (by (with_reducible repeat (first | refine blk_drewN ?_ _ | refine blk_drew ?_ | refine blk_alloc ?_ _)); exact BK366.out) hb); have n1_ := Aside0.mk (blk_below (g := gb379) (o := .cells #[.int .u8 x380000_34, .int .i64 x380001_34, .int .i64 x380002_34, .int .i64 x380003_34, .int .i64 x380004_34, .int .i64 x380005_34, .int .i64 x380006_34, .int .i64 x380007_34, .int .i64 x380008_34, .int .i64 x380009_34] 31 (0, 0)) (by (with_reducible repeat (first | refine blk_drewN ?_ _ | refine blk_drew ?_ | refine blk_alloc ?_ _)); exact BK379.out) hb); have n2_ := Aside0.mk (below_step (by repeat (first | (with_reducible first | exact HB.out | apply below_alloc | apply pw_below_drewN | apply below_drew1 | refine below_set ?_ GE366.out | refine below_set ?_ GE379.out) | exact HB.out)) hb); clear BK366; clear BK379; clear HB; have BK366 := n0_; have BK379 := n1_; have HB := n2_; clear n0_ n1_ n2_; (try clear hb); (try clear hb2); (try clear hk); (try clear hi); obtain ⟨hcz109_0, hcz109_1, hcz109_2, hcz109_3, hcz109_4, hcz109_5, hcz109_6, hcz109_7, hcz109_8, hcz109_9⟩ := cells10 BK366.out; obtain ⟨hfz109_0, hfz109_1, hfz109_2, hfz109_3, hfz109_4, hfz109_5, hfz109_6, hfz109_7, hfz109_8, hfz109_9⟩ := froz10 BK366.out))
                        refine bodyPost_ret (results_ct rfl _ _ gb366 31 #[.int .u8 0, .int .i64 0, .int .i64 0, .int .i64 0, .int .i64 0, .int .i64 0, .int .i64 0, .int .i64 0, .int .i64 0, .int .i64 0] (0, 0) _ rfl (by (with_reducible repeat (first | refine blk_drewN ?_ _ | refine blk_drew ?_ | refine blk_alloc ?_ _)); refine blk_put (cs := #[.int .u8 0, .int .i64 0, .int .i64 0, .int .i64 0, .int .i64 0, .int .i64 0, .int .i64 0, .int .i64 0, .int .i64 0, .int .i64 0]) ?_ 9 _ rfl; (with_reducible repeat (first | refine blk_drewN ?_ _ | refine blk_drew ?_ | refine blk_alloc ?_ _)); refine blk_put (cs := #[.int .u8 0, .int .i64 0, .int .i64 0, .int .i64 0, .int .i64 0, .int .i64 0, .int .i64 0, .int .i64 0, .int .i64 0, .int .i64 0]) ?_ 8 _ rfl; (with_reducible repeat (first | refine blk_drewN ?_ _ | refine blk_drew ?_ | refine blk_alloc ?_ _)); refine blk_put (cs := #[.int .u8 0, .int .i64 0, .int .i64 0, .int .i64 0, .int .i64 0, .int .i64 0, .int .i64 0, .int .i64 0, .int .i64 0, .int .i64 0]) ?_ 7 _ rfl; (with_reducible repeat (first | refine blk_drewN ?_ _ | refine blk_drew ?_ | refine blk_alloc ?_ _)); refine blk_put (cs := #[.int .u8 0, .int .i64 0, .int .i64 0, .int .i64 0, .int .i64 0, .int .i64 0, .int .i64 0, .int .i64 0, .int .i64 0, .int .i64 0]) ?_ 6 _ rfl; (with_reducible repeat (first | refine blk_drewN ?_ _ | refine blk_drew ?_ | refine blk_alloc ?_ _)); refine blk_put (cs := #[.int .u8 0, .int .i64 0, .int .i64 0, .int .i64 0, .int .i64 0, .int .i64 0, .int .i64 0, .int .i64 0, .int .i64 0, .int .i64 0]) ?_ 5 _ rfl; (with_reducible repeat (first | refine blk_drewN ?_ _ | refine blk_drew ?_ | refine blk_alloc ?_ _)); refine blk_put (cs := #[.int .u8 0, .int .i64 0, .int .i64 0, .int .i64 0, .int .i64 0, .int .i64 0, .int .i64 0, .int .i64 0, .int .i64 0, .int .i64 0]) ?_ 4 _ rfl; (with_reducible repeat (first | refine blk_drewN ?_ _ | refine blk_drew ?_ | refine blk_alloc ?_ _)); refine blk_put (cs := #[.int .u8 0, .int .i64 0, .int .i64 0, .int .i64 0, .int .i64 0, .int .i64 0, .int .i64 0, .int .i64 0, .int .i64 0, .int .i64 0]) ?_ 3 _ rfl; (with_reducible repeat (first | refine blk_drewN ?_ _ | refine blk_drew ?_ | refine blk_alloc ?_ _)); refine blk_put (cs := #[.int .u8 0, .int .i64 0, .int .i64 0, .int .i64 0, .int .i64 0, .int .i64 0, .int .i64 0, .int .i64 0, .int .i64 0, .int .i64 0]) ?_ 2 _ rfl; (with_reducible repeat (first | refine blk_drewN ?_ _ | refine blk_drew ?_ | refine blk_alloc ?_ _)); refine blk_put (cs := #[.int .u8 0, .int .i64 0, .int .i64 0, .int .i64 0, .int .i64 0, .int .i64 0, .int .i64 0, .int .i64 0, .int .i64 0, .int .i64 0]) ?_ 1 _ rfl; (with_reducible repeat (first | refine blk_drewN ?_ _ | refine blk_drew ?_ | refine blk_alloc ?_ _)); refine blk_put (cs := #[.int .u8 0, .int .i64 0, .int .i64 0, .int .i64 0, .int .i64 0, .int .i64 0, .int .i64 0, .int .i64 0, .int .i64 0, .int .i64 0]) ?_ 0 _ rfl; (with_reducible repeat (first | refine blk_drewN ?_ _ | refine blk_drew ?_ | refine blk_alloc ?_ _)); exact BK366.out) Tryd.underlying31 rfl (by kernel_rfl)) rfl ?_
                        exact ⟨by first | rfl | (simp [errW_none, errW_some] <;> rfl) | (simp [*, errW_none, errW_some] <;> rfl), by repeat (first | (with_reducible first | exact HB.out | apply below_alloc | apply pw_below_drewN | apply below_drew1 | refine below_set ?_ GE366.out | refine below_set ?_ GE379.out) | exact HB.out)⟩
                    · replace c94 := Bool.eq_false_iff.mpr c94
                      subst c94
                      have H1 : (some (0, 0, 0, 0, 0, 0, 0, 0, 0, 0, 12)) = some (r1, r2, r3, r4, r5, r6, r7, r8, r9, r10, r11) := by rw [if_neg (show ¬ (false = true) by decide)] at H; exact H
                      clear H
                      have H := H1
                      clear H1
                      simp only [Option.some.injEq, Prod.mk.injEq] at H
                      obtain ⟨rfl, rfl, rfl, rfl, rfl, rfl, rfl, rfl, rfl, rfl, rfl⟩ := H
                      have hnb110 := NB379_366.out
                      have hnc110 := NB366_379.out
                      obtain ⟨hcz111_0, hcz111_1, hcz111_2, hcz111_3, hcz111_4, hcz111_5, hcz111_6, hcz111_7, hcz111_8, hcz111_9⟩ := cells10 BK379.out
                      obtain ⟨hfz111_0, hfz111_1, hfz111_2, hfz111_3, hfz111_4, hfz111_5, hfz111_6, hfz111_7, hfz111_8, hfz111_9⟩ := froz10 BK379.out
                      go_wp2_with (first | ((with_reducible refine gate_callee (f := 44) rfl ?_); refine goesL_ (some 111) rfl rfl Tryd.func44 (by kernel_rfl) rfl #[.agg #[.int .u8 x380000_34, .int .i64 x380001_34, .int .i64 x380002_34, .int .i64 x380003_34, .int .i64 x380004_34, .int .i64 x380005_34, .int .i64 x380006_34, .int .i64 x380007_34, .int .i64 x380008_34, .int .i64 x380009_34]] rfl (by (try simp only [List.map_toArray, List.map_cons, List.map_nil]); first | done | rfl | (simp only [List.length_drop, List.length_take]; rfl)) ?_; (with_reducible refine (tailwaterref25_Valid.calls kj34 x380000_34 x380001_34 x380002_34 x380003_34 x380004_34 x380005_34 x380006_34 x380007_34 x380008_34 x380009_34 false _ A93.out).mono ?_); rintro e w112 ⟨rfl, hb⟩; refine ⟨_, rfl, ?_⟩; have n0_ := Aside0.mk (blk_below (g := gb366) (o := .cells #[.int .u8 0, .int .i64 0, .int .i64 0, .int .i64 0, .int .i64 0, .int .i64 0, .int .i64 0, .int .i64 0, .int .i64 0, .int .i64 0] 31 (0, 0)) (by (with_reducible repeat (first | refine blk_drewN ?_ _ | refine blk_drew ?_ | refine blk_alloc ?_ _)); exact BK366.out) hb); have n1_ := Aside0.mk (blk_below (g := gb379) (o := .cells #[.int .u8 x380000_34, .int .i64 x380001_34, .int .i64 x380002_34, .int .i64 x380003_34, .int .i64 x380004_34, .int .i64 x380005_34, .int .i64 x380006_34, .int .i64 x380007_34, .int .i64 x380008_34, .int .i64 x380009_34] 31 (0, 0)) (by (with_reducible repeat (first | refine blk_drewN ?_ _ | refine blk_drew ?_ | refine blk_alloc ?_ _)); exact BK379.out) hb); have n2_ := Aside0.mk (below_step (by repeat (first | (with_reducible first | exact HB.out | apply below_alloc | apply pw_below_drewN | apply below_drew1 | refine below_set ?_ GE366.out | refine below_set ?_ GE379.out) | exact HB.out)) hb); clear BK366; clear BK379; clear HB; have BK366 := n0_; have BK379 := n1_; have HB := n2_; clear n0_ n1_ n2_; (try clear hb); (try clear hb2); (try clear hk); (try clear hi); obtain ⟨hcz113_0, hcz113_1, hcz113_2, hcz113_3, hcz113_4, hcz113_5, hcz113_6, hcz113_7, hcz113_8, hcz113_9⟩ := cells10 BK366.out; obtain ⟨hfz113_0, hfz113_1, hfz113_2, hfz113_3, hfz113_4, hfz113_5, hfz113_6, hfz113_7, hfz113_8, hfz113_9⟩ := froz10 BK366.out))
                      refine bodyPost_ret (results_ct rfl _ _ gb366 31 #[.int .u8 0, .int .i64 0, .int .i64 0, .int .i64 0, .int .i64 0, .int .i64 0, .int .i64 0, .int .i64 0, .int .i64 0, .int .i64 0] (0, 0) _ rfl (by (with_reducible repeat (first | refine blk_drewN ?_ _ | refine blk_drew ?_ | refine blk_alloc ?_ _)); refine blk_put (cs := #[.int .u8 0, .int .i64 0, .int .i64 0, .int .i64 0, .int .i64 0, .int .i64 0, .int .i64 0, .int .i64 0, .int .i64 0, .int .i64 0]) ?_ 9 _ rfl; (with_reducible repeat (first | refine blk_drewN ?_ _ | refine blk_drew ?_ | refine blk_alloc ?_ _)); refine blk_put (cs := #[.int .u8 0, .int .i64 0, .int .i64 0, .int .i64 0, .int .i64 0, .int .i64 0, .int .i64 0, .int .i64 0, .int .i64 0, .int .i64 0]) ?_ 8 _ rfl; (with_reducible repeat (first | refine blk_drewN ?_ _ | refine blk_drew ?_ | refine blk_alloc ?_ _)); refine blk_put (cs := #[.int .u8 0, .int .i64 0, .int .i64 0, .int .i64 0, .int .i64 0, .int .i64 0, .int .i64 0, .int .i64 0, .int .i64 0, .int .i64 0]) ?_ 7 _ rfl; (with_reducible repeat (first | refine blk_drewN ?_ _ | refine blk_drew ?_ | refine blk_alloc ?_ _)); refine blk_put (cs := #[.int .u8 0, .int .i64 0, .int .i64 0, .int .i64 0, .int .i64 0, .int .i64 0, .int .i64 0, .int .i64 0, .int .i64 0, .int .i64 0]) ?_ 6 _ rfl; (with_reducible repeat (first | refine blk_drewN ?_ _ | refine blk_drew ?_ | refine blk_alloc ?_ _)); refine blk_put (cs := #[.int .u8 0, .int .i64 0, .int .i64 0, .int .i64 0, .int .i64 0, .int .i64 0, .int .i64 0, .int .i64 0, .int .i64 0, .int .i64 0]) ?_ 5 _ rfl; (with_reducible repeat (first | refine blk_drewN ?_ _ | refine blk_drew ?_ | refine blk_alloc ?_ _)); refine blk_put (cs := #[.int .u8 0, .int .i64 0, .int .i64 0, .int .i64 0, .int .i64 0, .int .i64 0, .int .i64 0, .int .i64 0, .int .i64 0, .int .i64 0]) ?_ 4 _ rfl; (with_reducible repeat (first | refine blk_drewN ?_ _ | refine blk_drew ?_ | refine blk_alloc ?_ _)); refine blk_put (cs := #[.int .u8 0, .int .i64 0, .int .i64 0, .int .i64 0, .int .i64 0, .int .i64 0, .int .i64 0, .int .i64 0, .int .i64 0, .int .i64 0]) ?_ 3 _ rfl; (with_reducible repeat (first | refine blk_drewN ?_ _ | refine blk_drew ?_ | refine blk_alloc ?_ _)); refine blk_put (cs := #[.int .u8 0, .int .i64 0, .int .i64 0, .int .i64 0, .int .i64 0, .int .i64 0, .int .i64 0, .int .i64 0, .int .i64 0, .int .i64 0]) ?_ 2 _ rfl; (with_reducible repeat (first | refine blk_drewN ?_ _ | refine blk_drew ?_ | refine blk_alloc ?_ _)); refine blk_put (cs := #[.int .u8 0, .int .i64 0, .int .i64 0, .int .i64 0, .int .i64 0, .int .i64 0, .int .i64 0, .int .i64 0, .int .i64 0, .int .i64 0]) ?_ 1 _ rfl; (with_reducible repeat (first | refine blk_drewN ?_ _ | refine blk_drew ?_ | refine blk_alloc ?_ _)); refine blk_put (cs := #[.int .u8 0, .int .i64 0, .int .i64 0, .int .i64 0, .int .i64 0, .int .i64 0, .int .i64 0, .int .i64 0, .int .i64 0, .int .i64 0]) ?_ 0 _ rfl; (with_reducible repeat (first | refine blk_drewN ?_ _ | refine blk_drew ?_ | refine blk_alloc ?_ _)); exact BK366.out) Tryd.underlying31 rfl (by kernel_rfl)) rfl ?_
                      exact ⟨by first | rfl | (simp [errW_none, errW_some] <;> rfl) | (simp [*, errW_none, errW_some] <;> rfl), by repeat (first | (with_reducible first | exact HB.out | apply below_alloc | apply pw_below_drewN | apply below_drew1 | refine below_set ?_ GE366.out | refine below_set ?_ GE379.out) | exact HB.out)⟩
              · rw [if_neg c34] at H
                exact absurd H (by simp)
        · rw [if_neg c19] at H
          exact absurd H (by simp)

end Go.Proofs.YtdcigijklknjaaaDoor.Mw
