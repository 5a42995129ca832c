/- A message and an event, laid open: ten cells, five cells. -/
import Derived.Test.YtdcigijklknjaaaDoorOpen
import Derived.Lib.SmallJoins
import Derived.Test.YtdcigijklknjaaaDoorLaid
import Derived.Deep.Strs
import Derived.ChangeSame
namespace Go.Proofs.YtdcigijklknjaaaDoor
open Go.ChangeShapes Go.WideShapes Go.ChangeAt Go.RowKit Go.Joins
set_option maxRecDepth 100000
section
variable {H : Type} {enc : TypeId × Value → H} {w : World} {base : Nat} {spare : Nat → Bool} {held : Bool}
theorem cells2 : Tryd.prog.cellsOf 2 = 1 := by kernel_rfl
theorem cells4' : Tryd.prog.cellsOf 4 = 1 := by kernel_rfl
theorem cells5 : Tryd.prog.cellsOf 5 = 1 := by kernel_rfl
theorem cells29 : Tryd.prog.cellsOf 29 = 3 := by kernel_rfl
theorem cells26 : Tryd.prog.cellsOf 26 = 5 := by kernel_rfl
theorem cells23 : Tryd.prog.cellsOf 23 = 2 := by kernel_rfl
theorem cells24 : Tryd.prog.cellsOf 24 = 2 := by kernel_rfl
theorem cells31 : Tryd.prog.cellsOf 31 = 10 := by kernel_rfl
theorem cells37 : Tryd.prog.cellsOf 37 = 5 := by kernel_rfl
theorem ten_list {α : Type} : ∀ (l : List α), l.length = 10 → ∃ c0 c1 c2 c3 c4 c5 c6 c7 c8 c9, l = [c0, c1, c2, c3, c4, c5, c6, c7, c8, c9]
  | [c0, c1, c2, c3, c4, c5, c6, c7, c8, c9], _ => ⟨c0, c1, c2, c3, c4, c5, c6, c7, c8, c9, rfl⟩
theorem five_list {α : Type} : ∀ (l : List α), l.length = 5 → ∃ c0 c1 c2 c3 c4, l = [c0, c1, c2, c3, c4]
  | [c0, c1, c2, c3, c4], _ => ⟨c0, c1, c2, c3, c4, rfl⟩
theorem leaf_bool {P : Program} {fuel : Nat} {t : TypeId} {v : Value} {y : DataW H × List MemPlace} (ht : P.underlying t = some .bool) (h : DataW.trod enc P w base spare held fuel t [v] = some y) : ∃ b : Bool, v = .bool b := by
  cases fuel with
  | zero => simp [DataW.trod] at h
  | succ m =>
    unfold DataW.trod at h
    rw [ht] at h
    split at h <;> simp_all
theorem trod_array2 {P : Program} {t e : TypeId} {fuel : Nat} {c0 c1 : Value} {x : DataW H × List MemPlace} (ht : P.underlying t = some (.array 2 e)) (hce : P.cellsOf e = 1)
    (h : DataW.trod enc P w base spare held fuel t [c0, c1] = some x) : ∃ y0 y1 n, DataW.trod enc P w base spare held n e [c0] = some y0 ∧ DataW.trod enc P w base spare held n e [c1] = some y1 := by
  cases fuel with
  | zero => simp [DataW.trod] at h
  | succ n =>
    unfold DataW.trod at h
    rw [ht] at h
    have r2 : List.range 2 = [0, 1] := rfl
    simp only [hce, r2, List.mapM_cons, List.mapM_nil] at h
    split at h
    · cases t0 : DataW.trod enc P w base spare held n e [c0] with
      | none => simp [t0] at h
      | some y0 =>
        cases t1 : DataW.trod enc P w base spare held n e [c1] with
        | none => simp [t0, t1] at h
        | some y1 => exact ⟨y0, y1, n, t0, t1⟩
    · cases h
theorem rec3 {fuel : Nat} {c0 c1 c2 : Value} {y : DataW H × List MemPlace} (h : DataW.trod enc Tryd.prog w base spare held fuel 29 [c0, c1, c2] = some y) :
    ∃ a0 a1 a2 : Int, (c0 = .int .i64 a0 ∧ c1 = .int .i64 a1 ∧ c2 = .int .i64 a2) ∧ (Lit.int .i64 a0).wf = true ∧ (Lit.int .i64 a1).wf = true ∧ (Lit.int .i64 a2).wf = true := by
  obtain ⟨y0, y1, y2, n, _, _, t0, t1, t2⟩ := Go.Deep.trod_struct3 Tryd.underlying29 h
  simp only [cells2, List.drop_succ_cons, List.drop_zero, List.take_succ_cons, List.take_zero] at t0 t1 t2
  obtain ⟨a0, rfl, w0⟩ := leaf_int Tryd.underlying2 t0
  obtain ⟨a1, rfl, w1⟩ := leaf_int Tryd.underlying2 t1
  obtain ⟨a2, rfl, w2⟩ := leaf_int Tryd.underlying2 t2
  exact ⟨a0, a1, a2, ⟨rfl, rfl, rfl⟩, w0, w1, w2⟩
theorem span2 {fuel : Nat} {c0 c1 : Value} {y : DataW H × List MemPlace} (h : DataW.trod enc Tryd.prog w base spare held fuel 23 [c0, c1] = some y) :
    ∃ a0 a1 : Int, (c0 = .int .i64 a0 ∧ c1 = .int .i64 a1) ∧ (Lit.int .i64 a0).wf = true ∧ (Lit.int .i64 a1).wf = true := by
  obtain ⟨y0, y1, n, _, _, t0, t1⟩ := trod_struct2 Tryd.underlying23 h
  simp only [cells2, List.drop_succ_cons, List.drop_zero, List.take_succ_cons, List.take_zero] at t0 t1
  obtain ⟨a0, rfl, w0⟩ := leaf_int Tryd.underlying2 t0
  obtain ⟨a1, rfl, w1⟩ := leaf_int Tryd.underlying2 t1
  exact ⟨a0, a1, ⟨rfl, rfl⟩, w0, w1⟩
theorem arr2 {fuel : Nat} {c0 c1 : Value} {y : DataW H × List MemPlace} (h : DataW.trod enc Tryd.prog w base spare held fuel 24 [c0, c1] = some y) :
    ∃ a0 a1 : Int, (c0 = .int .i64 a0 ∧ c1 = .int .i64 a1) ∧ (Lit.int .i64 a0).wf = true ∧ (Lit.int .i64 a1).wf = true := by
  obtain ⟨y0, y1, n, t0, t1⟩ := trod_array2 Tryd.underlying24 cells2 h
  obtain ⟨a0, rfl, w0⟩ := leaf_int Tryd.underlying2 t0
  obtain ⟨a1, rfl, w1⟩ := leaf_int Tryd.underlying2 t1
  exact ⟨a0, a1, ⟨rfl, rfl⟩, w0, w1⟩
theorem open_msg {r : Reach} {b0 : Nat} {v : Value} {d : DataW H} {p : List MemPlace} (hv : Value.okWide Tryd.prog w r b0 31 v) (h : DataW.Trod enc Tryd.prog w base spare held 31 v d p) :
    ∃ a0 a1 a2 a3 a4 a5 a6 a7 a8 a9 : Int, v = .agg #[.int .u8 a0, .int .i64 a1, .int .i64 a2, .int .i64 a3, .int .i64 a4, .int .i64 a5, .int .i64 a6, .int .i64 a7, .int .i64 a8, .int .i64 a9] ∧
      (Lit.int .u8 a0).wf = true ∧ (Lit.int .i64 a1).wf = true ∧ (Lit.int .i64 a2).wf = true ∧ (Lit.int .i64 a3).wf = true ∧ (Lit.int .i64 a4).wf = true ∧ (Lit.int .i64 a5).wf = true ∧ (Lit.int .i64 a6).wf = true ∧ (Lit.int .i64 a7).wf = true ∧ (Lit.int .i64 a8).wf = true ∧ (Lit.int .i64 a9).wf = true := by
  obtain ⟨⟨l⟩, rfl, hsz⟩ := okWide_struct Tryd.underlying31 hv
  obtain ⟨c0, c1, c2, c3, c4, c5, c6, c7, c8, c9, rfl⟩ := ten_list l (hsz.trans cells31)
  obtain ⟨fuel, hf⟩ := h
  have hf' : DataW.trod enc Tryd.prog w base spare held fuel 31 [c0, c1, c2, c3, c4, c5, c6, c7, c8, c9] = some (d, p) := hf
  obtain ⟨y0, y1, y2, y3, n, _, _, t0, t1, t2, t3⟩ := trod_struct4 Tryd.underlying31 hf'
  simp only [cells5, cells29, cells2, cells26, List.drop_succ_cons, List.drop_zero, List.take_succ_cons, List.take_zero] at t0 t1 t2 t3
  obtain ⟨a0, rfl, w0⟩ := leaf_int Tryd.underlying5 t0
  obtain ⟨a1, a2, a3, ⟨rfl, rfl, rfl⟩, w1, w2, w3⟩ := rec3 t1
  obtain ⟨a4, rfl, w4⟩ := leaf_int Tryd.underlying2 t2
  obtain ⟨z0, z1, z2, m, _, _, s0, s1, s2⟩ := Go.Deep.trod_struct3 Tryd.underlying26 t3
  simp only [cells2, cells23, cells24, List.drop_succ_cons, List.drop_zero, List.take_succ_cons, List.take_zero] at s0 s1 s2
  obtain ⟨a5, rfl, w5⟩ := leaf_int Tryd.underlying2 s0
  obtain ⟨a6, a7, ⟨rfl, rfl⟩, w6, w7⟩ := span2 s1
  obtain ⟨a8, a9, ⟨rfl, rfl⟩, w8, w9⟩ := arr2 s2
  exact ⟨a0, a1, a2, a3, a4, a5, a6, a7, a8, a9, rfl, w0, w1, w2, w3, w4, w5, w6, w7, w8, w9⟩
theorem open_ev {r : Reach} {b0 : Nat} {v : Value} {d : DataW H} {p : List MemPlace} (hv : Value.okWide Tryd.prog w r b0 37 v) (h : DataW.Trod enc Tryd.prog w base spare held 37 v d p) :
    ∃ (a0 : Bool) (a1 a2 a3 a4 : Int), v = .agg #[.bool a0, .int .i64 a1, .int .i64 a2, .int .i64 a3, .int .i64 a4] ∧
      (Lit.int .i64 a1).wf = true ∧ (Lit.int .i64 a2).wf = true ∧ (Lit.int .i64 a3).wf = true ∧ (Lit.int .i64 a4).wf = true := by
  obtain ⟨⟨l⟩, rfl, hsz⟩ := okWide_struct Tryd.underlying37 hv
  obtain ⟨c0, c1, c2, c3, c4, rfl⟩ := five_list l (hsz.trans cells37)
  obtain ⟨fuel, hf⟩ := h
  have hf' : DataW.trod enc Tryd.prog w base spare held fuel 37 [c0, c1, c2, c3, c4] = some (d, p) := hf
  obtain ⟨y0, y1, y2, n, _, _, t0, t1, t2⟩ := Go.Deep.trod_struct3 Tryd.underlying37 hf'
  simp only [cells4', cells29, cells2, List.drop_succ_cons, List.drop_zero, List.take_succ_cons, List.take_zero] at t0 t1 t2
  obtain ⟨a0, rfl⟩ := leaf_bool Tryd.underlying4 t0
  obtain ⟨a1, rfl, w1⟩ := leaf_int Tryd.underlying2 t1
  obtain ⟨a2, a3, a4, ⟨rfl, rfl, rfl⟩, w2, w3, w4⟩ := rec3 t2
  exact ⟨a0, a1, a2, a3, a4, rfl, w1, w2, w3, w4⟩
end
/-- A start that meets the three. -/
theorem start3_shaped (os : Os) (args : Array Value) : ((World.laidAll Tryd.prog os laid3).forCall (fun _ _ => 0) ⟨#[], args, []⟩).Shaped Tryd.prog :=
  World.shaped_of_ZipB (by kernel_rfl) (by kernel_rfl)
theorem start3_met (os : Os) (args : Array Value) : laidMetH Tryd.prog laid3 ((World.laidAll Tryd.prog os laid3).forCall (fun _ _ => 0) ⟨#[], args, []⟩).memory := by
  rw [MakeChecks.laidMetH_plain _ _ _ (by kernel_rfl)]; exact laidMet_laidAll _ (by kernel_rfl) (by kernel_rfl)
end Go.Proofs.YtdcigijklknjaaaDoor
