/- Each theorem X.calls below says: where the Lean function X.f answers, the Go function X returns that answer, and whatever lay in memory before the call is left as it was. -/
import Derived.Test.YtdcigijklknjaaaDoorMyx0
import Derived.Test.YtdcigijklknjaaaDoorMyx1
import Derived.Test.YtdcigijklknjaaaDoorMyx4
import Derived.Test.YtdcigijklknjaaaDoorMyx8
import Derived.Test.YtdcigijklknjaaaDoorMyx10
import Derived.Test.YtdcigijklknjaaaDoorMyx11
namespace Go.Proofs.YtdcigijklknjaaaDoor.My
open Go.RowKit Go.Proofs.YtdcigijklknjaaaDoorW.PrintWords Go.Proofs.YtdcigijklknjaaaDoorW.PrintLast Go.Proofs.YtdcigijklknjaaaDoorW.PrintMore
attribute [local go_sem] max2_int min2_int max_two min_two max_three min_three max_four min_four   -- for this text's walks alone
set_option linter.unusedVariables false
set_option linter.unusedSimpArgs false

/-! ### tailwaterlaw01_IntsNames: function 11 -/
mutual
def tailwaterlaw01_IntsNames.j0 : Nat → Bool → Option (Bool)
  | 0, _ => none
  | k + 1, x1 => tailwaterlaw01_IntsNames.l0 k x1 (([(⟨1, 0, 0⟩ : S65), (⟨1, 1, 0⟩ : S65), (⟨0, 0, 1⟩ : S65), (⟨0, 1, 1⟩ : S65), (⟨0, 1, 0⟩ : S65), (⟨1, 0, 1⟩ : S65)] : List (S65))) 0
def tailwaterlaw01_IntsNames.l0 : Nat → Bool → List (S65) → Int → Option (Bool)
  | 0, _, _, _ => none
  | k + 1, x1, x2, x3 => if x3 < 6 then (if 0 ≤ x3 then (if x3 < (x2.length : Int) then ((tailwaterlaw01_gives.f ((12 + ((x3) % 256)) % 256) 1 2 ((rd_T65 x2 x3).f0)).bind fun t249 => (if t249 = true then ((tailwaterlaw01_gives.f ((12 + ((x3) % 256)) % 256) 2 2 ((rd_T65 x2 x3).f1)).bind fun t251 => (if t251 = true then ((tailwaterlaw01_gives.f ((12 + ((x3) % 256)) % 256) 2 1 ((rd_T65 x2 x3).f2)).bind fun t253 => (if t253 = true then (tailwaterlaw01_IntsNames.l0 k x1 x2 (wrap64 (x3 + 1))) else (some false))) else (some false))) else (some false))) else (none)) else (none)) else (tailwaterlaw01_IntsNames.l1 k x1 (([0, 1, 4, 20, 255] : List Int)) 0)
def tailwaterlaw01_IntsNames.l1 : Nat → Bool → List Int → Int → Option (Bool)
  | 0, _, _, _ => none
  | k + 1, x1, x5, x6 => if x6 < (x5.length : Int) then (if 0 ≤ x6 then ((ints_Do.f (rd x5 x6) 1 1).bind fun bt258 => (if bt258.2 = 2 then (tailwaterlaw01_IntsNames.l1 k x1 x5 (wrap64 (x6 + 1))) else (some false))) else (none)) else (tailwaterlaw01_IntsNames.l2 k x1 (([(⟨#[]⟩ : ByteArray), (⟨#[45, 49]⟩ : ByteArray), (⟨#[43, 49]⟩ : ByteArray), (⟨#[32, 49]⟩ : ByteArray), (⟨#[49, 32]⟩ : ByteArray), (⟨#[49, 95, 48]⟩ : ByteArray), (⟨#[48, 120, 49]⟩ : ByteArray), (⟨#[49, 46]⟩ : ByteArray), (⟨#[97]⟩ : ByteArray), (⟨#[0, 49]⟩ : ByteArray)] : List ByteArray)) 0)
def tailwaterlaw01_IntsNames.l2 : Nat → Bool → List ByteArray → Int → Option (Bool)
  | 0, _, _, _ => none
  | k + 1, x1, x9, x10 => if x10 < (x9.length : Int) then (if 0 ≤ x10 then ((ints_Read.f (rdOf ByteArray.empty x9 x10)).bind fun bt264 => (if bt264.2 = 12 then (tailwaterlaw01_IntsNames.l2 k x1 x9 (wrap64 (x10 + 1))) else (some false))) else (none)) else ((ints_Read.f (⟨#[57, 50, 50, 51, 51, 55, 50, 48, 51, 54, 56, 53, 52, 55, 55, 53, 56, 48, 55]⟩ : ByteArray)).bind fun bt266 => ((ints_Read.f (⟨#[57, 50, 50, 51, 51, 55, 50, 48, 51, 54, 56, 53, 52, 55, 55, 53, 56, 48, 56]⟩ : ByteArray)).bind fun bt268 => ((ints_Read.f (⟨#[57, 57, 57, 57, 57, 57, 57, 57, 57, 57, 57, 57, 57, 57, 57, 57, 57, 57, 57, 57, 57, 57, 57]⟩ : ByteArray)).bind fun bt270 => ((ints_Read.f (⟨#[48, 48, 48, 48, 48, 48, 48, 48, 48, 48, 48, 48, 48, 48, 48, 48, 48, 48, 48, 48, 48, 48, 48, 48, 48, 48, 48, 49, 50]⟩ : ByteArray)).bind fun bt272 => (if x1 = true then (if bt266.2 = 0 then (if bt266.1 = 9223372036854775807 then (if bt268.2 = 16 then (if bt270.2 = 16 then (if bt272.2 = 0 then (if bt272.1 = 12 then ((ints_Text.f (-9223372036854775808)).bind fun t274 => (if t274.toList = ([45, 57, 50, 50, 51, 51, 55, 50, 48, 51, 54, 56, 53, 52, 55, 55, 53, 56, 48, 56] : List UInt8) then ((ints_Text.f 0).bind fun t275 => (if t275.toList = ([48] : List UInt8) then ((tailwaterlaw01_alive.f).bind fun t276 => (some t276)) else (some false))) else (some false))) else (some false)) else (some false)) else (some false)) else (some false)) else (some false)) else (some false)) else (some false))))))
end
def tailwaterlaw01_IntsNames.f (k : Nat)  : Option (Bool) := (tailwaterlaw01_gives.f 5 5 9 (-5)).bind fun t231 => (if t231 = true then ((tailwaterlaw01_gives.f 5 (-9223372036854775808) 0 (-9223372036854775808)).bind fun t232 => (if t232 = true then ((tailwaterlaw01_gives.f 6 0 9 1).bind fun t233 => (if t233 = true then ((tailwaterlaw01_gives.f 6 (-3) 0 0).bind fun t234 => (if t234 = true then ((tailwaterlaw01_gives.f 7 3037000500 3037000500 (-9223372036709301616)).bind fun t235 => (if t235 = true then ((tailwaterlaw01_gives.f 9 (-9223372036854775808) 1 9223372036854775807).bind fun t236 => (if t236 = true then ((tailwaterlaw01_gives.f 10 3 63 (-9223372036854775808)).bind fun t237 => (if t237 = true then ((tailwaterlaw01_gives.f 11 (-9223372036854775808) 63 (-1)).bind fun t238 => (if t238 = true then ((tailwaterlaw01_gives.f 10 7 0 7).bind fun t239 => (if t239 = true then ((tailwaterlaw01_gives.f 11 7 64 7).bind fun t240 => (if t240 = true then ((tailwaterlaw01_gives.f 18 2 4 1).bind fun t241 => (if t241 = true then ((tailwaterlaw01_gives.f 18 2 0 0).bind fun t242 => (if t242 = true then ((tailwaterlaw01_gives.f 19 0 0 0).bind fun t243 => (if t243 = true then ((tailwaterlaw01_gives.f 19 0 (-1) 1).bind fun t244 => (tailwaterlaw01_IntsNames.j0 k t244)) else (tailwaterlaw01_IntsNames.j0 k false))) else (tailwaterlaw01_IntsNames.j0 k false))) else (tailwaterlaw01_IntsNames.j0 k false))) else (tailwaterlaw01_IntsNames.j0 k false))) else (tailwaterlaw01_IntsNames.j0 k false))) else (tailwaterlaw01_IntsNames.j0 k false))) else (tailwaterlaw01_IntsNames.j0 k false))) else (tailwaterlaw01_IntsNames.j0 k false))) else (tailwaterlaw01_IntsNames.j0 k false))) else (tailwaterlaw01_IntsNames.j0 k false))) else (tailwaterlaw01_IntsNames.j0 k false))) else (tailwaterlaw01_IntsNames.j0 k false))) else (tailwaterlaw01_IntsNames.j0 k false))
theorem tailwaterlaw01_IntsNames.mono_l : ∀ k, (∀ y0, LeO (tailwaterlaw01_IntsNames.j0 k y0) (tailwaterlaw01_IntsNames.j0 (k + 1) y0)) ∧ (∀ y0 y1 y2, LeO (tailwaterlaw01_IntsNames.l0 k y0 y1 y2) (tailwaterlaw01_IntsNames.l0 (k + 1) y0 y1 y2)) ∧ (∀ y0 y1 y2, LeO (tailwaterlaw01_IntsNames.l1 k y0 y1 y2) (tailwaterlaw01_IntsNames.l1 (k + 1) y0 y1 y2)) ∧ (∀ y0 y1 y2, LeO (tailwaterlaw01_IntsNames.l2 k y0 y1 y2) (tailwaterlaw01_IntsNames.l2 (k + 1) y0 y1 y2))
  | 0 => ⟨fun _ r h => by simp [tailwaterlaw01_IntsNames.j0] at h, fun _ _ _ r h => by simp [tailwaterlaw01_IntsNames.l0] at h, fun _ _ _ r h => by simp [tailwaterlaw01_IntsNames.l1] at h, fun _ _ _ r h => by simp [tailwaterlaw01_IntsNames.l2] at h⟩
  | k + 1 => by
    obtain ⟨ih0, ih1, ih2, ih3⟩ := tailwaterlaw01_IntsNames.mono_l k
    refine ⟨?_, ?_, ?_, ?_⟩
    · intro y0
      unfold tailwaterlaw01_IntsNames.j0
      repeat' first
      | (with_reducible exact ih0 _)
      | (with_reducible exact ih1 _ _ _)
      | (with_reducible exact ih2 _ _ _)
      | (with_reducible exact ih3 _ _ _)
      | (with_reducible exact LeO.refl _)
      | (with_reducible exact LeO.none _)
      | (with_reducible refine LeO.ite ?_ ?_)
      | (with_reducible refine LeO.bind ?_ (fun _ => ?_))
      | exact ih0 _
      | exact ih1 _ _ _
      | exact ih2 _ _ _
      | exact ih3 _ _ _
      | exact LeO.none _
      | refine LeO.ite ?_ ?_
      | refine LeO.bind ?_ (fun _ => ?_)
    · intro y0 y1 y2
      unfold tailwaterlaw01_IntsNames.l0
      repeat' first
      | (with_reducible exact ih0 _)
      | (with_reducible exact ih1 _ _ _)
      | (with_reducible exact ih2 _ _ _)
      | (with_reducible exact ih3 _ _ _)
      | (with_reducible exact LeO.refl _)
      | (with_reducible exact LeO.none _)
      | (with_reducible refine LeO.ite ?_ ?_)
      | (with_reducible refine LeO.bind ?_ (fun _ => ?_))
      | exact ih0 _
      | exact ih1 _ _ _
      | exact ih2 _ _ _
      | exact ih3 _ _ _
      | exact LeO.none _
      | refine LeO.ite ?_ ?_
      | refine LeO.bind ?_ (fun _ => ?_)
    · intro y0 y1 y2
      unfold tailwaterlaw01_IntsNames.l1
      repeat' first
      | (with_reducible exact ih0 _)
      | (with_reducible exact ih1 _ _ _)
      | (with_reducible exact ih2 _ _ _)
      | (with_reducible exact ih3 _ _ _)
      | (with_reducible exact LeO.refl _)
      | (with_reducible exact LeO.none _)
      | (with_reducible refine LeO.ite ?_ ?_)
      | (with_reducible refine LeO.bind ?_ (fun _ => ?_))
      | exact ih0 _
      | exact ih1 _ _ _
      | exact ih2 _ _ _
      | exact ih3 _ _ _
      | exact LeO.none _
      | refine LeO.ite ?_ ?_
      | refine LeO.bind ?_ (fun _ => ?_)
    · intro y0 y1 y2
      unfold tailwaterlaw01_IntsNames.l2
      repeat' first
      | (with_reducible exact ih0 _)
      | (with_reducible exact ih1 _ _ _)
      | (with_reducible exact ih2 _ _ _)
      | (with_reducible exact ih3 _ _ _)
      | (with_reducible exact LeO.refl _)
      | (with_reducible exact LeO.none _)
      | (with_reducible refine LeO.ite ?_ ?_)
      | (with_reducible refine LeO.bind ?_ (fun _ => ?_))
      | exact ih0 _
      | exact ih1 _ _ _
      | exact ih2 _ _ _
      | exact ih3 _ _ _
      | exact LeO.none _
      | refine LeO.ite ?_ ?_
      | refine LeO.bind ?_ (fun _ => ?_)
theorem tailwaterlaw01_IntsNames.mono : ∀ k, LeO (tailwaterlaw01_IntsNames.f k ) (tailwaterlaw01_IntsNames.f (k + 1) ) := by
  intro  k
  obtain ⟨ih0, ih1, ih2, ih3⟩ := tailwaterlaw01_IntsNames.mono_l k
  unfold tailwaterlaw01_IntsNames.f
  repeat' first
      | (with_reducible exact ih0 _)
      | (with_reducible exact ih1 _ _ _)
      | (with_reducible exact ih2 _ _ _)
      | (with_reducible exact ih3 _ _ _)
      | (with_reducible exact LeO.refl _)
      | (with_reducible exact LeO.none _)
      | (with_reducible refine LeO.ite ?_ ?_)
      | (with_reducible refine LeO.bind ?_ (fun _ => ?_))
      | exact ih0 _
      | exact ih1 _ _ _
      | exact ih2 _ _ _
      | exact ih3 _ _ _
      | exact LeO.none _
      | refine LeO.ite ?_ ?_
      | refine LeO.bind ?_ (fun _ => ?_)
set_option maxHeartbeats 8000000 in
set_option maxRecDepth 100000 in
theorem tailwaterlaw01_IntsNames.calls (k : Nat)  (w : World) (hT : TabG w) (h : tailwaterlaw01_IntsNames.f k  = some true) :
    Calls Tryd.prog 11 #[] w fun e w' => e = .returned (.bool true) ∧ Below w.heap.size w w' := by
  have hu65 := Tryd.underlying65
  have HB := Aside0.mk (Below.refl w.heap.size w)
  have HT0 := Aside0.mk hT
  clear hT
  have H : ((tailwaterlaw01_gives.f 5 5 9 (-5)).bind fun t231 => (if t231 = true then ((tailwaterlaw01_gives.f 5 (-9223372036854775808) 0 (-9223372036854775808)).bind fun t232 => (if t232 = true then ((tailwaterlaw01_gives.f 6 0 9 1).bind fun t233 => (if t233 = true then ((tailwaterlaw01_gives.f 6 (-3) 0 0).bind fun t234 => (if t234 = true then ((tailwaterlaw01_gives.f 7 3037000500 3037000500 (-9223372036709301616)).bind fun t235 => (if t235 = true then ((tailwaterlaw01_gives.f 9 (-9223372036854775808) 1 9223372036854775807).bind fun t236 => (if t236 = true then ((tailwaterlaw01_gives.f 10 3 63 (-9223372036854775808)).bind fun t237 => (if t237 = true then ((tailwaterlaw01_gives.f 11 (-9223372036854775808) 63 (-1)).bind fun t238 => (if t238 = true then ((tailwaterlaw01_gives.f 10 7 0 7).bind fun t239 => (if t239 = true then ((tailwaterlaw01_gives.f 11 7 64 7).bind fun t240 => (if t240 = true then ((tailwaterlaw01_gives.f 18 2 4 1).bind fun t241 => (if t241 = true then ((tailwaterlaw01_gives.f 18 2 0 0).bind fun t242 => (if t242 = true then ((tailwaterlaw01_gives.f 19 0 0 0).bind fun t243 => (if t243 = true then ((tailwaterlaw01_gives.f 19 0 (-1) 1).bind fun t244 => (tailwaterlaw01_IntsNames.j0 k t244)) else (tailwaterlaw01_IntsNames.j0 k false))) else (tailwaterlaw01_IntsNames.j0 k false))) else (tailwaterlaw01_IntsNames.j0 k false))) else (tailwaterlaw01_IntsNames.j0 k false))) else (tailwaterlaw01_IntsNames.j0 k false))) else (tailwaterlaw01_IntsNames.j0 k false))) else (tailwaterlaw01_IntsNames.j0 k false))) else (tailwaterlaw01_IntsNames.j0 k false))) else (tailwaterlaw01_IntsNames.j0 k false))) else (tailwaterlaw01_IntsNames.j0 k false))) else (tailwaterlaw01_IntsNames.j0 k false))) else (tailwaterlaw01_IntsNames.j0 k false))) else (tailwaterlaw01_IntsNames.j0 k false))) = some true := h
  clear h
  have HC1 := Aside0.mk H
  clear H
  go_enter Tryd.func11, Tryd.ntmps11
  go_upto_region 1 with (fail)
  go_cut [1] (fun v1 wc => ∃ (kq : Nat) (x1_0 : Bool), v1 = .bool x1_0 ∧ Aside0 (tailwaterlaw01_IntsNames.j0 kq x1_0 = some true) ∧ Aside0 (kq ≤ k) ∧ Aside0 (Below w.heap.size w wc))
  case first =>
    have H := HC1.out
    clear HC1
    replace H := Option.bind_eq_some_iff.mp H
    obtain ⟨t231, A20, H⟩ := H
    replace H : (if t231 = true then ((tailwaterlaw01_gives.f 5 (-9223372036854775808) 0 (-9223372036854775808)).bind fun t232 => (if t232 = true then ((tailwaterlaw01_gives.f 6 0 9 1).bind fun t233 => (if t233 = true then ((tailwaterlaw01_gives.f 6 (-3) 0 0).bind fun t234 => (if t234 = true then ((tailwaterlaw01_gives.f 7 3037000500 3037000500 (-9223372036709301616)).bind fun t235 => (if t235 = true then ((tailwaterlaw01_gives.f 9 (-9223372036854775808) 1 9223372036854775807).bind fun t236 => (if t236 = true then ((tailwaterlaw01_gives.f 10 3 63 (-9223372036854775808)).bind fun t237 => (if t237 = true then ((tailwaterlaw01_gives.f 11 (-9223372036854775808) 63 (-1)).bind fun t238 => (if t238 = true then ((tailwaterlaw01_gives.f 10 7 0 7).bind fun t239 => (if t239 = true then ((tailwaterlaw01_gives.f 11 7 64 7).bind fun t240 => (if t240 = true then ((tailwaterlaw01_gives.f 18 2 4 1).bind fun t241 => (if t241 = true then ((tailwaterlaw01_gives.f 18 2 0 0).bind fun t242 => (if t242 = true then ((tailwaterlaw01_gives.f 19 0 0 0).bind fun t243 => (if t243 = true then ((tailwaterlaw01_gives.f 19 0 (-1) 1).bind fun t244 => (tailwaterlaw01_IntsNames.j0 k t244)) else (tailwaterlaw01_IntsNames.j0 k false))) else (tailwaterlaw01_IntsNames.j0 k false))) else (tailwaterlaw01_IntsNames.j0 k false))) else (tailwaterlaw01_IntsNames.j0 k false))) else (tailwaterlaw01_IntsNames.j0 k false))) else (tailwaterlaw01_IntsNames.j0 k false))) else (tailwaterlaw01_IntsNames.j0 k false))) else (tailwaterlaw01_IntsNames.j0 k false))) else (tailwaterlaw01_IntsNames.j0 k false))) else (tailwaterlaw01_IntsNames.j0 k false))) else (tailwaterlaw01_IntsNames.j0 k false))) else (tailwaterlaw01_IntsNames.j0 k false))) else (tailwaterlaw01_IntsNames.j0 k false)) = some true := H
    have A2 := Aside0.mk A20
    clear A20
    by_cases c3 : t231 = true
    · subst c3
      have H1 : ((tailwaterlaw01_gives.f 5 (-9223372036854775808) 0 (-9223372036854775808)).bind fun t232 => (if t232 = true then ((tailwaterlaw01_gives.f 6 0 9 1).bind fun t233 => (if t233 = true then ((tailwaterlaw01_gives.f 6 (-3) 0 0).bind fun t234 => (if t234 = true then ((tailwaterlaw01_gives.f 7 3037000500 3037000500 (-9223372036709301616)).bind fun t235 => (if t235 = true then ((tailwaterlaw01_gives.f 9 (-9223372036854775808) 1 9223372036854775807).bind fun t236 => (if t236 = true then ((tailwaterlaw01_gives.f 10 3 63 (-9223372036854775808)).bind fun t237 => (if t237 = true then ((tailwaterlaw01_gives.f 11 (-9223372036854775808) 63 (-1)).bind fun t238 => (if t238 = true then ((tailwaterlaw01_gives.f 10 7 0 7).bind fun t239 => (if t239 = true then ((tailwaterlaw01_gives.f 11 7 64 7).bind fun t240 => (if t240 = true then ((tailwaterlaw01_gives.f 18 2 4 1).bind fun t241 => (if t241 = true then ((tailwaterlaw01_gives.f 18 2 0 0).bind fun t242 => (if t242 = true then ((tailwaterlaw01_gives.f 19 0 0 0).bind fun t243 => (if t243 = true then ((tailwaterlaw01_gives.f 19 0 (-1) 1).bind fun t244 => (tailwaterlaw01_IntsNames.j0 k t244)) else (tailwaterlaw01_IntsNames.j0 k false))) else (tailwaterlaw01_IntsNames.j0 k false))) else (tailwaterlaw01_IntsNames.j0 k false))) else (tailwaterlaw01_IntsNames.j0 k false))) else (tailwaterlaw01_IntsNames.j0 k false))) else (tailwaterlaw01_IntsNames.j0 k false))) else (tailwaterlaw01_IntsNames.j0 k false))) else (tailwaterlaw01_IntsNames.j0 k false))) else (tailwaterlaw01_IntsNames.j0 k false))) else (tailwaterlaw01_IntsNames.j0 k false))) else (tailwaterlaw01_IntsNames.j0 k false))) else (tailwaterlaw01_IntsNames.j0 k false))) = some true := by rw [if_pos rfl] at H; exact H
      clear H
      have H := H1
      clear H1
      replace H := Option.bind_eq_some_iff.mp H
      obtain ⟨t232, A40, H⟩ := H
      replace H : (if t232 = true then ((tailwaterlaw01_gives.f 6 0 9 1).bind fun t233 => (if t233 = true then ((tailwaterlaw01_gives.f 6 (-3) 0 0).bind fun t234 => (if t234 = true then ((tailwaterlaw01_gives.f 7 3037000500 3037000500 (-9223372036709301616)).bind fun t235 => (if t235 = true then ((tailwaterlaw01_gives.f 9 (-9223372036854775808) 1 9223372036854775807).bind fun t236 => (if t236 = true then ((tailwaterlaw01_gives.f 10 3 63 (-9223372036854775808)).bind fun t237 => (if t237 = true then ((tailwaterlaw01_gives.f 11 (-9223372036854775808) 63 (-1)).bind fun t238 => (if t238 = true then ((tailwaterlaw01_gives.f 10 7 0 7).bind fun t239 => (if t239 = true then ((tailwaterlaw01_gives.f 11 7 64 7).bind fun t240 => (if t240 = true then ((tailwaterlaw01_gives.f 18 2 4 1).bind fun t241 => (if t241 = true then ((tailwaterlaw01_gives.f 18 2 0 0).bind fun t242 => (if t242 = true then ((tailwaterlaw01_gives.f 19 0 0 0).bind fun t243 => (if t243 = true then ((tailwaterlaw01_gives.f 19 0 (-1) 1).bind fun t244 => (tailwaterlaw01_IntsNames.j0 k t244)) else (tailwaterlaw01_IntsNames.j0 k false))) else (tailwaterlaw01_IntsNames.j0 k false))) else (tailwaterlaw01_IntsNames.j0 k false))) else (tailwaterlaw01_IntsNames.j0 k false))) else (tailwaterlaw01_IntsNames.j0 k false))) else (tailwaterlaw01_IntsNames.j0 k false))) else (tailwaterlaw01_IntsNames.j0 k false))) else (tailwaterlaw01_IntsNames.j0 k false))) else (tailwaterlaw01_IntsNames.j0 k false))) else (tailwaterlaw01_IntsNames.j0 k false))) else (tailwaterlaw01_IntsNames.j0 k false))) else (tailwaterlaw01_IntsNames.j0 k false)) = some true := H
      have A4 := Aside0.mk A40
      clear A40
      by_cases c5 : t232 = true
      · subst c5
        have H1 : ((tailwaterlaw01_gives.f 6 0 9 1).bind fun t233 => (if t233 = true then ((tailwaterlaw01_gives.f 6 (-3) 0 0).bind fun t234 => (if t234 = true then ((tailwaterlaw01_gives.f 7 3037000500 3037000500 (-9223372036709301616)).bind fun t235 => (if t235 = true then ((tailwaterlaw01_gives.f 9 (-9223372036854775808) 1 9223372036854775807).bind fun t236 => (if t236 = true then ((tailwaterlaw01_gives.f 10 3 63 (-9223372036854775808)).bind fun t237 => (if t237 = true then ((tailwaterlaw01_gives.f 11 (-9223372036854775808) 63 (-1)).bind fun t238 => (if t238 = true then ((tailwaterlaw01_gives.f 10 7 0 7).bind fun t239 => (if t239 = true then ((tailwaterlaw01_gives.f 11 7 64 7).bind fun t240 => (if t240 = true then ((tailwaterlaw01_gives.f 18 2 4 1).bind fun t241 => (if t241 = true then ((tailwaterlaw01_gives.f 18 2 0 0).bind fun t242 => (if t242 = true then ((tailwaterlaw01_gives.f 19 0 0 0).bind fun t243 => (if t243 = true then ((tailwaterlaw01_gives.f 19 0 (-1) 1).bind fun t244 => (tailwaterlaw01_IntsNames.j0 k t244)) else (tailwaterlaw01_IntsNames.j0 k false))) else (tailwaterlaw01_IntsNames.j0 k false))) else (tailwaterlaw01_IntsNames.j0 k false))) else (tailwaterlaw01_IntsNames.j0 k false))) else (tailwaterlaw01_IntsNames.j0 k false))) else (tailwaterlaw01_IntsNames.j0 k false))) else (tailwaterlaw01_IntsNames.j0 k false))) else (tailwaterlaw01_IntsNames.j0 k false))) else (tailwaterlaw01_IntsNames.j0 k false))) else (tailwaterlaw01_IntsNames.j0 k false))) else (tailwaterlaw01_IntsNames.j0 k false))) = some true := by rw [if_pos rfl] at H; exact H
        clear H
        have H := H1
        clear H1
        replace H := Option.bind_eq_some_iff.mp H
        obtain ⟨t233, A60, H⟩ := H
        replace H : (if t233 = true then ((tailwaterlaw01_gives.f 6 (-3) 0 0).bind fun t234 => (if t234 = true then ((tailwaterlaw01_gives.f 7 3037000500 3037000500 (-9223372036709301616)).bind fun t235 => (if t235 = true then ((tailwaterlaw01_gives.f 9 (-9223372036854775808) 1 9223372036854775807).bind fun t236 => (if t236 = true then ((tailwaterlaw01_gives.f 10 3 63 (-9223372036854775808)).bind fun t237 => (if t237 = true then ((tailwaterlaw01_gives.f 11 (-9223372036854775808) 63 (-1)).bind fun t238 => (if t238 = true then ((tailwaterlaw01_gives.f 10 7 0 7).bind fun t239 => (if t239 = true then ((tailwaterlaw01_gives.f 11 7 64 7).bind fun t240 => (if t240 = true then ((tailwaterlaw01_gives.f 18 2 4 1).bind fun t241 => (if t241 = true then ((tailwaterlaw01_gives.f 18 2 0 0).bind fun t242 => (if t242 = true then ((tailwaterlaw01_gives.f 19 0 0 0).bind fun t243 => (if t243 = true then ((tailwaterlaw01_gives.f 19 0 (-1) 1).bind fun t244 => (tailwaterlaw01_IntsNames.j0 k t244)) else (tailwaterlaw01_IntsNames.j0 k false))) else (tailwaterlaw01_IntsNames.j0 k false))) else (tailwaterlaw01_IntsNames.j0 k false))) else (tailwaterlaw01_IntsNames.j0 k false))) else (tailwaterlaw01_IntsNames.j0 k false))) else (tailwaterlaw01_IntsNames.j0 k false))) else (tailwaterlaw01_IntsNames.j0 k false))) else (tailwaterlaw01_IntsNames.j0 k false))) else (tailwaterlaw01_IntsNames.j0 k false))) else (tailwaterlaw01_IntsNames.j0 k false))) else (tailwaterlaw01_IntsNames.j0 k false)) = some true := H
        have A6 := Aside0.mk A60
        clear A60
        by_cases c7 : t233 = true
        · subst c7
          have H1 : ((tailwaterlaw01_gives.f 6 (-3) 0 0).bind fun t234 => (if t234 = true then ((tailwaterlaw01_gives.f 7 3037000500 3037000500 (-9223372036709301616)).bind fun t235 => (if t235 = true then ((tailwaterlaw01_gives.f 9 (-9223372036854775808) 1 9223372036854775807).bind fun t236 => (if t236 = true then ((tailwaterlaw01_gives.f 10 3 63 (-9223372036854775808)).bind fun t237 => (if t237 = true then ((tailwaterlaw01_gives.f 11 (-9223372036854775808) 63 (-1)).bind fun t238 => (if t238 = true then ((tailwaterlaw01_gives.f 10 7 0 7).bind fun t239 => (if t239 = true then ((tailwaterlaw01_gives.f 11 7 64 7).bind fun t240 => (if t240 = true then ((tailwaterlaw01_gives.f 18 2 4 1).bind fun t241 => (if t241 = true then ((tailwaterlaw01_gives.f 18 2 0 0).bind fun t242 => (if t242 = true then ((tailwaterlaw01_gives.f 19 0 0 0).bind fun t243 => (if t243 = true then ((tailwaterlaw01_gives.f 19 0 (-1) 1).bind fun t244 => (tailwaterlaw01_IntsNames.j0 k t244)) else (tailwaterlaw01_IntsNames.j0 k false))) else (tailwaterlaw01_IntsNames.j0 k false))) else (tailwaterlaw01_IntsNames.j0 k false))) else (tailwaterlaw01_IntsNames.j0 k false))) else (tailwaterlaw01_IntsNames.j0 k false))) else (tailwaterlaw01_IntsNames.j0 k false))) else (tailwaterlaw01_IntsNames.j0 k false))) else (tailwaterlaw01_IntsNames.j0 k false))) else (tailwaterlaw01_IntsNames.j0 k false))) else (tailwaterlaw01_IntsNames.j0 k false))) = some true := by rw [if_pos rfl] at H; exact H
          clear H
          have H := H1
          clear H1
          replace H := Option.bind_eq_some_iff.mp H
          obtain ⟨t234, A80, H⟩ := H
          replace H : (if t234 = true then ((tailwaterlaw01_gives.f 7 3037000500 3037000500 (-9223372036709301616)).bind fun t235 => (if t235 = true then ((tailwaterlaw01_gives.f 9 (-9223372036854775808) 1 9223372036854775807).bind fun t236 => (if t236 = true then ((tailwaterlaw01_gives.f 10 3 63 (-9223372036854775808)).bind fun t237 => (if t237 = true then ((tailwaterlaw01_gives.f 11 (-9223372036854775808) 63 (-1)).bind fun t238 => (if t238 = true then ((tailwaterlaw01_gives.f 10 7 0 7).bind fun t239 => (if t239 = true then ((tailwaterlaw01_gives.f 11 7 64 7).bind fun t240 => (if t240 = true then ((tailwaterlaw01_gives.f 18 2 4 1).bind fun t241 => (if t241 = true then ((tailwaterlaw01_gives.f 18 2 0 0).bind fun t242 => (if t242 = true then ((tailwaterlaw01_gives.f 19 0 0 0).bind fun t243 => (if t243 = true then ((tailwaterlaw01_gives.f 19 0 (-1) 1).bind fun t244 => (tailwaterlaw01_IntsNames.j0 k t244)) else (tailwaterlaw01_IntsNames.j0 k false))) else (tailwaterlaw01_IntsNames.j0 k false))) else (tailwaterlaw01_IntsNames.j0 k false))) else (tailwaterlaw01_IntsNames.j0 k false))) else (tailwaterlaw01_IntsNames.j0 k false))) else (tailwaterlaw01_IntsNames.j0 k false))) else (tailwaterlaw01_IntsNames.j0 k false))) else (tailwaterlaw01_IntsNames.j0 k false))) else (tailwaterlaw01_IntsNames.j0 k false))) else (tailwaterlaw01_IntsNames.j0 k false)) = some true := H
          have A8 := Aside0.mk A80
          clear A80
          by_cases c9 : t234 = true
          · subst c9
            have H1 : ((tailwaterlaw01_gives.f 7 3037000500 3037000500 (-9223372036709301616)).bind fun t235 => (if t235 = true then ((tailwaterlaw01_gives.f 9 (-9223372036854775808) 1 9223372036854775807).bind fun t236 => (if t236 = true then ((tailwaterlaw01_gives.f 10 3 63 (-9223372036854775808)).bind fun t237 => (if t237 = true then ((tailwaterlaw01_gives.f 11 (-9223372036854775808) 63 (-1)).bind fun t238 => (if t238 = true then ((tailwaterlaw01_gives.f 10 7 0 7).bind fun t239 => (if t239 = true then ((tailwaterlaw01_gives.f 11 7 64 7).bind fun t240 => (if t240 = true then ((tailwaterlaw01_gives.f 18 2 4 1).bind fun t241 => (if t241 = true then ((tailwaterlaw01_gives.f 18 2 0 0).bind fun t242 => (if t242 = true then ((tailwaterlaw01_gives.f 19 0 0 0).bind fun t243 => (if t243 = true then ((tailwaterlaw01_gives.f 19 0 (-1) 1).bind fun t244 => (tailwaterlaw01_IntsNames.j0 k t244)) else (tailwaterlaw01_IntsNames.j0 k false))) else (tailwaterlaw01_IntsNames.j0 k false))) else (tailwaterlaw01_IntsNames.j0 k false))) else (tailwaterlaw01_IntsNames.j0 k false))) else (tailwaterlaw01_IntsNames.j0 k false))) else (tailwaterlaw01_IntsNames.j0 k false))) else (tailwaterlaw01_IntsNames.j0 k false))) else (tailwaterlaw01_IntsNames.j0 k false))) else (tailwaterlaw01_IntsNames.j0 k false))) = some true := by rw [if_pos rfl] at H; exact H
            clear H
            have H := H1
            clear H1
            replace H := Option.bind_eq_some_iff.mp H
            obtain ⟨t235, A100, H⟩ := H
            replace H : (if t235 = true then ((tailwaterlaw01_gives.f 9 (-9223372036854775808) 1 9223372036854775807).bind fun t236 => (if t236 = true then ((tailwaterlaw01_gives.f 10 3 63 (-9223372036854775808)).bind fun t237 => (if t237 = true then ((tailwaterlaw01_gives.f 11 (-9223372036854775808) 63 (-1)).bind fun t238 => (if t238 = true then ((tailwaterlaw01_gives.f 10 7 0 7).bind fun t239 => (if t239 = true then ((tailwaterlaw01_gives.f 11 7 64 7).bind fun t240 => (if t240 = true then ((tailwaterlaw01_gives.f 18 2 4 1).bind fun t241 => (if t241 = true then ((tailwaterlaw01_gives.f 18 2 0 0).bind fun t242 => (if t242 = true then ((tailwaterlaw01_gives.f 19 0 0 0).bind fun t243 => (if t243 = true then ((tailwaterlaw01_gives.f 19 0 (-1) 1).bind fun t244 => (tailwaterlaw01_IntsNames.j0 k t244)) else (tailwaterlaw01_IntsNames.j0 k false))) else (tailwaterlaw01_IntsNames.j0 k false))) else (tailwaterlaw01_IntsNames.j0 k false))) else (tailwaterlaw01_IntsNames.j0 k false))) else (tailwaterlaw01_IntsNames.j0 k false))) else (tailwaterlaw01_IntsNames.j0 k false))) else (tailwaterlaw01_IntsNames.j0 k false))) else (tailwaterlaw01_IntsNames.j0 k false))) else (tailwaterlaw01_IntsNames.j0 k false)) = some true := H
            have A10 := Aside0.mk A100
            clear A100
            by_cases c11 : t235 = true
            · subst c11
              have H1 : ((tailwaterlaw01_gives.f 9 (-9223372036854775808) 1 9223372036854775807).bind fun t236 => (if t236 = true then ((tailwaterlaw01_gives.f 10 3 63 (-9223372036854775808)).bind fun t237 => (if t237 = true then ((tailwaterlaw01_gives.f 11 (-9223372036854775808) 63 (-1)).bind fun t238 => (if t238 = true then ((tailwaterlaw01_gives.f 10 7 0 7).bind fun t239 => (if t239 = true then ((tailwaterlaw01_gives.f 11 7 64 7).bind fun t240 => (if t240 = true then ((tailwaterlaw01_gives.f 18 2 4 1).bind fun t241 => (if t241 = true then ((tailwaterlaw01_gives.f 18 2 0 0).bind fun t242 => (if t242 = true then ((tailwaterlaw01_gives.f 19 0 0 0).bind fun t243 => (if t243 = true then ((tailwaterlaw01_gives.f 19 0 (-1) 1).bind fun t244 => (tailwaterlaw01_IntsNames.j0 k t244)) else (tailwaterlaw01_IntsNames.j0 k false))) else (tailwaterlaw01_IntsNames.j0 k false))) else (tailwaterlaw01_IntsNames.j0 k false))) else (tailwaterlaw01_IntsNames.j0 k false))) else (tailwaterlaw01_IntsNames.j0 k false))) else (tailwaterlaw01_IntsNames.j0 k false))) else (tailwaterlaw01_IntsNames.j0 k false))) else (tailwaterlaw01_IntsNames.j0 k false))) = some true := by rw [if_pos rfl] at H; exact H
              clear H
              have H := H1
              clear H1
              replace H := Option.bind_eq_some_iff.mp H
              obtain ⟨t236, A120, H⟩ := H
              replace H : (if t236 = true then ((tailwaterlaw01_gives.f 10 3 63 (-9223372036854775808)).bind fun t237 => (if t237 = true then ((tailwaterlaw01_gives.f 11 (-9223372036854775808) 63 (-1)).bind fun t238 => (if t238 = true then ((tailwaterlaw01_gives.f 10 7 0 7).bind fun t239 => (if t239 = true then ((tailwaterlaw01_gives.f 11 7 64 7).bind fun t240 => (if t240 = true then ((tailwaterlaw01_gives.f 18 2 4 1).bind fun t241 => (if t241 = true then ((tailwaterlaw01_gives.f 18 2 0 0).bind fun t242 => (if t242 = true then ((tailwaterlaw01_gives.f 19 0 0 0).bind fun t243 => (if t243 = true then ((tailwaterlaw01_gives.f 19 0 (-1) 1).bind fun t244 => (tailwaterlaw01_IntsNames.j0 k t244)) else (tailwaterlaw01_IntsNames.j0 k false))) else (tailwaterlaw01_IntsNames.j0 k false))) else (tailwaterlaw01_IntsNames.j0 k false))) else (tailwaterlaw01_IntsNames.j0 k false))) else (tailwaterlaw01_IntsNames.j0 k false))) else (tailwaterlaw01_IntsNames.j0 k false))) else (tailwaterlaw01_IntsNames.j0 k false))) else (tailwaterlaw01_IntsNames.j0 k false)) = some true := H
              have A12 := Aside0.mk A120
              clear A120
              by_cases c13 : t236 = true
              · subst c13
                have H1 : ((tailwaterlaw01_gives.f 10 3 63 (-9223372036854775808)).bind fun t237 => (if t237 = true then ((tailwaterlaw01_gives.f 11 (-9223372036854775808) 63 (-1)).bind fun t238 => (if t238 = true then ((tailwaterlaw01_gives.f 10 7 0 7).bind fun t239 => (if t239 = true then ((tailwaterlaw01_gives.f 11 7 64 7).bind fun t240 => (if t240 = true then ((tailwaterlaw01_gives.f 18 2 4 1).bind fun t241 => (if t241 = true then ((tailwaterlaw01_gives.f 18 2 0 0).bind fun t242 => (if t242 = true then ((tailwaterlaw01_gives.f 19 0 0 0).bind fun t243 => (if t243 = true then ((tailwaterlaw01_gives.f 19 0 (-1) 1).bind fun t244 => (tailwaterlaw01_IntsNames.j0 k t244)) else (tailwaterlaw01_IntsNames.j0 k false))) else (tailwaterlaw01_IntsNames.j0 k false))) else (tailwaterlaw01_IntsNames.j0 k false))) else (tailwaterlaw01_IntsNames.j0 k false))) else (tailwaterlaw01_IntsNames.j0 k false))) else (tailwaterlaw01_IntsNames.j0 k false))) else (tailwaterlaw01_IntsNames.j0 k false))) = some true := by rw [if_pos rfl] at H; exact H
                clear H
                have H := H1
                clear H1
                replace H := Option.bind_eq_some_iff.mp H
                obtain ⟨t237, A140, H⟩ := H
                replace H : (if t237 = true then ((tailwaterlaw01_gives.f 11 (-9223372036854775808) 63 (-1)).bind fun t238 => (if t238 = true then ((tailwaterlaw01_gives.f 10 7 0 7).bind fun t239 => (if t239 = true then ((tailwaterlaw01_gives.f 11 7 64 7).bind fun t240 => (if t240 = true then ((tailwaterlaw01_gives.f 18 2 4 1).bind fun t241 => (if t241 = true then ((tailwaterlaw01_gives.f 18 2 0 0).bind fun t242 => (if t242 = true then ((tailwaterlaw01_gives.f 19 0 0 0).bind fun t243 => (if t243 = true then ((tailwaterlaw01_gives.f 19 0 (-1) 1).bind fun t244 => (tailwaterlaw01_IntsNames.j0 k t244)) else (tailwaterlaw01_IntsNames.j0 k false))) else (tailwaterlaw01_IntsNames.j0 k false))) else (tailwaterlaw01_IntsNames.j0 k false))) else (tailwaterlaw01_IntsNames.j0 k false))) else (tailwaterlaw01_IntsNames.j0 k false))) else (tailwaterlaw01_IntsNames.j0 k false))) else (tailwaterlaw01_IntsNames.j0 k false)) = some true := H
                have A14 := Aside0.mk A140
                clear A140
                by_cases c15 : t237 = true
                · subst c15
                  have H1 : ((tailwaterlaw01_gives.f 11 (-9223372036854775808) 63 (-1)).bind fun t238 => (if t238 = true then ((tailwaterlaw01_gives.f 10 7 0 7).bind fun t239 => (if t239 = true then ((tailwaterlaw01_gives.f 11 7 64 7).bind fun t240 => (if t240 = true then ((tailwaterlaw01_gives.f 18 2 4 1).bind fun t241 => (if t241 = true then ((tailwaterlaw01_gives.f 18 2 0 0).bind fun t242 => (if t242 = true then ((tailwaterlaw01_gives.f 19 0 0 0).bind fun t243 => (if t243 = true then ((tailwaterlaw01_gives.f 19 0 (-1) 1).bind fun t244 => (tailwaterlaw01_IntsNames.j0 k t244)) else (tailwaterlaw01_IntsNames.j0 k false))) else (tailwaterlaw01_IntsNames.j0 k false))) else (tailwaterlaw01_IntsNames.j0 k false))) else (tailwaterlaw01_IntsNames.j0 k false))) else (tailwaterlaw01_IntsNames.j0 k false))) else (tailwaterlaw01_IntsNames.j0 k false))) = some true := by rw [if_pos rfl] at H; exact H
                  clear H
                  have H := H1
                  clear H1
                  replace H := Option.bind_eq_some_iff.mp H
                  obtain ⟨t238, A160, H⟩ := H
                  replace H : (if t238 = true then ((tailwaterlaw01_gives.f 10 7 0 7).bind fun t239 => (if t239 = true then ((tailwaterlaw01_gives.f 11 7 64 7).bind fun t240 => (if t240 = true then ((tailwaterlaw01_gives.f 18 2 4 1).bind fun t241 => (if t241 = true then ((tailwaterlaw01_gives.f 18 2 0 0).bind fun t242 => (if t242 = true then ((tailwaterlaw01_gives.f 19 0 0 0).bind fun t243 => (if t243 = true then ((tailwaterlaw01_gives.f 19 0 (-1) 1).bind fun t244 => (tailwaterlaw01_IntsNames.j0 k t244)) else (tailwaterlaw01_IntsNames.j0 k false))) else (tailwaterlaw01_IntsNames.j0 k false))) else (tailwaterlaw01_IntsNames.j0 k false))) else (tailwaterlaw01_IntsNames.j0 k false))) else (tailwaterlaw01_IntsNames.j0 k false))) else (tailwaterlaw01_IntsNames.j0 k false)) = some true := H
                  have A16 := Aside0.mk A160
                  clear A160
                  by_cases c17 : t238 = true
                  · subst c17
                    have H1 : ((tailwaterlaw01_gives.f 10 7 0 7).bind fun t239 => (if t239 = true then ((tailwaterlaw01_gives.f 11 7 64 7).bind fun t240 => (if t240 = true then ((tailwaterlaw01_gives.f 18 2 4 1).bind fun t241 => (if t241 = true then ((tailwaterlaw01_gives.f 18 2 0 0).bind fun t242 => (if t242 = true then ((tailwaterlaw01_gives.f 19 0 0 0).bind fun t243 => (if t243 = true then ((tailwaterlaw01_gives.f 19 0 (-1) 1).bind fun t244 => (tailwaterlaw01_IntsNames.j0 k t244)) else (tailwaterlaw01_IntsNames.j0 k false))) else (tailwaterlaw01_IntsNames.j0 k false))) else (tailwaterlaw01_IntsNames.j0 k false))) else (tailwaterlaw01_IntsNames.j0 k false))) else (tailwaterlaw01_IntsNames.j0 k false))) = some true := by rw [if_pos rfl] at H; exact H
                    clear H
                    have H := H1
                    clear H1
                    replace H := Option.bind_eq_some_iff.mp H
                    obtain ⟨t239, A180, H⟩ := H
                    replace H : (if t239 = true then ((tailwaterlaw01_gives.f 11 7 64 7).bind fun t240 => (if t240 = true then ((tailwaterlaw01_gives.f 18 2 4 1).bind fun t241 => (if t241 = true then ((tailwaterlaw01_gives.f 18 2 0 0).bind fun t242 => (if t242 = true then ((tailwaterlaw01_gives.f 19 0 0 0).bind fun t243 => (if t243 = true then ((tailwaterlaw01_gives.f 19 0 (-1) 1).bind fun t244 => (tailwaterlaw01_IntsNames.j0 k t244)) else (tailwaterlaw01_IntsNames.j0 k false))) else (tailwaterlaw01_IntsNames.j0 k false))) else (tailwaterlaw01_IntsNames.j0 k false))) else (tailwaterlaw01_IntsNames.j0 k false))) else (tailwaterlaw01_IntsNames.j0 k false)) = some true := H
                    have A18 := Aside0.mk A180
                    clear A180
                    by_cases c19 : t239 = true
                    · subst c19
                      have H1 : ((tailwaterlaw01_gives.f 11 7 64 7).bind fun t240 => (if t240 = true then ((tailwaterlaw01_gives.f 18 2 4 1).bind fun t241 => (if t241 = true then ((tailwaterlaw01_gives.f 18 2 0 0).bind fun t242 => (if t242 = true then ((tailwaterlaw01_gives.f 19 0 0 0).bind fun t243 => (if t243 = true then ((tailwaterlaw01_gives.f 19 0 (-1) 1).bind fun t244 => (tailwaterlaw01_IntsNames.j0 k t244)) else (tailwaterlaw01_IntsNames.j0 k false))) else (tailwaterlaw01_IntsNames.j0 k false))) else (tailwaterlaw01_IntsNames.j0 k false))) else (tailwaterlaw01_IntsNames.j0 k false))) = some true := by rw [if_pos rfl] at H; exact H
                      clear H
                      have H := H1
                      clear H1
                      replace H := Option.bind_eq_some_iff.mp H
                      obtain ⟨t240, A200, H⟩ := H
                      replace H : (if t240 = true then ((tailwaterlaw01_gives.f 18 2 4 1).bind fun t241 => (if t241 = true then ((tailwaterlaw01_gives.f 18 2 0 0).bind fun t242 => (if t242 = true then ((tailwaterlaw01_gives.f 19 0 0 0).bind fun t243 => (if t243 = true then ((tailwaterlaw01_gives.f 19 0 (-1) 1).bind fun t244 => (tailwaterlaw01_IntsNames.j0 k t244)) else (tailwaterlaw01_IntsNames.j0 k false))) else (tailwaterlaw01_IntsNames.j0 k false))) else (tailwaterlaw01_IntsNames.j0 k false))) else (tailwaterlaw01_IntsNames.j0 k false)) = some true := H
                      have A20 := Aside0.mk A200
                      clear A200
                      by_cases c21 : t240 = true
                      · subst c21
                        have H1 : ((tailwaterlaw01_gives.f 18 2 4 1).bind fun t241 => (if t241 = true then ((tailwaterlaw01_gives.f 18 2 0 0).bind fun t242 => (if t242 = true then ((tailwaterlaw01_gives.f 19 0 0 0).bind fun t243 => (if t243 = true then ((tailwaterlaw01_gives.f 19 0 (-1) 1).bind fun t244 => (tailwaterlaw01_IntsNames.j0 k t244)) else (tailwaterlaw01_IntsNames.j0 k false))) else (tailwaterlaw01_IntsNames.j0 k false))) else (tailwaterlaw01_IntsNames.j0 k false))) = some true := by rw [if_pos rfl] at H; exact H
                        clear H
                        have H := H1
                        clear H1
                        replace H := Option.bind_eq_some_iff.mp H
                        obtain ⟨t241, A220, H⟩ := H
                        replace H : (if t241 = true then ((tailwaterlaw01_gives.f 18 2 0 0).bind fun t242 => (if t242 = true then ((tailwaterlaw01_gives.f 19 0 0 0).bind fun t243 => (if t243 = true then ((tailwaterlaw01_gives.f 19 0 (-1) 1).bind fun t244 => (tailwaterlaw01_IntsNames.j0 k t244)) else (tailwaterlaw01_IntsNames.j0 k false))) else (tailwaterlaw01_IntsNames.j0 k false))) else (tailwaterlaw01_IntsNames.j0 k false)) = some true := H
                        have A22 := Aside0.mk A220
                        clear A220
                        by_cases c23 : t241 = true
                        · subst c23
                          have H1 : ((tailwaterlaw01_gives.f 18 2 0 0).bind fun t242 => (if t242 = true then ((tailwaterlaw01_gives.f 19 0 0 0).bind fun t243 => (if t243 = true then ((tailwaterlaw01_gives.f 19 0 (-1) 1).bind fun t244 => (tailwaterlaw01_IntsNames.j0 k t244)) else (tailwaterlaw01_IntsNames.j0 k false))) else (tailwaterlaw01_IntsNames.j0 k false))) = some true := by rw [if_pos rfl] at H; exact H
                          clear H
                          have H := H1
                          clear H1
                          replace H := Option.bind_eq_some_iff.mp H
                          obtain ⟨t242, A240, H⟩ := H
                          replace H : (if t242 = true then ((tailwaterlaw01_gives.f 19 0 0 0).bind fun t243 => (if t243 = true then ((tailwaterlaw01_gives.f 19 0 (-1) 1).bind fun t244 => (tailwaterlaw01_IntsNames.j0 k t244)) else (tailwaterlaw01_IntsNames.j0 k false))) else (tailwaterlaw01_IntsNames.j0 k false)) = some true := H
                          have A24 := Aside0.mk A240
                          clear A240
                          by_cases c25 : t242 = true
                          · subst c25
                            have H1 : ((tailwaterlaw01_gives.f 19 0 0 0).bind fun t243 => (if t243 = true then ((tailwaterlaw01_gives.f 19 0 (-1) 1).bind fun t244 => (tailwaterlaw01_IntsNames.j0 k t244)) else (tailwaterlaw01_IntsNames.j0 k false))) = some true := by rw [if_pos rfl] at H; exact H
                            clear H
                            have H := H1
                            clear H1
                            replace H := Option.bind_eq_some_iff.mp H
                            obtain ⟨t243, A260, H⟩ := H
                            replace H : (if t243 = true then ((tailwaterlaw01_gives.f 19 0 (-1) 1).bind fun t244 => (tailwaterlaw01_IntsNames.j0 k t244)) else (tailwaterlaw01_IntsNames.j0 k false)) = some true := H
                            have A26 := Aside0.mk A260
                            clear A260
                            by_cases c27 : t243 = true
                            · subst c27
                              have H1 : ((tailwaterlaw01_gives.f 19 0 (-1) 1).bind fun t244 => (tailwaterlaw01_IntsNames.j0 k t244)) = some true := by rw [if_pos rfl] at H; exact H
                              clear H
                              have H := H1
                              clear H1
                              replace H := Option.bind_eq_some_iff.mp H
                              obtain ⟨t244, A280, H⟩ := H
                              replace H : (tailwaterlaw01_IntsNames.j0 k t244) = some true := H
                              have A28 := Aside0.mk A280
                              clear A280
                              have H' := Aside0.mk H
                              clear H
                              go_wp2_with (first | ((with_reducible refine gate_callee (f := 36) rfl ?_); refine goesL_ (some 21) rfl rfl Tryd.func36 (by kernel_rfl) rfl #[.int .u8 5, .int .i64 5, .int .i64 9, .int .i64 (-5)] rfl (by (try simp only [List.map_toArray, List.map_cons, List.map_nil]); first | done | rfl | (simp only [List.length_drop, List.length_take]; rfl)) ?_; (with_reducible refine (tailwaterlaw01_gives.calls 5 5 9 (-5) true _ A2.out).mono ?_); rintro e w' ⟨rfl, ⟨nd, rfl⟩⟩; refine ⟨_, rfl, ?_⟩) | (go_at_call 36; (with_reducible refine (tailwaterlaw01_gives.calls 5 (-9223372036854775808) 0 (-9223372036854775808) true _ A4.out).mono ?_); rintro e w' ⟨rfl, ⟨nd, rfl⟩⟩) | (go_at_call 36; (with_reducible refine (tailwaterlaw01_gives.calls 6 0 9 1 true _ A6.out).mono ?_); rintro e w' ⟨rfl, ⟨nd, rfl⟩⟩) | (go_at_call 36; (with_reducible refine (tailwaterlaw01_gives.calls 6 (-3) 0 0 true _ A8.out).mono ?_); rintro e w' ⟨rfl, ⟨nd, rfl⟩⟩) | (go_at_call 36; (with_reducible refine (tailwaterlaw01_gives.calls 7 3037000500 3037000500 (-9223372036709301616) true _ A10.out).mono ?_); rintro e w' ⟨rfl, ⟨nd, rfl⟩⟩) | (go_at_call 36; (with_reducible refine (tailwaterlaw01_gives.calls 9 (-9223372036854775808) 1 9223372036854775807 true _ A12.out).mono ?_); rintro e w' ⟨rfl, ⟨nd, rfl⟩⟩) | (go_at_call 36; (with_reducible refine (tailwaterlaw01_gives.calls 10 3 63 (-9223372036854775808) true _ A14.out).mono ?_); rintro e w' ⟨rfl, ⟨nd, rfl⟩⟩) | (go_at_call 36; (with_reducible refine (tailwaterlaw01_gives.calls 11 (-9223372036854775808) 63 (-1) true _ A16.out).mono ?_); rintro e w' ⟨rfl, ⟨nd, rfl⟩⟩) | (go_at_call 36; (with_reducible refine (tailwaterlaw01_gives.calls 10 7 0 7 true _ A18.out).mono ?_); rintro e w' ⟨rfl, ⟨nd, rfl⟩⟩) | (go_at_call 36; (with_reducible refine (tailwaterlaw01_gives.calls 11 7 64 7 true _ A20.out).mono ?_); rintro e w' ⟨rfl, ⟨nd, rfl⟩⟩) | (go_at_call 36; (with_reducible refine (tailwaterlaw01_gives.calls 18 2 4 1 true _ A22.out).mono ?_); rintro e w' ⟨rfl, ⟨nd, rfl⟩⟩) | (go_at_call 36; (with_reducible refine (tailwaterlaw01_gives.calls 18 2 0 0 true _ A24.out).mono ?_); rintro e w' ⟨rfl, ⟨nd, rfl⟩⟩) | (go_at_call 36; (with_reducible refine (tailwaterlaw01_gives.calls 19 0 0 0 true _ A26.out).mono ?_); rintro e w' ⟨rfl, ⟨nd, rfl⟩⟩) | (go_at_call 36; (with_reducible refine (tailwaterlaw01_gives.calls 19 0 (-1) 1 t244 _ A28.out).mono ?_); rintro e w' ⟨rfl, ⟨nd, rfl⟩⟩))
                              go_meet
                              case rel => exact ⟨_, (t244), (by first | rfl | (simp; done) | (simp [*]; done)), H', ⟨by first | omega | exact Nat.le_refl _⟩, ⟨by repeat (first | (with_reducible first | exact HB.out | apply below_alloc | apply pw_below_drewN | apply below_drew1) | exact HB.out)⟩⟩
                            · replace c27 := Bool.eq_false_iff.mpr c27
                              subst c27
                              have H1 : (tailwaterlaw01_IntsNames.j0 k false) = some true := by rw [if_neg (show ¬ (false = true) by decide)] at H; exact H
                              clear H
                              have H := H1
                              clear H1
                              have H' := Aside0.mk H
                              clear H
                              go_wp2_with (first | ((with_reducible refine gate_callee (f := 36) rfl ?_); refine goesL_ (some 21) rfl rfl Tryd.func36 (by kernel_rfl) rfl #[.int .u8 5, .int .i64 5, .int .i64 9, .int .i64 (-5)] rfl (by (try simp only [List.map_toArray, List.map_cons, List.map_nil]); first | done | rfl | (simp only [List.length_drop, List.length_take]; rfl)) ?_; (with_reducible refine (tailwaterlaw01_gives.calls 5 5 9 (-5) true _ A2.out).mono ?_); rintro e w' ⟨rfl, ⟨nd, rfl⟩⟩; refine ⟨_, rfl, ?_⟩) | (go_at_call 36; (with_reducible refine (tailwaterlaw01_gives.calls 5 (-9223372036854775808) 0 (-9223372036854775808) true _ A4.out).mono ?_); rintro e w' ⟨rfl, ⟨nd, rfl⟩⟩) | (go_at_call 36; (with_reducible refine (tailwaterlaw01_gives.calls 6 0 9 1 true _ A6.out).mono ?_); rintro e w' ⟨rfl, ⟨nd, rfl⟩⟩) | (go_at_call 36; (with_reducible refine (tailwaterlaw01_gives.calls 6 (-3) 0 0 true _ A8.out).mono ?_); rintro e w' ⟨rfl, ⟨nd, rfl⟩⟩) | (go_at_call 36; (with_reducible refine (tailwaterlaw01_gives.calls 7 3037000500 3037000500 (-9223372036709301616) true _ A10.out).mono ?_); rintro e w' ⟨rfl, ⟨nd, rfl⟩⟩) | (go_at_call 36; (with_reducible refine (tailwaterlaw01_gives.calls 9 (-9223372036854775808) 1 9223372036854775807 true _ A12.out).mono ?_); rintro e w' ⟨rfl, ⟨nd, rfl⟩⟩) | (go_at_call 36; (with_reducible refine (tailwaterlaw01_gives.calls 10 3 63 (-9223372036854775808) true _ A14.out).mono ?_); rintro e w' ⟨rfl, ⟨nd, rfl⟩⟩) | (go_at_call 36; (with_reducible refine (tailwaterlaw01_gives.calls 11 (-9223372036854775808) 63 (-1) true _ A16.out).mono ?_); rintro e w' ⟨rfl, ⟨nd, rfl⟩⟩) | (go_at_call 36; (with_reducible refine (tailwaterlaw01_gives.calls 10 7 0 7 true _ A18.out).mono ?_); rintro e w' ⟨rfl, ⟨nd, rfl⟩⟩) | (go_at_call 36; (with_reducible refine (tailwaterlaw01_gives.calls 11 7 64 7 true _ A20.out).mono ?_); rintro e w' ⟨rfl, ⟨nd, rfl⟩⟩) | (go_at_call 36; (with_reducible refine (tailwaterlaw01_gives.calls 18 2 4 1 true _ A22.out).mono ?_); rintro e w' ⟨rfl, ⟨nd, rfl⟩⟩) | (go_at_call 36; (with_reducible refine (tailwaterlaw01_gives.calls 18 2 0 0 true _ A24.out).mono ?_); rintro e w' ⟨rfl, ⟨nd, rfl⟩⟩) | (go_at_call 36; (with_reducible refine (tailwaterlaw01_gives.calls 19 0 0 0 false _ A26.out).mono ?_); rintro e w' ⟨rfl, ⟨nd, rfl⟩⟩))
                              go_meet
                              case rel => exact ⟨_, (false), (by first | rfl | (simp; done) | (simp [*]; done)), H', ⟨by first | omega | exact Nat.le_refl _⟩, ⟨by repeat (first | (with_reducible first | exact HB.out | apply below_alloc | apply pw_below_drewN | apply below_drew1) | exact HB.out)⟩⟩
                          · replace c25 := Bool.eq_false_iff.mpr c25
                            subst c25
                            have H1 : (tailwaterlaw01_IntsNames.j0 k false) = some true := by rw [if_neg (show ¬ (false = true) by decide)] at H; exact H
                            clear H
                            have H := H1
                            clear H1
                            have H' := Aside0.mk H
                            clear H
                            go_wp2_with (first | ((with_reducible refine gate_callee (f := 36) rfl ?_); refine goesL_ (some 21) rfl rfl Tryd.func36 (by kernel_rfl) rfl #[.int .u8 5, .int .i64 5, .int .i64 9, .int .i64 (-5)] rfl (by (try simp only [List.map_toArray, List.map_cons, List.map_nil]); first | done | rfl | (simp only [List.length_drop, List.length_take]; rfl)) ?_; (with_reducible refine (tailwaterlaw01_gives.calls 5 5 9 (-5) true _ A2.out).mono ?_); rintro e w' ⟨rfl, ⟨nd, rfl⟩⟩; refine ⟨_, rfl, ?_⟩) | (go_at_call 36; (with_reducible refine (tailwaterlaw01_gives.calls 5 (-9223372036854775808) 0 (-9223372036854775808) true _ A4.out).mono ?_); rintro e w' ⟨rfl, ⟨nd, rfl⟩⟩) | (go_at_call 36; (with_reducible refine (tailwaterlaw01_gives.calls 6 0 9 1 true _ A6.out).mono ?_); rintro e w' ⟨rfl, ⟨nd, rfl⟩⟩) | (go_at_call 36; (with_reducible refine (tailwaterlaw01_gives.calls 6 (-3) 0 0 true _ A8.out).mono ?_); rintro e w' ⟨rfl, ⟨nd, rfl⟩⟩) | (go_at_call 36; (with_reducible refine (tailwaterlaw01_gives.calls 7 3037000500 3037000500 (-9223372036709301616) true _ A10.out).mono ?_); rintro e w' ⟨rfl, ⟨nd, rfl⟩⟩) | (go_at_call 36; (with_reducible refine (tailwaterlaw01_gives.calls 9 (-9223372036854775808) 1 9223372036854775807 true _ A12.out).mono ?_); rintro e w' ⟨rfl, ⟨nd, rfl⟩⟩) | (go_at_call 36; (with_reducible refine (tailwaterlaw01_gives.calls 10 3 63 (-9223372036854775808) true _ A14.out).mono ?_); rintro e w' ⟨rfl, ⟨nd, rfl⟩⟩) | (go_at_call 36; (with_reducible refine (tailwaterlaw01_gives.calls 11 (-9223372036854775808) 63 (-1) true _ A16.out).mono ?_); rintro e w' ⟨rfl, ⟨nd, rfl⟩⟩) | (go_at_call 36; (with_reducible refine (tailwaterlaw01_gives.calls 10 7 0 7 true _ A18.out).mono ?_); rintro e w' ⟨rfl, ⟨nd, rfl⟩⟩) | (go_at_call 36; (with_reducible refine (tailwaterlaw01_gives.calls 11 7 64 7 true _ A20.out).mono ?_); rintro e w' ⟨rfl, ⟨nd, rfl⟩⟩) | (go_at_call 36; (with_reducible refine (tailwaterlaw01_gives.calls 18 2 4 1 true _ A22.out).mono ?_); rintro e w' ⟨rfl, ⟨nd, rfl⟩⟩) | (go_at_call 36; (with_reducible refine (tailwaterlaw01_gives.calls 18 2 0 0 false _ A24.out).mono ?_); rintro e w' ⟨rfl, ⟨nd, rfl⟩⟩))
                            go_meet
                            case rel => exact ⟨_, (false), (by first | rfl | (simp; done) | (simp [*]; done)), H', ⟨by first | omega | exact Nat.le_refl _⟩, ⟨by repeat (first | (with_reducible first | exact HB.out | apply below_alloc | apply pw_below_drewN | apply below_drew1) | exact HB.out)⟩⟩
                        · replace c23 := Bool.eq_false_iff.mpr c23
                          subst c23
                          have H1 : (tailwaterlaw01_IntsNames.j0 k false) = some true := by rw [if_neg (show ¬ (false = true) by decide)] at H; exact H
                          clear H
                          have H := H1
                          clear H1
                          have H' := Aside0.mk H
                          clear H
                          go_wp2_with (first | ((with_reducible refine gate_callee (f := 36) rfl ?_); refine goesL_ (some 21) rfl rfl Tryd.func36 (by kernel_rfl) rfl #[.int .u8 5, .int .i64 5, .int .i64 9, .int .i64 (-5)] rfl (by (try simp only [List.map_toArray, List.map_cons, List.map_nil]); first | done | rfl | (simp only [List.length_drop, List.length_take]; rfl)) ?_; (with_reducible refine (tailwaterlaw01_gives.calls 5 5 9 (-5) true _ A2.out).mono ?_); rintro e w' ⟨rfl, ⟨nd, rfl⟩⟩; refine ⟨_, rfl, ?_⟩) | (go_at_call 36; (with_reducible refine (tailwaterlaw01_gives.calls 5 (-9223372036854775808) 0 (-9223372036854775808) true _ A4.out).mono ?_); rintro e w' ⟨rfl, ⟨nd, rfl⟩⟩) | (go_at_call 36; (with_reducible refine (tailwaterlaw01_gives.calls 6 0 9 1 true _ A6.out).mono ?_); rintro e w' ⟨rfl, ⟨nd, rfl⟩⟩) | (go_at_call 36; (with_reducible refine (tailwaterlaw01_gives.calls 6 (-3) 0 0 true _ A8.out).mono ?_); rintro e w' ⟨rfl, ⟨nd, rfl⟩⟩) | (go_at_call 36; (with_reducible refine (tailwaterlaw01_gives.calls 7 3037000500 3037000500 (-9223372036709301616) true _ A10.out).mono ?_); rintro e w' ⟨rfl, ⟨nd, rfl⟩⟩) | (go_at_call 36; (with_reducible refine (tailwaterlaw01_gives.calls 9 (-9223372036854775808) 1 9223372036854775807 true _ A12.out).mono ?_); rintro e w' ⟨rfl, ⟨nd, rfl⟩⟩) | (go_at_call 36; (with_reducible refine (tailwaterlaw01_gives.calls 10 3 63 (-9223372036854775808) true _ A14.out).mono ?_); rintro e w' ⟨rfl, ⟨nd, rfl⟩⟩) | (go_at_call 36; (with_reducible refine (tailwaterlaw01_gives.calls 11 (-9223372036854775808) 63 (-1) true _ A16.out).mono ?_); rintro e w' ⟨rfl, ⟨nd, rfl⟩⟩) | (go_at_call 36; (with_reducible refine (tailwaterlaw01_gives.calls 10 7 0 7 true _ A18.out).mono ?_); rintro e w' ⟨rfl, ⟨nd, rfl⟩⟩) | (go_at_call 36; (with_reducible refine (tailwaterlaw01_gives.calls 11 7 64 7 true _ A20.out).mono ?_); rintro e w' ⟨rfl, ⟨nd, rfl⟩⟩) | (go_at_call 36; (with_reducible refine (tailwaterlaw01_gives.calls 18 2 4 1 false _ A22.out).mono ?_); rintro e w' ⟨rfl, ⟨nd, rfl⟩⟩))
                          go_meet
                          case rel => exact ⟨_, (false), (by first | rfl | (simp; done) | (simp [*]; done)), H', ⟨by first | omega | exact Nat.le_refl _⟩, ⟨by repeat (first | (with_reducible first | exact HB.out | apply below_alloc | apply pw_below_drewN | apply below_drew1) | exact HB.out)⟩⟩
                      · replace c21 := Bool.eq_false_iff.mpr c21
                        subst c21
                        have H1 : (tailwaterlaw01_IntsNames.j0 k false) = some true := by rw [if_neg (show ¬ (false = true) by decide)] at H; exact H
                        clear H
                        have H := H1
                        clear H1
                        have H' := Aside0.mk H
                        clear H
                        go_wp2_with (first | ((with_reducible refine gate_callee (f := 36) rfl ?_); refine goesL_ (some 21) rfl rfl Tryd.func36 (by kernel_rfl) rfl #[.int .u8 5, .int .i64 5, .int .i64 9, .int .i64 (-5)] rfl (by (try simp only [List.map_toArray, List.map_cons, List.map_nil]); first | done | rfl | (simp only [List.length_drop, List.length_take]; rfl)) ?_; (with_reducible refine (tailwaterlaw01_gives.calls 5 5 9 (-5) true _ A2.out).mono ?_); rintro e w' ⟨rfl, ⟨nd, rfl⟩⟩; refine ⟨_, rfl, ?_⟩) | (go_at_call 36; (with_reducible refine (tailwaterlaw01_gives.calls 5 (-9223372036854775808) 0 (-9223372036854775808) true _ A4.out).mono ?_); rintro e w' ⟨rfl, ⟨nd, rfl⟩⟩) | (go_at_call 36; (with_reducible refine (tailwaterlaw01_gives.calls 6 0 9 1 true _ A6.out).mono ?_); rintro e w' ⟨rfl, ⟨nd, rfl⟩⟩) | (go_at_call 36; (with_reducible refine (tailwaterlaw01_gives.calls 6 (-3) 0 0 true _ A8.out).mono ?_); rintro e w' ⟨rfl, ⟨nd, rfl⟩⟩) | (go_at_call 36; (with_reducible refine (tailwaterlaw01_gives.calls 7 3037000500 3037000500 (-9223372036709301616) true _ A10.out).mono ?_); rintro e w' ⟨rfl, ⟨nd, rfl⟩⟩) | (go_at_call 36; (with_reducible refine (tailwaterlaw01_gives.calls 9 (-9223372036854775808) 1 9223372036854775807 true _ A12.out).mono ?_); rintro e w' ⟨rfl, ⟨nd, rfl⟩⟩) | (go_at_call 36; (with_reducible refine (tailwaterlaw01_gives.calls 10 3 63 (-9223372036854775808) true _ A14.out).mono ?_); rintro e w' ⟨rfl, ⟨nd, rfl⟩⟩) | (go_at_call 36; (with_reducible refine (tailwaterlaw01_gives.calls 11 (-9223372036854775808) 63 (-1) true _ A16.out).mono ?_); rintro e w' ⟨rfl, ⟨nd, rfl⟩⟩) | (go_at_call 36; (with_reducible refine (tailwaterlaw01_gives.calls 10 7 0 7 true _ A18.out).mono ?_); rintro e w' ⟨rfl, ⟨nd, rfl⟩⟩) | (go_at_call 36; (with_reducible refine (tailwaterlaw01_gives.calls 11 7 64 7 false _ A20.out).mono ?_); rintro e w' ⟨rfl, ⟨nd, rfl⟩⟩))
                        go_meet
                        case rel => exact ⟨_, (false), (by first | rfl | (simp; done) | (simp [*]; done)), H', ⟨by first | omega | exact Nat.le_refl _⟩, ⟨by repeat (first | (with_reducible first | exact HB.out | apply below_alloc | apply pw_below_drewN | apply below_drew1) | exact HB.out)⟩⟩
                    · replace c19 := Bool.eq_false_iff.mpr c19
                      subst c19
                      have H1 : (tailwaterlaw01_IntsNames.j0 k false) = some true := by rw [if_neg (show ¬ (false = true) by decide)] at H; exact H
                      clear H
                      have H := H1
                      clear H1
                      have H' := Aside0.mk H
                      clear H
                      go_wp2_with (first | ((with_reducible refine gate_callee (f := 36) rfl ?_); refine goesL_ (some 21) rfl rfl Tryd.func36 (by kernel_rfl) rfl #[.int .u8 5, .int .i64 5, .int .i64 9, .int .i64 (-5)] rfl (by (try simp only [List.map_toArray, List.map_cons, List.map_nil]); first | done | rfl | (simp only [List.length_drop, List.length_take]; rfl)) ?_; (with_reducible refine (tailwaterlaw01_gives.calls 5 5 9 (-5) true _ A2.out).mono ?_); rintro e w' ⟨rfl, ⟨nd, rfl⟩⟩; refine ⟨_, rfl, ?_⟩) | (go_at_call 36; (with_reducible refine (tailwaterlaw01_gives.calls 5 (-9223372036854775808) 0 (-9223372036854775808) true _ A4.out).mono ?_); rintro e w' ⟨rfl, ⟨nd, rfl⟩⟩) | (go_at_call 36; (with_reducible refine (tailwaterlaw01_gives.calls 6 0 9 1 true _ A6.out).mono ?_); rintro e w' ⟨rfl, ⟨nd, rfl⟩⟩) | (go_at_call 36; (with_reducible refine (tailwaterlaw01_gives.calls 6 (-3) 0 0 true _ A8.out).mono ?_); rintro e w' ⟨rfl, ⟨nd, rfl⟩⟩) | (go_at_call 36; (with_reducible refine (tailwaterlaw01_gives.calls 7 3037000500 3037000500 (-9223372036709301616) true _ A10.out).mono ?_); rintro e w' ⟨rfl, ⟨nd, rfl⟩⟩) | (go_at_call 36; (with_reducible refine (tailwaterlaw01_gives.calls 9 (-9223372036854775808) 1 9223372036854775807 true _ A12.out).mono ?_); rintro e w' ⟨rfl, ⟨nd, rfl⟩⟩) | (go_at_call 36; (with_reducible refine (tailwaterlaw01_gives.calls 10 3 63 (-9223372036854775808) true _ A14.out).mono ?_); rintro e w' ⟨rfl, ⟨nd, rfl⟩⟩) | (go_at_call 36; (with_reducible refine (tailwaterlaw01_gives.calls 11 (-9223372036854775808) 63 (-1) true _ A16.out).mono ?_); rintro e w' ⟨rfl, ⟨nd, rfl⟩⟩) | (go_at_call 36; (with_reducible refine (tailwaterlaw01_gives.calls 10 7 0 7 false _ A18.out).mono ?_); rintro e w' ⟨rfl, ⟨nd, rfl⟩⟩))
                      go_meet
                      case rel => exact ⟨_, (false), (by first | rfl | (simp; done) | (simp [*]; done)), H', ⟨by first | omega | exact Nat.le_refl _⟩, ⟨by repeat (first | (with_reducible first | exact HB.out | apply below_alloc | apply pw_below_drewN | apply below_drew1) | exact HB.out)⟩⟩
                  · replace c17 := Bool.eq_false_iff.mpr c17
                    subst c17
                    have H1 : (tailwaterlaw01_IntsNames.j0 k false) = some true := by rw [if_neg (show ¬ (false = true) by decide)] at H; exact H
                    clear H
                    have H := H1
                    clear H1
                    have H' := Aside0.mk H
                    clear H
                    go_wp2_with (first | ((with_reducible refine gate_callee (f := 36) rfl ?_); refine goesL_ (some 21) rfl rfl Tryd.func36 (by kernel_rfl) rfl #[.int .u8 5, .int .i64 5, .int .i64 9, .int .i64 (-5)] rfl (by (try simp only [List.map_toArray, List.map_cons, List.map_nil]); first | done | rfl | (simp only [List.length_drop, List.length_take]; rfl)) ?_; (with_reducible refine (tailwaterlaw01_gives.calls 5 5 9 (-5) true _ A2.out).mono ?_); rintro e w' ⟨rfl, ⟨nd, rfl⟩⟩; refine ⟨_, rfl, ?_⟩) | (go_at_call 36; (with_reducible refine (tailwaterlaw01_gives.calls 5 (-9223372036854775808) 0 (-9223372036854775808) true _ A4.out).mono ?_); rintro e w' ⟨rfl, ⟨nd, rfl⟩⟩) | (go_at_call 36; (with_reducible refine (tailwaterlaw01_gives.calls 6 0 9 1 true _ A6.out).mono ?_); rintro e w' ⟨rfl, ⟨nd, rfl⟩⟩) | (go_at_call 36; (with_reducible refine (tailwaterlaw01_gives.calls 6 (-3) 0 0 true _ A8.out).mono ?_); rintro e w' ⟨rfl, ⟨nd, rfl⟩⟩) | (go_at_call 36; (with_reducible refine (tailwaterlaw01_gives.calls 7 3037000500 3037000500 (-9223372036709301616) true _ A10.out).mono ?_); rintro e w' ⟨rfl, ⟨nd, rfl⟩⟩) | (go_at_call 36; (with_reducible refine (tailwaterlaw01_gives.calls 9 (-9223372036854775808) 1 9223372036854775807 true _ A12.out).mono ?_); rintro e w' ⟨rfl, ⟨nd, rfl⟩⟩) | (go_at_call 36; (with_reducible refine (tailwaterlaw01_gives.calls 10 3 63 (-9223372036854775808) true _ A14.out).mono ?_); rintro e w' ⟨rfl, ⟨nd, rfl⟩⟩) | (go_at_call 36; (with_reducible refine (tailwaterlaw01_gives.calls 11 (-9223372036854775808) 63 (-1) false _ A16.out).mono ?_); rintro e w' ⟨rfl, ⟨nd, rfl⟩⟩))
                    go_meet
                    case rel => exact ⟨_, (false), (by first | rfl | (simp; done) | (simp [*]; done)), H', ⟨by first | omega | exact Nat.le_refl _⟩, ⟨by repeat (first | (with_reducible first | exact HB.out | apply below_alloc | apply pw_below_drewN | apply below_drew1) | exact HB.out)⟩⟩
                · replace c15 := Bool.eq_false_iff.mpr c15
                  subst c15
                  have H1 : (tailwaterlaw01_IntsNames.j0 k false) = some true := by rw [if_neg (show ¬ (false = true) by decide)] at H; exact H
                  clear H
                  have H := H1
                  clear H1
                  have H' := Aside0.mk H
                  clear H
                  go_wp2_with (first | ((with_reducible refine gate_callee (f := 36) rfl ?_); refine goesL_ (some 21) rfl rfl Tryd.func36 (by kernel_rfl) rfl #[.int .u8 5, .int .i64 5, .int .i64 9, .int .i64 (-5)] rfl (by (try simp only [List.map_toArray, List.map_cons, List.map_nil]); first | done | rfl | (simp only [List.length_drop, List.length_take]; rfl)) ?_; (with_reducible refine (tailwaterlaw01_gives.calls 5 5 9 (-5) true _ A2.out).mono ?_); rintro e w' ⟨rfl, ⟨nd, rfl⟩⟩; refine ⟨_, rfl, ?_⟩) | (go_at_call 36; (with_reducible refine (tailwaterlaw01_gives.calls 5 (-9223372036854775808) 0 (-9223372036854775808) true _ A4.out).mono ?_); rintro e w' ⟨rfl, ⟨nd, rfl⟩⟩) | (go_at_call 36; (with_reducible refine (tailwaterlaw01_gives.calls 6 0 9 1 true _ A6.out).mono ?_); rintro e w' ⟨rfl, ⟨nd, rfl⟩⟩) | (go_at_call 36; (with_reducible refine (tailwaterlaw01_gives.calls 6 (-3) 0 0 true _ A8.out).mono ?_); rintro e w' ⟨rfl, ⟨nd, rfl⟩⟩) | (go_at_call 36; (with_reducible refine (tailwaterlaw01_gives.calls 7 3037000500 3037000500 (-9223372036709301616) true _ A10.out).mono ?_); rintro e w' ⟨rfl, ⟨nd, rfl⟩⟩) | (go_at_call 36; (with_reducible refine (tailwaterlaw01_gives.calls 9 (-9223372036854775808) 1 9223372036854775807 true _ A12.out).mono ?_); rintro e w' ⟨rfl, ⟨nd, rfl⟩⟩) | (go_at_call 36; (with_reducible refine (tailwaterlaw01_gives.calls 10 3 63 (-9223372036854775808) false _ A14.out).mono ?_); rintro e w' ⟨rfl, ⟨nd, rfl⟩⟩))
                  go_meet
                  case rel => exact ⟨_, (false), (by first | rfl | (simp; done) | (simp [*]; done)), H', ⟨by first | omega | exact Nat.le_refl _⟩, ⟨by repeat (first | (with_reducible first | exact HB.out | apply below_alloc | apply pw_below_drewN | apply below_drew1) | exact HB.out)⟩⟩
              · replace c13 := Bool.eq_false_iff.mpr c13
                subst c13
                have H1 : (tailwaterlaw01_IntsNames.j0 k false) = some true := by rw [if_neg (show ¬ (false = true) by decide)] at H; exact H
                clear H
                have H := H1
                clear H1
                have H' := Aside0.mk H
                clear H
                go_wp2_with (first | ((with_reducible refine gate_callee (f := 36) rfl ?_); refine goesL_ (some 21) rfl rfl Tryd.func36 (by kernel_rfl) rfl #[.int .u8 5, .int .i64 5, .int .i64 9, .int .i64 (-5)] rfl (by (try simp only [List.map_toArray, List.map_cons, List.map_nil]); first | done | rfl | (simp only [List.length_drop, List.length_take]; rfl)) ?_; (with_reducible refine (tailwaterlaw01_gives.calls 5 5 9 (-5) true _ A2.out).mono ?_); rintro e w' ⟨rfl, ⟨nd, rfl⟩⟩; refine ⟨_, rfl, ?_⟩) | (go_at_call 36; (with_reducible refine (tailwaterlaw01_gives.calls 5 (-9223372036854775808) 0 (-9223372036854775808) true _ A4.out).mono ?_); rintro e w' ⟨rfl, ⟨nd, rfl⟩⟩) | (go_at_call 36; (with_reducible refine (tailwaterlaw01_gives.calls 6 0 9 1 true _ A6.out).mono ?_); rintro e w' ⟨rfl, ⟨nd, rfl⟩⟩) | (go_at_call 36; (with_reducible refine (tailwaterlaw01_gives.calls 6 (-3) 0 0 true _ A8.out).mono ?_); rintro e w' ⟨rfl, ⟨nd, rfl⟩⟩) | (go_at_call 36; (with_reducible refine (tailwaterlaw01_gives.calls 7 3037000500 3037000500 (-9223372036709301616) true _ A10.out).mono ?_); rintro e w' ⟨rfl, ⟨nd, rfl⟩⟩) | (go_at_call 36; (with_reducible refine (tailwaterlaw01_gives.calls 9 (-9223372036854775808) 1 9223372036854775807 false _ A12.out).mono ?_); rintro e w' ⟨rfl, ⟨nd, rfl⟩⟩))
                go_meet
                case rel => exact ⟨_, (false), (by first | rfl | (simp; done) | (simp [*]; done)), H', ⟨by first | omega | exact Nat.le_refl _⟩, ⟨by repeat (first | (with_reducible first | exact HB.out | apply below_alloc | apply pw_below_drewN | apply below_drew1) | exact HB.out)⟩⟩
            · replace c11 := Bool.eq_false_iff.mpr c11
              subst c11
              have H1 : (tailwaterlaw01_IntsNames.j0 k false) = some true := by rw [if_neg (show ¬ (false = true) by decide)] at H; exact H
              clear H
              have H := H1
              clear H1
              have H' := Aside0.mk H
              clear H
              go_wp2_with (first | ((with_reducible refine gate_callee (f := 36) rfl ?_); refine goesL_ (some 21) rfl rfl Tryd.func36 (by kernel_rfl) rfl #[.int .u8 5, .int .i64 5, .int .i64 9, .int .i64 (-5)] rfl (by (try simp only [List.map_toArray, List.map_cons, List.map_nil]); first | done | rfl | (simp only [List.length_drop, List.length_take]; rfl)) ?_; (with_reducible refine (tailwaterlaw01_gives.calls 5 5 9 (-5) true _ A2.out).mono ?_); rintro e w' ⟨rfl, ⟨nd, rfl⟩⟩; refine ⟨_, rfl, ?_⟩) | (go_at_call 36; (with_reducible refine (tailwaterlaw01_gives.calls 5 (-9223372036854775808) 0 (-9223372036854775808) true _ A4.out).mono ?_); rintro e w' ⟨rfl, ⟨nd, rfl⟩⟩) | (go_at_call 36; (with_reducible refine (tailwaterlaw01_gives.calls 6 0 9 1 true _ A6.out).mono ?_); rintro e w' ⟨rfl, ⟨nd, rfl⟩⟩) | (go_at_call 36; (with_reducible refine (tailwaterlaw01_gives.calls 6 (-3) 0 0 true _ A8.out).mono ?_); rintro e w' ⟨rfl, ⟨nd, rfl⟩⟩) | (go_at_call 36; (with_reducible refine (tailwaterlaw01_gives.calls 7 3037000500 3037000500 (-9223372036709301616) false _ A10.out).mono ?_); rintro e w' ⟨rfl, ⟨nd, rfl⟩⟩))
              go_meet
              case rel => exact ⟨_, (false), (by first | rfl | (simp; done) | (simp [*]; done)), H', ⟨by first | omega | exact Nat.le_refl _⟩, ⟨by repeat (first | (with_reducible first | exact HB.out | apply below_alloc | apply pw_below_drewN | apply below_drew1) | exact HB.out)⟩⟩
          · replace c9 := Bool.eq_false_iff.mpr c9
            subst c9
            have H1 : (tailwaterlaw01_IntsNames.j0 k false) = some true := by rw [if_neg (show ¬ (false = true) by decide)] at H; exact H
            clear H
            have H := H1
            clear H1
            have H' := Aside0.mk H
            clear H
            go_wp2_with (first | ((with_reducible refine gate_callee (f := 36) rfl ?_); refine goesL_ (some 21) rfl rfl Tryd.func36 (by kernel_rfl) rfl #[.int .u8 5, .int .i64 5, .int .i64 9, .int .i64 (-5)] rfl (by (try simp only [List.map_toArray, List.map_cons, List.map_nil]); first | done | rfl | (simp only [List.length_drop, List.length_take]; rfl)) ?_; (with_reducible refine (tailwaterlaw01_gives.calls 5 5 9 (-5) true _ A2.out).mono ?_); rintro e w' ⟨rfl, ⟨nd, rfl⟩⟩; refine ⟨_, rfl, ?_⟩) | (go_at_call 36; (with_reducible refine (tailwaterlaw01_gives.calls 5 (-9223372036854775808) 0 (-9223372036854775808) true _ A4.out).mono ?_); rintro e w' ⟨rfl, ⟨nd, rfl⟩⟩) | (go_at_call 36; (with_reducible refine (tailwaterlaw01_gives.calls 6 0 9 1 true _ A6.out).mono ?_); rintro e w' ⟨rfl, ⟨nd, rfl⟩⟩) | (go_at_call 36; (with_reducible refine (tailwaterlaw01_gives.calls 6 (-3) 0 0 false _ A8.out).mono ?_); rintro e w' ⟨rfl, ⟨nd, rfl⟩⟩))
            go_meet
            case rel => exact ⟨_, (false), (by first | rfl | (simp; done) | (simp [*]; done)), H', ⟨by first | omega | exact Nat.le_refl _⟩, ⟨by repeat (first | (with_reducible first | exact HB.out | apply below_alloc | apply pw_below_drewN | apply below_drew1) | exact HB.out)⟩⟩
        · replace c7 := Bool.eq_false_iff.mpr c7
          subst c7
          have H1 : (tailwaterlaw01_IntsNames.j0 k false) = some true := by rw [if_neg (show ¬ (false = true) by decide)] at H; exact H
          clear H
          have H := H1
          clear H1
          have H' := Aside0.mk H
          clear H
          go_wp2_with (first | ((with_reducible refine gate_callee (f := 36) rfl ?_); refine goesL_ (some 21) rfl rfl Tryd.func36 (by kernel_rfl) rfl #[.int .u8 5, .int .i64 5, .int .i64 9, .int .i64 (-5)] rfl (by (try simp only [List.map_toArray, List.map_cons, List.map_nil]); first | done | rfl | (simp only [List.length_drop, List.length_take]; rfl)) ?_; (with_reducible refine (tailwaterlaw01_gives.calls 5 5 9 (-5) true _ A2.out).mono ?_); rintro e w' ⟨rfl, ⟨nd, rfl⟩⟩; refine ⟨_, rfl, ?_⟩) | (go_at_call 36; (with_reducible refine (tailwaterlaw01_gives.calls 5 (-9223372036854775808) 0 (-9223372036854775808) true _ A4.out).mono ?_); rintro e w' ⟨rfl, ⟨nd, rfl⟩⟩) | (go_at_call 36; (with_reducible refine (tailwaterlaw01_gives.calls 6 0 9 1 false _ A6.out).mono ?_); rintro e w' ⟨rfl, ⟨nd, rfl⟩⟩))
          go_meet
          case rel => exact ⟨_, (false), (by first | rfl | (simp; done) | (simp [*]; done)), H', ⟨by first | omega | exact Nat.le_refl _⟩, ⟨by repeat (first | (with_reducible first | exact HB.out | apply below_alloc | apply pw_below_drewN | apply below_drew1) | exact HB.out)⟩⟩
      · replace c5 := Bool.eq_false_iff.mpr c5
        subst c5
        have H1 : (tailwaterlaw01_IntsNames.j0 k false) = some true := by rw [if_neg (show ¬ (false = true) by decide)] at H; exact H
        clear H
        have H := H1
        clear H1
        have H' := Aside0.mk H
        clear H
        go_wp2_with (first | ((with_reducible refine gate_callee (f := 36) rfl ?_); refine goesL_ (some 21) rfl rfl Tryd.func36 (by kernel_rfl) rfl #[.int .u8 5, .int .i64 5, .int .i64 9, .int .i64 (-5)] rfl (by (try simp only [List.map_toArray, List.map_cons, List.map_nil]); first | done | rfl | (simp only [List.length_drop, List.length_take]; rfl)) ?_; (with_reducible refine (tailwaterlaw01_gives.calls 5 5 9 (-5) true _ A2.out).mono ?_); rintro e w' ⟨rfl, ⟨nd, rfl⟩⟩; refine ⟨_, rfl, ?_⟩) | (go_at_call 36; (with_reducible refine (tailwaterlaw01_gives.calls 5 (-9223372036854775808) 0 (-9223372036854775808) false _ A4.out).mono ?_); rintro e w' ⟨rfl, ⟨nd, rfl⟩⟩))
        go_meet
        case rel => exact ⟨_, (false), (by first | rfl | (simp; done) | (simp [*]; done)), H', ⟨by first | omega | exact Nat.le_refl _⟩, ⟨by repeat (first | (with_reducible first | exact HB.out | apply below_alloc | apply pw_below_drewN | apply below_drew1) | exact HB.out)⟩⟩
    · replace c3 := Bool.eq_false_iff.mpr c3
      subst c3
      have H1 : (tailwaterlaw01_IntsNames.j0 k false) = some true := by rw [if_neg (show ¬ (false = true) by decide)] at H; exact H
      clear H
      have H := H1
      clear H1
      have H' := Aside0.mk H
      clear H
      go_wp2_with (first | ((with_reducible refine gate_callee (f := 36) rfl ?_); refine goesL_ (some 21) rfl rfl Tryd.func36 (by kernel_rfl) rfl #[.int .u8 5, .int .i64 5, .int .i64 9, .int .i64 (-5)] rfl (by (try simp only [List.map_toArray, List.map_cons, List.map_nil]); first | done | rfl | (simp only [List.length_drop, List.length_take]; rfl)) ?_; (with_reducible refine (tailwaterlaw01_gives.calls 5 5 9 (-5) false _ A2.out).mono ?_); rintro e w' ⟨rfl, ⟨nd, rfl⟩⟩; refine ⟨_, rfl, ?_⟩))
      go_meet
      case rel => exact ⟨_, (false), (by first | rfl | (simp; done) | (simp [*]; done)), H', ⟨by first | omega | exact Nat.le_refl _⟩, ⟨by repeat (first | (with_reducible first | exact HB.out | apply below_alloc | apply pw_below_drewN | apply below_drew1) | exact HB.out)⟩⟩
  case rest =>
    clear HC1
    try clear c1
    try clear c2
    try clear p2
    try clear c3
    try clear c5
    try clear c7
    try clear c9
    try clear c11
    try clear c13
    try clear c15
    try clear c17
    try clear c19
    try clear c21
    try clear c23
    try clear c25
    try clear c27
    obtain ⟨kq, x1_0, rfl, HA, HJ0, HB⟩ := hcut
    cases kq with
    | zero => exact absurd HA.out (by simp [tailwaterlaw01_IntsNames.j0])
    | succ kj0 =>
      have H := HA.out
      clear HA
      simp only [tailwaterlaw01_IntsNames.j0] at H
      obtain ⟨y245, hy245⟩ : ∃ y_ : List (S65), y_ = (([(⟨1, 0, 0⟩ : S65), (⟨1, 1, 0⟩ : S65), (⟨0, 0, 1⟩ : S65), (⟨0, 1, 1⟩ : S65), (⟨0, 1, 0⟩ : S65), (⟨1, 0, 1⟩ : S65)] : List (S65))) := ⟨_, rfl⟩
      replace H : (tailwaterlaw01_IntsNames.l0 kj0 x1_0 y245 0) = some true := by first | (rw [hy245]; with_reducible exact H) | (have H2_ := (Option.bind_some _ _).symm.trans H; rw [hy245]; with_reducible exact H2_) | (have H2_ := (Option.bind_some _ _).symm.trans H; with_reducible exact H2_) | with_reducible exact H | (rw [hy245]; exact H) | exact H
      have Ny245 := Aside0.mk hy245
      clear hy245
      have H' := Aside0.mk H
      clear H
      go_wp2_with (first | ((with_reducible refine gate_dst (N := 67) rfl ?_); refine Kd.R_lit k65 _ 65 ?hg (N := 67) ?hd (xs := ([(⟨1, 0, 0⟩ : S65), (⟨1, 1, 0⟩ : S65), (⟨0, 0, 1⟩ : S65), (⟨0, 1, 1⟩ : S65), (⟨0, 1, 0⟩ : S65), (⟨1, 0, 1⟩ : S65)] : List (S65))) (inner := [.int .i64 1, .int .i64 0, .int .i64 0, .int .i64 1, .int .i64 1, .int .i64 0, .int .i64 0, .int .i64 0, .int .i64 1, .int .i64 0, .int .i64 1, .int .i64 1, .int .i64 0, .int .i64 1, .int .i64 0, .int .i64 1, .int .i64 0, .int .i64 1]) (ok := fun _ => True) (okp := fun _ => True) ?hr ?hp (fun _ hk => hk) trivial (Below.refl _ _) (Nat.le_refl _) (by simp) ?_; (case hd => rfl); (case hg => rfl); (case hr => first | (go_simp; done) | (go_simp; rfl)); (case hp => exact (Reps.c3 (show Kd.M k65 _ _ _ (⟨1, 0, 0⟩ : S65) [.int .i64 1, .int .i64 0, .int .i64 0] from (k65_mkM _ _ _ (⟨1, 0, 0⟩ : S65) )) (Reps.c3 (show Kd.M k65 _ _ _ (⟨1, 1, 0⟩ : S65) [.int .i64 1, .int .i64 1, .int .i64 0] from (k65_mkM _ _ _ (⟨1, 1, 0⟩ : S65) )) (Reps.c3 (show Kd.M k65 _ _ _ (⟨0, 0, 1⟩ : S65) [.int .i64 0, .int .i64 0, .int .i64 1] from (k65_mkM _ _ _ (⟨0, 0, 1⟩ : S65) )) (Reps.c3 (show Kd.M k65 _ _ _ (⟨0, 1, 1⟩ : S65) [.int .i64 0, .int .i64 1, .int .i64 1] from (k65_mkM _ _ _ (⟨0, 1, 1⟩ : S65) )) (Reps.c3 (show Kd.M k65 _ _ _ (⟨0, 1, 0⟩ : S65) [.int .i64 0, .int .i64 1, .int .i64 0] from (k65_mkM _ _ _ (⟨0, 1, 0⟩ : S65) )) (Reps.c3 (show Kd.M k65 _ _ _ (⟨1, 0, 1⟩ : S65) [.int .i64 1, .int .i64 0, .int .i64 1] from (k65_mkM _ _ _ (⟨1, 0, 1⟩ : S65) )) (Reps.none _ _)))))))); intro v246 w29 ho30 hb hg_ hnew_; clear hg_ hnew_; (first | rw [← Ny245.out] at ho30 | (simp only [Int.reduceToNat] at ho30; rw [← Ny245.out] at ho30)); have n0_ := Aside0.mk (Kd.R_lower ho30 (below_size (by repeat (first | (with_reducible first | exact HB.out | apply below_alloc | apply pw_below_drewN | apply below_drew1) | exact HB.out)))); have n1_ := Aside0.mk (below_step (by repeat (first | (with_reducible first | exact HB.out | apply below_alloc | apply pw_below_drewN | apply below_drew1) | exact HB.out)) hb); clear HB; have HO247 := n0_; have HB := n1_; clear n0_ n1_; clear hb ho30))
      go_loopg [3] kj0 (fun kq v3 w' => ∃ (x3_2 : Int), v3 = .int .i64 x3_2 ∧ Aside0 (tailwaterlaw01_IntsNames.l0 kq x1_0 y245 x3_2 = some true) ∧ Aside0 (kq ≤ kj0) ∧ Aside0 (Kd.R k65 65 w' w.heap.size (fun _ => True) v246 y245) ∧ Aside0 (Below w.heap.size w w'))
      case atStart => exact ⟨(0), (by first | rfl | (simp; done) | (simp [*]; done)), H', ⟨Nat.le_refl _⟩, ⟨by (with_reducible repeat (first | apply Kd.R_alloc | apply Kd.R_drewN | apply Kd.R_drew)); exact HO247.out⟩, ⟨by repeat (first | (with_reducible first | exact HB.out | apply below_alloc | apply pw_below_drewN | apply below_drew1) | exact HB.out)⟩⟩
      case round =>
        clear H'
        try clear c1
        try clear c2
        try clear p2
        try clear c3
        try clear c5
        try clear c7
        try clear c9
        try clear c11
        try clear c13
        try clear c15
        try clear c17
        try clear c19
        try clear c21
        try clear c23
        try clear c25
        try clear c27
        try clear p2
        obtain ⟨x3_2, rfl, HA, HK2, HO_2, HB⟩ := hrel
        cases gk with
        | zero => exact absurd HA.out (by simp [tailwaterlaw01_IntsNames.l0])
        | succ k2 =>
          have H := HA.out
          clear HA
          simp only [tailwaterlaw01_IntsNames.l0] at H
          by_cases c31 : x3_2 < 6
          · rw [if_pos c31] at H
            have c31b0 : decide (x3_2 < 6) = true := decide_eq_true c31
            clear c31
            by_cases c32 : 0 ≤ x3_2
            · rw [if_pos c32] at H
              have c32b0 : decide (0 ≤ x3_2) = true := decide_eq_true c32
              clear c32
              by_cases c33 : x3_2 < (y245.length : Int)
              · rw [if_pos c33] at H
                have c33b0 : decide (x3_2 < (y245.length : Int)) = true := decide_eq_true c33
                clear c33
                replace H := Option.bind_eq_some_iff.mp H
                obtain ⟨t249, A340, H⟩ := H
                replace H : (if t249 = true then ((tailwaterlaw01_gives.f ((12 + ((x3_2) % 256)) % 256) 2 2 ((rd_T65 y245 x3_2).f1)).bind fun t251 => (if t251 = true then ((tailwaterlaw01_gives.f ((12 + ((x3_2) % 256)) % 256) 2 1 ((rd_T65 y245 x3_2).f2)).bind fun t253 => (if t253 = true then (tailwaterlaw01_IntsNames.l0 k2 x1_0 y245 (wrap64 (x3_2 + 1))) else (some false))) else (some false))) else (some false)) = some true := H
                have A34 := Aside0.mk A340
                clear A340
                by_cases c35 : t249 = true
                · subst c35
                  have H1 : ((tailwaterlaw01_gives.f ((12 + ((x3_2) % 256)) % 256) 2 2 ((rd_T65 y245 x3_2).f1)).bind fun t251 => (if t251 = true then ((tailwaterlaw01_gives.f ((12 + ((x3_2) % 256)) % 256) 2 1 ((rd_T65 y245 x3_2).f2)).bind fun t253 => (if t253 = true then (tailwaterlaw01_IntsNames.l0 k2 x1_0 y245 (wrap64 (x3_2 + 1))) else (some false))) else (some false))) = some true := by rw [if_pos rfl] at H; exact H
                  clear H
                  have H := H1
                  clear H1
                  replace H := Option.bind_eq_some_iff.mp H
                  obtain ⟨t251, A360, H⟩ := H
                  replace H : (if t251 = true then ((tailwaterlaw01_gives.f ((12 + ((x3_2) % 256)) % 256) 2 1 ((rd_T65 y245 x3_2).f2)).bind fun t253 => (if t253 = true then (tailwaterlaw01_IntsNames.l0 k2 x1_0 y245 (wrap64 (x3_2 + 1))) else (some false))) else (some false)) = some true := H
                  have A36 := Aside0.mk A360
                  clear A360
                  by_cases c37 : t251 = true
                  · subst c37
                    have H1 : ((tailwaterlaw01_gives.f ((12 + ((x3_2) % 256)) % 256) 2 1 ((rd_T65 y245 x3_2).f2)).bind fun t253 => (if t253 = true then (tailwaterlaw01_IntsNames.l0 k2 x1_0 y245 (wrap64 (x3_2 + 1))) else (some false))) = some true := by rw [if_pos rfl] at H; exact H
                    clear H
                    have H := H1
                    clear H1
                    replace H := Option.bind_eq_some_iff.mp H
                    obtain ⟨t253, A380, H⟩ := H
                    replace H : (if t253 = true then (tailwaterlaw01_IntsNames.l0 k2 x1_0 y245 (wrap64 (x3_2 + 1))) else (some false)) = some true := H
                    have A38 := Aside0.mk A380
                    clear A380
                    by_cases c39 : t253 = true
                    · subst c39
                      have H1 : (tailwaterlaw01_IntsNames.l0 k2 x1_0 y245 (wrap64 (x3_2 + 1))) = some true := by rw [if_pos rfl] at H; exact H
                      clear H
                      have H := H1
                      clear H1
                      have H' := Aside0.mk H
                      clear H
                      obtain ⟨Ao40, co40, eo40⟩ := Kd.R_slice HO_2.out
                      subst eo40
                      have p248 : 0 ≤ (x3_2 : Int) := of_decide_eq_true (by first | (with_reducible assumption) | assumption)
                      have q248 : x3_2 < (y245.length : Int) := of_decide_eq_true (by first | (with_reducible assumption) | assumption)
                      obtain ⟨ad248, e248, hx248_0, hx248_1, hx248_2⟩ := at_T65 (Kd.R_reads' HO_2.out).2.2 x3_2 p248 q248
                      cases e248
                      replace p248 := eq_true p248
                      replace q248 := eq_true q248
                      have E12 : (12 + ((x3_2) % 256)) % 256 = (12 + x3_2) % 256 := Int.add_emod_emod 12 x3_2 256
                      go_wp2_with (first | ((with_reducible refine gate_callee (f := 36) rfl ?_); refine goesL_ (some 81) rfl rfl Tryd.func36 (by kernel_rfl) rfl #[.int .u8 ((12 + ((x3_2) % 256)) % 256), .int .i64 1, .int .i64 2, .int .i64 ((rd_T65 y245 x3_2).f0)] rfl (by (try simp only [List.map_toArray, List.map_cons, List.map_nil]); first | done | rfl | (simp only [List.length_drop, List.length_take]; rfl)) ?_; (with_reducible refine (tailwaterlaw01_gives.calls ((12 + ((x3_2) % 256)) % 256) 1 2 ((rd_T65 y245 x3_2).f0) true _ A34.out).mono ?_); rintro e w' ⟨rfl, ⟨nd, rfl⟩⟩; refine ⟨_, rfl, ?_⟩; have p250 : 0 ≤ (x3_2 : Int) := of_decide_eq_true (by first | (with_reducible assumption) | assumption); have q250 : x3_2 < (y245.length : Int) := of_decide_eq_true (by first | (with_reducible assumption) | assumption); obtain ⟨ad250, e250, hx250_0, hx250_1, hx250_2⟩ := at_T65 (Kd.R_reads' HO_2.out).2.2 x3_2 p250 q250; obtain rfl : ad248 = ad250 := (by injection e250); replace p250 := eq_true p250; replace q250 := eq_true q250) | (go_at_call 36; (with_reducible refine (tailwaterlaw01_gives.calls ((12 + x3_2) % 256) 2 2 ((rd_T65 y245 x3_2).f1) true _ (E12 ▸ A36.out)).mono ?_); rintro e w' ⟨rfl, ⟨nd, rfl⟩⟩; have p252 : 0 ≤ (x3_2 : Int) := of_decide_eq_true (by first | (with_reducible assumption) | assumption); have q252 : x3_2 < (y245.length : Int) := of_decide_eq_true (by first | (with_reducible assumption) | assumption); obtain ⟨ad252, e252, hx252_0, hx252_1, hx252_2⟩ := at_T65 (Kd.R_reads' HO_2.out).2.2 x3_2 p252 q252; obtain rfl : ad248 = ad252 := (by injection e252); replace p252 := eq_true p252; replace q252 := eq_true q252) | (go_at_call 36; (with_reducible refine (tailwaterlaw01_gives.calls ((12 + x3_2) % 256) 2 1 ((rd_T65 y245 x3_2).f2) true _ (E12 ▸ A38.out)).mono ?_); rintro e w' ⟨rfl, ⟨nd, rfl⟩⟩))
                      go_roundg k2
                      case measure => have := HJ0.out; have := HK2.out; omega
                      case rel => exact ⟨(wrap64 (x3_2 + 1)), (by first | rfl | (simp; done) | (simp [*]; done)), H', ⟨by have := HJ0.out; have := HK2.out; omega⟩, ⟨by (with_reducible repeat (first | apply Kd.R_alloc | apply Kd.R_drewN | apply Kd.R_drew)); exact HO_2.out⟩, ⟨by repeat (first | (with_reducible first | exact HB.out | apply below_alloc | apply pw_below_drewN | apply below_drew1) | exact HB.out)⟩⟩
                    · replace c39 := Bool.eq_false_iff.mpr c39
                      subst c39
                      have H1 : (some false) = some true := by rw [if_neg (show ¬ (false = true) by decide)] at H; exact H
                      clear H
                      have H := H1
                      clear H1
                      exact absurd H (by simp)
                  · replace c37 := Bool.eq_false_iff.mpr c37
                    subst c37
                    have H1 : (some false) = some true := by rw [if_neg (show ¬ (false = true) by decide)] at H; exact H
                    clear H
                    have H := H1
                    clear H1
                    exact absurd H (by simp)
                · replace c35 := Bool.eq_false_iff.mpr c35
                  subst c35
                  have H1 : (some false) = some true := by rw [if_neg (show ¬ (false = true) by decide)] at H; exact H
                  clear H
                  have H := H1
                  clear H1
                  exact absurd H (by simp)
              · rw [if_neg c33] at H
                exact absurd H (by simp)
            · rw [if_neg c32] at H
              exact absurd H (by simp)
          · rw [if_neg c31] at H
            have c31b0 : decide (x3_2 < 6) = false := decide_eq_false c31
            clear c31
            obtain ⟨y254, hy254⟩ : ∃ y_ : List Int, y_ = (([0, 1, 4, 20, 255] : List Int)) := ⟨_, rfl⟩
            replace H : (tailwaterlaw01_IntsNames.l1 k2 x1_0 y254 0) = some true := by first | (rw [hy254]; with_reducible exact H) | (have H2_ := (Option.bind_some _ _).symm.trans H; rw [hy254]; with_reducible exact H2_) | (have H2_ := (Option.bind_some _ _).symm.trans H; with_reducible exact H2_) | with_reducible exact H | (rw [hy254]; exact H) | exact H
            have Ny254 := Aside0.mk hy254
            clear hy254
            have H' := Aside0.mk H
            clear H
            go_wp2_with (first | ((with_reducible refine gate_dst (N := 103) rfl ?_); refine Kd.R_lit (Kd.int .u8) _ 5 ?hg (N := 103) ?hd (xs := ([0, 1, 4, 20, 255] : List Int)) (inner := [.int .u8 0, .int .u8 1, .int .u8 4, .int .u8 20, .int .u8 255]) (ok := fun _ => True) (okp := fun _ => True) ?hr ?hp (fun _ hk => hk) trivial (Below.refl _ _) (Nat.le_refl _) (by simp) ?_; (case hd => rfl); (case hg => rfl); (case hr => first | (go_simp; done) | (go_simp; rfl)); (case hp => exact (Reps.one (show Kd.M (Kd.int .u8) _ _ _ 0 [.int .u8 0] from rfl) (Reps.one (show Kd.M (Kd.int .u8) _ _ _ 1 [.int .u8 1] from rfl) (Reps.one (show Kd.M (Kd.int .u8) _ _ _ 4 [.int .u8 4] from rfl) (Reps.one (show Kd.M (Kd.int .u8) _ _ _ 20 [.int .u8 20] from rfl) (Reps.one (show Kd.M (Kd.int .u8) _ _ _ 255 [.int .u8 255] from rfl) (Reps.none _ _))))))); intro v255 w41 ho42 hb hg_ hnew_; clear hg_ hnew_; (first | rw [← Ny254.out] at ho42 | (simp only [Int.reduceToNat] at ho42; rw [← Ny254.out] at ho42)); have n0_ := Aside0.mk (Kd.R_below (by (with_reducible repeat (first | apply Kd.R_alloc | apply Kd.R_drewN | apply Kd.R_drew)); exact HO_2.out) hb); have n1_ := Aside0.mk (Kd.R_lower ho42 (below_size (by repeat (first | (with_reducible first | exact HB.out | apply below_alloc | apply pw_below_drewN | apply below_drew1) | exact HB.out)))); have n2_ := Aside0.mk (below_step (by repeat (first | (with_reducible first | exact HB.out | apply below_alloc | apply pw_below_drewN | apply below_drew1) | exact HB.out)) hb); clear HO_2; clear HB; have HO_2 := n0_; have HO256 := n1_; have HB := n2_; clear n0_ n1_ n2_; clear hb ho42))
            go_loopg [6] k2 (fun kq v6 w' => ∃ (x6_3 : Int), v6 = .int .i64 x6_3 ∧ Aside0 (tailwaterlaw01_IntsNames.l1 kq x1_0 y254 x6_3 = some true) ∧ Aside0 (kq ≤ k2) ∧ Aside0 (Kd.R (Kd.int .u8) 5 w' w.heap.size (fun _ => True) v255 y254) ∧ Aside0 (Below w.heap.size w w'))
            case atStart => exact ⟨(0), (by first | rfl | (simp; done) | (simp [*]; done)), H', ⟨Nat.le_refl _⟩, ⟨by (with_reducible repeat (first | apply Kd.R_alloc | apply Kd.R_drewN | apply Kd.R_drew)); exact HO256.out⟩, ⟨by repeat (first | (with_reducible first | exact HB.out | apply below_alloc | apply pw_below_drewN | apply below_drew1) | exact HB.out)⟩⟩
            case round =>
              clear H'
              try clear c1
              try clear c2
              try clear p2
              try clear q2
              try clear hx2
              try clear c3
              try clear c5
              try clear p6
              try clear c7
              try clear c9
              try clear c11
              try clear c13
              try clear c15
              try clear c17
              try clear c19
              try clear c21
              try clear c23
              try clear p24
              try clear q24
              try clear hx24
              try clear c25
              try clear p25
              try clear q25
              try clear hx25
              try clear c27
              try clear c31
              try clear c31b0
              try clear c32
              try clear c32b0
              try clear c33
              try clear c33b0
              try clear c35
              try clear c36
              try clear c37
              try clear c39
              try clear hx248_0
              try clear hx248_1
              try clear hx248_2
              try clear hx250_0
              try clear hx250_1
              try clear hx250_2
              try clear hx252_0
              try clear hx252_1
              try clear hx252_2
              try clear p2
              try clear p248
              try clear p250
              try clear p252
              try clear q248
              try clear q250
              try clear q252
              obtain ⟨x6_3, rfl, HA, HK3, HO_5, HB⟩ := hrel
              cases gk with
              | zero => exact absurd HA.out (by simp [tailwaterlaw01_IntsNames.l1])
              | succ k3 =>
                have H := HA.out
                clear HA
                simp only [tailwaterlaw01_IntsNames.l1] at H
                by_cases c43 : x6_3 < (y254.length : Int)
                · rw [if_pos c43] at H
                  have c43b0 : decide (x6_3 < (y254.length : Int)) = true := decide_eq_true c43
                  clear c43
                  by_cases c44 : 0 ≤ x6_3
                  · rw [if_pos c44] at H
                    have c44b0 : decide (0 ≤ x6_3) = true := decide_eq_true c44
                    clear c44
                    replace H := Option.bind_eq_some_iff.mp H
                    obtain ⟨⟨t258, t259⟩, A450, H⟩ := H
                    replace H : (if t259 = 2 then (tailwaterlaw01_IntsNames.l1 k3 x1_0 y254 (wrap64 (x6_3 + 1))) else (some false)) = some true := H
                    have A45 := Aside0.mk A450
                    clear A450
                    by_cases c46 : t259 = 2
                    · rw [if_pos c46] at H
                      have c46b0 : (t259 == 2) = true := beq_iff_eq.mpr c46
                      have c46b1 : (t259 != 2) = false := bne_eq_false_iff_eq.mpr c46
                      clear c46
                      have H' := Aside0.mk H
                      clear H
                      obtain ⟨Ao47, co47, eo47⟩ := Kd.R_slice HO_5.out
                      subst eo47
                      have p257 : 0 ≤ (x6_3 : Int) := of_decide_eq_true (by first | (with_reducible assumption) | assumption)
                      have q257 : x6_3 < (y254.length : Int) := of_decide_eq_true (by first | (with_reducible assumption) | assumption)
                      obtain ⟨ad257, e257, hx257_0⟩ := Kd.at_int (Kd.R_reads' HO_5.out).2.2 x6_3 p257 q257
                      cases e257
                      replace p257 := eq_true p257
                      replace q257 := eq_true q257
                      go_wp2_with (first | ((with_reducible refine gate_callee (f := 37) rfl ?_); refine goesL_ (some 115) rfl rfl Tryd.func37 (by kernel_rfl) rfl #[.int .u8 (rd y254 x6_3), .int .i64 1, .int .i64 1] rfl (by (try simp only [List.map_toArray, List.map_cons, List.map_nil]); first | done | rfl | (simp only [List.length_drop, List.length_take]; rfl)) ?_; (with_reducible refine (ints_Do.calls (rd y254 x6_3) 1 1 t258 t259 _ A45.out).mono ?_); rintro e w' ⟨rfl, ⟨nd, rfl⟩⟩; refine ⟨_, rfl, ?_⟩))
                      go_roundg k3
                      case measure => have := HJ0.out; have := HK2.out; have := HK3.out; omega
                      case rel => exact ⟨(wrap64 (x6_3 + 1)), (by first | rfl | (simp; done) | (simp [*]; done)), H', ⟨by have := HJ0.out; have := HK2.out; have := HK3.out; omega⟩, ⟨by (with_reducible repeat (first | apply Kd.R_alloc | apply Kd.R_drewN | apply Kd.R_drew)); exact HO_5.out⟩, ⟨by repeat (first | (with_reducible first | exact HB.out | apply below_alloc | apply pw_below_drewN | apply below_drew1) | exact HB.out)⟩⟩
                    · rw [if_neg c46] at H
                      have c46b0 : (t259 == 2) = false := beq_eq_false_iff_ne.mpr c46
                      have c46b1 : (t259 != 2) = true := bne_iff_ne.mpr c46
                      exact absurd H (by simp)
                  · rw [if_neg c44] at H
                    exact absurd H (by simp)
                · rw [if_neg c43] at H
                  have c43b0 : decide (x6_3 < (y254.length : Int)) = false := decide_eq_false c43
                  clear c43
                  obtain ⟨y260, hy260⟩ : ∃ y_ : List ByteArray, y_ = (([(⟨#[]⟩ : ByteArray), (⟨#[45, 49]⟩ : ByteArray), (⟨#[43, 49]⟩ : ByteArray), (⟨#[32, 49]⟩ : ByteArray), (⟨#[49, 32]⟩ : ByteArray), (⟨#[49, 95, 48]⟩ : ByteArray), (⟨#[48, 120, 49]⟩ : ByteArray), (⟨#[49, 46]⟩ : ByteArray), (⟨#[97]⟩ : ByteArray), (⟨#[0, 49]⟩ : ByteArray)] : List ByteArray)) := ⟨_, rfl⟩
                  replace H : (tailwaterlaw01_IntsNames.l2 k3 x1_0 y260 0) = some true := by first | (rw [hy260]; with_reducible exact H) | (have H2_ := (Option.bind_some _ _).symm.trans H; rw [hy260]; with_reducible exact H2_) | (have H2_ := (Option.bind_some _ _).symm.trans H; with_reducible exact H2_) | with_reducible exact H | (rw [hy260]; exact H) | exact H
                  have Ny260 := Aside0.mk hy260
                  clear hy260
                  have H' := Aside0.mk H
                  clear H
                  obtain ⟨Ao48, co48, eo48⟩ := Kd.R_slice HO_5.out
                  subst eo48
                  go_wp2_with (first | ((with_reducible refine gate_dst (N := 120) rfl ?_); refine Kd.R_lit Kd.string _ 9 ?hg (N := 120) ?hd (xs := ([(⟨#[]⟩ : ByteArray), (⟨#[45, 49]⟩ : ByteArray), (⟨#[43, 49]⟩ : ByteArray), (⟨#[32, 49]⟩ : ByteArray), (⟨#[49, 32]⟩ : ByteArray), (⟨#[49, 95, 48]⟩ : ByteArray), (⟨#[48, 120, 49]⟩ : ByteArray), (⟨#[49, 46]⟩ : ByteArray), (⟨#[97]⟩ : ByteArray), (⟨#[0, 49]⟩ : ByteArray)] : List ByteArray)) (inner := [.string (⟨#[]⟩ : ByteArray), .string (⟨#[45, 49]⟩ : ByteArray), .string (⟨#[43, 49]⟩ : ByteArray), .string (⟨#[32, 49]⟩ : ByteArray), .string (⟨#[49, 32]⟩ : ByteArray), .string (⟨#[49, 95, 48]⟩ : ByteArray), .string (⟨#[48, 120, 49]⟩ : ByteArray), .string (⟨#[49, 46]⟩ : ByteArray), .string (⟨#[97]⟩ : ByteArray), .string (⟨#[0, 49]⟩ : ByteArray)]) (ok := fun _ => True) (okp := fun _ => True) ?hr ?hp (fun _ hk => hk) trivial (Below.refl _ _) (Nat.le_refl _) (by simp) ?_; (case hd => rfl); (case hg => rfl); (case hr => first | (go_simp; done) | (go_simp; rfl)); (case hp => exact (Reps.one (show Kd.M Kd.string _ _ _ (⟨#[]⟩ : ByteArray) [.string (⟨#[]⟩ : ByteArray)] from rfl) (Reps.one (show Kd.M Kd.string _ _ _ (⟨#[45, 49]⟩ : ByteArray) [.string (⟨#[45, 49]⟩ : ByteArray)] from rfl) (Reps.one (show Kd.M Kd.string _ _ _ (⟨#[43, 49]⟩ : ByteArray) [.string (⟨#[43, 49]⟩ : ByteArray)] from rfl) (Reps.one (show Kd.M Kd.string _ _ _ (⟨#[32, 49]⟩ : ByteArray) [.string (⟨#[32, 49]⟩ : ByteArray)] from rfl) (Reps.one (show Kd.M Kd.string _ _ _ (⟨#[49, 32]⟩ : ByteArray) [.string (⟨#[49, 32]⟩ : ByteArray)] from rfl) (Reps.one (show Kd.M Kd.string _ _ _ (⟨#[49, 95, 48]⟩ : ByteArray) [.string (⟨#[49, 95, 48]⟩ : ByteArray)] from rfl) (Reps.one (show Kd.M Kd.string _ _ _ (⟨#[48, 120, 49]⟩ : ByteArray) [.string (⟨#[48, 120, 49]⟩ : ByteArray)] from rfl) (Reps.one (show Kd.M Kd.string _ _ _ (⟨#[49, 46]⟩ : ByteArray) [.string (⟨#[49, 46]⟩ : ByteArray)] from rfl) (Reps.one (show Kd.M Kd.string _ _ _ (⟨#[97]⟩ : ByteArray) [.string (⟨#[97]⟩ : ByteArray)] from rfl) (Reps.one (show Kd.M Kd.string _ _ _ (⟨#[0, 49]⟩ : ByteArray) [.string (⟨#[0, 49]⟩ : ByteArray)] from rfl) (Reps.none _ _)))))))))))); intro v261 w49 ho50 hb hg_ hnew_; clear hg_ hnew_; (first | rw [← Ny260.out] at ho50 | (simp only [Int.reduceToNat] at ho50; rw [← Ny260.out] at ho50)); have n0_ := Aside0.mk (Kd.R_below (by (with_reducible repeat (first | apply Kd.R_alloc | apply Kd.R_drewN | apply Kd.R_drew)); exact HO_5.out) hb); have n1_ := Aside0.mk (Kd.R_lower ho50 (below_size (by repeat (first | (with_reducible first | exact HB.out | apply below_alloc | apply pw_below_drewN | apply below_drew1) | exact HB.out)))); have n2_ := Aside0.mk (below_step (by repeat (first | (with_reducible first | exact HB.out | apply below_alloc | apply pw_below_drewN | apply below_drew1) | exact HB.out)) hb); clear HO_5; clear HB; have HO_5 := n0_; have HO262 := n1_; have HB := n2_; clear n0_ n1_ n2_; clear hb ho50))
                  go_loopg [10] k3 (fun kq v10 w' => ∃ (x10_4 : Int), v10 = .int .i64 x10_4 ∧ Aside0 (tailwaterlaw01_IntsNames.l2 kq x1_0 y260 x10_4 = some true) ∧ Aside0 (kq ≤ k3) ∧ Aside0 (Kd.R Kd.string 9 w' w.heap.size (fun _ => True) v261 y260) ∧ Aside0 (Below w.heap.size w w'))
                  case atStart => exact ⟨(0), (by first | rfl | (simp; done) | (simp [*]; done)), H', ⟨Nat.le_refl _⟩, ⟨by (with_reducible repeat (first | apply Kd.R_alloc | apply Kd.R_drewN | apply Kd.R_drew)); exact HO262.out⟩, ⟨by repeat (first | (with_reducible first | exact HB.out | apply below_alloc | apply pw_below_drewN | apply below_drew1) | exact HB.out)⟩⟩
                  case round =>
                    clear H'
                    try clear c1
                    try clear c2
                    try clear p2
                    try clear q2
                    try clear hx2
                    try clear c3
                    try clear c4
                    try clear c5
                    try clear p6
                    try clear c7
                    try clear c9
                    try clear c11
                    try clear c13
                    try clear c15
                    try clear c17
                    try clear c19
                    try clear c21
                    try clear c23
                    try clear p24
                    try clear q24
                    try clear hx24
                    try clear c25
                    try clear p25
                    try clear q25
                    try clear hx25
                    try clear c27
                    try clear c31
                    try clear c31b0
                    try clear c32
                    try clear c32b0
                    try clear c33
                    try clear c33b0
                    try clear c35
                    try clear c36
                    try clear c37
                    try clear c39
                    try clear c43
                    try clear c43b0
                    try clear c44
                    try clear c44b0
                    try clear c46
                    try clear c46b0
                    try clear c46b1
                    try clear hx248_0
                    try clear hx248_1
                    try clear hx248_2
                    try clear hx250_0
                    try clear hx250_1
                    try clear hx250_2
                    try clear hx252_0
                    try clear hx252_1
                    try clear hx252_2
                    try clear hx257_0
                    try clear p2
                    try clear p24
                    try clear p248
                    try clear p25
                    try clear p250
                    try clear p252
                    try clear p257
                    try clear p6
                    try clear q2
                    try clear q24
                    try clear q248
                    try clear q25
                    try clear q250
                    try clear q252
                    try clear q257
                    obtain ⟨x10_4, rfl, HA, HK4, HO_9, HB⟩ := hrel
                    cases gk with
                    | zero => exact absurd HA.out (by simp [tailwaterlaw01_IntsNames.l2])
                    | succ k4 =>
                      have H := HA.out
                      clear HA
                      simp only [tailwaterlaw01_IntsNames.l2] at H
                      by_cases c51 : x10_4 < (y260.length : Int)
                      · rw [if_pos c51] at H
                        have c51b0 : decide (x10_4 < (y260.length : Int)) = true := decide_eq_true c51
                        clear c51
                        by_cases c52 : 0 ≤ x10_4
                        · rw [if_pos c52] at H
                          have c52b0 : decide (0 ≤ x10_4) = true := decide_eq_true c52
                          clear c52
                          replace H := Option.bind_eq_some_iff.mp H
                          obtain ⟨⟨t264, t265⟩, A530, H⟩ := H
                          replace H : (if t265 = 12 then (tailwaterlaw01_IntsNames.l2 k4 x1_0 y260 (wrap64 (x10_4 + 1))) else (some false)) = some true := H
                          have A53 := Aside0.mk A530
                          clear A530
                          by_cases c54 : t265 = 12
                          · rw [if_pos c54] at H
                            have c54b0 : (t265 == 12) = true := beq_iff_eq.mpr c54
                            have c54b1 : (t265 != 12) = false := bne_eq_false_iff_eq.mpr c54
                            clear c54
                            have H' := Aside0.mk H
                            clear H
                            obtain ⟨Ao55, co55, eo55⟩ := Kd.R_slice HO_9.out
                            subst eo55
                            have p263 : 0 ≤ (x10_4 : Int) := of_decide_eq_true (by first | (with_reducible assumption) | assumption)
                            have q263 : x10_4 < (y260.length : Int) := of_decide_eq_true (by first | (with_reducible assumption) | assumption)
                            obtain ⟨ad263, e263, hx263_0⟩ := Kd.at_string (Kd.R_reads' HO_9.out).2.2 x10_4 p263 q263
                            cases e263
                            replace p263 := eq_true p263
                            replace q263 := eq_true q263
                            go_wp2_with (first | ((with_reducible refine gate_callee (f := 28) rfl ?_); refine goesL_ (some 132) rfl rfl Tryd.func28 (by kernel_rfl) rfl #[.string (rdOf ByteArray.empty y260 x10_4)] rfl (by (try simp only [List.map_toArray, List.map_cons, List.map_nil]); first | done | rfl | (simp only [List.length_drop, List.length_take]; rfl)) ?_; (with_reducible refine (ints_Read.calls (rdOf ByteArray.empty y260 x10_4) t264 t265 _ ?side1 A53.out).mono ?_); (case side1 => exact TabG.below HT0.out (by repeat (first | (with_reducible first | exact HB.out | apply below_alloc | apply pw_below_drewN | apply below_drew1) | exact HB.out))); rintro e w56 ⟨rfl, hb⟩; refine ⟨_, rfl, ?_⟩; have n0_ := Aside0.mk (Kd.R_below (by (with_reducible repeat (first | apply Kd.R_alloc | apply Kd.R_drewN | apply Kd.R_drew)); exact HO_9.out) hb); have n1_ := Aside0.mk (below_step (by repeat (first | (with_reducible first | exact HB.out | apply below_alloc | apply pw_below_drewN | apply below_drew1) | exact HB.out)) hb); clear HO_9; clear HB; have HO_9 := n0_; have HB := n1_; clear n0_ n1_; (try clear hb); (try clear hb2); (try clear hk); (try clear hi)))
                            go_roundg k4
                            case measure => have := HJ0.out; have := HK2.out; have := HK3.out; have := HK4.out; omega
                            case rel => exact ⟨(wrap64 (x10_4 + 1)), (by first | rfl | (simp; done) | (simp [*]; done)), H', ⟨by have := HJ0.out; have := HK2.out; have := HK3.out; have := HK4.out; omega⟩, ⟨by (with_reducible repeat (first | apply Kd.R_alloc | apply Kd.R_drewN | apply Kd.R_drew)); exact HO_9.out⟩, ⟨by repeat (first | (with_reducible first | exact HB.out | apply below_alloc | apply pw_below_drewN | apply below_drew1) | exact HB.out)⟩⟩
                          · rw [if_neg c54] at H
                            have c54b0 : (t265 == 12) = false := beq_eq_false_iff_ne.mpr c54
                            have c54b1 : (t265 != 12) = true := bne_iff_ne.mpr c54
                            exact absurd H (by simp)
                        · rw [if_neg c52] at H
                          exact absurd H (by simp)
                      · rw [if_neg c51] at H
                        have c51b0 : decide (x10_4 < (y260.length : Int)) = false := decide_eq_false c51
                        clear c51
                        replace H := Option.bind_eq_some_iff.mp H
                        obtain ⟨⟨t266, t267⟩, A570, H⟩ := H
                        replace H : ((ints_Read.f (⟨#[57, 50, 50, 51, 51, 55, 50, 48, 51, 54, 56, 53, 52, 55, 55, 53, 56, 48, 56]⟩ : ByteArray)).bind fun bt268 => ((ints_Read.f (⟨#[57, 57, 57, 57, 57, 57, 57, 57, 57, 57, 57, 57, 57, 57, 57, 57, 57, 57, 57, 57, 57, 57, 57]⟩ : ByteArray)).bind fun bt270 => ((ints_Read.f (⟨#[48, 48, 48, 48, 48, 48, 48, 48, 48, 48, 48, 48, 48, 48, 48, 48, 48, 48, 48, 48, 48, 48, 48, 48, 48, 48, 48, 49, 50]⟩ : ByteArray)).bind fun bt272 => (if x1_0 = true then (if t267 = 0 then (if t266 = 9223372036854775807 then (if bt268.2 = 16 then (if bt270.2 = 16 then (if bt272.2 = 0 then (if bt272.1 = 12 then ((ints_Text.f (-9223372036854775808)).bind fun t274 => (if t274.toList = ([45, 57, 50, 50, 51, 51, 55, 50, 48, 51, 54, 56, 53, 52, 55, 55, 53, 56, 48, 56] : List UInt8) then ((ints_Text.f 0).bind fun t275 => (if t275.toList = ([48] : List UInt8) then ((tailwaterlaw01_alive.f).bind fun t276 => (some t276)) else (some false))) else (some false))) else (some false)) else (some false)) else (some false)) else (some false)) else (some false)) else (some false)) else (some false))))) = some true := H
                        have A57 := Aside0.mk A570
                        clear A570
                        replace H := Option.bind_eq_some_iff.mp H
                        obtain ⟨⟨t268, t269⟩, A580, H⟩ := H
                        replace H : ((ints_Read.f (⟨#[57, 57, 57, 57, 57, 57, 57, 57, 57, 57, 57, 57, 57, 57, 57, 57, 57, 57, 57, 57, 57, 57, 57]⟩ : ByteArray)).bind fun bt270 => ((ints_Read.f (⟨#[48, 48, 48, 48, 48, 48, 48, 48, 48, 48, 48, 48, 48, 48, 48, 48, 48, 48, 48, 48, 48, 48, 48, 48, 48, 48, 48, 49, 50]⟩ : ByteArray)).bind fun bt272 => (if x1_0 = true then (if t267 = 0 then (if t266 = 9223372036854775807 then (if t269 = 16 then (if bt270.2 = 16 then (if bt272.2 = 0 then (if bt272.1 = 12 then ((ints_Text.f (-9223372036854775808)).bind fun t274 => (if t274.toList = ([45, 57, 50, 50, 51, 51, 55, 50, 48, 51, 54, 56, 53, 52, 55, 55, 53, 56, 48, 56] : List UInt8) then ((ints_Text.f 0).bind fun t275 => (if t275.toList = ([48] : List UInt8) then ((tailwaterlaw01_alive.f).bind fun t276 => (some t276)) else (some false))) else (some false))) else (some false)) else (some false)) else (some false)) else (some false)) else (some false)) else (some false)) else (some false)))) = some true := H
                        have A58 := Aside0.mk A580
                        clear A580
                        replace H := Option.bind_eq_some_iff.mp H
                        obtain ⟨⟨t270, t271⟩, A590, H⟩ := H
                        replace H : ((ints_Read.f (⟨#[48, 48, 48, 48, 48, 48, 48, 48, 48, 48, 48, 48, 48, 48, 48, 48, 48, 48, 48, 48, 48, 48, 48, 48, 48, 48, 48, 49, 50]⟩ : ByteArray)).bind fun bt272 => (if x1_0 = true then (if t267 = 0 then (if t266 = 9223372036854775807 then (if t269 = 16 then (if t271 = 16 then (if bt272.2 = 0 then (if bt272.1 = 12 then ((ints_Text.f (-9223372036854775808)).bind fun t274 => (if t274.toList = ([45, 57, 50, 50, 51, 51, 55, 50, 48, 51, 54, 56, 53, 52, 55, 55, 53, 56, 48, 56] : List UInt8) then ((ints_Text.f 0).bind fun t275 => (if t275.toList = ([48] : List UInt8) then ((tailwaterlaw01_alive.f).bind fun t276 => (some t276)) else (some false))) else (some false))) else (some false)) else (some false)) else (some false)) else (some false)) else (some false)) else (some false)) else (some false))) = some true := H
                        have A59 := Aside0.mk A590
                        clear A590
                        replace H := Option.bind_eq_some_iff.mp H
                        obtain ⟨⟨t272, t273⟩, A600, H⟩ := H
                        replace H : (if x1_0 = true then (if t267 = 0 then (if t266 = 9223372036854775807 then (if t269 = 16 then (if t271 = 16 then (if t273 = 0 then (if t272 = 12 then ((ints_Text.f (-9223372036854775808)).bind fun t274 => (if t274.toList = ([45, 57, 50, 50, 51, 51, 55, 50, 48, 51, 54, 56, 53, 52, 55, 55, 53, 56, 48, 56] : List UInt8) then ((ints_Text.f 0).bind fun t275 => (if t275.toList = ([48] : List UInt8) then ((tailwaterlaw01_alive.f).bind fun t276 => (some t276)) else (some false))) else (some false))) else (some false)) else (some false)) else (some false)) else (some false)) else (some false)) else (some false)) else (some false)) = some true := H
                        have A60 := Aside0.mk A600
                        clear A600
                        by_cases c61 : x1_0 = true
                        · subst c61
                          have H1 : (if t267 = 0 then (if t266 = 9223372036854775807 then (if t269 = 16 then (if t271 = 16 then (if t273 = 0 then (if t272 = 12 then ((ints_Text.f (-9223372036854775808)).bind fun t274 => (if t274.toList = ([45, 57, 50, 50, 51, 51, 55, 50, 48, 51, 54, 56, 53, 52, 55, 55, 53, 56, 48, 56] : List UInt8) then ((ints_Text.f 0).bind fun t275 => (if t275.toList = ([48] : List UInt8) then ((tailwaterlaw01_alive.f).bind fun t276 => (some t276)) else (some false))) else (some false))) else (some false)) else (some false)) else (some false)) else (some false)) else (some false)) else (some false)) = some true := by rw [if_pos rfl] at H; exact H
                          clear H
                          have H := H1
                          clear H1
                          by_cases c62 : t267 = 0
                          · rw [if_pos c62] at H
                            have c62b0 : (t267 == 0) = true := beq_iff_eq.mpr c62
                            have c62b1 : (t267 != 0) = false := bne_eq_false_iff_eq.mpr c62
                            clear c62
                            by_cases c63 : t266 = 9223372036854775807
                            · rw [if_pos c63] at H
                              have c63b0 : (t266 == 9223372036854775807) = true := beq_iff_eq.mpr c63
                              have c63b1 : (t266 != 9223372036854775807) = false := bne_eq_false_iff_eq.mpr c63
                              clear c63
                              by_cases c64 : t269 = 16
                              · rw [if_pos c64] at H
                                have c64b0 : (t269 == 16) = true := beq_iff_eq.mpr c64
                                have c64b1 : (t269 != 16) = false := bne_eq_false_iff_eq.mpr c64
                                clear c64
                                by_cases c65 : t271 = 16
                                · rw [if_pos c65] at H
                                  have c65b0 : (t271 == 16) = true := beq_iff_eq.mpr c65
                                  have c65b1 : (t271 != 16) = false := bne_eq_false_iff_eq.mpr c65
                                  clear c65
                                  by_cases c66 : t273 = 0
                                  · rw [if_pos c66] at H
                                    have c66b0 : (t273 == 0) = true := beq_iff_eq.mpr c66
                                    have c66b1 : (t273 != 0) = false := bne_eq_false_iff_eq.mpr c66
                                    clear c66
                                    by_cases c67 : t272 = 12
                                    · rw [if_pos c67] at H
                                      have c67b0 : (t272 == 12) = true := beq_iff_eq.mpr c67
                                      have c67b1 : (t272 != 12) = false := bne_eq_false_iff_eq.mpr c67
                                      clear c67
                                      replace H := Option.bind_eq_some_iff.mp H
                                      obtain ⟨t274, A680, H⟩ := H
                                      replace H : (if t274.toList = ([45, 57, 50, 50, 51, 51, 55, 50, 48, 51, 54, 56, 53, 52, 55, 55, 53, 56, 48, 56] : List UInt8) then ((ints_Text.f 0).bind fun t275 => (if t275.toList = ([48] : List UInt8) then ((tailwaterlaw01_alive.f).bind fun t276 => (some t276)) else (some false))) else (some false)) = some true := H
                                      have A68 := Aside0.mk A680
                                      clear A680
                                      by_cases c69 : t274.toList = ([45, 57, 50, 50, 51, 51, 55, 50, 48, 51, 54, 56, 53, 52, 55, 55, 53, 56, 48, 56] : List UInt8)
                                      · rw [if_pos c69] at H
                                        have c69b0 : (t274.toList == ([45, 57, 50, 50, 51, 51, 55, 50, 48, 51, 54, 56, 53, 52, 55, 55, 53, 56, 48, 56] : List UInt8)) = true := beq_iff_eq.mpr c69
                                        have c69b1 : (t274.toList != ([45, 57, 50, 50, 51, 51, 55, 50, 48, 51, 54, 56, 53, 52, 55, 55, 53, 56, 48, 56] : List UInt8)) = false := bne_eq_false_iff_eq.mpr c69
                                        clear c69
                                        replace H := Option.bind_eq_some_iff.mp H
                                        obtain ⟨t275, A700, H⟩ := H
                                        replace H : (if t275.toList = ([48] : List UInt8) then ((tailwaterlaw01_alive.f).bind fun t276 => (some t276)) else (some false)) = some true := H
                                        have A70 := Aside0.mk A700
                                        clear A700
                                        by_cases c71 : t275.toList = ([48] : List UInt8)
                                        · rw [if_pos c71] at H
                                          have c71b0 : (t275.toList == ([48] : List UInt8)) = true := beq_iff_eq.mpr c71
                                          have c71b1 : (t275.toList != ([48] : List UInt8)) = false := bne_eq_false_iff_eq.mpr c71
                                          clear c71
                                          replace H := Option.bind_eq_some_iff.mp H
                                          obtain ⟨t276, A720, H⟩ := H
                                          replace H : (some t276) = some true := H
                                          have A72 := Aside0.mk A720
                                          clear A720
                                          have HE := Aside0.mk (Option.some.inj H)
                                          clear H
                                          obtain ⟨Ao73, co73, eo73⟩ := Kd.R_slice HO_9.out
                                          subst eo73
                                          go_wp2_with (first | ((with_reducible refine gate_callee (f := 28) rfl ?_); refine goesL_ (some 138) rfl rfl Tryd.func28 (by kernel_rfl) rfl #[.string (⟨#[57, 50, 50, 51, 51, 55, 50, 48, 51, 54, 56, 53, 52, 55, 55, 53, 56, 48, 55]⟩ : ByteArray)] rfl (by (try simp only [List.map_toArray, List.map_cons, List.map_nil]); first | done | rfl | (simp only [List.length_drop, List.length_take]; rfl)) ?_; (with_reducible refine (ints_Read.calls (⟨#[57, 50, 50, 51, 51, 55, 50, 48, 51, 54, 56, 53, 52, 55, 55, 53, 56, 48, 55]⟩ : ByteArray) t266 t267 _ ?side1 A57.out).mono ?_); (case side1 => exact TabG.below HT0.out (by repeat (first | (with_reducible first | exact HB.out | apply below_alloc | apply pw_below_drewN | apply below_drew1) | exact HB.out))); rintro e w74 ⟨rfl, hb⟩; refine ⟨_, rfl, ?_⟩; have n0_ := Aside0.mk (Kd.R_below (by (with_reducible repeat (first | apply Kd.R_alloc | apply Kd.R_drewN | apply Kd.R_drew)); exact HO_9.out) hb); have n1_ := Aside0.mk (below_step (by repeat (first | (with_reducible first | exact HB.out | apply below_alloc | apply pw_below_drewN | apply below_drew1) | exact HB.out)) hb); clear HO_9; clear HB; have HO_9 := n0_; have HB := n1_; clear n0_ n1_; (try clear hb); (try clear hb2); (try clear hk); (try clear hi)) | ((with_reducible refine gate_callee (f := 28) rfl ?_); refine goesL_ (some 142) rfl rfl Tryd.func28 (by kernel_rfl) rfl #[.string (⟨#[57, 50, 50, 51, 51, 55, 50, 48, 51, 54, 56, 53, 52, 55, 55, 53, 56, 48, 56]⟩ : ByteArray)] rfl (by (try simp only [List.map_toArray, List.map_cons, List.map_nil]); first | done | rfl | (simp only [List.length_drop, List.length_take]; rfl)) ?_; (with_reducible refine (ints_Read.calls (⟨#[57, 50, 50, 51, 51, 55, 50, 48, 51, 54, 56, 53, 52, 55, 55, 53, 56, 48, 56]⟩ : ByteArray) t268 t269 _ ?side1 A58.out).mono ?_); (case side1 => exact TabG.below HT0.out (by repeat (first | (with_reducible first | exact HB.out | apply below_alloc | apply pw_below_drewN | apply below_drew1) | exact HB.out))); rintro e w75 ⟨rfl, hb⟩; refine ⟨_, rfl, ?_⟩; have n0_ := Aside0.mk (Kd.R_below (by (with_reducible repeat (first | apply Kd.R_alloc | apply Kd.R_drewN | apply Kd.R_drew)); exact HO_9.out) hb); have n1_ := Aside0.mk (below_step (by repeat (first | (with_reducible first | exact HB.out | apply below_alloc | apply pw_below_drewN | apply below_drew1) | exact HB.out)) hb); clear HO_9; clear HB; have HO_9 := n0_; have HB := n1_; clear n0_ n1_; (try clear hb); (try clear hb2); (try clear hk); (try clear hi)) | ((with_reducible refine gate_callee (f := 28) rfl ?_); refine goesL_ (some 146) rfl rfl Tryd.func28 (by kernel_rfl) rfl #[.string (⟨#[57, 57, 57, 57, 57, 57, 57, 57, 57, 57, 57, 57, 57, 57, 57, 57, 57, 57, 57, 57, 57, 57, 57]⟩ : ByteArray)] rfl (by (try simp only [List.map_toArray, List.map_cons, List.map_nil]); first | done | rfl | (simp only [List.length_drop, List.length_take]; rfl)) ?_; (with_reducible refine (ints_Read.calls (⟨#[57, 57, 57, 57, 57, 57, 57, 57, 57, 57, 57, 57, 57, 57, 57, 57, 57, 57, 57, 57, 57, 57, 57]⟩ : ByteArray) t270 t271 _ ?side1 A59.out).mono ?_); (case side1 => exact TabG.below HT0.out (by repeat (first | (with_reducible first | exact HB.out | apply below_alloc | apply pw_below_drewN | apply below_drew1) | exact HB.out))); rintro e w76 ⟨rfl, hb⟩; refine ⟨_, rfl, ?_⟩; have n0_ := Aside0.mk (Kd.R_below (by (with_reducible repeat (first | apply Kd.R_alloc | apply Kd.R_drewN | apply Kd.R_drew)); exact HO_9.out) hb); have n1_ := Aside0.mk (below_step (by repeat (first | (with_reducible first | exact HB.out | apply below_alloc | apply pw_below_drewN | apply below_drew1) | exact HB.out)) hb); clear HO_9; clear HB; have HO_9 := n0_; have HB := n1_; clear n0_ n1_; (try clear hb); (try clear hb2); (try clear hk); (try clear hi)) | ((with_reducible refine gate_callee (f := 28) rfl ?_); refine goesL_ (some 150) rfl rfl Tryd.func28 (by kernel_rfl) rfl #[.string (⟨#[48, 48, 48, 48, 48, 48, 48, 48, 48, 48, 48, 48, 48, 48, 48, 48, 48, 48, 48, 48, 48, 48, 48, 48, 48, 48, 48, 49, 50]⟩ : ByteArray)] rfl (by (try simp only [List.map_toArray, List.map_cons, List.map_nil]); first | done | rfl | (simp only [List.length_drop, List.length_take]; rfl)) ?_; (with_reducible refine (ints_Read.calls (⟨#[48, 48, 48, 48, 48, 48, 48, 48, 48, 48, 48, 48, 48, 48, 48, 48, 48, 48, 48, 48, 48, 48, 48, 48, 48, 48, 48, 49, 50]⟩ : ByteArray) t272 t273 _ ?side1 A60.out).mono ?_); (case side1 => exact TabG.below HT0.out (by repeat (first | (with_reducible first | exact HB.out | apply below_alloc | apply pw_below_drewN | apply below_drew1) | exact HB.out))); rintro e w77 ⟨rfl, hb⟩; refine ⟨_, rfl, ?_⟩; have n0_ := Aside0.mk (Kd.R_below (by (with_reducible repeat (first | apply Kd.R_alloc | apply Kd.R_drewN | apply Kd.R_drew)); exact HO_9.out) hb); have n1_ := Aside0.mk (below_step (by repeat (first | (with_reducible first | exact HB.out | apply below_alloc | apply pw_below_drewN | apply below_drew1) | exact HB.out)) hb); clear HO_9; clear HB; have HO_9 := n0_; have HB := n1_; clear n0_ n1_; (try clear hb); (try clear hb2); (try clear hk); (try clear hi)) | (go_at_call 30; (with_reducible refine (ints_Text.calls (-9223372036854775808) t274 _ ?side1 A68.out).mono ?_); (case side1 => exact (TabG.below HT0.out (by repeat (first | (with_reducible first | exact HB.out | apply below_alloc | apply pw_below_drewN | apply below_drew1) | exact HB.out))).tab); rintro e w78 ⟨rfl, hb⟩; have n0_ := Aside0.mk (Kd.R_below (by (with_reducible repeat (first | apply Kd.R_alloc | apply Kd.R_drewN | apply Kd.R_drew)); exact HO_9.out) hb); have n1_ := Aside0.mk (below_step (by repeat (first | (with_reducible first | exact HB.out | apply below_alloc | apply pw_below_drewN | apply below_drew1) | exact HB.out)) hb); clear HO_9; clear HB; have HO_9 := n0_; have HB := n1_; clear n0_ n1_; (try clear hb); (try clear hb2); (try clear hk); (try clear hi)) | (go_at_call 30; (with_reducible refine (ints_Text.calls 0 t275 _ ?side1 A70.out).mono ?_); (case side1 => exact (TabG.below HT0.out (by repeat (first | (with_reducible first | exact HB.out | apply below_alloc | apply pw_below_drewN | apply below_drew1) | exact HB.out))).tab); rintro e w79 ⟨rfl, hb⟩; have n0_ := Aside0.mk (Kd.R_below (by (with_reducible repeat (first | apply Kd.R_alloc | apply Kd.R_drewN | apply Kd.R_drew)); exact HO_9.out) hb); have n1_ := Aside0.mk (below_step (by repeat (first | (with_reducible first | exact HB.out | apply below_alloc | apply pw_below_drewN | apply below_drew1) | exact HB.out)) hb); clear HO_9; clear HB; have HO_9 := n0_; have HB := n1_; clear n0_ n1_; (try clear hb); (try clear hb2); (try clear hk); (try clear hi)) | (go_at_call 35; (with_reducible refine (tailwaterlaw01_alive.calls  t276 _ ?side1 A72.out).mono ?_); (case side1 => exact TabG.below HT0.out (by repeat (first | (with_reducible first | exact HB.out | apply below_alloc | apply pw_below_drewN | apply below_drew1) | exact HB.out))); rintro e w80 ⟨rfl, hb⟩; have n0_ := Aside0.mk (Kd.R_below (by (with_reducible repeat (first | apply Kd.R_alloc | apply Kd.R_drewN | apply Kd.R_drew)); exact HO_9.out) hb); have n1_ := Aside0.mk (below_step (by repeat (first | (with_reducible first | exact HB.out | apply below_alloc | apply pw_below_drewN | apply below_drew1) | exact HB.out)) hb); clear HO_9; clear HB; have HO_9 := n0_; have HB := n1_; clear n0_ n1_; (try clear hb); (try clear hb2); (try clear hk); (try clear hi)))
                                          go_ret
                                          exact ⟨by first | rfl | exact congrArg (fun b_ : Bool => Ending.returned (.bool b_)) HE.out | ((try simp only [Bool.not_not] at HE); exact congrArg (fun b_ : Bool => Ending.returned (.bool b_)) HE.out) | (have h_ := HE.out; simp at h_ ⊢; simp [*]), by repeat (first | (with_reducible first | exact HB.out | apply below_alloc | apply pw_below_drewN | apply below_drew1) | exact HB.out)⟩
                                        · rw [if_neg c71] at H
                                          have c71b0 : (t275.toList == ([48] : List UInt8)) = false := beq_eq_false_iff_ne.mpr c71
                                          have c71b1 : (t275.toList != ([48] : List UInt8)) = true := bne_iff_ne.mpr c71
                                          exact absurd H (by simp)
                                      · rw [if_neg c69] at H
                                        have c69b0 : (t274.toList == ([45, 57, 50, 50, 51, 51, 55, 50, 48, 51, 54, 56, 53, 52, 55, 55, 53, 56, 48, 56] : List UInt8)) = false := beq_eq_false_iff_ne.mpr c69
                                        have c69b1 : (t274.toList != ([45, 57, 50, 50, 51, 51, 55, 50, 48, 51, 54, 56, 53, 52, 55, 55, 53, 56, 48, 56] : List UInt8)) = true := bne_iff_ne.mpr c69
                                        exact absurd H (by simp)
                                    · rw [if_neg c67] at H
                                      have c67b0 : (t272 == 12) = false := beq_eq_false_iff_ne.mpr c67
                                      have c67b1 : (t272 != 12) = true := bne_iff_ne.mpr c67
                                      exact absurd H (by simp)
                                  · rw [if_neg c66] at H
                                    have c66b0 : (t273 == 0) = false := beq_eq_false_iff_ne.mpr c66
                                    have c66b1 : (t273 != 0) = true := bne_iff_ne.mpr c66
                                    exact absurd H (by simp)
                                · rw [if_neg c65] at H
                                  have c65b0 : (t271 == 16) = false := beq_eq_false_iff_ne.mpr c65
                                  have c65b1 : (t271 != 16) = true := bne_iff_ne.mpr c65
                                  exact absurd H (by simp)
                              · rw [if_neg c64] at H
                                have c64b0 : (t269 == 16) = false := beq_eq_false_iff_ne.mpr c64
                                have c64b1 : (t269 != 16) = true := bne_iff_ne.mpr c64
                                exact absurd H (by simp)
                            · rw [if_neg c63] at H
                              have c63b0 : (t266 == 9223372036854775807) = false := beq_eq_false_iff_ne.mpr c63
                              have c63b1 : (t266 != 9223372036854775807) = true := bne_iff_ne.mpr c63
                              exact absurd H (by simp)
                          · rw [if_neg c62] at H
                            have c62b0 : (t267 == 0) = false := beq_eq_false_iff_ne.mpr c62
                            have c62b1 : (t267 != 0) = true := bne_iff_ne.mpr c62
                            exact absurd H (by simp)
                        · replace c61 := Bool.eq_false_iff.mpr c61
                          subst c61
                          have H1 : (some false) = some true := by rw [if_neg (show ¬ (false = true) by decide)] at H; exact H
                          clear H
                          have H := H1
                          clear H1
                          exact absurd H (by simp)

/-- THE ONE PURE STATEMENT of tailwaterlaw01_IntsNames: yours. -/
def tailwaterlaw01_IntsNames.Pure : Prop := ∃ k, tailwaterlaw01_IntsNames.f k  = some true
theorem tailwaterlaw01_IntsNames.walk (P : tailwaterlaw01_IntsNames.Pure)  (w : World)   (hT : TabG w) :
    Calls Tryd.prog 11 #[] w fun e w' => e = .returned (.bool true) ∧ Below w.heap.size w w' := by
  obtain ⟨k, h⟩ := P  
  refine (tailwaterlaw01_IntsNames.calls k  w hT h).mono ?_
  rintro e w' ⟨rfl, hd⟩
  exact ⟨rfl, hd⟩

end Go.Proofs.YtdcigijklknjaaaDoor.My
