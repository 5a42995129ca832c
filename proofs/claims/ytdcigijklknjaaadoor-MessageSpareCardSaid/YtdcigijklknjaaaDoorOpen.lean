/- Values of types that hold whole numbers and bools alone read alike in every world: a lemma for laws whose arguments are such structs, and a struct's one whole number laid open. -/
import Derived.Test.YtdcigijklknjaaaDoorRows
import Derived.WalkKit
import Derived.ProofKit
import Derived.OpenShut
import Derived.Lib.SmallJoins
namespace Go.Proofs.YtdcigijklknjaaaDoor
open Go.ChangeShapes Go.WideShapes Go.ChangeAt Go.RowKit
section
variable {H : Type} {enc : TypeId × Value → H} {P : Program} {w w' : World} {base : Nat} {spare spare' : Nat → Bool} {held : Bool}
/-- Whole numbers, bools, structs and arrays of these alone. -/
def plainT (P : Program) : Nat → TypeId → Bool
  | 0, _ => false
  | n + 1, t =>
    match P.underlying t with
    | some .bool => true
    | some (.int _) => true
    | some (.struct fs) => fs.toList.all fun f => plainT P n f.type
    | some (.array _ e) => plainT P n e
    | _ => false
theorem mapM_same {α β : Type} {f g : α → Option β} : ∀ (l : List α), (∀ x ∈ l, f x = g x) → l.mapM f = l.mapM g
  | [], _ => rfl
  | x :: l, h => by rw [List.mapM_cons, List.mapM_cons, h x List.mem_cons_self, mapM_same l fun y hy => h y (List.mem_cons_of_mem _ hy)]
theorem trod_same : ∀ (fuel n : Nat) (t : TypeId) (cs : List Value), plainT P n t = true → DataW.trod enc P w base spare held fuel t cs = DataW.trod enc P w' base spare' held fuel t cs
  | 0, _, _, _, _ => by simp [DataW.trod]
  | fuel + 1, 0, _, _, h => by simp [plainT] at h
  | fuel + 1, n + 1, t, cs, h => by
    unfold plainT at h
    unfold DataW.trod
    split at h
    · rename_i hu
      rw [hu]
      rcases cs with _ | ⟨v, _ | ⟨v2, r⟩⟩
      · first | rfl | (cases v <;> rfl)
      · cases v <;> rfl
      · first | rfl | (cases v <;> rfl)
    · rename_i hu
      rw [hu]
      rcases cs with _ | ⟨v, _ | ⟨v2, r⟩⟩
      · first | rfl | (cases v <;> rfl)
      · cases v <;> rfl
      · first | rfl | (cases v <;> rfl)
    · rename_i fs hu
      rw [hu]
      simp only
      split
      · rw [mapM_same fs.toList fun f hf => trod_same fuel n f.type _ (List.all_eq_true.mp h f hf)]
      · first | rfl | (cases v <;> rfl)
    · rename_i m e hu
      rw [hu]
      simp only
      split
      · rw [mapM_same (List.range m) fun i _ => trod_same fuel n e _ h]
      · first | rfl | (cases v <;> rfl)
    · cases h
theorem trod_world {n : Nat} {t : TypeId} {v : Value} {d : DataW H} {p : List MemPlace} (hp : plainT P n t = true) (h : DataW.Trod enc P w base spare held t v d p) : DataW.Trod enc P w' base spare' held t v d p := by
  obtain ⟨fuel, h⟩ := h
  exact ⟨fuel, (trod_same fuel n t _ hp).symm.trans h⟩
theorem leaf_int {fuel : Nat} {t : TypeId} {k : IntKind} {v : Value} {y : DataW H × List MemPlace} (ht : P.underlying t = some (.int k)) (h : DataW.trod enc P w base spare held fuel t [v] = some y) :
    ∃ n : Int, v = .int k n ∧ (Lit.int k n).wf = true := by
  cases fuel with
  | zero => simp [DataW.trod] at h
  | succ m =>
    unfold DataW.trod at h
    rw [ht] at h
    split at h <;> simp_all
end
end Go.Proofs.YtdcigijklknjaaaDoor
