/- What the library's functions read of the package-level variables: the table of powers of ten, the two errors of strconv, a whole number in bytealg.MaxLen; and that it stands behind a call that leaves all elder memory as it was. -/
import Derived.Test.YtdcigijklknjaaaDoorShelf
import Derived.Below
import Derived.WalkKit
import Derived.Lib.SmallJoins
namespace Go.Proofs.YtdcigijklknjaaaDoor
open Go.RowKit
/-- The table of powers of ten is laid. -/
def TabF (w : World) : Prop := Lib.TabIs Tryd.prog w "internal/strconv.uint64pow10" .u64 Lib.pow10Tab
/-- All that the library reads is laid. -/
structure TabG (w : World) : Prop where
  tab : TabF w
  syn : ∃ tp p, w.var? Tryd.prog "strconv.ErrSyntax" = some #[.iface tp p]
  rng : ∃ tp p, w.var? Tryd.prog "strconv.ErrRange" = some #[.iface tp p]
  mx : ∃ m, w.cell? ⟨5, 0, none⟩ = some (.int .i64 m)
theorem var_below {w w' : World} {P : Program} {n : String} {cs : Array Value} (h : w.var? P n = some cs) (hb : Below w.heap.size w w') : w'.var? P n = some cs := by
  unfold World.var? at h ⊢
  cases hg : P.globalNamed n with
  | none => rw [hg] at h; cases h
  | some g =>
    rw [hg] at h
    simp only [Option.bind_some] at h ⊢
    cases hk : w.heap[g]? with
    | none => rw [hk] at h; cases h
    | some o =>
      have hlt : g < w.heap.size := by
        rcases Nat.lt_or_ge g w.heap.size with z | z
        · exact z
        · rw [Array.getElem?_eq_none z] at hk; cases hk
      rw [hb.block g hlt, hk]
      rw [hk] at h
      exact h
theorem TabF.below {w w' : World} (h : TabF w) (hb : Below w.heap.size w w') : TabF w' := var_below h hb
theorem TabG.below {w w' : World} (h : TabG w) (hb : Below w.heap.size w w') : TabG w' := by
  obtain ⟨h1, ⟨t2, p2, h2⟩, ⟨t3, p3, h3⟩, ⟨m, h4⟩⟩ := h
  refine ⟨h1.below hb, ⟨t2, p2, var_below h2 hb⟩, ⟨t3, p3, var_below h3 hb⟩, ⟨m, ?_⟩⟩
  rw [hb.cell (p := ⟨5, 0, none⟩) (World.block_lt_of_cell? _ _ h4)]
  exact h4
end Go.Proofs.YtdcigijklknjaaaDoor
