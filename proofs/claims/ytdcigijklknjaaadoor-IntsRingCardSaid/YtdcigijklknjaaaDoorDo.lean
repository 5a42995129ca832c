/- The law's own 'do', where its bool stands false and Do gives no error: it gives Do's number, the bool stays false, all else is kept. (The lines began as the patched tool's print.) -/
import Derived.Test.YtdcigijklknjaaaDoorMyx0
import Derived.Test.YtdcigijklknjaaaDoorMyx8
namespace Go.Proofs.YtdcigijklknjaaaDoor.My
open Go.RowKit Go.Proofs.YtdcigijklknjaaaDoorW.PrintWords Go.Proofs.YtdcigijklknjaaaDoorW.PrintLast Go.Proofs.YtdcigijklknjaaaDoorW.PrintMore
attribute [local go_sem] max2_int min2_int max_two min_two max_three min_three max_four min_four   -- for this text's walks alone
set_option linter.unusedVariables false
set_option linter.unusedSimpArgs false

/-- A state of type 4 at block g of W; what its slices lead to came in by w0. -/
def IsS4 (w0 W : World) (g : Nat) (f0 : Bool) : Prop := W.heap[g]? = some (.cells #[.bool f0] 4 (0, 0)) ∧ w0.heap.size ≤ g
theorem IsS4.grown {w0 W : World} {g : Nat} {f0 : Bool} {W1 : World} {row : Option Nat} (h : IsS4 w0 W g f0) (hw : W.grownBy W1 row) (hne : some g ≠ row) : IsS4 w0 W1 g f0 := by
  obtain ⟨hb, hg⟩ := h
  exact ⟨blk_grown hb hw hne, hg⟩
theorem IsS4.own_neN {w0 W : World} {g : Nat} {f0 : Bool} {α : Type} {d : Kd α} {e : Nat} {base : Nat} {ok : Nat → Prop} {v : Value} {xs : List α} (h : IsS4 w0 W g f0) (ho : Kd.N d e W base ok v xs) (ht : e ≠ 4) : some g ≠ v.ownBlock := by
  obtain ⟨hb, hg⟩ := h
  exact Kd.N_ne ho hb ht
theorem IsS4.fresh {w0 W : World} {g : Nat} {f0 : Bool} (h : IsS4 w0 W g f0) : ∀ k, W.heap.size ≤ k → k ≠ g := by
  obtain ⟨hb, hg⟩ := h
  exact Kd.freshB hb
theorem IsS4.kept {w0 W : World} {g : Nat} {f0 : Bool} {W1 : World} {S : Nat → Prop} (h : IsS4 w0 W g f0) (hk : Kept W W1 S) (hne : ¬ S g) : IsS4 w0 W1 g f0 := by
  obtain ⟨hb, hg⟩ := h
  exact ⟨blk_kept hb hk hne, hg⟩
theorem IsS4.below {w0 W : World} {g : Nat} {f0 : Bool} {W1 : World} (h : IsS4 w0 W g f0) (hw : Below W.heap.size W W1) : IsS4 w0 W1 g f0 := h.grown (grown_of_below hw none) (by simp)
theorem IsS4.alloc {w0 W : World} {g : Nat} {f0 : Bool} (h : IsS4 w0 W g f0) (o : Obj) : IsS4 w0 (W.alloc o) g f0 := h.below (below_alloc (Below.refl _ _) o)
theorem IsS4.drewN {w0 W : World} {g : Nat} {f0 : Bool} (h : IsS4 w0 W g f0) (m : Nat) : IsS4 w0 (W.drewN m) g f0 := h
theorem IsS4.drew {w0 W : World} {g : Nat} {f0 : Bool} (h : IsS4 w0 W g f0) : IsS4 w0 W.drew g f0 := h
theorem IsS4.at_ {w0 W : World} {g : Nat} {f0 : Bool} {w' : World} {m : Nat} (hq : W.drewN m = w') (h : IsS4 w0 W g f0) : IsS4 w0 w' g f0 := by subst hq; exact IsS4.drewN h m
theorem IsS4.apart {w0 W : World} {g : Nat} {f0 : Bool} {α : Type} {d : Kd α} {e : Nat} {base : Nat} {ok : Nat → Prop} {v : Value} {xs : List α} (h : IsS4 w0 W g f0) (ho : d.R e W base ok v xs) (ht : ∀ q, q ∈ e :: d.E → q ≠ 4) : d.R e W base (fun k => ok k ∧ k ≠ g) v xs := by
  obtain ⟨hb, hg⟩ := h
  exact Kd.R_types ho hb ht
theorem IsS4.own_ne {w0 W : World} {g : Nat} {f0 : Bool} {α : Type} {d : Kd α} {e : Nat} {base : Nat} {ok : Nat → Prop} {v : Value} {xs : List α} (h : IsS4 w0 W g f0) (ho : d.R e W base ok v xs) (ht : e ≠ 4) : some g ≠ v.ownBlock := by
  obtain ⟨hb, hg⟩ := h
  exact Kd.R_ne ho hb ht
theorem IsS4.apartQ {w0 W : World} {g : Nat} {f0 : Bool} {α : Type} {d : Kd α} {e : Nat} {base : Nat} {ok : Nat → Prop} {v : Value} {xs : List α} (h : IsS4 w0 W g f0) (ho : d.Q e W base ok v xs) (ht : ∀ q, q ∈ e :: d.E → q ≠ 4) : d.Q e W base (fun k => ok k ∧ k ≠ g) v xs := by
  obtain ⟨hb, hg⟩ := h
  exact Kd.Q_types ho hb ht
theorem IsS4.own_neQ {w0 W : World} {g : Nat} {f0 : Bool} {α : Type} {d : Kd α} {e : Nat} {base : Nat} {ok : Nat → Prop} {v : Value} {xs : List α} (h : IsS4 w0 W g f0) (ho : d.Q e W base ok v xs) (ht : e ≠ 4) : some g ≠ v.ownBlock := by
  obtain ⟨hb, hg⟩ := h
  exact Kd.Q_ne ho hb ht
theorem IsS4.apartS {w0 W : World} {g : Nat} {f0 : Bool} {α : Type} {d : Kd α} {e : Nat} {base : Nat} {ok : Nat → Prop} {v : Value} {xs : List α} (h : IsS4 w0 W g f0) (ho : d.S e W base ok v xs) (ht : ∀ q, q ∈ e :: d.E → q ≠ 4) : d.S e W base (fun k => ok k ∧ k ≠ g) v xs := by
  obtain ⟨hb, hg⟩ := h
  exact Kd.S_types ho hb ht
theorem IsS4.own_neS {w0 W : World} {g : Nat} {f0 : Bool} {α : Type} {d : Kd α} {e : Nat} {base : Nat} {ok : Nat → Prop} {v : Value} {xs : List α} (h : IsS4 w0 W g f0) (ho : d.S e W base ok v xs) (ht : e ≠ 4) : some g ≠ v.ownBlock := by
  obtain ⟨hb, hg⟩ := h
  exact Kd.S_ne ho hb ht
theorem IsS4.lt {w0 W : World} {g : Nat} {f0 : Bool} (h : IsS4 w0 W g f0) : g < W.heap.size := by
  obtain ⟨hb, hg⟩ := h
  exact blk_lt hb
theorem IsS4.ge {w0 W : World} {g : Nat} {f0 : Bool} (h : IsS4 w0 W g f0) : w0.heap.size ≤ g := by
  obtain ⟨hb, hg⟩ := h
  exact hg
theorem IsS4.ne_blk {w0 W : World} {g : Nat} {f0 : Bool} {a : Nat} {cs : Array Value} {t : TypeId} {fr : Nat × Nat} (h : IsS4 w0 W g f0) (hb2 : W.heap[a]? = some (.cells cs t fr)) (ht : t ≠ 4) : g ≠ a := by
  obtain ⟨hb, hg⟩ := h
  rintro rfl
  rw [hb] at hb2
  injection hb2 with hb2
  injection hb2 with _ ht2
  exact ht ht2.symm
theorem IsS4.far {w0 W : World} {g : Nat} {f0 : Bool} {p : Addr} (h : IsS4 w0 W g f0) (hne : g ≠ p.block) (u : Value) : IsS4 w0 (W.setCell p u) g f0 := by
  obtain ⟨hb, hg⟩ := h
  exact ⟨blk_far hb hne u, hg⟩
theorem cellS4_0 {W : World} {g : Nat} {f0 : Bool} (h : W.heap[g]? = some (.cells #[.bool f0] 4 (0, 0))) : W.cell? ⟨g, 0, none⟩ = some (.bool f0) := (blk_cell h 0).trans rfl
theorem IsS4.set_0 {w0 W : World} {g : Nat} {f0 : Bool} (h : IsS4 w0 W g f0) (x : Bool) : IsS4 w0 (W.setCell ⟨g, 0, none⟩ (.bool x)) g x := by
  obtain ⟨hb, hg⟩ := h
  exact ⟨by simpa using blk_set hb 0 (.bool x), hg⟩
theorem IsS4.new (w0 W : World) (f0 : Bool) (hB : Below w0.heap.size w0 W) : IsS4 w0 (W.alloc (.cells #[.bool f0] 4)) W.heap.size f0 := ⟨by simpa using heap_alloc_new W _, hB.size⟩

set_option maxHeartbeats 8000000 in
set_option maxRecDepth 100000 in
theorem do_calls (a0 : Int) (a1 : Int) (a2 : Int) (g : Nat) (t122 : Int) (w0 w : World) (hI : IsS4 w0 w g false) (hB : Below w0.heap.size w0 w) (h : ints_Do.f a0 a1 a2 = some (t122, 0)) :
    Calls Tryd.prog 34 #[.int .u8 a0, .int .i64 a1, .int .i64 a2, .pointer (some ⟨g, 0, none⟩)] w fun e w' => e = .returned (.int .i64 t122) ∧ IsS4 w0 w' g false ∧ Below w0.heap.size w0 w' := by
  have HI3 := Aside0.mk hI
  clear hI
  have HB := Aside0.mk hB
  clear hB
  have A5 := Aside0.mk h
  clear h
  go_enter Tryd.func34, Tryd.ntmps34
  go_wp2_with (first | ((with_reducible refine gate_callee (f := 37) rfl ?_); refine goesL_ (some 15) rfl rfl Tryd.func37 (by kernel_rfl) rfl #[.int .u8 a0, .int .i64 a1, .int .i64 a2] rfl (by (try simp only [List.map_toArray, List.map_cons, List.map_nil]); first | done | rfl | (simp only [List.length_drop, List.length_take]; rfl)) ?_; (with_reducible refine (ints_Do.calls a0 a1 a2 t122 0 _ A5.out).mono ?_); rintro e w' ⟨rfl, ⟨nd, rfl⟩⟩; refine ⟨_, rfl, ?_⟩; (try (rw [drewN_self w]; generalize hq_ : World.drewN w _ = w; have n0_ : Aside0 (IsS4 w0 w g false) := ⟨by rw [← hq_]; exact (by repeat (first | (with_reducible first | exact HI3.out | apply IsS4.alloc | apply IsS4.drewN | apply IsS4.drew | apply IsS4.set_0) | exact HI3.out))⟩; have n2_ : Aside0 (Below w0.heap.size w0 w) := ⟨by rw [← hq_]; exact (by repeat (first | (with_reducible first | exact HB.out | apply below_alloc | apply pw_below_drewN | apply below_drew1 | refine below_set ?_ (IsS4.ge HI3.out)) | exact HB.out))⟩; clear HI3 HB hq_; have HI3 := n0_; have HB := n2_; clear n0_ n2_)); obtain ⟨HGz8, hgz8⟩ := HI3.out; have hcz8_0 := cellS4_0 HGz8; have hfz8_0 := blk_frozen HGz8 0; clear HGz8 hgz8))
  go_ret
  exact ⟨by first | rfl | (simp [errW_none, errW_some] <;> rfl) | (simp [*, errW_none, errW_some] <;> rfl), by repeat (first | (with_reducible first | exact HI3.out | apply IsS4.alloc | apply IsS4.drewN | apply IsS4.drew | apply IsS4.set_0) | exact HI3.out), by repeat (first | (with_reducible first | exact HB.out | apply below_alloc | apply pw_below_drewN | apply below_drew1 | refine below_set ?_ (IsS4.ge HI3.out)) | exact HB.out)⟩
end Go.Proofs.YtdcigijklknjaaaDoor.My
