/-
  No cell of these rows narrows 'for every input' (looked for: loops, veiled, ifaces, maps, wideKeys, modest, calm, conditions, laid).
  DERIVED. THE GIVEN ROWS OF THIS SEAT. 7 by the template 'for every input the law returns true; each argument reads behind the call as it read before'; 0 by the template 'total and deterministic' (their statements: YtpmnneghnbbpjaaTotals.lean).
  GIVEN WITH THE SEED: the statements are not yours to turn. If you find one false, say at which input.
  Laid BY PROGRAM, IN A SANDBOX (cutbox-rows.mjs): the forced cells as the released guide's own fill.sh prints them over the translation e741b83369ae6456… (all of the seat's roots in one cut). By AI agents, Wed Nov 11 2026. No macro, syntax, notation, axiom, sorry.
-/
import Derived.Test.YtpmnneghnbbpjaaChecked
import GoSem.Claim
import GoSem.ClaimJoined
import GoSem.ClaimMapViews
import Derived.JoinedTies
import Derived.KernelRfl
namespace Go.Proofs.Ytpmnneghnbbpjaa
/- THE CELL 'sum', in the pinned program and in every row, IS THE sha256 OF THE DUMP (.gsa) THAT YtpmnneghnbbpjaaProg.lean LOADS. Nothing in Lean hashes anything: it is a label: what it is worth is what the hold of that sum in a sandbox is worth. -/
noncomputable def Try.pinned : Pinned := { name := "ytpmnneghnbbpjaa", sum := "e741b83369ae6456af8859e4561d5e0b860fc37d09fa3c2f667ee7cad8ed523a", checked := Try.checked }
namespace Rows
def none {H : Type} : Left H := { results := [], args := [] }

/-- 'tailwaterlaw16.AccumsMonoid': WHATEVER THE INPUT: true; the input reads as it did. -/
def accumsMonoidSpec : ChangeSpec := { name := "accumsMonoid", fn := fun _ => fun
  | [d1, d2, d3] => { results := [.lit (.bool true)], args := [d1, d2, d3] }
  | _ => none }
def accumsMonoidRow : OpenClaim := { program := "ytpmnneghnbbpjaa", sum := "e741b83369ae6456af8859e4561d5e0b860fc37d09fa3c2f667ee7cad8ed523a", func := "tailwater/tailwaterlaw16.AccumsMonoid", spec := "accumsMonoid", apart := false }
def AccumsMonoidSaid : Prop := accumsMonoidRow.holds Try.pinned (OpenSpec.ofChange accumsMonoidSpec)

/-- ITS FALSE NEIGHBOUR: 'it returns false'. Refute it at one input. -/
def accumsMonoidWrong : ChangeSpec := { name := "accumsMonoid", fn := fun _ => fun
  | [d1, d2, d3] => { results := [.lit (.bool false)], args := [d1, d2, d3] }
  | _ => none }
def AccumsMonoidWrongFalsely : Prop := accumsMonoidRow.holds Try.pinned (OpenSpec.ofChange accumsMonoidWrong)

/-- 'tailwaterlaw01.IntsDoes': WHATEVER THE INPUT: true; the input reads as it did. -/
def intsDoesSpec : ChangeSpec := { name := "intsDoes", fn := fun _ => fun
  | [d1, d2, d3] => { results := [.lit (.bool true)], args := [d1, d2, d3] }
  | _ => none }
def intsDoesRow : OpenClaim := { program := "ytpmnneghnbbpjaa", sum := "e741b83369ae6456af8859e4561d5e0b860fc37d09fa3c2f667ee7cad8ed523a", func := "tailwater/tailwaterlaw01.IntsDoes", spec := "intsDoes", apart := false }
def IntsDoesSaid : Prop := intsDoesRow.holds Try.pinned (OpenSpec.ofChange intsDoesSpec)

/-- ITS FALSE NEIGHBOUR: 'it returns false'. Refute it at one input. -/
def intsDoesWrong : ChangeSpec := { name := "intsDoes", fn := fun _ => fun
  | [d1, d2, d3] => { results := [.lit (.bool false)], args := [d1, d2, d3] }
  | _ => none }
def IntsDoesWrongFalsely : Prop := intsDoesRow.holds Try.pinned (OpenSpec.ofChange intsDoesWrong)

/-- 'tailwaterlaw16.AccumsTells': WHATEVER THE INPUT: true; the input reads as it did. -/
def accumsTellsSpec : ChangeSpec := { name := "accumsTells", fn := fun _ => fun
  | [d1, d2, d3, d4] => { results := [.lit (.bool true)], args := [d1, d2, d3, d4] }
  | _ => none }
def accumsTellsRow : OpenClaim := { program := "ytpmnneghnbbpjaa", sum := "e741b83369ae6456af8859e4561d5e0b860fc37d09fa3c2f667ee7cad8ed523a", func := "tailwater/tailwaterlaw16.AccumsTells", spec := "accumsTells", apart := false }
def AccumsTellsSaid : Prop := accumsTellsRow.holds Try.pinned (OpenSpec.ofChange accumsTellsSpec)

/-- ITS FALSE NEIGHBOUR: 'it returns false'. Refute it at one input. -/
def accumsTellsWrong : ChangeSpec := { name := "accumsTells", fn := fun _ => fun
  | [d1, d2, d3, d4] => { results := [.lit (.bool false)], args := [d1, d2, d3, d4] }
  | _ => none }
def AccumsTellsWrongFalsely : Prop := accumsTellsRow.holds Try.pinned (OpenSpec.ofChange accumsTellsWrong)

/-- 'tailwaterlaw16.AccumsNames': WHATEVER THE INPUT: true; the input reads as it did. -/
def accumsNamesSpec : ChangeSpec := { name := "accumsNames", fn := fun _ => fun
  | [] => { results := [.lit (.bool true)], args := [] }
  | _ => none }
def accumsNamesRow : OpenClaim := { program := "ytpmnneghnbbpjaa", sum := "e741b83369ae6456af8859e4561d5e0b860fc37d09fa3c2f667ee7cad8ed523a", func := "tailwater/tailwaterlaw16.AccumsNames", spec := "accumsNames", apart := false }
def AccumsNamesSaid : Prop := accumsNamesRow.holds Try.pinned (OpenSpec.ofChange accumsNamesSpec)

/-- ITS FALSE NEIGHBOUR: 'it returns false'. Refute it at one input. -/
def accumsNamesWrong : ChangeSpec := { name := "accumsNames", fn := fun _ => fun
  | [] => { results := [.lit (.bool false)], args := [] }
  | _ => none }
def AccumsNamesWrongFalsely : Prop := accumsNamesRow.holds Try.pinned (OpenSpec.ofChange accumsNamesWrong)

/-- 'tailwaterlaw16.AccumsParts': WHATEVER THE INPUT: true; the input reads as it did. -/
def accumsPartsSpec : ChangeSpec := { name := "accumsParts", fn := fun _ => fun
  | [d1, d2] => { results := [.lit (.bool true)], args := [d1, d2] }
  | _ => none }
def accumsPartsRow : OpenClaim := { program := "ytpmnneghnbbpjaa", sum := "e741b83369ae6456af8859e4561d5e0b860fc37d09fa3c2f667ee7cad8ed523a", func := "tailwater/tailwaterlaw16.AccumsParts", spec := "accumsParts", apart := false }
def AccumsPartsSaid : Prop := accumsPartsRow.holds Try.pinned (OpenSpec.ofChange accumsPartsSpec)

/-- ITS FALSE NEIGHBOUR: 'it returns false'. Refute it at one input. -/
def accumsPartsWrong : ChangeSpec := { name := "accumsParts", fn := fun _ => fun
  | [d1, d2] => { results := [.lit (.bool false)], args := [d1, d2] }
  | _ => none }
def AccumsPartsWrongFalsely : Prop := accumsPartsRow.holds Try.pinned (OpenSpec.ofChange accumsPartsWrong)

/-- 'tailwaterlaw16.AccumsOne': WHATEVER THE INPUT: true; the input reads as it did. -/
def accumsOneSpec : ChangeSpec := { name := "accumsOne", fn := fun _ => fun
  | [d] => { results := [.lit (.bool true)], args := [d] }
  | _ => none }
def accumsOneRow : OpenClaim := { program := "ytpmnneghnbbpjaa", sum := "e741b83369ae6456af8859e4561d5e0b860fc37d09fa3c2f667ee7cad8ed523a", func := "tailwater/tailwaterlaw16.AccumsOne", spec := "accumsOne", apart := false }
def AccumsOneSaid : Prop := accumsOneRow.holds Try.pinned (OpenSpec.ofChange accumsOneSpec)

/-- ITS FALSE NEIGHBOUR: 'it returns false'. Refute it at one input. -/
def accumsOneWrong : ChangeSpec := { name := "accumsOne", fn := fun _ => fun
  | [d] => { results := [.lit (.bool false)], args := [d] }
  | _ => none }
def AccumsOneWrongFalsely : Prop := accumsOneRow.holds Try.pinned (OpenSpec.ofChange accumsOneWrong)

/-- 'tailwaterlaw16.AccumsValues': WHATEVER THE INPUT: true; the input reads as it did. -/
def accumsValuesSpec : ChangeSpec := { name := "accumsValues", fn := fun _ => fun
  | [d1, d2] => { results := [.lit (.bool true)], args := [d1, d2] }
  | _ => none }
def accumsValuesRow : OpenClaim := { program := "ytpmnneghnbbpjaa", sum := "e741b83369ae6456af8859e4561d5e0b860fc37d09fa3c2f667ee7cad8ed523a", func := "tailwater/tailwaterlaw16.AccumsValues", spec := "accumsValues", apart := false }
def AccumsValuesSaid : Prop := accumsValuesRow.holds Try.pinned (OpenSpec.ofChange accumsValuesSpec)

/-- ITS FALSE NEIGHBOUR: 'it returns false'. Refute it at one input. -/
def accumsValuesWrong : ChangeSpec := { name := "accumsValues", fn := fun _ => fun
  | [d1, d2] => { results := [.lit (.bool false)], args := [d1, d2] }
  | _ => none }
def AccumsValuesWrongFalsely : Prop := accumsValuesRow.holds Try.pinned (OpenSpec.ofChange accumsValuesWrong)

/- THE SECOND FORM. 'bulk': how many values and letters a reading holds, each counted each time it is reached (what is shared counts as often as it is met; a slice's spare places count too). A statement '..UptoSaid' is the law's where the arguments, and the package variables that the reading takes, are together of bulk at most 1048576: NARROWER than '..Said'. Prove '..Said' where nothing that the law and all that it calls make is longer than what came in: it says more and counts as full. Else prove '..UptoSaid'. A law counts once. -/
mutual
def uptoBulk {H : Type} : DataW H → Nat
  | .lit (.string bytes) => bytes.length + 1
  | .lit _ => 1
  | .nil => 1
  | .ptr d => uptoBulk d + 1
  | .slice elems spare => uptoBulkAll elems + uptoBulkAll spare + 1
  | .agg parts => uptoBulkAll parts + 1
  | .iface _ d => uptoBulk d + 1
  | .map entries => uptoBulkEntries entries + 1
  | .held _ => 1
def uptoBulkAll {H : Type} : List (DataW H) → Nat
  | [] => 0
  | d :: r => uptoBulk d + uptoBulkAll r
def uptoBulkEntries {H : Type} : List (Lit × DataW H) → Nat
  | [] => 0
  | x :: r => uptoBulkEntry x + uptoBulkEntries r
def uptoBulkEntry {H : Type} : Lit × DataW H → Nat
  | (.string bytes, d) => bytes.length + uptoBulk d + 1
  | (_, d) => uptoBulk d + 1
 end
def uptoSmall : (H : Type) → List (DataW H) → Bool := fun _ ds => decide (uptoBulkAll ds ≤ 1048576)
def OpenSpec.upto (s : _root_.Go.ChangeSpec) : _root_.Go.OpenSpec := { _root_.Go.OpenSpec.ofChange s with cond := some uptoSmall }

/-- 'tailwaterlaw16.AccumsMonoid', WHERE WHAT IT READS IS OF BULK AT MOST 1048576: true; the input reads as it did. -/
def accumsMonoidUptoRow : OpenClaim := { program := "ytpmnneghnbbpjaa", sum := "e741b83369ae6456af8859e4561d5e0b860fc37d09fa3c2f667ee7cad8ed523a", func := "tailwater/tailwaterlaw16.AccumsMonoid", spec := "accumsMonoid", apart := false, narrowed := true }
def AccumsMonoidUptoSaid : Prop := accumsMonoidUptoRow.holds Try.pinned (OpenSpec.upto accumsMonoidSpec)

/-- 'tailwaterlaw01.IntsDoes', WHERE WHAT IT READS IS OF BULK AT MOST 1048576: true; the input reads as it did. -/
def intsDoesUptoRow : OpenClaim := { program := "ytpmnneghnbbpjaa", sum := "e741b83369ae6456af8859e4561d5e0b860fc37d09fa3c2f667ee7cad8ed523a", func := "tailwater/tailwaterlaw01.IntsDoes", spec := "intsDoes", apart := false, narrowed := true }
def IntsDoesUptoSaid : Prop := intsDoesUptoRow.holds Try.pinned (OpenSpec.upto intsDoesSpec)

/-- 'tailwaterlaw16.AccumsTells', WHERE WHAT IT READS IS OF BULK AT MOST 1048576: true; the input reads as it did. -/
def accumsTellsUptoRow : OpenClaim := { program := "ytpmnneghnbbpjaa", sum := "e741b83369ae6456af8859e4561d5e0b860fc37d09fa3c2f667ee7cad8ed523a", func := "tailwater/tailwaterlaw16.AccumsTells", spec := "accumsTells", apart := false, narrowed := true }
def AccumsTellsUptoSaid : Prop := accumsTellsUptoRow.holds Try.pinned (OpenSpec.upto accumsTellsSpec)

/-- 'tailwaterlaw16.AccumsNames', WHERE WHAT IT READS IS OF BULK AT MOST 1048576: true; the input reads as it did. -/
def accumsNamesUptoRow : OpenClaim := { program := "ytpmnneghnbbpjaa", sum := "e741b83369ae6456af8859e4561d5e0b860fc37d09fa3c2f667ee7cad8ed523a", func := "tailwater/tailwaterlaw16.AccumsNames", spec := "accumsNames", apart := false, narrowed := true }
def AccumsNamesUptoSaid : Prop := accumsNamesUptoRow.holds Try.pinned (OpenSpec.upto accumsNamesSpec)

/-- 'tailwaterlaw16.AccumsParts', WHERE WHAT IT READS IS OF BULK AT MOST 1048576: true; the input reads as it did. -/
def accumsPartsUptoRow : OpenClaim := { program := "ytpmnneghnbbpjaa", sum := "e741b83369ae6456af8859e4561d5e0b860fc37d09fa3c2f667ee7cad8ed523a", func := "tailwater/tailwaterlaw16.AccumsParts", spec := "accumsParts", apart := false, narrowed := true }
def AccumsPartsUptoSaid : Prop := accumsPartsUptoRow.holds Try.pinned (OpenSpec.upto accumsPartsSpec)

/-- 'tailwaterlaw16.AccumsOne', WHERE WHAT IT READS IS OF BULK AT MOST 1048576: true; the input reads as it did. -/
def accumsOneUptoRow : OpenClaim := { program := "ytpmnneghnbbpjaa", sum := "e741b83369ae6456af8859e4561d5e0b860fc37d09fa3c2f667ee7cad8ed523a", func := "tailwater/tailwaterlaw16.AccumsOne", spec := "accumsOne", apart := false, narrowed := true }
def AccumsOneUptoSaid : Prop := accumsOneUptoRow.holds Try.pinned (OpenSpec.upto accumsOneSpec)

/-- 'tailwaterlaw16.AccumsValues', WHERE WHAT IT READS IS OF BULK AT MOST 1048576: true; the input reads as it did. -/
def accumsValuesUptoRow : OpenClaim := { program := "ytpmnneghnbbpjaa", sum := "e741b83369ae6456af8859e4561d5e0b860fc37d09fa3c2f667ee7cad8ed523a", func := "tailwater/tailwaterlaw16.AccumsValues", spec := "accumsValues", apart := false, narrowed := true }
def AccumsValuesUptoSaid : Prop := accumsValuesUptoRow.holds Try.pinned (OpenSpec.upto accumsValuesSpec)

end Rows
end Go.Proofs.Ytpmnneghnbbpjaa
