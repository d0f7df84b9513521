/-
  No cell of these rows narrows 'for every input' (looked for: loops, veiled, ifaces, maps, wideKeys, modest, calm, conditions, laid).
  DERIVED. THE GIVEN ROWS OF THIS SEAT. 10 by the template 'for every input the law returns true; each argument reads behind the call as it read before'; 0 by the template 'total and deterministic' (their statements: YthmahaoadoeoaaaTotals.lean).
  GIVEN WITH THE SEED: the statements are not yours to turn. If you find one false, say at which input.
  Laid BY PROGRAM, IN A SANDBOX (cutbox-rows.mjs): the forced cells as the released guide's own fill.sh prints them over the translation c6be28bce12e75ea… (all of the seat's roots in one cut). By AI agents, Wed Nov 11 2026. No macro, syntax, notation, axiom, sorry.
-/
import Derived.Test.YthmahaoadoeoaaaChecked
import GoSem.Claim
import GoSem.ClaimJoined
import GoSem.ClaimMapViews
import Derived.JoinedTies
import Derived.KernelRfl
namespace Go.Proofs.Ythmahaoadoeoaaa
/- THE CELL 'sum', in the pinned program and in every row, IS THE sha256 OF THE DUMP (.gsa) THAT YthmahaoadoeoaaaProg.lean LOADS. Nothing in Lean hashes anything: it is a label: what it is worth is what the hold of that sum in a sandbox is worth. -/
noncomputable def Try.pinned : Pinned := { name := "ythmahaoadoeoaaa", sum := "c6be28bce12e75ea855ac9bd4f6a8b05ac5da345a8f223f1030d1241a957aa01", checked := Try.checked }
namespace Rows
def none {H : Type} : Left H := { results := [], args := [] }

/-- 'nepenthelaw08.TwiceDoubles': WHATEVER THE INPUT: true; the input reads as it did. -/
def twiceDoublesSpec : ChangeSpec := { name := "twiceDoubles", fn := fun _ => fun
  | [d1, d2] => { results := [.lit (.bool true)], args := [d1, d2] }
  | _ => none }
def twiceDoublesRow : OpenClaim := { program := "ythmahaoadoeoaaa", sum := "c6be28bce12e75ea855ac9bd4f6a8b05ac5da345a8f223f1030d1241a957aa01", func := "nepenthe/nepenthelaw08.TwiceDoubles", spec := "twiceDoubles", apart := false }
def TwiceDoublesSaid : Prop := twiceDoublesRow.holds Try.pinned (OpenSpec.ofChange twiceDoublesSpec)

/-- ITS FALSE NEIGHBOUR: 'it returns false'. Refute it at one input. -/
def twiceDoublesWrong : ChangeSpec := { name := "twiceDoubles", fn := fun _ => fun
  | [d1, d2] => { results := [.lit (.bool false)], args := [d1, d2] }
  | _ => none }
def TwiceDoublesWrongFalsely : Prop := twiceDoublesRow.holds Try.pinned (OpenSpec.ofChange twiceDoublesWrong)

/-- 'nepenthelaw08.TwiceKeeps': WHATEVER THE INPUT: true; the input reads as it did. -/
def twiceKeepsSpec : ChangeSpec := { name := "twiceKeeps", fn := fun _ => fun
  | [d1, d2, d3] => { results := [.lit (.bool true)], args := [d1, d2, d3] }
  | _ => none }
def twiceKeepsRow : OpenClaim := { program := "ythmahaoadoeoaaa", sum := "c6be28bce12e75ea855ac9bd4f6a8b05ac5da345a8f223f1030d1241a957aa01", func := "nepenthe/nepenthelaw08.TwiceKeeps", spec := "twiceKeeps", apart := false }
def TwiceKeepsSaid : Prop := twiceKeepsRow.holds Try.pinned (OpenSpec.ofChange twiceKeepsSpec)

/-- ITS FALSE NEIGHBOUR: 'it returns false'. Refute it at one input. -/
def twiceKeepsWrong : ChangeSpec := { name := "twiceKeeps", fn := fun _ => fun
  | [d1, d2, d3] => { results := [.lit (.bool false)], args := [d1, d2, d3] }
  | _ => none }
def TwiceKeepsWrongFalsely : Prop := twiceKeepsRow.holds Try.pinned (OpenSpec.ofChange twiceKeepsWrong)

/-- 'nepenthelaw05.FieldProducts': WHATEVER THE INPUT: true; the input reads as it did. -/
def fieldProductsSpec : ChangeSpec := { name := "fieldProducts", fn := fun _ => fun
  | [d1, d2] => { results := [.lit (.bool true)], args := [d1, d2] }
  | _ => none }
def fieldProductsRow : OpenClaim := { program := "ythmahaoadoeoaaa", sum := "c6be28bce12e75ea855ac9bd4f6a8b05ac5da345a8f223f1030d1241a957aa01", func := "nepenthe/nepenthelaw05.FieldProducts", spec := "fieldProducts", apart := false }
def FieldProductsSaid : Prop := fieldProductsRow.holds Try.pinned (OpenSpec.ofChange fieldProductsSpec)

/-- ITS FALSE NEIGHBOUR: 'it returns false'. Refute it at one input. -/
def fieldProductsWrong : ChangeSpec := { name := "fieldProducts", fn := fun _ => fun
  | [d1, d2] => { results := [.lit (.bool false)], args := [d1, d2] }
  | _ => none }
def FieldProductsWrongFalsely : Prop := fieldProductsRow.holds Try.pinned (OpenSpec.ofChange fieldProductsWrong)

/-- 'nepenthelaw05.FieldPowers': WHATEVER THE INPUT: true; the input reads as it did. -/
def fieldPowersSpec : ChangeSpec := { name := "fieldPowers", fn := fun _ => fun
  | [d1, d2] => { results := [.lit (.bool true)], args := [d1, d2] }
  | _ => none }
def fieldPowersRow : OpenClaim := { program := "ythmahaoadoeoaaa", sum := "c6be28bce12e75ea855ac9bd4f6a8b05ac5da345a8f223f1030d1241a957aa01", func := "nepenthe/nepenthelaw05.FieldPowers", spec := "fieldPowers", apart := false }
def FieldPowersSaid : Prop := fieldPowersRow.holds Try.pinned (OpenSpec.ofChange fieldPowersSpec)

/-- ITS FALSE NEIGHBOUR: 'it returns false'. Refute it at one input. -/
def fieldPowersWrong : ChangeSpec := { name := "fieldPowers", fn := fun _ => fun
  | [d1, d2] => { results := [.lit (.bool false)], args := [d1, d2] }
  | _ => none }
def FieldPowersWrongFalsely : Prop := fieldPowersRow.holds Try.pinned (OpenSpec.ofChange fieldPowersWrong)

/-- 'nepenthelaw05.FieldInverses': WHATEVER THE INPUT: true; the input reads as it did. -/
def fieldInversesSpec : ChangeSpec := { name := "fieldInverses", fn := fun _ => fun
  | [d] => { results := [.lit (.bool true)], args := [d] }
  | _ => none }
def fieldInversesRow : OpenClaim := { program := "ythmahaoadoeoaaa", sum := "c6be28bce12e75ea855ac9bd4f6a8b05ac5da345a8f223f1030d1241a957aa01", func := "nepenthe/nepenthelaw05.FieldInverses", spec := "fieldInverses", apart := false }
def FieldInversesSaid : Prop := fieldInversesRow.holds Try.pinned (OpenSpec.ofChange fieldInversesSpec)

/-- ITS FALSE NEIGHBOUR: 'it returns false'. Refute it at one input. -/
def fieldInversesWrong : ChangeSpec := { name := "fieldInverses", fn := fun _ => fun
  | [d] => { results := [.lit (.bool false)], args := [d] }
  | _ => none }
def FieldInversesWrongFalsely : Prop := fieldInversesRow.holds Try.pinned (OpenSpec.ofChange fieldInversesWrong)

/-- 'nepenthelaw05.FieldRules': WHATEVER THE INPUT: true; the input reads as it did. -/
def fieldRulesSpec : ChangeSpec := { name := "fieldRules", fn := fun _ => fun
  | [d1, d2, d3] => { results := [.lit (.bool true)], args := [d1, d2, d3] }
  | _ => none }
def fieldRulesRow : OpenClaim := { program := "ythmahaoadoeoaaa", sum := "c6be28bce12e75ea855ac9bd4f6a8b05ac5da345a8f223f1030d1241a957aa01", func := "nepenthe/nepenthelaw05.FieldRules", spec := "fieldRules", apart := false }
def FieldRulesSaid : Prop := fieldRulesRow.holds Try.pinned (OpenSpec.ofChange fieldRulesSpec)

/-- ITS FALSE NEIGHBOUR: 'it returns false'. Refute it at one input. -/
def fieldRulesWrong : ChangeSpec := { name := "fieldRules", fn := fun _ => fun
  | [d1, d2, d3] => { results := [.lit (.bool false)], args := [d1, d2, d3] }
  | _ => none }
def FieldRulesWrongFalsely : Prop := fieldRulesRow.holds Try.pinned (OpenSpec.ofChange fieldRulesWrong)

/-- 'nepenthelaw08.TwiceLists': WHATEVER THE INPUT: true; the input reads as it did. -/
def twiceListsSpec : ChangeSpec := { name := "twiceLists", fn := fun _ => fun
  | [d1, d2] => { results := [.lit (.bool true)], args := [d1, d2] }
  | _ => none }
def twiceListsRow : OpenClaim := { program := "ythmahaoadoeoaaa", sum := "c6be28bce12e75ea855ac9bd4f6a8b05ac5da345a8f223f1030d1241a957aa01", func := "nepenthe/nepenthelaw08.TwiceLists", spec := "twiceLists", apart := false }
def TwiceListsSaid : Prop := twiceListsRow.holds Try.pinned (OpenSpec.ofChange twiceListsSpec)

/-- ITS FALSE NEIGHBOUR: 'it returns false'. Refute it at one input. -/
def twiceListsWrong : ChangeSpec := { name := "twiceLists", fn := fun _ => fun
  | [d1, d2] => { results := [.lit (.bool false)], args := [d1, d2] }
  | _ => none }
def TwiceListsWrongFalsely : Prop := twiceListsRow.holds Try.pinned (OpenSpec.ofChange twiceListsWrong)

/-- 'nepenthelaw08.TwiceProducts': WHATEVER THE INPUT: true; the input reads as it did. -/
def twiceProductsSpec : ChangeSpec := { name := "twiceProducts", fn := fun _ => fun
  | [d1, d2] => { results := [.lit (.bool true)], args := [d1, d2] }
  | _ => none }
def twiceProductsRow : OpenClaim := { program := "ythmahaoadoeoaaa", sum := "c6be28bce12e75ea855ac9bd4f6a8b05ac5da345a8f223f1030d1241a957aa01", func := "nepenthe/nepenthelaw08.TwiceProducts", spec := "twiceProducts", apart := false }
def TwiceProductsSaid : Prop := twiceProductsRow.holds Try.pinned (OpenSpec.ofChange twiceProductsSpec)

/-- ITS FALSE NEIGHBOUR: 'it returns false'. Refute it at one input. -/
def twiceProductsWrong : ChangeSpec := { name := "twiceProducts", fn := fun _ => fun
  | [d1, d2] => { results := [.lit (.bool false)], args := [d1, d2] }
  | _ => none }
def TwiceProductsWrongFalsely : Prop := twiceProductsRow.holds Try.pinned (OpenSpec.ofChange twiceProductsWrong)

/-- 'nepenthelaw08.TwiceRules': WHATEVER THE INPUT: true; the input reads as it did. -/
def twiceRulesSpec : ChangeSpec := { name := "twiceRules", fn := fun _ => fun
  | [d1, d2, d3] => { results := [.lit (.bool true)], args := [d1, d2, d3] }
  | _ => none }
def twiceRulesRow : OpenClaim := { program := "ythmahaoadoeoaaa", sum := "c6be28bce12e75ea855ac9bd4f6a8b05ac5da345a8f223f1030d1241a957aa01", func := "nepenthe/nepenthelaw08.TwiceRules", spec := "twiceRules", apart := false }
def TwiceRulesSaid : Prop := twiceRulesRow.holds Try.pinned (OpenSpec.ofChange twiceRulesSpec)

/-- ITS FALSE NEIGHBOUR: 'it returns false'. Refute it at one input. -/
def twiceRulesWrong : ChangeSpec := { name := "twiceRules", fn := fun _ => fun
  | [d1, d2, d3] => { results := [.lit (.bool false)], args := [d1, d2, d3] }
  | _ => none }
def TwiceRulesWrongFalsely : Prop := twiceRulesRow.holds Try.pinned (OpenSpec.ofChange twiceRulesWrong)

/-- 'nepenthelaw05.FieldMixes': WHATEVER THE INPUT: true; the input reads as it did. -/
def fieldMixesSpec : ChangeSpec := { name := "fieldMixes", fn := fun _ => fun
  | [d] => { results := [.lit (.bool true)], args := [d] }
  | _ => none }
def fieldMixesRow : OpenClaim := { program := "ythmahaoadoeoaaa", sum := "c6be28bce12e75ea855ac9bd4f6a8b05ac5da345a8f223f1030d1241a957aa01", func := "nepenthe/nepenthelaw05.FieldMixes", spec := "fieldMixes", apart := false }
def FieldMixesSaid : Prop := fieldMixesRow.holds Try.pinned (OpenSpec.ofChange fieldMixesSpec)

/-- ITS FALSE NEIGHBOUR: 'it returns false'. Refute it at one input. -/
def fieldMixesWrong : ChangeSpec := { name := "fieldMixes", fn := fun _ => fun
  | [d] => { results := [.lit (.bool false)], args := [d] }
  | _ => none }
def FieldMixesWrongFalsely : Prop := fieldMixesRow.holds Try.pinned (OpenSpec.ofChange fieldMixesWrong)

/- THE SECOND FORM. 'bulk': how many values and letters a reading holds, each counted each time it is reached (what is shared counts as often as it is met; a slice's spare places count too). A statement '..UptoSaid' is the law's where the arguments, and the package variables that the reading takes, are together of bulk at most 1048576: NARROWER than '..Said'. Prove '..Said' where nothing that the law and all that it calls make is longer than what came in: it says more and counts as full. Else prove '..UptoSaid'. A law counts once. -/
mutual
def uptoBulk {H : Type} : DataW H → Nat
  | .lit (.string bytes) => bytes.length + 1
  | .lit _ => 1
  | .nil => 1
  | .ptr d => uptoBulk d + 1
  | .slice elems spare => uptoBulkAll elems + uptoBulkAll spare + 1
  | .agg parts => uptoBulkAll parts + 1
  | .iface _ d => uptoBulk d + 1
  | .map entries => uptoBulkEntries entries + 1
  | .held _ => 1
def uptoBulkAll {H : Type} : List (DataW H) → Nat
  | [] => 0
  | d :: r => uptoBulk d + uptoBulkAll r
def uptoBulkEntries {H : Type} : List (Lit × DataW H) → Nat
  | [] => 0
  | x :: r => uptoBulkEntry x + uptoBulkEntries r
def uptoBulkEntry {H : Type} : Lit × DataW H → Nat
  | (.string bytes, d) => bytes.length + uptoBulk d + 1
  | (_, d) => uptoBulk d + 1
 end
def uptoSmall : (H : Type) → List (DataW H) → Bool := fun _ ds => decide (uptoBulkAll ds ≤ 1048576)
def OpenSpec.upto (s : _root_.Go.ChangeSpec) : _root_.Go.OpenSpec := { _root_.Go.OpenSpec.ofChange s with cond := some uptoSmall }

/-- 'nepenthelaw08.TwiceDoubles', WHERE WHAT IT READS IS OF BULK AT MOST 1048576: true; the input reads as it did. -/
def twiceDoublesUptoRow : OpenClaim := { program := "ythmahaoadoeoaaa", sum := "c6be28bce12e75ea855ac9bd4f6a8b05ac5da345a8f223f1030d1241a957aa01", func := "nepenthe/nepenthelaw08.TwiceDoubles", spec := "twiceDoubles", apart := false, narrowed := true }
def TwiceDoublesUptoSaid : Prop := twiceDoublesUptoRow.holds Try.pinned (OpenSpec.upto twiceDoublesSpec)

/-- 'nepenthelaw08.TwiceKeeps', WHERE WHAT IT READS IS OF BULK AT MOST 1048576: true; the input reads as it did. -/
def twiceKeepsUptoRow : OpenClaim := { program := "ythmahaoadoeoaaa", sum := "c6be28bce12e75ea855ac9bd4f6a8b05ac5da345a8f223f1030d1241a957aa01", func := "nepenthe/nepenthelaw08.TwiceKeeps", spec := "twiceKeeps", apart := false, narrowed := true }
def TwiceKeepsUptoSaid : Prop := twiceKeepsUptoRow.holds Try.pinned (OpenSpec.upto twiceKeepsSpec)

/-- 'nepenthelaw05.FieldProducts', WHERE WHAT IT READS IS OF BULK AT MOST 1048576: true; the input reads as it did. -/
def fieldProductsUptoRow : OpenClaim := { program := "ythmahaoadoeoaaa", sum := "c6be28bce12e75ea855ac9bd4f6a8b05ac5da345a8f223f1030d1241a957aa01", func := "nepenthe/nepenthelaw05.FieldProducts", spec := "fieldProducts", apart := false, narrowed := true }
def FieldProductsUptoSaid : Prop := fieldProductsUptoRow.holds Try.pinned (OpenSpec.upto fieldProductsSpec)

/-- 'nepenthelaw05.FieldPowers', WHERE WHAT IT READS IS OF BULK AT MOST 1048576: true; the input reads as it did. -/
def fieldPowersUptoRow : OpenClaim := { program := "ythmahaoadoeoaaa", sum := "c6be28bce12e75ea855ac9bd4f6a8b05ac5da345a8f223f1030d1241a957aa01", func := "nepenthe/nepenthelaw05.FieldPowers", spec := "fieldPowers", apart := false, narrowed := true }
def FieldPowersUptoSaid : Prop := fieldPowersUptoRow.holds Try.pinned (OpenSpec.upto fieldPowersSpec)

/-- 'nepenthelaw05.FieldInverses', WHERE WHAT IT READS IS OF BULK AT MOST 1048576: true; the input reads as it did. -/
def fieldInversesUptoRow : OpenClaim := { program := "ythmahaoadoeoaaa", sum := "c6be28bce12e75ea855ac9bd4f6a8b05ac5da345a8f223f1030d1241a957aa01", func := "nepenthe/nepenthelaw05.FieldInverses", spec := "fieldInverses", apart := false, narrowed := true }
def FieldInversesUptoSaid : Prop := fieldInversesUptoRow.holds Try.pinned (OpenSpec.upto fieldInversesSpec)

/-- 'nepenthelaw05.FieldRules', WHERE WHAT IT READS IS OF BULK AT MOST 1048576: true; the input reads as it did. -/
def fieldRulesUptoRow : OpenClaim := { program := "ythmahaoadoeoaaa", sum := "c6be28bce12e75ea855ac9bd4f6a8b05ac5da345a8f223f1030d1241a957aa01", func := "nepenthe/nepenthelaw05.FieldRules", spec := "fieldRules", apart := false, narrowed := true }
def FieldRulesUptoSaid : Prop := fieldRulesUptoRow.holds Try.pinned (OpenSpec.upto fieldRulesSpec)

/-- 'nepenthelaw08.TwiceLists', WHERE WHAT IT READS IS OF BULK AT MOST 1048576: true; the input reads as it did. -/
def twiceListsUptoRow : OpenClaim := { program := "ythmahaoadoeoaaa", sum := "c6be28bce12e75ea855ac9bd4f6a8b05ac5da345a8f223f1030d1241a957aa01", func := "nepenthe/nepenthelaw08.TwiceLists", spec := "twiceLists", apart := false, narrowed := true }
def TwiceListsUptoSaid : Prop := twiceListsUptoRow.holds Try.pinned (OpenSpec.upto twiceListsSpec)

/-- 'nepenthelaw08.TwiceProducts', WHERE WHAT IT READS IS OF BULK AT MOST 1048576: true; the input reads as it did. -/
def twiceProductsUptoRow : OpenClaim := { program := "ythmahaoadoeoaaa", sum := "c6be28bce12e75ea855ac9bd4f6a8b05ac5da345a8f223f1030d1241a957aa01", func := "nepenthe/nepenthelaw08.TwiceProducts", spec := "twiceProducts", apart := false, narrowed := true }
def TwiceProductsUptoSaid : Prop := twiceProductsUptoRow.holds Try.pinned (OpenSpec.upto twiceProductsSpec)

/-- 'nepenthelaw08.TwiceRules', WHERE WHAT IT READS IS OF BULK AT MOST 1048576: true; the input reads as it did. -/
def twiceRulesUptoRow : OpenClaim := { program := "ythmahaoadoeoaaa", sum := "c6be28bce12e75ea855ac9bd4f6a8b05ac5da345a8f223f1030d1241a957aa01", func := "nepenthe/nepenthelaw08.TwiceRules", spec := "twiceRules", apart := false, narrowed := true }
def TwiceRulesUptoSaid : Prop := twiceRulesUptoRow.holds Try.pinned (OpenSpec.upto twiceRulesSpec)

/-- 'nepenthelaw05.FieldMixes', WHERE WHAT IT READS IS OF BULK AT MOST 1048576: true; the input reads as it did. -/
def fieldMixesUptoRow : OpenClaim := { program := "ythmahaoadoeoaaa", sum := "c6be28bce12e75ea855ac9bd4f6a8b05ac5da345a8f223f1030d1241a957aa01", func := "nepenthe/nepenthelaw05.FieldMixes", spec := "fieldMixes", apart := false, narrowed := true }
def FieldMixesUptoSaid : Prop := fieldMixesUptoRow.holds Try.pinned (OpenSpec.upto fieldMixesSpec)

end Rows
end Go.Proofs.Ythmahaoadoeoaaa
