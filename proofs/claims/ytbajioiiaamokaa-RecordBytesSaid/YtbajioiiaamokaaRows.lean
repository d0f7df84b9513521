/-
  No cell of these rows narrows 'for every input' (looked for: loops, veiled, ifaces, maps, wideKeys, modest, calm, conditions, laid).
  DERIVED. THE GIVEN ROWS OF THIS SEAT. 6 by the template 'for every input the law returns true; each argument reads behind the call as it read before'; 0 by the template 'total and deterministic' (their statements: YtbajioiiaamokaaTotals.lean).
  GIVEN WITH THE SEED: the statements are not yours to turn. If you find one false, say at which input.
  Laid BY PROGRAM, IN A SANDBOX (cutbox-rows.mjs): the forced cells as the released guide's own fill.sh prints them over the translation 112e1c9188701e09… (all of the seat's roots in one cut). By AI agents, Wed Nov 11 2026. No macro, syntax, notation, axiom, sorry.
-/
import Derived.Test.YtbajioiiaamokaaChecked
import GoSem.Claim
import GoSem.ClaimJoined
import GoSem.ClaimMapViews
import Derived.JoinedTies
import Derived.KernelRfl
namespace Go.Proofs.Ytbajioiiaamokaa
/- THE CELL 'sum', in the pinned program and in every row, IS THE sha256 OF THE DUMP (.gsa) THAT YtbajioiiaamokaaProg.lean LOADS. Nothing in Lean hashes anything: it is a label: what it is worth is what the hold of that sum in a sandbox is worth. -/
noncomputable def Try.pinned : Pinned := { name := "ytbajioiiaamokaa", sum := "112e1c9188701e0969e5a1398e255934359cd16528e25d3a5dc01d6a98660a21", checked := Try.checked }
namespace Rows
def none {H : Type} : Left H := { results := [], args := [] }

/-- 'nepenthelaw18.RecordBytes': WHATEVER THE INPUT: true; the input reads as it did. -/
def recordBytesSpec : ChangeSpec := { name := "recordBytes", fn := fun _ => fun
  | [d1, d2] => { results := [.lit (.bool true)], args := [d1, d2] }
  | _ => none }
def recordBytesRow : OpenClaim := { program := "ytbajioiiaamokaa", sum := "112e1c9188701e0969e5a1398e255934359cd16528e25d3a5dc01d6a98660a21", func := "nepenthe/nepenthelaw18.RecordBytes", spec := "recordBytes", apart := false }
def RecordBytesSaid : Prop := recordBytesRow.holds Try.pinned (OpenSpec.ofChange recordBytesSpec)

/-- ITS FALSE NEIGHBOUR: 'it returns false'. Refute it at one input. -/
def recordBytesWrong : ChangeSpec := { name := "recordBytes", fn := fun _ => fun
  | [d1, d2] => { results := [.lit (.bool false)], args := [d1, d2] }
  | _ => none }
def RecordBytesWrongFalsely : Prop := recordBytesRow.holds Try.pinned (OpenSpec.ofChange recordBytesWrong)

/-- 'nepenthelaw38.CheckpointBytes': WHATEVER THE INPUT: true; the input reads as it did. -/
def checkpointBytesSpec : ChangeSpec := { name := "checkpointBytes", fn := fun _ => fun
  | [d1, d2] => { results := [.lit (.bool true)], args := [d1, d2] }
  | _ => none }
def checkpointBytesRow : OpenClaim := { program := "ytbajioiiaamokaa", sum := "112e1c9188701e0969e5a1398e255934359cd16528e25d3a5dc01d6a98660a21", func := "nepenthe/nepenthelaw38.CheckpointBytes", spec := "checkpointBytes", unfollowed := true, recurses := true, apart := false }
def CheckpointBytesSaid : Prop := checkpointBytesRow.holds Try.pinned (OpenSpec.ofChange checkpointBytesSpec)

/-- ITS FALSE NEIGHBOUR: 'it returns false'. Refute it at one input. -/
def checkpointBytesWrong : ChangeSpec := { name := "checkpointBytes", fn := fun _ => fun
  | [d1, d2] => { results := [.lit (.bool false)], args := [d1, d2] }
  | _ => none }
def CheckpointBytesWrongFalsely : Prop := checkpointBytesRow.holds Try.pinned (OpenSpec.ofChange checkpointBytesWrong)

/-- 'nepenthelaw38.CheckpointParses': WHATEVER THE INPUT: true; the input reads as it did. -/
def checkpointParsesSpec : ChangeSpec := { name := "checkpointParses", fn := fun _ => fun
  | [d1, d2] => { results := [.lit (.bool true)], args := [d1, d2] }
  | _ => none }
def checkpointParsesRow : OpenClaim := { program := "ytbajioiiaamokaa", sum := "112e1c9188701e0969e5a1398e255934359cd16528e25d3a5dc01d6a98660a21", func := "nepenthe/nepenthelaw38.CheckpointParses", spec := "checkpointParses", unfollowed := true, recurses := true, apart := false }
def CheckpointParsesSaid : Prop := checkpointParsesRow.holds Try.pinned (OpenSpec.ofChange checkpointParsesSpec)

/-- ITS FALSE NEIGHBOUR: 'it returns false'. Refute it at one input. -/
def checkpointParsesWrong : ChangeSpec := { name := "checkpointParses", fn := fun _ => fun
  | [d1, d2] => { results := [.lit (.bool false)], args := [d1, d2] }
  | _ => none }
def CheckpointParsesWrongFalsely : Prop := checkpointParsesRow.holds Try.pinned (OpenSpec.ofChange checkpointParsesWrong)

/-- 'nepenthelaw18.RecordReads': WHATEVER THE INPUT: true; the input reads as it did. -/
def recordReadsSpec : ChangeSpec := { name := "recordReads", fn := fun _ => fun
  | [d1, d2] => { results := [.lit (.bool true)], args := [d1, d2] }
  | _ => none }
def recordReadsRow : OpenClaim := { program := "ytbajioiiaamokaa", sum := "112e1c9188701e0969e5a1398e255934359cd16528e25d3a5dc01d6a98660a21", func := "nepenthe/nepenthelaw18.RecordReads", spec := "recordReads", apart := false }
def RecordReadsSaid : Prop := recordReadsRow.holds Try.pinned (OpenSpec.ofChange recordReadsSpec)

/-- ITS FALSE NEIGHBOUR: 'it returns false'. Refute it at one input. -/
def recordReadsWrong : ChangeSpec := { name := "recordReads", fn := fun _ => fun
  | [d1, d2] => { results := [.lit (.bool false)], args := [d1, d2] }
  | _ => none }
def RecordReadsWrongFalsely : Prop := recordReadsRow.holds Try.pinned (OpenSpec.ofChange recordReadsWrong)

/-- 'nepenthelaw18.RecordOpens': WHATEVER THE INPUT: true; the input reads as it did. -/
def recordOpensSpec : ChangeSpec := { name := "recordOpens", fn := fun _ => fun
  | [d1, d2, d3] => { results := [.lit (.bool true)], args := [d1, d2, d3] }
  | _ => none }
def recordOpensRow : OpenClaim := { program := "ytbajioiiaamokaa", sum := "112e1c9188701e0969e5a1398e255934359cd16528e25d3a5dc01d6a98660a21", func := "nepenthe/nepenthelaw18.RecordOpens", spec := "recordOpens", apart := false }
def RecordOpensSaid : Prop := recordOpensRow.holds Try.pinned (OpenSpec.ofChange recordOpensSpec)

/-- ITS FALSE NEIGHBOUR: 'it returns false'. Refute it at one input. -/
def recordOpensWrong : ChangeSpec := { name := "recordOpens", fn := fun _ => fun
  | [d1, d2, d3] => { results := [.lit (.bool false)], args := [d1, d2, d3] }
  | _ => none }
def RecordOpensWrongFalsely : Prop := recordOpensRow.holds Try.pinned (OpenSpec.ofChange recordOpensWrong)

/-- 'nepenthelaw18.RecordFirsts': WHATEVER THE INPUT: true; the input reads as it did. -/
def recordFirstsSpec : ChangeSpec := { name := "recordFirsts", fn := fun _ => fun
  | [d1, d2, d3] => { results := [.lit (.bool true)], args := [d1, d2, d3] }
  | _ => none }
def recordFirstsRow : OpenClaim := { program := "ytbajioiiaamokaa", sum := "112e1c9188701e0969e5a1398e255934359cd16528e25d3a5dc01d6a98660a21", func := "nepenthe/nepenthelaw18.RecordFirsts", spec := "recordFirsts", apart := false }
def RecordFirstsSaid : Prop := recordFirstsRow.holds Try.pinned (OpenSpec.ofChange recordFirstsSpec)

/-- ITS FALSE NEIGHBOUR: 'it returns false'. Refute it at one input. -/
def recordFirstsWrong : ChangeSpec := { name := "recordFirsts", fn := fun _ => fun
  | [d1, d2, d3] => { results := [.lit (.bool false)], args := [d1, d2, d3] }
  | _ => none }
def RecordFirstsWrongFalsely : Prop := recordFirstsRow.holds Try.pinned (OpenSpec.ofChange recordFirstsWrong)

/- THE SECOND FORM. 'bulk': how many values and letters a reading holds, each counted each time it is reached (what is shared counts as often as it is met; a slice's spare places count too). A statement '..UptoSaid' is the law's where the arguments, and the package variables that the reading takes, are together of bulk at most 1048576: NARROWER than '..Said'. Prove '..Said' where nothing that the law and all that it calls make is longer than what came in: it says more and counts as full. Else prove '..UptoSaid'. A law counts once. -/
mutual
def uptoBulk {H : Type} : DataW H → Nat
  | .lit (.string bytes) => bytes.length + 1
  | .lit _ => 1
  | .nil => 1
  | .ptr d => uptoBulk d + 1
  | .slice elems spare => uptoBulkAll elems + uptoBulkAll spare + 1
  | .agg parts => uptoBulkAll parts + 1
  | .iface _ d => uptoBulk d + 1
  | .map entries => uptoBulkEntries entries + 1
  | .held _ => 1
def uptoBulkAll {H : Type} : List (DataW H) → Nat
  | [] => 0
  | d :: r => uptoBulk d + uptoBulkAll r
def uptoBulkEntries {H : Type} : List (Lit × DataW H) → Nat
  | [] => 0
  | x :: r => uptoBulkEntry x + uptoBulkEntries r
def uptoBulkEntry {H : Type} : Lit × DataW H → Nat
  | (.string bytes, d) => bytes.length + uptoBulk d + 1
  | (_, d) => uptoBulk d + 1
 end
def uptoSmall : (H : Type) → List (DataW H) → Bool := fun _ ds => decide (uptoBulkAll ds ≤ 1048576)
def OpenSpec.upto (s : _root_.Go.ChangeSpec) : _root_.Go.OpenSpec := { _root_.Go.OpenSpec.ofChange s with cond := some uptoSmall }

/-- 'nepenthelaw18.RecordBytes', WHERE WHAT IT READS IS OF BULK AT MOST 1048576: true; the input reads as it did. -/
def recordBytesUptoRow : OpenClaim := { program := "ytbajioiiaamokaa", sum := "112e1c9188701e0969e5a1398e255934359cd16528e25d3a5dc01d6a98660a21", func := "nepenthe/nepenthelaw18.RecordBytes", spec := "recordBytes", apart := false, narrowed := true }
def RecordBytesUptoSaid : Prop := recordBytesUptoRow.holds Try.pinned (OpenSpec.upto recordBytesSpec)

/-- 'nepenthelaw38.CheckpointBytes', WHERE WHAT IT READS IS OF BULK AT MOST 1048576: true; the input reads as it did. -/
def checkpointBytesUptoRow : OpenClaim := { program := "ytbajioiiaamokaa", sum := "112e1c9188701e0969e5a1398e255934359cd16528e25d3a5dc01d6a98660a21", func := "nepenthe/nepenthelaw38.CheckpointBytes", spec := "checkpointBytes", unfollowed := true, recurses := true, apart := false, narrowed := true }
def CheckpointBytesUptoSaid : Prop := checkpointBytesUptoRow.holds Try.pinned (OpenSpec.upto checkpointBytesSpec)

/-- 'nepenthelaw38.CheckpointParses', WHERE WHAT IT READS IS OF BULK AT MOST 1048576: true; the input reads as it did. -/
def checkpointParsesUptoRow : OpenClaim := { program := "ytbajioiiaamokaa", sum := "112e1c9188701e0969e5a1398e255934359cd16528e25d3a5dc01d6a98660a21", func := "nepenthe/nepenthelaw38.CheckpointParses", spec := "checkpointParses", unfollowed := true, recurses := true, apart := false, narrowed := true }
def CheckpointParsesUptoSaid : Prop := checkpointParsesUptoRow.holds Try.pinned (OpenSpec.upto checkpointParsesSpec)

/-- 'nepenthelaw18.RecordReads', WHERE WHAT IT READS IS OF BULK AT MOST 1048576: true; the input reads as it did. -/
def recordReadsUptoRow : OpenClaim := { program := "ytbajioiiaamokaa", sum := "112e1c9188701e0969e5a1398e255934359cd16528e25d3a5dc01d6a98660a21", func := "nepenthe/nepenthelaw18.RecordReads", spec := "recordReads", apart := false, narrowed := true }
def RecordReadsUptoSaid : Prop := recordReadsUptoRow.holds Try.pinned (OpenSpec.upto recordReadsSpec)

/-- 'nepenthelaw18.RecordOpens', WHERE WHAT IT READS IS OF BULK AT MOST 1048576: true; the input reads as it did. -/
def recordOpensUptoRow : OpenClaim := { program := "ytbajioiiaamokaa", sum := "112e1c9188701e0969e5a1398e255934359cd16528e25d3a5dc01d6a98660a21", func := "nepenthe/nepenthelaw18.RecordOpens", spec := "recordOpens", apart := false, narrowed := true }
def RecordOpensUptoSaid : Prop := recordOpensUptoRow.holds Try.pinned (OpenSpec.upto recordOpensSpec)

/-- 'nepenthelaw18.RecordFirsts', WHERE WHAT IT READS IS OF BULK AT MOST 1048576: true; the input reads as it did. -/
def recordFirstsUptoRow : OpenClaim := { program := "ytbajioiiaamokaa", sum := "112e1c9188701e0969e5a1398e255934359cd16528e25d3a5dc01d6a98660a21", func := "nepenthe/nepenthelaw18.RecordFirsts", spec := "recordFirsts", apart := false, narrowed := true }
def RecordFirstsUptoSaid : Prop := recordFirstsUptoRow.holds Try.pinned (OpenSpec.upto recordFirstsSpec)

end Rows
end Go.Proofs.Ytbajioiiaamokaa
