/-
  No cell of these rows narrows 'for every input' (looked for: loops, veiled, ifaces, maps, wideKeys, modest, calm, conditions, laid).
  DERIVED. THE GIVEN ROWS OF THIS SEAT. 10 by the template 'for every input the law returns true; each argument reads behind the call as it read before'; 0 by the template 'total and deterministic' (their statements: YtiogdomjmjiahaaTotals.lean).
  GIVEN WITH THE SEED: the statements are not yours to turn. If you find one false, say at which input.
  Laid BY PROGRAM, IN A SANDBOX (cutbox-rows.mjs): the forced cells as the released guide's own fill.sh prints them over the translation 533e8c181f40cf5f… (all of the seat's roots in one cut). By AI agents, Wed Nov 11 2026. No macro, syntax, notation, axiom, sorry.
-/
import Derived.Test.YtiogdomjmjiahaaChecked
import GoSem.Claim
import GoSem.ClaimJoined
import GoSem.ClaimMapViews
import Derived.JoinedTies
import Derived.KernelRfl
namespace Go.Proofs.Ytiogdomjmjiahaa
/- THE CELL 'sum', in the pinned program and in every row, IS THE sha256 OF THE DUMP (.gsa) THAT YtiogdomjmjiahaaProg.lean LOADS. Nothing in Lean hashes anything: it is a label: what it is worth is what the hold of that sum in a sandbox is worth. -/
noncomputable def Try.pinned : Pinned := { name := "ytiogdomjmjiahaa", sum := "533e8c181f40cf5f2caf54db91c09c7602dd9781f68a200368faa7851edf7eec", checked := Try.checked }
namespace Rows
def none {H : Type} : Left H := { results := [], args := [] }

/-- 'nepenthelaw28.CommandNames': WHATEVER THE INPUT: true; the input reads as it did. -/
def commandNamesSpec : ChangeSpec := { name := "commandNames", fn := fun _ => fun
  | [d] => { results := [.lit (.bool true)], args := [d] }
  | _ => none }
def commandNamesRow : OpenClaim := { program := "ytiogdomjmjiahaa", sum := "533e8c181f40cf5f2caf54db91c09c7602dd9781f68a200368faa7851edf7eec", func := "nepenthe/nepenthelaw28.CommandNames", spec := "commandNames", apart := false }
def CommandNamesSaid : Prop := commandNamesRow.holds Try.pinned (OpenSpec.ofChange commandNamesSpec)

/-- ITS FALSE NEIGHBOUR: 'it returns false'. Refute it at one input. -/
def commandNamesWrong : ChangeSpec := { name := "commandNames", fn := fun _ => fun
  | [d] => { results := [.lit (.bool false)], args := [d] }
  | _ => none }
def CommandNamesWrongFalsely : Prop := commandNamesRow.holds Try.pinned (OpenSpec.ofChange commandNamesWrong)

/-- 'nepenthelaw28.CommandBytes': WHATEVER THE INPUT: true; the input reads as it did. -/
def commandBytesSpec : ChangeSpec := { name := "commandBytes", fn := fun _ => fun
  | [d] => { results := [.lit (.bool true)], args := [d] }
  | _ => none }
def commandBytesRow : OpenClaim := { program := "ytiogdomjmjiahaa", sum := "533e8c181f40cf5f2caf54db91c09c7602dd9781f68a200368faa7851edf7eec", func := "nepenthe/nepenthelaw28.CommandBytes", spec := "commandBytes", apart := false }
def CommandBytesSaid : Prop := commandBytesRow.holds Try.pinned (OpenSpec.ofChange commandBytesSpec)

/-- ITS FALSE NEIGHBOUR: 'it returns false'. Refute it at one input. -/
def commandBytesWrong : ChangeSpec := { name := "commandBytes", fn := fun _ => fun
  | [d] => { results := [.lit (.bool false)], args := [d] }
  | _ => none }
def CommandBytesWrongFalsely : Prop := commandBytesRow.holds Try.pinned (OpenSpec.ofChange commandBytesWrong)

/-- 'nepenthelaw28.CommandParses': WHATEVER THE INPUT: true; the input reads as it did. -/
def commandParsesSpec : ChangeSpec := { name := "commandParses", fn := fun _ => fun
  | [d] => { results := [.lit (.bool true)], args := [d] }
  | _ => none }
def commandParsesRow : OpenClaim := { program := "ytiogdomjmjiahaa", sum := "533e8c181f40cf5f2caf54db91c09c7602dd9781f68a200368faa7851edf7eec", func := "nepenthe/nepenthelaw28.CommandParses", spec := "commandParses", apart := false }
def CommandParsesSaid : Prop := commandParsesRow.holds Try.pinned (OpenSpec.ofChange commandParsesSpec)

/-- ITS FALSE NEIGHBOUR: 'it returns false'. Refute it at one input. -/
def commandParsesWrong : ChangeSpec := { name := "commandParses", fn := fun _ => fun
  | [d] => { results := [.lit (.bool false)], args := [d] }
  | _ => none }
def CommandParsesWrongFalsely : Prop := commandParsesRow.holds Try.pinned (OpenSpec.ofChange commandParsesWrong)

/-- 'nepenthelaw32.HealthTexts': WHATEVER THE INPUT: true; the input reads as it did. -/
def healthTextsSpec : ChangeSpec := { name := "healthTexts", fn := fun _ => fun
  | [d1, d2, d3] => { results := [.lit (.bool true)], args := [d1, d2, d3] }
  | _ => none }
def healthTextsRow : OpenClaim := { program := "ytiogdomjmjiahaa", sum := "533e8c181f40cf5f2caf54db91c09c7602dd9781f68a200368faa7851edf7eec", func := "nepenthe/nepenthelaw32.HealthTexts", spec := "healthTexts", unfollowed := true, recurses := true, apart := false }
def HealthTextsSaid : Prop := healthTextsRow.holds Try.pinned (OpenSpec.ofChange healthTextsSpec)

/-- ITS FALSE NEIGHBOUR: 'it returns false'. Refute it at one input. -/
def healthTextsWrong : ChangeSpec := { name := "healthTexts", fn := fun _ => fun
  | [d1, d2, d3] => { results := [.lit (.bool false)], args := [d1, d2, d3] }
  | _ => none }
def HealthTextsWrongFalsely : Prop := healthTextsRow.holds Try.pinned (OpenSpec.ofChange healthTextsWrong)

/-- 'nepenthelaw28.CommandChecks': WHATEVER THE INPUT: true; the input reads as it did. -/
def commandChecksSpec : ChangeSpec := { name := "commandChecks", fn := fun _ => fun
  | [d1, d2, d3] => { results := [.lit (.bool true)], args := [d1, d2, d3] }
  | _ => none }
def commandChecksRow : OpenClaim := { program := "ytiogdomjmjiahaa", sum := "533e8c181f40cf5f2caf54db91c09c7602dd9781f68a200368faa7851edf7eec", func := "nepenthe/nepenthelaw28.CommandChecks", spec := "commandChecks", apart := false }
def CommandChecksSaid : Prop := commandChecksRow.holds Try.pinned (OpenSpec.ofChange commandChecksSpec)

/-- ITS FALSE NEIGHBOUR: 'it returns false'. Refute it at one input. -/
def commandChecksWrong : ChangeSpec := { name := "commandChecks", fn := fun _ => fun
  | [d1, d2, d3] => { results := [.lit (.bool false)], args := [d1, d2, d3] }
  | _ => none }
def CommandChecksWrongFalsely : Prop := commandChecksRow.holds Try.pinned (OpenSpec.ofChange commandChecksWrong)

/-- 'nepenthelaw35.ConsoleParses': WHATEVER THE INPUT: true; the input reads as it did. -/
def consoleParsesSpec : ChangeSpec := { name := "consoleParses", fn := fun _ => fun
  | [d] => { results := [.lit (.bool true)], args := [d] }
  | _ => none }
def consoleParsesRow : OpenClaim := { program := "ytiogdomjmjiahaa", sum := "533e8c181f40cf5f2caf54db91c09c7602dd9781f68a200368faa7851edf7eec", func := "nepenthe/nepenthelaw35.ConsoleParses", spec := "consoleParses", apart := false }
def ConsoleParsesSaid : Prop := consoleParsesRow.holds Try.pinned (OpenSpec.ofChange consoleParsesSpec)

/-- ITS FALSE NEIGHBOUR: 'it returns false'. Refute it at one input. -/
def consoleParsesWrong : ChangeSpec := { name := "consoleParses", fn := fun _ => fun
  | [d] => { results := [.lit (.bool false)], args := [d] }
  | _ => none }
def ConsoleParsesWrongFalsely : Prop := consoleParsesRow.holds Try.pinned (OpenSpec.ofChange consoleParsesWrong)

/-- 'nepenthelaw35.ConsoleWords': WHATEVER THE INPUT: true; the input reads as it did. -/
def consoleWordsSpec : ChangeSpec := { name := "consoleWords", fn := fun _ => fun
  | [d1, d2] => { results := [.lit (.bool true)], args := [d1, d2] }
  | _ => none }
def consoleWordsRow : OpenClaim := { program := "ytiogdomjmjiahaa", sum := "533e8c181f40cf5f2caf54db91c09c7602dd9781f68a200368faa7851edf7eec", func := "nepenthe/nepenthelaw35.ConsoleWords", spec := "consoleWords", apart := false }
def ConsoleWordsSaid : Prop := consoleWordsRow.holds Try.pinned (OpenSpec.ofChange consoleWordsSpec)

/-- ITS FALSE NEIGHBOUR: 'it returns false'. Refute it at one input. -/
def consoleWordsWrong : ChangeSpec := { name := "consoleWords", fn := fun _ => fun
  | [d1, d2] => { results := [.lit (.bool false)], args := [d1, d2] }
  | _ => none }
def ConsoleWordsWrongFalsely : Prop := consoleWordsRow.holds Try.pinned (OpenSpec.ofChange consoleWordsWrong)

/-- 'nepenthelaw35.ConsoleCommands': WHATEVER THE INPUT: true; the input reads as it did. -/
def consoleCommandsSpec : ChangeSpec := { name := "consoleCommands", fn := fun _ => fun
  | [d] => { results := [.lit (.bool true)], args := [d] }
  | _ => none }
def consoleCommandsRow : OpenClaim := { program := "ytiogdomjmjiahaa", sum := "533e8c181f40cf5f2caf54db91c09c7602dd9781f68a200368faa7851edf7eec", func := "nepenthe/nepenthelaw35.ConsoleCommands", spec := "consoleCommands", apart := false }
def ConsoleCommandsSaid : Prop := consoleCommandsRow.holds Try.pinned (OpenSpec.ofChange consoleCommandsSpec)

/-- ITS FALSE NEIGHBOUR: 'it returns false'. Refute it at one input. -/
def consoleCommandsWrong : ChangeSpec := { name := "consoleCommands", fn := fun _ => fun
  | [d] => { results := [.lit (.bool false)], args := [d] }
  | _ => none }
def ConsoleCommandsWrongFalsely : Prop := consoleCommandsRow.holds Try.pinned (OpenSpec.ofChange consoleCommandsWrong)

/-- 'nepenthelaw35.ConsoleEvents': WHATEVER THE INPUT: true; the input reads as it did. -/
def consoleEventsSpec : ChangeSpec := { name := "consoleEvents", fn := fun _ => fun
  | [d] => { results := [.lit (.bool true)], args := [d] }
  | _ => none }
def consoleEventsRow : OpenClaim := { program := "ytiogdomjmjiahaa", sum := "533e8c181f40cf5f2caf54db91c09c7602dd9781f68a200368faa7851edf7eec", func := "nepenthe/nepenthelaw35.ConsoleEvents", spec := "consoleEvents", apart := false }
def ConsoleEventsSaid : Prop := consoleEventsRow.holds Try.pinned (OpenSpec.ofChange consoleEventsSpec)

/-- ITS FALSE NEIGHBOUR: 'it returns false'. Refute it at one input. -/
def consoleEventsWrong : ChangeSpec := { name := "consoleEvents", fn := fun _ => fun
  | [d] => { results := [.lit (.bool false)], args := [d] }
  | _ => none }
def ConsoleEventsWrongFalsely : Prop := consoleEventsRow.holds Try.pinned (OpenSpec.ofChange consoleEventsWrong)

/-- 'nepenthelaw35.ConsolePrints': WHATEVER THE INPUT: true; the input reads as it did. -/
def consolePrintsSpec : ChangeSpec := { name := "consolePrints", fn := fun _ => fun
  | [d] => { results := [.lit (.bool true)], args := [d] }
  | _ => none }
def consolePrintsRow : OpenClaim := { program := "ytiogdomjmjiahaa", sum := "533e8c181f40cf5f2caf54db91c09c7602dd9781f68a200368faa7851edf7eec", func := "nepenthe/nepenthelaw35.ConsolePrints", spec := "consolePrints", apart := false }
def ConsolePrintsSaid : Prop := consolePrintsRow.holds Try.pinned (OpenSpec.ofChange consolePrintsSpec)

/-- ITS FALSE NEIGHBOUR: 'it returns false'. Refute it at one input. -/
def consolePrintsWrong : ChangeSpec := { name := "consolePrints", fn := fun _ => fun
  | [d] => { results := [.lit (.bool false)], args := [d] }
  | _ => none }
def ConsolePrintsWrongFalsely : Prop := consolePrintsRow.holds Try.pinned (OpenSpec.ofChange consolePrintsWrong)

/- THE SECOND FORM. 'bulk': how many values and letters a reading holds, each counted each time it is reached (what is shared counts as often as it is met; a slice's spare places count too). A statement '..UptoSaid' is the law's where the arguments, and the package variables that the reading takes, are together of bulk at most 1048576: NARROWER than '..Said'. Prove '..Said' where nothing that the law and all that it calls make is longer than what came in: it says more and counts as full. Else prove '..UptoSaid'. A law counts once. -/
mutual
def uptoBulk {H : Type} : DataW H → Nat
  | .lit (.string bytes) => bytes.length + 1
  | .lit _ => 1
  | .nil => 1
  | .ptr d => uptoBulk d + 1
  | .slice elems spare => uptoBulkAll elems + uptoBulkAll spare + 1
  | .agg parts => uptoBulkAll parts + 1
  | .iface _ d => uptoBulk d + 1
  | .map entries => uptoBulkEntries entries + 1
  | .held _ => 1
def uptoBulkAll {H : Type} : List (DataW H) → Nat
  | [] => 0
  | d :: r => uptoBulk d + uptoBulkAll r
def uptoBulkEntries {H : Type} : List (Lit × DataW H) → Nat
  | [] => 0
  | x :: r => uptoBulkEntry x + uptoBulkEntries r
def uptoBulkEntry {H : Type} : Lit × DataW H → Nat
  | (.string bytes, d) => bytes.length + uptoBulk d + 1
  | (_, d) => uptoBulk d + 1
 end
def uptoSmall : (H : Type) → List (DataW H) → Bool := fun _ ds => decide (uptoBulkAll ds ≤ 1048576)
def OpenSpec.upto (s : _root_.Go.ChangeSpec) : _root_.Go.OpenSpec := { _root_.Go.OpenSpec.ofChange s with cond := some uptoSmall }

/-- 'nepenthelaw28.CommandNames', WHERE WHAT IT READS IS OF BULK AT MOST 1048576: true; the input reads as it did. -/
def commandNamesUptoRow : OpenClaim := { program := "ytiogdomjmjiahaa", sum := "533e8c181f40cf5f2caf54db91c09c7602dd9781f68a200368faa7851edf7eec", func := "nepenthe/nepenthelaw28.CommandNames", spec := "commandNames", apart := false, narrowed := true }
def CommandNamesUptoSaid : Prop := commandNamesUptoRow.holds Try.pinned (OpenSpec.upto commandNamesSpec)

/-- 'nepenthelaw28.CommandBytes', WHERE WHAT IT READS IS OF BULK AT MOST 1048576: true; the input reads as it did. -/
def commandBytesUptoRow : OpenClaim := { program := "ytiogdomjmjiahaa", sum := "533e8c181f40cf5f2caf54db91c09c7602dd9781f68a200368faa7851edf7eec", func := "nepenthe/nepenthelaw28.CommandBytes", spec := "commandBytes", apart := false, narrowed := true }
def CommandBytesUptoSaid : Prop := commandBytesUptoRow.holds Try.pinned (OpenSpec.upto commandBytesSpec)

/-- 'nepenthelaw28.CommandParses', WHERE WHAT IT READS IS OF BULK AT MOST 1048576: true; the input reads as it did. -/
def commandParsesUptoRow : OpenClaim := { program := "ytiogdomjmjiahaa", sum := "533e8c181f40cf5f2caf54db91c09c7602dd9781f68a200368faa7851edf7eec", func := "nepenthe/nepenthelaw28.CommandParses", spec := "commandParses", apart := false, narrowed := true }
def CommandParsesUptoSaid : Prop := commandParsesUptoRow.holds Try.pinned (OpenSpec.upto commandParsesSpec)

/-- 'nepenthelaw32.HealthTexts', WHERE WHAT IT READS IS OF BULK AT MOST 1048576: true; the input reads as it did. -/
def healthTextsUptoRow : OpenClaim := { program := "ytiogdomjmjiahaa", sum := "533e8c181f40cf5f2caf54db91c09c7602dd9781f68a200368faa7851edf7eec", func := "nepenthe/nepenthelaw32.HealthTexts", spec := "healthTexts", unfollowed := true, recurses := true, apart := false, narrowed := true }
def HealthTextsUptoSaid : Prop := healthTextsUptoRow.holds Try.pinned (OpenSpec.upto healthTextsSpec)

/-- 'nepenthelaw28.CommandChecks', WHERE WHAT IT READS IS OF BULK AT MOST 1048576: true; the input reads as it did. -/
def commandChecksUptoRow : OpenClaim := { program := "ytiogdomjmjiahaa", sum := "533e8c181f40cf5f2caf54db91c09c7602dd9781f68a200368faa7851edf7eec", func := "nepenthe/nepenthelaw28.CommandChecks", spec := "commandChecks", apart := false, narrowed := true }
def CommandChecksUptoSaid : Prop := commandChecksUptoRow.holds Try.pinned (OpenSpec.upto commandChecksSpec)

/-- 'nepenthelaw35.ConsoleParses', WHERE WHAT IT READS IS OF BULK AT MOST 1048576: true; the input reads as it did. -/
def consoleParsesUptoRow : OpenClaim := { program := "ytiogdomjmjiahaa", sum := "533e8c181f40cf5f2caf54db91c09c7602dd9781f68a200368faa7851edf7eec", func := "nepenthe/nepenthelaw35.ConsoleParses", spec := "consoleParses", apart := false, narrowed := true }
def ConsoleParsesUptoSaid : Prop := consoleParsesUptoRow.holds Try.pinned (OpenSpec.upto consoleParsesSpec)

/-- 'nepenthelaw35.ConsoleWords', WHERE WHAT IT READS IS OF BULK AT MOST 1048576: true; the input reads as it did. -/
def consoleWordsUptoRow : OpenClaim := { program := "ytiogdomjmjiahaa", sum := "533e8c181f40cf5f2caf54db91c09c7602dd9781f68a200368faa7851edf7eec", func := "nepenthe/nepenthelaw35.ConsoleWords", spec := "consoleWords", apart := false, narrowed := true }
def ConsoleWordsUptoSaid : Prop := consoleWordsUptoRow.holds Try.pinned (OpenSpec.upto consoleWordsSpec)

/-- 'nepenthelaw35.ConsoleCommands', WHERE WHAT IT READS IS OF BULK AT MOST 1048576: true; the input reads as it did. -/
def consoleCommandsUptoRow : OpenClaim := { program := "ytiogdomjmjiahaa", sum := "533e8c181f40cf5f2caf54db91c09c7602dd9781f68a200368faa7851edf7eec", func := "nepenthe/nepenthelaw35.ConsoleCommands", spec := "consoleCommands", apart := false, narrowed := true }
def ConsoleCommandsUptoSaid : Prop := consoleCommandsUptoRow.holds Try.pinned (OpenSpec.upto consoleCommandsSpec)

/-- 'nepenthelaw35.ConsoleEvents', WHERE WHAT IT READS IS OF BULK AT MOST 1048576: true; the input reads as it did. -/
def consoleEventsUptoRow : OpenClaim := { program := "ytiogdomjmjiahaa", sum := "533e8c181f40cf5f2caf54db91c09c7602dd9781f68a200368faa7851edf7eec", func := "nepenthe/nepenthelaw35.ConsoleEvents", spec := "consoleEvents", apart := false, narrowed := true }
def ConsoleEventsUptoSaid : Prop := consoleEventsUptoRow.holds Try.pinned (OpenSpec.upto consoleEventsSpec)

/-- 'nepenthelaw35.ConsolePrints', WHERE WHAT IT READS IS OF BULK AT MOST 1048576: true; the input reads as it did. -/
def consolePrintsUptoRow : OpenClaim := { program := "ytiogdomjmjiahaa", sum := "533e8c181f40cf5f2caf54db91c09c7602dd9781f68a200368faa7851edf7eec", func := "nepenthe/nepenthelaw35.ConsolePrints", spec := "consolePrints", apart := false, narrowed := true }
def ConsolePrintsUptoSaid : Prop := consolePrintsUptoRow.holds Try.pinned (OpenSpec.upto consolePrintsSpec)

end Rows
end Go.Proofs.Ytiogdomjmjiahaa
