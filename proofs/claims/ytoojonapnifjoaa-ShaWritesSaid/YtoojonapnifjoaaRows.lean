/-
  No cell of these rows narrows 'for every input' (looked for: loops, veiled, ifaces, maps, wideKeys, modest, calm, conditions, laid).
  DERIVED. THE GIVEN ROWS OF THIS SEAT. 12 by the template 'for every input the law returns true; each argument reads behind the call as it read before'; 0 by the template 'total and deterministic' (their statements: YtoojonapnifjoaaTotals.lean).
  GIVEN WITH THE SEED: the statements are not yours to turn. If you find one false, say at which input.
  Laid BY PROGRAM, IN A SANDBOX (cutbox-rows.mjs): the forced cells as the released guide's own fill.sh prints them over the translation acf3a320439f421b… (all of the seat's roots in one cut). By AI agents, Wed Nov 11 2026. No macro, syntax, notation, axiom, sorry.
-/
import Derived.Test.YtoojonapnifjoaaChecked
import GoSem.Claim
import GoSem.ClaimJoined
import GoSem.ClaimMapViews
import Derived.JoinedTies
import Derived.KernelRfl
namespace Go.Proofs.Ytoojonapnifjoaa
/- THE CELL 'sum', in the pinned program and in every row, IS THE sha256 OF THE DUMP (.gsa) THAT YtoojonapnifjoaaProg.lean LOADS. Nothing in Lean hashes anything: it is a label: what it is worth is what the hold of that sum in a sandbox is worth. -/
noncomputable def Try.pinned : Pinned := { name := "ytoojonapnifjoaa", sum := "acf3a320439f421bbc31ed8a68ee73c59bec8582bee67922d626d0b3dc7cd26b", checked := Try.checked }
namespace Rows
def none {H : Type} : Left H := { results := [], args := [] }

/-- 'nepenthelaw02.ShaSums': WHATEVER THE INPUT: true; the input reads as it did. -/
def shaSumsSpec : ChangeSpec := { name := "shaSums", fn := fun _ => fun
  | [d] => { results := [.lit (.bool true)], args := [d] }
  | _ => none }
def shaSumsRow : OpenClaim := { program := "ytoojonapnifjoaa", sum := "acf3a320439f421bbc31ed8a68ee73c59bec8582bee67922d626d0b3dc7cd26b", func := "nepenthe/nepenthelaw02.ShaSums", spec := "shaSums", apart := false }
def ShaSumsSaid : Prop := shaSumsRow.holds Try.pinned (OpenSpec.ofChange shaSumsSpec)

/-- ITS FALSE NEIGHBOUR: 'it returns false'. Refute it at one input. -/
def shaSumsWrong : ChangeSpec := { name := "shaSums", fn := fun _ => fun
  | [d] => { results := [.lit (.bool false)], args := [d] }
  | _ => none }
def ShaSumsWrongFalsely : Prop := shaSumsRow.holds Try.pinned (OpenSpec.ofChange shaSumsWrong)

/-- 'nepenthelaw02.ShaWrites': WHATEVER THE INPUT: true; the input reads as it did. -/
def shaWritesSpec : ChangeSpec := { name := "shaWrites", fn := fun _ => fun
  | [d] => { results := [.lit (.bool true)], args := [d] }
  | _ => none }
def shaWritesRow : OpenClaim := { program := "ytoojonapnifjoaa", sum := "acf3a320439f421bbc31ed8a68ee73c59bec8582bee67922d626d0b3dc7cd26b", func := "nepenthe/nepenthelaw02.ShaWrites", spec := "shaWrites", apart := false }
def ShaWritesSaid : Prop := shaWritesRow.holds Try.pinned (OpenSpec.ofChange shaWritesSpec)

/-- ITS FALSE NEIGHBOUR: 'it returns false'. Refute it at one input. -/
def shaWritesWrong : ChangeSpec := { name := "shaWrites", fn := fun _ => fun
  | [d] => { results := [.lit (.bool false)], args := [d] }
  | _ => none }
def ShaWritesWrongFalsely : Prop := shaWritesRow.holds Try.pinned (OpenSpec.ofChange shaWritesWrong)

/-- 'nepenthelaw02.ShaNil': WHATEVER THE INPUT: true; the input reads as it did. -/
def shaNilSpec : ChangeSpec := { name := "shaNil", fn := fun _ => fun
  | [d] => { results := [.lit (.bool true)], args := [d] }
  | _ => none }
def shaNilRow : OpenClaim := { program := "ytoojonapnifjoaa", sum := "acf3a320439f421bbc31ed8a68ee73c59bec8582bee67922d626d0b3dc7cd26b", func := "nepenthe/nepenthelaw02.ShaNil", spec := "shaNil", apart := false }
def ShaNilSaid : Prop := shaNilRow.holds Try.pinned (OpenSpec.ofChange shaNilSpec)

/-- ITS FALSE NEIGHBOUR: 'it returns false'. Refute it at one input. -/
def shaNilWrong : ChangeSpec := { name := "shaNil", fn := fun _ => fun
  | [d] => { results := [.lit (.bool false)], args := [d] }
  | _ => none }
def ShaNilWrongFalsely : Prop := shaNilRow.holds Try.pinned (OpenSpec.ofChange shaNilWrong)

/-- 'nepenthelaw02.ShaCompresses': WHATEVER THE INPUT: true; the input reads as it did. -/
def shaCompressesSpec : ChangeSpec := { name := "shaCompresses", fn := fun _ => fun
  | [d1, d2] => { results := [.lit (.bool true)], args := [d1, d2] }
  | _ => none }
def shaCompressesRow : OpenClaim := { program := "ytoojonapnifjoaa", sum := "acf3a320439f421bbc31ed8a68ee73c59bec8582bee67922d626d0b3dc7cd26b", func := "nepenthe/nepenthelaw02.ShaCompresses", spec := "shaCompresses", apart := false }
def ShaCompressesSaid : Prop := shaCompressesRow.holds Try.pinned (OpenSpec.ofChange shaCompressesSpec)

/-- ITS FALSE NEIGHBOUR: 'it returns false'. Refute it at one input. -/
def shaCompressesWrong : ChangeSpec := { name := "shaCompresses", fn := fun _ => fun
  | [d1, d2] => { results := [.lit (.bool false)], args := [d1, d2] }
  | _ => none }
def ShaCompressesWrongFalsely : Prop := shaCompressesRow.holds Try.pinned (OpenSpec.ofChange shaCompressesWrong)

/-- 'nepenthelaw03.MacTags': WHATEVER THE INPUT: true; the input reads as it did. -/
def macTagsSpec : ChangeSpec := { name := "macTags", fn := fun _ => fun
  | [d1, d2] => { results := [.lit (.bool true)], args := [d1, d2] }
  | _ => none }
def macTagsRow : OpenClaim := { program := "ytoojonapnifjoaa", sum := "acf3a320439f421bbc31ed8a68ee73c59bec8582bee67922d626d0b3dc7cd26b", func := "nepenthe/nepenthelaw03.MacTags", spec := "macTags", apart := false }
def MacTagsSaid : Prop := macTagsRow.holds Try.pinned (OpenSpec.ofChange macTagsSpec)

/-- ITS FALSE NEIGHBOUR: 'it returns false'. Refute it at one input. -/
def macTagsWrong : ChangeSpec := { name := "macTags", fn := fun _ => fun
  | [d1, d2] => { results := [.lit (.bool false)], args := [d1, d2] }
  | _ => none }
def MacTagsWrongFalsely : Prop := macTagsRow.holds Try.pinned (OpenSpec.ofChange macTagsWrong)

/-- 'nepenthelaw03.MacBlocks': WHATEVER THE INPUT: true; the input reads as it did. -/
def macBlocksSpec : ChangeSpec := { name := "macBlocks", fn := fun _ => fun
  | [d1, d2] => { results := [.lit (.bool true)], args := [d1, d2] }
  | _ => none }
def macBlocksRow : OpenClaim := { program := "ytoojonapnifjoaa", sum := "acf3a320439f421bbc31ed8a68ee73c59bec8582bee67922d626d0b3dc7cd26b", func := "nepenthe/nepenthelaw03.MacBlocks", spec := "macBlocks", apart := false }
def MacBlocksSaid : Prop := macBlocksRow.holds Try.pinned (OpenSpec.ofChange macBlocksSpec)

/-- ITS FALSE NEIGHBOUR: 'it returns false'. Refute it at one input. -/
def macBlocksWrong : ChangeSpec := { name := "macBlocks", fn := fun _ => fun
  | [d1, d2] => { results := [.lit (.bool false)], args := [d1, d2] }
  | _ => none }
def MacBlocksWrongFalsely : Prop := macBlocksRow.holds Try.pinned (OpenSpec.ofChange macBlocksWrong)

/-- 'nepenthelaw03.MacParts': WHATEVER THE INPUT: true; the input reads as it did. -/
def macPartsSpec : ChangeSpec := { name := "macParts", fn := fun _ => fun
  | [d1, d2] => { results := [.lit (.bool true)], args := [d1, d2] }
  | _ => none }
def macPartsRow : OpenClaim := { program := "ytoojonapnifjoaa", sum := "acf3a320439f421bbc31ed8a68ee73c59bec8582bee67922d626d0b3dc7cd26b", func := "nepenthe/nepenthelaw03.MacParts", spec := "macParts", apart := false }
def MacPartsSaid : Prop := macPartsRow.holds Try.pinned (OpenSpec.ofChange macPartsSpec)

/-- ITS FALSE NEIGHBOUR: 'it returns false'. Refute it at one input. -/
def macPartsWrong : ChangeSpec := { name := "macParts", fn := fun _ => fun
  | [d1, d2] => { results := [.lit (.bool false)], args := [d1, d2] }
  | _ => none }
def MacPartsWrongFalsely : Prop := macPartsRow.holds Try.pinned (OpenSpec.ofChange macPartsWrong)

/-- 'nepenthelaw03.MacFits': WHATEVER THE INPUT: true; the input reads as it did. -/
def macFitsSpec : ChangeSpec := { name := "macFits", fn := fun _ => fun
  | [d1, d2, d3] => { results := [.lit (.bool true)], args := [d1, d2, d3] }
  | _ => none }
def macFitsRow : OpenClaim := { program := "ytoojonapnifjoaa", sum := "acf3a320439f421bbc31ed8a68ee73c59bec8582bee67922d626d0b3dc7cd26b", func := "nepenthe/nepenthelaw03.MacFits", spec := "macFits", apart := false }
def MacFitsSaid : Prop := macFitsRow.holds Try.pinned (OpenSpec.ofChange macFitsSpec)

/-- ITS FALSE NEIGHBOUR: 'it returns false'. Refute it at one input. -/
def macFitsWrong : ChangeSpec := { name := "macFits", fn := fun _ => fun
  | [d1, d2, d3] => { results := [.lit (.bool false)], args := [d1, d2, d3] }
  | _ => none }
def MacFitsWrongFalsely : Prop := macFitsRow.holds Try.pinned (OpenSpec.ofChange macFitsWrong)

/-- 'nepenthelaw04.DeriveBytes': WHATEVER THE INPUT: true; the input reads as it did. -/
def deriveBytesSpec : ChangeSpec := { name := "deriveBytes", fn := fun _ => fun
  | [d1, d2, d3] => { results := [.lit (.bool true)], args := [d1, d2, d3] }
  | _ => none }
def deriveBytesRow : OpenClaim := { program := "ytoojonapnifjoaa", sum := "acf3a320439f421bbc31ed8a68ee73c59bec8582bee67922d626d0b3dc7cd26b", func := "nepenthe/nepenthelaw04.DeriveBytes", spec := "deriveBytes", apart := false }
def DeriveBytesSaid : Prop := deriveBytesRow.holds Try.pinned (OpenSpec.ofChange deriveBytesSpec)

/-- ITS FALSE NEIGHBOUR: 'it returns false'. Refute it at one input. -/
def deriveBytesWrong : ChangeSpec := { name := "deriveBytes", fn := fun _ => fun
  | [d1, d2, d3] => { results := [.lit (.bool false)], args := [d1, d2, d3] }
  | _ => none }
def DeriveBytesWrongFalsely : Prop := deriveBytesRow.holds Try.pinned (OpenSpec.ofChange deriveBytesWrong)

/-- 'nepenthelaw04.DeriveBegins': WHATEVER THE INPUT: true; the input reads as it did. -/
def deriveBeginsSpec : ChangeSpec := { name := "deriveBegins", fn := fun _ => fun
  | [d1, d2, d3] => { results := [.lit (.bool true)], args := [d1, d2, d3] }
  | _ => none }
def deriveBeginsRow : OpenClaim := { program := "ytoojonapnifjoaa", sum := "acf3a320439f421bbc31ed8a68ee73c59bec8582bee67922d626d0b3dc7cd26b", func := "nepenthe/nepenthelaw04.DeriveBegins", spec := "deriveBegins", apart := false }
def DeriveBeginsSaid : Prop := deriveBeginsRow.holds Try.pinned (OpenSpec.ofChange deriveBeginsSpec)

/-- ITS FALSE NEIGHBOUR: 'it returns false'. Refute it at one input. -/
def deriveBeginsWrong : ChangeSpec := { name := "deriveBegins", fn := fun _ => fun
  | [d1, d2, d3] => { results := [.lit (.bool false)], args := [d1, d2, d3] }
  | _ => none }
def DeriveBeginsWrongFalsely : Prop := deriveBeginsRow.holds Try.pinned (OpenSpec.ofChange deriveBeginsWrong)

/-- 'nepenthelaw04.DeriveBlocks': WHATEVER THE INPUT: true; the input reads as it did. -/
def deriveBlocksSpec : ChangeSpec := { name := "deriveBlocks", fn := fun _ => fun
  | [d1, d2, d3] => { results := [.lit (.bool true)], args := [d1, d2, d3] }
  | _ => none }
def deriveBlocksRow : OpenClaim := { program := "ytoojonapnifjoaa", sum := "acf3a320439f421bbc31ed8a68ee73c59bec8582bee67922d626d0b3dc7cd26b", func := "nepenthe/nepenthelaw04.DeriveBlocks", spec := "deriveBlocks", apart := false }
def DeriveBlocksSaid : Prop := deriveBlocksRow.holds Try.pinned (OpenSpec.ofChange deriveBlocksSpec)

/-- ITS FALSE NEIGHBOUR: 'it returns false'. Refute it at one input. -/
def deriveBlocksWrong : ChangeSpec := { name := "deriveBlocks", fn := fun _ => fun
  | [d1, d2, d3] => { results := [.lit (.bool false)], args := [d1, d2, d3] }
  | _ => none }
def DeriveBlocksWrongFalsely : Prop := deriveBlocksRow.holds Try.pinned (OpenSpec.ofChange deriveBlocksWrong)

/-- 'nepenthelaw04.DeriveKeys': WHATEVER THE INPUT: true; the input reads as it did. -/
def deriveKeysSpec : ChangeSpec := { name := "deriveKeys", fn := fun _ => fun
  | [d1, d2, d3] => { results := [.lit (.bool true)], args := [d1, d2, d3] }
  | _ => none }
def deriveKeysRow : OpenClaim := { program := "ytoojonapnifjoaa", sum := "acf3a320439f421bbc31ed8a68ee73c59bec8582bee67922d626d0b3dc7cd26b", func := "nepenthe/nepenthelaw04.DeriveKeys", spec := "deriveKeys", apart := false }
def DeriveKeysSaid : Prop := deriveKeysRow.holds Try.pinned (OpenSpec.ofChange deriveKeysSpec)

/-- ITS FALSE NEIGHBOUR: 'it returns false'. Refute it at one input. -/
def deriveKeysWrong : ChangeSpec := { name := "deriveKeys", fn := fun _ => fun
  | [d1, d2, d3] => { results := [.lit (.bool false)], args := [d1, d2, d3] }
  | _ => none }
def DeriveKeysWrongFalsely : Prop := deriveKeysRow.holds Try.pinned (OpenSpec.ofChange deriveKeysWrong)

/- THE SECOND FORM. 'bulk': how many values and letters a reading holds, each counted each time it is reached (what is shared counts as often as it is met; a slice's spare places count too). A statement '..UptoSaid' is the law's where the arguments, and the package variables that the reading takes, are together of bulk at most 1048576: NARROWER than '..Said'. Prove '..Said' where nothing that the law and all that it calls make is longer than what came in: it says more and counts as full. Else prove '..UptoSaid'. A law counts once. -/
mutual
def uptoBulk {H : Type} : DataW H → Nat
  | .lit (.string bytes) => bytes.length + 1
  | .lit _ => 1
  | .nil => 1
  | .ptr d => uptoBulk d + 1
  | .slice elems spare => uptoBulkAll elems + uptoBulkAll spare + 1
  | .agg parts => uptoBulkAll parts + 1
  | .iface _ d => uptoBulk d + 1
  | .map entries => uptoBulkEntries entries + 1
  | .held _ => 1
def uptoBulkAll {H : Type} : List (DataW H) → Nat
  | [] => 0
  | d :: r => uptoBulk d + uptoBulkAll r
def uptoBulkEntries {H : Type} : List (Lit × DataW H) → Nat
  | [] => 0
  | x :: r => uptoBulkEntry x + uptoBulkEntries r
def uptoBulkEntry {H : Type} : Lit × DataW H → Nat
  | (.string bytes, d) => bytes.length + uptoBulk d + 1
  | (_, d) => uptoBulk d + 1
 end
def uptoSmall : (H : Type) → List (DataW H) → Bool := fun _ ds => decide (uptoBulkAll ds ≤ 1048576)
def OpenSpec.upto (s : _root_.Go.ChangeSpec) : _root_.Go.OpenSpec := { _root_.Go.OpenSpec.ofChange s with cond := some uptoSmall }

/-- 'nepenthelaw02.ShaSums', WHERE WHAT IT READS IS OF BULK AT MOST 1048576: true; the input reads as it did. -/
def shaSumsUptoRow : OpenClaim := { program := "ytoojonapnifjoaa", sum := "acf3a320439f421bbc31ed8a68ee73c59bec8582bee67922d626d0b3dc7cd26b", func := "nepenthe/nepenthelaw02.ShaSums", spec := "shaSums", apart := false, narrowed := true }
def ShaSumsUptoSaid : Prop := shaSumsUptoRow.holds Try.pinned (OpenSpec.upto shaSumsSpec)

/-- 'nepenthelaw02.ShaWrites', WHERE WHAT IT READS IS OF BULK AT MOST 1048576: true; the input reads as it did. -/
def shaWritesUptoRow : OpenClaim := { program := "ytoojonapnifjoaa", sum := "acf3a320439f421bbc31ed8a68ee73c59bec8582bee67922d626d0b3dc7cd26b", func := "nepenthe/nepenthelaw02.ShaWrites", spec := "shaWrites", apart := false, narrowed := true }
def ShaWritesUptoSaid : Prop := shaWritesUptoRow.holds Try.pinned (OpenSpec.upto shaWritesSpec)

/-- 'nepenthelaw02.ShaNil', WHERE WHAT IT READS IS OF BULK AT MOST 1048576: true; the input reads as it did. -/
def shaNilUptoRow : OpenClaim := { program := "ytoojonapnifjoaa", sum := "acf3a320439f421bbc31ed8a68ee73c59bec8582bee67922d626d0b3dc7cd26b", func := "nepenthe/nepenthelaw02.ShaNil", spec := "shaNil", apart := false, narrowed := true }
def ShaNilUptoSaid : Prop := shaNilUptoRow.holds Try.pinned (OpenSpec.upto shaNilSpec)

/-- 'nepenthelaw02.ShaCompresses', WHERE WHAT IT READS IS OF BULK AT MOST 1048576: true; the input reads as it did. -/
def shaCompressesUptoRow : OpenClaim := { program := "ytoojonapnifjoaa", sum := "acf3a320439f421bbc31ed8a68ee73c59bec8582bee67922d626d0b3dc7cd26b", func := "nepenthe/nepenthelaw02.ShaCompresses", spec := "shaCompresses", apart := false, narrowed := true }
def ShaCompressesUptoSaid : Prop := shaCompressesUptoRow.holds Try.pinned (OpenSpec.upto shaCompressesSpec)

/-- 'nepenthelaw03.MacTags', WHERE WHAT IT READS IS OF BULK AT MOST 1048576: true; the input reads as it did. -/
def macTagsUptoRow : OpenClaim := { program := "ytoojonapnifjoaa", sum := "acf3a320439f421bbc31ed8a68ee73c59bec8582bee67922d626d0b3dc7cd26b", func := "nepenthe/nepenthelaw03.MacTags", spec := "macTags", apart := false, narrowed := true }
def MacTagsUptoSaid : Prop := macTagsUptoRow.holds Try.pinned (OpenSpec.upto macTagsSpec)

/-- 'nepenthelaw03.MacBlocks', WHERE WHAT IT READS IS OF BULK AT MOST 1048576: true; the input reads as it did. -/
def macBlocksUptoRow : OpenClaim := { program := "ytoojonapnifjoaa", sum := "acf3a320439f421bbc31ed8a68ee73c59bec8582bee67922d626d0b3dc7cd26b", func := "nepenthe/nepenthelaw03.MacBlocks", spec := "macBlocks", apart := false, narrowed := true }
def MacBlocksUptoSaid : Prop := macBlocksUptoRow.holds Try.pinned (OpenSpec.upto macBlocksSpec)

/-- 'nepenthelaw03.MacParts', WHERE WHAT IT READS IS OF BULK AT MOST 1048576: true; the input reads as it did. -/
def macPartsUptoRow : OpenClaim := { program := "ytoojonapnifjoaa", sum := "acf3a320439f421bbc31ed8a68ee73c59bec8582bee67922d626d0b3dc7cd26b", func := "nepenthe/nepenthelaw03.MacParts", spec := "macParts", apart := false, narrowed := true }
def MacPartsUptoSaid : Prop := macPartsUptoRow.holds Try.pinned (OpenSpec.upto macPartsSpec)

/-- 'nepenthelaw03.MacFits', WHERE WHAT IT READS IS OF BULK AT MOST 1048576: true; the input reads as it did. -/
def macFitsUptoRow : OpenClaim := { program := "ytoojonapnifjoaa", sum := "acf3a320439f421bbc31ed8a68ee73c59bec8582bee67922d626d0b3dc7cd26b", func := "nepenthe/nepenthelaw03.MacFits", spec := "macFits", apart := false, narrowed := true }
def MacFitsUptoSaid : Prop := macFitsUptoRow.holds Try.pinned (OpenSpec.upto macFitsSpec)

/-- 'nepenthelaw04.DeriveBytes', WHERE WHAT IT READS IS OF BULK AT MOST 1048576: true; the input reads as it did. -/
def deriveBytesUptoRow : OpenClaim := { program := "ytoojonapnifjoaa", sum := "acf3a320439f421bbc31ed8a68ee73c59bec8582bee67922d626d0b3dc7cd26b", func := "nepenthe/nepenthelaw04.DeriveBytes", spec := "deriveBytes", apart := false, narrowed := true }
def DeriveBytesUptoSaid : Prop := deriveBytesUptoRow.holds Try.pinned (OpenSpec.upto deriveBytesSpec)

/-- 'nepenthelaw04.DeriveBegins', WHERE WHAT IT READS IS OF BULK AT MOST 1048576: true; the input reads as it did. -/
def deriveBeginsUptoRow : OpenClaim := { program := "ytoojonapnifjoaa", sum := "acf3a320439f421bbc31ed8a68ee73c59bec8582bee67922d626d0b3dc7cd26b", func := "nepenthe/nepenthelaw04.DeriveBegins", spec := "deriveBegins", apart := false, narrowed := true }
def DeriveBeginsUptoSaid : Prop := deriveBeginsUptoRow.holds Try.pinned (OpenSpec.upto deriveBeginsSpec)

/-- 'nepenthelaw04.DeriveBlocks', WHERE WHAT IT READS IS OF BULK AT MOST 1048576: true; the input reads as it did. -/
def deriveBlocksUptoRow : OpenClaim := { program := "ytoojonapnifjoaa", sum := "acf3a320439f421bbc31ed8a68ee73c59bec8582bee67922d626d0b3dc7cd26b", func := "nepenthe/nepenthelaw04.DeriveBlocks", spec := "deriveBlocks", apart := false, narrowed := true }
def DeriveBlocksUptoSaid : Prop := deriveBlocksUptoRow.holds Try.pinned (OpenSpec.upto deriveBlocksSpec)

/-- 'nepenthelaw04.DeriveKeys', WHERE WHAT IT READS IS OF BULK AT MOST 1048576: true; the input reads as it did. -/
def deriveKeysUptoRow : OpenClaim := { program := "ytoojonapnifjoaa", sum := "acf3a320439f421bbc31ed8a68ee73c59bec8582bee67922d626d0b3dc7cd26b", func := "nepenthe/nepenthelaw04.DeriveKeys", spec := "deriveKeys", apart := false, narrowed := true }
def DeriveKeysUptoSaid : Prop := deriveKeysUptoRow.holds Try.pinned (OpenSpec.upto deriveKeysSpec)

end Rows
end Go.Proofs.Ytoojonapnifjoaa
