/- LwFits, pruned (slim.py). -/
import Derived.Test.YtbajioiiaamokaaZB23
namespace Go.Proofs.Ytbajioiiaamokaa.Own
open Go.RowKit Go.Proofs.Ytbajioiiaamokaa.Arr Go.Proofs.Ytbajioiiaamokaa.QB Go.Proofs.YtbajioiiaamokaaW.PrintWords Go.Proofs.YtbajioiiaamokaaW.PrintLast Go.Proofs.YtbajioiiaamokaaW.PrintMore
set_option linter.unusedVariables false
set_option linter.unusedSimpArgs false
theorem refTag_any (key text:List Int) (hk:∀ x ∈ key,byt x) (ht:∀ x ∈ text,byt x) (hkl:key.length≤1000000000) (htl:text.length≤1000000000) (w:World) (A0:Option Addr) (c0:Nat) (A1:Option Addr) (c1:Nat) (hr0:Kd.C (Kd.int .u8) w A0 key.length key) (hc0:key.length≤c0) (hr1:Kd.C (Kd.int .u8) w A1 text.length text) (hc1:text.length≤c1) :
  Calls Try.prog 54 #[.slice A0 key.length c0,.slice A1 text.length c1] w fun e w'=>∃ v0_:Value,e=.returned v0_∧Kd.R (Kd.int .u8) 5 w' w.heap.size (fun _=>True) v0_ (tagB (blockL key) text)∧Below w.heap.size w w':=
 nepentheref03_Tag.calls _ A0 c0 key A1 c1 text _ w hr0 hc0 hr1 hc1 (refTag_eq key text hk ht hkl htl 0)
theorem same_any (a b:List Int) (hl:a.length≤281474976710656) (w:World) (A0:Option Addr) (c0:Nat) (A1:Option Addr) (c1:Nat) (hr0:Kd.C (Kd.int .u8) w A0 a.length a) (hc0:a.length≤c0) (hr1:Kd.C (Kd.int .u8) w A1 b.length b) (hc1:b.length≤c1) :
  Calls Try.prog 20 #[.slice A0 a.length c0,.slice A1 b.length c1] w fun e w'=>e=.returned (.bool (decide (a=b)))∧Drawn0 w w':=
 nepentheref01_SameBytes.calls _ A0 c0 a A1 c1 b _ w hr0 hc0 hr1 hc1 (same_dec a b hl 0)
end Go.Proofs.Ytbajioiiaamokaa.Own
namespace Go.Proofs.Ytbajioiiaamokaa.Own
open Go.RowKit Go.Proofs.Ytbajioiiaamokaa.Arr Go.Proofs.Ytbajioiiaamokaa.QB Go.Proofs.YtbajioiiaamokaaW.PrintWords Go.Proofs.YtbajioiiaamokaaW.PrintLast Go.Proofs.YtbajioiiaamokaaW.PrintMore
end Go.Proofs.Ytbajioiiaamokaa.Own
