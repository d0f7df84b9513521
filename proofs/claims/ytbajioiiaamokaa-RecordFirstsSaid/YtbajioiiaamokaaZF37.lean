/- PlB, pruned (slim.py). -/
import Derived.Test.YtbajioiiaamokaaZF33
namespace Go.Proofs.Ytbajioiiaamokaa.Own
open Go.RowKit Go.Proofs.Ytbajioiiaamokaa.Arr Go.Proofs.Ytbajioiiaamokaa.QB Go.Proofs.YtbajioiiaamokaaW.PrintWords Go.Proofs.YtbajioiiaamokaaW.PrintLast Go.Proofs.YtbajioiiaamokaaW.PrintMore
set_option linter.unusedVariables false
set_option linter.unusedSimpArgs false
def slFit (x:SlT):Prop:=0≤x.size∧x.size<4294967296∧0≤x.epoch∧x.epoch<18446744073709551616∧0≤x.count∧x.count<18446744073709551616∧x.wrap.length≤1000000
theorem slZero_fit:slFit slZero:=⟨by decide,by decide,by decide,by decide,by decide,by decide,by decide⟩
end Go.Proofs.Ytbajioiiaamokaa.Own
