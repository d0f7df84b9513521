/- PlB, pruned (slim.py). -/
import Derived.Test.YtbajioiiaamokaaZB29
namespace Go.Proofs.Ytbajioiiaamokaa.Own
open Go.RowKit Go.Proofs.Ytbajioiiaamokaa.Arr Go.Proofs.Ytbajioiiaamokaa.QB Go.Proofs.YtbajioiiaamokaaW.PrintWords Go.Proofs.YtbajioiiaamokaaW.PrintLast Go.Proofs.YtbajioiiaamokaaW.PrintMore
set_option linter.unusedVariables false
set_option linter.unusedSimpArgs false
theorem fill128r (k:Nat):nepentheref01_Fill.f (k+200) 0 128=some (zL 128):=by
 have:=fill_eq 0 128 (by decide) (k+71)
 exact this
def slFit (x:SlT):Prop:=0≤x.size∧x.size<4294967296∧0≤x.epoch∧x.epoch<18446744073709551616∧0≤x.count∧x.count<18446744073709551616∧x.wrap.length≤1000000
theorem slBytes_eq (x:SlT) (h:slFit x) (k:Nat):nepentheref17_Bytes.f (k+200) x.used x.size x.epoch x.count x.wrap=some (slBytes x):=by
 obtain ⟨h1,h2,h3,h4,h5,h6,h7⟩:=h
 unfold nepentheref17_Bytes.f slBytes
 by_cases hu:x.used=true
 ·have b4:=refBig4 x.size h1 (by omega) (k+180)
  have b8:=refBig8 x.epoch h3 h4 (k+180)
  have b9:=refBig8 x.count h5 h6 (k+180)
  rw[show k+180+20=k+200 by omega] at b4 b8 b9
  rw[if_pos hu,if_pos hu,wraps_u64 _ h1 (by omega),b4,b8,b9,big4_bigL,big8_bigL _ h3 h4,big8_bigL _ h5 h6]
  simp only[Option.bind_some,List.length_append,bigL_length,List.length_cons,List.length_nil]
  rw[if_pos (by omega),if_pos (by omega),if_pos (by omega),if_pos (by omega)]
 rw[if_neg hu,if_neg hu,fill128r];rfl
theorem slZero_fit:slFit slZero:=⟨by decide,by decide,by decide,by decide,by decide,by decide,by decide⟩
end Go.Proofs.Ytbajioiiaamokaa.Own
