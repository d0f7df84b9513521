/- ShP, pruned (slim.py). -/
import Derived.Test.YtbajioiiaamokaaZB15
namespace Go.Proofs.Ytbajioiiaamokaa.Own
open Go.RowKit Go.Proofs.Ytbajioiiaamokaa.Arr Go.Proofs.Ytbajioiiaamokaa.QB Go.Proofs.YtbajioiiaamokaaW.PrintWords Go.Proofs.YtbajioiiaamokaaW.PrintLast Go.Proofs.YtbajioiiaamokaaW.PrintMore
set_option linter.unusedVariables false
set_option linter.unusedSimpArgs false
def big4 (x:Int):List Int:=[x / 16777216 % 256,x / 65536 % 256,x / 256 % 256,x % 256]
def big8 (x:Int):List Int:=[x / 72057594037927936 % 256,x / 281474976710656 % 256,x / 1099511627776 % 256,x / 4294967296 % 256,x / 16777216 % 256,x / 65536 % 256,x / 256 % 256,x % 256]
theorem big4_eq (k:Nat) (x:Int):octet_Big.f (k+5) x 4=some (big4 x):=by
 simp[octet_Big.f,octet_Big.l0,mx,mn,wrap64,shr,big4,List.replicate,IntKind.bits]
theorem big8_eq (k:Nat) (x:Int):octet_Big.f (k+9) x 8=some (big8 x):=by
 simp[octet_Big.f,octet_Big.l0,mx,mn,wrap64,shr,big8,List.replicate,IntKind.bits]
def zerosN (n:Nat):Nat:=(119 - n % 64) % 64
def tailL (n:Nat):List Int:=128 :: (List.replicate (zerosN n) 0++big8 (IntKind.u64.wrap (IntKind.u64.wrap n*8)))
theorem tm_nat (a:Nat) (h:a≤4611686018427387904):Int.tmod (wrap64 (a:Int)) 64=((a % 64:Nat):Int):=by
 have e:wrap64 (a:Int)=(a:Int):=by simp only[wrap64];omega
 rw[e]
 exact (Int.ofNat_tmod a 64).symm
theorem zerosN_lt (n:Nat):zerosN n<64:=Nat.mod_lt _ (by omega)
theorem zerosN_mod (n:Nat):(n+1+zerosN n) % 64=56:=by unfold zerosN;omega
theorem zerosN_least (n j:Nat) (h:j<zerosN n):(n+1+j) % 64≠56:=by unfold zerosN at h;omega
theorem tail_loop (n:Nat) (hn:n≤1099511627776) (d:Nat):∀ (j:Nat),j+d=zerosN n→∀ k,sha_tail.l0 (k+10+d) n (128 :: List.replicate j 0)=some (tailL n):=by
 have hz:=zerosN_lt n
 induction d with
 |zero=>
  intro j hj k
  obtain rfl:j=zerosN n:=by omega
  rw[sha_tail.l0]
  have hmod:Int.tmod (wrap64 ((n:Int)+((128 :: List.replicate (zerosN n) (0:Int)).length:Int))) 64=56:=by
   rw[show (n:Int)+((128 :: List.replicate (zerosN n) (0:Int)).length:Int)=((n+1+zerosN n:Nat):Int) from by simp only[List.length_cons,List.length_replicate];omega,tm_nat _ (by omega),zerosN_mod]
   rfl
  rw[if_pos hmod,big8_eq k]
  simp only[Option.bind_some]
  rw[if_pos (by simp only[List.length_cons,List.length_replicate,big8,List.length_nil];omega)]
  rfl
 |succ d ih=>
  intro j hj k
  rw[show k+10+(d+1)=(k+10+d)+1 from by omega,sha_tail.l0]
  have hmod : ¬ Int.tmod (wrap64 ((n:Int)+((128 :: List.replicate j (0:Int)).length:Int))) 64=56:=by
   rw[show (n:Int)+((128 :: List.replicate j (0:Int)).length:Int)=((n+1+j:Nat):Int) from by simp only[List.length_cons,List.length_replicate];omega,tm_nat _ (by omega)]
   have:=zerosN_least n j (by omega)
   omega
  rw[if_neg hmod,if_pos (by simp only[List.length_cons,List.length_replicate];omega)]
  have:=ih (j+1) (by omega) k
  rw[List.replicate_succ'] at this
  exact this
theorem tail_eq (n:Nat) (hn:n≤1099511627776) (k:Nat):sha_tail.f (k+80) n=some (tailL n):=by
 have h:=tail_loop n hn (zerosN n) 0 (by omega) (k+70 - zerosN n)
 have e:k+70 - zerosN n+10+zerosN n=k+80:=by have:zerosN n<64:=Nat.mod_lt _ (by omega);omega
 rw[e] at h
 exact h
theorem tail_length (n:Nat):(tailL n).length=zerosN n+9:=by simp[tailL,big8]
theorem tail_mod (n l:Nat) (h:n % 64=l % 64):(l+(tailL n).length) % 64=0:=by
 rw[tail_length,zerosN];omega
def outL (st:List Int):List Int:=(st.map fun x=>big4 (IntKind.u64.wrap x)).flatten
end Go.Proofs.Ytbajioiiaamokaa.Own
