/- LawRecordBytes, pruned (slim.py). -/
import Derived.Test.YtbajioiiaamokaaRows
import Derived.Test.YtbajioiiaamokaaZB50
import Derived.Test.YtbajioiiaamokaaZB49
import Derived.WalkKit
import Derived.ProofKit
import Derived.OpenShut
import Derived.ShutString
import Derived.ChangeOld
import Derived.Below
import Derived.SizedLaws
namespace Go.Proofs.Ytbajioiiaamokaa.recordBytes
open Go.ChangeShapes Go.WideShapes Go.ChangeAt Go.RowKit Go.Proofs.Ytbajioiiaamokaa.Opz Go.Proofs.YtbajioiiaamokaaW.PrintWords
set_option linter.unusedVariables false
theorem own:ownKnob Try.prog.godebug=none:=by kernel_rfl
theorem laidOut:laidOutB Try.prog=true:=by kernel_rfl
set_option maxRecDepth 100000 in
theorem lifted (os:Os) (started:os.Started) (H:Type) (enc:TypeId × Value→H) :
  ReturnsInHanded {} Try.checked os 3 .any (Rows.recordBytesSpec.pre6 enc Try.prog Try.f3 Rows.recordBytesRow.domain false) (Rows.recordBytesSpec.post enc Try.prog Try.f3 false true false false):=by
 refine returnsInHanded_of_change_sized (C:=Try.checked) own started (by kernel_rfl) Try.func3
  (ChangeSpec.witness6 (enc:=enc) (C:=Try.checked) false ⟨#[],#[.agg #[.int .u64 0,.int .u64 0,.slice none 0 0,.int .u64 0,.slice none 0 0,.bool false,.int .i64 0,.int .u64 0,.int .u64 0,.slice none 0 0,.bool false,.int .i64 0,.int .u64 0,.int .u64 0,.slice none 0 0,.bool false,.int .i64 0,.int .u64 0,.int .u64 0,.slice none 0 0,.bool false,.int .i64 0,.int .u64 0,.int .u64 0,.slice none 0 0],.slice none 0 0],[]⟩ 8 (by kernel_rfl) (by kernel_rfl) (by kernel_rfl) (by kernel_rfl)) ?_
 intro W base args ds gs before hval0 hW hcnd hsz0 _
 have hsz:(DataW.weightsEach Try.prog (Try.f3.params.toList++Rows.recordBytesSpec.plain.varTypes Try.prog) (ds++gs)).all (· ≤ reachBytes)=true:=hsz0
 have hval:∀ (j:Nat) t v,Try.f3.params[j]?=some t→args[j]?=some v→Value.okWide Try.prog W .any base t v:=hval0
 have hW':=hW
 obtain ⟨p,q,hA0,hV,rfl,hfz,hnd⟩:=hW
 have hA:DataW.TrodAll enc Try.prog W 0 (fun _=>true) true Try.f3.params.toList args.toList ds p:=hA0
 rw[Try.params3] at hA hval hsz
 obtain ⟨v0,vs0,d0,ds0,p0,q0,hargs,rfl,rfl,h0,r0⟩:=trodAll_cons hA
 obtain ⟨v1,vs1,d1,ds1,p1,q1,rfl,rfl,rfl,h1,r1⟩:=trodAll_cons r0
 obtain ⟨rfl,rfl,rfl⟩:=trodAll_nil r1
 obtain rfl:args=#[v0,v1]:=by cases args;simp_all
 obtain ⟨rfl,rfl⟩:=trodVars_none hV
 have lt0:∀ x ∈ p0,x.block<W.heap.size:=by obtain ⟨m,hm⟩:=h0;exact DataW.trod_lt m _ _ _ hm
 have k0:=h0
 have s0:∀ n ∈ d0.weights Try.prog 28,n≤reachBytes:=fun n hn=>by have z:=List.all_eq_true.1 hsz n (DataW.weights_mem_each (j:=0) (t:=28) rfl rfl n hn);simpa using z
 obtain ⟨a0,cs0,rfl,K0,w0⟩:=arg_agg (.inl ⟨_,Try.underlying28⟩) opens28 (hval 0 28 v0 rfl rfl) h0 s0
 have lt1:∀ x ∈ p1,x.block<W.heap.size:=by obtain ⟨m,hm⟩:=h1;exact DataW.trod_lt m _ _ _ hm
 have k1:=h1
 have s1:∀ n ∈ d1.weights Try.prog 23,n≤reachBytes:=fun n hn=>by have z:=List.all_eq_true.1 hsz n (DataW.weights_mem_each (j:=1) (t:=23) rfl rfl n hn);simpa using z
 obtain ⟨A1,c1,x1,rfl,b1,C1,w1⟩:=arg_slice Try.underlying23 (opens_slice (q:=5) (d:=(Kd.int .u8)) Try.underlying23 (by kernel_rfl) (by kernel_rfl) (opens_int Try.underlying5)) (hval 1 23 v1 rfl rfl) h1 s1
 clear hA0 hval0 hsz0 hsz
 refine (Own.RecordBytes_walk W a0 cs0 K0 w0 A1 c1 x1 b1 C1 w1).mono fun e W' ⟨he,bel⟩=>?_
 subst he
 exact ⟨_,rfl,_,_,_,[],_,[],hW',trodAll_mk1 (shut_bool Try.underlying4 _),(trodAll_cons_mk (Below.trod laidOut (by kernel_rfl) (of_decide_eq_true (by kernel_rfl)) k0 bel lt0) (trodAll_cons_mk (Below.trod laidOut (by kernel_rfl) (of_decide_eq_true (by kernel_rfl)) k1 bel lt1) trodAll_mk0)),rfl,bel.frame _,fun h=>by cases h⟩
theorem over:Rows.recordBytesRow.holds Try.pinned (OpenSpec.ofChange Rows.recordBytesSpec):=
 OpenClaim.holds_of_wide 3 Try.f3 rfl rfl rfl rfl rfl rfl rfl ⟨rfl,rfl,rfl,rfl,rfl⟩ rfl rfl rfl rfl rfl (by kernel_rfl) Try.func3 (by kernel_rfl)
  (of_decide_eq_true (by kernel_rfl)) (by unfold Func.isWrapper;first | (rw[if_pos (by decide +kernel)];kernel_rfl) | (rw[if_neg (by decide +kernel)];exact ⟨rfl,rfl⟩))
  (fun os started H enc _=>lifted os started H enc)
theorem proved:Rows.RecordBytesSaid:=over
#print axioms proved
end Go.Proofs.Ytbajioiiaamokaa.recordBytes
namespace Go.Proofs.Ytbajioiiaamokaa
theorem recordBytes_holds:Rows.RecordBytesSaid:=recordBytes.proved
end Go.Proofs.Ytbajioiiaamokaa
