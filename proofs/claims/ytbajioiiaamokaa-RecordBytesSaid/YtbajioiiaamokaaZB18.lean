/- ShT, pruned (slim.py). -/
import Derived.Test.YtbajioiiaamokaaZB17
namespace Go.Proofs.Ytbajioiiaamokaa.Own
open Go.RowKit Go.Proofs.Ytbajioiiaamokaa.Arr Go.Proofs.Ytbajioiiaamokaa.QB Go.Proofs.YtbajioiiaamokaaW.PrintWords Go.Proofs.YtbajioiiaamokaaW.PrintLast Go.Proofs.YtbajioiiaamokaaW.PrintMore
set_option linter.unusedVariables false
set_option linter.unusedSimpArgs false
theorem absorb_add (a b:Nat) (st l:List Int):absorb (a+b) st l=absorb b (absorb a st l) (l.drop (64*a)):=by
 induction a generalizing st l with
 |zero=>simp[absorb]
 |succ a ih=>
  rw[show a+1+b=(a+b)+1 from by omega,absorb,ih,absorb,List.drop_drop,show 64+64*a=64*(a+1) from by omega]
theorem absorb_app (k:Nat) (st l t:List Int) (h:64*k≤l.length):absorb k st (l++t)=absorb k st l:=by
 induction k generalizing st l with
 |zero=>rfl
 |succ k ih=>
  rw[absorb,absorb,List.take_append_of_le_length (by omega),List.drop_append_of_le_length (by omega)]
  exact ih _ _ (by rw[List.length_drop];omega)
def restL (L:List Int):List Int:=L.drop (64*(L.length / 64))
def stL (L:List Int):List Int:=absorb (L.length / 64) H0 L
theorem restL_length (L:List Int):(restL L).length=L.length % 64:=by rw[restL,List.length_drop];omega
theorem app_div (L m:List Int):(L++m).length / 64=L.length / 64+(restL L++m).length / 64:=by
 rw[List.length_append,List.length_append,restL_length];omega
theorem stL_app (L m:List Int):absorb ((restL L++m).length / 64) (stL L) (restL L++m)=stL (L++m):=by
 show _=absorb ((L++m).length / 64) H0 (L++m)
 have e:=app_div L m
 generalize (restL L++m).length / 64=q at e ⊢
 have h1:absorb (L.length / 64) H0 (L++m)=stL L:=absorb_app _ _ _ _ (by omega)
 have h2:(L++m).drop (64*(L.length / 64))=restL L++m:=List.drop_append_of_le_length (by omega)
 rw[e,absorb_add,h1,h2]
theorem restL_app (L m:List Int):(restL L++m).drop (64*((restL L++m).length / 64))=restL (L++m):=by
 show _=(L++m).drop (64*((L++m).length / 64))
 have e:=app_div L m
 generalize (restL L++m).length / 64=q at e ⊢
 have h2:(L++m).drop (64*(L.length / 64))=restL L++m:=List.drop_append_of_le_length (by omega)
 rw[e,Nat.mul_add,← List.drop_drop,h2]
def sumL (L:List Int):List Int:=outL (stL (L++tailL L.length))
theorem stL_length (L:List Int):(stL L).length=8:=absorb_length _ _ _ rfl
theorem sumL_length (L:List Int):(sumL L).length=32:=by rw[sumL,outL_length,stL_length]
def HashOf (w:World) (g:Nat) (L:List Int):Prop:=∃ A c,HashAt w g (stL L) A c (restL L) L.length true
theorem HashOf.below {w w':World} {g:Nat} {L:List Int} (h:HashOf w g L) (hb:Below w.heap.size w w'):HashOf w' g L:=by
 obtain ⟨A,c,h⟩:=h;exact ⟨A,c,h.below hb⟩
theorem new_of (w:World):Calls Try.prog 86 #[] w fun e w'=>∃ g,e=.returned (.pointer (some ⟨g,0,none⟩))∧w.heap.size≤g∧HashOf w' g []∧Below w.heap.size w w':=
 (new_any w).mono fun e w' ⟨g,h1,h2,h3,h4⟩=>⟨g,h1,h2,⟨none,0,h3⟩,h4⟩
theorem write_of (w:World) (g:Nat) (L:List Int) (h:HashOf w g L) (B:Option Addr) (cb:Nat) (m:List Int) (hm:Rd w g B m) (hlen:L.length+m.length≤70368744177600) :
  Calls Try.prog 87 #[.pointer (some ⟨g,0,none⟩),.slice B m.length cb] w fun e w'=>e=.returned (.tuple #[])∧HashOf w' g (L++m)∧Chg g w w':=by
 obtain ⟨A,c,h⟩:=h
 refine (write_true w g (stL L) A c (restL L) L.length h B cb m hm (by rw[restL_length];omega) (by omega) (by omega)).mono ?_
 rintro e w' ⟨h1,A',c',h2,h3⟩
 refine ⟨h1,⟨A',c',?_⟩,h3⟩
 rw[stL_app,restL_app] at h2
 rw[show ((L++m).length:Int)=(L.length:Int)+(m.length:Int) from by rw[List.length_append];omega]
 exact h2
theorem sum_of (w:World) (g:Nat) (L:List Int) (h:HashOf w g L) (hlen:L.length≤1099511627776) :
  Calls Try.prog 89 #[.pointer (some ⟨g,0,none⟩)] w fun e w'=>∃ v0_:Value,e=.returned v0_∧Kd.R (Kd.int .u8) 5 w' w.heap.size (fun _=>True) v0_ (sumL L)∧Below w.heap.size w w':=by
 obtain ⟨A,c,h⟩:=h
 have:=sum_any w g (stL L) A c (restL L) L.length h (by rw[restL_length];omega) hlen
 rw[stL_app] at this
 exact this
set_option maxHeartbeats 2000000 in
set_option maxRecDepth 100000 in
theorem shaSum_any (A0:Option Addr) (c0:Nat) (l0:List Int) (w:World) (hr0:Kd.C (Kd.int .u8) w A0 l0.length l0) (hlen:l0.length≤1099511627776) :
  Calls Try.prog 95 #[.slice A0 l0.length c0] w fun e w'=>∃ v0_:Value,e=.returned v0_∧Kd.R (Kd.int .u8) 5 w' w.heap.size (fun _=>True) v0_ (sumL l0)∧Below w.heap.size w w':=by
 have hr0':=Lib.hid hr0
 have hlen':=Lib.hid hlen
 obtain ⟨D,hD⟩:∃ D,D=sumL l0:=⟨_,rfl⟩
 have hsum:∀ w1 g,HashOf w1 g l0→Calls Try.prog 89 #[.pointer (some ⟨g,0,none⟩)] w1 fun e w'=>∃ v0_:Value,e=.returned v0_∧Kd.R (Kd.int .u8) 5 w' w1.heap.size (fun _=>True) v0_ D∧Below w1.heap.size w1 w':=by
  rw[hD];exact fun w1 g h=>sum_of w1 g l0 h hlen
 rw[← hD]
 have hsum':=Lib.hid hsum
 clear hr0 hlen hD hsum
 go_enter Try.func95,Try.ntmps95
 go_wp2_with (first | (go_at_call 86;refine (new_of _).mono ?_;rintro e w1 ⟨g,rfl,hg,hh,hb⟩;have hg1:=Lib.hid hg;have hh1:=Lib.hid hh;have hb1:=Lib.hid hb;clear hg hh hb) | (go_at_call 87;refine (write_of _ g [] hh1.out A0 c0 l0 ((Rd.old hr0'.out hg1.out).keep (Chg.of_below hb1.out)) (by simp only[List.length_nil];have:=hlen'.out;omega)).mono ?_;rintro e w2 ⟨rfl,hh,hch⟩;have hh2:=Lib.hid hh;have hb2:=Lib.hid (hb1.out.trans (hch.below hg1.out hb1.out.size));clear hh hch) | (go_at_call 89;refine (hsum'.out _ g hh2.out).mono ?_;rintro e w3 ⟨v,rfl,hR,hb⟩;have hR3:=Lib.hid hR;have hb3:=Lib.hid hb;clear hR hb))
 go_ret
 exact ⟨_,rfl,Kd.R_lower hR3.out hb2.out.size,below_then hb2.out hb2.out.size hb3.out⟩
end Go.Proofs.Ytbajioiiaamokaa.Own
