/- RbL, pruned (slim.py). -/
import Derived.Test.YtbajioiiaamokaaZB46
import Derived.Deep.DeepCutAuto
namespace Go.Proofs.Ytbajioiiaamokaa.Own
open Go.RowKit Go.Proofs.Ytbajioiiaamokaa.Arr Go.Proofs.Ytbajioiiaamokaa.QB Go.Proofs.YtbajioiiaamokaaW.PrintWords Go.Proofs.YtbajioiiaamokaaW.PrintLast Go.Proofs.YtbajioiiaamokaaW.PrintMore
set_option linter.unusedVariables false
set_option linter.unusedSimpArgs false
attribute [-go_sem] Instr.build
set_option maxHeartbeats 16000000 in
set_option maxRecDepth 100000 in
theorem bytes_heavy (r:RcT) (A:Nat→Option Addr) (c:Nat→Nat) (K:Option Addr) (np kc:Nat) (w:World) (hlen:∀ j,j<6→(rlist r j).length≤140737488355328) (hl:light18 r=false) :
  Calls Try.prog 3 #[.agg (rcl r A c).toArray,.slice K np kc] w fun e w'=>e=.returned (.bool true)∧Below w.heap.size w w':=by
 have hlig:=Lib.hid (fun (W:World)=>light18_any r A c W hlen)
 rw[hl] at hlig
 have hawk:=Lib.hid awake18_any
 obtain ⟨CA,hCA⟩:∃ CA,CA=(rcl r A c).toArray:=⟨_,rfl⟩
 obtain ⟨W1,hW1⟩:∃ W1,W1=w.alloc (.cells CA 28 (0,0)):=⟨_,rfl⟩
 have ha:=Lib.hid (show W1.heap[w.heap.size]?=some (.cells CA 28 (0,0)) by rw[hW1];exact heap_alloc_last _ _)
 have b1:=Lib.hid (show Below w.heap.size w W1 by rw[hW1];exact (Below.refl _ _).alloc (Nat.le_refl _) _)
 have hCAs:=Lib.hid (show (Try.prog.info? 28).map (·.size)=some CA.size by rw[hCA];exact szRc)
 rw[← hCA] at hlig ⊢
 clear hCA hlen hl
 go_enter Try.func3,Try.ntmps3
 go_upto_region 1 with fail
 rw[← hW1]
 clear hW1
 go_wp2_with (first
  |((with_reducible refine wpList_load_row_on ?_ 28 _ rfl w.heap.size rfl 28 CA (0,0) _ ha.out Try.underlying28 rfl hCAs.out ?_);exact rfl)
  |((with_reducible go_at_call 9);refine (hlig.out _).mono ?_;rintro e w2 ⟨rfl,hb⟩;have b2:=Lib.hid (below_step b1.out hb);clear hb)
  |((with_reducible go_at_call 10);refine (hawk.out _).mono ?_;rintro e w3 ⟨rfl,hb⟩;have b3:=Lib.hid (below_step b2.out hb);clear hb))
 go_ret
 exact ⟨rfl,b3.out⟩
def BytesRes (W:World) (r:RcT) (ok:Bool) (L:List Int) (e:Ending) (w':World):Prop:=
 ∃ X n cX er,e=.returned (.tuple #[.slice X n cX,.int .i64 er])∧((ok=true∧er=0∧n=624∧624≤cX∧Kd.C (Kd.int .u8) w' X 624 L)∨(ok=false∧er=2∧n=0))∧Below W.heap.size W w'
theorem bytes_both (r:RcT) (A:Nat→Option Addr) (c:Nat→Nat) (K:Option Addr) (kc:Nat) (key:List Int) (W:World) (hV:RcV W r A c) (hf:rcRight r=true→recFit r) (hK:Kd.C (Kd.int .u8) W K key.length key) (ok:Bool) (hok:ok=(rcRight r && decide (key.length=32))) (L:List Int) (hL:L=recBytes r key) :
  Calls Try.prog 11 #[.agg (rcl r A c).toArray,.slice K key.length kc] W (BytesRes W r ok L):=by
 cases hb:ok with
 |true=>
  rw[hb] at hok
  obtain ⟨h1,h2⟩:=(Bool.and_eq_true _ _).mp hok.symm
  refine (recBytes_any r A c K kc key W hV (hf h1) hK h1 (of_decide_eq_true h2)).mono ?_
  rintro e w' ⟨X,cX,rfl,ho,hbl⟩
  obtain ⟨-,k2,k3⟩:=C_of_own ho
  rw[← hL] at k2 k3 ⊢
  have hl:L.length=624:=by rw[hL];exact recBytes_len h1 key
  rw[hl] at k2 k3 ⊢
  exact ⟨X,624,cX,0,rfl,.inl ⟨rfl,rfl,rfl,k2,k3⟩,hbl⟩
 |false=>
  rw[hb] at hok
  refine (recBytes_no r A c K kc key W hV ?_).mono ?_
  ·rintro ⟨h1,h2⟩
   rw[h1,decide_eq_true h2] at hok
   exact absurd hok (by decide)
  rintro e w' ⟨rfl,hbl⟩
  exact ⟨none,0,0,2,rfl,.inr ⟨rfl,rfl,rfl⟩,hbl⟩
set_option maxHeartbeats 16000000 in
set_option maxRecDepth 100000 in
theorem bytes_light (r:RcT) (A:Nat→Option Addr) (c:Nat→Nat) (KA:Option Addr) (kc:Nat) (key:List Int) (w:World) (hV:RcV w r A c) (hf:rcRight r=true→recFit r) (hK:Kd.C (Kd.int .u8) w KA key.length key) (hkc:key.length≤kc) (hkb:∀ x ∈ key,byt x) (hkl:key.length≤140737488355328)
  (hbs:∀ x ∈ r.salt,byt x) (hbc:∀ x ∈ r.check,byt x) (hbw:∀ k,k<4→∀ x ∈ (r.s k).wrap,byt x) (hlen:∀ j,j<6→(rlist r j).length≤2000) (hl:light18 r=true) :
  Calls Try.prog 3 #[.agg (rcl r A c).toArray,.slice KA key.length kc] w fun e w'=>e=.returned (.bool true)∧Below w.heap.size w w':=by
 have hlig:=Lib.hid (fun (W:World)=>light18_any r A c W (fun j hj=>Nat.le_trans (hlen j hj) (by omega)))
 rw[hl] at hlig
 have hawk:=Lib.hid awake18_any
 obtain ⟨hz,-⟩:=zero_of_info (P:=Try.prog) infoRc
 obtain ⟨Z,hZ⟩:∃ Z:Array Value,Z=zRc:=⟨_,rfl⟩
 have hZ25:=Lib.hid (show Z.size=25 by rw[hZ];rfl)
 rw[← hZ] at hz
 obtain ⟨rr,hrr⟩:∃ b,b=rcRight r:=⟨_,rfl⟩
 obtain ⟨L,hL⟩:∃ L,L=recBytes r key:=⟨_,rfl⟩
 obtain ⟨ok,hok⟩:∃ b,b=(rcRight r && decide (key.length=32)):=⟨_,rfl⟩
 obtain ⟨SZ,hSZ⟩:∃ l,l=szL r 4:=⟨_,rfl⟩
 have hSZ':=Lib.hid hSZ
 have hby:=Lib.hid (fun (W:World) (hW:Below w.heap.size w W)=>bytes_both r A c KA kc key W (hV.below hW) hf (Kd.C_below hK hW) ok hok L hL)
 have hcp:=Lib.hid (fun (A':Nat→Option Addr) (c':Nat→Nat) (W:World) (h:RcV W r A' c')=>recCopy_any r A' c' W h (fun j hj=>Nat.le_trans (hlen j hj) (by omega)))
 have hri:=Lib.hid (fun (W:World) (hW:Below w.heap.size w W)=>recRight_any r A c W (hV.below hW))
 have hof:=Lib.hid (fun (A':Nat→Option Addr) (c':Nat→Nat) (W:World)=>of18_any r A' c' W)
 have hrf:=Lib.hid (fun (W:World) (hW:Below w.heap.size w W)=>refRight18_any r A c W (hV.below hW))
 have hsm:=Lib.hid (fun (A':Nat→Option Addr) (c':Nat→Nat) (W:World) (hW:Below w.heap.size w W) (h:RcV W r A' c')=>recSame_eq r A' c' A c W h (hV.below hW) (fun j hj=>Nat.le_trans (hlen j hj) (by omega)))
 have hsz:=Lib.hid (fun (W:World)=>recSizes_any r A c W)
 have hszl:=Lib.hid (fun k=>szL_len r k)
 have hsi:=Lib.hid (fun (W:World) (X Y:Option Addr) (m n:Nat) (h1:W.ownsRow w.heap.size 3 1 (.slice X SZ.length m) SZ.length (nums .i64 SZ)) (h2:W.ownsRow w.heap.size 3 1 (.slice Y SZ.length n) SZ.length (nums .i64 SZ))=>by
  obtain ⟨-,a1,a2⟩:=Cint_of_own h1
  obtain ⟨-,e1,e2⟩:=Cint_of_own h2
  exact nepentheref01_SameInts.calls (0+SZ.length+1) X m SZ Y n SZ true W a2 a1 e2 e1 (sameInts_eq SZ (by rw[hSZ];have:=szL_len r 4;omega) 0))
 have hgd:=Lib.hid (fun (h:ok=true)=>show rcRight r=true∧key.length=32 from by rw[hok] at h;obtain ⟨h1,h2⟩:=(Bool.and_eq_true _ _).mp h;exact ⟨h1,of_decide_eq_true h2⟩)
 have hrd:=Lib.hid (fun (h:ok=true) (X:Option Addr) (d:Nat) (hd:624≤d) (W:World) (hC:Kd.C (Kd.int .u8) W X 624 L)=>recRead_own r key (hgd.out h).1 (hf (hgd.out h).1) (byt_recBytes hbs hbc hbw key) X d hd L hL W hC)
 have hrb:=Lib.hid (fun (h:ok=true) (W:World) (hW:Below w.heap.size w W)=>show Calls Try.prog 21 #[.agg (rcl r A c).toArray,.slice KA 32 kc] W (fun e w'=>∃ Y f,e=.returned (.slice Y 624 f)∧624≤f∧Kd.C (Kd.int .u8) w' Y 624 L∧Below W.heap.size W w') from by
  obtain ⟨h1,h2⟩:=hgd.out h
  have:=refBytes18_any r A c KA kc key W (hV.below hW) (hf h1) (Kd.C_below hK hW) h1 h2 hkc hkb hbs hbc hbw
  rw[h2] at this
  refine this.mono ?_
  rintro e w' ⟨X,cX,rfl,ho,hbl⟩
  obtain ⟨-,k2,k3⟩:=C_of_own ho
  rw[recBytes_len h1 key,← hL] at k3
  rw[recBytes_len h1 key] at k2 ⊢
  exact ⟨X,cX,rfl,k2,k3,hbl⟩)
 have hLl:=Lib.hid (fun (h:ok=true)=>show L.length=624 by rw[hL];exact recBytes_len (hgd.out h).1 key)
 have hsb:=Lib.hid (fun (h:ok=true) (W:World) (X:Option Addr) (d:Nat) (Y:Option Addr) (f:Nat) (hX:Kd.C (Kd.int .u8) W X 624 L) (hd:624≤d) (hY:Kd.C (Kd.int .u8) W Y 624 L) (hf:624≤f)=>show Calls Try.prog 20 #[.slice X 624 d,.slice Y 624 f] W (fun e w'=>e=.returned (.bool true)∧Drawn0 W w') from by
  have l6:=hLl.out h
  have:=same_any L L (by omega) W X d Y f (by rw[l6];exact hX) (by rw[l6];exact hd) (by rw[l6];exact hY) (by rw[l6];exact hf)
  rw[l6,decide_eq_true rfl] at this
  exact this)
 have hfi:=Lib.hid (fun (h:ok=true) (W:World) (hW:Below w.heap.size w W) (X:Option Addr) (d:Nat) (hX:Kd.C (Kd.int .u8) W X 624 L) (hd:624≤d)=>show Calls Try.prog 22 #[.slice X 624 d,.slice KA 32 kc] W (fun e w'=>e=.returned (.bool true)∧Below W.heap.size W w') from by
  obtain ⟨h1,h2⟩:=hgd.out h
  have l6:=hLl.out h
  have:=recFits_any X d L KA kc key W (by rw[l6];exact hX) (by rw[l6];exact hd) (Kd.C_below hK hW) l6 h2 (by rw[hL];exact byt_recBytes hbs hbc hbw key)
  rw[l6,h2,hL,fits_bytes h1 key] at this
  exact this)
 obtain ⟨CA,hCA⟩:∃ CA,CA=(rcl r A c).toArray:=⟨_,rfl⟩
 obtain ⟨W1,hW1⟩:∃ W1,W1=w.alloc (.cells CA 28 (0,0)):=⟨_,rfl⟩
 have g1:=Lib.hid (show W1.heap[w.heap.size]?=some (.cells CA 28 (0,0)) by rw[hW1];exact heap_alloc_last _ _)
 have b1:=Lib.hid (show Below w.heap.size w W1 by rw[hW1];exact (Below.refl _ _).alloc (Nat.le_refl _) _)
 have hCAs:=Lib.hid (show (Try.prog.info? 28).map (·.size)=some CA.size by rw[hCA];exact szRc)
 have hcp0:=Lib.hid (fun (W:World) (hW:Below w.heap.size w W)=>hcp.out A c W (hV.below hW))
 have hofA:=Lib.hid (fun (W:World)=>hof.out A c W)
 have hslt:=Lib.hid (fun (W:World) (k:Nat) (hk:k<4) (h:W.heap[w.heap.size]?=some (.cells CA 28 (0,0)))=>show W.cell? ⟨w.heap.size,5+k*5,none⟩=some (.bool (r.s k).used)∧W.cell? ⟨w.heap.size,5+k*5+1,none⟩=some (.int .i64 (r.s k).size) from by
  rw[hCA] at h
  exact ⟨rc_slot h k hk 0 _ rfl,rc_slot h k hk 1 _ rfl⟩)
 rw[← hCA] at hlig hby hcp0 hri hofA hrf hsz hrb ⊢
 have hsm:=Lib.hid (fun (A':Nat→Option Addr) (c':Nat→Nat) (W:World) (hW:Below w.heap.size w W) (h:RcV W r A' c')=>show Calls Try.prog 16 #[.agg (rcl r A' c').toArray,.agg CA] W _ from by rw[hCA];exact hsm.out A' c' W hW h)
 rw[← hrr] at hri hrf
 rw[← hSZ] at hsz
 have hok1:ok=(rr && decide (key.length=32)):=by rw[hok,hrr]
 obtain ⟨np,hnp⟩:∃ n,n=key.length:=⟨_,rfl⟩
 rw[← hnp] at hok1 hby hgd hkl ⊢
 have hok':=Lib.hid hok1
 have hsuc:=Lib.hid (fun k=>szL_succ r k)
 clear hCA hV hf hK hkc hkb hbs hbc hbw hl hrr hL hok hSZ hZ hnp hok1 hLl
 go_enter Try.func3,Try.ntmps3
 go_upto_region 1 with fail
 rw[← hW1]
 clear hW1
 go_wp2_with (first
  |((with_reducible refine wpList_load_row_on ?_ 28 _ rfl w.heap.size rfl 28 CA (0,0) _ (by first | exact g1.out | exact g2.out | exact g3.out) Try.underlying28 rfl hCAs.out ?_);exact rfl)
  |((with_reducible go_at_call 9);refine (hlig.out _).mono ?_;rintro e w2 ⟨rfl,hb⟩;have b2:=Lib.hid (below_step b1.out hb);have g2:=Lib.hid (heap_below g1.out hb);clear hb)
  |((with_reducible go_at_call 11);refine (hby.out _ b2.out).mono ?_;rintro e w3 ⟨X,n,cX,er,rfl,hX,hb⟩;have b3:=Lib.hid (below_step b2.out hb);have g3:=Lib.hid (heap_below g2.out hb);have X3:=Lib.hid hX;clear hb hX)
  |((with_reducible go_at_call 12);(with_reducible refine (hcp0.out _ b3.out).mono ?_);rintro e w4 ⟨A4,c4,rfl,hO,hd,hb⟩;have b4:=Lib.hid (below_step b3.out hb);have c4':=Lib.hid hb;have g4:=Lib.hid (heap_below g3.out hb);have O4:=Lib.hid hO;have D4:=Lib.hid hd;have V4:=Lib.hid hO.v;obtain ⟨G,hG⟩:∃ G,G=(rcl r A4 c4).toArray:=⟨_,rfl⟩;rw[← hG];have hGs:=Lib.hid (show (Try.prog.info? 28).map (·.size)=some G.size by rw[hG];exact szRc);have hGo:=Lib.hid (show G.all (·.oneCell')=true by rw[hG];exact rcl_one _ _ _);have hGZ:=Lib.hid (show Z.size=G.size by rw[hZ25.out,hG];rfl);have hcp1:=Lib.hid (fun (W:World) (hW:Below w4.heap.size w4 W)=>hcp.out A4 c4 W (V4.out.below hW));rw[← hG] at hcp1;have hG':=Lib.hid hG;clear hb hO hd hG)
  |(with_reducible refine wpList_store_row rfl 28 _ _ rfl w4.heap.size G rfl rfl 28 Z (heap_alloc_last _ _) hGs.out hGZ.out hGo.out ?_;have bx5:=Lib.hid (below_setRow ((Below.refl w4.heap.size w4).alloc (Nat.le_refl _) (.cells Z 28 (0,0))) (Nat.le_refl _) G);have bs5:=Lib.hid (show w4.heap.size<((w4.alloc (.cells Z 28 (0,0))).setRow w4.heap.size G).heap.size by simp[World.setRow]);have e5:=Lib.hid (setRow_heap (w4.alloc (.cells Z 28 (0,0))) w4.heap.size Z G 28 (0,0) (heap_alloc_last _ _));generalize (w4.alloc (.cells Z 28 (0,0))).setRow w4.heap.size G=w5 at *;have b5:=Lib.hid (below_step b4.out bx5.out);have d5:=Lib.hid bx5.out;have g5:=Lib.hid (heap_below g4.out bx5.out);have c5:=Lib.hid (below_step c4'.out bx5.out);have O5:=Lib.hid (O4.out.below bx5.out))
  |((with_reducible refine wpList_load_row_on ?_ 28 _ rfl w4.heap.size rfl 28 G (0,0) _ e5.out Try.underlying28 rfl hGs.out ?_);exact rfl)
  |((with_reducible go_at_call 12);refine (hcp1.out _ d5.out).mono ?_;rintro e w6 ⟨A6,c6,rfl,hO,hd,hb⟩;have b6:=Lib.hid (below_step b5.out hb);have c6':=Lib.hid (below_step c5.out hb);have O6b:=Lib.hid (O5.out.below hb);have s6:=Lib.hid hb.size;have g6:=Lib.hid (heap_below g5.out hb);have e6:=Lib.hid (heap_below e5.out hb);have O6:=Lib.hid hO;obtain ⟨H,hH⟩:∃ H,H=(rcl r A6 c6).toArray:=⟨_,rfl⟩;rw[← hH];have hHs:=Lib.hid (show (Try.prog.info? 28).map (·.size)=some H.size by rw[hH];exact szRc);have hHo:=Lib.hid (show H.all (·.oneCell')=true by rw[hH];exact rcl_one _ _ _);have hHZ:=Lib.hid (show Z.size=H.size by rw[hZ25.out,hH];rfl);have hH':=Lib.hid hH;clear hb hO hd hH)
  |(with_reducible refine wpList_store_row rfl 28 _ _ rfl w6.heap.size H rfl rfl 28 Z (heap_alloc_last _ _) hHs.out hHZ.out hHo.out ?_;have bx7:=Lib.hid (below_setRow ((Below.refl w6.heap.size w6).alloc (Nat.le_refl _) (.cells Z 28 (0,0))) (Nat.le_refl _) H);have bs7:=Lib.hid (show w6.heap.size<((w6.alloc (.cells Z 28 (0,0))).setRow w6.heap.size H).heap.size by simp[World.setRow]);have f7:=Lib.hid (setRow_heap (w6.alloc (.cells Z 28 (0,0))) w6.heap.size Z H 28 (0,0) (heap_alloc_last _ _));generalize (w6.alloc (.cells Z 28 (0,0))).setRow w6.heap.size H=w7 at *;have b7:=Lib.hid (below_step b6.out bx7.out);have g7:=Lib.hid (heap_below g6.out bx7.out);have e7:=Lib.hid (heap_below e6.out bx7.out);have c7:=Lib.hid (below_step c6'.out bx7.out);have P7:=Lib.hid (O6b.out.below bx7.out);have O7:=Lib.hid (O6.out.below bx7.out)))
 have m7:=Lib.hid (show Mut w3 w4 w7 w7 from ⟨rfl,fun _ _=>rfl,c7.out⟩)
 have lt4:=Lib.hid (fun (j:Nat) (hj:j<6) (i:Nat) (hi:(Value.slice (A4 j) (rlist r j).length (c4 j)).ownBlock=some i)=>(O4.out j hj).lt i hi)
 have hcelG:=Lib.hid (fun (W:World) (h:W.heap[w4.heap.size]?=some (.cells G 28 (0,0)))=>show W.cell? ⟨w4.heap.size,2,none⟩=some (.slice (A4 0) r.salt.length (c4 0))∧W.cell? ⟨w4.heap.size,9,none⟩=some (.slice (A4 2) (r.s 0).wrap.length (c4 2)) from by
  rw[hG'.out] at h
  exact ⟨(rc_head h).2.2.1,rc_slot h 0 (by omega) 4 _ rfl⟩)
 obtain ⟨n0,hn0⟩:∃ n,n=r.salt.length:=⟨_,rfl⟩
 obtain ⟨n2,hn2⟩:∃ n,n=(r.s 0).wrap.length:=⟨_,rfl⟩
 have own0:=P7.out 0 (by omega)
 have own2:=P7.out 2 (by omega)
 have lt0:=lt4.out 0 (by omega)
 have lt2:=lt4.out 2 (by omega)
 have dis:=D4.out
 rw[show rlist r 0=r.salt from rfl] at own0 lt0
 rw[show rlist r 2=(r.s 0).wrap from rfl] at own2 lt2 dis
 rw[← hn0] at hcelG own0 lt0 dis
 rw[← hn2] at hcelG own2 lt2 dis
 have hn0b:=Lib.hid (show n0≤2000 by rw[hn0];exact hlen 0 (by omega))
 have hn2b:=Lib.hid (show n2≤2000 by rw[hn2];exact hlen 2 (by omega))
 have own0':=Lib.hid own0
 have own2':=Lib.hid own2
 have lt0':=Lib.hid lt0
 have lt2':=Lib.hid lt2
 have dis':=Lib.hid dis
 clear hlen own0 own2 lt0 lt2 dis hn0 hn2 O4 D4 V4 c4' O5 c5 O6b c6' P7 lt4 hcp hcp0 hcp1 hlig hby g1 g2 g4 g5 g6 e5 e6 b1 b2 b4 b5 b6 bx5 bx7 d5 hGo hGZ hGs hHo hHZ
 go_loopw [9] (fun v wr=>∃ k:Nat,k≤n0∧v=.int .i64 k∧(∃ l:List Int,wr.ownsRow w3.heap.size 5 1 (.slice (A4 0) n0 (c4 0)) n0 (nums .u8 l))∧(∃ l:List Int,wr.ownsRow w3.heap.size 5 1 (.slice (A4 2) n2 (c4 2)) n2 (nums .u8 l))∧Mut w3 w4 w7 wr) (fun v _=>n0 - (intOf v).toNat)
 case atStart=>exact ⟨0,Nat.zero_le _,rfl,⟨_,own0'.out⟩,⟨_,own2'.out⟩,m7.out⟩
 case round=>
  obtain ⟨k,hk,rfl,⟨l0,ho0⟩,⟨l2,ho2⟩,hm⟩:=hrel
  have ho0':=Lib.hid ho0
  have ho2':=Lib.hid ho2
  have hm':=Lib.hid hm
  have q:=(hcelG.out wr (hm.blk (Nat.le_refl _) e7.out)).1
  clear ho0 ho2 hm m7 own0' own2'
  by_cases hlt:k<n0
  ·obtain ⟨ga,hga⟩:∃ ga,A4 0=some ⟨ga,0,none⟩:=by
    rcases ho0'.out.2 with ⟨h1,h2⟩ | ⟨g,cap,cur,h1,_⟩
    ·omega
    injection h1 with h1;exact ⟨g,h1⟩
   have q1:(k:Int)<(n0:Int):=by omega
   have q2:(0:Int)≤(k:Int):=by omega
   have kw:IntKind.i64.wrap ((k:Int)+1)=(k:Int)+1:=by rw[IntKind.wrap_i64];have:=hn0b.out;omega
   have hk1:=Lib.hid hlt
   have ho1:=ho0'.out
   rw[hga] at ho1 q
   have hat:=own_at_of (enc:=Value.int .u8) (d:=(0:Int)) ho1 (k:Int) (by omega) (by omega)
   rw[Int.toNat_natCast] at hat
   obtain ⟨qa,qf⟩:=hat
   have hl1:=Lib.hid (lt0'.out ga (by rw[hga];rfl))
   have hfin:=Lib.hid (fun (x:Int)=>show (∃ l:List Int,(wr.setCell ⟨ga,k,none⟩ (.int .u8 x)).ownsRow w3.heap.size 5 1 (.slice (A4 0) n0 (c4 0)) n0 (nums .u8 l))∧(∃ l:List Int,(wr.setCell ⟨ga,k,none⟩ (.int .u8 x)).ownsRow w3.heap.size 5 1 (.slice (A4 2) n2 (c4 2)) n2 (nums .u8 l))∧Mut w3 w4 w7 (wr.setCell ⟨ga,k,none⟩ (.int .u8 x)) from
    ⟨⟨_,by rw[hga];have:=(own_store_of (enc:=Value.int .u8) ho1 (k:Int) x).1;rw[Int.toNat_natCast] at this;exact this⟩,⟨l2,ownsRow_setCell_other ho2'.out (fun e=>dis'.out ga e (by rw[hga];rfl)) _⟩,hm'.out.set (p:=⟨ga,k,none⟩) hl1.out.1 hl1.out.2 _⟩)
   clear hlt hk ho1
   go_wp2_with fail
   exact ⟨⟨k+1,hk1.out,by push_cast;rfl,hfin.out _⟩,by have:=hk1.out;simp only[intOf];omega⟩
  obtain rfl:k=n0:=by omega
  clear hlt hk
  go_wp2_with fail
  have m8:=Lib.hid hm'.out
  have o8:=Lib.hid ho2'.out
  clear q hm' ho0' ho2' lt0' dis'
  go_loopw [10] (fun v wr=>∃ k:Nat,k≤n2∧v=.int .i64 k∧(∃ l:List Int,wr.ownsRow w3.heap.size 5 1 (.slice (A4 2) n2 (c4 2)) n2 (nums .u8 l))∧Mut w3 w4 w7 wr) (fun v _=>n2 - (intOf v).toNat)
  case atStart=>exact ⟨0,Nat.zero_le _,rfl,⟨_,o8.out⟩,m8.out⟩
  case round=>
   obtain ⟨k,hk,rfl,⟨l2,ho2⟩,hm⟩:=hrel
   have ho2':=Lib.hid ho2
   have hm':=Lib.hid hm
   have q:=(hcelG.out wr (hm.blk (Nat.le_refl _) e7.out)).2
   clear ho2 hm m8 o8
   by_cases hlt:k<n2
   ·obtain ⟨ga,hga⟩:∃ ga,A4 2=some ⟨ga,0,none⟩:=by
     rcases ho2'.out.2 with ⟨h1,h2⟩ | ⟨g,cap,cur,h1,_⟩
     ·omega
     injection h1 with h1;exact ⟨g,h1⟩
    have q1:(k:Int)<(n2:Int):=by omega
    have q2:(0:Int)≤(k:Int):=by omega
    have kw:IntKind.i64.wrap ((k:Int)+1)=(k:Int)+1:=by rw[IntKind.wrap_i64];have:=hn2b.out;omega
    have hk1:=Lib.hid hlt
    have ho1:=ho2'.out
    rw[hga] at ho1 q
    have hat:=own_at_of (enc:=Value.int .u8) (d:=(0:Int)) ho1 (k:Int) (by omega) (by omega)
    rw[Int.toNat_natCast] at hat
    obtain ⟨qa,qf⟩:=hat
    have hl1:=Lib.hid (lt2'.out ga (by rw[hga];rfl))
    have hfin:=Lib.hid (fun (x:Int)=>show (∃ l:List Int,(wr.setCell ⟨ga,k,none⟩ (.int .u8 x)).ownsRow w3.heap.size 5 1 (.slice (A4 2) n2 (c4 2)) n2 (nums .u8 l))∧Mut w3 w4 w7 (wr.setCell ⟨ga,k,none⟩ (.int .u8 x)) from
     ⟨⟨_,by rw[hga];have:=(own_store_of (enc:=Value.int .u8) ho1 (k:Int) x).1;rw[Int.toNat_natCast] at this;exact this⟩,hm'.out.set (p:=⟨ga,k,none⟩) hl1.out.1 hl1.out.2 _⟩)
    clear hlt hk ho1
    go_wp2_with fail
    exact ⟨⟨k+1,hk1.out,by push_cast;rfl,hfin.out _⟩,by have:=hk1.out;simp only[intOf];omega⟩
   obtain rfl:k=n2:=by omega
   clear hlt hk
   go_wp2_with fail
   have b9:=Lib.hid (below_step b3.out hm'.out.2.2)
   have c9:=Lib.hid hm'.out.2.2
   have g9:=Lib.hid (heap_below g3.out hm'.out.2.2)
   have f9:=Lib.hid (hm'.out.blk (Nat.le_trans (Nat.le_of_lt bs5.out) s6.out) f7.out)
   have V9:=Lib.hid (show RcV wr r A6 c6 from RcO.v (fun j hj=>own_move (O7.out j hj) (fun i hi=>hm'.out.2.1 i (Nat.le_trans (Nat.le_of_lt bs5.out) ((O7.out j hj).lt i hi).1))))
   have hofH:=Lib.hid (fun (W:World)=>hof.out A6 c6 W)
   have hsmH:=Lib.hid (fun (W:World) (h1:Below w.heap.size w W) (h9:Below wr.heap.size wr W)=>hsm.out A6 c6 W h1 (V9.out.below h9))
   rw[← hH'.out] at hofH hsmH
   have hne:=Lib.hid (fun (W:World)=>show (binOp .neq 4 (.bool rr) (.bool rr)).run Try.prog W=.ok (.bool false) W from by cases rr <;> rfl)
   have hng:=Lib.hid (fun (x y:Operand) (W:World)=>show (eqGuard .neq 4 x y (.bool rr) (.bool rr)).run Try.prog W=.ok () W from rfl)
   clear q hm' ho2' lt2' hcelG g3 e7 f7 O7 bs5 s6 bs7 c7
   refine start_ (n:=14) (S:=fun w'=>Below w.heap.size w w'∧Below wr.heap.size wr w') (ds:=[]) #[false,false,false,false,false,false,false,false,false,false,false,false,false,false] (by kernel_rfl) rfl rfl (by exact ⟨below_drew b9.out,below_drew (Below.refl _ _)⟩) (fun hHeld=>?_)
   refine take_ (i:=0) (N:=some 61) (v:=?_) (a':=?_) #[true,false,false,false,false,false,false,false,false,false,false,false,false,false] rfl rfl (by kernel_rfl) (fun _ _ _ h=>h) (Or.inl ⟨by rfl,?_⟩) hHeld ?_ ?_
   rotate_left
   ·intro w' hS
    refine (exec_load_row w' 28 _ (by rfl) w.heap.size (by rfl) 28 CA (0,0) _ (heap_below g9.out hS.2) Try.underlying28 rfl hCAs.out).trans ?_;show Result.ok (Next.value (Value.agg CA)) w'=_;with_reducible rfl
   rotate_left
   ·simp only[Act.put,sZ0,sZ1,sZ2,i64_w,i32_w];rfl
   refine take_ (i:=2) (N:=some 63) (v:=?_) (a':=?_) #[true,false,true,false,false,false,false,false,false,false,false,false,false,false] rfl rfl (by kernel_rfl) (fun _ _ _ h=>h) (Or.inl ⟨by rfl,?_⟩) hHeld ?_ ?_
   rotate_left
   ·intro w' hS
    refine (exec_load_row w' 28 _ (by rfl) w.heap.size (by rfl) 28 CA (0,0) _ (heap_below g9.out hS.2) Try.underlying28 rfl hCAs.out).trans ?_;show Result.ok (Next.value (Value.agg CA)) w'=_;with_reducible rfl
   rotate_left
   ·simp only[Act.put,sZ0,sZ1,sZ2,i64_w,i32_w];rfl
   refine one_ (i:=1) (N:=some 62) #[true,true,true,false,false,false,false,false,false,false,false,false,false,false] rfl rfl (by kernel_rfl) (by decide) (fun K hK=>?_)
   refine goes_ Try.func13 (by kernel_rfl) rfl #[.agg CA] (by rfl) rfl rfl (by (try simp only[List.map_toArray,List.map_cons,List.map_nil]);first | done | rfl) ?_
   refine (hri.out _ hHeld.1).mono ?_
   rintro e w10 ⟨rfl,hb⟩
   refine ⟨_,rfl,?_⟩
   refine hK.out _ _ ⟨below_step hHeld.1 hb,below_step hHeld.2 hb⟩ (fun hHeld=>?_)
   clear hb
   clear hK K;refine norm_ (a':=?_) ?_ ?_
   rotate_left
   ·show Act.put _ (some 62) _=_
    simp only[Act.put,sZ0,sZ1,sZ2,i64_w,i32_w];rfl
   refine one_ (i:=3) (N:=some 64) #[true,true,true,true,false,false,false,false,false,false,false,false,false,false] rfl rfl (by kernel_rfl) (by decide) (fun K hK=>?_)
   refine goes_ Try.func15 (by kernel_rfl) rfl #[.agg CA] (by rfl) rfl rfl (by (try simp only[List.map_toArray,List.map_cons,List.map_nil]);first | done | rfl) ?_
   refine (hofA.out _).mono ?_
   rintro e w11 ⟨rfl,hb⟩
   refine ⟨_,rfl,?_⟩
   refine hK.out _ _ ⟨below_step hHeld.1 hb,below_step hHeld.2 hb⟩ (fun hHeld=>?_)
   clear hb
   clear hK K;refine norm_ (a':=?_) ?_ ?_
   rotate_left
   ·show Act.put _ (some 64) _=_
    simp only[Act.put,sZ0,sZ1,sZ2,i64_w,i32_w];rfl
   refine one_ (i:=4) (N:=some 65) #[true,true,true,true,true,false,false,false,false,false,false,false,false,false] rfl rfl (by kernel_rfl) (by decide) (fun K hK=>?_)
   refine goes_ Try.func14 (by kernel_rfl) rfl #[.agg CA] (by rfl) rfl rfl (by (try simp only[List.map_toArray,List.map_cons,List.map_nil]);first | done | rfl) ?_
   refine (hrf.out _ hHeld.1).mono ?_
   rintro e w12 ⟨rfl,hb⟩
   refine ⟨_,rfl,?_⟩
   refine hK.out _ _ ⟨below_step hHeld.1 hb,below_step hHeld.2 hb⟩ (fun hHeld=>?_)
   clear hb
   clear hK K;refine norm_ (a':=?_) ?_ ?_
   rotate_left
   ·show Act.put _ (some 65) _=_
    simp only[Act.put,sZ0,sZ1,sZ2,i64_w,i32_w];rfl
   refine pure_ (i:=5) (N:=some 66) (v:=?_) (a':=?_) #[true,true,true,true,true,true,false,false,false,false,false,false,false,false] rfl rfl (by kernel_rfl) (fun _ _ _ h=>h) (Or.inl ⟨by rfl,?_⟩) ?_ ?_
   rotate_left
   ·intro w'
    refine (exec_bin w' .neq 4 4 _ _ (by rfl) (.bool rr) (.bool rr) _ (by rfl) (by rfl) rfl (hng.out _ _ w') (hne.out w')).trans ?_;with_reducible rfl
   rotate_left
   ·simp only[Act.put,sZ0,sZ1,sZ2,i64_w,i32_w];rfl
   refine pure_ (i:=6) (N:=some 67) (v:=?_) (a':=?_) #[true,true,true,true,true,true,true,false,false,false,false,false,false,false] rfl rfl (by kernel_rfl) (fun _ _ _ h=>h) (Or.inl ⟨by rfl,?_⟩) ?_ ?_
   rotate_left
   ·intro w';go_simp;with_reducible rfl
   rotate_left
   ·simp only[Act.put,sZ0,sZ1,sZ2,i64_w,i32_w];rfl
   refine take_ (i:=7) (N:=some 68) (v:=?_) (a':=?_) #[true,true,true,true,true,true,true,true,false,false,false,false,false,false] rfl rfl (by kernel_rfl) (fun _ _ _ h=>h) (Or.inl ⟨by rfl,?_⟩) hHeld ?_ ?_
   rotate_left
   ·intro w' hS
    refine (exec_load_row w' 28 _ (by rfl) w6.heap.size (by rfl) 28 H (0,0) _ (heap_below f9.out hS.2) Try.underlying28 rfl hHs.out).trans ?_;show Result.ok (Next.value (Value.agg H)) w'=_;with_reducible rfl
   rotate_left
   ·simp only[Act.put,sZ0,sZ1,sZ2,i64_w,i32_w];rfl
   refine take_ (i:=9) (N:=some 70) (v:=?_) (a':=?_) #[true,true,true,true,true,true,true,true,false,true,false,false,false,false] rfl rfl (by kernel_rfl) (fun _ _ _ h=>h) (Or.inl ⟨by rfl,?_⟩) hHeld ?_ ?_
   rotate_left
   ·intro w' hS
    refine (exec_load_row w' 28 _ (by rfl) w.heap.size (by rfl) 28 CA (0,0) _ (heap_below g9.out hS.2) Try.underlying28 rfl hCAs.out).trans ?_;show Result.ok (Next.value (Value.agg CA)) w'=_;with_reducible rfl
   rotate_left
   ·simp only[Act.put,sZ0,sZ1,sZ2,i64_w,i32_w];rfl
   refine one_ (i:=8) (N:=some 69) #[true,true,true,true,true,true,true,true,true,true,false,false,false,false] rfl rfl (by kernel_rfl) (by decide) (fun K hK=>?_)
   refine goes_ Try.func15 (by kernel_rfl) rfl #[.agg H] (by rfl) rfl rfl (by (try simp only[List.map_toArray,List.map_cons,List.map_nil]);first | done | rfl) ?_
   refine (hofH.out _).mono ?_
   rintro e w13 ⟨rfl,hb⟩
   refine ⟨_,rfl,?_⟩
   refine hK.out _ _ ⟨below_step hHeld.1 hb,below_step hHeld.2 hb⟩ (fun hHeld=>?_)
   clear hb
   clear hK K;refine norm_ (a':=?_) ?_ ?_
   rotate_left
   ·show Act.put _ (some 69) _=_
    simp only[Act.put,sZ0,sZ1,sZ2,i64_w,i32_w];rfl
   refine one_ (i:=10) (N:=some 71) #[true,true,true,true,true,true,true,true,true,true,true,false,false,false] rfl rfl (by kernel_rfl) (by decide) (fun K hK=>?_)
   refine goes_ Try.func15 (by kernel_rfl) rfl #[.agg CA] (by rfl) rfl rfl (by (try simp only[List.map_toArray,List.map_cons,List.map_nil]);first | done | rfl) ?_
   refine (hofA.out _).mono ?_
   rintro e w14 ⟨rfl,hb⟩
   refine ⟨_,rfl,?_⟩
   refine hK.out _ _ ⟨below_step hHeld.1 hb,below_step hHeld.2 hb⟩ (fun hHeld=>?_)
   clear hb
   clear hK K;refine norm_ (a':=?_) ?_ ?_
   rotate_left
   ·show Act.put _ (some 71) _=_
    simp only[Act.put,sZ0,sZ1,sZ2,i64_w,i32_w];rfl
   refine one_ (i:=11) (N:=some 72) #[true,true,true,true,true,true,true,true,true,true,true,true,false,false] rfl rfl (by kernel_rfl) (by decide) (fun K hK=>?_)
   refine goes_ Try.func16 (by kernel_rfl) rfl #[.agg H,.agg CA] (by rfl) rfl rfl (by (try simp only[List.map_toArray,List.map_cons,List.map_nil]);first | done | rfl) ?_
   refine (hsmH.out _ hHeld.1 hHeld.2).mono ?_
   rintro e w15 ⟨rfl,hb⟩
   refine ⟨_,rfl,?_⟩
   refine hK.out _ _ ⟨below_step hHeld.1 hb,below_step hHeld.2 hb⟩ (fun hHeld=>?_)
   clear hb
   have b15:=Lib.hid hHeld.1
   have d15:=Lib.hid hHeld.2
   clear hK K;refine norm_ (a':=?_) ?_ ?_
   rotate_left
   ·show Act.put _ (some 72) _=_
    simp only[Act.put,sZ0,sZ1,sZ2,i64_w,i32_w];rfl
   refine pure_ (i:=12) (N:=some 73) (v:=?_) (a':=?_) #[true,true,true,true,true,true,true,true,true,true,true,true,true,false] rfl rfl (by kernel_rfl) (fun _ _ _ h=>h) (Or.inl ⟨by rfl,?_⟩) ?_ ?_
   rotate_left
   ·intro w';go_simp;with_reducible rfl
   rotate_left
   ·simp only[Act.put,sZ0,sZ1,sZ2,i64_w,i32_w];rfl
   refine pure_ (i:=13) (N:=some 74) (v:=?_) (a':=?_) #[true,true,true,true,true,true,true,true,true,true,true,true,true,true] rfl rfl (by kernel_rfl) (fun _ _ _ h=>h) (Or.inl ⟨by rfl,?_⟩) ?_ ?_
   rotate_left
   ·intro w';go_simp;with_reducible rfl
   rotate_left
   ·simp only[Act.put,sZ0,sZ1,sZ2,i64_w,i32_w];rfl
   refine done_ (by kernel_rfl) ?_
   have g15:=Lib.hid (heap_below g9.out d15.out)
   have c15:=Lib.hid (below_step c9.out d15.out)
   clear b9 c9 g9 f9 V9 hofH hsmH hne hng hri d15 b3
   go_wp2_with fail
   go_loopw [11,12] (fun v i wq=>∃ k:Nat,k≤4∧i=.int .i64 k∧wq.ownsRow w15.heap.size 3 1 v (szL r k).length (nums .i64 (szL r k))∧Below w15.heap.size w15 wq) (fun _ i _=>4 - (intOf i).toNat)
   case atStart=>exact ⟨0,by omega,rfl,own_empty w15 w15.heap.size _ _ .i64 rfl (Nat.le_refl _),(Below.refl _ _).alloc (Nat.le_refl _) _⟩
   case round=>
    obtain ⟨k,hk,rfl,hown,hb⟩:=hrel
    obtain ⟨Av,cv,rfl⟩:=own_slice hown
    have hown':=Lib.hid hown
    have hb':=Lib.hid hb
    have hgq:=Lib.hid (heap_below g15.out hb)
    clear hown hb
    by_cases hlt:k<4
    ·have q1:(k:Int)<4:=by omega
     have q2:(0:Int)≤(k:Int):=by omega
     have kw:IntKind.i64.wrap ((k:Int)+1)=(k:Int)+1:=by rw[IntKind.wrap_i64];omega
     have hk1:=Lib.hid hlt
     obtain ⟨d0,d1⟩:=hslt.out _ k hlt hgq.out
     have hln:=Lib.hid (hszl.out k)
     obtain ⟨D,hD⟩:∃ D,D=szL r k:=⟨_,rfl⟩
     have hsucc:=Lib.hid (show szL r (k+1)=D++szOne (r.s k) by rw[hD];exact hsuc.out k)
     rw[← hD] at hown' hln ⊢
     obtain ⟨m,hm⟩:∃ n,n=D.length:=⟨_,rfl⟩
     have hm':=Lib.hid hm
     rw[← hm] at hown' hln ⊢
     obtain ⟨u,hu⟩:∃ u,u=(r.s k).used:=⟨_,rfl⟩
     obtain ⟨sz,hs⟩:∃ u,u=(r.s k).size:=⟨_,rfl⟩
     rw[← hu] at d0
     rw[← hs] at d1
     have hone:=Lib.hid (show szOne (r.s k)=if u=true then [sz] else [] by rw[hu,hs];rfl)
     clear hlt hk hD hm hu hs
     cases u with
     |false=>
      go_wp2_with fail
      refine ⟨⟨k+1,hk1.out,by push_cast;rfl,?_,hb'.out⟩,by have:=hk1.out;simp only[intOf];omega⟩
      rw[hsucc.out,hone.out,if_neg (by decide),List.append_nil,← hm'.out]
      exact hown'.out
     |true=>
      have info3:=info3c
      go_wp2_with (refine print_append_cells w15.heap.size rfl (.tmp 85) (.tmp 91) 42 3 (.int .i64 0) 1 8 rfl Try.underlying42 info3 rfl (by decide) (by decide) (.slice Av m cv) m (nums .i64 D) [.int .i64 sz] rfl rfl rfl (by simp[Value.oneCell']) hown'.out hb'.out hb'.out.size (by have:=hln.out;have:=hk1.out;omega) ?_;intro v1 wz h1 h2 h3 h4;have oz:=Lib.hid h1;have bz:=Lib.hid h2;clear h1 h2 h3 h4)
      refine ⟨⟨k+1,hk1.out,by push_cast;rfl,?_,bz.out⟩,by have:=hk1.out;simp only[intOf];omega⟩
      rw[hsucc.out,hone.out,if_pos rfl,nums_append,List.length_append,← hm'.out]
      exact oz.out
    obtain rfl:k=4:=by omega
    rw[← hSZ'.out] at hown' ⊢
    have b16:=Lib.hid (below_step b15.out hb'.out)
    have c16:=Lib.hid (below_step c15.out hb'.out)
    have oq:=Lib.hid (own_less hown'.out b15.out.size)
    clear hlt hk hown' hb' g15 c15 b15 hslt hsuc hszl hSZ'
    obtain ⟨ns,hns⟩:∃ n,n=SZ.length:=⟨_,rfl⟩
    have hszN:=Lib.hid (fun (W:World) (hW:Below w.heap.size w W)=>show Calls Try.prog 18 #[.agg CA] W (fun e w'=>∃ Y f,e=.returned (.slice Y ns f)∧w'.ownsRow w.heap.size 3 1 (.slice Y ns f) ns (nums .i64 SZ)∧Below W.heap.size W w') from by
     refine (hsz.out W).mono ?_
     rintro e w' ⟨Y,f,rfl,ho,hb⟩
     rw[← hns] at ho ⊢
     exact ⟨Y,f,rfl,own_less ho hW.size,hb⟩)
    rw[← hns] at oq hsi ⊢
    clear hsz hns
    have hcs:(rr=false)∨(rr=true∧np≠32)∨(rr=true∧np=32):=by cases rr <;> simp <;> omega
    rcases hcs with rfl | ⟨rfl,hn⟩ | ⟨rfl,rfl⟩
    ·skip
     have hko:ok=false:=by rw[hok'.out];rfl
     obtain ⟨rfl,rfl⟩:er=2∧n=0:=by
      rcases X3.out with ⟨h1,_⟩ | ⟨_,h1,h2⟩
      ·rw[hko] at h1;exact absurd h1 (by decide)
      exact ⟨h1,h2⟩
     clear X3 hok' hrd hrb hsb hfi hko
     go_wp2_with (first
      |((with_reducible refine wpList_load_row_on ?_ 28 _ rfl w.heap.size rfl 28 CA (0,0) _ (by first | exact hgq.out | exact g17.out | exact g18.out) Try.underlying28 rfl hCAs.out ?_);exact rfl)
      |((with_reducible go_at_call 18);refine (hszN.out _ b16.out).mono ?_;rintro e w17 ⟨Y,f,rfl,hY,hb⟩;have b17:=Lib.hid (below_step b16.out hb);have c17:=Lib.hid (below_step c16.out hb);have g17:=Lib.hid (heap_below hgq.out hb);have oq7:=Lib.hid (own_move oq.out (fun i hi=>hb.block i (oq.out.lt i hi).2));have oy7:=Lib.hid hY;clear hb hY)
      |((with_reducible go_at_call 17);refine (hsi.out _ _ _ _ _ oy7.out oq7.out).mono ?_;rintro e w18 ⟨rfl,hd⟩;have b18:=Lib.hid (below_step b17.out hd.below);have c18:=Lib.hid (below_step c17.out hd.below);have g18:=Lib.hid (heap_below g17.out hd.below);clear hd)
      |((with_reducible go_at_call 15);refine (hofA.out _).mono ?_;rintro e w19 ⟨rfl,hb⟩;have b19:=Lib.hid (below_step b18.out hb);have c19:=Lib.hid (below_step c18.out hb);have g19:=Lib.hid (heap_below g18.out hb);clear hb)
      |((with_reducible go_at_call 14);refine (hrf.out _ b19.out).mono ?_;rintro e w20 ⟨rfl,hb⟩;have b20:=Lib.hid (below_step b19.out hb);have c20:=Lib.hid (below_step c19.out hb);have g20:=Lib.hid (heap_below g19.out hb);clear hb)
      |((with_reducible go_at_call 10);refine (hawk.out _).mono ?_;rintro e w21 ⟨rfl,hb⟩;have b21:=Lib.hid (below_step b20.out hb);clear hb))
     go_ret
     exact ⟨rfl,b21.out⟩
    ·skip
     have hko:ok=false:=by rw[hok'.out];rw[decide_eq_false hn];rfl
     obtain ⟨rfl,rfl⟩:er=2∧n=0:=by
      rcases X3.out with ⟨h1,_⟩ | ⟨_,h1,h2⟩
      ·rw[hko] at h1;exact absurd h1 (by decide)
      exact ⟨h1,h2⟩
     have hn1:((np:Int)=32)=False:=by simp;omega
     have hn2:((np:Int) == 32)=false:=by simp;omega
     have hn3:((np:Int) != 32)=true:=by simp;omega
     clear X3 hok' hrd hrb hsb hfi hko hn
     go_wp2_with (first
      |((with_reducible refine wpList_load_row_on ?_ 28 _ rfl w.heap.size rfl 28 CA (0,0) _ (by first | exact hgq.out | exact g17.out | exact g18.out) Try.underlying28 rfl hCAs.out ?_);exact rfl)
      |((with_reducible go_at_call 18);refine (hszN.out _ b16.out).mono ?_;rintro e w17 ⟨Y,f,rfl,hY,hb⟩;have b17:=Lib.hid (below_step b16.out hb);have c17:=Lib.hid (below_step c16.out hb);have g17:=Lib.hid (heap_below hgq.out hb);have oq7:=Lib.hid (own_move oq.out (fun i hi=>hb.block i (oq.out.lt i hi).2));have oy7:=Lib.hid hY;clear hb hY)
      |((with_reducible go_at_call 17);refine (hsi.out _ _ _ _ _ oy7.out oq7.out).mono ?_;rintro e w18 ⟨rfl,hd⟩;have b18:=Lib.hid (below_step b17.out hd.below);have c18:=Lib.hid (below_step c17.out hd.below);have g18:=Lib.hid (heap_below g17.out hd.below);clear hd)
      |((with_reducible go_at_call 15);refine (hofA.out _).mono ?_;rintro e w19 ⟨rfl,hb⟩;have b19:=Lib.hid (below_step b18.out hb);have c19:=Lib.hid (below_step c18.out hb);have g19:=Lib.hid (heap_below g18.out hb);clear hb)
      |((with_reducible go_at_call 14);refine (hrf.out _ b19.out).mono ?_;rintro e w20 ⟨rfl,hb⟩;have b20:=Lib.hid (below_step b19.out hb);have c20:=Lib.hid (below_step c19.out hb);have g20:=Lib.hid (heap_below g19.out hb);clear hb)
      |((with_reducible go_at_call 10);refine (hawk.out _).mono ?_;rintro e w21 ⟨rfl,hb⟩;have b21:=Lib.hid (below_step b20.out hb);clear hb))
     go_ret
     exact ⟨rfl,b21.out⟩
    have hko:ok=true:=by rw[hok'.out];rfl
    obtain ⟨rfl,rfl,hX1,hX2⟩:er=0∧n=624∧624≤cX∧Kd.C (Kd.int .u8) w3 X 624 L:=by
     rcases X3.out with ⟨_,h1,h2,h3,h4⟩ | ⟨h1,_,_⟩
     ·exact ⟨h1,h2,h3,h4⟩
     rw[hko] at h1;exact absurd h1 (by decide)
    have X1:=Lib.hid hX1
    have X2:=Lib.hid hX2
    have hrd:=Lib.hid (hrd.out hko)
    have hrb:=Lib.hid (hrb.out hko)
    have hsb:=Lib.hid (hsb.out hko)
    have hfi:=Lib.hid (hfi.out hko)
    clear X3 hok' hX1 hX2 hko
    go_wp2_with (first
     |((with_reducible refine wpList_load_row_on ?_ 28 _ rfl w.heap.size rfl 28 CA (0,0) _ (by first | exact hgq.out | exact g17.out | exact g18.out) Try.underlying28 rfl hCAs.out ?_);exact rfl)
     |((with_reducible go_at_call 18);refine (hszN.out _ b16.out).mono ?_;rintro e w17 ⟨Y,f,rfl,hY,hb⟩;have b17:=Lib.hid (below_step b16.out hb);have c17:=Lib.hid (below_step c16.out hb);have g17:=Lib.hid (heap_below hgq.out hb);have oq7:=Lib.hid (own_move oq.out (fun i hi=>hb.block i (oq.out.lt i hi).2));have oy7:=Lib.hid hY;clear hb hY)
     |((with_reducible go_at_call 17);refine (hsi.out _ _ _ _ _ oy7.out oq7.out).mono ?_;rintro e w18 ⟨rfl,hd⟩;have b18:=Lib.hid (below_step b17.out hd.below);have c18:=Lib.hid (below_step c17.out hd.below);have g18:=Lib.hid (heap_below g17.out hd.below);clear hd)
     |((with_reducible go_at_call 15);refine (hofA.out _).mono ?_;rintro e w19 ⟨rfl,hb⟩;have b19:=Lib.hid (below_step b18.out hb);have c19:=Lib.hid (below_step c18.out hb);have g19:=Lib.hid (heap_below g18.out hb);clear hb)
     |((with_reducible go_at_call 14);refine (hrf.out _ b19.out).mono ?_;rintro e w20 ⟨rfl,hb⟩;have b20:=Lib.hid (below_step b19.out hb);have c20:=Lib.hid (below_step c19.out hb);have g20:=Lib.hid (heap_below g19.out hb);clear hb)
     |((with_reducible go_at_call 19);refine (hrd.out X cX X1.out _ (Kd.C_below X2.out c20.out)).mono ?_;rintro e w21 ⟨AX,cY,rfl,hV,hb⟩;have b21:=Lib.hid (below_step b20.out hb);have c21:=Lib.hid (below_step c20.out hb);have g21:=Lib.hid (heap_below g20.out hb);have V21:=Lib.hid hV;obtain ⟨J,hJ⟩:∃ J,J=(rcl r AX cY).toArray:=⟨_,rfl⟩;rw[← hJ];have hJs:=Lib.hid (show (Try.prog.info? 28).map (·.size)=some J.size by rw[hJ];exact szRc);have hJo:=Lib.hid (show J.all (·.oneCell')=true by rw[hJ];exact rcl_one _ _ _);have hJZ:=Lib.hid (show Z.size=J.size by rw[hZ25.out,hJ];rfl);have hJ':=Lib.hid hJ;clear hb hV hJ)
     |(with_reducible refine wpList_store_row rfl 28 _ _ rfl w21.heap.size J rfl rfl 28 Z (heap_alloc_last _ _) hJs.out hJZ.out hJo.out ?_;have bx22:=Lib.hid (below_setRow ((Below.refl w21.heap.size w21).alloc (Nat.le_refl _) (.cells Z 28 (0,0))) (Nat.le_refl _) J);have bs22:=Lib.hid (show w21.heap.size<((w21.alloc (.cells Z 28 (0,0))).setRow w21.heap.size J).heap.size by simp[World.setRow]);have j22:=Lib.hid (setRow_heap (w21.alloc (.cells Z 28 (0,0))) w21.heap.size Z J 28 (0,0) (heap_alloc_last _ _));generalize (w21.alloc (.cells Z 28 (0,0))).setRow w21.heap.size J=w22 at *;have b22:=Lib.hid (below_step b21.out bx22.out);have c22:=Lib.hid (below_step c21.out bx22.out);have g22:=Lib.hid (heap_below g21.out bx22.out);have V22:=Lib.hid (V21.out.below bx22.out)))
    have hofJ:=Lib.hid (fun (W:World)=>hof.out AX cY W)
    have hsmJ:=Lib.hid (fun (W:World) (h1:Below w.heap.size w W) (h9:Below w22.heap.size w22 W)=>hsm.out AX cY W h1 (V22.out.below h9))
    rw[← hJ'.out] at hofJ hsmJ
    have X22:=Lib.hid (Kd.C_below X2.out c22.out)
    clear hgq g17 g18 g19 g20 g21 b16 b17 b18 b19 b20 b21 c16 c17 c18 c19 c20 c21 c22 X2 hrd hsi hszN oq oq7 oy7 hof hsm V21 V22 bx22 bs22 hJo hJZ
    refine start_ (n:=30) (S:=fun w'=>Below w.heap.size w w'∧Below w22.heap.size w22 w') (ds:=[]) #[false,false,false,false,false,false,false,false,false,false,false,false,false,false,false,false,false,false,false,false,false,false,false,false,false,false,false,false,false,false] (by kernel_rfl) rfl rfl (by exact ⟨below_drew b22.out,below_drew (Below.refl _ _)⟩) (fun hHeld=>?_)
    refine pure_ (i:=0) (N:=some 122) (v:=?_) (a':=?_) #[true,false,false,false,false,false,false,false,false,false,false,false,false,false,false,false,false,false,false,false,false,false,false,false,false,false,false,false,false,false] rfl rfl (by kernel_rfl) (fun _ _ _ h=>h) (Or.inl ⟨by rfl,?_⟩) ?_ ?_
    rotate_left
    ·intro w';go_simp;with_reducible rfl
    rotate_left
    ·simp only[Act.put,sZ0,sZ1,sZ2,i64_w,i32_w];rfl
    refine pure_ (i:=1) (N:=some 123) (v:=?_) (a':=?_) #[true,true,false,false,false,false,false,false,false,false,false,false,false,false,false,false,false,false,false,false,false,false,false,false,false,false,false,false,false,false] rfl rfl (by kernel_rfl) (fun _ _ _ h=>h) (Or.inl ⟨by rfl,?_⟩) ?_ ?_
    rotate_left
    ·intro w';go_simp;with_reducible rfl
    rotate_left
    ·simp only[Act.put,sZ0,sZ1,sZ2,i64_w,i32_w];rfl
    refine pure_ (i:=2) (N:=some 124) (v:=?_) (a':=?_) #[true,true,true,false,false,false,false,false,false,false,false,false,false,false,false,false,false,false,false,false,false,false,false,false,false,false,false,false,false,false] rfl rfl (by kernel_rfl) (fun _ _ _ h=>h) (Or.inl ⟨by rfl,?_⟩) ?_ ?_
    rotate_left
    ·intro w';go_simp;with_reducible rfl
    rotate_left
    ·simp only[Act.put,sZ0,sZ1,sZ2,i64_w,i32_w];rfl
    refine pure_ (i:=3) (N:=some 125) (v:=?_) (a':=?_) #[true,true,true,true,false,false,false,false,false,false,false,false,false,false,false,false,false,false,false,false,false,false,false,false,false,false,false,false,false,false] rfl rfl (by kernel_rfl) (fun _ _ _ h=>h) (Or.inl ⟨by rfl,?_⟩) ?_ ?_
    rotate_left
    ·intro w';go_simp;with_reducible rfl
    rotate_left
    ·simp only[Act.put,sZ0,sZ1,sZ2,i64_w,i32_w];rfl
    refine take_ (i:=4) (N:=some 126) (v:=?_) (a':=?_) #[true,true,true,true,true,false,false,false,false,false,false,false,false,false,false,false,false,false,false,false,false,false,false,false,false,false,false,false,false,false] rfl rfl (by kernel_rfl) (fun _ _ _ h=>h) (Or.inl ⟨by rfl,?_⟩) hHeld ?_ ?_
    rotate_left
    ·intro w' hS
     refine (exec_load_row w' 28 _ (by rfl) w.heap.size (by rfl) 28 CA (0,0) _ (heap_below g22.out hS.2) Try.underlying28 rfl hCAs.out).trans ?_;show Result.ok (Next.value (Value.agg CA)) w'=_;with_reducible rfl
    rotate_left
    ·simp only[Act.put,sZ0,sZ1,sZ2,i64_w,i32_w];rfl
    refine pure_ (i:=6) (N:=some 128) (v:=?_) (a':=?_) #[true,true,true,true,true,false,true,false,false,false,false,false,false,false,false,false,false,false,false,false,false,false,false,false,false,false,false,false,false,false] rfl rfl (by kernel_rfl) (fun _ _ _ h=>h) (Or.inl ⟨by rfl,?_⟩) ?_ ?_
    rotate_left
    ·intro w';go_simp;with_reducible rfl
    rotate_left
    ·simp only[Act.put,sZ0,sZ1,sZ2,i64_w,i32_w];rfl
    refine one_ (i:=5) (N:=some 127) #[true,true,true,true,true,true,true,false,false,false,false,false,false,false,false,false,false,false,false,false,false,false,false,false,false,false,false,false,false,false] rfl rfl (by kernel_rfl) (by decide) (fun K hK=>?_)
    refine goes_ Try.func15 (by kernel_rfl) rfl #[.agg CA] (by rfl) rfl rfl (by (try simp only[List.map_toArray,List.map_cons,List.map_nil]);first | done | rfl) ?_
    refine (hofA.out _).mono ?_
    rintro e w23 ⟨rfl,hb⟩
    refine ⟨_,rfl,?_⟩
    refine hK.out _ _ ⟨below_step hHeld.1 hb,below_step hHeld.2 hb⟩ (fun hHeld=>?_)
    clear hb
    clear hK K;refine norm_ (a':=?_) ?_ ?_
    rotate_left
    ·show Act.put _ (some 127) _=_
     simp only[Act.put,sZ0,sZ1,sZ2,i64_w,i32_w];rfl
    refine one_ (i:=7) (N:=some 129) #[true,true,true,true,true,true,true,true,false,false,false,false,false,false,false,false,false,false,false,false,false,false,false,false,false,false,false,false,false,false] rfl rfl (by kernel_rfl) (by decide) (fun K hK=>?_)
    refine goes_ Try.func21 (by kernel_rfl) rfl #[.agg CA,.slice KA 32 kc] (by rfl) rfl rfl (by (try simp only[List.map_toArray,List.map_cons,List.map_nil]);first | done | rfl) ?_
    refine (hrb.out _ hHeld.1).mono ?_
    rintro e w24 ⟨Y,f,rfl,hf,hY,hb⟩
    refine ⟨_,rfl,?_⟩
    have f24:=Lib.hid hf
    have Y24:=Lib.hid hY
    refine hK.out _ _ ⟨below_step hHeld.1 hb,below_step hHeld.2 hb⟩ (fun hHeld=>?_)
    clear hb hf hY
    clear hK K;refine norm_ (a':=?_) ?_ ?_
    rotate_left
    ·show Act.put _ (some 129) _=_
     simp only[Act.put,sZ0,sZ1,sZ2,i64_w,i32_w];rfl
    refine one_ (i:=8) (N:=some 130) #[true,true,true,true,true,true,true,true,true,false,false,false,false,false,false,false,false,false,false,false,false,false,false,false,false,false,false,false,false,false] rfl rfl (by kernel_rfl) (by decide) (fun K hK=>?_)
    refine goes_ Try.func20 (by kernel_rfl) rfl #[.slice X 624 cX,.slice Y 624 f] (by rfl) rfl rfl (by (try simp only[List.map_toArray,List.map_cons,List.map_nil]);first | done | rfl) ?_
    refine (hsb.out _ X cX Y f (Kd.C_below X22.out hHeld.2) X1.out Y24.out f24.out).mono ?_
    rintro e w25 ⟨rfl,hd⟩
    refine ⟨_,rfl,?_⟩
    refine hK.out _ _ ⟨below_step hHeld.1 hd.below,below_step hHeld.2 hd.below⟩ (fun hHeld=>?_)
    clear hd
    clear hK K;refine norm_ (a':=?_) ?_ ?_
    rotate_left
    ·show Act.put _ (some 130) _=_
     simp only[Act.put,sZ0,sZ1,sZ2,i64_w,i32_w];rfl
    refine pure_ (i:=9) (N:=some 131) (v:=?_) (a':=?_) #[true,true,true,true,true,true,true,true,true,true,false,false,false,false,false,false,false,false,false,false,false,false,false,false,false,false,false,false,false,false] rfl rfl (by kernel_rfl) (fun _ _ _ h=>h) (Or.inl ⟨by rfl,?_⟩) ?_ ?_
    rotate_left
    ·intro w';go_simp;with_reducible rfl
    rotate_left
    ·simp only[Act.put,sZ0,sZ1,sZ2,i64_w,i32_w];rfl
    refine pure_ (i:=10) (N:=some 132) (v:=?_) (a':=?_) #[true,true,true,true,true,true,true,true,true,true,true,false,false,false,false,false,false,false,false,false,false,false,false,false,false,false,false,false,false,false] rfl rfl (by kernel_rfl) (fun _ _ _ h=>h) (Or.inl ⟨by rfl,?_⟩) ?_ ?_
    rotate_left
    ·intro w';go_simp;with_reducible rfl
    rotate_left
    ·simp only[Act.put,sZ0,sZ1,sZ2,i64_w,i32_w];rfl
    refine pure_ (i:=11) (N:=some 133) (v:=?_) (a':=?_) #[true,true,true,true,true,true,true,true,true,true,true,true,false,false,false,false,false,false,false,false,false,false,false,false,false,false,false,false,false,false] rfl rfl (by kernel_rfl) (fun _ _ _ h=>h) (Or.inl ⟨by rfl,?_⟩) ?_ ?_
    rotate_left
    ·intro w';go_simp;with_reducible rfl
    rotate_left
    ·simp only[Act.put,sZ0,sZ1,sZ2,i64_w,i32_w];rfl
    refine pure_ (i:=12) (N:=some 134) (v:=?_) (a':=?_) #[true,true,true,true,true,true,true,true,true,true,true,true,true,false,false,false,false,false,false,false,false,false,false,false,false,false,false,false,false,false] rfl rfl (by kernel_rfl) (fun _ _ _ h=>h) (Or.inl ⟨by rfl,?_⟩) ?_ ?_
    rotate_left
    ·intro w';go_simp;with_reducible rfl
    rotate_left
    ·simp only[Act.put,sZ0,sZ1,sZ2,i64_w,i32_w];rfl
    refine pure_ (i:=13) (N:=some 135) (v:=?_) (a':=?_) #[true,true,true,true,true,true,true,true,true,true,true,true,true,true,false,false,false,false,false,false,false,false,false,false,false,false,false,false,false,false] rfl rfl (by kernel_rfl) (fun _ _ _ h=>h) (Or.inl ⟨by rfl,?_⟩) ?_ ?_
    rotate_left
    ·intro w';go_simp;with_reducible rfl
    rotate_left
    ·simp only[Act.put,sZ0,sZ1,sZ2,i64_w,i32_w];rfl
    refine pure_ (i:=14) (N:=some 136) (v:=?_) (a':=?_) #[true,true,true,true,true,true,true,true,true,true,true,true,true,true,true,false,false,false,false,false,false,false,false,false,false,false,false,false,false,false] rfl rfl (by kernel_rfl) (fun _ _ _ h=>h) (Or.inl ⟨by rfl,?_⟩) ?_ ?_
    rotate_left
    ·intro w';go_simp;with_reducible rfl
    rotate_left
    ·simp only[Act.put,sZ0,sZ1,sZ2,i64_w,i32_w];rfl
    refine take_ (i:=15) (N:=some 137) (v:=?_) (a':=?_) #[true,true,true,true,true,true,true,true,true,true,true,true,true,true,true,true,false,false,false,false,false,false,false,false,false,false,false,false,false,false] rfl rfl (by kernel_rfl) (fun _ _ _ h=>h) (Or.inl ⟨by rfl,?_⟩) hHeld ?_ ?_
    rotate_left
    ·intro w' hS
     refine (exec_load_row w' 28 _ (by rfl) w21.heap.size (by rfl) 28 J (0,0) _ (heap_below j22.out hS.2) Try.underlying28 rfl hJs.out).trans ?_;show Result.ok (Next.value (Value.agg J)) w'=_;with_reducible rfl
    rotate_left
    ·simp only[Act.put,sZ0,sZ1,sZ2,i64_w,i32_w];rfl
    refine take_ (i:=17) (N:=some 139) (v:=?_) (a':=?_) #[true,true,true,true,true,true,true,true,true,true,true,true,true,true,true,true,false,true,false,false,false,false,false,false,false,false,false,false,false,false] rfl rfl (by kernel_rfl) (fun _ _ _ h=>h) (Or.inl ⟨by rfl,?_⟩) hHeld ?_ ?_
    rotate_left
    ·intro w' hS
     refine (exec_load_row w' 28 _ (by rfl) w.heap.size (by rfl) 28 CA (0,0) _ (heap_below g22.out hS.2) Try.underlying28 rfl hCAs.out).trans ?_;show Result.ok (Next.value (Value.agg CA)) w'=_;with_reducible rfl
    rotate_left
    ·simp only[Act.put,sZ0,sZ1,sZ2,i64_w,i32_w];rfl
    refine one_ (i:=16) (N:=some 138) #[true,true,true,true,true,true,true,true,true,true,true,true,true,true,true,true,true,true,false,false,false,false,false,false,false,false,false,false,false,false] rfl rfl (by kernel_rfl) (by decide) (fun K hK=>?_)
    refine goes_ Try.func15 (by kernel_rfl) rfl #[.agg J] (by rfl) rfl rfl (by (try simp only[List.map_toArray,List.map_cons,List.map_nil]);first | done | rfl) ?_
    refine (hofJ.out _).mono ?_
    rintro e w26 ⟨rfl,hb⟩
    refine ⟨_,rfl,?_⟩
    refine hK.out _ _ ⟨below_step hHeld.1 hb,below_step hHeld.2 hb⟩ (fun hHeld=>?_)
    clear hb
    clear hK K;refine norm_ (a':=?_) ?_ ?_
    rotate_left
    ·show Act.put _ (some 138) _=_
     simp only[Act.put,sZ0,sZ1,sZ2,i64_w,i32_w];rfl
    refine one_ (i:=18) (N:=some 140) #[true,true,true,true,true,true,true,true,true,true,true,true,true,true,true,true,true,true,true,false,false,false,false,false,false,false,false,false,false,false] rfl rfl (by kernel_rfl) (by decide) (fun K hK=>?_)
    refine goes_ Try.func15 (by kernel_rfl) rfl #[.agg CA] (by rfl) rfl rfl (by (try simp only[List.map_toArray,List.map_cons,List.map_nil]);first | done | rfl) ?_
    refine (hofA.out _).mono ?_
    rintro e w27 ⟨rfl,hb⟩
    refine ⟨_,rfl,?_⟩
    refine hK.out _ _ ⟨below_step hHeld.1 hb,below_step hHeld.2 hb⟩ (fun hHeld=>?_)
    clear hb
    clear hK K;refine norm_ (a':=?_) ?_ ?_
    rotate_left
    ·show Act.put _ (some 140) _=_
     simp only[Act.put,sZ0,sZ1,sZ2,i64_w,i32_w];rfl
    refine one_ (i:=19) (N:=some 141) #[true,true,true,true,true,true,true,true,true,true,true,true,true,true,true,true,true,true,true,true,false,false,false,false,false,false,false,false,false,false] rfl rfl (by kernel_rfl) (by decide) (fun K hK=>?_)
    refine goes_ Try.func16 (by kernel_rfl) rfl #[.agg J,.agg CA] (by rfl) rfl rfl (by (try simp only[List.map_toArray,List.map_cons,List.map_nil]);first | done | rfl) ?_
    refine (hsmJ.out _ hHeld.1 hHeld.2).mono ?_
    rintro e w28 ⟨rfl,hb⟩
    refine ⟨_,rfl,?_⟩
    refine hK.out _ _ ⟨below_step hHeld.1 hb,below_step hHeld.2 hb⟩ (fun hHeld=>?_)
    clear hb
    clear hK K;refine norm_ (a':=?_) ?_ ?_
    rotate_left
    ·show Act.put _ (some 141) _=_
     simp only[Act.put,sZ0,sZ1,sZ2,i64_w,i32_w];rfl
    refine pure_ (i:=20) (N:=some 142) (v:=?_) (a':=?_) #[true,true,true,true,true,true,true,true,true,true,true,true,true,true,true,true,true,true,true,true,true,false,false,false,false,false,false,false,false,false] rfl rfl (by kernel_rfl) (fun _ _ _ h=>h) (Or.inl ⟨by rfl,?_⟩) ?_ ?_
    rotate_left
    ·intro w';go_simp;with_reducible rfl
    rotate_left
    ·simp only[Act.put,sZ0,sZ1,sZ2,i64_w,i32_w];rfl
    refine pure_ (i:=21) (N:=some 143) (v:=?_) (a':=?_) #[true,true,true,true,true,true,true,true,true,true,true,true,true,true,true,true,true,true,true,true,true,true,false,false,false,false,false,false,false,false] rfl rfl (by kernel_rfl) (fun _ _ _ h=>h) (Or.inl ⟨by rfl,?_⟩) ?_ ?_
    rotate_left
    ·intro w';go_simp;with_reducible rfl
    rotate_left
    ·simp only[Act.put,sZ0,sZ1,sZ2,i64_w,i32_w];rfl
    refine pure_ (i:=22) (N:=some 144) (v:=?_) (a':=?_) #[true,true,true,true,true,true,true,true,true,true,true,true,true,true,true,true,true,true,true,true,true,true,true,false,false,false,false,false,false,false] rfl rfl (by kernel_rfl) (fun _ _ _ h=>h) (Or.inl ⟨by rfl,?_⟩) ?_ ?_
    rotate_left
    ·intro w';go_simp;with_reducible rfl
    rotate_left
    ·simp only[Act.put,sZ0,sZ1,sZ2,i64_w,i32_w];rfl
    refine pure_ (i:=23) (N:=some 145) (v:=?_) (a':=?_) #[true,true,true,true,true,true,true,true,true,true,true,true,true,true,true,true,true,true,true,true,true,true,true,true,false,false,false,false,false,false] rfl rfl (by kernel_rfl) (fun _ _ _ h=>h) (Or.inl ⟨by rfl,?_⟩) ?_ ?_
    rotate_left
    ·intro w';go_simp;with_reducible rfl
    rotate_left
    ·simp only[Act.put,sZ0,sZ1,sZ2,i64_w,i32_w];rfl
    refine one_ (i:=24) (N:=some 146) #[true,true,true,true,true,true,true,true,true,true,true,true,true,true,true,true,true,true,true,true,true,true,true,true,true,false,false,false,false,false] rfl rfl (by kernel_rfl) (by decide) (fun K hK=>?_)
    refine goes_ Try.func22 (by kernel_rfl) rfl #[.slice X 624 cX,.slice KA 32 kc] (by rfl) rfl rfl (by (try simp only[List.map_toArray,List.map_cons,List.map_nil]);first | done | rfl) ?_
    refine (hfi.out _ hHeld.1 X cX (Kd.C_below X22.out hHeld.2) X1.out).mono ?_
    rintro e w29 ⟨rfl,hb⟩
    refine ⟨_,rfl,?_⟩
    refine hK.out _ _ ⟨below_step hHeld.1 hb,below_step hHeld.2 hb⟩ (fun hHeld=>?_)
    clear hb
    clear hK K;refine norm_ (a':=?_) ?_ ?_
    rotate_left
    ·show Act.put _ (some 146) _=_
     simp only[Act.put,sZ0,sZ1,sZ2,i64_w,i32_w];rfl
    refine pure_ (i:=25) (N:=some 147) (v:=?_) (a':=?_) #[true,true,true,true,true,true,true,true,true,true,true,true,true,true,true,true,true,true,true,true,true,true,true,true,true,true,false,false,false,false] rfl rfl (by kernel_rfl) (fun _ _ _ h=>h) (Or.inl ⟨by rfl,?_⟩) ?_ ?_
    rotate_left
    ·intro w';go_simp;with_reducible rfl
    rotate_left
    ·simp only[Act.put,sZ0,sZ1,sZ2,i64_w,i32_w];rfl
    refine pure_ (i:=26) (N:=some 148) (v:=?_) (a':=?_) #[true,true,true,true,true,true,true,true,true,true,true,true,true,true,true,true,true,true,true,true,true,true,true,true,true,true,true,false,false,false] rfl rfl (by kernel_rfl) (fun _ _ _ h=>h) (Or.inl ⟨by rfl,?_⟩) ?_ ?_
    rotate_left
    ·intro w';go_simp;with_reducible rfl
    rotate_left
    ·simp only[Act.put,sZ0,sZ1,sZ2,i64_w,i32_w];rfl
    refine one_ (i:=27) (N:=some 149) #[true,true,true,true,true,true,true,true,true,true,true,true,true,true,true,true,true,true,true,true,true,true,true,true,true,true,true,true,false,false] rfl rfl (by kernel_rfl) (by decide) (fun K hK=>?_)
    refine goes_ Try.func10 (by kernel_rfl) rfl #[] (by rfl) rfl rfl (by (try simp only[List.map_toArray,List.map_cons,List.map_nil]);first | done | rfl) ?_
    refine (hawk.out _).mono ?_
    rintro e w30 ⟨rfl,hb⟩
    refine ⟨_,rfl,?_⟩
    refine hK.out _ _ ⟨below_step hHeld.1 hb,below_step hHeld.2 hb⟩ (fun hHeld=>?_)
    clear hb
    have b30:=Lib.hid hHeld.1
    clear hK K;refine norm_ (a':=?_) ?_ ?_
    rotate_left
    ·show Act.put _ (some 149) _=_
     simp only[Act.put,sZ0,sZ1,sZ2,i64_w,i32_w];rfl
    refine pure_ (i:=28) (N:=some 150) (v:=?_) (a':=?_) #[true,true,true,true,true,true,true,true,true,true,true,true,true,true,true,true,true,true,true,true,true,true,true,true,true,true,true,true,true,false] rfl rfl (by kernel_rfl) (fun _ _ _ h=>h) (Or.inl ⟨by rfl,?_⟩) ?_ ?_
    rotate_left
    ·intro w';go_simp;with_reducible rfl
    rotate_left
    ·simp only[Act.put,sZ0,sZ1,sZ2,i64_w,i32_w];rfl
    refine pure_ (i:=29) (N:=some 4) (v:=?_) (a':=?_) #[true,true,true,true,true,true,true,true,true,true,true,true,true,true,true,true,true,true,true,true,true,true,true,true,true,true,true,true,true,true] rfl rfl (by kernel_rfl) (fun _ _ _ h=>h) (Or.inl ⟨by rfl,?_⟩) ?_ ?_
    rotate_left
    ·intro w';go_simp;with_reducible rfl
    rotate_left
    ·simp only[Act.put,sZ0,sZ1,sZ2,i64_w,i32_w];rfl
    refine done_ (by kernel_rfl) ?_
    go_wp2_with fail
    go_ret
    exact ⟨rfl,b30.out⟩
end Go.Proofs.Ytbajioiiaamokaa.Own
