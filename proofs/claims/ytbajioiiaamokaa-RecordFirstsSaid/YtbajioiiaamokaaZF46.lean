/- OpA, pruned (slim.py). -/
import Derived.Test.YtbajioiiaamokaaZF45
namespace Go.Proofs.Ytbajioiiaamokaa.Own
open Go.RowKit Go.Proofs.Ytbajioiiaamokaa.Arr Go.Proofs.Ytbajioiiaamokaa.QB Go.Proofs.YtbajioiiaamokaaW.PrintWords Go.Proofs.YtbajioiiaamokaaW.PrintLast Go.Proofs.YtbajioiiaamokaaW.PrintMore
set_option linter.unusedVariables false
set_option linter.unusedSimpArgs false
attribute [-go_sem] Instr.build
theorem rcRead_head {l:List Int} {R:RcT} (h:rcRead l=some R):R=rcHead l:=by
 unfold rcRead at h
 split at h
 ·injection h with h;exact h.symm
 cases h
theorem rcRead_salt {l:List Int} {R:RcT} (h:rcRead l=some R) (hl:l.length=624):R.salt.length=16:=by
 rw[rcRead_head h]
 show ((l.take 32).drop 16).length=16
 rw[List.length_drop,List.length_take];omega
theorem rcRead_check {l:List Int} {R:RcT} (h:rcRead l=some R) (hl:l.length=624):R.check.length=32:=by
 rw[rcRead_head h]
 show ((l.take 80).drop 48).length=32
 rw[List.length_drop,List.length_take];omega
theorem rcRead_byt {l:List Int} {R:RcT} (h:rcRead l=some R) (hb:∀ x ∈ l,byt x):(∀ x ∈ R.salt,byt x)∧(∀ x ∈ R.check,byt x):=by
 rw[rcRead_head h]
 exact ⟨fun x hx=>hb x (List.mem_of_mem_take (List.mem_of_mem_drop hx)),fun x hx=>hb x (List.mem_of_mem_take (List.mem_of_mem_drop hx))⟩
set_option maxHeartbeats 4000000 in
set_option maxRecDepth 100000 in
theorem recOpen_ok (A:Option Addr) (c:Nat) (l:List Int) (A1:Option Addr) (c1:Nat) (pass:List Int) (r:Int) (w:World) (hC:Kd.C (Kd.int .u8) w A l.length l) (hc:l.length≤c) (hl:l.length=624) (hb:∀ x ∈ l,byt x) (R:RcT) (ho:rcRead l=some R) (hC1:Kd.C (Kd.int .u8) w A1 pass.length pass) (hc1:pass.length≤c1) (hr:rightB pass.length r=true) (hk:checkD pass R.salt r=R.check) (hf:fitsB l (keyD pass R.salt r)=true) :
  Calls Try.prog 36 #[.slice A l.length c,.slice A1 pass.length c1,.int .i64 r] w fun e w'=>∃ AX cX X1 d1 X2 d2,e=.returned (.tuple #[.agg (rcl R AX cX).toArray,.slice X1 32 d1,.slice X2 32 d2,.int .i64 0])∧RcV w' R AX cX∧32≤d1∧32≤d2∧Kd.C (Kd.int .u8) w' X1 32 (kekD pass R.salt r)∧Kd.C (Kd.int .u8) w' X2 32 (keyD pass R.salt r)∧Below w.heap.size w w':=by
 obtain ⟨hz,-⟩:=zero_of_info (P:=Try.prog) infoRc
 obtain ⟨Z,hZ⟩:∃ Z:Array Value,Z=zRc:=⟨_,rfl⟩
 have hZb:∀ (W:World),(Instr.build 28 #[]).run Try.prog W=.ok (.agg Z) W:=fun W=>by rw[hZ];exact run_build W _ _ _ builtRc0
 have hZs:=Lib.hid (show (Try.prog.info? 28).map (·.size)=some Z.size by rw[hZ];exact szRc)
 have hZo:=Lib.hid (show Z.all (·.oneCell')=true by rw[hZ];exact rcl_one _ _ _)
 have hZn:=Lib.hid (show ∀ v ∈ Z,∀ x,v ≠ .int .u8 x by rw[hZ];exact zRc_not)
 have hZ25:=Lib.hid (show Z.size=25 by rw[hZ];rfl)
 rw[← hZ] at hz
 have hs16:=rcRead_salt ho hl
 have hk32:=rcRead_check ho hl
 have hread:=Lib.hid (fun (W:World) (hW:Below w.heap.size w W)=>show Calls Try.prog 19 #[.slice A 624 c] W (fun e w'=>∃ AX cX,e=.returned (.tuple #[.agg (rcl R AX cX).toArray,.int .i64 0])∧RcO W.heap.size w' R AX cX∧Below W.heap.size W w') from by
  have:=recRead_any A c l hl (by omega) hb W (Kd.C_below hC hW)
  rw[ho] at this
  exact this)
 have hcel:=Lib.hid (fun (W:World) (AX:Nat→Option Addr) (cX:Nat→Nat) (G:Array Value) (hG:G=(rcl R AX cX).toArray) (g:Nat) (h:W.heap[g]?=some (.cells G 28 (0,0)))=>show W.cell? ⟨g,2,none⟩=some (.slice (AX 0) 16 (cX 0))∧W.cell? ⟨g,4,none⟩=some (.slice (AX 1) 32 (cX 1)) from by
  obtain ⟨-,-,q2,-,q4⟩:=rc_head (r:=R) (A:=AX) (c:=cX) (by rw[hG] at h;exact h)
  rw[hs16] at q2
  rw[hk32] at q4
  exact ⟨q2,q4⟩)
 have hkeys:=Lib.hid (fun (W:World) (hW:Below w.heap.size w W) (AX:Nat→Option Addr) (cX:Nat→Nat) (hV:RcV W R AX cX)=>show Calls Try.prog 68 #[.slice A1 pass.length c1,.slice (AX 0) 16 (cX 0),.int .i64 r] W (fun e w'=>∃ X1 d1 X2 d2 X3 d3,e=.returned (.tuple #[.slice X1 32 d1,.slice X2 32 d2,.slice X3 32 d3,.int .i64 0])∧32≤d1∧32≤d2∧32≤d3∧Kd.C (Kd.int .u8) w' X1 32 (kekD pass R.salt r)∧Kd.C (Kd.int .u8) w' X2 32 (keyD pass R.salt r)∧Kd.C (Kd.int .u8) w' X3 32 (checkD pass R.salt r)∧Below W.heap.size W w') from by
  have:=Keys96 A1 c1 pass (AX 0) (cX 0) R.salt hc1 (hV 0 (by omega)).2 (by omega) r hr _ rfl W (Kd.C_below hC1 hW) (hV 0 (by omega)).1
  rw[hs16] at this
  exact this)
 have hsame:=Lib.hid (fun (W:World) (AX:Nat→Option Addr) (cX:Nat→Nat) (hV:RcV W R AX cX) (X:Option Addr) (d:Nat) (hX:Kd.C (Kd.int .u8) W X 32 (checkD pass R.salt r)) (hd:32≤d)=>show Calls Try.prog 48 #[.slice X 32 d,.slice (AX 1) 32 (cX 1)] W _ from by
  have:=octet_Same.calls _ X d (checkD pass R.salt r) (AX 1) (cX 1) R.check _ W (by rw[checkD_len];exact hX) (by rw[checkD_len];exact hd) (hV 1 (by omega)).1 (hV 1 (by omega)).2 (octSame_eq (checkD pass R.salt r) R.check (by rw[checkD_len];omega) (fun x hx=>byt_bytesD _ _ _ _ x (List.mem_of_mem_drop (List.mem_of_mem_take hx))) (rcRead_byt ho hb).2 0)
  rw[checkD_len,hk32] at this
  exact this)
 have hfits:=Lib.hid (fun (W:World) (hW:Below w.heap.size w W) (X:Option Addr) (d:Nat) (hX:Kd.C (Kd.int .u8) W X 32 (keyD pass R.salt r))=>show Calls Try.prog 22 #[.slice A 624 c,.slice X 32 d] W _ from by
  have:=recFits_any A c l X d (keyD pass R.salt r) W (Kd.C_below hC hW) hc (by rw[keyD_len];exact hX) hl (keyD_len _ _ _) hb
  rw[hl,keyD_len] at this
  exact this)
 rw[decide_eq_true hk] at hsame
 rw[hf] at hfits
 have l1:=Lib.hid (kekD_len pass R.salt r)
 have l2:=Lib.hid (keyD_len pass R.salt r)
 rw[hl]
 obtain ⟨W0,hW0⟩:∃ W1,W1=w.alloc (.cells Z 28 (0,0)):=⟨_,rfl⟩
 have a0:=Lib.hid (show W0.heap[w.heap.size]?=some (.cells Z 28 (0,0)) by rw[hW0];exact heap_alloc_last _ _)
 have b0:=Lib.hid (show Below w.heap.size w W0 by rw[hW0];exact (Below.refl _ _).alloc (Nat.le_refl _) _)
 obtain ⟨np,hnp⟩:∃ n,n=pass.length:=⟨_,rfl⟩
 rw[← hnp] at hkeys ⊢
 clear hZ hnp hC hc hl hb ho hC1 hc1 hr hs16 hk32 hk hf
 go_enter Try.func36,Try.ntmps36
 go_upto_region 1 with fail
 rw[← hW0]
 clear hW0
 go_wp2_with (first
  |((with_reducible go_at_call 19);refine (hread.out _ b0.out).mono ?_;rintro e w1 ⟨AX,cX,rfl,hO,hb⟩;have b1:=Lib.hid (below_step b0.out hb);have a1:=Lib.hid (heap_below a0.out hb);have V1:=Lib.hid hO.v;obtain ⟨G,hG⟩:∃ G,G=(rcl R AX cX).toArray:=⟨_,rfl⟩;rw[← hG];have hGs:=Lib.hid (show (Try.prog.info? 28).map (·.size)=some G.size by rw[hG];exact szRc);have hGo:=Lib.hid (show G.all (·.oneCell')=true by rw[hG];exact rcl_one _ _ _);have hGZ:=Lib.hid (show Z.size=G.size by rw[hZ25.out,hG];rfl);have hG':=Lib.hid hG;clear hb hO hG)
  |(with_reducible refine wpList_store_row rfl 28 _ _ rfl w1.heap.size G rfl rfl 28 Z (heap_alloc_last _ _) hGs.out hGZ.out hGo.out ?_;have bx2:=Lib.hid (below_setRow ((Below.refl w1.heap.size w1).alloc (Nat.le_refl _) (.cells Z 28 (0,0))) (Nat.le_refl _) G);have g2:=Lib.hid (setRow_heap (w1.alloc (.cells Z 28 (0,0))) w1.heap.size Z G 28 (0,0) (heap_alloc_last _ _));generalize (w1.alloc (.cells Z 28 (0,0))).setRow w1.heap.size G=w2 at *;have b2:=Lib.hid (below_step b1.out bx2.out);have a2:=Lib.hid (heap_below a1.out bx2.out);have V2:=Lib.hid (V1.out.below bx2.out);have q2:=(hcel.out _ _ _ _ hG'.out _ g2.out).1)
  |((with_reducible go_at_call 68);refine (hkeys.out _ b2.out AX cX V2.out).mono ?_;rintro e w3 ⟨X1,d1,X2,d2,X3,d3,rfl,k1,k2,k3,C1,C2,C3,hb⟩;have b3:=Lib.hid (below_step b2.out hb);have a3:=Lib.hid (heap_below a2.out hb);have g3:=Lib.hid (heap_below g2.out hb);have V3:=Lib.hid (V2.out.below hb);have K1:=Lib.hid C1;have K2:=Lib.hid C2;have K3:=Lib.hid C3;have d1':=Lib.hid k1;have d2':=Lib.hid k2;have d3':=Lib.hid k3;have q3:=(hcel.out _ _ _ _ hG'.out _ g3.out).2;clear hb C1 C2 C3 k1 k2 k3 q2)
  |((with_reducible go_at_call 48);refine (hsame.out _ AX cX V3.out X3 d3 K3.out d3'.out).mono ?_;rintro e w4 ⟨rfl,hd⟩;have b4:=Lib.hid (below_step b3.out hd.below);have a4:=Lib.hid (heap_below a3.out hd.below);have g4:=Lib.hid (heap_below g3.out hd.below);have V4:=Lib.hid (V3.out.below hd.below);have J1:=Lib.hid (Kd.C_below K1.out hd.below);have J2:=Lib.hid (Kd.C_below K2.out hd.below);clear hd)
  |((with_reducible go_at_call 22);refine (hfits.out _ b4.out X2 d2 J2.out).mono ?_;rintro e w5 ⟨rfl,hb⟩;have b5:=Lib.hid (below_step b4.out hb);have a5:=Lib.hid (heap_below a4.out hb);have g5:=Lib.hid (heap_below g4.out hb);have V5:=Lib.hid (V4.out.below hb);have I1:=Lib.hid (Kd.C_below J1.out hb);have I2:=Lib.hid (Kd.C_below J2.out hb);clear hb)
  |(with_reducible refine wpList_load_row rfl 28 _ rfl w1.heap.size rfl 28 G (0,0) _ g5.out Try.underlying28 rfl hGs.out ?_)
  |(with_reducible refine wpList_store_row rfl 28 _ _ rfl w.heap.size G rfl rfl 28 Z a5.out hGs.out hGZ.out hGo.out ?_))
 try (go_step3;go_wp2_with (first
  |((with_reducible go_at_call 48);refine (hsame.out _ AX cX V3.out X3 d3 K3.out d3'.out).mono ?_;rintro e w4 ⟨rfl,hd⟩;have b4:=Lib.hid (below_step b3.out hd.below);have a4:=Lib.hid (heap_below a3.out hd.below);have g4:=Lib.hid (heap_below g3.out hd.below);have V4:=Lib.hid (V3.out.below hd.below);have J1:=Lib.hid (Kd.C_below K1.out hd.below);have J2:=Lib.hid (Kd.C_below K2.out hd.below);clear hd)
  |((with_reducible go_at_call 22);refine (hfits.out _ b4.out X2 d2 J2.out).mono ?_;rintro e w5 ⟨rfl,hb⟩;have b5:=Lib.hid (below_step b4.out hb);have a5:=Lib.hid (heap_below a4.out hb);have g5:=Lib.hid (heap_below g4.out hb);have V5:=Lib.hid (V4.out.below hb);have I1:=Lib.hid (Kd.C_below J1.out hb);have I2:=Lib.hid (Kd.C_below J2.out hb);clear hb)
  |(with_reducible refine wpList_load_row rfl 28 _ rfl w1.heap.size rfl 28 G (0,0) _ g5.out Try.underlying28 rfl hGs.out ?_)
  |(with_reducible refine wpList_store_row rfl 28 _ _ rfl w.heap.size G rfl rfl 28 Z a5.out hGs.out hGZ.out hGo.out ?_)))
 have hq:=setRow_heap w5 w.heap.size Z G 28 (0,0) a5.out
 refine bodyPost_ret (v:=.tuple #[.agg G,.slice X1 32 d1,.slice X2 32 d2,.int .i64 0]) (results_cttt rfl _ _ w.heap.size 28 _ (0,0) _ (by rfl) hq Try.underlying28 rfl hGs.out (by rfl) (by rfl) (by rfl)) rfl ?_
 refine ⟨AX,cX,X1,d1,X2,d2,by rw[hG'.out];rfl,?_,d1'.out,d2'.out,C_setRow I1.out l1.out.symm a5.out hZn.out,C_setRow I2.out l2.out.symm a5.out hZn.out,below_setRow b5.out (Nat.le_refl _) _⟩
 exact fun j hj=>⟨C_setRow (V5.out j hj).1 rfl a5.out hZn.out,(V5.out j hj).2⟩
end Go.Proofs.Ytbajioiiaamokaa.Own
