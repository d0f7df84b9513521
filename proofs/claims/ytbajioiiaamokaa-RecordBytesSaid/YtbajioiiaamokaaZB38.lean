/- AkA, pruned (slim.py). -/
import Derived.Test.YtbajioiiaamokaaZB37
namespace Go.Proofs.Ytbajioiiaamokaa.Own
open Go.RowKit Go.Proofs.Ytbajioiiaamokaa.Arr Go.Proofs.Ytbajioiiaamokaa.QB Go.Proofs.YtbajioiiaamokaaW.PrintWords Go.Proofs.YtbajioiiaamokaaW.PrintLast Go.Proofs.YtbajioiiaamokaaW.PrintMore
set_option linter.unusedVariables false
set_option linter.unusedSimpArgs false
attribute [-go_sem] Instr.build
theorem made_zer (n:Nat):ints .u8 (zer n)=madeCells #[Value.int IntKind.u8 0] n:=by
 apply Array.ext
 ·simp[madeCells,ints,zer]
 intro i h1 h2;simp[madeCells,ints,zer,Nat.mod_one]
theorem fRec_fit (s c:List Int):recFit (fRec s c):=⟨(show 0≤(1:Int)∧(1:Int)<18446744073709551616 by decide),(show 0≤(0:Int)∧(0:Int)<18446744073709551616 by decide),(show 0≤(0:Int)∧(0:Int)<18446744073709551616 by decide),fun _ _=>slZero_fit⟩
theorem fRec_right (s c:List Int) (hs:s.length=16) (hc:c.length=32):rcRight (fRec s c)=true:=by
 unfold rcRight
 rw[show slotsR (fRec s c) 4=true from (show (List.range 4).all (fun _=>slRight slZero)=true by decide)]
 show (true && (decide (s.length=16) && decide (c.length=32)))=true
 rw[hs,hc];rfl
theorem fRec_seven (s c key:List Int):(recBytes (fRec s c) key).getD 7 0=1:=by
 unfold recBytes recBody headB
 simp only[List.append_assoc]
 rw[show bigL 8 (fRec s c).gen=[0,0,0,0,0,0,0,1] from (show bigL 8 1=_ by decide)]
 rfl
set_option maxHeartbeats 2000000 in
set_option maxRecDepth 100000 in
theorem awake18_any (w:World):Calls Try.prog 10 #[] w fun e w'=>e=.returned (.bool true)∧Below w.heap.size w w':=by
 have kc:=fun (w:World) (C:Array Value) (n c:Nat)=>Lib.run_convert_bytes_const (P:=Try.prog) w 23 5 C n c Try.underlying23 Try.underlying5
 have hmk:∀ W:World,(Instr.makeSlice 23 (.int .i64 16) (.int .i64 16)).run Try.prog W=.ok (.slice (some ⟨W.heap.size,0,none⟩) 16 16) (W.alloc (.cells (ints .u8 (zer 16)) 5)):=fun W=>by
  rw[show ints .u8 (zer 16)=madeCells #[Value.int IntKind.u8 0] 16 from made_zer 16]
  exact run_make_row' (P:=Try.prog) 23 5 (.int .u8 0) 1 Try.underlying23 info5 rfl .i64 .i64 16 (by omega) (by omega) W
 obtain ⟨hz,-⟩:=zero_of_info (P:=Try.prog) infoRc
 obtain ⟨Z,hZ⟩:∃ Z:Array Value,Z=zRc:=⟨_,rfl⟩
 have hZs:=Lib.hid (show Z.size=25 by rw[hZ];rfl)
 rw[← hZ] at hz
 obtain ⟨S16,hS16⟩:∃ S:List Int,S=zer 16:=⟨_,rfl⟩
 have hSl:=Lib.hid (show S16.length=16 by rw[hS16];rfl)
 obtain ⟨PW,hPW⟩:∃ S:List Int,S=[112]:=⟨_,rfl⟩
 have hPl:=Lib.hid (show PW.length=1 by rw[hPW];rfl)
 obtain ⟨CD,hCD⟩:∃ CD,CD=checkD PW S16 1:=⟨_,rfl⟩
 obtain ⟨KD,hKD⟩:∃ CD,CD=keyD PW S16 1:=⟨_,rfl⟩
 have hfirst:=Lib.hid (fun (W:World) (A0:Option Addr) (c0:Nat) (A1:Option Addr) (c1:Nat) (h0:Kd.C (Kd.int .u8) W A0 1 PW) (h1:1≤c0) (h2:Kd.C (Kd.int .u8) W A1 16 S16) (h3:16≤c1)=>show Calls Try.prog 39 #[.slice A0 1 c0,.slice A1 16 c1,.int .i64 1] W _ from by
  have:=recFirst_any A0 c0 PW A1 c1 S16 1 W (by rw[hPl.out];exact h0) (by rw[hPl.out];exact h1) (by rw[hSl.out];exact h2) (by rw[hSl.out];exact h3) hSl.out (by rw[hPl.out];rfl)
  rw[hPl.out,hSl.out,← hCD,← hKD] at this
  exact this)
 have hcl:=Lib.hid (show CD.length=32 by rw[hCD];exact checkD_len _ _ _)
 have hkl:=Lib.hid (show KD.length=32 by rw[hKD];exact keyD_len _ _ _)
 have hC0:=Lib.hid (fun (fr:Nat × Nat) (o:Obj)=>show Kd.C (Kd.int .u8) ((w.alloc (.cells (ints .u8 [112]) 5 fr)).alloc o) (some ⟨w.heap.size,0,none⟩) 1 PW by rw[hPW];exact Kd.C_alloc (C_block (k:=.u8) (l:=[112]) (heap_at _ _ _ rfl) (by decide)) o)
 have hC1:=Lib.hid (fun (fr:Nat × Nat) (o:Obj)=>show Kd.C (Kd.int .u8) ((w.alloc o).alloc (.cells (ints .u8 (zer 16)) 5 fr)) (some ⟨w.heap.size+1,0,none⟩) 16 S16 by rw[hS16];exact C_block (k:=.u8) (l:=zer 16) (heap_at _ _ _ (by simp)) (by decide))
 have hR1:=Lib.hid (fun (a:Option Addr) (m:Nat) (b:Option Addr) (n:Nat) (X:Option Addr) (d:Nat) (W:World) (hV:RcV W (fRec S16 CD) (fA a b) (fC m n)) (hK:Kd.C (Kd.int .u8) W X 32 KD)=>by
  have:=recBytes_any (fRec S16 CD) (fA a b) (fC m n) X d KD W hV (fRec_fit _ _) (by rw[hkl.out];exact hK) (fRec_right _ _ hSl.out hcl.out) hkl.out
  rw[hkl.out] at this
  exact this)
 obtain ⟨B,hB⟩:∃ B,B=recBytes (fRec S16 CD) KD:=⟨_,rfl⟩
 have hBl:=Lib.hid (show B.length=624 by rw[hB];exact recBytes_len (fRec_right _ _ hSl.out hcl.out) _)
 have hB7:=Lib.hid (show B.getD 7 0=1 by rw[hB];exact fRec_seven _ _ _)
 rw[← hB] at hR1
 clear hZ hS16 hPW hCD hKD hB
 obtain ⟨MC,hMC⟩:∃ MC,MC=ints .u8 (zer 16):=⟨_,rfl⟩
 rw[← hMC] at hC1
 simp only[← hMC] at hmk
 clear hMC
 go_enter Try.func10,Try.ntmps10
 go_wp2_with (first
  |(go_at_call 39;refine (hfirst.out _ _ _ _ _ (hC0.out _ _) (by decide) (hC1.out _ _) (by decide)).mono ?_;rintro e w1 ⟨a,m,b,n,X2,d2,rfl,hV,hd2,hK,hb⟩;have b1:=Lib.hid (below_step (below_alloc (below_alloc (Below.refl _ _) _) _) hb);have hV1:=Lib.hid hV;have hK1:=Lib.hid hK;obtain ⟨G,hG⟩:∃ G,G=(rcl (fRec S16 CD) (fA a b) (fC m n)).toArray:=⟨_,rfl⟩;rw[← hG];have hGs:=Lib.hid (show (Try.prog.info? 28).map (·.size)=some G.size by rw[hG];exact szRc);have hGo:=Lib.hid (show G.all (·.oneCell')=true by rw[hG];exact rcl_one _ _ _);have hGZ:=Lib.hid (show Z.size=G.size by rw[hZs.out,hG];rfl);have hR2:=Lib.hid (hR1.out a m b n X2 d2);rw[← hG] at hR2;clear hb hV hK hd2 hG hR1)
  |(with_reducible refine wpList_store_row rfl 28 _ _ rfl w1.heap.size G rfl rfl 28 Z (heap_alloc_last _ _) hGs.out hGZ.out hGo.out ?_;have b12:=Lib.hid (below_setRow ((Below.refl w1.heap.size w1).alloc (Nat.le_refl _) (.cells Z 28 (0,0))) (Nat.le_refl _) G);have g2:=Lib.hid (setRow_heap (w1.alloc (.cells Z 28 (0,0))) w1.heap.size Z G 28 (0,0) (heap_alloc_last _ _));generalize (w1.alloc (.cells Z 28 (0,0))).setRow w1.heap.size G=w2 at *;have b2:=Lib.hid (below_step b1.out b12.out);have hr2:=Lib.hid (hR2.out w2 (hV1.out.below b12.out) (Kd.C_below hK1.out b12.out)))
  |(with_reducible refine wpList_load_row rfl 28 _ rfl w1.heap.size rfl 28 G (0,0) _ g2.out Try.underlying28 rfl hGs.out ?_)
  |(go_at_call 11;refine hr2.out.mono ?_;rintro e w3 ⟨X,cX,rfl,hO,hb⟩;have b3:=Lib.hid (below_step b2.out hb);obtain ⟨-,hc,hC⟩:=C_of_own hO;obtain ⟨bb,o,rfl,hr⟩:=C_range hC (by rw[hBl.out];decide);have hc7:=C_cell hr 7 (by rw[hBl.out];decide);rw[hB7.out] at hc7;rw[hBl.out];clear hb hO hc hC hr))
 go_ret
 exact ⟨rfl,b3.out⟩
end Go.Proofs.Ytbajioiiaamokaa.Own
