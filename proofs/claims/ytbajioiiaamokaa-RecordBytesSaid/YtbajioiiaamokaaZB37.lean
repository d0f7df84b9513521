/- FsA, pruned (slim.py). -/
import Derived.Test.YtbajioiiaamokaaZB36
namespace Go.Proofs.Ytbajioiiaamokaa.Own
open Go.RowKit Go.Proofs.Ytbajioiiaamokaa.Arr Go.Proofs.Ytbajioiiaamokaa.QB Go.Proofs.YtbajioiiaamokaaW.PrintWords Go.Proofs.YtbajioiiaamokaaW.PrintLast Go.Proofs.YtbajioiiaamokaaW.PrintMore
set_option linter.unusedVariables false
set_option linter.unusedSimpArgs false
attribute [-go_sem] Instr.build
theorem builtRcF (a:Int) (A B:Option Addr) (n k m j:Nat):Try.prog.built 28 (#[(0,.int .u64 a),(2,.slice A n k),(4,.slice B m j)]:Array (Nat × Value)).toList=some (([.int .u64 a,.int .u64 0,.slice A n k,.int .u64 0,.slice B m j]:List Value)++rcs (fun _=>slZero) (fun _=>none) (fun _=>0)).toArray:=by kernel_rfl
def fRec (salt check:List Int):RcT:=⟨1,0,salt,0,check,fun _=>slZero⟩
def fA (a b:Option Addr):Nat→Option Addr:=upd (upd (fun _=>none) 0 a) 1 b
def fC (a b:Nat):Nat→Nat:=upd (upd (fun _=>0) 0 a) 1 b
theorem fRec_cells (a b:Option Addr) (m n:Nat) (salt check:List Int):(rcl (fRec salt check) (fA a b) (fC m n)).toArray=(([.int .u64 1,.int .u64 0,.slice a salt.length m,.int .u64 0,.slice b check.length n]:List Value)++rcs (fun _=>slZero) (fun _=>none) (fun _=>0)).toArray:=rfl
theorem fRec_v (w:World) (a b:Option Addr) (m n:Nat) (salt check:List Int) (h0:Kd.C (Kd.int .u8) w a salt.length salt) (k0:salt.length≤m) (h1:Kd.C (Kd.int .u8) w b check.length check) (k1:check.length≤n):RcV w (fRec salt check) (fA a b) (fC m n):=fun j hj=>by
 match j with
 |0=>exact ⟨h0,k0⟩
 |1=>exact ⟨h1,k1⟩
 |k+2=>
  have hz:=RcV.zero w (k+2) hj
  have e1:fA a b (k+2)=none:=by unfold fA;rw[upd_other _ _ _ _ (by omega),upd_other _ _ _ _ (by omega)]
  have e2:fC m n (k+2)=0:=by unfold fC;rw[upd_other _ _ _ _ (by omega),upd_other _ _ _ _ (by omega)]
  rw[e1,e2]
  exact hz
def checkD (pass salt:List Int) (r:Int):List Int:=((bytesD (blockL pass) salt r.toNat 96).drop 64).take 32
def keyD (pass salt:List Int) (r:Int):List Int:=((bytesD (blockL pass) salt r.toNat 96).drop 32).take 32
theorem checkD_len (pass salt:List Int) (r:Int):(checkD pass salt r).length=32:=by
 unfold checkD;rw[List.length_take,List.length_drop,bytesD_length _ _ _ _ (by decide)];rfl
theorem keyD_len (pass salt:List Int) (r:Int):(keyD pass salt r).length=32:=by
 unfold keyD;rw[List.length_take,List.length_drop,bytesD_length _ _ _ _ (by decide)];rfl
theorem C_setRow {w:World} {g:Nat} {Z cs:Array Value} {t:TypeId} {fr:Nat × Nat} {A:Option Addr} {l:List Int} {n:Nat} (h:Kd.C (Kd.int .u8) w A n l) (hn:n=l.length) (hg:w.heap[g]?=some (.cells Z t fr)) (hZ:∀ v ∈ Z,∀ x,v ≠ .int .u8 x) :
  Kd.C (Kd.int .u8) (w.setRow g cs) A n l:=by
 subst hn
 rcases Nat.eq_zero_or_pos l.length with h0 | h0
 ·obtain rfl:=List.length_eq_zero_iff.1 h0
  exact C_of_readsInt ⟨rfl,by simp,fun h=>absurd h (Nat.lt_irrefl _)⟩
 have hm:=(readsInt_of_C h).2.1
 obtain ⟨b,o,rfl,hr⟩:=C_range h h0
 have hne:b≠g:=by
  rintro rfl
  have:=C_cell hr 0 h0
  rw[cell_of_row w b _ _ _ _ hg] at this
  exact hZ _ (Array.mem_of_getElem? this) _ rfl
 exact C_of_range hm (fun j v hj=>by rw[cell_setRow_other _ _ _ _ (by exact hne)];exact hr j v hj)
theorem zRc_not:∀ v ∈ zRc,∀ x,v ≠ .int .u8 x:=by
 intro v hv x e
 subst e
 simp[zRc,rcl,rch,rcs,slcl,rcZero,slZero] at hv
set_option maxHeartbeats 4000000 in
set_option maxRecDepth 100000 in
theorem recFirst_any (A0:Option Addr) (c0:Nat) (pass:List Int) (A1:Option Addr) (c1:Nat) (salt:List Int) (r:Int) (w:World) (hr0:Kd.C (Kd.int .u8) w A0 pass.length pass) (hc0:pass.length≤c0) (hr1:Kd.C (Kd.int .u8) w A1 salt.length salt) (hc1:salt.length≤c1) (hs:salt.length=16) (h:rightB pass.length r=true) :
  Calls Try.prog 39 #[.slice A0 pass.length c0,.slice A1 salt.length c1,.int .i64 r] w fun e w'=>∃ a m b n X2 d2,e=.returned (.tuple #[.agg (rcl (fRec salt (checkD pass salt r)) (fA a b) (fC m n)).toArray,.slice X2 32 d2,.int .i64 0])∧RcV w' (fRec salt (checkD pass salt r)) (fA a b) (fC m n)∧32≤d2∧Kd.C (Kd.int .u8) w' X2 32 (keyD pass salt r)∧Below w.heap.size w w':=by
 obtain ⟨hz,-⟩:=zero_of_info (P:=Try.prog) infoRc
 obtain ⟨Z,hZ⟩:∃ Z:Array Value,Z=zRc:=⟨_,rfl⟩
 rw[← hZ] at hz
 have hZs:=Lib.hid (show Z.size=25 by rw[hZ];rfl)
 have hZn:=Lib.hid (show ∀ v ∈ Z,∀ x,v ≠ .int .u8 x by rw[hZ];exact zRc_not)
 have hkeys:=Lib.hid (fun (W:World) (hW:Below w.heap.size w W)=>by
  have:=Keys96 A0 c0 pass A1 c1 salt hc0 hc1 (by omega) r h _ rfl W (Kd.C_below hr0 hW) (Kd.C_below hr1 hW)
  rw[hs] at this
  exact this)
 have hst:=Lib.hid (fun (W:World) (hW:Below w.heap.size w W)=>show Src Try.prog 1 23 (.slice A1 16 c1) salt.length (salt.map (Value.int .u8)) W from src_cut hs (by have:=Kd.C_below hr1 hW;rw[hs] at this;exact this))
 have hGb:=Lib.hid (fun (W:World) (a:Option Addr) (m:Nat) (b:Option Addr) (n:Nat)=>show (Instr.build 28 #[(0,.int .u64 1),(2,.slice a salt.length m),(4,.slice b 32 n)]).run Try.prog W=.ok (.agg (rcl (fRec salt (checkD pass salt r)) (fA a b) (fC m n)).toArray) W from by
  rw[fRec_cells,checkD_len]
  exact run_build W _ _ _ (builtRcF 1 a b salt.length m 32 n))
 have hcl:=Lib.hid (checkD_len pass salt r)
 have hs':=Lib.hid hs
 rw[hs]
 obtain ⟨CD,hCD⟩:∃ CD,CD=checkD pass salt r:=⟨_,rfl⟩
 obtain ⟨KD,hKD⟩:∃ CD,CD=keyD pass salt r:=⟨_,rfl⟩
 have hkeys':=Lib.hid (fun (W:World) (hW:Below w.heap.size w W)=>show Calls Try.prog 68 #[.slice A0 pass.length c0,.slice A1 16 c1,.int .i64 r] W (fun e w'=>∃ X1 d1 X2 d2 X3 d3,e=.returned (.tuple #[.slice X1 32 d1,.slice X2 32 d2,.slice X3 32 d3,.int .i64 0])∧32≤d2∧32≤d3∧Kd.C (Kd.int .u8) w' X2 32 KD∧Kd.C (Kd.int .u8) w' X3 32 CD∧Below W.heap.size W w') from by
  refine (hkeys.out W hW).mono ?_
  rintro e w' ⟨X1,d1,X2,d2,X3,d3,rfl,k1,k2,k3,C1,C2,C3,hb⟩
  exact ⟨X1,d1,X2,d2,X3,d3,rfl,k2,k3,by rw[hKD];exact C2,by rw[hCD];exact C3,hb⟩)
 have hkl:=Lib.hid (show KD.length=32 by rw[hKD];exact keyD_len _ _ _)
 rw[← hCD] at hGb hcl ⊢
 rw[← hKD]
 obtain ⟨W1,hW1⟩:∃ W1,W1=w.alloc (.cells Z 28 (0,0)):=⟨_,rfl⟩
 have ha:=Lib.hid (show W1.heap[w.heap.size]?=some (.cells Z 28 (0,0)) by rw[hW1];exact heap_alloc_last _ _)
 have b1:=Lib.hid (show Below w.heap.size w W1 by rw[hW1];exact (Below.refl _ _).alloc (Nat.le_refl _) _)
 clear hr0 hc0 hr1 hc1 hs h hZ hkeys hCD hKD
 go_enter Try.func39,Try.ntmps39
 go_upto_region 1 with fail
 rw[← hW1]
 clear hW1
 go_wp2_with (first
  |((with_reducible go_at_call 68);refine (hkeys'.out _ b1.out).mono ?_;rintro e w2 ⟨X1,d1,X2,d2,X3,d3,rfl,k2,k3,C2,C3,hb⟩;have b2:=Lib.hid (below_step b1.out hb);have g2:=Lib.hid (heap_below ha.out hb);have k2':=Lib.hid k2;have k3':=Lib.hid k3;have C2':=Lib.hid C2;have C3':=Lib.hid C3;clear hb k2 k3 C2 C3)
  |(refine wpList_own_append rfl (.tmp 30) (.tmp 31) 23 rfl w.heap.size (.slice (some ⟨w2.heap.size,0,none⟩) 0 0) [] (.slice A1 16 c1) salt rfl rfl (hst.out _ (below_alloc b2.out _)) (own_less (own_empty _ _ _ _ _ rfl (Nat.le_refl _)) b2.out.size) (below_alloc b2.out _).size (by rw[hs'.out];decide) ?_;intro v3 w3 h1 h2;rw[List.nil_append] at h1;obtain ⟨A3,c3,rfl⟩:=own_slice h1;have bx:=Lib.hid ((Below.refl w2.heap.size w2).alloc (Nat.le_refl _) (.cells #[] 5 (0,0)));have b23:=Lib.hid (bx.out.grown h2 bx.out.size (fun j hj=>by rw[← Option.some.inj (show some w2.heap.size=some j from hj)];exact Nat.le_refl _));have b3:=Lib.hid (below_step b2.out b23.out);have g3:=Lib.hid (heap_below g2.out b23.out);have hC2:=Lib.hid (Kd.C_below C2'.out b23.out);have hC3:=Lib.hid (Kd.C_below C3'.out b23.out);obtain ⟨G,hG⟩:∃ G,G=(rcl (fRec salt CD) (fA A3 X3) (fC c3 d3)).toArray:=⟨_,rfl⟩;have hGb3:=fun W=>hGb.out W A3 c3 X3 d3;rw[← hG] at hGb3;have o3:=Lib.hid h1;have hG':=Lib.hid hG;have hGs:=Lib.hid (show (Try.prog.info? 28).map (·.size)=some G.size by rw[hG];exact szRc);have hGo:=Lib.hid (show G.all (·.oneCell')=true by rw[hG];exact rcl_one _ _ _);have hGZ:=Lib.hid (show Z.size=G.size by rw[hZs.out,hG];rfl);clear h1 h2 hG bx)
  |(with_reducible refine wpList_store_row rfl 28 _ _ rfl w.heap.size G rfl rfl 28 Z g3.out hGs.out hGZ.out hGo.out ?_))
 have hq:=setRow_heap w3 w.heap.size Z G 28 (0,0) g3.out
 have hbt:But w.heap.size w3 (w3.setRow w.heap.size G):=⟨by simp[World.setRow],fun k _ hk=>setRow_other w3 w.heap.size k G hk⟩
 refine bodyPost_ret (v:=.tuple #[.agg G,.slice X2 32 d2,.int .i64 0]) (results_ctt rfl _ _ w.heap.size 28 _ (0,0) _ (by rfl) hq Try.underlying28 rfl hGs.out (by rfl) (by rfl)) rfl ?_
 refine ⟨A3,c3,X3,d3,X2,d2,by rw[hG'.out];rfl,?_,k2'.out,?_,below_setRow b3.out (Nat.le_refl _) _⟩
 ·obtain ⟨-,e2,e3⟩:=C_of_own o3.out
  exact fRec_v _ A3 X3 c3 d3 salt CD (C_setRow e3 rfl g3.out hZn.out) e2 (by rw[hcl.out];exact C_setRow hC3.out hcl.out.symm g3.out hZn.out) (by rw[hcl.out];exact k3'.out)
 exact C_setRow hC2.out hkl.out.symm g3.out hZn.out
end Go.Proofs.Ytbajioiiaamokaa.Own
