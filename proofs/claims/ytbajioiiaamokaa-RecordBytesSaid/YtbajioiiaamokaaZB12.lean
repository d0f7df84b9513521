/- ShC, pruned (slim.py). -/
import Derived.Test.YtbajioiiaamokaaZB11
namespace Go.Proofs.Ytbajioiiaamokaa.Own
open Go.RowKit Go.Proofs.Ytbajioiiaamokaa.Arr Go.Proofs.Ytbajioiiaamokaa.QB Go.Proofs.YtbajioiiaamokaaW.PrintWords Go.Proofs.YtbajioiiaamokaaW.PrintLast Go.Proofs.YtbajioiiaamokaaW.PrintMore
set_option linter.unusedVariables false
set_option linter.unusedSimpArgs false
def H0:List Int:=[0x6a09e667,0xbb67ae85,0x3c6ef372,0xa54ff53a,0x510e527f,0x9b05688c,0x1f83d9ab,0x5be0cd19]
def K0:List Int:=[
  0x428a2f98,0x71374491,0xb5c0fbcf,0xe9b5dba5,0x3956c25b,0x59f111f1,0x923f82a4,0xab1c5ed5,
  0xd807aa98,0x12835b01,0x243185be,0x550c7dc3,0x72be5d74,0x80deb1fe,0x9bdc06a7,0xc19bf174,
  0xe49b69c1,0xefbe4786,0x0fc19dc6,0x240ca1cc,0x2de92c6f,0x4a7484aa,0x5cb0a9dc,0x76f988da,
  0x983e5152,0xa831c66d,0xb00327c8,0xbf597fc7,0xc6e00bf3,0xd5a79147,0x06ca6351,0x14292967,
  0x27b70a85,0x2e1b2138,0x4d2c6dfc,0x53380d13,0x650a7354,0x766a0abb,0x81c2c92e,0x92722c85,
  0xa2bfe8a1,0xa81a664b,0xc24b8b70,0xc76c51a3,0xd192e819,0xd6990624,0xf40e3585,0x106aa070,
  0x19a4c116,0x1e376c08,0x2748774c,0x34b0bcb5,0x391c0cb3,0x4ed8aa4a,0x5b9cca4f,0x682e6ff3,
  0x748f82ee,0x78a5636f,0x84c87814,0x8cc70208,0x90befffa,0xa4506ceb,0xbef9a3f7,0xc67178f2]
theorem H0_length:H0.length=8:=rfl
theorem K0_length:K0.length=64:=rfl
theorem built8 (a b c d e f g h:Int):Try.prog.built 138 (#[(0,.int .u32 a),(1,.int .u32 b),(2,.int .u32 c),(3,.int .u32 d),(4,.int .u32 e),(5,.int .u32 f),(6,.int .u32 g),(7,.int .u32 h)]:Array (Nat × Value)).toList=some (ints .u32 [a,b,c,d,e,f,g,h]):=by kernel_rfl
theorem build8 (a b c d e f g h:Int) (W:World):(Instr.build 138 #[(0,.int .u32 a),(1,.int .u32 b),(2,.int .u32 c),(3,.int .u32 d),(4,.int .u32 e),(5,.int .u32 f),(6,.int .u32 g),(7,.int .u32 h)]).run Try.prog W=.ok (.agg (ints .u32 [a,b,c,d,e,f,g,h])) W:=
 run_build W _ _ _ (built8 a b c d e f g h)
attribute [-go_sem] Instr.build
set_option maxHeartbeats 2000000 in
set_option maxRecDepth 100000 in
theorem first_any (w:World):Calls Try.prog 96 #[] w fun e w'=>e=.returned (.agg (ints .u32 H0))∧Below w.heap.size w w':=by
 obtain ⟨hz,-⟩:=zero_of_info (P:=Try.prog) info8
 have hb:∀ W:World,(Instr.build 138 #[(0,.int .u32 0x6a09e667),(1,.int .u32 0xbb67ae85),(2,.int .u32 0x3c6ef372),(3,.int .u32 0xa54ff53a),(4,.int .u32 0x510e527f),(5,.int .u32 0x9b05688c),(6,.int .u32 0x1f83d9ab),(7,.int .u32 0x5be0cd19)]).run Try.prog W=.ok (.agg (ints .u32 H0)) W:=fun W=>run_build W _ _ _ (by kernel_rfl)
 go_enter Try.func96,Try.ntmps96
 go_wp2_with (with_reducible refine wpList_store_row rfl 138 _ _ rfl w.heap.size (ints .u32 H0) rfl rfl 138 (ints .u32 (zer 8)) (heap_alloc_last _ _) (sz8 H0_length) (sz_eq ((zer_length 8).trans H0_length.symm)) (ints_one _ _) ?_)
 refine bodyPost_ret (v:=.agg (ints .u32 H0)) (results_cell_row (p:=0) (ty:=138) rfl _ _ w.heap.size 138 _ (0,0) _ rfl (setRow_heap _ _ (ints .u32 (zer 8)) _ _ _ (heap_alloc_last _ _)) Try.underlying138 rfl (sz8 H0_length)) rfl ⟨rfl,?_⟩
 exact below_setRow ((Below.refl _ _).alloc (Nat.le_refl _) _) (Nat.le_refl _) _
set_option maxHeartbeats 2000000 in
set_option maxRecDepth 100000 in
theorem constants_any (w:World):Calls Try.prog 106 #[] w fun e w'=>e=.returned (.agg (ints .u32 K0))∧Below w.heap.size w w':=by
 obtain ⟨hz,-⟩:=zero_of_info (P:=Try.prog) info64
 have hbuilt:∀ W:World,(Instr.build 147 #[(0,.int .u32 0x428a2f98),(1,.int .u32 0x71374491),(2,.int .u32 0xb5c0fbcf),(3,.int .u32 0xe9b5dba5),(4,.int .u32 0x3956c25b),(5,.int .u32 0x59f111f1),(6,.int .u32 0x923f82a4),(7,.int .u32 0xab1c5ed5),(8,.int .u32 0xd807aa98),(9,.int .u32 0x12835b01),(10,.int .u32 0x243185be),(11,.int .u32 0x550c7dc3),(12,.int .u32 0x72be5d74),(13,.int .u32 0x80deb1fe),(14,.int .u32 0x9bdc06a7),(15,.int .u32 0xc19bf174),(16,.int .u32 0xe49b69c1),(17,.int .u32 0xefbe4786),(18,.int .u32 0x0fc19dc6),(19,.int .u32 0x240ca1cc),(20,.int .u32 0x2de92c6f),(21,.int .u32 0x4a7484aa),(22,.int .u32 0x5cb0a9dc),(23,.int .u32 0x76f988da),(24,.int .u32 0x983e5152),(25,.int .u32 0xa831c66d),(26,.int .u32 0xb00327c8),(27,.int .u32 0xbf597fc7),(28,.int .u32 0xc6e00bf3),(29,.int .u32 0xd5a79147),(30,.int .u32 0x06ca6351),(31,.int .u32 0x14292967),(32,.int .u32 0x27b70a85),(33,.int .u32 0x2e1b2138),(34,.int .u32 0x4d2c6dfc),(35,.int .u32 0x53380d13),(36,.int .u32 0x650a7354),(37,.int .u32 0x766a0abb),(38,.int .u32 0x81c2c92e),(39,.int .u32 0x92722c85),(40,.int .u32 0xa2bfe8a1),(41,.int .u32 0xa81a664b),(42,.int .u32 0xc24b8b70),(43,.int .u32 0xc76c51a3),(44,.int .u32 0xd192e819),(45,.int .u32 0xd6990624),(46,.int .u32 0xf40e3585),(47,.int .u32 0x106aa070),(48,.int .u32 0x19a4c116),(49,.int .u32 0x1e376c08),(50,.int .u32 0x2748774c),(51,.int .u32 0x34b0bcb5),(52,.int .u32 0x391c0cb3),(53,.int .u32 0x4ed8aa4a),(54,.int .u32 0x5b9cca4f),(55,.int .u32 0x682e6ff3),(56,.int .u32 0x748f82ee),(57,.int .u32 0x78a5636f),(58,.int .u32 0x84c87814),(59,.int .u32 0x8cc70208),(60,.int .u32 0x90befffa),(61,.int .u32 0xa4506ceb),(62,.int .u32 0xbef9a3f7),(63,.int .u32 0xc67178f2)]).run Try.prog W=.ok (.agg (ints .u32 K0)) W:=fun W=>run_build W _ _ _ (by kernel_rfl)
 go_enter Try.func106,Try.ntmps106
 go_wp2_with (with_reducible refine wpList_store_row rfl 147 _ _ rfl w.heap.size (ints .u32 K0) rfl rfl 147 (ints .u32 (zer 64)) (heap_alloc_last _ _) (sz64 K0_length) (sz_eq ((zer_length 64).trans K0_length.symm)) (ints_one _ _) ?_)
 refine bodyPost_ret (v:=.agg (ints .u32 K0)) (results_cell_row (p:=0) (ty:=147) rfl _ _ w.heap.size 147 _ (0,0) _ rfl (setRow_heap _ _ (ints .u32 (zer 64)) _ _ _ (heap_alloc_last _ _)) Try.underlying147 rfl (sz64 K0_length)) rfl ⟨rfl,?_⟩
 exact below_setRow ((Below.refl _ _).alloc (Nat.le_refl _) _) (Nat.le_refl _) _
def big1 (e:Int):Int:=Go.bits .xor .u32 (Go.bits .xor .u32 (rl e (-6)) (rl e (-11))) (rl e (-25))
def big0 (a:Int):Int:=Go.bits .xor .u32 (Go.bits .xor .u32 (rl a (-2)) (rl a (-13))) (rl a (-22))
def cho (e f g:Int):Int:=Go.bits .xor .u32 (Go.bits .and .u32 e f) (Go.bits .and .u32 (Go.bits .xor .u32 4294967295 e) g)
def maj (a b c:Int):Int:=Go.bits .xor .u32 (Go.bits .xor .u32 (Go.bits .and .u32 a b) (Go.bits .and .u32 a c)) (Go.bits .and .u32 b c)
def t1of (v:List Int) (kt wt:Int):Int:=(v.getD 7 0+big1 (v.getD 4 0)+cho (v.getD 4 0) (v.getD 5 0) (v.getD 6 0)+kt+wt) % 4294967296
def t2of (v:List Int):Int:=(big0 (v.getD 0 0)+maj (v.getD 0 0) (v.getD 1 0) (v.getD 2 0)) % 4294967296
def stepV (kt wt:Int) (v:List Int):List Int:=[(t1of v kt wt+t2of v) % 4294967296,v.getD 0 0,v.getD 1 0,v.getD 2 0,(v.getD 3 0+t1of v kt wt) % 4294967296,v.getD 4 0,v.getD 5 0,v.getD 6 0]
def vs (W s:List Int):Nat→List Int
 |0=>s
 |t+1=>stepV (K0.getD t 0) (W.getD t 0) (vs W s t)
theorem vs_length (W s:List Int) (h:s.length=8) (t:Nat):(vs W s t).length=8:=by
 cases t with
 |zero=>exact h
 |succ t=>rfl
def adds (v s:List Int):Nat→List Int
 |0=>v
 |t+1=>(adds v s t).set t (((adds v s t).getD t 0+s.getD t 0) % 4294967296)
theorem adds_length (v s:List Int) (h:v.length=8) (t:Nat):(adds v s t).length=8:=by
 induction t with
 |zero=>exact h
 |succ t ih=>rw[adds,List.length_set,ih]
def compL (s b:List Int):List Int:=adds (vs (ws b 64) s 64) s 8
theorem compL_length (s b:List Int) (h:s.length=8):(compL s b).length=8:=adds_length _ _ (vs_length _ _ h _) _
theorem eight (l:List Int) (hl:l.length=8):∃ a b c d e f g h,l=[a,b,c,d,e,f,g,h]:=by
 match l,hl with
 |[a,b,c,d,e,f,g,h],_=>exact ⟨a,b,c,d,e,f,g,h,rfl⟩
set_option maxHeartbeats 4000000 in
set_option maxRecDepth 100000 in
theorem compress_any (s:List Int) (hs:s.length=8) (A0:Option Addr) (c0:Nat) (l0:List Int) (w:World) (hr0:Kd.C (Kd.int .u8) w A0 64 l0) (hl:l0.length=64) (hc0:64≤c0) :
  Calls Try.prog 103 #[.agg (ints .u32 s),.slice A0 64 c0] w fun e w'=>e=.returned (.agg (ints .u32 (compL s l0)))∧Below w.heap.size w w':=by
 obtain ⟨hz,-⟩:=zero_of_info (P:=Try.prog) info8
 obtain ⟨hz64,-⟩:=zero_of_info (P:=Try.prog) info64
 obtain ⟨W,hW⟩:∃ W,W=ws l0 64:=⟨_,rfl⟩
 have hWl:W.length=64:=by rw[hW];exact ws_length _ _
 have hwords:∀ w1,Below w.heap.size w w1→Calls Try.prog 105 #[.slice A0 64 c0] w1 fun e w'=>e=.returned (.agg (ints .u32 W))∧Below w1.heap.size w1 w':=by
  rw[hW];exact fun w1 hb=>words_any A0 c0 l0 _ (Kd.C_below hr0 hb) hl hc0
 obtain ⟨K,hK⟩:∃ K,K=K0:=⟨_,rfl⟩
 have hKl:K.length=64:=by rw[hK];exact K0_length
 have hcons:∀ w1,Calls Try.prog 106 #[] w1 fun e w'=>e=.returned (.agg (ints .u32 K))∧Below w1.heap.size w1 w':=by
  rw[hK];exact constants_any
 have hwords':=Lib.hid hwords
 have hcons':=Lib.hid hcons
 have hW':=Lib.hid hW
 have hK':=Lib.hid hK
 have hWl':=Lib.hid hWl
 have hKl':=Lib.hid hKl
 have hs':=Lib.hid hs
 clear hr0 hl hs hc0 hwords hcons hW hK hWl hKl
 go_enter Try.func103,Try.ntmps103
 go_wp2_with (first | (go_at_call 105;refine (hwords'.out _ (by repeat (first | (with_reducible exact Below.refl _ _) | (with_reducible apply below_alloc)))).mono ?_;rintro e w1 ⟨rfl,hb1⟩;have hz1:Hid (w.heap.size+2≤w1.heap.size):=Lib.hid (by simpa using hb1.size);have hbw1:=Lib.hid (below_step (below_alloc (below_alloc (Below.refl _ _) _) _) hb1);have hg2_1:=Lib.hid (heap_below ((heap_skip _ _ w.heap.size (by simp)).trans (heap_at _ _ _ rfl)) hb1);have hg4_1:=Lib.hid (heap_below (heap_at _ _ (w.heap.size+1) (by simp)) hb1);clear hb1) | (go_at_call 106;refine (hcons'.out _).mono ?_;rintro e w2 ⟨rfl,hb2⟩;have hz2:Hid (w.heap.size+2≤w2.heap.size):=Lib.hid (Nat.le_trans hz1.out hb2.size);have hbw2:=Lib.hid (below_step hbw1.out hb2);have hg2:=Lib.hid (heap_below hg2_1.out hb2);have hg4:=Lib.hid (heap_below hg4_1.out hb2);clear hb2 hg2_1 hg4_1 hbw1) | (with_reducible refine wpList_store_row rfl 147 _ _ rfl w2.heap.size (ints .u32 W) rfl rfl 147 (ints .u32 (zer 64)) (by rw[heap_skip _ _ _ (by simp)];exact heap_at _ _ _ rfl) (sz64 hWl'.out) (sz_eq ((zer_length 64).trans hWl'.out.symm)) (ints_one _ _) ?_) | (with_reducible refine wpList_store_row rfl 147 _ _ rfl (w2.heap.size+1) (ints .u32 K) rfl rfl 147 (ints .u32 (zer 64)) (by rw[setRow_other _ _ _ _ (by omega)];exact heap_at _ _ _ (by simp)) (sz64 hKl'.out) (sz_eq ((zer_length 64).trans hKl'.out.symm)) (ints_one _ _) ?_) | (with_reducible refine wpList_load_row rfl 138 _ rfl w.heap.size rfl 138 (ints .u32 s) (0,0) _ (by have hq:=hz2.out;rw[setRow_other _ _ _ _ (by omega),setRow_other _ _ _ _ (by omega),heap_skip _ _ _ (by simp;omega),heap_skip _ _ _ (by omega)];exact hg2.out) Try.underlying138 rfl (sz8 hs'.out) ?_) | (with_reducible refine wpList_store_row rfl 138 _ _ rfl (w2.heap.size+1+1) (ints .u32 s) rfl rfl 138 (ints .u32 (zer 8)) (heap_at _ _ _ (by simp)) (sz8 hs'.out) (sz_eq ((zer_length 8).trans hs'.out.symm)) (ints_one _ _) ?_))
 obtain ⟨B,hB⟩:∃ B,B=w2.heap.size:=⟨_,rfl⟩
 have hBw:Hid (w.heap.size+2≤B):=Lib.hid (by rw[hB];exact hz2.out)
 go_loopw [20] (fun i wr=>∃ t:Nat,t≤64∧i=.int .i64 t∧wr.heap[B]?=some (.cells (ints .u32 W) 147 (0,0))∧wr.heap[B+1]?=some (.cells (ints .u32 K) 147 (0,0))∧wr.heap[B+1+1]?=some (.cells (ints .u32 (vs W s t)) 138 (0,0))∧wr.heap[w.heap.size]?=some (.cells (ints .u32 s) 138 (0,0))∧wr.heap[w.heap.size+1]?=some (.cells (ints .u32 (zer 8)) 138 (0,0))∧Below w.heap.size w wr) (fun i _=>64 - (intOf i).toNat)
 case atStart=>
  have hq:=hBw.out
  subst hB
  refine ⟨0,by omega,rfl,?_,?_,?_,?_,?_,?_⟩
  ·rw[setRow_other _ _ _ _ (by omega),heap_skip _ _ _ (by simp;omega),setRow_other _ _ _ _ (by omega)];exact setRow_heap _ _ (ints .u32 (zer 64)) _ _ _ (by rw[heap_skip _ _ _ (by simp)];exact heap_at _ _ _ rfl)
  ·rw[setRow_other _ _ _ _ (by omega),heap_skip _ _ _ (by simp)];exact setRow_heap _ _ (ints .u32 (zer 64)) _ _ _ (by rw[setRow_other _ _ _ _ (by omega)];exact heap_at _ _ _ (by simp))
  ·exact setRow_heap _ _ (ints .u32 (zer 8)) _ _ _ (heap_at _ _ _ (by simp))
  ·rw[setRow_other _ _ _ _ (by omega),heap_skip _ _ _ (by simp;omega),setRow_other _ _ _ _ (by omega),setRow_other _ _ _ _ (by omega),heap_skip _ _ _ (by simp;omega),heap_skip _ _ _ (by omega)];exact hg2.out
  ·rw[setRow_other _ _ _ _ (by omega),heap_skip _ _ _ (by simp;omega),setRow_other _ _ _ _ (by omega),setRow_other _ _ _ _ (by omega),heap_skip _ _ _ (by simp;omega),heap_skip _ _ _ (by omega)];exact hg4.out
  exact below_setRow (below_alloc (below_setRow (below_setRow (below_alloc (below_alloc hbw2.out _) _) (by omega) _) (by omega) _) _) (by omega) _
 case round=>
  rw[← hB]
  clear hg2 hg4 hbw2 hB hwords' hcons' hz1 hz2 hz hz64
  obtain ⟨t,ht,rfl,h5,h6,h7,h2,h4,hb⟩:=hrel
  have h2':=Lib.hid h2
  have h4':=Lib.hid h4
  clear h2 h4
  by_cases hlt:t<64
  ·have hw:=ints_cell h5 t (by rw[hWl'.out];exact hlt)
   have hk:=ints_cell h6 t (by rw[hKl'.out];exact hlt)
   obtain ⟨V,hV⟩:∃ V,V=vs W s t:=⟨_,rfl⟩
   have hVl:V.length=8:=by rw[hV];exact vs_length _ _ hs'.out _
   rw[← hV] at h7
   have hst:vs W s (t+1)=stepV (K.getD t 0) (W.getD t 0) V:=by rw[vs,← hV,hK'.out]
   obtain ⟨x,hx⟩:∃ x,x=W.getD t 0:=⟨_,rfl⟩
   obtain ⟨y,hy⟩:∃ x,x=K.getD t 0:=⟨_,rfl⟩
   rw[← hx] at hw hst
   rw[← hy] at hk hst
   obtain ⟨v0,v1,v2,v3,v4,v5,v6,v7,rfl⟩:=eight V hVl
   have hc0:wr.cell? ⟨B+1+1,0,none⟩=some (.int .u32 v0):=ints_cell h7 0 (by simp)
   have hc1:wr.cell? ⟨B+1+1,1,none⟩=some (.int .u32 v1):=ints_cell h7 1 (by simp)
   have hc2:wr.cell? ⟨B+1+1,2,none⟩=some (.int .u32 v2):=ints_cell h7 2 (by simp)
   have hc3:wr.cell? ⟨B+1+1,3,none⟩=some (.int .u32 v3):=ints_cell h7 3 (by simp)
   have hc4:wr.cell? ⟨B+1+1,4,none⟩=some (.int .u32 v4):=ints_cell h7 4 (by simp)
   have hc5:wr.cell? ⟨B+1+1,5,none⟩=some (.int .u32 v5):=ints_cell h7 5 (by simp)
   have hc6:wr.cell? ⟨B+1+1,6,none⟩=some (.int .u32 v6):=ints_cell h7 6 (by simp)
   have hc7:wr.cell? ⟨B+1+1,7,none⟩=some (.int .u32 v7):=ints_cell h7 7 (by simp)
   have hbu:=build8
   have h5':=Lib.hid h5
   have h6':=Lib.hid h6
   have h7':=Lib.hid h7
   have hst':=Lib.hid hst
   clear h5 h6 h7 hst hV hVl hx hy
   go_wp2_with fail
   go_quiet (fail)
   go_wp2_with (first | (go_at_call 107;refine (rot_any _ _ _).mono ?_;rintro e w1 ⟨rfl,⟨nd,rfl⟩⟩))
   go_quiet (fail)
   have hm1:(if IntKind.u32.signed=true then (-1:Int) else IntKind.u32.max)=4294967295:=by decide
   simp only[hm1]
   clear hm1
   go_wp2_with (with_reducible refine wpList_store_row rfl 138 _ _ rfl (B+1+1) (ints .u32 _) rfl rfl 138 (ints .u32 [v0,v1,v2,v3,v4,v5,v6,v7]) (by (try simp only[World.heap_drewN]);exact h7'.out) (sz8 (by simp only[List.length_cons,List.length_nil])) (sz_eq (by simp only[List.length_cons,List.length_nil])) (ints_one _ _) ?_)
   refine ⟨?rel,?measure⟩
   case rel=>
    refine ⟨t+1,by omega,by go_num,?_,?_,?_,?_,?_,?_⟩
    ·rw[setRow_other _ _ _ _ (by omega)];exact h5'.out
    ·rw[setRow_other _ _ _ _ (by omega)];exact h6'.out
    ·rw[hst'.out]
     refine (setRow_heap _ _ (ints .u32 [v0,v1,v2,v3,v4,v5,v6,v7]) _ _ _ (by exact h7'.out)).trans ?_
     simp only[stepV,t1of,t2of,big0,big1,cho,maj,List.getD_cons_zero,List.getD_cons_succ,Int.emod_add_emod,Int.add_emod_emod,Int.add_assoc]
    ·rw[setRow_other _ _ _ _ (by have:=hBw.out;omega)];exact h2'.out
    ·rw[setRow_other _ _ _ _ (by have:=hBw.out;omega)];exact h4'.out
    exact below_setRow (by repeat (first | (with_reducible exact hb) | apply pw_below_drewN)) (by have:=hBw.out;omega) _
   case measure=>simp[intOf];omega
  obtain rfl:t=64:=by omega
  obtain ⟨V,hV⟩:∃ V,V=vs W s 64:=⟨_,rfl⟩
  have hVl:V.length=8:=by rw[hV];exact vs_length _ _ hs'.out _
  rw[← hV] at h7
  have h7':=Lib.hid h7
  have hV':=Lib.hid hV
  have hVl':=Lib.hid hVl
  clear h5 h6 h7 hV hVl hlt
  go_wp2_with fail
  go_loopw [102] (fun i wr=>∃ k:Nat,k≤8∧i=.int .i64 k∧wr.heap[B+1+1]?=some (.cells (ints .u32 (adds V s k)) 138 (0,0))∧wr.heap[w.heap.size]?=some (.cells (ints .u32 s) 138 (0,0))∧wr.heap[w.heap.size+1]?=some (.cells (ints .u32 (zer 8)) 138 (0,0))∧Below w.heap.size w wr) (fun i _=>8 - (intOf i).toNat)
  case atStart=>exact ⟨0,by omega,rfl,h7'.out,h2'.out,h4'.out,hb⟩
  case round=>
   clear h2' h4' h7' hb
   obtain ⟨k,hk,rfl,h7,h2,h4,hb⟩:=hrel
   have h4':=Lib.hid h4
   clear h4
   have hal:=adds_length V s hVl'.out k
   by_cases hlt:k<8
   ·obtain ⟨U,hU⟩:∃ U,U=adds V s k:=⟨_,rfl⟩
    rw[← hU] at h7 hal
    have hc7:=ints_cell h7 k (by omega)
    have hf7:=ints_free h7 k
    have hc2:=ints_cell h2 k (by rw[hs'.out];omega)
    have hst:adds V s (k+1)=U.set k ((U.getD k 0+s.getD k 0) % 4294967296):=by rw[adds,← hU]
    obtain ⟨x,hx⟩:∃ x,x=U.getD k 0:=⟨_,rfl⟩
    obtain ⟨y,hy⟩:∃ x,x=s.getD k 0:=⟨_,rfl⟩
    rw[← hx] at hc7 hst
    rw[← hy] at hc2 hst
    have h7':=Lib.hid h7
    have h2':=Lib.hid h2
    have hst':=Lib.hid hst
    clear h7 h2 hst hU hx hy hal
    go_wp2_with fail
    go_region
    go_wp2
    refine ⟨⟨k+1,by omega,by go_num,?_,?_,?_,?_⟩,?measure⟩
    ·refine (heap_setCell_same _ _ _ _ _ _ (by exact h7'.out)).trans ?_
     rw[ints_set,hst'.out]
    ·refine (heap_setCell_other _ _ _ _ (by have:=hBw.out;simp;omega)).trans ?_;exact h2'.out
    ·refine (heap_setCell_other _ _ _ _ (by have:=hBw.out;simp;omega)).trans ?_;exact h4'.out
    ·exact below_drew (hb.setCell (by have:=hBw.out;simp;omega) _)
    case measure=>simp[intOf];omega
   obtain rfl:k=8:=by omega
   obtain ⟨U,hU⟩:∃ U,U=adds V s 8:=⟨_,rfl⟩
   have hres:compL s l0=U:=by rw[compL,hU,hV'.out,hW'.out]
   rw[← hU] at h7 hal
   have hres':=Lib.hid hres
   have h7':=Lib.hid h7
   have hal':=Lib.hid hal
   clear h7 h2 hU hres hal hlt
   go_wp2_with (first | (with_reducible refine wpList_load_row rfl 138 _ rfl (B+1+1) rfl 138 (ints .u32 U) (0,0) _ h7'.out Try.underlying138 rfl (sz8 hal'.out) ?_) | (with_reducible refine wpList_store_row rfl 138 _ _ rfl (w.heap.size+1) (ints .u32 U) rfl rfl 138 (ints .u32 (zer 8)) h4'.out (sz8 hal'.out) (sz_eq ((zer_length 8).trans hal'.out.symm)) (ints_one _ _) ?_))
   refine bodyPost_ret (v:=.agg (ints .u32 U)) (results_cell_row (p:=4) (ty:=138) rfl _ _ (w.heap.size+1) 138 _ (0,0) _ rfl (setRow_heap _ _ (ints .u32 (zer 8)) _ _ _ h4'.out) Try.underlying138 rfl (sz8 hal'.out)) rfl ⟨by rw[hres'.out],?_⟩
   exact below_setRow hb (by omega) _
end Go.Proofs.Ytbajioiiaamokaa.Own
