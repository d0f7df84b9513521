/- RdB, pruned (slim.py). -/
import Derived.Test.YtbajioiiaamokaaZB31
namespace Go.Proofs.Ytbajioiiaamokaa.Own
open Go.RowKit Go.Proofs.Ytbajioiiaamokaa.Arr Go.Proofs.Ytbajioiiaamokaa.QB Go.Proofs.YtbajioiiaamokaaW.PrintWords Go.Proofs.YtbajioiiaamokaaW.PrintLast Go.Proofs.YtbajioiiaamokaaW.PrintMore
set_option linter.unusedVariables false
set_option linter.unusedSimpArgs false
attribute [-go_sem] Instr.build
section
variable {P:Program} {a:Act} {op:Oper}
theorem exec_slice_h (w:World) (ty e:TypeId) (hu:P.underlying ty=some (.slice e)) (x hi:Operand) (ho:op.op=.slice ty x none (some hi) none) (vx vh v:Value) (hx:a.eval x=vx) (hh:a.eval hi=vh)
  (hr:(Instr.slice ty vx none (some vh) none).run P w=.ok v w):(execOp a.eval op).run P w=.ok (.value v) w:=by
 unfold execOp
 simp only[ho,Option.map_some,Option.map_none,hx,hh,Sem.run_bind,Sem.run_pure,Result.andThen_ok,Instr.sliceAt,run_underlying hu,hr]
end
section
variable {ops:Array Oper} {Q:Exit→Act→World→Prop} {oi:Oper} {N:Option Tmp} {a:Act} {w:World} {K:Act→World→Prop}
theorem step_append1 (base:Nat) (x y:Operand) (T:TypeId) (v:Value) (src:Value) (m:List Int) (hw:Region.wanted oi (yielded ops a.tmps)=true) (hN:oi.dst=N) (ho:oi.op=.call { callee:=.builtin .append,args:=#[x,y],argTypes:=#[23,T] })
  (hx:a.eval x=v) (hy:a.eval y=src) (hsrc:Src Try.prog 1 T src m.length (m.map (Value.int .u8)) w) (hown:w.ownsRow base 5 1 v ([]:List Int).length (nums .u8 [])) (hbase:base≤w.heap.size) (hb:m.length≤70368744177664)
  (h:∀ A c w1,w1.ownsRow base 5 1 (.slice A m.length c) m.length (nums .u8 m)→w.grownBy w1 v.ownBlock→(∀ k,(Value.slice A m.length c).ownBlock=some k→v.ownBlock=some k∨w.heap.size≤k)→(∀ B w0,B≤base→Below B w0 w→Below B w0 w1)→K (a.put N (.slice A m.length c)) w1) :
  if Region.wanted oi (yielded ops a.tmps)=true then Oper.wp Try.prog oi a w K Q else K (a.put N undef) w:=by
 obtain ⟨v',w1,hrun,ho1,hgr,hat⟩:=own_append2 base oi.type T v [] src m hsrc hown hbase (by simpa using hb)
 obtain ⟨A,c,rfl⟩:=own_slice ho1
 exact value_ hw hN (exec_append w x y _ _ ho v src hx hy hrun) (h A c w1 ho1 hgr hat (fun B w0 hB hw0=>hw0.grown hgr (Nat.le_trans hB hbase) (fun k hk=>Nat.le_trans hB (hown.lt k hk).1)))
end
theorem src_cut {A:Option Addr} {c n:Nat} {m:List Int} (hm:m.length=n) {W:World} (h:Kd.C (Kd.int .u8) W A n m):Src Try.prog 1 23 (.slice A n c) m.length (m.map (Value.int .u8)) W:=by
 subst hm
 exact src_of_C h
def partR (l:List Int) (k:Nat):List Int:=(l.take (80+k*128+128)).drop (80+k*128)
def rcHead (l:List Int):RcT:=⟨valL ((l.take 8).drop 0),valL ((l.take 16).drop 8),(l.take 32).drop 16,valL ((l.take 40).drop 32),(l.take 80).drop 48,fun k=>(slRead (partR l k)).getD slZero⟩
def slotsOk (l:List Int) (n:Nat):Bool:=(List.range n).all fun k=>(slRead (partR l k)).isSome
def rcRead (l:List Int):Option RcT:=if (l.take 48).drop 40=zL 8∧slotsOk l 4=true then some (rcHead l) else none
def RcRes (w:World) (o:Option RcT) (er:Int) (e:Ending) (w':World):Prop:=
 ∃ A c,e=.returned (.tuple #[.agg (rcl (o.getD rcZero) A c).toArray,.int .i64 (if o.isSome then 0 else er)])∧RcO w.heap.size w' (o.getD rcZero) A c∧Below w.heap.size w w'
theorem slotRead_some (A:Option Addr) (c:Nat) (l:List Int) (hl:l.length=128) (hc:128≤c) (hb:∀ x ∈ l,byt x) (x:SlT) (hx:slRead l=some x) (w:World) (hC:Kd.C (Kd.int .u8) w A l.length l) :
  Calls Try.prog 50 #[.slice A 128 c] w fun e w'=>∃ AX cX,e=.returned (.tuple #[.agg (slcl x AX cX).toArray,.int .i64 0])∧w'.ownsRow w.heap.size 5 1 (.slice AX x.wrap.length cX) x.wrap.length (nums .u8 x.wrap)∧Below w.heap.size w w':=by
 have:=slotRead_any A c l hl hc hb w hC
 rw[hx] at this
 exact this
theorem slotRead_none (A:Option Addr) (c:Nat) (l:List Int) (hl:l.length=128) (hc:128≤c) (hb:∀ x ∈ l,byt x) (hx:slRead l=none) (w:World) (hC:Kd.C (Kd.int .u8) w A l.length l) :
  Calls Try.prog 50 #[.slice A 128 c] w fun e w'=>∃ AX cX,e=.returned (.tuple #[.agg (slcl slZero AX cX).toArray,.int .i64 1])∧Below w.heap.size w w':=by
 have:=slotRead_any A c l hl hc hb w hC
 rw[hx] at this
 exact this.mono fun e w' ⟨AX,cX,h1,_,h2⟩=>⟨AX,cX,h1,h2⟩
theorem fill8:octet_Fill.f 200 0 8=some (zL 8):=by decide +kernel
theorem builtRc3 (a b c:Int):Try.prog.built 28 (#[(0,.int .u64 a),(1,.int .u64 b),(3,.int .u64 c)]:Array (Nat × Value)).toList=some (rcl ⟨a,b,[],c,[],fun _=>slZero⟩ (fun _=>none) (fun _=>0)).toArray:=by kernel_rfl
def RcMid (w:World) (a b d:Int) (v:Value) (w':World):Prop:=
 ∃ g,v=.pointer (some ⟨g,0,none⟩)∧w'.heap[g]?=some (.cells (rcl ⟨a,b,[],d,[],fun _=>slZero⟩ (fun _=>none) (fun _=>0)).toArray 28 (0,0))∧w.heap.size<g∧w'.heap[w.heap.size]?=some (.cells zRc 28 (0,0))∧Below w.heap.size w w'
def RcMid2 (w:World) (a b d:Int) (LS LC:List Int) (v:Value) (w':World):Prop:=
 ∃ g AS cS AC cC,v=.pointer (some ⟨g,0,none⟩)∧w'.heap[g]?=some (.cells (rcl ⟨a,b,LS,d,LC,fun _=>slZero⟩ (upd (upd (fun _=>none) 0 AS) 1 AC) (upd (upd (fun _=>0) 0 cS) 1 cC)).toArray 28 (0,0))∧w'.ownsRow w.heap.size 5 1 (.slice AS LS.length cS) LS.length (nums .u8 LS)∧w'.ownsRow w.heap.size 5 1 (.slice AC LC.length cC) LC.length (nums .u8 LC)∧w.heap.size<g∧w'.heap[w.heap.size]?=some (.cells zRc 28 (0,0))∧Below w.heap.size w w'
theorem below_setCells {B g:Nat} {w0:World} (hg:B≤g) (vs:List Value):∀ (o:Nat) (w:World),Below B w0 w→Below B w0 (w.setCells g o vs):=by
 induction vs with
 |nil=>intro o w h;exact h
 |cons v vs ih=>intro o w h;exact ih (o+1) _ (h.setCell (p:=⟨g,o,none⟩) hg v)
theorem but_setCells {g:Nat} {w:World} (o:Nat) (vs:List Value):But g w (w.setCells g o vs):=⟨Nat.le_of_eq (size_setCells _ _ _ _).symm,fun k hlt hk=>World.heap_setCells_other w g _ _ hlt hk⟩
def RcLoop (w:World) (l:List Int) (a b d:Int) (LS LC:List Int) (g k:Nat) (w':World):Prop:=
 ∃ s A c,w'.heap[g]?=some (.cells (rcl ⟨a,b,LS,d,LC,s⟩ A c).toArray 28 (0,0))∧(∀ j,j<k→slRead (partR l j)=some (s j))∧RcO w.heap.size w' ⟨a,b,LS,d,LC,s⟩ A c∧w'.heap[w.heap.size]?=some (.cells zRc 28 (0,0))∧Below w.heap.size w w'
theorem slotsOk_succ (l:List Int) (n:Nat):slotsOk l (n+1)=(slotsOk l n && (slRead (partR l n)).isSome):=by simp[slotsOk,List.range_succ]
theorem slotsOk_of {l:List Int} {n:Nat} {s:Nat→SlT} (h:∀ j,j<n→slRead (partR l j)=some (s j)):slotsOk l n=true:=by
 induction n with
 |zero=>rfl
 |succ n ih=>rw[slotsOk_succ,ih (fun j hj=>h j (by omega)),h n (by omega)];rfl
theorem slotsOk_not {l:List Int} {n k:Nat} (hk:k<n) (h:slRead (partR l k)=none):slotsOk l n=false:=by
 induction n with
 |zero=>omega
 |succ n ih=>
  rw[slotsOk_succ]
  by_cases e:k=n
  ·subst e;rw[h];simp
  rw[ih (by omega)];rfl
set_option maxHeartbeats 8000000 in
set_option maxRecDepth 100000 in
theorem recRead_any (A:Option Addr) (c:Nat) (l:List Int) (hl:l.length=624) (hc:624≤c) (hb:∀ x ∈ l,byt x) (w:World) (hC:Kd.C (Kd.int .u8) w A l.length l) :
  Calls Try.prog 19 #[.slice A 624 c] w (RcRes w (rcRead l) 1):=by
 obtain ⟨hz,-⟩:=zero_of_info (P:=Try.prog) infoRc
 obtain ⟨hzS,-⟩:=zero_of_info (P:=Try.prog) infoSl
 have hb0:∀ W:World,(Instr.build 28 #[]).run Try.prog W=.ok (.agg zRc) W:=fun W=>run_build W _ _ _ builtRc0
 obtain ⟨Z,hZ⟩:∃ Z:Array Value,Z=zRc:=⟨_,rfl⟩
 have hszZ:=Lib.hid (show (Try.prog.info? 28).map (·.size)=some Z.size by rw[hZ];exact szRc)
 have honeZ:=Lib.hid (show Z.all (·.oneCell')=true by rw[hZ];exact rcl_one _ _ _)
 rw[← hZ] at hz hb0
 have hZ':=Lib.hid hZ
 have hg0:=Lib.hid (heap_alloc_last w (.cells Z 28 (0,0)))
 have hbw0:=Lib.hid (show Below w.heap.size w (w.alloc (.cells Z 28 (0,0))) from (Below.refl _ _).alloc (Nat.le_refl _) _)
 have hfill:=Lib.hid (fun W:World=>octet_Fill.calls 200 0 8 (zL 8) W fill8)
 obtain ⟨A40,hs40,hc40⟩:=cutB A l.length c 40 48 l (by omega) (by omega) (by omega)
 have hp40:=part_len l 40 48 (by omega)
 have hsame:=Lib.hid (fun (W:World) (Af:Option Addr) (cf:Nat) (h1:Below w.heap.size w W) (h2:Kd.C (Kd.int .u8) W Af (zL 8).length (zL 8)) (h3:(zL 8).length≤cf)=>
  show Calls Try.prog 48 #[.slice A40 8 (c - 40),.slice Af (zL 8).length cf] W (fun e w'=>e=.returned (.bool (decide ((l.take 48).drop 40=zL 8)))∧Drawn0 W w') from by
   have:=octet_Same.calls (0+((l.take 48).drop 40).length+1) A40 (c - 40) ((l.take 48).drop 40) Af cf (zL 8) (decide ((l.take 48).drop 40=zL 8)) W (by rw[hp40];exact hc40 W (Kd.C_below hC h1)) (by rw[hp40];omega) h2 h3 (octSame_eq _ (zL 8) (by rw[hp40];omega) (part_mem hb) (zL_byt _) 0)
   rw[hp40] at this
   exact this)
 rw[hl] at hs40
 have s40:=Lib.hid (show ∀ W:World,(Instr.slice 23 (.slice A 624 c) (some (.int .i64 40)) (some (.int .i64 48)) none).run Try.prog W=.ok (.slice A40 8 (c - 40)) W from hs40)
 have hl':=Lib.hid hl
 have hC':=Lib.hid hC
 have hb':=Lib.hid hb
 clear hs40 hc40 hp40 hl hC hb
 by_cases h0:(l.take 48).drop 40=zL 8
 ·rw[decide_eq_true h0] at hsame
  have h0':=Lib.hid h0
  clear h0 hZ
  go_enter Try.func19,Try.ntmps19
  go_wp2_with fail
  refine start_ (n:=5) (S:=fun w'=>Below w.heap.size w w'∧w'.heap[w.heap.size]?=some (.cells Z 28 (0,0))) (ds:=[]) #[false,false,false,false,false] (by kernel_rfl) rfl rfl (by exact ⟨below_drew hbw0.out,hg0.out⟩) (fun hHeld=>?_)
  refine pure_ (i:=0) (N:=some 13) (v:=?_) (a':=?_) #[true,false,false,false,false] rfl rfl (by kernel_rfl) (fun _ _ _ h=>h) (Or.inl ⟨by rfl,?_⟩) ?_ ?_
  rotate_left
  ·intro w';go_simp;with_reducible rfl
  rotate_left
  ·simp only[Act.put,sZ0,sZ1,sZ2,i64_w,i32_w];rfl
  refine pure_ (i:=1) (N:=some 14) (v:=?_) (a':=?_) #[true,true,false,false,false] rfl rfl (by kernel_rfl) (fun _ _ _ h=>h) (Or.inl ⟨by rfl,?_⟩) ?_ ?_
  rotate_left
  ·intro w'
   refine (exec_slice_lh w' 23 _ Try.underlying23 _ _ _ (by rfl) (.slice A 624 c) (.int .i64 40) (.int .i64 48) _ (by rfl) (by rfl) (by rfl) (s40.out w')).trans ?_;with_reducible rfl
  rotate_left
  ·simp only[Act.put,sZ0,sZ1,sZ2,i64_w,i32_w];rfl
  refine one_ (i:=2) (N:=some 15) #[true,true,true,false,false] rfl rfl (by kernel_rfl) (by decide) (fun K hK=>?_)
  refine goes_ Try.func41 (by kernel_rfl) rfl #[.int .u8 0,.int .i64 8] (by rfl) rfl rfl (by (try simp only[List.map_toArray,List.map_cons,List.map_nil]);first | done | rfl) ?_
  refine (hfill.out _).mono ?_
  rintro e w1 ⟨v1,rfl,hR,hbl⟩
  obtain ⟨Af,cf,rfl⟩:=Kd.R_slice hR
  obtain ⟨-,hcf,hCf⟩:=Kd.R_reads' hR
  refine ⟨_,rfl,?_⟩
  have hcf':=Lib.hid hcf
  have hCf':=Lib.hid hCf
  refine hK.out _ _ ⟨below_step hHeld.1 hbl,heap_below hHeld.2 hbl⟩ (fun hHeld=>?_)
  clear hR hbl hcf hCf
  clear hK K;refine norm_ (a':=?_) ?_ ?_
  rotate_left
  ·show Act.put _ (some 15) _=_
   simp only[Act.put,sZ0,sZ1,sZ2,i64_w,i32_w];rfl
  refine one_ (i:=3) (N:=some 16) #[true,true,true,true,false] rfl rfl (by kernel_rfl) (by decide) (fun K hK=>?_)
  refine goes_ Try.func48 (by kernel_rfl) rfl #[.slice A40 8 (c - 40),.slice Af (zL 8).length cf] (by rfl) rfl rfl (by (try simp only[List.map_toArray,List.map_cons,List.map_nil]);first | done | rfl) ?_
  refine (hsame.out _ _ _ hHeld.1 hCf'.out hcf'.out).mono ?_
  rintro e w2 ⟨rfl,hd⟩
  have hbl:=drawn_below hd
  refine ⟨_,rfl,?_⟩
  refine hK.out _ _ ⟨below_step hHeld.1 hbl,heap_below hHeld.2 hbl⟩ (fun hHeld=>?_)
  have b2:=Lib.hid hHeld.1
  have g2:=Lib.hid hHeld.2
  clear hbl hd
  clear hK K;refine norm_ (a':=?_) ?_ ?_
  rotate_left
  ·show Act.put _ (some 16) _=_
   simp only[Act.put,sZ0,sZ1,sZ2,i64_w,i32_w];rfl
  refine pure_ (i:=4) (N:=some 17) (v:=?_) (a':=?_) #[true,true,true,true,true] rfl rfl (by kernel_rfl) (fun _ _ _ h=>h) (Or.inl ⟨by rfl,?_⟩) ?_ ?_
  rotate_left
  ·intro w';go_simp;with_reducible rfl
  rotate_left
  ·simp only[Act.put,sZ0,sZ1,sZ2,i64_w,i32_w];rfl
  refine done_ (by kernel_rfl) ?_
  go_wp2_with fail
  have hl:=hl'.out
  have hn0:=numTo A c l hb'.out 8 (by omega) (by omega) (by decide)
  obtain ⟨A8,hs8,hn8⟩:=numCut A c l hb'.out 8 16 (by omega) (by omega) (by omega) (by omega)
  obtain ⟨A32,hs32,hn32⟩:=numCut A c l hb'.out 32 40 (by omega) (by omega) (by omega) (by omega)
  obtain ⟨A16,hs16,hc16⟩:=cutB A l.length c 16 32 l (by omega) (by omega) (by omega)
  obtain ⟨A48,hs48,hc48⟩:=cutB A l.length c 48 80 l (by omega) (by omega) (by omega)
  obtain ⟨V0,hV0⟩:∃ V,V=valL (l.take 8):=⟨_,rfl⟩
  obtain ⟨V8,hV8⟩:∃ V,V=valL ((l.take 16).drop 8):=⟨_,rfl⟩
  obtain ⟨V32,hV32⟩:∃ V,V=valL ((l.take 40).drop 32):=⟨_,rfl⟩
  obtain ⟨LS,hLS⟩:∃ V,V=(l.take 32).drop 16:=⟨_,rfl⟩
  obtain ⟨LC,hLC⟩:∃ V,V=(l.take 80).drop 48:=⟨_,rfl⟩
  have hLSl:LS.length=16:=by rw[hLS,part_len l 16 32 (by omega)]
  have hLCl:LC.length=32:=by rw[hLC,part_len l 48 80 (by omega)]
  have hhead:rcHead l=⟨V0,V8,LS,V32,LC,fun k=>(slRead (partR l k)).getD slZero⟩:=by rw[hV0,hV8,hV32,hLS,hLC];rfl
  rw[← hV0] at hn0
  rw[← hV8] at hn8
  rw[← hV32] at hn32
  rw[← hLS] at hc16
  rw[← hLC] at hc48
  rw[hl] at hs8 hs32 hs16 hs48
  have s8:=Lib.hid (show ∀ W:World,(Instr.slice 23 (.slice A 624 c) (some (.int .i64 8)) (some (.int .i64 16)) none).run Try.prog W=.ok (.slice A8 8 (c - 8)) W from hs8)
  have s32:=Lib.hid (show ∀ W:World,(Instr.slice 23 (.slice A 624 c) (some (.int .i64 32)) (some (.int .i64 40)) none).run Try.prog W=.ok (.slice A32 8 (c - 32)) W from hs32)
  have s16:=Lib.hid (show ∀ W:World,(Instr.slice 23 (.slice A 624 c) (some (.int .i64 16)) (some (.int .i64 32)) none).run Try.prog W=.ok (.slice A16 16 (c - 16)) W from hs16)
  have s48:=Lib.hid (show ∀ W:World,(Instr.slice 23 (.slice A 624 c) (some (.int .i64 48)) (some (.int .i64 80)) none).run Try.prog W=.ok (.slice A48 32 (c - 48)) W from hs48)
  have s0:=Lib.hid (fun W:World=>show (Instr.slice 23 (.slice A 624 c) none (some (.int .i64 8)) none).run Try.prog W=.ok (.slice A 8 c) W from cut_to A 624 c 8 (by omega) W)
  have n0:=Lib.hid (fun (W:World) (h:Below w.heap.size w W)=>hn0 W (Kd.C_below hC'.out h))
  have n8:=Lib.hid (fun (W:World) (h:Below w.heap.size w W)=>show Calls Try.prog 49 #[.slice A8 8 (c - 8)] W _ from hn8 W (Kd.C_below hC'.out h))
  have n32:=Lib.hid (fun (W:World) (h:Below w.heap.size w W)=>show Calls Try.prog 49 #[.slice A32 8 (c - 32)] W _ from hn32 W (Kd.C_below hC'.out h))
  have src16:=Lib.hid (fun (W:World) (h:Below w.heap.size w W)=>show Src Try.prog 1 23 (.slice A16 16 (c - 16)) LS.length (LS.map (Value.int .u8)) W from src_cut hLSl (hc16 W (Kd.C_below hC'.out h)))
  have src48:=Lib.hid (fun (W:World) (h:Below w.heap.size w W)=>show Src Try.prog 1 23 (.slice A48 32 (c - 48)) LC.length (LC.map (Value.int .u8)) W from src_cut hLCl (hc48 W (Kd.C_below hC'.out h)))
  obtain ⟨G,hG⟩:∃ G:Array Value,G=(rcl ⟨V0,V8,[],V32,[],fun _=>slZero⟩ (fun _=>none) (fun _=>0)).toArray:=⟨_,rfl⟩
  have hGb:=Lib.hid (show ∀ (W:World),(Instr.build 28 #[(0,.int .u64 V0),(1,.int .u64 V8),(3,.int .u64 V32)]).run Try.prog W=.ok (.agg G) W from fun W=>by rw[hG];exact run_build W _ _ _ (builtRc3 V0 V8 V32))
  have hGs:=Lib.hid (show (Try.prog.info? 28).map (·.size)=some G.size by rw[hG];exact szRc)
  have hGo:=Lib.hid (show G.all (·.oneCell')=true by rw[hG];exact rcl_one _ _ _)
  have hGZ:=Lib.hid (show Z.size=G.size by rw[hG,hZ'.out];rfl)
  have hG':=Lib.hid hG
  have hhead':=Lib.hid hhead
  have hLSl':=Lib.hid hLSl
  have hLCl':=Lib.hid hLCl
  clear hs8 hs32 hs16 hs48 hn0 hn8 hn32 hc16 hc48 hV0 hV8 hV32 hLS hLC hLSl hLCl hhead hG hl hfill hsame s40 hg0 hbw0 hCf' hcf'
  go_cut [4] (fun v w'=>RcMid w V0 V8 V32 v w')
  case first=>
   refine start_ (n:=12) (S:=fun w'=>Below w.heap.size w w'∧w'.heap[w.heap.size]?=some (.cells Z 28 (0,0))) (ds:=[11]) #[false,false,false,false,false,false,false,false,false,false,false,false] (by kernel_rfl) rfl rfl (by exact ⟨below_drew b2.out,g2.out⟩) (fun hHeld=>?_)
   refine pure_ (i:=0) (N:=some 19) (v:=?_) (a':=?_) #[true,false,false,false,false,false,false,false,false,false,false,false] rfl rfl (by kernel_rfl) (fun _ _ _ h=>h) (Or.inl ⟨by rfl,?_⟩) ?_ ?_
   rotate_left
   ·intro w';go_simp;with_reducible rfl
   rotate_left
   ·simp only[Act.put,sZ0,sZ1,sZ2,i64_w,i32_w];rfl
   refine pure_ (i:=1) (N:=some 20) (v:=?_) (a':=?_) #[true,true,false,false,false,false,false,false,false,false,false,false] rfl rfl (by kernel_rfl) (fun _ _ _ h=>h) (Or.inl ⟨by rfl,?_⟩) ?_ ?_
   rotate_left
   ·intro w'
    refine (exec_slice_h w' 23 _ Try.underlying23 _ _ (by rfl) (.slice A 624 c) (.int .i64 8) _ (by rfl) (by rfl) (s0.out w')).trans ?_;with_reducible rfl
   rotate_left
   ·simp only[Act.put,sZ0,sZ1,sZ2,i64_w,i32_w];rfl
   refine pure_ (i:=3) (N:=some 22) (v:=?_) (a':=?_) #[true,true,false,true,false,false,false,false,false,false,false,false] rfl rfl (by kernel_rfl) (fun _ _ _ h=>h) (Or.inl ⟨by rfl,?_⟩) ?_ ?_
   rotate_left
   ·intro w';go_simp;with_reducible rfl
   rotate_left
   ·simp only[Act.put,sZ0,sZ1,sZ2,i64_w,i32_w];rfl
   refine pure_ (i:=4) (N:=some 23) (v:=?_) (a':=?_) #[true,true,false,true,true,false,false,false,false,false,false,false] rfl rfl (by kernel_rfl) (fun _ _ _ h=>h) (Or.inl ⟨by rfl,?_⟩) ?_ ?_
   rotate_left
   ·intro w'
    refine (exec_slice_lh w' 23 _ Try.underlying23 _ _ _ (by rfl) (.slice A 624 c) (.int .i64 8) (.int .i64 16) _ (by rfl) (by rfl) (by rfl) (s8.out w')).trans ?_;with_reducible rfl
   rotate_left
   ·simp only[Act.put,sZ0,sZ1,sZ2,i64_w,i32_w];rfl
   refine pure_ (i:=6) (N:=some 25) (v:=?_) (a':=?_) #[true,true,false,true,true,false,true,false,false,false,false,false] rfl rfl (by kernel_rfl) (fun _ _ _ h=>h) (Or.inl ⟨by rfl,?_⟩) ?_ ?_
   rotate_left
   ·intro w';go_simp;with_reducible rfl
   rotate_left
   ·simp only[Act.put,sZ0,sZ1,sZ2,i64_w,i32_w];rfl
   refine pure_ (i:=7) (N:=some 26) (v:=?_) (a':=?_) #[true,true,false,true,true,false,true,true,false,false,false,false] rfl rfl (by kernel_rfl) (fun _ _ _ h=>h) (Or.inl ⟨by rfl,?_⟩) ?_ ?_
   rotate_left
   ·intro w'
    refine (exec_slice_lh w' 23 _ Try.underlying23 _ _ _ (by rfl) (.slice A 624 c) (.int .i64 32) (.int .i64 40) _ (by rfl) (by rfl) (by rfl) (s32.out w')).trans ?_;with_reducible rfl
   rotate_left
   ·simp only[Act.put,sZ0,sZ1,sZ2,i64_w,i32_w];rfl
   refine two_ (i:=2) (Ni:=some 21) (j:=10) (Nj:=some 4) #[true,true,true,true,true,false,true,true,false,false,false,false] #[true,true,false,true,true,false,true,true,false,false,true,false] rfl rfl rfl rfl (by kernel_rfl) (by decide) (by decide) (fun K hK=>?_) (fun K hK=>?_)
   ·skip
    refine goes_ Try.func49 (by kernel_rfl) rfl #[.slice A 8 c] (by rfl) rfl rfl (by (try simp only[List.map_toArray,List.map_cons,List.map_nil]);first | done | rfl) ?_
    refine (n0.out _ hHeld.1).mono ?_
    rintro e wn ⟨rfl,hd⟩
    have hb:=drawn_below hd
    refine ⟨_,rfl,?_⟩
    refine hK.out _ _ ⟨below_step hHeld.1 hb,heap_below hHeld.2 hb⟩ (fun hHeld=>?_)
    (try have hA:=Lib.hid (heap_below hA.out hb))
    clear hb hd
    clear hK K;refine norm_ (a':=?_) ?_ ?_
    rotate_left
    ·show Act.put _ (some 21) _=_
     simp only[Act.put,sZ0,sZ1,sZ2,i64_w,i32_w];rfl
    refine two_ (i:=5) (Ni:=some 24) (j:=10) (Nj:=some 4) #[true,true,true,true,true,true,true,true,false,false,false,false] #[true,true,true,true,true,false,true,true,false,false,true,false] rfl rfl rfl rfl (by kernel_rfl) (by decide) (by decide) (fun K hK=>?_) (fun K hK=>?_)
    ·skip
     refine goes_ Try.func49 (by kernel_rfl) rfl #[.slice A8 8 (c - 8)] (by rfl) rfl rfl (by (try simp only[List.map_toArray,List.map_cons,List.map_nil]);first | done | rfl) ?_
     refine (n8.out _ hHeld.1).mono ?_
     rintro e wn ⟨rfl,hd⟩
     have hb:=drawn_below hd
     refine ⟨_,rfl,?_⟩
     refine hK.out _ _ ⟨below_step hHeld.1 hb,heap_below hHeld.2 hb⟩ (fun hHeld=>?_)
     (try have hA:=Lib.hid (heap_below hA.out hb))
     clear hb hd
     clear hK K;refine norm_ (a':=?_) ?_ ?_
     rotate_left
     ·show Act.put _ (some 24) _=_
      simp only[Act.put,sZ0,sZ1,sZ2,i64_w,i32_w];rfl
     refine two_ (i:=8) (Ni:=some 27) (j:=10) (Nj:=some 4) #[true,true,true,true,true,true,true,true,true,false,false,false] #[true,true,true,true,true,true,true,true,false,false,true,false] rfl rfl rfl rfl (by kernel_rfl) (by decide) (by decide) (fun K hK=>?_) (fun K hK=>?_)
     ·skip
      refine goes_ Try.func49 (by kernel_rfl) rfl #[.slice A32 8 (c - 32)] (by rfl) rfl rfl (by (try simp only[List.map_toArray,List.map_cons,List.map_nil]);first | done | rfl) ?_
      refine (n32.out _ hHeld.1).mono ?_
      rintro e wn ⟨rfl,hd⟩
      have hb:=drawn_below hd
      refine ⟨_,rfl,?_⟩
      refine hK.out _ _ ⟨below_step hHeld.1 hb,heap_below hHeld.2 hb⟩ (fun hHeld=>?_)
      (try have hA:=Lib.hid (heap_below hA.out hb))
      clear hb hd
      clear hK K;refine norm_ (a':=?_) ?_ ?_
      rotate_left
      ·show Act.put _ (some 27) _=_
       simp only[Act.put,sZ0,sZ1,sZ2,i64_w,i32_w];rfl
      refine pure_ (i:=9) (N:=some 28) (v:=?_) (a':=?_) #[true,true,true,true,true,true,true,true,true,true,false,false] rfl rfl (by kernel_rfl) (fun _ _ _ h=>h) (Or.inl ⟨by rfl,?_⟩) ?_ ?_
      rotate_left
      ·intro w'
       have hq:=hGb.out w';go_simp;with_reducible rfl
      rotate_left
      ·simp only[Act.put,sZ0,sZ1,sZ2,i64_w,i32_w];rfl
      refine one_ (i:=10) (N:=some 4) #[true,true,true,true,true,true,true,true,true,true,true,false] rfl rfl (by kernel_rfl) (by decide) (fun K hK=>?_)
      refine step_alloc 28 Z (by rfl) rfl (by rfl) hz ?_
      intro g4 wn hA0 hg4 hb
      have hg:=Lib.hid (Nat.lt_of_lt_of_le (lt_of_heap hHeld.2) hg4)
      have hA:=Lib.hid hA0
      refine hK.out _ _ ⟨below_step hHeld.1 hb,heap_below hHeld.2 hb⟩ (fun hHeld=>?_)
      clear hb hA0 hg4
      clear hK K;refine norm_ (a':=?_) ?_ ?_
      rotate_left
      ·show Act.put _ (some 4) _=_
       simp only[Act.put,sZ0,sZ1,sZ2,i64_w,i32_w];rfl
      refine last_ (i:=11) (N:=none) #[true,true,true,true,true,true,true,true,true,true,true,true] rfl rfl (by kernel_rfl) (by decide) (fun K hK=>?_)
      refine step_store 28 (.tmp 4) (.tmp 28) g4 G 28 Z (by rfl) rfl (by rfl) (by rfl) (by rfl) hA.out hGs.out hGZ.out hGo.out ?_
      intro wn hA1 hbut hbel
      refine hK.out _ _ ?_
      have hfin:RcMid w V0 V8 V32 (.pointer (some ⟨g4,0,none⟩)) wn:=⟨g4,rfl,by rw[hA1,hG'.out],hg.out,by rw[← hZ'.out];exact (hbut.2 _ (lt_of_heap hHeld.2) (Nat.ne_of_lt hg.out)).trans hHeld.2,hHeld.1.trans (hbel _ (Nat.le_of_lt hg.out))⟩
      have hfin':=Lib.hid hfin
      clear hA1 hbut hbel hfin
      clear hK K;refine done_ (by kernel_rfl) ?_
      go_step;go_step
      go_meet
      exact hfin'.out
     refine step_alloc 28 Z (by rfl) rfl (by rfl) hz ?_
     intro g4 wn hA0 hg4 hb
     have hg:=Lib.hid (Nat.lt_of_lt_of_le (lt_of_heap hHeld.2) hg4)
     have hA:=Lib.hid hA0
     refine hK.out _ _ ⟨below_step hHeld.1 hb,heap_below hHeld.2 hb⟩ (fun hHeld=>?_)
     clear hb hA0 hg4
     clear hK K;refine norm_ (a':=?_) ?_ ?_
     rotate_left
     ·show Act.put _ (some 4) _=_
      simp only[Act.put,sZ0,sZ1,sZ2,i64_w,i32_w];rfl
     refine one_ (i:=8) (N:=some 27) #[true,true,true,true,true,true,true,true,true,false,true,false] rfl rfl (by kernel_rfl) (by decide) (fun K hK=>?_)
     refine goes_ Try.func49 (by kernel_rfl) rfl #[.slice A32 8 (c - 32)] (by rfl) rfl rfl (by (try simp only[List.map_toArray,List.map_cons,List.map_nil]);first | done | rfl) ?_
     refine (n32.out _ hHeld.1).mono ?_
     rintro e wn ⟨rfl,hd⟩
     have hb:=drawn_below hd
     refine ⟨_,rfl,?_⟩
     refine hK.out _ _ ⟨below_step hHeld.1 hb,heap_below hHeld.2 hb⟩ (fun hHeld=>?_)
     (try have hA:=Lib.hid (heap_below hA.out hb))
     clear hb hd
     clear hK K;refine norm_ (a':=?_) ?_ ?_
     rotate_left
     ·show Act.put _ (some 27) _=_
      simp only[Act.put,sZ0,sZ1,sZ2,i64_w,i32_w];rfl
     refine pure_ (i:=9) (N:=some 28) (v:=?_) (a':=?_) #[true,true,true,true,true,true,true,true,true,true,true,false] rfl rfl (by kernel_rfl) (fun _ _ _ h=>h) (Or.inl ⟨by rfl,?_⟩) ?_ ?_
     rotate_left
     ·intro w'
      have hq:=hGb.out w';go_simp;with_reducible rfl
     rotate_left
     ·simp only[Act.put,sZ0,sZ1,sZ2,i64_w,i32_w];rfl
     refine last_ (i:=11) (N:=none) #[true,true,true,true,true,true,true,true,true,true,true,true] rfl rfl (by kernel_rfl) (by decide) (fun K hK=>?_)
     refine step_store 28 (.tmp 4) (.tmp 28) g4 G 28 Z (by rfl) rfl (by rfl) (by rfl) (by rfl) hA.out hGs.out hGZ.out hGo.out ?_
     intro wn hA1 hbut hbel
     refine hK.out _ _ ?_
     have hfin:RcMid w V0 V8 V32 (.pointer (some ⟨g4,0,none⟩)) wn:=⟨g4,rfl,by rw[hA1,hG'.out],hg.out,by rw[← hZ'.out];exact (hbut.2 _ (lt_of_heap hHeld.2) (Nat.ne_of_lt hg.out)).trans hHeld.2,hHeld.1.trans (hbel _ (Nat.le_of_lt hg.out))⟩
     have hfin':=Lib.hid hfin
     clear hA1 hbut hbel hfin
     clear hK K;refine done_ (by kernel_rfl) ?_
     go_step;go_step
     go_meet
     exact hfin'.out
    refine step_alloc 28 Z (by rfl) rfl (by rfl) hz ?_
    intro g4 wn hA0 hg4 hb
    have hg:=Lib.hid (Nat.lt_of_lt_of_le (lt_of_heap hHeld.2) hg4)
    have hA:=Lib.hid hA0
    refine hK.out _ _ ⟨below_step hHeld.1 hb,heap_below hHeld.2 hb⟩ (fun hHeld=>?_)
    clear hb hA0 hg4
    clear hK K;refine norm_ (a':=?_) ?_ ?_
    rotate_left
    ·show Act.put _ (some 4) _=_
     simp only[Act.put,sZ0,sZ1,sZ2,i64_w,i32_w];rfl
    refine one_ (i:=5) (N:=some 24) #[true,true,true,true,true,true,true,true,false,false,true,false] rfl rfl (by kernel_rfl) (by decide) (fun K hK=>?_)
    refine goes_ Try.func49 (by kernel_rfl) rfl #[.slice A8 8 (c - 8)] (by rfl) rfl rfl (by (try simp only[List.map_toArray,List.map_cons,List.map_nil]);first | done | rfl) ?_
    refine (n8.out _ hHeld.1).mono ?_
    rintro e wn ⟨rfl,hd⟩
    have hb:=drawn_below hd
    refine ⟨_,rfl,?_⟩
    refine hK.out _ _ ⟨below_step hHeld.1 hb,heap_below hHeld.2 hb⟩ (fun hHeld=>?_)
    (try have hA:=Lib.hid (heap_below hA.out hb))
    clear hb hd
    clear hK K;refine norm_ (a':=?_) ?_ ?_
    rotate_left
    ·show Act.put _ (some 24) _=_
     simp only[Act.put,sZ0,sZ1,sZ2,i64_w,i32_w];rfl
    refine one_ (i:=8) (N:=some 27) #[true,true,true,true,true,true,true,true,true,false,true,false] rfl rfl (by kernel_rfl) (by decide) (fun K hK=>?_)
    refine goes_ Try.func49 (by kernel_rfl) rfl #[.slice A32 8 (c - 32)] (by rfl) rfl rfl (by (try simp only[List.map_toArray,List.map_cons,List.map_nil]);first | done | rfl) ?_
    refine (n32.out _ hHeld.1).mono ?_
    rintro e wn ⟨rfl,hd⟩
    have hb:=drawn_below hd
    refine ⟨_,rfl,?_⟩
    refine hK.out _ _ ⟨below_step hHeld.1 hb,heap_below hHeld.2 hb⟩ (fun hHeld=>?_)
    (try have hA:=Lib.hid (heap_below hA.out hb))
    clear hb hd
    clear hK K;refine norm_ (a':=?_) ?_ ?_
    rotate_left
    ·show Act.put _ (some 27) _=_
     simp only[Act.put,sZ0,sZ1,sZ2,i64_w,i32_w];rfl
    refine pure_ (i:=9) (N:=some 28) (v:=?_) (a':=?_) #[true,true,true,true,true,true,true,true,true,true,true,false] rfl rfl (by kernel_rfl) (fun _ _ _ h=>h) (Or.inl ⟨by rfl,?_⟩) ?_ ?_
    rotate_left
    ·intro w'
     have hq:=hGb.out w';go_simp;with_reducible rfl
    rotate_left
    ·simp only[Act.put,sZ0,sZ1,sZ2,i64_w,i32_w];rfl
    refine last_ (i:=11) (N:=none) #[true,true,true,true,true,true,true,true,true,true,true,true] rfl rfl (by kernel_rfl) (by decide) (fun K hK=>?_)
    refine step_store 28 (.tmp 4) (.tmp 28) g4 G 28 Z (by rfl) rfl (by rfl) (by rfl) (by rfl) hA.out hGs.out hGZ.out hGo.out ?_
    intro wn hA1 hbut hbel
    refine hK.out _ _ ?_
    have hfin:RcMid w V0 V8 V32 (.pointer (some ⟨g4,0,none⟩)) wn:=⟨g4,rfl,by rw[hA1,hG'.out],hg.out,by rw[← hZ'.out];exact (hbut.2 _ (lt_of_heap hHeld.2) (Nat.ne_of_lt hg.out)).trans hHeld.2,hHeld.1.trans (hbel _ (Nat.le_of_lt hg.out))⟩
    have hfin':=Lib.hid hfin
    clear hA1 hbut hbel hfin
    clear hK K;refine done_ (by kernel_rfl) ?_
    go_step;go_step
    go_meet
    exact hfin'.out
   refine step_alloc 28 Z (by rfl) rfl (by rfl) hz ?_
   intro g4 wn hA0 hg4 hb
   have hg:=Lib.hid (Nat.lt_of_lt_of_le (lt_of_heap hHeld.2) hg4)
   have hA:=Lib.hid hA0
   refine hK.out _ _ ⟨below_step hHeld.1 hb,heap_below hHeld.2 hb⟩ (fun hHeld=>?_)
   clear hb hA0 hg4
   clear hK K;refine norm_ (a':=?_) ?_ ?_
   rotate_left
   ·show Act.put _ (some 4) _=_
    simp only[Act.put,sZ0,sZ1,sZ2,i64_w,i32_w];rfl
   refine one_ (i:=2) (N:=some 21) #[true,true,true,true,true,false,true,true,false,false,true,false] rfl rfl (by kernel_rfl) (by decide) (fun K hK=>?_)
   refine goes_ Try.func49 (by kernel_rfl) rfl #[.slice A 8 c] (by rfl) rfl rfl (by (try simp only[List.map_toArray,List.map_cons,List.map_nil]);first | done | rfl) ?_
   refine (n0.out _ hHeld.1).mono ?_
   rintro e wn ⟨rfl,hd⟩
   have hb:=drawn_below hd
   refine ⟨_,rfl,?_⟩
   refine hK.out _ _ ⟨below_step hHeld.1 hb,heap_below hHeld.2 hb⟩ (fun hHeld=>?_)
   (try have hA:=Lib.hid (heap_below hA.out hb))
   clear hb hd
   clear hK K;refine norm_ (a':=?_) ?_ ?_
   rotate_left
   ·show Act.put _ (some 21) _=_
    simp only[Act.put,sZ0,sZ1,sZ2,i64_w,i32_w];rfl
   refine one_ (i:=5) (N:=some 24) #[true,true,true,true,true,true,true,true,false,false,true,false] rfl rfl (by kernel_rfl) (by decide) (fun K hK=>?_)
   refine goes_ Try.func49 (by kernel_rfl) rfl #[.slice A8 8 (c - 8)] (by rfl) rfl rfl (by (try simp only[List.map_toArray,List.map_cons,List.map_nil]);first | done | rfl) ?_
   refine (n8.out _ hHeld.1).mono ?_
   rintro e wn ⟨rfl,hd⟩
   have hb:=drawn_below hd
   refine ⟨_,rfl,?_⟩
   refine hK.out _ _ ⟨below_step hHeld.1 hb,heap_below hHeld.2 hb⟩ (fun hHeld=>?_)
   (try have hA:=Lib.hid (heap_below hA.out hb))
   clear hb hd
   clear hK K;refine norm_ (a':=?_) ?_ ?_
   rotate_left
   ·show Act.put _ (some 24) _=_
    simp only[Act.put,sZ0,sZ1,sZ2,i64_w,i32_w];rfl
   refine one_ (i:=8) (N:=some 27) #[true,true,true,true,true,true,true,true,true,false,true,false] rfl rfl (by kernel_rfl) (by decide) (fun K hK=>?_)
   refine goes_ Try.func49 (by kernel_rfl) rfl #[.slice A32 8 (c - 32)] (by rfl) rfl rfl (by (try simp only[List.map_toArray,List.map_cons,List.map_nil]);first | done | rfl) ?_
   refine (n32.out _ hHeld.1).mono ?_
   rintro e wn ⟨rfl,hd⟩
   have hb:=drawn_below hd
   refine ⟨_,rfl,?_⟩
   refine hK.out _ _ ⟨below_step hHeld.1 hb,heap_below hHeld.2 hb⟩ (fun hHeld=>?_)
   (try have hA:=Lib.hid (heap_below hA.out hb))
   clear hb hd
   clear hK K;refine norm_ (a':=?_) ?_ ?_
   rotate_left
   ·show Act.put _ (some 27) _=_
    simp only[Act.put,sZ0,sZ1,sZ2,i64_w,i32_w];rfl
   refine pure_ (i:=9) (N:=some 28) (v:=?_) (a':=?_) #[true,true,true,true,true,true,true,true,true,true,true,false] rfl rfl (by kernel_rfl) (fun _ _ _ h=>h) (Or.inl ⟨by rfl,?_⟩) ?_ ?_
   rotate_left
   ·intro w'
    have hq:=hGb.out w';go_simp;with_reducible rfl
   rotate_left
   ·simp only[Act.put,sZ0,sZ1,sZ2,i64_w,i32_w];rfl
   refine last_ (i:=11) (N:=none) #[true,true,true,true,true,true,true,true,true,true,true,true] rfl rfl (by kernel_rfl) (by decide) (fun K hK=>?_)
   refine step_store 28 (.tmp 4) (.tmp 28) g4 G 28 Z (by rfl) rfl (by rfl) (by rfl) (by rfl) hA.out hGs.out hGZ.out hGo.out ?_
   intro wn hA1 hbut hbel
   refine hK.out _ _ ?_
   have hfin:RcMid w V0 V8 V32 (.pointer (some ⟨g4,0,none⟩)) wn:=⟨g4,rfl,by rw[hA1,hG'.out],hg.out,by rw[← hZ'.out];exact (hbut.2 _ (lt_of_heap hHeld.2) (Nat.ne_of_lt hg.out)).trans hHeld.2,hHeld.1.trans (hbel _ (Nat.le_of_lt hg.out))⟩
   have hfin':=Lib.hid hfin
   clear hA1 hbut hbel hfin
   clear hK K;refine done_ (by kernel_rfl) ?_
   go_step;go_step
   go_meet
   exact hfin'.out
  case rest=>
   obtain ⟨g4,rfl,hg4,hlt,hgZ,hbw⟩:=hcut
   have hg4':=Lib.hid hg4
   have hlt':=Lib.hid hlt
   have hgZ':=Lib.hid hgZ
   have hbw':=Lib.hid hbw
   clear hg4 hlt hgZ hbw b2 g2 n0 n8 n32 s0 s8 s32 hGb hGs hGo hGZ hG'
   go_wp2_with fail
   go_cut [4] (fun v w'=>RcMid2 w V0 V8 V32 LS LC v w')
   case first=>
    refine start_ (n:=12) (S:=fun w'=>Below w.heap.size w w'∧w'.heap[g4]?=some (.cells (rcl ⟨V0,V8,[],V32,[],fun _=>slZero⟩ (fun _=>none) (fun _=>0)).toArray 28 (0,0))∧w'.heap[w.heap.size]?=some (.cells zRc 28 (0,0))) (ds:=[9,11]) #[false,false,false,false,false,false,false,false,false,false,false,false] (by kernel_rfl) rfl rfl (by exact ⟨below_drew hbw'.out,hg4'.out,hgZ'.out⟩) (fun hHeld=>?_)
    refine pure_ (i:=1) (N:=some 30) (v:=?_) (a':=?_) #[false,true,false,false,false,false,false,false,false,false,false,false] rfl rfl (by kernel_rfl) (fun _ _ _ h=>h) (Or.inl ⟨by rfl,?_⟩) ?_ ?_
    rotate_left
    ·intro w';go_simp;with_reducible rfl
    rotate_left
    ·simp only[Act.put,sZ0,sZ1,sZ2,i64_w,i32_w];rfl
    refine pure_ (i:=2) (N:=some 31) (v:=?_) (a':=?_) #[false,true,true,false,false,false,false,false,false,false,false,false] rfl rfl (by kernel_rfl) (fun _ _ _ h=>h) (Or.inl ⟨by rfl,?_⟩) ?_ ?_
    rotate_left
    ·intro w'
     refine (exec_slice_lh w' 23 _ Try.underlying23 _ _ _ (by rfl) (.slice A 624 c) (.int .i64 16) (.int .i64 32) _ (by rfl) (by rfl) (by rfl) (s16.out w')).trans ?_;with_reducible rfl
    rotate_left
    ·simp only[Act.put,sZ0,sZ1,sZ2,i64_w,i32_w];rfl
    refine pure_ (i:=5) (N:=some 34) (v:=?_) (a':=?_) #[false,true,true,false,false,true,false,false,false,false,false,false] rfl rfl (by kernel_rfl) (fun _ _ _ h=>h) (Or.inl ⟨by rfl,?_⟩) ?_ ?_
    rotate_left
    ·intro w';go_simp;with_reducible rfl
    rotate_left
    ·simp only[Act.put,sZ0,sZ1,sZ2,i64_w,i32_w];rfl
    refine pure_ (i:=6) (N:=some 35) (v:=?_) (a':=?_) #[false,true,true,false,false,true,true,false,false,false,false,false] rfl rfl (by kernel_rfl) (fun _ _ _ h=>h) (Or.inl ⟨by rfl,?_⟩) ?_ ?_
    rotate_left
    ·intro w'
     refine (exec_slice_lh w' 23 _ Try.underlying23 _ _ _ (by rfl) (.slice A 624 c) (.int .i64 48) (.int .i64 80) _ (by rfl) (by rfl) (by rfl) (s48.out w')).trans ?_;with_reducible rfl
    rotate_left
    ·simp only[Act.put,sZ0,sZ1,sZ2,i64_w,i32_w];rfl
    refine two_ (i:=0) (Ni:=some 29) (j:=4) (Nj:=some 33) #[true,true,true,false,false,true,true,false,false,false,false,false] #[false,true,true,false,true,true,true,false,false,false,false,false] rfl rfl rfl rfl (by kernel_rfl) (by decide) (by decide) (fun K hK=>?_) (fun K hK=>?_)
    ·skip
     refine step_empty 23 5 (by rfl) rfl (by rfl) Try.underlying23 size5' ?_
     intro gE wn hE0 hb
     (try have hNE:=Lib.hid (show gF≠gE from Nat.ne_of_lt (Nat.lt_of_lt_of_le (hF.out.lt gF rfl).2 (hE0.lt gE rfl).1)))
     have hE:=Lib.hid (own_less hE0 hHeld.1.size)
     refine hK.out _ _ ⟨below_step hHeld.1 hb,heap_below hHeld.2.1 hb,heap_below hHeld.2.2 hb⟩ (fun hHeld=>?_)
     (try have hF:=Lib.hid (own_move hF.out (fun k hk=>hb.block k (hF.out.lt k hk).2)))
     clear hb hE0
     clear hK K;refine norm_ (a':=?_) ?_ ?_
     rotate_left
     ·show Act.put _ (some 29) _=_
      simp only[Act.put,sZ0,sZ1,sZ2,i64_w,i32_w];rfl
     refine two_ (i:=3) (Ni:=some 32) (j:=4) (Nj:=some 33) #[true,true,true,true,false,true,true,false,false,false,false,false] #[true,true,true,false,true,true,true,false,false,false,false,false] rfl rfl rfl rfl (by kernel_rfl) (by decide) (by decide) (fun K hK=>?_) (fun K hK=>?_)
     ·skip
      refine step_append1 w.heap.size (.tmp 29) (.tmp 31) 23 (.slice (some ⟨gE,0,none⟩) 0 0) (.slice A16 16 (c - 16)) LS (by rfl) rfl (by rfl) (by rfl) (by rfl) (src16.out _ hHeld.1) hE.out hHeld.1.size (by have:=hLSl'.out;omega) ?_
      intro AS cS wn hR0 hgr hat hbg
      (try have hNR:=Lib.hid (show ∀ k,(Value.slice AS LS.length cS).ownBlock=some k→k≠gF from fun k hk=>(hat k hk).elim (fun h1=>fun e=>hNE.out (e.symm.trans (Option.some.inj (show some gE=some k from h1)).symm)) (fun h1=>Nat.ne_of_gt (Nat.lt_of_lt_of_le (hF.out.lt gF rfl).2 h1))))
      (try have hF:=Lib.hid (own_move hF.out (fun k hk=>hgr.block k (hF.out.lt k hk).2 (fun e=>hNE.out ((Option.some.inj (show some gF=some k from hk)).trans (Option.some.inj (show some k=some gE from e)))))))
      refine hK.out _ _ ⟨hbg _ _ (Nat.le_refl _) hHeld.1,blk_grown hHeld.2.1 hgr (fun e=>own_ne hE.out hHeld.2.1 (by decide) _ e.symm rfl),blk_grown hHeld.2.2 hgr (fun e=>own_ne hE.out hHeld.2.2 (by decide) _ e.symm rfl)⟩ (fun hHeld=>?_)
      have hR:=Lib.hid hR0
      clear hgr hbg hR0 hat
      clear hK K;refine norm_ (a':=?_) ?_ ?_
      rotate_left
      ·show Act.put _ (some 32) _=_
       simp only[Act.put,sZ0,sZ1,sZ2,i64_w,i32_w];rfl
      refine pure_ (i:=8) (N:=some 37) (v:=?_) (a':=?_) #[true,true,true,true,false,true,true,false,true,false,false,false] rfl rfl (by kernel_rfl) (fun _ _ _ h=>h) (Or.inl ⟨by rfl,?_⟩) ?_ ?_
      rotate_left
      ·intro w';go_simp;with_reducible rfl
      rotate_left
      ·simp only[Act.put,sZ0,sZ1,sZ2,i64_w,i32_w];rfl
      refine one_ (i:=4) (N:=some 33) #[true,true,true,true,true,true,true,false,true,false,false,false] rfl rfl (by kernel_rfl) (by decide) (fun K hK=>?_)
      refine step_empty 23 5 (by rfl) rfl (by rfl) Try.underlying23 size5' ?_
      intro gF wn hF0 hb
      (try have hNE:=Lib.hid (show gF≠gE from Nat.ne_of_gt (Nat.lt_of_lt_of_le (hE.out.lt gE rfl).2 (hF0.lt gF rfl).1)))
      (try have hNR:=Lib.hid (show ∀ k,(Value.slice AS LS.length cS).ownBlock=some k→k≠gF from fun k hk=>Nat.ne_of_lt (Nat.lt_of_lt_of_le (hR.out.lt k hk).2 (hF0.lt gF rfl).1)))
      have hF:=Lib.hid (own_less hF0 hHeld.1.size)
      refine hK.out _ _ ⟨below_step hHeld.1 hb,heap_below hHeld.2.1 hb,heap_below hHeld.2.2 hb⟩ (fun hHeld=>?_)
      (try have hE:=Lib.hid (own_move hE.out (fun k hk=>hb.block k (hE.out.lt k hk).2)))
      (try have hR:=Lib.hid (own_move hR.out (fun k hk=>hb.block k (hR.out.lt k hk).2)))
      clear hb hF0
      clear hK K;refine norm_ (a':=?_) ?_ ?_
      rotate_left
      ·show Act.put _ (some 33) _=_
       simp only[Act.put,sZ0,sZ1,sZ2,i64_w,i32_w];rfl
      refine one_ (i:=7) (N:=some 36) #[true,true,true,true,true,true,true,true,true,false,false,false] rfl rfl (by kernel_rfl) (by decide) (fun K hK=>?_)
      refine step_append1 w.heap.size (.tmp 33) (.tmp 35) 23 (.slice (some ⟨gF,0,none⟩) 0 0) (.slice A48 32 (c - 48)) LC (by rfl) rfl (by rfl) (by rfl) (by rfl) (src48.out _ hHeld.1) hF.out hHeld.1.size (by have:=hLCl'.out;omega) ?_
      intro AC cC wn hT0 hgr hat hbg
      refine hK.out _ _ ⟨hbg _ _ (Nat.le_refl _) hHeld.1,blk_grown hHeld.2.1 hgr (fun e=>own_ne hF.out hHeld.2.1 (by decide) _ e.symm rfl),blk_grown hHeld.2.2 hgr (fun e=>own_ne hF.out hHeld.2.2 (by decide) _ e.symm rfl)⟩ (fun hHeld=>?_)
      have hR:=Lib.hid (own_move hR.out (fun k hk=>hgr.block k (hR.out.lt k hk).2 (fun e=>hNR.out k hk (by simpa [Value.ownBlock] using e))))
      have hT:=Lib.hid hT0
      have hH:=Lib.hid hHeld
      clear hgr hbg hT0 hat
      clear hK K;refine norm_ (a':=?_) ?_ ?_
      rotate_left
      ·show Act.put _ (some 36) _=_
       simp only[Act.put,sZ0,sZ1,sZ2,i64_w,i32_w];rfl
      refine last_ (i:=9) (N:=none) #[true,true,true,true,true,true,true,true,true,true,false,false] rfl rfl (by kernel_rfl) (by decide) (fun K hK=>?_)
      refine step_setslice (.tmp 37) (.tmp 32) g4 2 AS LS.length cS 28 _ (by rfl) rfl (by rfl) (by rfl) (by rfl) hH.out.2.1 (by show 2<25;omega) ?_
      intro wn hA1 hbut hbel
      refine hK.out _ _ ?_
      have hR:=Lib.hid (own_move hR.out (fun k hk=>hbut.2 k (hR.out.lt k hk).2 (fun e=>own_ne hR.out hH.out.2.1 (by decide) k hk e)))
      have hT:=Lib.hid (own_move hT.out (fun k hk=>hbut.2 k (hT.out.lt k hk).2 (fun e=>own_ne hT.out hH.out.2.1 (by decide) k hk e)))
      have hZ1:=Lib.hid ((hbut.2 _ (lt_of_heap hH.out.2.2) (Nat.ne_of_lt hlt'.out)).trans hH.out.2.2)
      have hB1:=Lib.hid (hH.out.1.trans (hbel _ (Nat.le_of_lt hlt'.out)))
      have hA1:=Lib.hid hA1
      clear hbut hbel hH
      clear hK K
      refine pure_ (i:=10) (N:=some 38) (v:=?_) (a':=?_) #[true,true,true,true,true,true,true,true,true,true,true,false] rfl rfl (by kernel_rfl) (fun _ _ _ h=>h) (Or.inl ⟨by rfl,?_⟩) ?_ ?_
      rotate_left
      ·intro w';go_simp;with_reducible rfl
      rotate_left
      ·simp only[Act.put,sZ0,sZ1,sZ2,i64_w,i32_w];rfl
      refine last_ (i:=11) (N:=none) #[true,true,true,true,true,true,true,true,true,true,true,true] rfl rfl (by kernel_rfl) (by decide) (fun K hK=>?_)
      refine step_setslice (.tmp 38) (.tmp 36) g4 4 AC LC.length cC 28 _ (by rfl) rfl (by rfl) (by rfl) (by rfl) hA1.out (by show 4<25;omega) ?_
      intro wn hA2 hbut hbel
      refine hK.out _ _ ?_
      have hR:=own_move hR.out (fun k hk=>hbut.2 k (hR.out.lt k hk).2 (fun e=>own_ne hR.out hA1.out (by decide) k hk e))
      have hT:=own_move hT.out (fun k hk=>hbut.2 k (hT.out.lt k hk).2 (fun e=>own_ne hT.out hA1.out (by decide) k hk e))
      have hfin:RcMid2 w V0 V8 V32 LS LC (.pointer (some ⟨g4,0,none⟩)) wn:=⟨g4,AS,cS,AC,cC,rfl,hA2,hR,hT,hlt'.out,(hbut.2 _ (lt_of_heap hZ1.out) (Nat.ne_of_lt hlt'.out)).trans hZ1.out,hB1.out.trans (hbel _ (Nat.le_of_lt hlt'.out))⟩
      have hfin':=Lib.hid hfin
      clear hA2 hbut hbel hfin hR hT
      clear hK K;refine done_ (by kernel_rfl) ?_
      go_step;go_step
      go_meet
      exact hfin'.out
     refine step_empty 23 5 (by rfl) rfl (by rfl) Try.underlying23 size5' ?_
     intro gF wn hF0 hb
     (try have hNE:=Lib.hid (show gF≠gE from Nat.ne_of_gt (Nat.lt_of_lt_of_le (hE.out.lt gE rfl).2 (hF0.lt gF rfl).1)))
     (try have hNR:=Lib.hid (show ∀ k,(Value.slice AS LS.length cS).ownBlock=some k→k≠gF from fun k hk=>Nat.ne_of_lt (Nat.lt_of_lt_of_le (hR.out.lt k hk).2 (hF0.lt gF rfl).1)))
     have hF:=Lib.hid (own_less hF0 hHeld.1.size)
     refine hK.out _ _ ⟨below_step hHeld.1 hb,heap_below hHeld.2.1 hb,heap_below hHeld.2.2 hb⟩ (fun hHeld=>?_)
     (try have hE:=Lib.hid (own_move hE.out (fun k hk=>hb.block k (hE.out.lt k hk).2)))
     (try have hR:=Lib.hid (own_move hR.out (fun k hk=>hb.block k (hR.out.lt k hk).2)))
     clear hb hF0
     clear hK K;refine norm_ (a':=?_) ?_ ?_
     rotate_left
     ·show Act.put _ (some 33) _=_
      simp only[Act.put,sZ0,sZ1,sZ2,i64_w,i32_w];rfl
     refine one_ (i:=3) (N:=some 32) #[true,true,true,true,true,true,true,false,false,false,false,false] rfl rfl (by kernel_rfl) (by decide) (fun K hK=>?_)
     refine step_append1 w.heap.size (.tmp 29) (.tmp 31) 23 (.slice (some ⟨gE,0,none⟩) 0 0) (.slice A16 16 (c - 16)) LS (by rfl) rfl (by rfl) (by rfl) (by rfl) (src16.out _ hHeld.1) hE.out hHeld.1.size (by have:=hLSl'.out;omega) ?_
     intro AS cS wn hR0 hgr hat hbg
     (try have hNR:=Lib.hid (show ∀ k,(Value.slice AS LS.length cS).ownBlock=some k→k≠gF from fun k hk=>(hat k hk).elim (fun h1=>fun e=>hNE.out (e.symm.trans (Option.some.inj (show some gE=some k from h1)).symm)) (fun h1=>Nat.ne_of_gt (Nat.lt_of_lt_of_le (hF.out.lt gF rfl).2 h1))))
     (try have hF:=Lib.hid (own_move hF.out (fun k hk=>hgr.block k (hF.out.lt k hk).2 (fun e=>hNE.out ((Option.some.inj (show some gF=some k from hk)).trans (Option.some.inj (show some k=some gE from e)))))))
     refine hK.out _ _ ⟨hbg _ _ (Nat.le_refl _) hHeld.1,blk_grown hHeld.2.1 hgr (fun e=>own_ne hE.out hHeld.2.1 (by decide) _ e.symm rfl),blk_grown hHeld.2.2 hgr (fun e=>own_ne hE.out hHeld.2.2 (by decide) _ e.symm rfl)⟩ (fun hHeld=>?_)
     have hR:=Lib.hid hR0
     clear hgr hbg hR0 hat
     clear hK K;refine norm_ (a':=?_) ?_ ?_
     rotate_left
     ·show Act.put _ (some 32) _=_
      simp only[Act.put,sZ0,sZ1,sZ2,i64_w,i32_w];rfl
     refine pure_ (i:=8) (N:=some 37) (v:=?_) (a':=?_) #[true,true,true,true,true,true,true,false,true,false,false,false] rfl rfl (by kernel_rfl) (fun _ _ _ h=>h) (Or.inl ⟨by rfl,?_⟩) ?_ ?_
     rotate_left
     ·intro w';go_simp;with_reducible rfl
     rotate_left
     ·simp only[Act.put,sZ0,sZ1,sZ2,i64_w,i32_w];rfl
     refine one_ (i:=7) (N:=some 36) #[true,true,true,true,true,true,true,true,true,false,false,false] rfl rfl (by kernel_rfl) (by decide) (fun K hK=>?_)
     refine step_append1 w.heap.size (.tmp 33) (.tmp 35) 23 (.slice (some ⟨gF,0,none⟩) 0 0) (.slice A48 32 (c - 48)) LC (by rfl) rfl (by rfl) (by rfl) (by rfl) (src48.out _ hHeld.1) hF.out hHeld.1.size (by have:=hLCl'.out;omega) ?_
     intro AC cC wn hT0 hgr hat hbg
     refine hK.out _ _ ⟨hbg _ _ (Nat.le_refl _) hHeld.1,blk_grown hHeld.2.1 hgr (fun e=>own_ne hF.out hHeld.2.1 (by decide) _ e.symm rfl),blk_grown hHeld.2.2 hgr (fun e=>own_ne hF.out hHeld.2.2 (by decide) _ e.symm rfl)⟩ (fun hHeld=>?_)
     have hR:=Lib.hid (own_move hR.out (fun k hk=>hgr.block k (hR.out.lt k hk).2 (fun e=>hNR.out k hk (by simpa [Value.ownBlock] using e))))
     have hT:=Lib.hid hT0
     have hH:=Lib.hid hHeld
     clear hgr hbg hT0 hat
     clear hK K;refine norm_ (a':=?_) ?_ ?_
     rotate_left
     ·show Act.put _ (some 36) _=_
      simp only[Act.put,sZ0,sZ1,sZ2,i64_w,i32_w];rfl
     refine last_ (i:=9) (N:=none) #[true,true,true,true,true,true,true,true,true,true,false,false] rfl rfl (by kernel_rfl) (by decide) (fun K hK=>?_)
     refine step_setslice (.tmp 37) (.tmp 32) g4 2 AS LS.length cS 28 _ (by rfl) rfl (by rfl) (by rfl) (by rfl) hH.out.2.1 (by show 2<25;omega) ?_
     intro wn hA1 hbut hbel
     refine hK.out _ _ ?_
     have hR:=Lib.hid (own_move hR.out (fun k hk=>hbut.2 k (hR.out.lt k hk).2 (fun e=>own_ne hR.out hH.out.2.1 (by decide) k hk e)))
     have hT:=Lib.hid (own_move hT.out (fun k hk=>hbut.2 k (hT.out.lt k hk).2 (fun e=>own_ne hT.out hH.out.2.1 (by decide) k hk e)))
     have hZ1:=Lib.hid ((hbut.2 _ (lt_of_heap hH.out.2.2) (Nat.ne_of_lt hlt'.out)).trans hH.out.2.2)
     have hB1:=Lib.hid (hH.out.1.trans (hbel _ (Nat.le_of_lt hlt'.out)))
     have hA1:=Lib.hid hA1
     clear hbut hbel hH
     clear hK K
     refine pure_ (i:=10) (N:=some 38) (v:=?_) (a':=?_) #[true,true,true,true,true,true,true,true,true,true,true,false] rfl rfl (by kernel_rfl) (fun _ _ _ h=>h) (Or.inl ⟨by rfl,?_⟩) ?_ ?_
     rotate_left
     ·intro w';go_simp;with_reducible rfl
     rotate_left
     ·simp only[Act.put,sZ0,sZ1,sZ2,i64_w,i32_w];rfl
     refine last_ (i:=11) (N:=none) #[true,true,true,true,true,true,true,true,true,true,true,true] rfl rfl (by kernel_rfl) (by decide) (fun K hK=>?_)
     refine step_setslice (.tmp 38) (.tmp 36) g4 4 AC LC.length cC 28 _ (by rfl) rfl (by rfl) (by rfl) (by rfl) hA1.out (by show 4<25;omega) ?_
     intro wn hA2 hbut hbel
     refine hK.out _ _ ?_
     have hR:=own_move hR.out (fun k hk=>hbut.2 k (hR.out.lt k hk).2 (fun e=>own_ne hR.out hA1.out (by decide) k hk e))
     have hT:=own_move hT.out (fun k hk=>hbut.2 k (hT.out.lt k hk).2 (fun e=>own_ne hT.out hA1.out (by decide) k hk e))
     have hfin:RcMid2 w V0 V8 V32 LS LC (.pointer (some ⟨g4,0,none⟩)) wn:=⟨g4,AS,cS,AC,cC,rfl,hA2,hR,hT,hlt'.out,(hbut.2 _ (lt_of_heap hZ1.out) (Nat.ne_of_lt hlt'.out)).trans hZ1.out,hB1.out.trans (hbel _ (Nat.le_of_lt hlt'.out))⟩
     have hfin':=Lib.hid hfin
     clear hA2 hbut hbel hfin hR hT
     clear hK K;refine done_ (by kernel_rfl) ?_
     go_step;go_step
     go_meet
     exact hfin'.out
    refine step_empty 23 5 (by rfl) rfl (by rfl) Try.underlying23 size5' ?_
    intro gF wn hF0 hb
    (try have hNE:=Lib.hid (show gF≠gE from Nat.ne_of_gt (Nat.lt_of_lt_of_le (hE.out.lt gE rfl).2 (hF0.lt gF rfl).1)))
    (try have hNR:=Lib.hid (show ∀ k,(Value.slice AS LS.length cS).ownBlock=some k→k≠gF from fun k hk=>Nat.ne_of_lt (Nat.lt_of_lt_of_le (hR.out.lt k hk).2 (hF0.lt gF rfl).1)))
    have hF:=Lib.hid (own_less hF0 hHeld.1.size)
    refine hK.out _ _ ⟨below_step hHeld.1 hb,heap_below hHeld.2.1 hb,heap_below hHeld.2.2 hb⟩ (fun hHeld=>?_)
    (try have hE:=Lib.hid (own_move hE.out (fun k hk=>hb.block k (hE.out.lt k hk).2)))
    (try have hR:=Lib.hid (own_move hR.out (fun k hk=>hb.block k (hR.out.lt k hk).2)))
    clear hb hF0
    clear hK K;refine norm_ (a':=?_) ?_ ?_
    rotate_left
    ·show Act.put _ (some 33) _=_
     simp only[Act.put,sZ0,sZ1,sZ2,i64_w,i32_w];rfl
    refine one_ (i:=0) (N:=some 29) #[true,true,true,false,true,true,true,false,false,false,false,false] rfl rfl (by kernel_rfl) (by decide) (fun K hK=>?_)
    refine step_empty 23 5 (by rfl) rfl (by rfl) Try.underlying23 size5' ?_
    intro gE wn hE0 hb
    (try have hNE:=Lib.hid (show gF≠gE from Nat.ne_of_lt (Nat.lt_of_lt_of_le (hF.out.lt gF rfl).2 (hE0.lt gE rfl).1)))
    have hE:=Lib.hid (own_less hE0 hHeld.1.size)
    refine hK.out _ _ ⟨below_step hHeld.1 hb,heap_below hHeld.2.1 hb,heap_below hHeld.2.2 hb⟩ (fun hHeld=>?_)
    (try have hF:=Lib.hid (own_move hF.out (fun k hk=>hb.block k (hF.out.lt k hk).2)))
    clear hb hE0
    clear hK K;refine norm_ (a':=?_) ?_ ?_
    rotate_left
    ·show Act.put _ (some 29) _=_
     simp only[Act.put,sZ0,sZ1,sZ2,i64_w,i32_w];rfl
    refine one_ (i:=3) (N:=some 32) #[true,true,true,true,true,true,true,false,false,false,false,false] rfl rfl (by kernel_rfl) (by decide) (fun K hK=>?_)
    refine step_append1 w.heap.size (.tmp 29) (.tmp 31) 23 (.slice (some ⟨gE,0,none⟩) 0 0) (.slice A16 16 (c - 16)) LS (by rfl) rfl (by rfl) (by rfl) (by rfl) (src16.out _ hHeld.1) hE.out hHeld.1.size (by have:=hLSl'.out;omega) ?_
    intro AS cS wn hR0 hgr hat hbg
    (try have hNR:=Lib.hid (show ∀ k,(Value.slice AS LS.length cS).ownBlock=some k→k≠gF from fun k hk=>(hat k hk).elim (fun h1=>fun e=>hNE.out (e.symm.trans (Option.some.inj (show some gE=some k from h1)).symm)) (fun h1=>Nat.ne_of_gt (Nat.lt_of_lt_of_le (hF.out.lt gF rfl).2 h1))))
    (try have hF:=Lib.hid (own_move hF.out (fun k hk=>hgr.block k (hF.out.lt k hk).2 (fun e=>hNE.out ((Option.some.inj (show some gF=some k from hk)).trans (Option.some.inj (show some k=some gE from e)))))))
    refine hK.out _ _ ⟨hbg _ _ (Nat.le_refl _) hHeld.1,blk_grown hHeld.2.1 hgr (fun e=>own_ne hE.out hHeld.2.1 (by decide) _ e.symm rfl),blk_grown hHeld.2.2 hgr (fun e=>own_ne hE.out hHeld.2.2 (by decide) _ e.symm rfl)⟩ (fun hHeld=>?_)
    have hR:=Lib.hid hR0
    clear hgr hbg hR0 hat
    clear hK K;refine norm_ (a':=?_) ?_ ?_
    rotate_left
    ·show Act.put _ (some 32) _=_
     simp only[Act.put,sZ0,sZ1,sZ2,i64_w,i32_w];rfl
    refine pure_ (i:=8) (N:=some 37) (v:=?_) (a':=?_) #[true,true,true,true,true,true,true,false,true,false,false,false] rfl rfl (by kernel_rfl) (fun _ _ _ h=>h) (Or.inl ⟨by rfl,?_⟩) ?_ ?_
    rotate_left
    ·intro w';go_simp;with_reducible rfl
    rotate_left
    ·simp only[Act.put,sZ0,sZ1,sZ2,i64_w,i32_w];rfl
    refine one_ (i:=7) (N:=some 36) #[true,true,true,true,true,true,true,true,true,false,false,false] rfl rfl (by kernel_rfl) (by decide) (fun K hK=>?_)
    refine step_append1 w.heap.size (.tmp 33) (.tmp 35) 23 (.slice (some ⟨gF,0,none⟩) 0 0) (.slice A48 32 (c - 48)) LC (by rfl) rfl (by rfl) (by rfl) (by rfl) (src48.out _ hHeld.1) hF.out hHeld.1.size (by have:=hLCl'.out;omega) ?_
    intro AC cC wn hT0 hgr hat hbg
    refine hK.out _ _ ⟨hbg _ _ (Nat.le_refl _) hHeld.1,blk_grown hHeld.2.1 hgr (fun e=>own_ne hF.out hHeld.2.1 (by decide) _ e.symm rfl),blk_grown hHeld.2.2 hgr (fun e=>own_ne hF.out hHeld.2.2 (by decide) _ e.symm rfl)⟩ (fun hHeld=>?_)
    have hR:=Lib.hid (own_move hR.out (fun k hk=>hgr.block k (hR.out.lt k hk).2 (fun e=>hNR.out k hk (by simpa [Value.ownBlock] using e))))
    have hT:=Lib.hid hT0
    have hH:=Lib.hid hHeld
    clear hgr hbg hT0 hat
    clear hK K;refine norm_ (a':=?_) ?_ ?_
    rotate_left
    ·show Act.put _ (some 36) _=_
     simp only[Act.put,sZ0,sZ1,sZ2,i64_w,i32_w];rfl
    refine last_ (i:=9) (N:=none) #[true,true,true,true,true,true,true,true,true,true,false,false] rfl rfl (by kernel_rfl) (by decide) (fun K hK=>?_)
    refine step_setslice (.tmp 37) (.tmp 32) g4 2 AS LS.length cS 28 _ (by rfl) rfl (by rfl) (by rfl) (by rfl) hH.out.2.1 (by show 2<25;omega) ?_
    intro wn hA1 hbut hbel
    refine hK.out _ _ ?_
    have hR:=Lib.hid (own_move hR.out (fun k hk=>hbut.2 k (hR.out.lt k hk).2 (fun e=>own_ne hR.out hH.out.2.1 (by decide) k hk e)))
    have hT:=Lib.hid (own_move hT.out (fun k hk=>hbut.2 k (hT.out.lt k hk).2 (fun e=>own_ne hT.out hH.out.2.1 (by decide) k hk e)))
    have hZ1:=Lib.hid ((hbut.2 _ (lt_of_heap hH.out.2.2) (Nat.ne_of_lt hlt'.out)).trans hH.out.2.2)
    have hB1:=Lib.hid (hH.out.1.trans (hbel _ (Nat.le_of_lt hlt'.out)))
    have hA1:=Lib.hid hA1
    clear hbut hbel hH
    clear hK K
    refine pure_ (i:=10) (N:=some 38) (v:=?_) (a':=?_) #[true,true,true,true,true,true,true,true,true,true,true,false] rfl rfl (by kernel_rfl) (fun _ _ _ h=>h) (Or.inl ⟨by rfl,?_⟩) ?_ ?_
    rotate_left
    ·intro w';go_simp;with_reducible rfl
    rotate_left
    ·simp only[Act.put,sZ0,sZ1,sZ2,i64_w,i32_w];rfl
    refine last_ (i:=11) (N:=none) #[true,true,true,true,true,true,true,true,true,true,true,true] rfl rfl (by kernel_rfl) (by decide) (fun K hK=>?_)
    refine step_setslice (.tmp 38) (.tmp 36) g4 4 AC LC.length cC 28 _ (by rfl) rfl (by rfl) (by rfl) (by rfl) hA1.out (by show 4<25;omega) ?_
    intro wn hA2 hbut hbel
    refine hK.out _ _ ?_
    have hR:=own_move hR.out (fun k hk=>hbut.2 k (hR.out.lt k hk).2 (fun e=>own_ne hR.out hA1.out (by decide) k hk e))
    have hT:=own_move hT.out (fun k hk=>hbut.2 k (hT.out.lt k hk).2 (fun e=>own_ne hT.out hA1.out (by decide) k hk e))
    have hfin:RcMid2 w V0 V8 V32 LS LC (.pointer (some ⟨g4,0,none⟩)) wn:=⟨g4,AS,cS,AC,cC,rfl,hA2,hR,hT,hlt'.out,(hbut.2 _ (lt_of_heap hZ1.out) (Nat.ne_of_lt hlt'.out)).trans hZ1.out,hB1.out.trans (hbel _ (Nat.le_of_lt hlt'.out))⟩
    have hfin':=Lib.hid hfin
    clear hA2 hbut hbel hfin hR hT
    clear hK K;refine done_ (by kernel_rfl) ?_
    go_step;go_step
    go_meet
    exact hfin'.out
   case rest=>
    obtain ⟨g5,AS,cS,AC,cC,rfl,hg5,hRS,hRC,hlt5,hgZ5,hbw5⟩:=hcut
    have hinit:RcLoop w l V0 V8 V32 LS LC g5 0 wc:=⟨fun _=>slZero,_,_,hg5,fun j hj=>absurd hj (by omega),fun j hj=>by
     match j with
     |0=>exact hRS
     |1=>exact hRC
     |k+2=>exact World.ownsRow_nil _ _ _ _,hgZ5,hbw5⟩
    have hinit':=Lib.hid hinit
    have hlt5':=Lib.hid hlt5
    clear hg5 hRS hRC hlt5 hgZ5 hbw5 hinit hg4' hlt' hgZ' hbw' src16 src48 s16 s48 hLSl' hLCl'
    obtain ⟨ZS,hZS⟩:∃ ZS:Array Value,ZS=zSl:=⟨_,rfl⟩
    rw[← hZS] at hzS
    have hZS':=Lib.hid hZS
    clear hZS
    go_wp2_with fail
    go_loopw [39] (fun i wr=>∃ k:Nat,k≤4∧i=.int .i64 k∧RcLoop w l V0 V8 V32 LS LC g5 k wr) (fun i _=>4 - (intOf i).toNat)
    case atStart=>exact ⟨0,by omega,rfl,hinit'.out⟩
    case round=>
     obtain ⟨k,hk,rfl,s,As,cs,hg,hsl,hO,hgZ,hbw⟩:=hrel
     have hg':=Lib.hid hg
     have hsl':=Lib.hid hsl
     have hO':=Lib.hid hO
     have hgZ':=Lib.hid (show wr.heap[w.heap.size]?=some (.cells Z 28 (0,0)) by rw[hZ'.out];exact hgZ)
     have hbw':=Lib.hid hbw
     clear hg hsl hO hgZ hbw hinit'
     by_cases hlt:k<4
     ·have hl:=hl'.out
      obtain ⟨Ak,hsk,hck⟩:=cutB A l.length c (80+k*128) (80+k*128+128) l (by omega) (by omega) (by omega)
      have hpl:(partR l k).length=128:=by unfold partR;rw[part_len l _ _ (by omega)];omega
      have ek:(80+k*128+128) - (80+k*128)=128:=by omega
      rw[ek,hl] at hsk
      rw[ek,hl] at hck
      have hsk':∀ W:World,(Instr.slice 23 (.slice A 624 c) (some (.int .i64 (80+(k:Int)*128))) (some (.int .i64 (80+(k:Int)*128+128))) none).run Try.prog W=.ok (.slice Ak 128 (c - (80+k*128))) W:=fun W=>by
       have:=hsk W
       simp only[Int.natCast_add,Int.natCast_mul] at this
       exact this
      have hck':=Lib.hid (fun (W:World) (h:Below w.heap.size w W)=>show Kd.C (Kd.int .u8) W Ak (partR l k).length (partR l k) from by rw[hpl];have:=Kd.C_below hC'.out h;rw[hl] at this;exact hck W this)
      have hpb:=Lib.hid (show ∀ x ∈ partR l k,byt x from part_mem hb'.out)
      have hpl':=Lib.hid hpl
      have hcap:=Lib.hid (show 128≤c - (80+k*128) by omega)
      have q1:(k:Int)<4:=by omega
      have q2:(0:Int)≤(k:Int):=by omega
      have kw:IntKind.i64.wrap ((k:Int)+1)=(k:Int)+1:=by rw[IntKind.wrap_i64];omega
      have hk1:=Lib.hid hlt
      clear hl hsk hck hpl ek hlt hk
      cases hsr:slRead (partR l k) with
      |none=>
       have hfin:=Lib.hid (show rcRead l=none by unfold rcRead;rw[if_neg (by rw[slotsOk_not hk1.out hsr];simp)])
       have hread:=Lib.hid (fun (W:World) (h:Below w.heap.size w W)=>slotRead_none Ak (c - (80+k*128)) (partR l k) hpl'.out hcap.out hpb.out hsr W (hck'.out W h))
       clear hsr
       go_wp2_with (first
        |((with_reducible go_at_call 50);refine (hread.out _ hbw'.out).mono ?_;rintro e w1 ⟨AX,cX,rfl,hb⟩;obtain ⟨CX,hCX⟩:∃ CX,CX=(slcl slZero AX cX).toArray:=⟨_,rfl⟩;rw[← hCX];have hs1:=Lib.hid (show (Try.prog.info? 25).map (·.size)=some CX.size by rw[hCX];exact szSl);have ho1:=Lib.hid (show CX.all (·.oneCell')=true by rw[hCX];exact slcl_one _ _ _);have hz1:=Lib.hid (show ZS.size=CX.size by rw[hCX,hZS'.out];rfl);have b1:=Lib.hid (below_step hbw'.out hb);have gz1:=Lib.hid (heap_below hgZ'.out hb);clear hb hCX)
        |(with_reducible refine wpList_store_row rfl 25 _ _ rfl w1.heap.size CX rfl rfl 25 ZS (heap_alloc_last _ _) hs1.out hz1.out ho1.out ?_;have b2:=Lib.hid (below_setRow (below_alloc b1.out (.cells ZS 25 (0,0))) b1.out.size CX);have gz2:=Lib.hid ((setRow_other (w1.alloc (.cells ZS 25 (0,0))) w1.heap.size w.heap.size CX (Nat.ne_of_lt (lt_of_heap gz1.out))).trans ((heap_skip w1 (.cells ZS 25 (0,0)) w.heap.size (Nat.ne_of_lt (lt_of_heap gz1.out))).trans gz1.out));generalize (w1.alloc (.cells ZS 25 (0,0))).setRow w1.heap.size CX=w2 at *)
        |(with_reducible refine wpList_store_row rfl 28 _ _ rfl w.heap.size Z rfl rfl 28 Z gz2.out hszZ.out rfl honeZ.out ?_))
       have hq:=setRow_heap w2 w.heap.size Z Z 28 (0,0) gz2.out
       refine bodyPost_ret (v:=.tuple #[.agg Z,.int .i64 1]) (results_ct rfl _ _ w.heap.size 28 _ (0,0) _ (by rfl) hq Try.underlying28 rfl hszZ.out (by rfl)) rfl ?_
       rw[hfin.out]
       exact ⟨fun _=>none,fun _=>0,by rw[hZ'.out];rfl,RcO.zero _ _,below_setRow b2.out (Nat.le_refl _) _⟩
      |some x=>
       have hread:=Lib.hid (fun (W:World) (h:Below w.heap.size w W)=>slotRead_some Ak (c - (80+k*128)) (partR l k) hpl'.out hcap.out hpb.out x hsr W (hck'.out W h))
       have hsr':=Lib.hid hsr
       clear hsr
       go_wp2_with (first
        |((with_reducible go_at_call 50);refine (hread.out _ hbw'.out).mono ?_;rintro e w1 ⟨AX,cX,rfl,hRX,hb⟩;obtain ⟨CX,hCX⟩:∃ CX,CX=(slcl x AX cX).toArray:=⟨_,rfl⟩;rw[← hCX];have hs1:=Lib.hid (show (Try.prog.info? 25).map (·.size)=some CX.size by rw[hCX];exact szSl);have hX5:=Lib.hid (show CX.size=5 by rw[hCX];rfl);have hCX':=Lib.hid hCX;have ho1:=Lib.hid (show CX.all (·.oneCell')=true by rw[hCX];exact slcl_one _ _ _);have hz1:=Lib.hid (show ZS.size=CX.size by rw[hCX,hZS'.out];rfl);have b1:=Lib.hid (below_step hbw'.out hb);have gz1:=Lib.hid (heap_below hgZ'.out hb);have g1:=Lib.hid (heap_below hg'.out hb);have O1:=Lib.hid (hO'.out.below hb);have rX:=Lib.hid (own_less hRX hbw'.out.size);clear hb hCX hRX)
        |(with_reducible refine wpList_store_row rfl 25 _ _ rfl w1.heap.size CX rfl rfl 25 ZS (heap_alloc_last _ _) hs1.out hz1.out ho1.out ?_;have b12:=Lib.hid (below_setRow ((Below.refl w1.heap.size w1).alloc (Nat.le_refl _) (.cells ZS 25 (0,0))) (Nat.le_refl _) CX);have hk7:=Lib.hid (setRow_heap (w1.alloc (.cells ZS 25 (0,0))) w1.heap.size ZS CX 25 (0,0) (heap_alloc_last _ _));generalize (w1.alloc (.cells ZS 25 (0,0))).setRow w1.heap.size CX=w2 at *;have b2:=Lib.hid (below_step b1.out b12.out);have gz2:=Lib.hid (heap_below gz1.out b12.out);have g2:=Lib.hid (heap_below g1.out b12.out);have O2:=Lib.hid (O1.out.below b12.out);have rX2:=Lib.hid (own_move rX.out (fun k hk=>b12.out.block k (rX.out.lt k hk).2));have hth:=Lib.hid (show w2.there g5 (5+k*5) CX.size by rw[hX5.out];exact there_of_block g2.out (5+k*5) 5 (by rw[rcl_length];have:=hk1.out;omega)))
        |(with_reducible refine wpList_load_row rfl 25 _ rfl w1.heap.size rfl 25 CX (0,0) _ hk7.out Try.underlying25 rfl hs1.out ?_)
        |(with_reducible refine wpList_store_mid rfl 25 _ _ rfl g5 (5+k*5) CX rfl rfl hth.out hs1.out ho1.out ?_))
       have hg3:=rc_set g2.out k hk1.out x AX cX
       have hbt:=but_setCells (g:=g5) (w:=w2) (5+k*5) (slcl x AX cX)
       have hO3:=(O2.out.but g2.out (by decide) hbt).upd k x AX cX (own_move rX2.out (fun j hj=>hbt.2 j (rX2.out.lt j hj).2 (fun e=>own_ne rX2.out g2.out (by decide) j hj e)))
       have hZ3:(w2.setCells g5 (5+k*5) (slcl x AX cX)).heap[w.heap.size]?=some (.cells zRc 28 (0,0)):=by rw[← hZ'.out];exact (hbt.2 _ (lt_of_heap gz2.out) (Nat.ne_of_lt hlt5'.out)).trans gz2.out
       have hb3:=below_setCells (Nat.le_of_lt hlt5'.out) (slcl x AX cX) (5+k*5) w2 b2.out
       rw[show CX.toList=slcl x AX cX from by rw[hCX'.out]]
       exact ⟨⟨k+1,hk1.out,by push_cast;rfl,upd s k x,_,_,hg3,fun j hj=>by
        by_cases e:j=k
        ·subst e;rw[upd_same];exact hsr'.out
        rw[upd_other _ _ _ _ e];exact hsl'.out j (by omega),hO3,hZ3,hb3⟩,by have:=hk1.out;simp only[intOf];omega⟩
     obtain rfl:k=4:=by omega
     have hfin:=Lib.hid (show rcRead l=some (rcHead l) by unfold rcRead;rw[if_pos ⟨h0'.out,slotsOk_of hsl'.out⟩])
     have hLl:=Lib.hid (show rcl ⟨V0,V8,LS,V32,LC,s⟩ As cs=rcl (rcHead l) As cs by
      rw[hhead'.out]
      show rch _ As cs++rcs s As cs=rch _ As cs++rcs _ As cs
      rw[rcs_congr (s:=s) (s':=fun k=>(slRead (partR l k)).getD slZero) (fun j hj=>by rw[hsl'.out j hj];rfl) As cs])
     have hOl:=Lib.hid (show ∀ W,RcO w.heap.size W ⟨V0,V8,LS,V32,LC,s⟩ As cs→RcO w.heap.size W (rcHead l) As cs from fun W h j hj=>by
      have e:rlist (rcHead l) j=rlist ⟨V0,V8,LS,V32,LC,s⟩ j:=by
       rw[hhead'.out]
       match j,hj with
       |0,_=>rfl
       |1,_=>rfl
       |i+2,hj=>show ((slRead (partR l i)).getD slZero).wrap=(s i).wrap;rw[hsl'.out i (by omega)];rfl
      rw[e];exact h j hj)
     obtain ⟨CR,hCR⟩:∃ CR,CR=(rcl ⟨V0,V8,LS,V32,LC,s⟩ As cs).toArray:=⟨_,rfl⟩
     have g1:=Lib.hid hg'.out
     rw[← hCR] at g1
     have hCRs:=Lib.hid (show (Try.prog.info? 28).map (·.size)=some CR.size by rw[hCR];exact szRc)
     have hCRo:=Lib.hid (show CR.all (·.oneCell')=true by rw[hCR];exact rcl_one _ _ _)
     have hCRz:=Lib.hid (show Z.size=CR.size by rw[hCR,hZ'.out];rfl)
     have hCR':=Lib.hid hCR
     clear hCR hk hlt
     go_wp2_with (first
      |(with_reducible refine wpList_load_row rfl 28 _ rfl g5 rfl 28 CR (0,0) _ g1.out Try.underlying28 rfl hCRs.out ?_)
      |(with_reducible refine wpList_store_row rfl 28 _ _ rfl w.heap.size CR rfl rfl 28 Z hgZ'.out hCRs.out hCRz.out hCRo.out ?_))
     have hq:=setRow_heap wr w.heap.size Z CR 28 (0,0) hgZ'.out
     refine bodyPost_ret (v:=.tuple #[.agg CR,.int .i64 0]) (results_ct rfl _ _ w.heap.size 28 _ (0,0) _ (by rfl) hq Try.underlying28 rfl hCRs.out (by rfl)) rfl ?_
     rw[hfin.out]
     exact ⟨As,cs,by rw[hCR'.out,hLl.out];rfl,hOl.out _ (hO'.out.but hgZ'.out (by decide) ⟨by simp[World.setRow],fun k _ hk=>setRow_other wr w.heap.size k CR hk⟩),below_setRow hbw'.out (Nat.le_refl _) _⟩
 rw[decide_eq_false h0] at hsame
 have hfin:=Lib.hid (show rcRead l=none by unfold rcRead;rw[if_neg (fun h=>h0 h.1)])
 clear h0 hZ
 go_enter Try.func19,Try.ntmps19
 go_wp2_with fail
 refine start_ (n:=5) (S:=fun w'=>Below w.heap.size w w'∧w'.heap[w.heap.size]?=some (.cells Z 28 (0,0))) (ds:=[]) #[false,false,false,false,false] (by kernel_rfl) rfl rfl (by exact ⟨below_drew hbw0.out,hg0.out⟩) (fun hHeld=>?_)
 refine pure_ (i:=0) (N:=some 13) (v:=?_) (a':=?_) #[true,false,false,false,false] rfl rfl (by kernel_rfl) (fun _ _ _ h=>h) (Or.inl ⟨by rfl,?_⟩) ?_ ?_
 rotate_left
 ·intro w';go_simp;with_reducible rfl
 rotate_left
 ·simp only[Act.put,sZ0,sZ1,sZ2,i64_w,i32_w];rfl
 refine pure_ (i:=1) (N:=some 14) (v:=?_) (a':=?_) #[true,true,false,false,false] rfl rfl (by kernel_rfl) (fun _ _ _ h=>h) (Or.inl ⟨by rfl,?_⟩) ?_ ?_
 rotate_left
 ·intro w'
  refine (exec_slice_lh w' 23 _ Try.underlying23 _ _ _ (by rfl) (.slice A 624 c) (.int .i64 40) (.int .i64 48) _ (by rfl) (by rfl) (by rfl) (s40.out w')).trans ?_;with_reducible rfl
 rotate_left
 ·simp only[Act.put,sZ0,sZ1,sZ2,i64_w,i32_w];rfl
 refine one_ (i:=2) (N:=some 15) #[true,true,true,false,false] rfl rfl (by kernel_rfl) (by decide) (fun K hK=>?_)
 refine goes_ Try.func41 (by kernel_rfl) rfl #[.int .u8 0,.int .i64 8] (by rfl) rfl rfl (by (try simp only[List.map_toArray,List.map_cons,List.map_nil]);first | done | rfl) ?_
 refine (hfill.out _).mono ?_
 rintro e w1 ⟨v1,rfl,hR,hbl⟩
 obtain ⟨Af,cf,rfl⟩:=Kd.R_slice hR
 obtain ⟨-,hcf,hCf⟩:=Kd.R_reads' hR
 refine ⟨_,rfl,?_⟩
 have hcf':=Lib.hid hcf
 have hCf':=Lib.hid hCf
 refine hK.out _ _ ⟨below_step hHeld.1 hbl,heap_below hHeld.2 hbl⟩ (fun hHeld=>?_)
 clear hR hbl hcf hCf
 clear hK K;refine norm_ (a':=?_) ?_ ?_
 rotate_left
 ·show Act.put _ (some 15) _=_
  simp only[Act.put,sZ0,sZ1,sZ2,i64_w,i32_w];rfl
 refine one_ (i:=3) (N:=some 16) #[true,true,true,true,false] rfl rfl (by kernel_rfl) (by decide) (fun K hK=>?_)
 refine goes_ Try.func48 (by kernel_rfl) rfl #[.slice A40 8 (c - 40),.slice Af (zL 8).length cf] (by rfl) rfl rfl (by (try simp only[List.map_toArray,List.map_cons,List.map_nil]);first | done | rfl) ?_
 refine (hsame.out _ _ _ hHeld.1 hCf'.out hcf'.out).mono ?_
 rintro e w2 ⟨rfl,hd⟩
 have hbl:=drawn_below hd
 refine ⟨_,rfl,?_⟩
 refine hK.out _ _ ⟨below_step hHeld.1 hbl,heap_below hHeld.2 hbl⟩ (fun hHeld=>?_)
 have b2:=Lib.hid hHeld.1
 have g2:=Lib.hid hHeld.2
 clear hbl hd
 clear hK K;refine norm_ (a':=?_) ?_ ?_
 rotate_left
 ·show Act.put _ (some 16) _=_
  simp only[Act.put,sZ0,sZ1,sZ2,i64_w,i32_w];rfl
 refine pure_ (i:=4) (N:=some 17) (v:=?_) (a':=?_) #[true,true,true,true,true] rfl rfl (by kernel_rfl) (fun _ _ _ h=>h) (Or.inl ⟨by rfl,?_⟩) ?_ ?_
 rotate_left
 ·intro w';go_simp;with_reducible rfl
 rotate_left
 ·simp only[Act.put,sZ0,sZ1,sZ2,i64_w,i32_w];rfl
 refine done_ (by kernel_rfl) ?_
 go_wp2_with (with_reducible refine wpList_store_row rfl 28 _ _ rfl w.heap.size Z rfl rfl 28 Z g2.out hszZ.out rfl honeZ.out ?_)
 have hq:=setRow_heap w2 w.heap.size Z Z 28 (0,0) g2.out
 refine bodyPost_ret (v:=.tuple #[.agg Z,.int .i64 1]) (results_ct rfl _ _ w.heap.size 28 _ (0,0) _ (by rfl) hq Try.underlying28 rfl hszZ.out (by rfl)) rfl ?_
 rw[hfin.out]
 exact ⟨fun _=>none,fun _=>0,by rw[hZ'.out];rfl,RcO.zero _ _,below_setRow b2.out (Nat.le_refl _) _⟩
end Go.Proofs.Ytbajioiiaamokaa.Own
