/- ShB, pruned (slim.py). -/
import Derived.Test.YtbajioiiaamokaaZB13
namespace Go.Proofs.Ytbajioiiaamokaa.Own
open Go.RowKit Go.Proofs.Ytbajioiiaamokaa.Arr Go.Proofs.Ytbajioiiaamokaa.QB Go.Proofs.YtbajioiiaamokaaW.PrintWords Go.Proofs.YtbajioiiaamokaaW.PrintLast Go.Proofs.YtbajioiiaamokaaW.PrintMore
set_option linter.unusedVariables false
set_option linter.unusedSimpArgs false
def absorb:Nat→List Int→List Int→List Int
 |0,st,_=>st
 |k+1,st,l=>absorb k (compL st (l.take 64)) (l.drop 64)
theorem absorb_succ (k:Nat) (st l:List Int):absorb (k+1) st l=compL (absorb k st l) ((l.drop (64*k)).take 64):=by
 induction k generalizing st l with
 |zero=>simp[absorb]
 |succ k ih=>
  rw[absorb,ih,absorb,List.drop_drop,show 64+64*k=64*(k+1) from by omega]
theorem absorb_length (k:Nat) (st l:List Int) (h:st.length=8):(absorb k st l).length=8:=by
 induction k generalizing st l with
 |zero=>exact h
 |succ k ih=>exact ih _ _ (compL_length _ _ h)
set_option maxHeartbeats 4000000 in
set_option maxRecDepth 100000 in
theorem blocks_any (w:World) (g:Nat) (st:List Int) (A:Option Addr) (c:Nat) (l:List Int) (n:Int) (bg:Bool) (h:HashAt w g st A c l n bg) :
  Calls Try.prog 97 #[.pointer (some ⟨g,0,none⟩)] w fun e w'=>e=.returned (.tuple #[])∧∃ A' c',HashAt w' g (absorb (l.length / 64) st l) A' c' (l.drop (64*(l.length / 64))) n bg∧Chg g w w':=by
 have hh:=Lib.hid h
 clear h
 go_enter Try.func97,Try.ntmps97
 go_wp2_with fail
 go_loopg [2] (l.length / 64) (fun k _ wr=>∃ m A' c',m+k=l.length / 64∧HashAt wr g (absorb m st l) A' c' (l.drop (64*m)) n bg∧Chg g w wr)
 case atStart=>exact ⟨0,A,c,by omega,hh.out,Chg.refl _ _⟩
 case round=>
  obtain ⟨m,A',c',hm,hat,hchg⟩:=hrel
  obtain ⟨S,hS⟩:∃ S,S=absorb m st l:=⟨_,rfl⟩
  obtain ⟨L,hL⟩:∃ L,L=l.drop (64*m):=⟨_,rfl⟩
  rw[← hS,← hL] at hat
  have hLl:L.length=l.length - 64*m:=by rw[hL,List.length_drop]
  have hs8:=hat.st8
  have hc8:=hcell8 hs8 hat.obj
  by_cases h64:64≤L.length
  ·have hsucc:absorb (m+1) st l=compL S (L.take 64):=by rw[absorb_succ,hS,hL]
   have hdrop:l.drop (64*(m+1))=L.drop 64:=by rw[hL,List.drop_drop,show 64*m+64=64*(m+1) from by omega]
   have h64i:((64:Int)≤(L.length:Int))=True:=eq_true (by omega)
   have hcap:64≤c':=by have:=hat.cap;omega
   have hcapi:((64:Int)≤(c':Int))=True:=eq_true (by omega)
   have hcut:=cut_to A' L.length c' 64 hcap
   have hcut2:=cut_from A' L.length c' 64 h64
   have hl64:(L.take 64).length=64:=by rw[List.length_take];omega
   have hcomp:=fun w1 (hb:Kd.C (Kd.int .u8) w1 A' 64 (L.take 64))=>compress_any S hs8 A' c' (L.take 64) w1 hb hl64 hcap
   obtain ⟨T,hT⟩:∃ T,T=compL S (L.take 64):=⟨_,rfl⟩
   rw[← hT] at hcomp hsucc
   have hT8:T.length=8:=by rw[hT];exact compL_length _ _ hs8
   have hrdC:Kd.C (Kd.int .u8) wr A' 64 (L.take 64):=by have:=(hat.rd.take 64).toC;rwa [hl64] at this
   have hcomp':=Lib.hid hcomp
   have hat':=Lib.hid hat
   have hs8':=Lib.hid hs8
   have hsucc':=Lib.hid hsucc
   have hdrop':=Lib.hid hdrop
   have hT8':=Lib.hid hT8
   have hrdC':=Lib.hid hrdC
   have hchg':=Lib.hid hchg
   have hm':=Lib.hid hm
   have hgk1:Hid (1≤gk):=Lib.hid (by omega)
   clear hS hL hT hcomp hat hs8 hsucc hdrop hT8 hrdC hchg hLl hm hl64 h64 hcap hh
   go_wp2_with fail
   refine start_ (n:=14) (S:=fun w'=>w'.heap[g]?=some (hobj S (.slice A' L.length c') n bg)) (ds:=[13]) #[false,false,false,false,false,false,false,false,false,false,false,false,false,false] (by kernel_rfl) rfl rfl (by exact hat'.out.obj) (fun hHeld=>?_)
   refine pure_ (i:=0) (N:=some 8) (v:=?_) (a':=?_) #[true,false,false,false,false,false,false,false,false,false,false,false,false,false] rfl rfl (by kernel_rfl) (fun _ _ _ h=>h) (Or.inl ⟨by rfl,?_⟩) ?_ ?_
   rotate_left
   ·intro w';go_simp;with_reducible rfl
   rotate_left
   ·simp only[Act.put,sZ0,sZ1,sZ2,i64_w,i32_w];rfl
   refine pure_ (i:=1) (N:=some 9) (v:=?_) (a':=?_) #[true,true,false,false,false,false,false,false,false,false,false,false,false,false] rfl rfl (by kernel_rfl) (fun _ _ _ h=>h) (Or.inl ⟨by rfl,?_⟩) ?_ ?_
   rotate_left
   ·intro w';go_simp;with_reducible rfl
   rotate_left
   ·simp only[Act.put,sZ0,sZ1,sZ2,i64_w,i32_w];rfl
   refine pure_ (i:=2) (N:=some 10) (v:=?_) (a':=?_) #[true,true,true,false,false,false,false,false,false,false,false,false,false,false] rfl rfl (by kernel_rfl) (fun _ _ _ h=>h) (Or.inl ⟨by rfl,?_⟩) ?_ ?_
   rotate_left
   ·intro w';go_simp;with_reducible rfl
   rotate_left
   ·simp only[Act.put,sZ0,sZ1,sZ2,i64_w,i32_w];rfl
   refine pure_ (i:=3) (N:=some 11) (v:=?_) (a':=?_) #[true,true,true,true,false,false,false,false,false,false,false,false,false,false] rfl rfl (by kernel_rfl) (fun _ _ _ h=>h) (Or.inl ⟨by rfl,?_⟩) ?_ ?_
   rotate_left
   ·intro w';go_simp;with_reducible rfl
   rotate_left
   ·simp only[Act.put,sZ0,sZ1,sZ2,i64_w,i32_w];rfl
   refine take_ (i:=4) (N:=some 12) (v:=?_) (a':=?_) #[true,true,true,true,true,false,false,false,false,false,false,false,false,false] rfl rfl (by kernel_rfl) (fun _ _ _ h=>h) (Or.inl ⟨by rfl,?_⟩) hHeld ?_ ?_
   rotate_left
   ·intro w' hS
    refine (exec_load_mid w' 138 _ (by rfl) g 0 (by rfl) (S.map (Value.int .u32)) _ (hrange hs8'.out hS) Try.underlying138 rfl (by rw[List.length_map,hs8'.out,size8])).trans ?_;show Result.ok (Next.value (Value.agg (ints .u32 S))) w'=_;with_reducible rfl
   rotate_left
   ·simp only[Act.put,sZ0,sZ1,sZ2,i64_w,i32_w];rfl
   refine pure_ (i:=5) (N:=some 13) (v:=?_) (a':=?_) #[true,true,true,true,true,true,false,false,false,false,false,false,false,false] rfl rfl (by kernel_rfl) (fun _ _ _ h=>h) (Or.inl ⟨by rfl,?_⟩) ?_ ?_
   rotate_left
   ·intro w';go_simp;with_reducible rfl
   rotate_left
   ·simp only[Act.put,sZ0,sZ1,sZ2,i64_w,i32_w];rfl
   refine pure_ (i:=6) (N:=some 14) (v:=?_) (a':=?_) #[true,true,true,true,true,true,true,false,false,false,false,false,false,false] rfl rfl (by kernel_rfl) (fun _ _ _ h=>h) (Or.inl ⟨by rfl,?_⟩) ?_ ?_
   rotate_left
   ·intro w';go_simp;with_reducible rfl
   rotate_left
   ·simp only[Act.put,sZ0,sZ1,sZ2,i64_w,i32_w];rfl
   refine pure_ (i:=7) (N:=some 15) (v:=?_) (a':=?_) #[true,true,true,true,true,true,true,true,false,false,false,false,false,false] rfl rfl (by kernel_rfl) (fun _ _ _ h=>h) (Or.inl ⟨by rfl,?_⟩) ?_ ?_
   rotate_left
   ·intro w';go_simp;with_reducible rfl
   rotate_left
   ·simp only[Act.put,sZ0,sZ1,sZ2,i64_w,i32_w];rfl
   refine take_ (i:=8) (N:=some 16) (v:=?_) (a':=?_) #[true,true,true,true,true,true,true,true,true,false,false,false,false,false] rfl rfl (by kernel_rfl) (fun _ _ _ h=>h) (Or.inl ⟨by rfl,?_⟩) hHeld ?_ ?_
   rotate_left
   ·intro w' hS
    have hq:=hcell8 hs8'.out hS
    go_simp;with_reducible rfl
   rotate_left
   ·simp only[Act.put,sZ0,sZ1,sZ2,i64_w,i32_w];rfl
   refine pure_ (i:=9) (N:=some 17) (v:=?_) (a':=?_) #[true,true,true,true,true,true,true,true,true,true,false,false,false,false] rfl rfl (by kernel_rfl) (fun _ _ _ h=>h) (Or.inl ⟨by rfl,?_⟩) ?_ ?_
   rotate_left
   ·intro w';go_simp;with_reducible rfl
   rotate_left
   ·simp only[Act.put,sZ0,sZ1,sZ2,i64_w,i32_w];rfl
   refine one_ (i:=10) (N:=some 18) #[true,true,true,true,true,true,true,true,true,true,true,false,false,false] rfl rfl (by kernel_rfl) (by decide) (fun K hK=>?_)
   refine goes_ Try.func103 (by kernel_rfl) rfl #[.agg (ints .u32 S),.slice A' 64 c'] (by rfl) rfl rfl (by simp only[List.map_toArray,List.map_cons,List.map_nil];rfl) ?_
   refine (hcomp'.out _ (Kd.C_below hrdC'.out (below_drew (Below.refl _ _)))).mono ?_
   rintro e w1 ⟨rfl,hb1⟩
   refine ⟨_,rfl,?_⟩
   refine hK.out _ _ (heap_below hHeld hb1) (fun hHeld=>?_)
   clear hK K;refine norm_ (a':=?_) ?_ ?_
   rotate_left
   ·show Act.put _ (some 18) _=_
    simp only[Act.put,sZ0,sZ1,sZ2,i64_w,i32_w];rfl
   refine pure_ (i:=11) (N:=some 19) (v:=?_) (a':=?_) #[true,true,true,true,true,true,true,true,true,true,true,true,false,false] rfl rfl (by kernel_rfl) (fun _ _ _ h=>h) (Or.inl ⟨by rfl,?_⟩) ?_ ?_
   rotate_left
   ·intro w';go_simp;with_reducible rfl
   rotate_left
   ·simp only[Act.put,sZ0,sZ1,sZ2,i64_w,i32_w];rfl
   refine pure_ (i:=12) (N:=some 20) (v:=?_) (a':=?_) #[true,true,true,true,true,true,true,true,true,true,true,true,true,false] rfl rfl (by kernel_rfl) (fun _ _ _ h=>h) (Or.inl ⟨by rfl,?_⟩) ?_ ?_
   rotate_left
   ·intro w';go_simp;with_reducible rfl
   rotate_left
   ·simp only[Act.put,sZ0,sZ1,sZ2,i64_w,i32_w];rfl
   refine last_ (i:=13) (N:=none) #[true,true,true,true,true,true,true,true,true,true,true,true,true,true] rfl rfl (by kernel_rfl) (by decide) (fun K hK=>?_)
   refine skip_ (w1:=w1.setCells g 0 (T.map (Value.int .u32))) (by rfl) rfl ?_ ?_
   ·exact exec_store_mid w1 138 _ _ (by rfl) g 0 (ints .u32 T) (by rfl) (by rfl) (there8 hs8'.out hHeld hT8'.out) (sz8 hT8'.out) (ints_one _ _)
   refine hK.out _ _ ?_
   have hobj2:=hsetS hs8'.out hHeld T hT8'.out
   have hchg2:Chg g wr (w1.setCells g 0 (T.map (Value.int .u32))):=((Chg.refl g wr).drew.trans (Chg.of_below hb1)).setCells _ _
   obtain ⟨w2,hw2⟩:∃ w2,w2=w1.setCells g 0 (T.map (Value.int .u32)):=⟨_,rfl⟩
   rw[← hw2] at hobj2 hchg2 ⊢
   clear hK K;refine done_ (by kernel_rfl) ?_
   clear hw2 hHeld
   have hd8:=hcell8 hT8'.out hobj2
   have hf8:=hfree hobj2 8
   have hobj2':=Lib.hid hobj2
   have hchg2':=Lib.hid hchg2
   clear hobj2 hchg2 hb1 hc8 hcut
   have hLlen':=Lib.hid hat'.out.cap
   go_wp2
   ·go_roundg (gk - 1)
    case measure=>have:=hgk1.out;omega
    case rel=>
     refine ⟨m+1,A',0,by have:=hm'.out;have:=hgk1.out;omega,?_,(hchg'.out.trans hchg2'.out).setCell _ _⟩
     rw[hsucc'.out,hdrop'.out]
     refine ⟨hT8'.out,?_,((hat'.out.rd.keep hchg2'.out).keep ((Chg.refl g w2).setCell 8 _)).drop' 64 (fun b o _ h=>absurd h (by have:=hLlen'.out;omega)),by rw[List.length_drop];have:=hLlen'.out;omega⟩
     rw[List.length_drop,hset8 hT8'.out hobj2'.out]
   go_roundg (gk - 1)
   case measure=>have:=hgk1.out;omega
   case rel=>
    refine ⟨m+1,Option.map (fun x=>{ block:=x.block,off:=x.off+64 }) A',c' - 64,by have:=hm'.out;have:=hgk1.out;omega,?_,(hchg'.out.trans hchg2'.out).setCell _ _⟩
    rw[hsucc'.out,hdrop'.out]
    refine ⟨hT8'.out,?_,((hat'.out.rd.keep hchg2'.out).keep ((Chg.refl g w2).setCell 8 _)).drop' 64 (fun b o h _=>by subst h;rfl),by rw[List.length_drop];have:=hLlen'.out;omega⟩
    rw[List.length_drop,hset8 hT8'.out hobj2'.out]
  have h64i:((64:Int)≤(L.length:Int))=False:=eq_false (by omega)
  have hgk:m=l.length / 64:=by omega
  have hat':=Lib.hid hat
  have hchg':=Lib.hid hchg
  have hgk':=Lib.hid hgk
  have hS':=Lib.hid hS
  have hL':=Lib.hid hL
  clear hS hL hat hs8 hchg hLl hm hgk h64 hh
  go_wp2
  go_end0
  refine ⟨rfl,A',c',?_,hchg'.out⟩
  rw[← hgk'.out,← hS'.out,← hL'.out]
  exact hat'.out
end Go.Proofs.Ytbajioiiaamokaa.Own
