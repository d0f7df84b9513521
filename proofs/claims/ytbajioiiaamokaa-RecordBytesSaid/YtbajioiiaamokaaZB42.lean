/- FiP, pruned (slim.py). -/
import Derived.Test.YtbajioiiaamokaaZB41
import Derived.Deep.DeepCutAuto
namespace Go.Proofs.Ytbajioiiaamokaa.Own
open Go.RowKit Go.Proofs.Ytbajioiiaamokaa.Arr Go.Proofs.Ytbajioiiaamokaa.QB Go.Proofs.YtbajioiiaamokaaW.PrintWords Go.Proofs.YtbajioiiaamokaaW.PrintLast Go.Proofs.YtbajioiiaamokaaW.PrintMore
set_option linter.unusedVariables false
set_option linter.unusedSimpArgs false
theorem take_app2 {α:Type} (a b:List α) (n:Nat) (h:a.length=n):(a++b).take n=a:=by rw[List.take_append_of_le_length (by omega),List.take_of_length_le (by omega)]
theorem drop_app2 {α:Type} (a b:List α) (n:Nat) (h:a.length=n):(a++b).drop n=b:=by rw[← h,List.drop_left]
theorem cut_app {α:Type} (a b c:List α) (n m:Nat) (h:a.length=n) (hm:n+b.length=m):((a++(b++c)).take m).drop n=b:=by
 rw[← List.append_assoc,take_app2 (a++b) c m (by rw[List.length_append];omega),drop_app2 a b n h]
theorem slRead_bytes {x:SlT} (h:slRight x=true) (hf:slFit x):slRead (slBytes x)=some x:=by
 obtain ⟨h1,h2,h3,h4,h5,h6,h7⟩:=hf
 by_cases hu:x.used=true
 ·have hb:slBytes x=[1,0,0,0]++(bigL 4 x.size++(bigL 8 x.epoch++(bigL 8 x.count++x.wrap))):=by
   unfold slBytes;rw[if_pos hu];simp only[List.append_assoc]
  have hn:slBytes x≠zL 128:=by
   intro e
   have:=congrArg (fun l:List Int=>l.getD 0 0) (hb.symm.trans e)
   simp[zL] at this
  have t4:valL ((slBytes x).take 4)=16777216:=by rw[hb,take_app2 _ _ 4 rfl];rfl
  have hr:rdSl (slBytes x)=x:=by
   unfold rdSl
   have e1:((slBytes x).take 8).drop 4=bigL 4 x.size:=by rw[hb];exact cut_app _ _ _ 4 8 rfl (by rw[bigL_length])
   have e2:((slBytes x).take 16).drop 8=bigL 8 x.epoch:=by
    rw[hb,← List.append_assoc];exact cut_app _ _ _ 8 16 (by simp[bigL_length]) (by rw[bigL_length])
   have e3:((slBytes x).take 24).drop 16=bigL 8 x.count:=by
    rw[hb,← List.append_assoc,← List.append_assoc];exact cut_app _ _ _ 16 24 (by simp[bigL_length]) (by rw[bigL_length])
   have e4:(slBytes x).drop 24=x.wrap:=by
    rw[hb,← List.append_assoc,← List.append_assoc,← List.append_assoc];exact drop_app2 _ _ 24 (by simp[bigL_length])
   rw[e1,e2,e3,e4,valL_big 4 _ h1 (by omega),valL_big 8 _ h3 (by omega),valL_big 8 _ h5 (by omega)]
   cases x
   simp only at hu
   subst hu
   rfl
  unfold slRead
  rw[if_neg hn,hr,if_pos ⟨t4,h⟩]
 have hx:x=slZero:=by
  unfold slRight at h
  rw[if_neg hu] at h
  obtain ⟨k1,k2,k3,k4⟩:=of_decide_eq_true h
  cases x
  simp only[Bool.not_eq_true] at hu k1 k2 k3 k4
  subst hu k1 k2 k3 k4
  rfl
 unfold slRead slBytes
 rw[if_neg hu,if_pos rfl,hx]
theorem slotsL_cut (r:RcT) (n:Nat) (h:∀ k,k<n→slRight (r.s k)=true) (k:Nat) (hk:k<n):((slotsL r n).take (k*128+128)).drop (k*128)=slBytes (r.s k):=by
 induction n with
 |zero=>omega
 |succ m ih=>
  rw[slotsL_succ]
  have hl:=slotsL_len r m (fun j hj=>h j (by omega))
  rcases Nat.lt_or_ge k m with hlt | hge
  ·rw[List.take_append_of_le_length (by omega)]
   exact ih (fun j hj=>h j (by omega)) hlt
  obtain rfl:k=m:=by omega
  have h8:=slBytes_len _ (h k hk)
  have:=cut_app (slotsL r k) (slBytes (r.s k)) [] (k*128) (k*128+128) (by omega) (by omega)
  rw[List.append_nil] at this
  exact this
theorem recBytes_parts {r:RcT} (key:List Int):recBytes r key=headB r++(slotsL r 4++tagB (blockL key) (recBody r 4)):=by
 unfold recBytes;rw[recBody,List.append_assoc]
theorem partR_bytes {r:RcT} (h:rcRight r=true) (key:List Int) (k:Nat) (hk:k<4):partR (recBytes r key) k=slBytes (r.s k):=by
 obtain ⟨hs,-,-⟩:=rcRight_parts h
 have h80:=headB_len h
 have hl:=slotsL_len r 4 hs
 unfold partR
 rw[recBytes_parts,← slotsL_cut r 4 hs k hk,List.take_append,List.drop_append,List.take_append,h80]
 have e1:((headB r).take (80+k*128+128)).drop (80+k*128)=[]:=by
  apply List.drop_eq_nil_of_le
  rw[List.length_take];omega
 have e2:(80+k*128+128) - 80=k*128+128:=by omega
 have e3:((headB r).take (80+k*128+128)).length=80:=by rw[List.length_take];omega
 have e4:80+k*128 - 80=k*128:=by omega
 rw[e1,e2,e3,e4,List.nil_append,hl,show k*128+128 - 128*4=0 by omega,List.take_zero,List.append_nil]
theorem head_parts {r:RcT} (h:rcRight r=true) (hf:recFit r) (key:List Int) :
  valL (((recBytes r key).take 8).drop 0)=r.gen∧valL (((recBytes r key).take 16).drop 8)=r.epoch∧((recBytes r key).take 32).drop 16=r.salt∧valL (((recBytes r key).take 40).drop 32)=r.bad∧((recBytes r key).take 48).drop 40=zL 8∧((recBytes r key).take 80).drop 48=r.check:=by
 obtain ⟨-,h16,h32⟩:=rcRight_parts h
 obtain ⟨⟨g1,g2⟩,⟨e1,e2⟩,⟨b1,b2⟩,-⟩:=hf
 obtain ⟨T,hT⟩:∃ T,T=slotsL r 4++tagB (blockL key) (recBody r 4):=⟨_,rfl⟩
 have hb:recBytes r key=bigL 8 r.gen++(bigL 8 r.epoch++(r.salt++(bigL 8 r.bad++(zL 8++(r.check++T))))):=by
  rw[recBytes_parts,← hT,headB];simp only[List.append_assoc]
 rw[hb]
 refine ⟨?_,?_,?_,?_,?_,?_⟩
 ·rw[List.drop_zero,take_app2 _ _ 8 (bigL_length _ _),valL_big 8 _ g1 (by omega)]
 ·rw[cut_app _ _ _ 8 16 (bigL_length _ _) (by rw[bigL_length]),valL_big 8 _ e1 (by omega)]
 ·rw[← List.append_assoc];exact cut_app _ _ _ 16 32 (by simp[bigL_length]) (by omega)
 ·rw[← List.append_assoc,← List.append_assoc,cut_app _ _ _ 32 40 (by simp[bigL_length,h16]) (by rw[bigL_length]),valL_big 8 _ b1 (by omega)]
 ·rw[← List.append_assoc,← List.append_assoc,← List.append_assoc];exact cut_app _ _ _ 40 48 (by simp[bigL_length,h16]) (by simp[zL])
 rw[← List.append_assoc,← List.append_assoc,← List.append_assoc,← List.append_assoc];exact cut_app _ _ _ 48 80 (by simp[bigL_length,h16,zL]) (by omega)
theorem rcRead_bytes {r:RcT} (h:rcRight r=true) (hf:recFit r) (key:List Int) :
  ∃ s:Nat→SlT,rcRead (recBytes r key)=some { r with s:=s }∧∀ k,k<4→s k=r.s k:=by
 obtain ⟨hs,-,-⟩:=rcRight_parts h
 obtain ⟨p1,p2,p3,p4,p5,p6⟩:=head_parts h hf key
 have hk:∀ k,k<4→slRead (partR (recBytes r key) k)=some (r.s k):=fun k hk=>by rw[partR_bytes h key k hk];exact slRead_bytes (hs k hk) (hf.2.2.2 k hk)
 refine ⟨fun k=>(slRead (partR (recBytes r key) k)).getD slZero,?_,fun k h4=>by simp only[hk k h4,Option.getD_some]⟩
 unfold rcRead
 rw[if_pos ⟨p5,slotsOk_of hk⟩]
 unfold rcHead
 rw[p1,p2,p3,p4,p6]
theorem fits_bytes {r:RcT} (h:rcRight r=true) (key:List Int):fitsB (recBytes r key) key=true:=by
 unfold fitsB recBytes
 have hl:=recBody_len h 4 (by omega)
 rw[take_app2 _ _ 592 (by omega),drop_app2 _ _ 592 (by omega)]
 simp
theorem byt_zL (n:Nat):∀ x ∈ zL n,byt x:=fun x hx=>by
 obtain rfl:=List.eq_of_mem_replicate hx
 exact ⟨by decide,by decide⟩
theorem byt_slBytes {x:SlT} (h:∀ y ∈ x.wrap,byt y):∀ y ∈ slBytes x,byt y:=by
 intro y hy
 unfold slBytes at hy
 split at hy
 ·simp only[List.mem_append] at hy
  rcases hy with (((hy | hy) | hy) | hy) | hy
  ·simp only[List.mem_cons,List.not_mem_nil,or_false] at hy
   rcases hy with rfl | rfl | rfl | rfl <;> exact ⟨by decide,by decide⟩
  ·exact bigL_byt _ _ _ hy
  ·exact bigL_byt _ _ _ hy
  ·exact bigL_byt _ _ _ hy
  exact h _ hy
 exact byt_zL _ _ hy
theorem byt_recBytes {r:RcT} (hs:∀ x ∈ r.salt,byt x) (hc:∀ x ∈ r.check,byt x) (hw:∀ k,k<4→∀ x ∈ (r.s k).wrap,byt x) (key:List Int):∀ x ∈ recBytes r key,byt x:=by
 intro x hx
 rw[recBytes_parts,headB,slotsL] at hx
 simp only[List.mem_append,List.mem_flatMap,List.mem_range] at hx
 rcases hx with (((((hx | hx) | hx) | hx) | hx) | hx) | (⟨k,hk,hx⟩ | hx)
 ·exact bigL_byt _ _ _ hx
 ·exact bigL_byt _ _ _ hx
 ·exact hs _ hx
 ·exact bigL_byt _ _ _ hx
 ·exact byt_zL _ _ hx
 ·exact hc _ hx
 ·exact byt_slBytes (hw k hk) _ hx
 exact byt_tag _ _ _ hx
theorem rcl_congr {r:RcT} {s:Nat→SlT} (h:∀ k,k<4→s k=r.s k) (A:Nat→Option Addr) (c:Nat→Nat):rcl { r with s:=s } A c=rcl r A c:=by
 show rch r A c++rcs s A c=rch r A c++rcs r.s A c
 rw[rcs_congr h]
theorem rlist_congr {r:RcT} {s:Nat→SlT} (h:∀ k,k<4→s k=r.s k) (j:Nat) (hj:j<6):rlist { r with s:=s } j=rlist r j:=by
 match j with
 |0=>rfl
 |1=>rfl
 |k+2=>show (s k).wrap=(r.s k).wrap;rw[h k (by omega)]
theorem RcV_congr {w:World} {r:RcT} {s:Nat→SlT} {A:Nat→Option Addr} {c:Nat→Nat} (h:∀ k,k<4→s k=r.s k) (hv:RcV w { r with s:=s } A c):RcV w r A c:=fun j hj=>by
 have:=hv j hj
 rw[rlist_congr h j hj] at this
 exact this
end Go.Proofs.Ytbajioiiaamokaa.Own
