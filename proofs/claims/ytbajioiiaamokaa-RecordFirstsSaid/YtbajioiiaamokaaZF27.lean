/- DerP, pruned (slim.py). -/
import Derived.Test.YtbajioiiaamokaaZF26
namespace Go.Proofs.Ytbajioiiaamokaa.Own
open Go.RowKit Go.Proofs.Ytbajioiiaamokaa.Arr Go.Proofs.Ytbajioiiaamokaa.QB Go.Proofs.YtbajioiiaamokaaW.PrintWords Go.Proofs.YtbajioiiaamokaaW.PrintLast Go.Proofs.YtbajioiiaamokaaW.PrintMore
set_option linter.unusedVariables false
set_option linter.unusedSimpArgs false
theorem refTag_at (key text:List Int) (hk:∀ x ∈ key,byt x) (ht:∀ x ∈ text,byt x) (hkl:key.length≤1000) (htl:text.length≤1000) (n:Nat) (hn:4000≤n):nepentheref03_Tag.f n key text=some (tagB (blockL key) text):=
 fixk (f:=fun k=>nepentheref03_Tag.f k key text) (c:=2000+key.length+text.length) (fun k=>by have:=refTag_eq key text hk ht (by omega) (by omega) k;rw[show k+2000+key.length+text.length=k+(2000+key.length+text.length) from by omega] at this;exact this) n (by omega)
theorem refXor_at (a b:List Int) (h:a.length=32) (hb:b.length=32) (n:Nat) (hn:100≤n):nepentheref01_Xor.f n a b=some (xorL a b):=
 fixk (f:=fun k=>nepentheref01_Xor.f k a b) (c:=33) (fun k=>by have:=refXor_eq a b (by omega) (by omega) k;rw[h] at this;exact this) n (by omega)
theorem duo_succ1 (B u0:List Int) (n:Nat):(duo B u0 (n+1)).1=tagB B (duo B u0 n).1:=rfl
theorem duo_succ2 (B u0:List Int) (n:Nat):(duo B u0 (n+1)).2=xorL (duo B u0 n).2 (tagB B (duo B u0 n).1):=rfl
theorem refDB_l (pass u0:List Int) (hp:∀ x ∈ pass,byt x) (hpl:pass.length≤1000) (hu:∀ x ∈ u0,byt x) (hul:u0.length=32) (r:Nat) (hr1:1≤r) (hr:r≤1000) (d:Nat):∀ i,i+d=r - 1→∀ k,4000≤k→nepentheref04_Block.l0 (k+d+1) pass (r:Int) (duo (blockL pass) u0 i).1 (duo (blockL pass) u0 i).2 ((i:Int)+1)=some (duo (blockL pass) u0 (r - 1)).2:=by
 induction d with
 |zero=>
  intro i hi k hk
  obtain rfl:i=r - 1:=by omega
  rw[nepentheref04_Block.l0,if_neg (by omega)]
 |succ d ih=>
  intro i hi k hk
  have h1:=duo_len (blockL pass) u0 hul i
  have h2:=byt_duo (blockL pass) u0 hu i
  have:=ih (i+1) (by omega) k hk
  rw[show ((i+1:Nat):Int)=(i:Int)+1 from by omega,duo_succ1,duo_succ2] at this
  generalize hP:duo (blockL pass) u0 i=p at h1 h2 this ⊢
  obtain ⟨u,o⟩:=p
  have hT:=refTag_at pass u hp h2.1 hpl (by have:=h1.1;simp only at this;omega) (k+d+1) (by omega)
  have hX:=refXor_at o (tagB (blockL pass) u) h1.2 (tagB_length _ _) (k+d+1) (by omega)
  have hw:=w64 ((i:Int)+1+1) (by omega) (by omega)
  have hlt:(i:Int)+1<(r:Int):=by omega
  simp only at this
  generalize tagB (blockL pass) u=V at hT hX this
  generalize (duo (blockL pass) u0 (r - 1)).2=RES at this ⊢
  clear hP h1 h2 ih
  rw[show k+(d+1)+1=(k+d+1)+1 from by omega,nepentheref04_Block.l0,if_pos hlt,hT]
  rw[Option.bind_some]
  rw[hX]
  rw[Option.bind_some]
  rw[hw]
  exact this
theorem refDBlock_at (pass salt:List Int) (hp:∀ x ∈ pass,byt x) (hs:∀ x ∈ salt,byt x) (hpl:pass.length≤900) (hsl:salt.length≤900) (r:Nat) (hr1:1≤r) (hr:r≤1000) (i:Int) (hi0:0≤i) (hi1:i≤1000) (n:Nat) (hn:6000≤n):nepentheref04_Block.f n pass salt (r:Int) i=some (blockD (blockL pass) salt r i):=by
 unfold nepentheref04_Block.f
 have hb:nepentheref01_Big.f n i 4=some (big4 i):=fixk (f:=fun k=>nepentheref01_Big.f k i 4) (c:=20) (refBig4 i hi0 (by omega)) n (by omega)
 have hbyt:∀ x ∈ salt++big4 i,byt x:=fun x hx=>(List.mem_append.1 hx).elim (hs x) (byt_big4 i x)
 have hlen:(salt++big4 i).length≤1000:=by rw[List.length_append,big4_len];omega
 have hl:=refDB_l pass (tagB (blockL pass) (salt++big4 i)) hp (by omega) (byt_tag _ _) (tagB_length _ _) r hr1 hr (r - 1) 0 (by omega) (n - (r - 1) - 1) (by omega)
 rw[show n - (r - 1) - 1+(r - 1)+1=n from by omega] at hl
 simp only[Option.bind_some,List.nil_append,List.length_nil]
 rw[if_pos (by omega),wraps_u64 i hi0 (by omega),hb]
 simp only[Option.bind_some]
 rw[if_pos (by rw[big4_len];omega),refTag_at pass _ hp hbyt (by omega) hlen n (by omega)]
 simp only[Option.bind_some]
 exact hl
theorem refDBytes_l (pass salt:List Int) (hp:∀ x ∈ pass,byt x) (hs:∀ x ∈ salt,byt x) (hpl:pass.length≤900) (hsl:salt.length≤900) (r:Nat) (hr1:1≤r) (hr:r≤1000) (n:Nat) (hn:n≤1024) (d:Nat):∀ i,i+d=32→∀ k,6000≤k→nepentheref04_Bytes.l0 (k+d+1) pass salt (r:Int) (n:Int) (blocksD (blockL pass) salt r i) ((i:Int)+1)=some (bytesD (blockL pass) salt r n):=by
 induction d with
 |zero=>
  intro i hi k hk
  have hl:=blocksD_length (blockL pass) salt r i
  rw[nepentheref04_Bytes.l0,if_neg (by omega),if_pos (by omega),if_pos (by omega),Int.toNat_natCast,bytesD_of _ _ _ _ _ (by omega) (by omega)]
 |succ d ih=>
  intro i hi k hk
  have hl:=blocksD_length (blockL pass) salt r i
  by_cases h:32*i<n
  ·have:=ih (i+1) (by omega) k hk
   rw[show ((i+1:Nat):Int)=(i:Int)+1 from by omega] at this
   rw[show k+(d+1)+1=(k+d+1)+1 from by omega,nepentheref04_Bytes.l0,if_pos (by omega),refDBlock_at pass salt hp hs hpl hsl r hr1 hr _ (by omega) (by omega) _ (by omega)]
   simp only[Option.bind_some]
   rw[if_pos (by rw[blockD_length];omega),w64 _ (by omega) (by omega)]
   exact this
  rw[nepentheref04_Bytes.l0,if_neg (by omega),if_pos (by omega),if_pos (by omega),Int.toNat_natCast,bytesD_of _ _ _ _ _ (by omega) (by omega)]
theorem refDBytes_at (pass salt:List Int) (hp:∀ x ∈ pass,byt x) (hs:∀ x ∈ salt,byt x) (hpl:pass.length≤900) (hsl:salt.length≤900) (r:Nat) (hr1:1≤r) (hr:r≤1000) (n:Nat) (hn:n≤1024):∃ k,nepentheref04_Bytes.f k pass salt (r:Int) (n:Int)=some (bytesD (blockL pass) salt r n):=by
 obtain ⟨k,hk⟩:∃ k:Nat,6000≤k:=⟨6000,Nat.le_refl _⟩
 exact ⟨_,refDBytes_l pass salt hp hs hpl hsl r hr1 hr n hn 32 0 (by omega) k hk⟩
end Go.Proofs.Ytbajioiiaamokaa.Own
