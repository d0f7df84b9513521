/- RdL, pruned (slim.py). -/
import Derived.Test.YtbajioiiaamokaaZR42
import Derived.Test.YtbajioiiaamokaaZR43
import Derived.Test.YtbajioiiaamokaaZR44
namespace Go.Proofs.Ytbajioiiaamokaa.Own
open Go.RowKit Go.Proofs.Ytbajioiiaamokaa.Arr Go.Proofs.Ytbajioiiaamokaa.QB Go.Proofs.YtbajioiiaamokaaW.PrintWords Go.Proofs.YtbajioiiaamokaaW.PrintLast Go.Proofs.YtbajioiiaamokaaW.PrintMore
set_option linter.unusedVariables false
set_option linter.unusedSimpArgs false
attribute [-go_sem] Instr.build
section
variable {P : Program} {ops : Array Oper} {rest : List Oper} {o : Oper} {a : Act} {w : World} {Q : Exit → Act → World → Prop}
theorem wpList_on (hw : Region.wanted o (yielded ops a.tmps) = true) (h : ∀ K : Act → World → Prop,(∀ a w,wpList P ops Q rest a w → K a w) → o.wp P a w K Q) : wpList P ops Q (o :: rest) a w :=
 wpList_step fun K hK => by rw [if_pos hw];exact h K hK
theorem wpList_load_row_on (hw : Region.wanted o (yielded ops a.tmps) = true) (ty : TypeId) (x : Operand) (ho : o.op = .load ty x)
  (g : Nat) (hx : a.eval x = .pointer (some ⟨g,0,none⟩)) (t : TypeId) (cs : Array Value) (fr : Nat × Nat) (d : TypeDesc) (hg : w.heap[g]? = some (.cells cs t fr))
  (hu : P.underlying ty = some d) (hd : (match d with | .struct _ | .array _ _ => true | _ => false) = true) (hi : (P.info? ty).map (·.size) = some cs.size)
  (h : wpList P ops Q rest (a.put o.dst (.agg cs)) w) : wpList P ops Q (o :: rest) a w :=
 wpList_on hw fun _ hK => wp_load_row ty x ho g hx t cs fr d hg hu hd hi (hK _ _ h)
end
theorem slRead_wrap (l : List Int) (n : Nat) (hl : l.length ≤ n) : ((slRead l).getD slZero).wrap.length ≤ n := by
 unfold slRead
 split
 ·exact Nat.zero_le _
 ·split
  ·show (l.drop 24).length ≤ n;rw [List.length_drop];omega
  ·exact Nat.zero_le _
theorem rcRead_len (l : List Int) (n : Nat) (hl : l.length ≤ n) (r : RcT) (h : rcRead l = some r) : ∀ j,j < 6 → (rlist r j).length ≤ n := by
 unfold rcRead at h
 split at h
 ·obtain rfl : rcHead l = r := by injection h
  intro j hj
  match j with
  |0 => show ((l.take 32).drop 16).length ≤ n;rw [List.length_drop,List.length_take];omega
  |1 => show ((l.take 80).drop 48).length ≤ n;rw [List.length_drop,List.length_take];omega
  |k + 2 => exact slRead_wrap _ _ (by unfold partR;rw [List.length_drop,List.length_take];omega)
 ·cases h
theorem rlist_zero (j : Nat) : (rlist rcZero j).length ≤ 1000000 := by
 match j with
 |0 => exact Nat.zero_le _
 |1 => exact Nat.zero_le _
 |k + 2 => exact Nat.zero_le _
set_option maxHeartbeats 4000000 in
set_option maxRecDepth 100000 in
theorem reads_short (A : Option Addr) (c n : Nat) (Y : Option Addr) (m kc : Nat) (w : World) (hn : n ≠ 624) :
  Calls Try.prog 6 #[.slice A n c,.slice Y m kc] w fun e w' => e = .returned (.bool true) ∧ Below w.heap.size w w' := by
 obtain ⟨hz,-⟩ := zero_of_info (P := Try.prog) infoRc
 obtain ⟨hzr,-⟩ := zero_of_info (P := Try.prog) infoRr
 obtain ⟨Z,hZ⟩ : ∃ Z : Array Value,Z = zRc := ⟨_,rfl⟩
 have hW0 : ∀ (W : World),(Instr.build 39 #[]).run Try.prog W = .ok (.agg Z) W := fun W => by rw [hZ];exact run_build W _ _ _ builtRr0
 have hZs := Lib.hid (show Z.size = 25 by rw [hZ];rfl)
 rw [← hZ] at hz hzr
 have hawk := Lib.hid awake18_any
 have hof := Lib.hid (fun (AX : Nat → Option Addr) (cX : Nat → Nat) (W : World) => of18_any rcZero AX cX W)
 have hsame := Lib.hid (fun (AX : Nat → Option Addr) (cX : Nat → Nat) (W : World) (hV : RcV W rcZero AX cX) => show Calls Try.prog 16 #[.agg (rcl rcZero AX cX).toArray,.agg Z] W _ from by rw [hZ];exact recSame_eq rcZero AX cX (fun _ => none) (fun _ => 0) W hV (RcV.zero W) (fun j _ => rlist_zero j))
 have hread := Lib.hid (fun (W : World) => show Calls Try.prog 19 #[.slice A n c] W (fun e w' => ∃ AX cX,e = .returned (.tuple #[.agg (rcl rcZero AX cX).toArray,.int .i64 2]) ∧ RcO W.heap.size w' rcZero AX cX ∧ Below W.heap.size W w') from recRead_short A n c hn W)
 have hfit := Lib.hid (fun (W : World) => recFits_no A n c Y m kc W (fun e => hn e.1))
 have hn1 : ((n : Int) = 624) = False := by simp;omega
 have hn2 : ((n : Int) == 624) = false := by simp;omega
 have hn3 : ((n : Int) != 624) = true := by simp;omega
 clear hn hZ
 go_enter Try.func6,Try.ntmps6
 go_wp2_with (first
  |((with_reducible go_at_call 19);refine (hread.out w).mono ?_;rintro e w1 ⟨AX,cX,rfl,hO,hb⟩;have b1 := Lib.hid hb;have V1 := Lib.hid hO.v;obtain ⟨G,hG⟩ : ∃ G,G = (rcl rcZero AX cX).toArray := ⟨_,rfl⟩;rw [← hG];have hGs := Lib.hid (show (Try.prog.info? 28).map (·.size) = some G.size by rw [hG];exact szRc);have hGo := Lib.hid (show G.all (·.oneCell') = true by rw [hG];exact rcl_one _ _ _);have hGZ := Lib.hid (show Z.size = G.size by rw [hZs.out,hG];rfl);have hof1 := Lib.hid (fun W => hof.out AX cX W);have hsm := Lib.hid (fun (W : World) (hW : Below w1.heap.size w1 W) => hsame.out AX cX W (V1.out.below hW));rw [← hG] at hof1 hsm;clear hb hO hG)
  |(with_reducible refine wpList_store_row rfl 28 _ _ rfl w1.heap.size G rfl rfl 28 Z (heap_alloc_last _ _) hGs.out hGZ.out hGo.out ?_;have bx2 := Lib.hid (below_setRow ((Below.refl w1.heap.size w1).alloc (Nat.le_refl _) (.cells Z 28 (0,0))) (Nat.le_refl _) G);have g2 := Lib.hid (setRow_heap (w1.alloc (.cells Z 28 (0,0))) w1.heap.size Z G 28 (0,0) (heap_alloc_last _ _));generalize (w1.alloc (.cells Z 28 (0,0))).setRow w1.heap.size G = w2 at *;have b2 := Lib.hid (below_step b1.out bx2.out);)
  |((with_reducible refine wpList_load_row_on ?hw 28 _ rfl w1.heap.size rfl 28 G (0,0) _ g2.out Try.underlying28 rfl hGs.out ?hk);(case hw => rfl))
  |((with_reducible go_at_call 15);refine (hof1.out _).mono ?_;rintro e w3 ⟨rfl,hb⟩;have b3 := Lib.hid (below_step b2.out hb);have bz3 := Lib.hid (below_step bx2.out hb);clear hb)
  |((with_reducible go_at_call 16);refine (hsm.out _ bz3.out).mono ?_;rintro e w4 ⟨rfl,hb⟩;have b4 := Lib.hid (below_step b3.out hb);clear hb)
  |((with_reducible go_at_call 22);refine (hfit.out _).mono ?_;rintro e w5 ⟨rfl,hb⟩;have b5 := Lib.hid (below_step b4.out hb);clear hb)
  |((with_reducible go_at_call 10);refine (hawk.out _).mono ?_;rintro e w6 ⟨rfl,hb⟩;have b6 := Lib.hid (below_step b5.out hb);clear hb))
 go_ret
 exact ⟨rfl,b6.out⟩
set_option maxHeartbeats 4000000 in
set_option maxRecDepth 100000 in
theorem reads_none_32 (A : Option Addr) (c : Nat) (l : List Int) (Y : Option Addr) (kc : Nat) (key : List Int) (w : World) (hC : Kd.C (Kd.int .u8) w A l.length l) (hc : l.length ≤ c) (hY : Kd.C (Kd.int .u8) w Y key.length key) (hkc : key.length ≤ kc) (hl : l.length = 624) (hb : ∀ x ∈ l,byt x) (hkb : ∀ x ∈ key,byt x) (ho : rcRead l = none) (hk : key.length = 32) :
  Calls Try.prog 6 #[.slice A l.length c,.slice Y key.length kc] w fun e w' => e = .returned (.bool true) ∧ Below w.heap.size w w' := by
 obtain ⟨hz,-⟩ := zero_of_info (P := Try.prog) infoRc
 obtain ⟨hzr,-⟩ := zero_of_info (P := Try.prog) infoRr
 obtain ⟨Z,hZ⟩ : ∃ Z : Array Value,Z = zRc := ⟨_,rfl⟩
 have hW0 : ∀ (W : World),(Instr.build 39 #[]).run Try.prog W = .ok (.agg Z) W := fun W => by rw [hZ];exact run_build W _ _ _ builtRr0
 have hZs := Lib.hid (show Z.size = 25 by rw [hZ];rfl)
 rw [← hZ] at hz hzr
 have hawk := Lib.hid awake18_any
 have hof := Lib.hid (fun (AX : Nat → Option Addr) (cX : Nat → Nat) (W : World) => of18_any rcZero AX cX W)
 have hsame := Lib.hid (fun (AX : Nat → Option Addr) (cX : Nat → Nat) (W : World) (hV : RcV W rcZero AX cX) => show Calls Try.prog 16 #[.agg (rcl rcZero AX cX).toArray,.agg Z] W _ from by rw [hZ];exact recSame_eq rcZero AX cX (fun _ => none) (fun _ => 0) W hV (RcV.zero W) (fun j _ => rlist_zero j))
 have hread := Lib.hid (fun (W : World) (hW : Below w.heap.size w W) => show Calls Try.prog 19 #[.slice A 624 c] W (fun e w' => ∃ AX cX,e = .returned (.tuple #[.agg (rcl rcZero AX cX).toArray,.int .i64 1]) ∧ RcO W.heap.size w' rcZero AX cX ∧ Below W.heap.size W w') from by
  have := recRead_any A c l hl (by omega) hb W (Kd.C_below hC hW)
  rw [ho] at this
  exact this)
 have hread := Lib.hid (fun (W : World) (e : W = w) => hread.out W (by subst e;exact Below.refl _ _))
 have hread := Lib.hid (show Calls Try.prog 19 #[.slice A 624 c] w _ from hread.out w rfl)
 have hrr := Lib.hid (fun (W : World) (hW : Below w.heap.size w W) => show Calls Try.prog 35 #[.slice A 624 c] W (fun e w' => ∃ AX cX,e = .returned (.tuple #[.agg (rcl rcZero AX cX).toArray,.bool false]) ∧ RcV w rcZero AX cX ∧ Below W.heap.size W w') from by
  have := ref18Read_any w A c l hl (by omega) hb W hC hW
  rw [ho] at this
  exact this)
 have hfit := Lib.hid (fun (W : World) (hW : Below w.heap.size w W) => by
  have := recFits_any A c l Y kc key W (Kd.C_below hC hW) hc (Kd.C_below hY hW) hl hk hb
  rw [hl,hk] at this
  exact this)
 have hrf := Lib.hid (fun (W : World) (hW : Below w.heap.size w W) => by
  have := refFits_any A c l Y kc key W (Kd.C_below hC hW) hc (Kd.C_below hY hW) hkc hl hk hb hkb
  rw [hl,hk] at this
  exact this)
 obtain ⟨F,hF⟩ : ∃ F,F = fitsB l key := ⟨_,rfl⟩
 rw [← hF] at hfit hrf
 rw [hl,hk]
 clear hC hc hY hkc hl hb hkb hk ho hZ hF
 go_enter Try.func6,Try.ntmps6
 go_wp2_with (first
  |((with_reducible go_at_call 19);refine hread.out.mono ?_;rintro e w1 ⟨AX,cX,rfl,hO,hb⟩;have b1 := Lib.hid hb;have V1 := Lib.hid hO.v;obtain ⟨G,hG⟩ : ∃ G,G = (rcl rcZero AX cX).toArray := ⟨_,rfl⟩;rw [← hG];have hGs := Lib.hid (show (Try.prog.info? 28).map (·.size) = some G.size by rw [hG];exact szRc);have hGo := Lib.hid (show G.all (·.oneCell') = true by rw [hG];exact rcl_one _ _ _);have hGZ := Lib.hid (show Z.size = G.size by rw [hZs.out,hG];rfl);have hof1 := Lib.hid (fun W => hof.out AX cX W);have hsm := Lib.hid (fun (W : World) (hW : Below w1.heap.size w1 W) => hsame.out AX cX W (V1.out.below hW));rw [← hG] at hof1 hsm;clear hb hO hG)
  |(with_reducible refine wpList_store_row rfl 28 _ _ rfl w1.heap.size G rfl rfl 28 Z (heap_alloc_last _ _) hGs.out hGZ.out hGo.out ?_;have bx2 := Lib.hid (below_setRow ((Below.refl w1.heap.size w1).alloc (Nat.le_refl _) (.cells Z 28 (0,0))) (Nat.le_refl _) G);have g2 := Lib.hid (setRow_heap (w1.alloc (.cells Z 28 (0,0))) w1.heap.size Z G 28 (0,0) (heap_alloc_last _ _));generalize (w1.alloc (.cells Z 28 (0,0))).setRow w1.heap.size G = w2 at *;have b2 := Lib.hid (below_step b1.out bx2.out);)
  |((with_reducible go_at_call 22);refine (hfit.out _ b2.out).mono ?_;rintro e w3 ⟨rfl,hb⟩;have b3 := Lib.hid (below_step b2.out hb);have g3 := Lib.hid (heap_below g2.out hb);have bz3 := Lib.hid (below_step bx2.out hb);clear hb)
  |((with_reducible go_at_call 34);refine (hrf.out _ b3.out).mono ?_;rintro e w4 ⟨rfl,hb⟩;have b4 := Lib.hid (below_step b3.out hb);have g4 := Lib.hid (heap_below g3.out hb);have bz4 := Lib.hid (below_step bz3.out hb);clear hb)
  |((with_reducible go_at_call 35);refine (hrr.out _ b4.out).mono ?_;rintro e w5 ⟨AY,cY,rfl,hVY,hb⟩;have b5 := Lib.hid (below_step b4.out hb);have g5 := Lib.hid (heap_below g4.out hb);have bz5 := Lib.hid (below_step bz4.out hb);obtain ⟨H,hH⟩ : ∃ H,H = (rcl rcZero AY cY).toArray := ⟨_,rfl⟩;rw [← hH];have hHs := Lib.hid (show (Try.prog.info? 39).map (·.size) = some H.size by rw [hH];exact szRr);have hHo := Lib.hid (show H.all (·.oneCell') = true by rw [hH];exact rcl_one _ _ _);have hHZ := Lib.hid (show Z.size = H.size by rw [hZs.out,hH];rfl);clear hb hVY hH)
  |(with_reducible refine wpList_store_row rfl 39 _ _ rfl w5.heap.size H rfl rfl 39 Z (heap_alloc_last _ _) hHs.out hHZ.out hHo.out ?_;have bx6 := Lib.hid (below_setRow ((Below.refl w5.heap.size w5).alloc (Nat.le_refl _) (.cells Z 39 (0,0))) (Nat.le_refl _) H);have q6 := Lib.hid (setRow_heap (w5.alloc (.cells Z 39 (0,0))) w5.heap.size Z H 39 (0,0) (heap_alloc_last _ _));generalize (w5.alloc (.cells Z 39 (0,0))).setRow w5.heap.size H = w6 at *;have b6 := Lib.hid (below_step b5.out bx6.out);have g6 := Lib.hid (heap_below g5.out bx6.out);have bz6 := Lib.hid (below_step bz5.out bx6.out);)
  |((with_reducible refine wpList_load_row_on ?hw 28 _ rfl w1.heap.size rfl 28 G (0,0) _ g6.out Try.underlying28 rfl hGs.out ?hk);(case hw => rfl))
  |((with_reducible go_at_call 15);refine (hof1.out _).mono ?_;rintro e w7 ⟨rfl,hb⟩;have b7 := Lib.hid (below_step b6.out hb);have bz7 := Lib.hid (below_step bz6.out hb);clear hb)
  |((with_reducible go_at_call 16);refine (hsm.out _ bz7.out).mono ?_;rintro e w8 ⟨rfl,hb⟩;have b8 := Lib.hid (below_step b7.out hb);clear hb)
  |((with_reducible go_at_call 10);refine (hawk.out _).mono ?_;rintro e w9 ⟨rfl,hb⟩;have b9 := Lib.hid (below_step b8.out hb);clear hb))
 go_ret
 exact ⟨rfl,b9.out⟩
set_option maxHeartbeats 4000000 in
set_option maxRecDepth 100000 in
theorem reads_none_no (A : Option Addr) (c : Nat) (l : List Int) (Y : Option Addr) (kc : Nat) (key : List Int) (w : World) (hC : Kd.C (Kd.int .u8) w A l.length l) (hc : l.length ≤ c) (hY : Kd.C (Kd.int .u8) w Y key.length key) (hkc : key.length ≤ kc) (hl : l.length = 624) (hb : ∀ x ∈ l,byt x) (hkb : ∀ x ∈ key,byt x) (ho : rcRead l = none) (hk : key.length ≠ 32) :
  Calls Try.prog 6 #[.slice A l.length c,.slice Y key.length kc] w fun e w' => e = .returned (.bool true) ∧ Below w.heap.size w w' := by
 obtain ⟨hz,-⟩ := zero_of_info (P := Try.prog) infoRc
 obtain ⟨hzr,-⟩ := zero_of_info (P := Try.prog) infoRr
 obtain ⟨Z,hZ⟩ : ∃ Z : Array Value,Z = zRc := ⟨_,rfl⟩
 have hW0 : ∀ (W : World),(Instr.build 39 #[]).run Try.prog W = .ok (.agg Z) W := fun W => by rw [hZ];exact run_build W _ _ _ builtRr0
 have hZs := Lib.hid (show Z.size = 25 by rw [hZ];rfl)
 rw [← hZ] at hz hzr
 have hawk := Lib.hid awake18_any
 have hof := Lib.hid (fun (AX : Nat → Option Addr) (cX : Nat → Nat) (W : World) => of18_any rcZero AX cX W)
 have hsame := Lib.hid (fun (AX : Nat → Option Addr) (cX : Nat → Nat) (W : World) (hV : RcV W rcZero AX cX) => show Calls Try.prog 16 #[.agg (rcl rcZero AX cX).toArray,.agg Z] W _ from by rw [hZ];exact recSame_eq rcZero AX cX (fun _ => none) (fun _ => 0) W hV (RcV.zero W) (fun j _ => rlist_zero j))
 have hread := Lib.hid (fun (W : World) (hW : Below w.heap.size w W) => show Calls Try.prog 19 #[.slice A 624 c] W (fun e w' => ∃ AX cX,e = .returned (.tuple #[.agg (rcl rcZero AX cX).toArray,.int .i64 1]) ∧ RcO W.heap.size w' rcZero AX cX ∧ Below W.heap.size W w') from by
  have := recRead_any A c l hl (by omega) hb W (Kd.C_below hC hW)
  rw [ho] at this
  exact this)
 have hread := Lib.hid (fun (W : World) (e : W = w) => hread.out W (by subst e;exact Below.refl _ _))
 have hread := Lib.hid (show Calls Try.prog 19 #[.slice A 624 c] w _ from hread.out w rfl)
 have hrr := Lib.hid (fun (W : World) (hW : Below w.heap.size w W) => show Calls Try.prog 35 #[.slice A 624 c] W (fun e w' => ∃ AX cX,e = .returned (.tuple #[.agg (rcl rcZero AX cX).toArray,.bool false]) ∧ RcV w rcZero AX cX ∧ Below W.heap.size W w') from by
  have := ref18Read_any w A c l hl (by omega) hb W hC hW
  rw [ho] at this
  exact this)
 obtain ⟨m,hm⟩ : ∃ m,m = key.length := ⟨_,rfl⟩
 have hfit := Lib.hid (fun (W : World) (hW : Below w.heap.size w W) => show Calls Try.prog 22 #[.slice A 624 c,.slice Y m kc] W _ from recFits_no A 624 c Y m kc W (fun e => hk (by rw [← hm];exact e.2)))
 rw [hl,← hm]
 have hn1 : ((m : Int) = 32) = False := by simp;omega
 have hn2 : ((m : Int) == 32) = false := by simp;omega
 have hn3 : ((m : Int) != 32) = true := by simp;omega
 clear hC hc hY hkc hl hb hkb hk ho hZ hm
 go_enter Try.func6,Try.ntmps6
 go_wp2_with (first
  |((with_reducible go_at_call 19);refine hread.out.mono ?_;rintro e w1 ⟨AX,cX,rfl,hO,hb⟩;have b1 := Lib.hid hb;have V1 := Lib.hid hO.v;obtain ⟨G,hG⟩ : ∃ G,G = (rcl rcZero AX cX).toArray := ⟨_,rfl⟩;rw [← hG];have hGs := Lib.hid (show (Try.prog.info? 28).map (·.size) = some G.size by rw [hG];exact szRc);have hGo := Lib.hid (show G.all (·.oneCell') = true by rw [hG];exact rcl_one _ _ _);have hGZ := Lib.hid (show Z.size = G.size by rw [hZs.out,hG];rfl);have hof1 := Lib.hid (fun W => hof.out AX cX W);have hsm := Lib.hid (fun (W : World) (hW : Below w1.heap.size w1 W) => hsame.out AX cX W (V1.out.below hW));rw [← hG] at hof1 hsm;clear hb hO hG)
  |(with_reducible refine wpList_store_row rfl 28 _ _ rfl w1.heap.size G rfl rfl 28 Z (heap_alloc_last _ _) hGs.out hGZ.out hGo.out ?_;have bx2 := Lib.hid (below_setRow ((Below.refl w1.heap.size w1).alloc (Nat.le_refl _) (.cells Z 28 (0,0))) (Nat.le_refl _) G);have g2 := Lib.hid (setRow_heap (w1.alloc (.cells Z 28 (0,0))) w1.heap.size Z G 28 (0,0) (heap_alloc_last _ _));generalize (w1.alloc (.cells Z 28 (0,0))).setRow w1.heap.size G = w2 at *;have b2 := Lib.hid (below_step b1.out bx2.out);)
  |((with_reducible go_at_call 22);refine (hfit.out _ b2.out).mono ?_;rintro e w3 ⟨rfl,hb⟩;have b3 := Lib.hid (below_step b2.out hb);have g3 := Lib.hid (heap_below g2.out hb);have bz3 := Lib.hid (below_step bx2.out hb);clear hb)
  |((with_reducible go_at_call 35);refine (hrr.out _ b3.out).mono ?_;rintro e w5 ⟨AY,cY,rfl,hVY,hb⟩;have b5 := Lib.hid (below_step b3.out hb);have g5 := Lib.hid (heap_below g3.out hb);have bz5 := Lib.hid (below_step bz3.out hb);obtain ⟨H,hH⟩ : ∃ H,H = (rcl rcZero AY cY).toArray := ⟨_,rfl⟩;rw [← hH];have hHs := Lib.hid (show (Try.prog.info? 39).map (·.size) = some H.size by rw [hH];exact szRr);have hHo := Lib.hid (show H.all (·.oneCell') = true by rw [hH];exact rcl_one _ _ _);have hHZ := Lib.hid (show Z.size = H.size by rw [hZs.out,hH];rfl);clear hb hVY hH)
  |(with_reducible refine wpList_store_row rfl 39 _ _ rfl w5.heap.size H rfl rfl 39 Z (heap_alloc_last _ _) hHs.out hHZ.out hHo.out ?_;have bx6 := Lib.hid (below_setRow ((Below.refl w5.heap.size w5).alloc (Nat.le_refl _) (.cells Z 39 (0,0))) (Nat.le_refl _) H);have q6 := Lib.hid (setRow_heap (w5.alloc (.cells Z 39 (0,0))) w5.heap.size Z H 39 (0,0) (heap_alloc_last _ _));generalize (w5.alloc (.cells Z 39 (0,0))).setRow w5.heap.size H = w6 at *;have b6 := Lib.hid (below_step b5.out bx6.out);have g6 := Lib.hid (heap_below g5.out bx6.out);have bz6 := Lib.hid (below_step bz5.out bx6.out);)
  |((with_reducible refine wpList_load_row_on ?hw 28 _ rfl w1.heap.size rfl 28 G (0,0) _ g6.out Try.underlying28 rfl hGs.out ?hk);(case hw => rfl))
  |((with_reducible go_at_call 15);refine (hof1.out _).mono ?_;rintro e w7 ⟨rfl,hb⟩;have b7 := Lib.hid (below_step b6.out hb);have bz7 := Lib.hid (below_step bz6.out hb);clear hb)
  |((with_reducible go_at_call 16);refine (hsm.out _ bz7.out).mono ?_;rintro e w8 ⟨rfl,hb⟩;have b8 := Lib.hid (below_step b7.out hb);clear hb)
  |((with_reducible go_at_call 10);refine (hawk.out _).mono ?_;rintro e w9 ⟨rfl,hb⟩;have b9 := Lib.hid (below_step b8.out hb);clear hb))
 go_ret
 exact ⟨rfl,b9.out⟩
set_option maxHeartbeats 4000000 in
set_option maxRecDepth 100000 in
theorem reads_some_32 (A : Option Addr) (c : Nat) (l : List Int) (Y : Option Addr) (kc : Nat) (key : List Int) (w : World) (hC : Kd.C (Kd.int .u8) w A l.length l) (hc : l.length ≤ c) (hY : Kd.C (Kd.int .u8) w Y key.length key) (hkc : key.length ≤ kc) (hl : l.length = 624) (hb : ∀ x ∈ l,byt x) (hkb : ∀ x ∈ key,byt x) (R : RcT) (ho : rcRead l = some R) (hk : key.length = 32) :
  Calls Try.prog 6 #[.slice A l.length c,.slice Y key.length kc] w fun e w' => e = .returned (.bool true) ∧ Below w.heap.size w w' := by
 obtain ⟨hz,-⟩ := zero_of_info (P := Try.prog) infoRc
 obtain ⟨hzr,-⟩ := zero_of_info (P := Try.prog) infoRr
 obtain ⟨Z,hZ⟩ : ∃ Z : Array Value,Z = zRc := ⟨_,rfl⟩
 have hW0 : ∀ (W : World),(Instr.build 39 #[]).run Try.prog W = .ok (.agg Z) W := fun W => by rw [hZ];exact run_build W _ _ _ builtRr0
 have hZs := Lib.hid (show Z.size = 25 by rw [hZ];rfl)
 rw [← hZ] at hz hzr
 have hawk := Lib.hid awake18_any
 have hof := Lib.hid (fun (AX : Nat → Option Addr) (cX : Nat → Nat) (W : World) => of18_any R AX cX W)
 have hsame := Lib.hid (fun (AX AY : Nat → Option Addr) (cX cY : Nat → Nat) (W : World) (hV : RcV W R AX cX) (hV' : RcV W R AY cY) => recSame_eq R AX cX AY cY W hV hV' (fun j hj => Nat.le_trans (rcRead_len l 624 (by omega) R ho j hj) (by omega)))
 have hread := Lib.hid (fun (W : World) (hW : Below w.heap.size w W) => show Calls Try.prog 19 #[.slice A 624 c] W (fun e w' => ∃ AX cX,e = .returned (.tuple #[.agg (rcl R AX cX).toArray,.int .i64 0]) ∧ RcO W.heap.size w' R AX cX ∧ Below W.heap.size W w') from by
  have := recRead_any A c l hl (by omega) hb W (Kd.C_below hC hW)
  rw [ho] at this
  exact this)
 have hread := Lib.hid (fun (W : World) (e : W = w) => hread.out W (by subst e;exact Below.refl _ _))
 have hread := Lib.hid (show Calls Try.prog 19 #[.slice A 624 c] w _ from hread.out w rfl)
 have hrr := Lib.hid (fun (W : World) (hW : Below w.heap.size w W) => show Calls Try.prog 35 #[.slice A 624 c] W (fun e w' => ∃ AX cX,e = .returned (.tuple #[.agg (rcl R AX cX).toArray,.bool true]) ∧ RcV w R AX cX ∧ Below W.heap.size W w') from by
  have := ref18Read_any w A c l hl (by omega) hb W hC hW
  rw [ho] at this
  exact this)
 have hfit := Lib.hid (fun (W : World) (hW : Below w.heap.size w W) => by
  have := recFits_any A c l Y kc key W (Kd.C_below hC hW) hc (Kd.C_below hY hW) hl hk hb
  rw [hl,hk] at this
  exact this)
 have hrf := Lib.hid (fun (W : World) (hW : Below w.heap.size w W) => by
  have := refFits_any A c l Y kc key W (Kd.C_below hC hW) hc (Kd.C_below hY hW) hkc hl hk hb hkb
  rw [hl,hk] at this
  exact this)
 obtain ⟨F,hF⟩ : ∃ F,F = fitsB l key := ⟨_,rfl⟩
 rw [← hF] at hfit hrf
 rw [hl,hk]
 clear hC hc hY hkc hl hb hkb hk ho hZ hF
 go_enter Try.func6,Try.ntmps6
 go_wp2_with (first
  |((with_reducible go_at_call 19);refine hread.out.mono ?_;rintro e w1 ⟨AX,cX,rfl,hO,hb⟩;have b1 := Lib.hid hb;have V1 := Lib.hid hO.v;obtain ⟨G,hG⟩ : ∃ G,G = (rcl R AX cX).toArray := ⟨_,rfl⟩;rw [← hG];have hGs := Lib.hid (show (Try.prog.info? 28).map (·.size) = some G.size by rw [hG];exact szRc);have hGo := Lib.hid (show G.all (·.oneCell') = true by rw [hG];exact rcl_one _ _ _);have hGZ := Lib.hid (show Z.size = G.size by rw [hZs.out,hG];rfl);have hof1 := Lib.hid (fun W => hof.out AX cX W);rw [← hG] at hof1;have hG' := Lib.hid hG;clear hb hO hG)
  |(with_reducible refine wpList_store_row rfl 28 _ _ rfl w1.heap.size G rfl rfl 28 Z (heap_alloc_last _ _) hGs.out hGZ.out hGo.out ?_;have bx2 := Lib.hid (below_setRow ((Below.refl w1.heap.size w1).alloc (Nat.le_refl _) (.cells Z 28 (0,0))) (Nat.le_refl _) G);have g2 := Lib.hid (setRow_heap (w1.alloc (.cells Z 28 (0,0))) w1.heap.size Z G 28 (0,0) (heap_alloc_last _ _));generalize (w1.alloc (.cells Z 28 (0,0))).setRow w1.heap.size G = w2 at *;have b2 := Lib.hid (below_step b1.out bx2.out);)
  |((with_reducible go_at_call 22);refine (hfit.out _ b2.out).mono ?_;rintro e w3 ⟨rfl,hb⟩;have b3 := Lib.hid (below_step b2.out hb);have g3 := Lib.hid (heap_below g2.out hb);have bz3 := Lib.hid (below_step bx2.out hb);clear hb)
  |((with_reducible go_at_call 34);refine (hrf.out _ b3.out).mono ?_;rintro e w4 ⟨rfl,hb⟩;have b4 := Lib.hid (below_step b3.out hb);have g4 := Lib.hid (heap_below g3.out hb);have bz4 := Lib.hid (below_step bz3.out hb);clear hb)
  |((with_reducible go_at_call 35);refine (hrr.out _ b4.out).mono ?_;rintro e w5 ⟨AY,cY,rfl,hVY,hb⟩;have b5 := Lib.hid (below_step b4.out hb);have g5 := Lib.hid (heap_below g4.out hb);have bz5 := Lib.hid (below_step bz4.out hb);obtain ⟨H,hH⟩ : ∃ H,H = (rcl R AY cY).toArray := ⟨_,rfl⟩;rw [← hH];have hHs := Lib.hid (show (Try.prog.info? 39).map (·.size) = some H.size by rw [hH];exact szRr);have hHo := Lib.hid (show H.all (·.oneCell') = true by rw [hH];exact rcl_one _ _ _);have hHZ := Lib.hid (show Z.size = H.size by rw [hZs.out,hH];rfl);have hsm := Lib.hid (fun (W : World) (hW : Below w.heap.size w W) (hW1 : Below w1.heap.size w1 W) => hsame.out AX AY cX cY W (V1.out.below hW1) (hVY.below hW));rw [← hH,← hG'.out] at hsm;clear hb hVY hH)
  |(with_reducible refine wpList_store_row rfl 39 _ _ rfl w5.heap.size H rfl rfl 39 Z (heap_alloc_last _ _) hHs.out hHZ.out hHo.out ?_;have bx6 := Lib.hid (below_setRow ((Below.refl w5.heap.size w5).alloc (Nat.le_refl _) (.cells Z 39 (0,0))) (Nat.le_refl _) H);have q6 := Lib.hid (setRow_heap (w5.alloc (.cells Z 39 (0,0))) w5.heap.size Z H 39 (0,0) (heap_alloc_last _ _));generalize (w5.alloc (.cells Z 39 (0,0))).setRow w5.heap.size H = w6 at *;have b6 := Lib.hid (below_step b5.out bx6.out);have g6 := Lib.hid (heap_below g5.out bx6.out);have bz6 := Lib.hid (below_step bz5.out bx6.out);))
 refine start_ (n := 12) (S := fun w' => Below w.heap.size w w' ∧ Below w1.heap.size w1 w' ∧ w'.heap[w1.heap.size]? = some (.cells G 28 (0,0)) ∧ w'.heap[w5.heap.size]? = some (.cells H 39 (0,0))) (ds := []) #[false,false,false,false,false,false,false,false,false,false,false,false] (by kernel_rfl) rfl rfl (by exact ⟨below_drew b6.out,below_drew bz6.out,g6.out,q6.out⟩) (fun hHeld => ?_)
 refine pure_ (i := 0) (N := some 64) (v := ?_) (a' := ?_) #[true,false,false,false,false,false,false,false,false,false,false,false] rfl rfl (by kernel_rfl) (fun _ _ _ h => h) (Or.inl ⟨by rfl,?_⟩) ?_ ?_
 rotate_left
 ·intro w'
  go_simp
  with_reducible rfl
 rotate_left
 ·simp only [Act.put,List.setIfInBounds_toArray,List.set_cons_zero,List.set_cons_succ,i64_w,i32_w]
  rfl
 refine pure_ (i := 1) (N := some 65) (v := ?_) (a' := ?_) #[true,true,false,false,false,false,false,false,false,false,false,false] rfl rfl (by kernel_rfl) (fun _ _ _ h => h) (Or.inl ⟨by rfl,?_⟩) ?_ ?_
 rotate_left
 ·intro w'
  go_simp
  with_reducible rfl
 rotate_left
 ·simp only [Act.put,List.setIfInBounds_toArray,List.set_cons_zero,List.set_cons_succ,i64_w,i32_w]
  rfl
 refine pure_ (i := 2) (N := some 66) (v := ?_) (a' := ?_) #[true,true,true,false,false,false,false,false,false,false,false,false] rfl rfl (by kernel_rfl) (fun _ _ _ h => h) (Or.inl ⟨by rfl,?_⟩) ?_ ?_
 rotate_left
 ·intro w'
  go_simp
  with_reducible rfl
 rotate_left
 ·simp only [Act.put,List.setIfInBounds_toArray,List.set_cons_zero,List.set_cons_succ,i64_w,i32_w]
  rfl
 refine take_ (i := 3) (N := some 67) (v := ?_) (a' := ?_) #[true,true,true,true,false,false,false,false,false,false,false,false] rfl rfl (by kernel_rfl) (fun _ _ _ h => h) (Or.inl ⟨by rfl,?_⟩) hHeld ?_ ?_
 rotate_left
 ·intro w' hS
  refine (exec_load_row w' 28 _ (by rfl) w1.heap.size (by rfl) 28 G (0,0) _ hS.2.2.1 Try.underlying28 rfl hGs.out).trans ?_;show Result.ok (Next.value (Value.agg G)) w' = _;with_reducible rfl
 rotate_left
 ·simp only [Act.put,List.setIfInBounds_toArray,List.set_cons_zero,List.set_cons_succ,i64_w,i32_w]
  rfl
 refine take_ (i := 5) (N := some 69) (v := ?_) (a' := ?_) #[true,true,true,true,false,true,false,false,false,false,false,false] rfl rfl (by kernel_rfl) (fun _ _ _ h => h) (Or.inl ⟨by rfl,?_⟩) hHeld ?_ ?_
 rotate_left
 ·intro w' hS
  refine (exec_load_row w' 39 _ (by rfl) w5.heap.size (by rfl) 39 H (0,0) _ hS.2.2.2 Try.underlying39 rfl hHs.out).trans ?_;show Result.ok (Next.value (Value.agg H)) w' = _;with_reducible rfl
 rotate_left
 ·simp only [Act.put,List.setIfInBounds_toArray,List.set_cons_zero,List.set_cons_succ,i64_w,i32_w]
  rfl
 refine one_ (i := 4) (N := some 68) #[true,true,true,true,true,true,false,false,false,false,false,false] rfl rfl (by kernel_rfl) (by decide) (fun K hK => ?_)
 refine goes_ Try.func15 (by kernel_rfl) rfl #[.agg G] (by rfl) rfl rfl (by (try simp only [List.map_toArray,List.map_cons,List.map_nil]);first | done | rfl) ?_
 refine (hof1.out _).mono ?_
 rintro e w7 ⟨rfl,hb⟩
 refine ⟨_,rfl,?_⟩
 refine hK.out _ _ ⟨below_step hHeld.1 hb,below_step hHeld.2.1 hb,heap_below hHeld.2.2.1 hb,heap_below hHeld.2.2.2 hb⟩ (fun hHeld => ?_)
 clear hb
 clear hK K
 refine norm_ (a' := ?_) ?_ ?_
 rotate_left
 ·show Act.put _ (some 68) _ = _
  simp only [Act.put,List.setIfInBounds_toArray,List.set_cons_zero,List.set_cons_succ,i64_w,i32_w]
  rfl
 refine one_ (i := 6) (N := some 70) #[true,true,true,true,true,true,true,false,false,false,false,false] rfl rfl (by kernel_rfl) (by decide) (fun K hK => ?_)
 refine goes_ Try.func16 (by kernel_rfl) rfl #[.agg G,.agg H] (by rfl) rfl rfl (by (try simp only [List.map_toArray,List.map_cons,List.map_nil]);first | done | rfl) ?_
 refine (hsm.out _ hHeld.1 hHeld.2.1).mono ?_
 rintro e w8 ⟨rfl,hb⟩
 refine ⟨_,rfl,?_⟩
 refine hK.out _ _ ⟨below_step hHeld.1 hb,below_step hHeld.2.1 hb,heap_below hHeld.2.2.1 hb,heap_below hHeld.2.2.2 hb⟩ (fun hHeld => ?_)
 clear hb
 clear hK K
 refine norm_ (a' := ?_) ?_ ?_
 rotate_left
 ·show Act.put _ (some 70) _ = _
  simp only [Act.put,List.setIfInBounds_toArray,List.set_cons_zero,List.set_cons_succ,i64_w,i32_w]
  rfl
 refine pure_ (i := 7) (N := some 71) (v := ?_) (a' := ?_) #[true,true,true,true,true,true,true,true,false,false,false,false] rfl rfl (by kernel_rfl) (fun _ _ _ h => h) (Or.inl ⟨by rfl,?_⟩) ?_ ?_
 rotate_left
 ·intro w'
  go_simp
  with_reducible rfl
 rotate_left
 ·simp only [Act.put,List.setIfInBounds_toArray,List.set_cons_zero,List.set_cons_succ,i64_w,i32_w]
  rfl
 refine pure_ (i := 8) (N := some 72) (v := ?_) (a' := ?_) #[true,true,true,true,true,true,true,true,true,false,false,false] rfl rfl (by kernel_rfl) (fun _ _ _ h => h) (Or.inl ⟨by rfl,?_⟩) ?_ ?_
 rotate_left
 ·intro w'
  go_simp
  with_reducible rfl
 rotate_left
 ·simp only [Act.put,List.setIfInBounds_toArray,List.set_cons_zero,List.set_cons_succ,i64_w,i32_w]
  rfl
 refine one_ (i := 9) (N := some 73) #[true,true,true,true,true,true,true,true,true,true,false,false] rfl rfl (by kernel_rfl) (by decide) (fun K hK => ?_)
 refine goes_ Try.func10 (by kernel_rfl) rfl #[] (by rfl) rfl rfl (by (try simp only [List.map_toArray,List.map_cons,List.map_nil]);first | done | rfl) ?_
 refine (hawk.out _).mono ?_
 rintro e w9 ⟨rfl,hb⟩
 refine ⟨_,rfl,?_⟩
 refine hK.out _ _ ⟨below_step hHeld.1 hb,below_step hHeld.2.1 hb,heap_below hHeld.2.2.1 hb,heap_below hHeld.2.2.2 hb⟩ (fun hHeld => ?_)
 have b9 := Lib.hid hHeld.1
 clear hb
 clear hK K
 refine norm_ (a' := ?_) ?_ ?_
 rotate_left
 ·show Act.put _ (some 73) _ = _
  simp only [Act.put,List.setIfInBounds_toArray,List.set_cons_zero,List.set_cons_succ,i64_w,i32_w]
  rfl
 refine pure_ (i := 10) (N := some 74) (v := ?_) (a' := ?_) #[true,true,true,true,true,true,true,true,true,true,true,false] rfl rfl (by kernel_rfl) (fun _ _ _ h => h) (Or.inl ⟨by rfl,?_⟩) ?_ ?_
 rotate_left
 ·intro w'
  go_simp
  with_reducible rfl
 rotate_left
 ·simp only [Act.put,List.setIfInBounds_toArray,List.set_cons_zero,List.set_cons_succ,i64_w,i32_w]
  rfl
 refine pure_ (i := 11) (N := some 4) (v := ?_) (a' := ?_) #[true,true,true,true,true,true,true,true,true,true,true,true] rfl rfl (by kernel_rfl) (fun _ _ _ h => h) (Or.inl ⟨by rfl,?_⟩) ?_ ?_
 rotate_left
 ·intro w'
  go_simp
  with_reducible rfl
 rotate_left
 ·simp only [Act.put,List.setIfInBounds_toArray,List.set_cons_zero,List.set_cons_succ,i64_w,i32_w]
  rfl
 refine done_ (by kernel_rfl) ?_
 go_wp2_with fail
 go_ret
 exact ⟨rfl,b9.out⟩
set_option maxHeartbeats 4000000 in
set_option maxRecDepth 100000 in
theorem reads_some_no (A : Option Addr) (c : Nat) (l : List Int) (Y : Option Addr) (kc : Nat) (key : List Int) (w : World) (hC : Kd.C (Kd.int .u8) w A l.length l) (hc : l.length ≤ c) (hY : Kd.C (Kd.int .u8) w Y key.length key) (hkc : key.length ≤ kc) (hl : l.length = 624) (hb : ∀ x ∈ l,byt x) (hkb : ∀ x ∈ key,byt x) (R : RcT) (ho : rcRead l = some R) (hk : key.length ≠ 32) :
  Calls Try.prog 6 #[.slice A l.length c,.slice Y key.length kc] w fun e w' => e = .returned (.bool true) ∧ Below w.heap.size w w' := by
 obtain ⟨hz,-⟩ := zero_of_info (P := Try.prog) infoRc
 obtain ⟨hzr,-⟩ := zero_of_info (P := Try.prog) infoRr
 obtain ⟨Z,hZ⟩ : ∃ Z : Array Value,Z = zRc := ⟨_,rfl⟩
 have hW0 : ∀ (W : World),(Instr.build 39 #[]).run Try.prog W = .ok (.agg Z) W := fun W => by rw [hZ];exact run_build W _ _ _ builtRr0
 have hZs := Lib.hid (show Z.size = 25 by rw [hZ];rfl)
 rw [← hZ] at hz hzr
 have hawk := Lib.hid awake18_any
 have hof := Lib.hid (fun (AX : Nat → Option Addr) (cX : Nat → Nat) (W : World) => of18_any R AX cX W)
 have hsame := Lib.hid (fun (AX AY : Nat → Option Addr) (cX cY : Nat → Nat) (W : World) (hV : RcV W R AX cX) (hV' : RcV W R AY cY) => recSame_eq R AX cX AY cY W hV hV' (fun j hj => Nat.le_trans (rcRead_len l 624 (by omega) R ho j hj) (by omega)))
 have hread := Lib.hid (fun (W : World) (hW : Below w.heap.size w W) => show Calls Try.prog 19 #[.slice A 624 c] W (fun e w' => ∃ AX cX,e = .returned (.tuple #[.agg (rcl R AX cX).toArray,.int .i64 0]) ∧ RcO W.heap.size w' R AX cX ∧ Below W.heap.size W w') from by
  have := recRead_any A c l hl (by omega) hb W (Kd.C_below hC hW)
  rw [ho] at this
  exact this)
 have hread := Lib.hid (fun (W : World) (e : W = w) => hread.out W (by subst e;exact Below.refl _ _))
 have hread := Lib.hid (show Calls Try.prog 19 #[.slice A 624 c] w _ from hread.out w rfl)
 have hrr := Lib.hid (fun (W : World) (hW : Below w.heap.size w W) => show Calls Try.prog 35 #[.slice A 624 c] W (fun e w' => ∃ AX cX,e = .returned (.tuple #[.agg (rcl R AX cX).toArray,.bool true]) ∧ RcV w R AX cX ∧ Below W.heap.size W w') from by
  have := ref18Read_any w A c l hl (by omega) hb W hC hW
  rw [ho] at this
  exact this)
 obtain ⟨m,hm⟩ : ∃ m,m = key.length := ⟨_,rfl⟩
 have hfit := Lib.hid (fun (W : World) (hW : Below w.heap.size w W) => show Calls Try.prog 22 #[.slice A 624 c,.slice Y m kc] W _ from recFits_no A 624 c Y m kc W (fun e => hk (by rw [← hm];exact e.2)))
 rw [hl,← hm]
 have hn1 : ((m : Int) = 32) = False := by simp;omega
 have hn2 : ((m : Int) == 32) = false := by simp;omega
 have hn3 : ((m : Int) != 32) = true := by simp;omega
 clear hC hc hY hkc hl hb hkb hk ho hZ hm
 go_enter Try.func6,Try.ntmps6
 go_wp2_with (first
  |((with_reducible go_at_call 19);refine hread.out.mono ?_;rintro e w1 ⟨AX,cX,rfl,hO,hb⟩;have b1 := Lib.hid hb;have V1 := Lib.hid hO.v;obtain ⟨G,hG⟩ : ∃ G,G = (rcl R AX cX).toArray := ⟨_,rfl⟩;rw [← hG];have hGs := Lib.hid (show (Try.prog.info? 28).map (·.size) = some G.size by rw [hG];exact szRc);have hGo := Lib.hid (show G.all (·.oneCell') = true by rw [hG];exact rcl_one _ _ _);have hGZ := Lib.hid (show Z.size = G.size by rw [hZs.out,hG];rfl);have hof1 := Lib.hid (fun W => hof.out AX cX W);rw [← hG] at hof1;have hG' := Lib.hid hG;clear hb hO hG)
  |(with_reducible refine wpList_store_row rfl 28 _ _ rfl w1.heap.size G rfl rfl 28 Z (heap_alloc_last _ _) hGs.out hGZ.out hGo.out ?_;have bx2 := Lib.hid (below_setRow ((Below.refl w1.heap.size w1).alloc (Nat.le_refl _) (.cells Z 28 (0,0))) (Nat.le_refl _) G);have g2 := Lib.hid (setRow_heap (w1.alloc (.cells Z 28 (0,0))) w1.heap.size Z G 28 (0,0) (heap_alloc_last _ _));generalize (w1.alloc (.cells Z 28 (0,0))).setRow w1.heap.size G = w2 at *;have b2 := Lib.hid (below_step b1.out bx2.out);)
  |((with_reducible go_at_call 22);refine (hfit.out _ b2.out).mono ?_;rintro e w3 ⟨rfl,hb⟩;have b3 := Lib.hid (below_step b2.out hb);have g3 := Lib.hid (heap_below g2.out hb);have bz3 := Lib.hid (below_step bx2.out hb);clear hb)
  |((with_reducible go_at_call 35);refine (hrr.out _ b3.out).mono ?_;rintro e w5 ⟨AY,cY,rfl,hVY,hb⟩;have b5 := Lib.hid (below_step b3.out hb);have g5 := Lib.hid (heap_below g3.out hb);have bz5 := Lib.hid (below_step bz3.out hb);obtain ⟨H,hH⟩ : ∃ H,H = (rcl R AY cY).toArray := ⟨_,rfl⟩;rw [← hH];have hHs := Lib.hid (show (Try.prog.info? 39).map (·.size) = some H.size by rw [hH];exact szRr);have hHo := Lib.hid (show H.all (·.oneCell') = true by rw [hH];exact rcl_one _ _ _);have hHZ := Lib.hid (show Z.size = H.size by rw [hZs.out,hH];rfl);have hsm := Lib.hid (fun (W : World) (hW : Below w.heap.size w W) (hW1 : Below w1.heap.size w1 W) => hsame.out AX AY cX cY W (V1.out.below hW1) (hVY.below hW));rw [← hH,← hG'.out] at hsm;clear hb hVY hH)
  |(with_reducible refine wpList_store_row rfl 39 _ _ rfl w5.heap.size H rfl rfl 39 Z (heap_alloc_last _ _) hHs.out hHZ.out hHo.out ?_;have bx6 := Lib.hid (below_setRow ((Below.refl w5.heap.size w5).alloc (Nat.le_refl _) (.cells Z 39 (0,0))) (Nat.le_refl _) H);have q6 := Lib.hid (setRow_heap (w5.alloc (.cells Z 39 (0,0))) w5.heap.size Z H 39 (0,0) (heap_alloc_last _ _));generalize (w5.alloc (.cells Z 39 (0,0))).setRow w5.heap.size H = w6 at *;have b6 := Lib.hid (below_step b5.out bx6.out);have g6 := Lib.hid (heap_below g5.out bx6.out);have bz6 := Lib.hid (below_step bz5.out bx6.out);))
 refine start_ (n := 12) (S := fun w' => Below w.heap.size w w' ∧ Below w1.heap.size w1 w' ∧ w'.heap[w1.heap.size]? = some (.cells G 28 (0,0)) ∧ w'.heap[w5.heap.size]? = some (.cells H 39 (0,0))) (ds := []) #[false,false,false,false,false,false,false,false,false,false,false,false] (by kernel_rfl) rfl rfl (by exact ⟨below_drew b6.out,below_drew bz6.out,g6.out,q6.out⟩) (fun hHeld => ?_)
 refine pure_ (i := 0) (N := some 64) (v := ?_) (a' := ?_) #[true,false,false,false,false,false,false,false,false,false,false,false] rfl rfl (by kernel_rfl) (fun _ _ _ h => h) (Or.inl ⟨by rfl,?_⟩) ?_ ?_
 rotate_left
 ·intro w'
  go_simp
  with_reducible rfl
 rotate_left
 ·simp only [Act.put,List.setIfInBounds_toArray,List.set_cons_zero,List.set_cons_succ,i64_w,i32_w]
  rfl
 refine pure_ (i := 1) (N := some 65) (v := ?_) (a' := ?_) #[true,true,false,false,false,false,false,false,false,false,false,false] rfl rfl (by kernel_rfl) (fun _ _ _ h => h) (Or.inl ⟨by rfl,?_⟩) ?_ ?_
 rotate_left
 ·intro w'
  go_simp
  with_reducible rfl
 rotate_left
 ·simp only [Act.put,List.setIfInBounds_toArray,List.set_cons_zero,List.set_cons_succ,i64_w,i32_w]
  rfl
 refine pure_ (i := 2) (N := some 66) (v := ?_) (a' := ?_) #[true,true,true,false,false,false,false,false,false,false,false,false] rfl rfl (by kernel_rfl) (fun _ _ _ h => h) (Or.inl ⟨by rfl,?_⟩) ?_ ?_
 rotate_left
 ·intro w'
  go_simp
  with_reducible rfl
 rotate_left
 ·simp only [Act.put,List.setIfInBounds_toArray,List.set_cons_zero,List.set_cons_succ,i64_w,i32_w]
  rfl
 refine take_ (i := 3) (N := some 67) (v := ?_) (a' := ?_) #[true,true,true,true,false,false,false,false,false,false,false,false] rfl rfl (by kernel_rfl) (fun _ _ _ h => h) (Or.inl ⟨by rfl,?_⟩) hHeld ?_ ?_
 rotate_left
 ·intro w' hS
  refine (exec_load_row w' 28 _ (by rfl) w1.heap.size (by rfl) 28 G (0,0) _ hS.2.2.1 Try.underlying28 rfl hGs.out).trans ?_;show Result.ok (Next.value (Value.agg G)) w' = _;with_reducible rfl
 rotate_left
 ·simp only [Act.put,List.setIfInBounds_toArray,List.set_cons_zero,List.set_cons_succ,i64_w,i32_w]
  rfl
 refine take_ (i := 5) (N := some 69) (v := ?_) (a' := ?_) #[true,true,true,true,false,true,false,false,false,false,false,false] rfl rfl (by kernel_rfl) (fun _ _ _ h => h) (Or.inl ⟨by rfl,?_⟩) hHeld ?_ ?_
 rotate_left
 ·intro w' hS
  refine (exec_load_row w' 39 _ (by rfl) w5.heap.size (by rfl) 39 H (0,0) _ hS.2.2.2 Try.underlying39 rfl hHs.out).trans ?_;show Result.ok (Next.value (Value.agg H)) w' = _;with_reducible rfl
 rotate_left
 ·simp only [Act.put,List.setIfInBounds_toArray,List.set_cons_zero,List.set_cons_succ,i64_w,i32_w]
  rfl
 refine one_ (i := 4) (N := some 68) #[true,true,true,true,true,true,false,false,false,false,false,false] rfl rfl (by kernel_rfl) (by decide) (fun K hK => ?_)
 refine goes_ Try.func15 (by kernel_rfl) rfl #[.agg G] (by rfl) rfl rfl (by (try simp only [List.map_toArray,List.map_cons,List.map_nil]);first | done | rfl) ?_
 refine (hof1.out _).mono ?_
 rintro e w7 ⟨rfl,hb⟩
 refine ⟨_,rfl,?_⟩
 refine hK.out _ _ ⟨below_step hHeld.1 hb,below_step hHeld.2.1 hb,heap_below hHeld.2.2.1 hb,heap_below hHeld.2.2.2 hb⟩ (fun hHeld => ?_)
 clear hb
 clear hK K
 refine norm_ (a' := ?_) ?_ ?_
 rotate_left
 ·show Act.put _ (some 68) _ = _
  simp only [Act.put,List.setIfInBounds_toArray,List.set_cons_zero,List.set_cons_succ,i64_w,i32_w]
  rfl
 refine one_ (i := 6) (N := some 70) #[true,true,true,true,true,true,true,false,false,false,false,false] rfl rfl (by kernel_rfl) (by decide) (fun K hK => ?_)
 refine goes_ Try.func16 (by kernel_rfl) rfl #[.agg G,.agg H] (by rfl) rfl rfl (by (try simp only [List.map_toArray,List.map_cons,List.map_nil]);first | done | rfl) ?_
 refine (hsm.out _ hHeld.1 hHeld.2.1).mono ?_
 rintro e w8 ⟨rfl,hb⟩
 refine ⟨_,rfl,?_⟩
 refine hK.out _ _ ⟨below_step hHeld.1 hb,below_step hHeld.2.1 hb,heap_below hHeld.2.2.1 hb,heap_below hHeld.2.2.2 hb⟩ (fun hHeld => ?_)
 clear hb
 clear hK K
 refine norm_ (a' := ?_) ?_ ?_
 rotate_left
 ·show Act.put _ (some 70) _ = _
  simp only [Act.put,List.setIfInBounds_toArray,List.set_cons_zero,List.set_cons_succ,i64_w,i32_w]
  rfl
 refine pure_ (i := 7) (N := some 71) (v := ?_) (a' := ?_) #[true,true,true,true,true,true,true,true,false,false,false,false] rfl rfl (by kernel_rfl) (fun _ _ _ h => h) (Or.inl ⟨by rfl,?_⟩) ?_ ?_
 rotate_left
 ·intro w'
  go_simp
  with_reducible rfl
 rotate_left
 ·simp only [Act.put,List.setIfInBounds_toArray,List.set_cons_zero,List.set_cons_succ,i64_w,i32_w]
  rfl
 refine pure_ (i := 8) (N := some 72) (v := ?_) (a' := ?_) #[true,true,true,true,true,true,true,true,true,false,false,false] rfl rfl (by kernel_rfl) (fun _ _ _ h => h) (Or.inl ⟨by rfl,?_⟩) ?_ ?_
 rotate_left
 ·intro w'
  go_simp
  with_reducible rfl
 rotate_left
 ·simp only [Act.put,List.setIfInBounds_toArray,List.set_cons_zero,List.set_cons_succ,i64_w,i32_w]
  rfl
 refine one_ (i := 9) (N := some 73) #[true,true,true,true,true,true,true,true,true,true,false,false] rfl rfl (by kernel_rfl) (by decide) (fun K hK => ?_)
 refine goes_ Try.func10 (by kernel_rfl) rfl #[] (by rfl) rfl rfl (by (try simp only [List.map_toArray,List.map_cons,List.map_nil]);first | done | rfl) ?_
 refine (hawk.out _).mono ?_
 rintro e w9 ⟨rfl,hb⟩
 refine ⟨_,rfl,?_⟩
 refine hK.out _ _ ⟨below_step hHeld.1 hb,below_step hHeld.2.1 hb,heap_below hHeld.2.2.1 hb,heap_below hHeld.2.2.2 hb⟩ (fun hHeld => ?_)
 have b9 := Lib.hid hHeld.1
 clear hb
 clear hK K
 refine norm_ (a' := ?_) ?_ ?_
 rotate_left
 ·show Act.put _ (some 73) _ = _
  simp only [Act.put,List.setIfInBounds_toArray,List.set_cons_zero,List.set_cons_succ,i64_w,i32_w]
  rfl
 refine pure_ (i := 10) (N := some 74) (v := ?_) (a' := ?_) #[true,true,true,true,true,true,true,true,true,true,true,false] rfl rfl (by kernel_rfl) (fun _ _ _ h => h) (Or.inl ⟨by rfl,?_⟩) ?_ ?_
 rotate_left
 ·intro w'
  go_simp
  with_reducible rfl
 rotate_left
 ·simp only [Act.put,List.setIfInBounds_toArray,List.set_cons_zero,List.set_cons_succ,i64_w,i32_w]
  rfl
 refine pure_ (i := 11) (N := some 4) (v := ?_) (a' := ?_) #[true,true,true,true,true,true,true,true,true,true,true,true] rfl rfl (by kernel_rfl) (fun _ _ _ h => h) (Or.inl ⟨by rfl,?_⟩) ?_ ?_
 rotate_left
 ·intro w'
  go_simp
  with_reducible rfl
 rotate_left
 ·simp only [Act.put,List.setIfInBounds_toArray,List.set_cons_zero,List.set_cons_succ,i64_w,i32_w]
  rfl
 refine done_ (by kernel_rfl) ?_
 go_wp2_with fail
 go_ret
 exact ⟨rfl,b9.out⟩
theorem RecordReads_walk (w : World) (A0 : Option Addr) (c0 : Nat) (x0 : List Int) (b0 : x0.length ≤ c0) (C0 : Kd.C (Kd.int .u8) w A0 x0.length x0) (w0 : x0.length ≤ 140737488351232 ∧ ∀ x ∈ x0,(Lit.int .u8 x).wf = true) (A1 : Option Addr) (c1 : Nat) (x1 : List Int) (b1 : x1.length ≤ c1) (C1 : Kd.C (Kd.int .u8) w A1 x1.length x1) (w1 : x1.length ≤ 140737488351232 ∧ ∀ x ∈ x1,(Lit.int .u8 x).wf = true) :
  Calls Try.prog 6 #[.slice A0 x0.length c0,.slice A1 x1.length c1] w fun e w' => e = .returned (.bool true) ∧ Below w.heap.size w w' := by
 by_cases hl : x0.length = 624
 ·cases ho : rcRead x0 with
  |none =>
   by_cases hk : x1.length = 32
   ·exact reads_none_32 A0 c0 x0 A1 c1 x1 w C0 b0 C1 b1 hl (byt_wf w0.2) (byt_wf w1.2) ho hk
   ·exact reads_none_no A0 c0 x0 A1 c1 x1 w C0 b0 C1 b1 hl (byt_wf w0.2) (byt_wf w1.2) ho hk
  |some R =>
   by_cases hk : x1.length = 32
   ·exact reads_some_32 A0 c0 x0 A1 c1 x1 w C0 b0 C1 b1 hl (byt_wf w0.2) (byt_wf w1.2) R ho hk
   ·exact reads_some_no A0 c0 x0 A1 c1 x1 w C0 b0 C1 b1 hl (byt_wf w0.2) (byt_wf w1.2) R ho hk
 ·exact reads_short A0 c0 x0.length A1 x1.length c1 w hl
end Go.Proofs.Ytbajioiiaamokaa.Own
