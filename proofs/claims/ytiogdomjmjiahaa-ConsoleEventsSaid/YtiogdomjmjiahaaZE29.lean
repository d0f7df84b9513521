/- AwP, pruned (slim.py). -/
import Derived.Test.YtiogdomjmjiahaaZE28
import Derived.Deep.MidRow
namespace Go.Proofs.Ytiogdomjmjiahaa.Own
open Go.RowKit Go.Proofs.Ytiogdomjmjiahaa.Arr Go.Proofs.Ytiogdomjmjiahaa.QA Go.Proofs.Ytiogdomjmjiahaa.QB Go.Proofs.Ytiogdomjmjiahaa.QC Go.Proofs.YtiogdomjmjiahaaW.PrintWords Go.Proofs.YtiogdomjmjiahaaW.PrintLast Go.Proofs.YtiogdomjmjiahaaW.PrintMore
set_option linter.unusedVariables false
set_option linter.unusedSimpArgs false
attribute [-go_sem] Instr.build
abbrev scs (vp vs : Value) : Array Value := #[.int .i64 0, .int .i64 0, .int .i64 0, .int .i64 0, .int .i64 0, .int .i64 0, vp, vs]
theorem info70 : (Try.prog.info? 70).map (fun i => (i.zero, i.size)) = some (some (.agg (scs (.slice none 0 0) (.slice none 0 0))), 8) := by kernel_rfl
theorem builtR : Try.prog.built 118 (#[] : Array (Nat × Value)).toList = some (rcs (.slice none 0 0) (.slice none 0 0) (.slice none 0 0)) := by kernel_rfl
theorem below_thenW {w w1 w2 : World} (h : Below w.heap.size w w1) (k : Below (w.heap.size + 1) w1 w2) (hz : w.heap.size + 2 ≤ w1.heap.size) : Below w.heap.size w w2 :=
  h.trans (k.mono (Nat.le_succ _))
theorem awake_ne {w : World} {a b : Nat} {cs cs' : Array Value} (e : b = a) (h : w.heap[a]? = some (.cells cs 70 (0, 0))) (k : w.heap[b]? = some (.cells cs' 115 (0, 0))) : False := by
  subst e
  rw [h] at k
  injection k with k
  injection k with _ k
  revert k
  decide
section
variable {P : Program}
theorem results_ctt' {fn : Func} {p u v : Tmp} {ty : TypeId} (h : fn.results = #[.cell p ty, .tmp u, .tmp v]) (tmps : Array Value) (w : World) (g : Nat) (t : TypeId) (cs : Array Value) (fr : Nat × Nat) (d : TypeDesc)
    (hp : tmps.getD p undef = .pointer (some ⟨g, 0, none⟩)) (hg : w.heap[g]? = some (.cells cs t fr))
    (hu : P.underlying ty = some d) (hd : (match d with | .struct _ | .array _ _ => true | _ => false) = true) (hi : (P.info? ty).map (·.size) = some cs.size) {x y : Value} (hx : tmps.getD u undef = x) (hy : tmps.getD v undef = y) :
    (results fn tmps).run P w = .ok (.tuple #[.agg cs, x, y]) w := by
  have hp' : tmps[p]?.getD undef = .pointer (some ⟨g, 0, none⟩) := by simpa using hp
  subst hx hy
  simp [results, h, hp', asAddr, run_loadVar_row w g t ty cs fr d hg hu hd hi]
end
def ParseAwake (w : World) (e : Ending) (w' : World) : Prop := ∃ (b cap : Nat) (cs : Array Value) (rest : List Value), e = .returned (.tuple #[.agg (scs (.slice none 0 0) (.slice (some ⟨b, 0, none⟩) 1 cap)), .int .i64 0, .int .i64 0]) ∧ w'.heap[b]? = some (.cells cs 115 (0, 0)) ∧ cs.toList = .int .i64 6 :: .int .i64 1 :: .int .i64 0 :: .int .i64 2 :: rest ∧ Below w.heap.size w w'
theorem script_list (v : Value) : ∃ Ls : List Value, Ls = (scs (.slice none 0 0) v).toList := ⟨_, rfl⟩
theorem script_arr {Ls : List Value} {v : Value} (h : Ls = (scs (.slice none 0 0) v).toList) : Ls.toArray = scs (.slice none 0 0) v := by rw [h]
theorem script_size {Ls : List Value} {v : Value} (h : Ls = (scs (.slice none 0 0) v).toList) : (Try.prog.info? 70).map (·.size) = some Ls.length := by
  rw [h]
  have hi := info70
  cases h : Try.prog.info? 70 with
  | none => rw [h] at hi; simp at hi
  | some i =>
    rw [h] at hi
    simp only [Option.map_some, Option.some.injEq, Prod.mk.injEq] at hi
    simp [hi.2]
theorem script_sizeA {Ls : List Value} {v : Value} (h : Ls = (scs (.slice none 0 0) v).toList) : (Try.prog.info? 70).map (·.size) = some Ls.toArray.size := script_size h
theorem script_one {b : Addr} {cap : Nat} {Ls : List Value} (h : Ls = (scs (.slice none 0 0) (.slice (some b) 1 cap)).toList) : Ls.toArray.all (·.oneCell') = true := by rw [h]; simp [Value.oneCell']
theorem script_zs {v : Value} {Ls : List Value} (h : Ls = (scs (.slice none 0 0) v).toList) : (scs (.slice none 0 0) (.slice none 0 0)).size = Ls.toArray.size := by rw [h]; rfl
theorem script_range {v : Value} {Ls : List Value} (h : Ls = (scs (.slice none 0 0) v).toList) {w : World} {g : Nat} (hg : w.heap[g]? = some (.cells (rcs (.slice none 0 0) v (.slice none 0 0)) 118 (0, 0))) : w.rangeAt g 0 Ls := by
  rw [h]
  intro j u hj
  refine (blk_cell hg (0 + j)).trans ?_
  rw [Nat.zero_add]
  have hj8 : j < 8 := by have := (List.getElem?_eq_some_iff.1 hj).1; simpa using this
  have : j = 0 ∨ j = 1 ∨ j = 2 ∨ j = 3 ∨ j = 4 ∨ j = 5 ∨ j = 6 ∨ j = 7 := by omega
  rcases this with rfl | rfl | rfl | rfl | rfl | rfl | rfl | rfl <;> exact hj
set_option maxHeartbeats 8000000 in
set_option maxRecDepth 100000 in
theorem parse_awake (w : World) : Calls Try.prog 39 #[.string ATEXT] w (ParseAwake w) := by
  have hwords := Lib.hid (fun w1 => console_Words.calls 100 ATEXT AWORDS w1 awords_eq)
  have hsz : ATEXT.size = 10 := by decide +kernel
  have hby : ∀ k : Nat, k < 10 → ∀ h : k < ATEXT.size, (((ATEXT[k]'h).toNat : Int) != 10) = true := by decide +kernel
  have hbR : ∀ W : World, (Instr.build 118 #[]).run Try.prog W = .ok (.agg (rcs (.slice none 0 0) (.slice none 0 0) (.slice none 0 0))) W := fun W => run_build W _ _ _ builtR
  obtain ⟨hz, -⟩ := zero_of_info (P := Try.prog) info70
  obtain ⟨S, hS⟩ : ∃ S, S = ATEXT := ⟨_, rfl⟩
  rw [← hS] at hwords hsz hby ⊢
  have hby' := Lib.hid hby
  clear hS hby
  go_enter Try.func39, Try.ntmps39
  go_wp2_with fail
  go_step3
  go_wp2_with fail
  go_step3
  have hg0 := Lib.hid (heap_alloc_last (w.alloc (.cells (scs (.slice none 0 0) (.slice none 0 0)) 70 (0, 0))) (.cells (rcs (.slice none 0 0) (.slice none 0 0) (.slice none 0 0)) 118 (0, 0)))
  have hp0 := Lib.hid ((heap_skip (w.alloc (.cells (scs (.slice none 0 0) (.slice none 0 0)) 70 (0, 0))) (.cells (rcs (.slice none 0 0) (.slice none 0 0) (.slice none 0 0)) 118 (0, 0)) w.heap.size (by simp)).trans (heap_alloc_last w _))
  obtain ⟨W1, hW1⟩ : ∃ W1, W1 = (w.alloc (.cells (scs (.slice none 0 0) (.slice none 0 0)) 70 (0, 0))).alloc (.cells (rcs (.slice none 0 0) (.slice none 0 0) (.slice none 0 0)) 118 (0, 0)) := ⟨_, rfl⟩
  rw [← hW1] at hg0 hp0 ⊢
  have hs1 := Lib.hid (show W1.heap.size = w.heap.size + 2 by rw [hW1]; simp)
  have hb1 := Lib.hid (show Below w.heap.size w W1 by rw [hW1]; exact ((Below.refl w.heap.size w).alloc (Nat.le_refl _) _).alloc (by simp) _)
  clear hW1
  go_wp2_with fail
  go_loopw [0, 6] (fun s u wr => s = .string S ∧ u = .int .i64 0 ∧ wr = W1) (fun _ _ _ => 0)
  case atStart => exact ⟨rfl, rfl, rfl⟩
  case round =>
    obtain ⟨rfl, rfl, rfl⟩ := hrel
    go_wp2_with fail
    go_hide hQ
    go_loopw [0, 21] (fun s i wr' => ∃ k : Nat, s = .string S ∧ k ≤ 10 ∧ i = .int .i64 k ∧ wr' = wr) (fun _ i _ => 10 - (intOf i).toNat)
    case atStart => exact ⟨0, rfl, Nat.zero_le _, rfl, rfl⟩
    case round =>
      obtain ⟨k, rfl, hk, rfl, rfl⟩ := hrel
      by_cases hlt : k < 10
      · have q1 : (k : Int) < 10 := by omega
        have q2 : k < S.size := by omega
        have q3 := hby'.out k hlt q2
        have q4 : (0 : Int) ≤ (k : Int) := by omega
        have kw : IntKind.i64.wrap ((k : Int) + 1) = (k : Int) + 1 := by rw [IntKind.wrap_i64]; omega
        go_wp2_with fail
        exact ⟨⟨k + 1, rfl, by omega, by push_cast; rfl, trivial⟩, by simp only [intOf]; omega⟩
      obtain rfl : k = 10 := by omega
      subst hQ
      go_wp2_with (first
        | ((with_reducible go_at_call 43); refine (hwords.out _).mono ?_; rintro e w1 ⟨v, rfl, hR, hb⟩; obtain ⟨A, c, rfl⟩ := Kd.R_slice hR; obtain ⟨-, hcc, hC⟩ := Kd.R_reads' hR; have hp1 := Lib.hid (heap_below hp0.out hb); have hg1 := Lib.hid (heap_below hg0.out hb); have hb2 := Lib.hid (below_step hb1.out hb); have hC' := Lib.hid (show Kd.C Kd.string w1 A 4 AWORDS from hC); have hc4 := Lib.hid (show 4 ≤ c from hcc); have hz1 := Lib.hid (show w.heap.size + 2 ≤ w1.heap.size from hs1.out ▸ hb.size); clear hp0 hg0 hb1 hs1 hR hC hcc hb)
        | ((with_reducible go_at_call 69); refine (line_awake (w.heap.size + 1) (w.heap.size + 1) (Nat.le_refl _) _ (Nat.le_trans (Nat.le_succ _) hz1.out) A c (by have := hg1.out; simpa using this) hC'.out hc4.out).mono ?_; rintro e w2 ⟨rfl, hbl, b, cap, cs, rest, hg2, hbk, hcs⟩; have hp2 := Lib.hid ((hbl.block w.heap.size (Nat.lt_succ_self _)).trans hp1.out); have hg2' := Lib.hid hg2; have hbk' := Lib.hid hbk; have hcs' := Lib.hid hcs; have hb3 := Lib.hid (below_thenW hb2.out hbl hz1.out); obtain ⟨Ls, hLs⟩ := script_list (.slice (some ⟨b, 0, none⟩) 1 cap); have hLs' := Lib.hid hLs; have hsz8 := Lib.hid (script_size hLs); have hsz8a := Lib.hid (script_sizeA hLs); have hone8 := Lib.hid (script_one hLs); have hzs8 := Lib.hid (script_zs hLs); have hrg := Lib.hid (script_range hLs hg2'.out); clear hbl hLs hp1 hg1 hg2 hbk hcs hC' hc4)
        | (with_reducible refine wpList_load_mid rfl 70 _ rfl (w.heap.size + 1) 0 rfl Ls _ hrg.out Try.underlying70 rfl hsz8.out ?_)
        | (with_reducible refine wpList_store_row rfl 70 _ _ rfl w.heap.size Ls.toArray rfl rfl 70 _ hp2.out hsz8a.out hzs8.out hone8.out ?_))
      have hq := setRow_heap w2 w.heap.size _ Ls.toArray 70 (0, 0) hp2.out
      have hbk2 := (setRow_other w2 w.heap.size b Ls.toArray (fun e => awake_ne e hp2.out hbk'.out)).trans hbk'.out
      have hb4 := below_setRow hb3.out (Nat.le_refl _) Ls.toArray
      have hLq : Ls.toArray = scs (.slice none 0 0) (.slice (some ⟨b, 0, none⟩) 1 cap) := by rw [hLs'.out]
      rw [hLq] at hq hbk2 hb4 ⊢
      simp only [Exit.noGoto_ret]
      refine bodyPost_ret (v := .tuple #[.agg (scs (.slice none 0 0) (.slice (some ⟨b, 0, none⟩) 1 cap)), .int .i64 0, .int .i64 0]) (results_ctt' rfl _ _ w.heap.size 70 _ (0, 0) _ rfl hq Try.underlying70 rfl (script_sizeA rfl) rfl rfl) rfl ⟨b, cap, cs, rest, rfl, hbk2, hcs'.out, hb4⟩
theorem awake_c7 {Ls : List Value} {v : Value} (h : Ls = (scs (.slice none 0 0) v).toList) (w : World) {Z : Array Value} : ((w.alloc (.cells Z 70 (0, 0))).setRow w.heap.size Ls.toArray).cell? ⟨w.heap.size, 7, none⟩ = some v := by
  rw [h]
  exact (blk_cell (setRow_heap (w.alloc (.cells Z 70 (0, 0))) w.heap.size Z _ 70 (0, 0) (heap_alloc_last _ _)) 7).trans rfl
theorem awake_k {cs : Array Value} {a b c d : Value} {rest : List Value} (h : cs.toList = a :: b :: c :: d :: rest) : cs[0]? = some a ∧ cs[3]? = some d := by
  constructor <;> (rw [← Array.getElem?_toList, h]; rfl)
def nepenthelaw35_awake.f : Option Bool := some true
set_option maxHeartbeats 4000000 in
set_option maxRecDepth 100000 in
theorem awake35 (w : World) : Calls Try.prog 38 #[] w fun e w' => e = .returned (.bool true) ∧ Below w.heap.size w w' := by
  have hpa : ∀ w1 : World, Calls Try.prog 39 #[.string ATEXT] w1 (ParseAwake w1) := parse_awake
  have hT : ATEXT = ⟨#[114, 101, 97, 100, 32, 49, 32, 48, 32, 50]⟩ := rfl
  rw [hT] at hpa
  obtain ⟨hz, -⟩ := zero_of_info (P := Try.prog) info70
  obtain ⟨Z, hZ⟩ : ∃ Z, Z = scs (.slice none 0 0) (.slice none 0 0) := ⟨_, rfl⟩
  rw [← hZ] at hz
  have hZ' := Lib.hid hZ
  have hpa' := Lib.hid hpa
  clear hZ hpa hT
  go_enter Try.func38, Try.ntmps38
  go_wp2_with (first
    | ((with_reducible go_at_call 39); refine (hpa'.out _).mono ?_; rintro e w1 ⟨b, cap, cs, rest, rfl, hbk, hcs, hb⟩; obtain ⟨Ls, hLs⟩ := script_list (.slice (some ⟨b, 0, none⟩) 1 cap); have hLq := script_arr hLs; rw [← hLq]; have hbk' := Lib.hid hbk; have hcs' := Lib.hid hcs; have hb' := Lib.hid hb; have hLs' := Lib.hid hLs; have hsz8a := Lib.hid (script_sizeA hLs); have hone8 := Lib.hid (script_one hLs); have hzs8 := Lib.hid (show Z.size = Ls.toArray.size from hZ'.out ▸ script_zs hLs); clear hbk hcs hb hLs hLq)
    | (with_reducible refine wpList_store_row rfl 70 _ _ rfl w1.heap.size Ls.toArray rfl rfl 70 Z (heap_alloc_last _ _) hsz8a.out hzs8.out hone8.out ?_; have c7 := awake_c7 hLs'.out w1 (Z := Z); have hbw := Lib.hid (heap_skip w1 (.cells Z 70 (0, 0)) b (Nat.ne_of_lt (lt_of_heap hbk'.out))); have hbs := Lib.hid ((setRow_other (w1.alloc (.cells Z 70 (0, 0))) w1.heap.size b Ls.toArray (Nat.ne_of_lt (lt_of_heap hbk'.out))).trans (hbw.out.trans hbk'.out)); have c0 := (blk_cell hbs.out 0).trans (awake_k hcs'.out).1; have c3 := (blk_cell hbs.out 3).trans (awake_k hcs'.out).2; have hb5 := Lib.hid (below_setRow (below_alloc hb'.out (.cells Z 70 (0, 0))) hb'.out.size Ls.toArray); clear hbw hbs hbk' hcs' hb'; generalize (w1.alloc (.cells Z 70 (0, 0))).setRow w1.heap.size Ls.toArray = w2 at *))
  go_ret
  exact ⟨rfl, hb5.out⟩
theorem nepenthelaw35_awake.calls (r : Bool) (w : World) (h : nepenthelaw35_awake.f = some r) :
    Calls Try.prog 38 #[] w fun e w' => e = .returned (.bool r) ∧ Below w.heap.size w w' := by
  obtain rfl := Option.some.inj h
  exact awake35 w
end Go.Proofs.Ytiogdomjmjiahaa.Own
