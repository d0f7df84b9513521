/- ShaNil, ShaWrites, walked. -/
import Derived.Test.YtoojonapnifjoaaShX
namespace Go.Proofs.Ytoojonapnifjoaa.Own
open Go.RowKit Go.Proofs.Ytoojonapnifjoaa.Arr Go.Proofs.Ytoojonapnifjoaa.QB Go.Proofs.YtoojonapnifjoaaW.PrintWords Go.Proofs.YtoojonapnifjoaaW.PrintLast Go.Proofs.YtoojonapnifjoaaW.PrintMore
set_option linter.unusedVariables false
set_option linter.unusedSimpArgs false
attribute [-go_sem] Instr.build
theorem refSum_any (l : List Int) (hb : ∀ x ∈ l, byt x) (hl : l.length ≤ 1000000) (w : World) (A0 : Option Addr) (c0 : Nat) (hr0 : Kd.C (Kd.int .u8) w A0 l.length l) (hc0 : l.length ≤ c0) :
    Calls Try.prog 18 #[.slice A0 l.length c0] w fun e w' => ∃ v0_ : Value, e = .returned v0_ ∧ Kd.R (Kd.int .u8) 5 w' w.heap.size (fun _ => True) v0_ (sumL l) ∧ Below w.heap.size w w' :=
  nepentheref02_Sum.calls _ A0 c0 l _ w hr0 hc0 (sum_eq l hb (by omega) 0)
theorem shaAwake_any (w : World) : Calls Try.prog 15 #[] w fun e w' => e = .returned (.bool true) ∧ Below w.heap.size w w' := nepenthelaw02_awake.calls true w rfl
theorem same_s (a : List Int) (hl : a.length = 32) (w : World) (A0 : Option Addr) (c0 : Nat) (A1 : Option Addr) (c1 : Nat) (hr0 : Kd.C (Kd.int .u8) w A0 32 a) (hc0 : 32 ≤ c0) (hr1 : Kd.C (Kd.int .u8) w A1 32 a) (hc1 : 32 ≤ c1) :
    Calls Try.prog 16 #[.slice A0 32 c0, .slice A1 32 c1] w fun e w' => e = .returned (.bool true) ∧ Drawn0 w w' := by
  have := same_self a (by omega) w A0 c0 A1 c1 (by rw [hl]; exact hr0) (by omega) (by rw [hl]; exact hr1) (by omega)
  rw [hl] at this
  exact this
theorem R_32r {w : World} {g base : Nat} {v : Value} {l : List Int} (h : Kd.R (Kd.int .u8) 5 w base (fun _ => True) v l) (hl : l.length = 32) (hg : g < base) : ∃ A c, v = .slice A 32 c ∧ 32 ≤ c ∧ Kd.C (Kd.int .u8) w A 32 l ∧ Rd w g A l := by
  obtain ⟨A, c, rfl⟩ := Kd.R_slice h
  have h1 := Kd.R_reads' h
  have h2 := Rd.fresh h hg
  rw [hl] at h1 ⊢
  exact ⟨A, c, rfl, h1.2.1, h1.2.2, h2⟩
theorem builtH0 : Try.prog.built 37 (#[] : Array (Nat × Value)).toList = some (hcs (zer 8) (.slice none 0 0) 0 false) := by kernel_rfl
theorem raw_of {w : World} {g : Nat} {hz : Array Value} (e : hz = hcs (zer 8) (.slice none 0 0) 0 false) (h : w.heap[g]? = some (.cells hz 37 (0, 0))) : HashAt w g (zer 8) none 0 [] 0 false := by
  subst e
  exact ⟨by simp [zer], h, Rd.nil _ _ _, Nat.zero_le _⟩
set_option maxHeartbeats 1000000 in
set_option maxRecDepth 100000 in
theorem ShaNil_walk (w : World) (A0 : Option Addr) (c0 : Nat) (b : List Int) (hc0 : b.length ≤ c0) (hr0 : Kd.C (Kd.int .u8) w A0 b.length b) (w0 : b.length ≤ 140737488351232 ∧ ∀ x ∈ b, (Lit.int .u8 x).wf = true) :
    Calls Try.prog 5 #[.slice A0 b.length c0] w fun e w' => e = .returned (.bool true) ∧ Below w.heap.size w w' := by
  have hm0 := hr0.2.1
  by_cases hbig : 1500 < b.length
  · clear hr0 hc0 w0
    go_enter Try.func5, Try.ntmps5
    go_wp2_with (go_at_call 15; refine (shaAwake_any _).mono ?_; rintro e w1 ⟨rfl, hb⟩; have hb1 := Lib.hid hb; clear hb)
    go_ret
    exact ⟨rfl, hb1.out⟩
  · have hbt := byt_wf w0.2
    have hbu : ∀ W : World, (Instr.build 37 #[]).run Try.prog W = .ok (.agg (hcs (zer 8) (.slice none 0 0) 0 false)) W := fun W => run_build W _ _ _ builtH0
    have hE := fun w1 => refSum_any [] (by simp) (by simp) w1 none 0 (Kd.C_nil _ _) (by simp)
    have hB := fun w1 h => refSum_any b hbt (by omega) w1 A0 c0 h hc0
    have hN := fun w1 => sum_nil_of w1
    have hG := fun w1 g h => sum_of w1 g b h (by omega)
    have hZ := fun w1 g h => sum_raw_of w1 g (zer 8) none 0 [] 0 h
    have hl0 := sumL_length []
    have hl1 := sumL_length b
    obtain ⟨E0, hE0⟩ : ∃ D, D = sumL [] := ⟨_, rfl⟩
    obtain ⟨D, hD⟩ : ∃ D, D = sumL b := ⟨_, rfl⟩
    rw [← hE0] at hE hN hZ hl0
    rw [← hD] at hB hG hl1
    rw [List.length_nil] at hE
    have hS1 := same_s E0 hl0
    have hS3 := same_s D hl1
    have hW0 := Lib.hid write_nil
    have hS1a := Lib.hid hS1
    have hS1b := Lib.hid hS1
    have hS3' := Lib.hid hS3
    have hE1 := Lib.hid hE
    have hE2 := Lib.hid hE
    have hB' := Lib.hid hB
    have hN' := Lib.hid hN
    have hG' := Lib.hid hG
    have hZ' := Lib.hid hZ
    have hl0' := Lib.hid hl0
    have hl1' := Lib.hid hl1
    have hr0' := Lib.hid hr0
    obtain ⟨hz, hzz⟩ : ∃ h : Array Value, h = hcs (zer 8) (.slice none 0 0) 0 false := ⟨_, rfl⟩
    rw [← hzz] at hbu
    have hzz' := Lib.hid hzz
    clear hE hB hN hG hZ hl0 hl1 hE0 hD hS1 hS3 hr0 hc0 w0 hbt hzz
    go_enter Try.func5, Try.ntmps5
    go_wp2_with (first
      | (go_at_call 22; refine (hW0.out _ _).mono ?_; clear hW0; rintro e w1 ⟨rfl, hd⟩; have b1 := Lib.hid hd.below; clear hd)
      | (go_at_call 23; refine (hZ'.out _ w1.heap.size (raw_of hzz'.out (heap_at _ _ _ rfl))).mono ?_; clear hZ'; rintro e w2 ⟨v2, rfl, hR, hb⟩; obtain ⟨A2, c2, rfl, hc2, hC, hrd⟩ := R_32r (g := w1.heap.size) hR hl0'.out (by simp); have C2 := Lib.hid hrd; have o2 := Lib.hid (heap_below (heap_at _ _ _ rfl) hb); have hs2 := Lib.hid b1.out.size; have b2 := Lib.hid (below_step (below_alloc b1.out _) hb); clear hR hC hrd hb b1)
      | (go_at_call 22; refine (write_raw_of _ w1.heap.size (zer 8) none 0 (raw_of hzz'.out o2.out) A0 c0 b ((Rd.old hr0'.out hs2.out).keep (Chg.of_below b2.out)) (by omega)).mono ?_; rintro e w3 ⟨rfl, hh, hch⟩; have h3 := Lib.hid hh; have hbb := hch.below hs2.out b2.out.size; have b3 := Lib.hid (b2.out.trans hbb); have hq := (C2.out.keep hch).toC; rw [hl0'.out] at hq; have C3 := Lib.hid hq; clear hh hch hbb hq b2 C2 o2 hs2)
      | (go_at_call 24; refine (len_nil _).mono ?_; rintro e w4 ⟨rfl, hd⟩; have hb := hd.below; have b4 := Lib.hid (below_step b3.out hb); have h4 := Lib.hid (h3.out.below hb); have C4 := Lib.hid (Kd.C_below C3.out hb); clear hd hb b3 h3 C3)
      | (go_at_call 23; refine (hN'.out _).mono ?_; clear hN'; rintro e w5 ⟨v5, rfl, hR, hb⟩; obtain ⟨A5, c5, rfl, hc5, hC⟩ := R_32 hR hl0'.out; have K5 := Lib.hid hC; have b5 := Lib.hid (below_step b4.out hb); have h5 := Lib.hid (h4.out.below hb); have C5 := Lib.hid (Kd.C_below C4.out hb); clear hR hC hb b4 h4 C4)
      | (go_at_call 18; refine (hE1.out _).mono ?_; clear hE1; rintro e w6 ⟨v6, rfl, hR, hb⟩; obtain ⟨A6, c6, rfl, hc6, hC⟩ := R_32 hR hl0'.out; have J6 := Lib.hid hC; have K6 := Lib.hid (Kd.C_below K5.out hb); have b6 := Lib.hid (below_step b5.out hb); have h6 := Lib.hid (h5.out.below hb); have C6 := Lib.hid (Kd.C_below C5.out hb); clear hR hC hb b5 h5 C5 K5)
      | (go_at_call 16; refine (hS1a.out _ _ _ _ _ K6.out hc5 J6.out hc6).mono ?_; clear hS1a; rintro e w7 ⟨rfl, hd⟩; have hb := hd.below; have b7 := Lib.hid (below_step b6.out hb); have h7 := Lib.hid (h6.out.below hb); have C7 := Lib.hid (Kd.C_below C6.out hb); clear hd hb b6 h6 C6 K6 J6)
      | (go_at_call 18; refine (hE2.out _).mono ?_; clear hE2; rintro e w8 ⟨v8, rfl, hR, hb⟩; obtain ⟨A8, c8, rfl, hc8, hC⟩ := R_32 hR hl0'.out; have J8 := Lib.hid hC; have b8 := Lib.hid (below_step b7.out hb); have h8 := Lib.hid (h7.out.below hb); have C8 := Lib.hid (Kd.C_below C7.out hb); clear hR hC hb b7 h7 C7)
      | (go_at_call 16; refine (hS1b.out _ _ _ _ _ C8.out hc2 J8.out hc8).mono ?_; clear hS1b; rintro e w9 ⟨rfl, hd⟩; have hb := hd.below; have b9 := Lib.hid (below_step b8.out hb); have h9 := Lib.hid (h8.out.below hb); clear hd hb b8 h8 C8 J8)
      | (go_at_call 23; refine (hG'.out _ _ h9.out).mono ?_; clear hG'; rintro e w10 ⟨v10, rfl, hR, hb⟩; obtain ⟨A10, c10, rfl, hc10, hC⟩ := R_32 hR hl1'.out; have K10 := Lib.hid hC; have b10 := Lib.hid (below_step b9.out hb); clear hR hC hb b9 h9)
      | (go_at_call 18; refine (hB'.out _ (Kd.C_below hr0'.out b10.out)).mono ?_; rintro e w11 ⟨v11, rfl, hR, hb⟩; obtain ⟨A11, c11, rfl, hc11, hC⟩ := R_32 hR hl1'.out; have J11 := Lib.hid hC; have K11 := Lib.hid (Kd.C_below K10.out hb); have b11 := Lib.hid (below_step b10.out hb); clear hR hC hb b10 K10)
      | (go_at_call 16; refine (hS3'.out _ _ _ _ _ K11.out hc10 J11.out hc11).mono ?_; rintro e w12 ⟨rfl, hd⟩; have b12 := Lib.hid (below_step b11.out hd.below); clear hd b11 K11 J11)
      | (go_at_call 15; refine (shaAwake_any _).mono ?_; rintro e w13 ⟨rfl, hb⟩; have b13 := Lib.hid (below_step b12.out hb); clear hb b12))
    go_ret
    exact ⟨rfl, b13.out⟩
theorem apart_after {row row1 : Option Nat} {n : Nat} (h : row1 = row ∨ ∃ b, row1 = some b ∧ n ≤ b) : ∀ q, (some q ≠ row ∧ q < n) → some q ≠ row1 := by
  intro q hq he
  rcases h with e | ⟨b, e, hb⟩
  · exact hq.1 (he.trans e)
  · have := hq.2
    have := Option.some.inj (he.trans e)
    omega
theorem len_of (w : World) (g : Nat) (L : List Int) (h : HashOf w g L) : Calls Try.prog 24 #[.pointer (some ⟨g, 0, none⟩)] w fun e w' => e = .returned (.int .i64 (L.length : Int)) ∧ Drawn0 w w' := by
  obtain ⟨A, c, h⟩ := h
  exact len_any w g _ A c _ _ true h
set_option maxHeartbeats 4000000 in
set_option maxRecDepth 100000 in
theorem ShaWrites_walk (w : World) (A1 : Option Addr) (c1 : Nat) (ls : List (List Int)) (hc1 : ls.length ≤ c1) (hr1 : Kd.C (Kd.slice 5 (Kd.int .u8)) w A1 ls.length ls) (w1 : ls.length ≤ 140737488351232 ∧ ∀ l ∈ ls, l.length ≤ 140737488351232 ∧ ∀ x ∈ l, (Lit.int .u8 x).wf = true) :
    Calls Try.prog 4 #[.slice A1 ls.length c1] w fun e w' => e = .returned (.bool true) ∧ Below w.heap.size w w' := by
  have hm1 := hr1.2.1
  have hbt : ∀ k, ∀ x ∈ (ls.take k).flatten, byt x := by
    intro k x hx
    obtain ⟨l, hl, hxl⟩ := List.mem_flatten.1 hx
    exact byt_wf (w1.2 l (List.mem_of_mem_take hl)).2 x hxl
  have hjb : ∀ k, k < ls.length → (ls.getD k []).length ≤ 140737488351232 := fun k hk => by
    rw [List.getD_eq_getElem?_getD, List.getElem?_eq_getElem hk]
    exact (w1.2 _ (List.getElem_mem hk)).1
  have hjb' := Lib.hid hjb
  have hr1' := Lib.hid hr1
  have hbt' := Lib.hid hbt
  clear hr1 hc1 w1 hbt hjb
  go_enter Try.func4, Try.ntmps4
  go_wp2_with (go_at_call 21; refine (new_in _ (fun _ => False)).mono ?_; rintro e w2 ⟨g, rfl, hg, hh, hb⟩; have hg2 := Lib.hid hg; have hh2 := Lib.hid hh; have hb2 := Lib.hid hb; clear hg hh hb)
  have hglt := Lib.hid hh2.out.of.lt
  go_loopw [4, 5] (fun v i wr => ∃ k : Nat, k ≤ ls.length ∧ k ≤ 20 ∧ i = .int .i64 k ∧ (ls.take k).flatten.length ≤ 1500 ∧ HashIn wr g (fun q => some q ≠ v.ownBlock) (ls.take k).flatten ∧ Kd.R (Kd.int .u8) 5 wr w2.heap.size (fun _ => True) v (ls.take k).flatten ∧ Below w.heap.size w wr ∧ w2.heap.size ≤ wr.heap.size) (fun _ i _ => ls.length - (intOf i).toNat)
  case atStart => exact ⟨0, Nat.zero_le _, Nat.zero_le _, rfl, by simp, (hh2.out.mono (fun _ h => h.elim)).below ((Below.refl _ _).alloc (Nat.le_refl _) _), R_of_nums (own_empty _ _ _ _ _ rfl (Nat.le_refl _)), hb2.out.alloc hb2.out.size _, by simp⟩
  case round =>
    obtain ⟨k, hk, hk20, rfl, hF15, hh, hR, hb, hsz⟩ := hrel
    have hR' := Lib.hid hR
    have hb' := Lib.hid hb
    have hh' := Lib.hid hh
    have hsz' := Lib.hid hsz
    obtain ⟨Av, cv, rfl⟩ := Kd.R_slice hR
    clear hR hb hh hsz hh2
    by_cases hlt : k < ls.length
    · by_cases h20 : k < 20
      · obtain ⟨b, o, rfl, hrow⟩ := CC_row hr1'.out (by omega)
        obtain ⟨Aj, cj, hcell, hcj, hCj⟩ := hrow k hlt
        have hcell' := pw_cell_below hb'.out hcell
        have hbg : b < w.heap.size := World.block_lt_of_cell? w _ hcell
        have hft := flat_take ls k hlt
        have hbtk := hbt'.out (k + 1)
        obtain ⟨F, hF⟩ : ∃ F, F = (ls.take k).flatten := ⟨_, rfl⟩
        obtain ⟨lj, hlj⟩ : ∃ lj, lj = ls.getD k [] := ⟨_, rfl⟩
        rw [← hlj] at hcell' hCj hft hcj
        rw [← hF] at hft hR' hF15 hh' ⊢
        rw [hft] at hbtk
        have hft' := Lib.hid hft
        have hbtk' := Lib.hid hbtk
        have hjm := hjb'.out k hlt
        rw [← hlj] at hjm
        have hRd := (Rd.old hCj hg2.out).keep (Chg.of_below hb'.out)
        have hRd' := Lib.hid hRd
        have hb1' := Lib.hid hb2.out.size
        have hbgl := Lib.hid hbg
        clear hrow hcell hft hbtk hF hlj hCj hRd hbg
        by_cases hbig : 1500 < lj.length + F.length
        · go_wp2_with (go_at_call 15; refine (shaAwake_any _).mono ?_; rintro e w3 ⟨rfl, hb⟩; have hb3 := Lib.hid (below_step hb'.out hb); clear hb)
          go_ret
          exact ⟨rfl, hb3.out⟩
        · have hsm : lj.length + F.length ≤ 1500 := by omega
          have hXl : (F ++ lj).length = F.length + lj.length := List.length_append
          have hsum := fun w1 h => sum_of w1 g (F ++ lj) h (by omega)
          have href := fun w1 A c h hc => refSum_any (F ++ lj) hbtk'.out (by omega) w1 A c h hc
          have hsl := sumL_length (F ++ lj)
          obtain ⟨D, hD⟩ : ∃ D, D = sumL (F ++ lj) := ⟨_, rfl⟩
          rw [← hD] at hsum href hsl
          obtain ⟨X, hX⟩ : ∃ X, X = F ++ lj := ⟨_, rfl⟩
          rw [← hX] at hsum href hXl
          have hXe := Lib.hid hX
          have hXl' := Lib.hid hXl
          have hS1 := Lib.hid (same_s D hsl)
          have hS2 := Lib.hid (same_s D hsl)
          have hsum1 := Lib.hid hsum
          have hsum2 := Lib.hid hsum
          have href' := Lib.hid href
          have hsl' := Lib.hid hsl
          have hlenX : ((X.length : Int) != (X.length : Int)) = false := by simp
          clear hsum href hsl hD hX hXl hbtk'
          go_wp2_with (first
            | (go_at_call 22; refine (write_inof _ g _ F hh'.out Aj cj lj hRd'.out (by omega)).mono ?_; rintro e w5 ⟨rfl, hh, hch⟩; have hcell5 := (World.cell?_of_block (a := ⟨b, o + k, none⟩) (hch.block b (Nat.lt_of_lt_of_le hbgl.out hb'.out.size) (by have := hbgl.out; have := hg2.out; omega))).trans hcell'; have hsz5 := Lib.hid (Nat.le_trans hsz'.out hch.size); have hb5 := Lib.hid (hb'.out.trans (hch.below hg2.out hb'.out.size)); have hC5 := Lib.hid (hRd'.out.keep hch).toC; have hR5 := Lib.hid (R_chg hR'.out hch hglt.out); have hh5 := Lib.hid (hh.mono (fun q hq => hq.elim id (fun h => fun he => by have := Kd.R_lt hR'.out q he.symm; omega))); clear hh hch hh' hRd' hcell')
            | (at_builtin; refine Kd.R_append_rows (Kd.int .u8) (w0 := w5) w2.heap.size rfl (.tmp 35) (.tmp 39) 22 5 (.int .u8 0) 1 rfl Try.underlying22 info5 rfl (by decide) (by omega) (.slice Av F.length cv) F lj _ _ _ (fun _ => True) (fun _ => False) rfl rfl hR5.out hC5.out (fun _ _ h => h) (fun _ h => h.elim) (fun _ _ => trivial) (Below.refl _ _) hsz5.out (by omega) ?_; rw [← hXe.out]; intro v7 w7 hR7 hb7 hg7 hat7; have hown : some g ≠ (Value.slice Av F.length cv).ownBlock := (fun he => by have := Kd.R_base hR5.out g he.symm; have := hglt.out; omega); have hhg := hh5.out.grown hown hg7; rw [← hXe.out] at hhg; have hh7 := Lib.hid (hhg.mono (apart_after hat7)); have hR7' := Lib.hid hR7; have hb7' := Lib.hid (hb5.out.trans (hb7.mono hb1'.out)); have hsz7 := Lib.hid (Nat.le_trans hsz5.out hb7.size); obtain ⟨A7, c7, rfl⟩ := Kd.R_slice hR7; have hC7 := Lib.hid (Kd.R_reads' hR7).2.2; have hc7 := Lib.hid (Kd.R_reads' hR7).2.1; clear hR7 hb7 hg7 hat7 hown hhg hR5 hh5 hsz5 hb5 hC5 hcell5)
            | (go_at_call 23; refine (hsum1.out _ hh7.out.of).mono ?_; clear hsum1; rintro e w8 ⟨v8, rfl, hR, hb⟩; obtain ⟨ga, ca, hv8, hga, -, cells8, hc8⟩ := Kd.R_form hR (by rw [hsl'.out]; decide); subst hv8; have hR8 := Lib.hid hR; have hga8 := Lib.hid hga; have hb8 := Lib.hid hb; rw [hsl'.out]; clear hR hb hga hc8)
            | (go_at_call 18; refine (href'.out _ _ _ (Kd.C_below hC7.out hb8.out) hc7.out).mono ?_; rintro e w9 ⟨v9, rfl, hR, hb⟩; obtain ⟨A9, c9, rfl, hc9, hC⟩ := R_32 hR hsl'.out; have K9 := Lib.hid hC; have hR9 := Lib.hid (Kd.R_below hR8.out hb); have hb9 := Lib.hid (below_step hb8.out hb); clear hR hC hb hR8 hb8)
            | (go_at_call 16; refine (hS1.out _ _ _ _ _ (by have q := (Kd.R_reads' hR9.out).2.2; rw [hsl'.out] at q; exact q) (by have q := (Kd.R_reads' hR9.out).2.1; rw [hsl'.out] at q; exact q) K9.out hc9).mono ?_; clear hS1; rintro e w10 ⟨rfl, hd⟩; have hb := hd.below; have hR10 := Lib.hid (Kd.R_below hR9.out hb); have hb10 := Lib.hid (below_step hb9.out hb); clear hd hb hR9 hb9 K9)
            | (go_at_call 23; refine (hsum2.out _ (hh7.out.of.below hb10.out)).mono ?_; rintro e w11 ⟨v11, rfl, hR, hb⟩; obtain ⟨A11, c11, rfl, hc11, hC⟩ := R_32 hR hsl'.out; have K11 := Lib.hid hC; have hR11 := Lib.hid (Kd.R_below hR10.out hb); have hb11 := Lib.hid (below_step hb10.out hb); clear hR hC hb hR10 hb10)
            | (go_at_call 16; refine (hS2.out _ _ _ _ _ K11.out hc11 (by have q := (Kd.R_reads' hR11.out).2.2; rw [hsl'.out] at q; exact q) (by have q := (Kd.R_reads' hR11.out).2.1; rw [hsl'.out] at q; exact q)).mono ?_; rintro e w12 ⟨rfl, hd⟩; have hb := hd.below; have hR12 := Lib.hid (Kd.R_below hR11.out hb); have hb12 := Lib.hid (below_step hb11.out hb); clear hd hb hR11 hb11 K11)
            | (go_at_call 24; refine (len_of w12 g X (hh7.out.of.below hb12.out)).mono ?_; rintro e w13 ⟨rfl, hd⟩; have hb := hd.below; have hR13 := Lib.hid (Kd.R_below hR12.out hb); have hb13 := Lib.hid (below_step hb12.out hb); obtain ⟨hx0, hf0⟩ := Kd.R_cell 0 hR13.out 0 (Int.le_refl _) (by rw [hsl'.out]; decide); rw [Int.toNat_zero] at hx0 hf0; clear hd hb hR12 hb12 hR13))
          go_roundw
          case rel =>
            have hB := hb13.out.setCell (p := ⟨ga, 0, none⟩) hga8.out (.int .u8 (Go.bits .xor .u8 (rdOf 0 D 0) 255))
            have hXl2 := hXl'.out
            refine ⟨k + 1, by omega, by omega, by go_num, ?_, ?_, ?_, hb7'.out.trans (hB.mono hb7'.out.size), Nat.le_trans hsz7.out hB.size⟩
            · rw [hft'.out, ← hXe.out]; omega
            · rw [hft'.out, ← hXe.out]; exact hh7.out.below hB
            · rw [hft'.out, ← hXe.out]; exact Kd.R_below hR7'.out hB
          case measure => simp [intOf]; omega
      · have hR0 := hR'.out
        obtain rfl : k = 20 := by omega
        go_wp2_with (go_at_call 15; refine (shaAwake_any _).mono ?_; rintro e w3 ⟨rfl, hb⟩; have hb3 := Lib.hid (below_step hb'.out hb); clear hb)
        go_ret
        exact ⟨rfl, hb3.out⟩
    · obtain rfl : k = ls.length := by omega
      go_wp2_with (go_at_call 15; refine (shaAwake_any _).mono ?_; rintro e w3 ⟨rfl, hb⟩; have hb3 := Lib.hid (below_step hb'.out hb); clear hb)
      go_ret
      exact ⟨rfl, hb3.out⟩
end Go.Proofs.Ytoojonapnifjoaa.Own
