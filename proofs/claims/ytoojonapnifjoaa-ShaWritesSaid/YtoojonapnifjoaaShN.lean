/- sha.New, (*sha.Hash).Len, Write, walked. -/
import Derived.Test.YtoojonapnifjoaaShB
namespace Go.Proofs.Ytoojonapnifjoaa.Own
open Go.RowKit Go.Proofs.Ytoojonapnifjoaa.Arr Go.Proofs.Ytoojonapnifjoaa.QB Go.Proofs.YtoojonapnifjoaaW.PrintWords Go.Proofs.YtoojonapnifjoaaW.PrintLast Go.Proofs.YtoojonapnifjoaaW.PrintMore
set_option linter.unusedVariables false
set_option linter.unusedSimpArgs false
attribute [-go_sem] Instr.build
theorem ints_toList (k : IntKind) (l : List Int) : (ints k l).toList = l.map (Value.int k) := by simp [ints]
theorem builtH : Try.prog.built 37 (#[(0, .agg (ints .u32 H0)), (3, .bool true)] : Array (Nat × Value)).toList = some (hcs H0 (.slice none 0 0) 0 true) := by kernel_rfl
set_option maxHeartbeats 2000000 in
set_option maxRecDepth 100000 in
theorem new_any (w : World) : Calls Try.prog 21 #[] w fun e w' => ∃ g, e = .returned (.pointer (some ⟨g, 0, none⟩)) ∧ w.heap.size ≤ g ∧ HashAt w' g H0 none 0 [] 0 true ∧ Below w.heap.size w w' := by
  have hb : ∀ W : World, (Instr.build 37 #[(0, .agg (ints .u32 H0)), (3, .bool true)]).run Try.prog W = .ok (.agg (hcs H0 (.slice none 0 0) 0 true)) W := fun W => run_build W _ _ _ builtH
  have hfirst := first_any
  obtain ⟨T, hT⟩ : ∃ T, T = H0 := ⟨_, rfl⟩
  have hT8 : T.length = 8 := by rw [hT]; rfl
  rw [← hT] at hb hfirst ⊢
  have hfirst' := Lib.hid hfirst
  have hT8' := Lib.hid hT8
  clear hT hT8 hfirst
  go_enter Try.func21, Try.ntmps21
  go_wp2_with (go_at_call 48; refine (hfirst'.out _).mono ?_; rintro e w1 ⟨rfl, hb1⟩)
  refine bodyPost_ret (results_tmp rfl _ _ _) rfl ⟨w1.heap.size, rfl, hb1.size, ⟨hT8'.out, ?_, Rd.nil _ _ _, Nat.zero_le _⟩, hb1.alloc hb1.size _⟩
  exact heap_at _ _ _ rfl
theorem len_any (w : World) (g : Nat) (st : List Int) (A : Option Addr) (c : Nat) (l : List Int) (n : Int) (bg : Bool) (h : HashAt w g st A c l n bg) :
    Calls Try.prog 24 #[.pointer (some ⟨g, 0, none⟩)] w fun e w' => e = .returned (.int .i64 n) ∧ Drawn0 w w' := by
  have hc9 := hcell9 h.st8 h.obj
  clear h
  go_enter Try.func24, Try.ntmps24
  go_wp2
  go_ret
  exact ⟨rfl, Drawn0.refl _⟩
theorem len_nil (w : World) : Calls Try.prog 24 #[.pointer none] w fun e w' => e = .returned (.int .i64 0) ∧ Drawn0 w w' := by
  go_enter Try.func24, Try.ntmps24
  go_wp2
  go_ret
  exact ⟨rfl, Drawn0.refl _⟩
set_option maxHeartbeats 4000000 in
set_option maxRecDepth 100000 in
theorem write_true (w : World) (g : Nat) (S0 : List Int) (A : Option Addr) (c : Nat) (l : List Int) (n : Int) (h : HashAt w g S0 A c l n true) (B : Option Addr) (cb : Nat) (m : List Int) (hm : Rd w g B m)
    (hlen : l.length + m.length ≤ 70368744177664) (hn0 : 0 ≤ n) (hn1 : n + (m.length : Int) ≤ 4611686018427387904) :
    Calls Try.prog 22 #[.pointer (some ⟨g, 0, none⟩), .slice B m.length cb] w fun e w' => e = .returned (.tuple #[]) ∧ ∃ A' c', HashAt w' g (absorb ((l ++ m).length / 64) S0 (l ++ m)) A' c' ((l ++ m).drop (64 * ((l ++ m).length / 64))) (n + m.length) true ∧ Chg g w w' := by
  have hc10 := hcell10 h.st8 h.obj
  have hat := h
  obtain ⟨S, hS⟩ : ∃ S, S = S0 := ⟨_, rfl⟩
  rw [← hS] at hat ⊢
  clear h hS
  go_enter Try.func22, Try.ntmps22
  have hm' := Lib.hid hm
  have hs8' := Lib.hid hat.st8
  have hcut := cut_full A l.length c hat.cap
  have hcapi : ((l.length : Int) ≤ (c : Int)) = True := eq_true (by have := hat.cap; omega)
  have hat' := Lib.hid hat
  have hlen' := Lib.hid hlen
  clear hm hat hlen
  go_wp2_with fail
  refine start_ (n := 21) (S := fun w' => w'.heap[g]? = some (hobj S (.slice A l.length c) n true)) (ds := [20]) #[false, false, false, false, false, false, false, false, false, false, false, false, false, false, false, false, false, false, false, false, false] (by kernel_rfl) rfl rfl (by exact hat'.out.obj) (fun hHeld => ?_)
  refine pure_ (i := 0) (N := some 18) (v := ?_) (a' := ?_) #[true, false, false, false, false, false, false, false, false, false, false, false, false, false, false, false, false, false, false, false, false] rfl rfl (by kernel_rfl) (fun _ _ _ h => h) (Or.inl ⟨by rfl, ?_⟩) ?_ ?_
  rotate_left
  · intro w'
    go_simp
    with_reducible rfl
  rotate_left
  · simp only [Act.put, List.setIfInBounds_toArray, List.set_cons_zero, List.set_cons_succ, i64_w, i32_w]
    rfl
  refine pure_ (i := 1) (N := some 19) (v := ?_) (a' := ?_) #[true, true, false, false, false, false, false, false, false, false, false, false, false, false, false, false, false, false, false, false, false] rfl rfl (by kernel_rfl) (fun _ _ _ h => h) (Or.inl ⟨by rfl, ?_⟩) ?_ ?_
  rotate_left
  · intro w'
    go_simp
    with_reducible rfl
  rotate_left
  · simp only [Act.put, List.setIfInBounds_toArray, List.set_cons_zero, List.set_cons_succ, i64_w, i32_w]
    rfl
  refine pure_ (i := 2) (N := some 20) (v := ?_) (a' := ?_) #[true, true, true, false, false, false, false, false, false, false, false, false, false, false, false, false, false, false, false, false, false] rfl rfl (by kernel_rfl) (fun _ _ _ h => h) (Or.inl ⟨by rfl, ?_⟩) ?_ ?_
  rotate_left
  · intro w'
    go_simp
    with_reducible rfl
  rotate_left
  · simp only [Act.put, List.setIfInBounds_toArray, List.set_cons_zero, List.set_cons_succ, i64_w, i32_w]
    rfl
  refine pure_ (i := 3) (N := some 21) (v := ?_) (a' := ?_) #[true, true, true, true, false, false, false, false, false, false, false, false, false, false, false, false, false, false, false, false, false] rfl rfl (by kernel_rfl) (fun _ _ _ h => h) (Or.inl ⟨by rfl, ?_⟩) ?_ ?_
  rotate_left
  · intro w'
    go_simp
    with_reducible rfl
  rotate_left
  · simp only [Act.put, List.setIfInBounds_toArray, List.set_cons_zero, List.set_cons_succ, i64_w, i32_w]
    rfl
  refine take_ (i := 4) (N := some 22) (v := ?_) (a' := ?_) #[true, true, true, true, true, false, false, false, false, false, false, false, false, false, false, false, false, false, false, false, false] rfl rfl (by kernel_rfl) (fun _ _ _ h => h) (Or.inl ⟨by rfl, ?_⟩) hHeld ?_ ?_
  rotate_left
  · intro w' hS
    have hq := hcell8 hs8'.out hS
    go_simp
    with_reducible rfl
  rotate_left
  · simp only [Act.put, List.setIfInBounds_toArray, List.set_cons_zero, List.set_cons_succ, i64_w, i32_w]
    rfl
  refine pure_ (i := 5) (N := some 23) (v := ?_) (a' := ?_) #[true, true, true, true, true, true, false, false, false, false, false, false, false, false, false, false, false, false, false, false, false] rfl rfl (by kernel_rfl) (fun _ _ _ h => h) (Or.inl ⟨by rfl, ?_⟩) ?_ ?_
  rotate_left
  · intro w'
    go_simp
    with_reducible rfl
  rotate_left
  · simp only [Act.put, List.setIfInBounds_toArray, List.set_cons_zero, List.set_cons_succ, i64_w, i32_w]
    rfl
  refine pure_ (i := 6) (N := some 24) (v := ?_) (a' := ?_) #[true, true, true, true, true, true, true, false, false, false, false, false, false, false, false, false, false, false, false, false, false] rfl rfl (by kernel_rfl) (fun _ _ _ h => h) (Or.inl ⟨by rfl, ?_⟩) ?_ ?_
  rotate_left
  · intro w'
    go_simp
    with_reducible rfl
  rotate_left
  · simp only [Act.put, List.setIfInBounds_toArray, List.set_cons_zero, List.set_cons_succ, i64_w, i32_w]
    rfl
  refine pure_ (i := 7) (N := some 25) (v := ?_) (a' := ?_) #[true, true, true, true, true, true, true, true, false, false, false, false, false, false, false, false, false, false, false, false, false] rfl rfl (by kernel_rfl) (fun _ _ _ h => h) (Or.inl ⟨by rfl, ?_⟩) ?_ ?_
  rotate_left
  · intro w'
    go_simp
    with_reducible rfl
  rotate_left
  · simp only [Act.put, List.setIfInBounds_toArray, List.set_cons_zero, List.set_cons_succ, i64_w, i32_w]
    rfl
  refine take_ (i := 8) (N := some 26) (v := ?_) (a' := ?_) #[true, true, true, true, true, true, true, true, true, false, false, false, false, false, false, false, false, false, false, false, false] rfl rfl (by kernel_rfl) (fun _ _ _ h => h) (Or.inl ⟨by rfl, ?_⟩) hHeld ?_ ?_
  rotate_left
  · intro w' hS
    have hq := hcell8 hs8'.out hS
    go_simp
    with_reducible rfl
  rotate_left
  · simp only [Act.put, List.setIfInBounds_toArray, List.set_cons_zero, List.set_cons_succ, i64_w, i32_w]
    rfl
  refine pure_ (i := 9) (N := some 27) (v := ?_) (a' := ?_) #[true, true, true, true, true, true, true, true, true, true, false, false, false, false, false, false, false, false, false, false, false] rfl rfl (by kernel_rfl) (fun _ _ _ h => h) (Or.inl ⟨by rfl, ?_⟩) ?_ ?_
  rotate_left
  · intro w'
    go_simp
    with_reducible rfl
  rotate_left
  · simp only [Act.put, List.setIfInBounds_toArray, List.set_cons_zero, List.set_cons_succ, i64_w, i32_w]
    rfl
  refine pure_ (i := 10) (N := some 28) (v := ?_) (a' := ?_) #[true, true, true, true, true, true, true, true, true, true, true, false, false, false, false, false, false, false, false, false, false] rfl rfl (by kernel_rfl) (fun _ _ _ h => h) (Or.inl ⟨by rfl, ?_⟩) ?_ ?_
  rotate_left
  · intro w'
    go_simp
    with_reducible rfl
  rotate_left
  · simp only [Act.put, List.setIfInBounds_toArray, List.set_cons_zero, List.set_cons_succ, i64_w, i32_w]
    rfl
  refine pure_ (i := 11) (N := some 29) (v := ?_) (a' := ?_) #[true, true, true, true, true, true, true, true, true, true, true, true, false, false, false, false, false, false, false, false, false] rfl rfl (by kernel_rfl) (fun _ _ _ h => h) (Or.inl ⟨by rfl, ?_⟩) ?_ ?_
  rotate_left
  · intro w'
    go_simp
    with_reducible rfl
  rotate_left
  · simp only [Act.put, List.setIfInBounds_toArray, List.set_cons_zero, List.set_cons_succ, i64_w, i32_w]
    rfl
  refine pure_ (i := 12) (N := some 30) (v := ?_) (a' := ?_) #[true, true, true, true, true, true, true, true, true, true, true, true, true, false, false, false, false, false, false, false, false] rfl rfl (by kernel_rfl) (fun _ _ _ h => h) (Or.inl ⟨by rfl, ?_⟩) ?_ ?_
  rotate_left
  · intro w'
    go_simp
    with_reducible rfl
  rotate_left
  · simp only [Act.put, List.setIfInBounds_toArray, List.set_cons_zero, List.set_cons_succ, i64_w, i32_w]
    rfl
  refine take_ (i := 13) (N := some 31) (v := ?_) (a' := ?_) #[true, true, true, true, true, true, true, true, true, true, true, true, true, true, false, false, false, false, false, false, false] rfl rfl (by kernel_rfl) (fun _ _ _ h => h) (Or.inl ⟨by rfl, ?_⟩) hHeld ?_ ?_
  rotate_left
  · intro w' hS
    have hq := hcell8 hs8'.out hS
    go_simp
    with_reducible rfl
  rotate_left
  · simp only [Act.put, List.setIfInBounds_toArray, List.set_cons_zero, List.set_cons_succ, i64_w, i32_w]
    rfl
  refine pure_ (i := 14) (N := some 32) (v := ?_) (a' := ?_) #[true, true, true, true, true, true, true, true, true, true, true, true, true, true, true, false, false, false, false, false, false] rfl rfl (by kernel_rfl) (fun _ _ _ h => h) (Or.inl ⟨by rfl, ?_⟩) ?_ ?_
  rotate_left
  · intro w'
    go_simp
    with_reducible rfl
  rotate_left
  · simp only [Act.put, List.setIfInBounds_toArray, List.set_cons_zero, List.set_cons_succ, i64_w, i32_w]
    rfl
  refine pure_ (i := 15) (N := some 33) (v := ?_) (a' := ?_) #[true, true, true, true, true, true, true, true, true, true, true, true, true, true, true, true, false, false, false, false, false] rfl rfl (by kernel_rfl) (fun _ _ _ h => h) (Or.inl ⟨by rfl, ?_⟩) ?_ ?_
  rotate_left
  · intro w'
    go_simp
    with_reducible rfl
  rotate_left
  · simp only [Act.put, List.setIfInBounds_toArray, List.set_cons_zero, List.set_cons_succ, i64_w, i32_w]
    rfl
  refine pure_ (i := 16) (N := some 34) (v := ?_) (a' := ?_) #[true, true, true, true, true, true, true, true, true, true, true, true, true, true, true, true, true, false, false, false, false] rfl rfl (by kernel_rfl) (fun _ _ _ h => h) (Or.inl ⟨by rfl, ?_⟩) ?_ ?_
  rotate_left
  · intro w'
    go_simp
    with_reducible rfl
  rotate_left
  · simp only [Act.put, List.setIfInBounds_toArray, List.set_cons_zero, List.set_cons_succ, i64_w, i32_w]
    rfl
  refine one_ (i := 17) (N := some 35) #[true, true, true, true, true, true, true, true, true, true, true, true, true, true, true, true, true, true, false, false, false] rfl rfl (by kernel_rfl) (by decide) (fun K hK => ?_)
  obtain ⟨A1, c1, w1, hrun, hC1, hc1, hb1, hA1⟩ := append_full (w := w.drew) (cb := cb) 22 (hat'.out.rd.keep (Chg.refl g w).drew).toC (hm'.out.keep (Chg.refl g w).drew).toC hlen'.out
  refine value_ (w1 := w1) (v := .slice A1 (l ++ m).length c1) (by rfl) rfl (exec_append _ (.tmp 33) (.tmp 34) 22 22 (by rfl) (.slice A l.length l.length) (.slice B m.length cb) (by rfl) (by rfl) (by exact hrun)) ?_
  refine hK.out _ _ (heap_below hHeld hb1) (fun hHeld => ?_)
  clear hK K
  refine norm_ (a' := ?_) ?_ ?_
  rotate_left
  · show Act.put _ (some 35) _ = _
    simp only [Act.put, List.setIfInBounds_toArray, List.set_cons_zero, List.set_cons_succ, i64_w, i32_w]
    rfl
  refine pure_ (i := 18) (N := some 36) (v := ?_) (a' := ?_) #[true, true, true, true, true, true, true, true, true, true, true, true, true, true, true, true, true, true, true, false, false] rfl rfl (by kernel_rfl) (fun _ _ _ h => h) (Or.inl ⟨by rfl, ?_⟩) ?_ ?_
  rotate_left
  · intro w'
    go_simp
    with_reducible rfl
  rotate_left
  · simp only [Act.put, List.setIfInBounds_toArray, List.set_cons_zero, List.set_cons_succ, i64_w, i32_w]
    rfl
  refine pure_ (i := 19) (N := some 37) (v := ?_) (a' := ?_) #[true, true, true, true, true, true, true, true, true, true, true, true, true, true, true, true, true, true, true, true, false] rfl rfl (by kernel_rfl) (fun _ _ _ h => h) (Or.inl ⟨by rfl, ?_⟩) ?_ ?_
  rotate_left
  · intro w'
    go_simp
    with_reducible rfl
  rotate_left
  · simp only [Act.put, List.setIfInBounds_toArray, List.set_cons_zero, List.set_cons_succ, i64_w, i32_w]
    rfl
  refine last_ (i := 20) (N := none) #[true, true, true, true, true, true, true, true, true, true, true, true, true, true, true, true, true, true, true, true, true] rfl rfl (by kernel_rfl) (by decide) (fun K hK => ?_)
  have hq := hcell8 hs8'.out hHeld
  have hf := hfree hHeld 8
  refine skip_ (w1 := w1.setCell ⟨g, 8, none⟩ (.slice A1 (l ++ m).length c1)) (by rfl) rfl (by go_simp; done) ?_
  refine hK.out _ _ ?_
  have hR1 : Rd w1 g A1 (l ++ m) := by
    rcases hA1 with ⟨rfl, rfl⟩ | rfl
    · rw [List.append_nil]; exact hat'.out.rd.keep ((Chg.refl g w).drew.trans (Chg.of_below hb1))
    · exact Rd.ofC hC1 (fun ad e => by obtain rfl := Option.some.inj e; exact Nat.ne_of_gt (lt_of_heap hat'.out.obj))
  have hobj2 := hset8 hs8'.out hHeld (.slice A1 (l ++ m).length c1)
  have hchg2 : Chg g w (w1.setCell ⟨g, 8, none⟩ (.slice A1 (l ++ m).length c1)) := ((Chg.refl g w).drew.trans (Chg.of_below hb1)).setCell _ _
  have hR2 : Rd (w1.setCell ⟨g, 8, none⟩ (.slice A1 (l ++ m).length c1)) g A1 (l ++ m) := hR1.keep ((Chg.refl g w1).setCell _ _)
  obtain ⟨w2, hw2⟩ : ∃ w2, w2 = w1.setCell ⟨g, 8, none⟩ (.slice A1 (l ++ m).length c1) := ⟨_, rfl⟩
  rw [← hw2] at hobj2 hchg2 hR2 ⊢
  clear hK K
  refine done_ (by kernel_rfl) ?_
  clear hw2 hHeld hq hf hrun hR1 hA1 hb1 hcut hcapi
  have hd9 := hcell9 hs8'.out hobj2
  have hf9 := hfree hobj2 9
  have hwr : IntKind.i64.wrap (n + (m.length : Int)) = n + m.length := by rw [IntKind.wrap_i64]; omega
  obtain ⟨L, hL⟩ : ∃ L, L = l ++ m := ⟨_, rfl⟩
  rw [← hL] at hobj2 hR2 hc1
  have hat3 : HashAt (w2.setCell ⟨g, 9, none⟩ (.int .i64 (n + m.length))) g S A1 c1 L (n + m.length) true := ⟨hs8'.out, hset9 hs8'.out hobj2 _, hR2.keep ((Chg.refl g w2).setCell _ _), hc1⟩
  have hat3' := Lib.hid hat3
  have hL' := Lib.hid hL
  have hchg2' := Lib.hid hchg2
  clear hobj2 hR2 hc1 hC1 hat3 hL hchg2
  go_wp2_with (go_at_call 49; refine (blocks_any _ g S A1 c1 L _ true hat3'.out).mono ?_; rintro e w4 ⟨rfl, A4, c4, hat4, hchg4⟩)
  go_end0
  exact ⟨rfl, A4, c4, by rw [← hL'.out]; exact hat4, (hchg2'.out.setCell _ _).trans hchg4⟩
set_option maxHeartbeats 4000000 in
set_option maxRecDepth 100000 in
theorem write_false (w : World) (g : Nat) (S0 : List Int) (A : Option Addr) (c : Nat) (l : List Int) (n : Int) (h : HashAt w g S0 A c l n false) (B : Option Addr) (cb : Nat) (m : List Int) (hm : Rd w g B m)
    (hlen : l.length + m.length ≤ 70368744177664) (hn0 : 0 ≤ n) (hn1 : n + (m.length : Int) ≤ 4611686018427387904) :
    Calls Try.prog 22 #[.pointer (some ⟨g, 0, none⟩), .slice B m.length cb] w fun e w' => e = .returned (.tuple #[]) ∧ ∃ A' c', HashAt w' g (absorb ((l ++ m).length / 64) H0 (l ++ m)) A' c' ((l ++ m).drop (64 * ((l ++ m).length / 64))) (n + m.length) true ∧ Chg g w w' := by
  have hc10 := hcell10 h.st8 h.obj
  have hfirst := first_any
  obtain ⟨S, hS⟩ : ∃ S, S = H0 := ⟨_, rfl⟩
  have hS8 : S.length = 8 := by rw [hS]; rfl
  rw [← hS] at hfirst ⊢
  have hfirst' := Lib.hid hfirst
  have hS8' := Lib.hid hS8
  have h' := Lib.hid h
  have hm'' := Lib.hid hm
  clear hS hS8 hfirst h hm
  go_enter Try.func22, Try.ntmps22
  go_wp2_with (first | (go_at_call 48; refine (hfirst'.out _).mono ?_; rintro e w0 ⟨rfl, hb0⟩; have hob0 := heap_below h'.out.obj hb0) | (with_reducible refine wpList_store_mid rfl 35 _ _ rfl g 0 (ints .u32 S) rfl rfl (there8 h'.out.st8 hob0 hS8'.out) (sz8 hS8'.out) (ints_one _ _) ?_; generalize hw5 : w0.setCells g 0 (ints .u32 S).toList = w5; have hob5 : w5.heap[g]? = some (hobj S (.slice A l.length c) n false) := (by rw [← hw5, ints_toList]; exact hsetS h'.out.st8 hob0 S hS8'.out); have hch5 : Chg g w w5 := (by rw [← hw5]; exact (Chg.of_below (g := g) hb0).setCells (w := w) 0 _); have hd10 := hcell10 hS8'.out hob5; have hf10 := hfree hob5 10; have hob5' := Lib.hid hob5; have hch5' := Lib.hid hch5; clear hob5 hch5 hw5 hc10))
  have hat : HashAt (w5.setCell ⟨g, 10, none⟩ (.bool true)) g S A c l n true := ⟨hS8'.out, hset10 hS8'.out hob5'.out true, h'.out.rd.keep (hch5'.out.setCell _ _), h'.out.cap⟩
  have hm := hm''.out.keep (hch5'.out.setCell (g := g) 10 (.bool true))
  have hchg6 := Lib.hid (hch5'.out.setCell (g := g) 10 (.bool true))
  obtain ⟨w6, hw6⟩ : ∃ w6, w6 = w5.setCell ⟨g, 10, none⟩ (.bool true) := ⟨_, rfl⟩
  rw [← hw6] at hat hm hchg6 ⊢
  clear hd10 hf10 hob5' hch5' hw6 h' hm'' hb0
  have hm' := Lib.hid hm
  have hs8' := Lib.hid hat.st8
  have hcut := cut_full A l.length c hat.cap
  have hcapi : ((l.length : Int) ≤ (c : Int)) = True := eq_true (by have := hat.cap; omega)
  have hat' := Lib.hid hat
  have hlen' := Lib.hid hlen
  clear hm hat hlen
  go_wp2_with fail
  refine start_ (n := 21) (S := fun w' => w'.heap[g]? = some (hobj S (.slice A l.length c) n true)) (ds := [20]) #[false, false, false, false, false, false, false, false, false, false, false, false, false, false, false, false, false, false, false, false, false] (by kernel_rfl) rfl rfl (by exact hat'.out.obj) (fun hHeld => ?_)
  refine pure_ (i := 0) (N := some 18) (v := ?_) (a' := ?_) #[true, false, false, false, false, false, false, false, false, false, false, false, false, false, false, false, false, false, false, false, false] rfl rfl (by kernel_rfl) (fun _ _ _ h => h) (Or.inl ⟨by rfl, ?_⟩) ?_ ?_
  rotate_left
  · intro w'
    go_simp
    with_reducible rfl
  rotate_left
  · simp only [Act.put, List.setIfInBounds_toArray, List.set_cons_zero, List.set_cons_succ, i64_w, i32_w]
    rfl
  refine pure_ (i := 1) (N := some 19) (v := ?_) (a' := ?_) #[true, true, false, false, false, false, false, false, false, false, false, false, false, false, false, false, false, false, false, false, false] rfl rfl (by kernel_rfl) (fun _ _ _ h => h) (Or.inl ⟨by rfl, ?_⟩) ?_ ?_
  rotate_left
  · intro w'
    go_simp
    with_reducible rfl
  rotate_left
  · simp only [Act.put, List.setIfInBounds_toArray, List.set_cons_zero, List.set_cons_succ, i64_w, i32_w]
    rfl
  refine pure_ (i := 2) (N := some 20) (v := ?_) (a' := ?_) #[true, true, true, false, false, false, false, false, false, false, false, false, false, false, false, false, false, false, false, false, false] rfl rfl (by kernel_rfl) (fun _ _ _ h => h) (Or.inl ⟨by rfl, ?_⟩) ?_ ?_
  rotate_left
  · intro w'
    go_simp
    with_reducible rfl
  rotate_left
  · simp only [Act.put, List.setIfInBounds_toArray, List.set_cons_zero, List.set_cons_succ, i64_w, i32_w]
    rfl
  refine pure_ (i := 3) (N := some 21) (v := ?_) (a' := ?_) #[true, true, true, true, false, false, false, false, false, false, false, false, false, false, false, false, false, false, false, false, false] rfl rfl (by kernel_rfl) (fun _ _ _ h => h) (Or.inl ⟨by rfl, ?_⟩) ?_ ?_
  rotate_left
  · intro w'
    go_simp
    with_reducible rfl
  rotate_left
  · simp only [Act.put, List.setIfInBounds_toArray, List.set_cons_zero, List.set_cons_succ, i64_w, i32_w]
    rfl
  refine take_ (i := 4) (N := some 22) (v := ?_) (a' := ?_) #[true, true, true, true, true, false, false, false, false, false, false, false, false, false, false, false, false, false, false, false, false] rfl rfl (by kernel_rfl) (fun _ _ _ h => h) (Or.inl ⟨by rfl, ?_⟩) hHeld ?_ ?_
  rotate_left
  · intro w' hS
    have hq := hcell8 hs8'.out hS
    go_simp
    with_reducible rfl
  rotate_left
  · simp only [Act.put, List.setIfInBounds_toArray, List.set_cons_zero, List.set_cons_succ, i64_w, i32_w]
    rfl
  refine pure_ (i := 5) (N := some 23) (v := ?_) (a' := ?_) #[true, true, true, true, true, true, false, false, false, false, false, false, false, false, false, false, false, false, false, false, false] rfl rfl (by kernel_rfl) (fun _ _ _ h => h) (Or.inl ⟨by rfl, ?_⟩) ?_ ?_
  rotate_left
  · intro w'
    go_simp
    with_reducible rfl
  rotate_left
  · simp only [Act.put, List.setIfInBounds_toArray, List.set_cons_zero, List.set_cons_succ, i64_w, i32_w]
    rfl
  refine pure_ (i := 6) (N := some 24) (v := ?_) (a' := ?_) #[true, true, true, true, true, true, true, false, false, false, false, false, false, false, false, false, false, false, false, false, false] rfl rfl (by kernel_rfl) (fun _ _ _ h => h) (Or.inl ⟨by rfl, ?_⟩) ?_ ?_
  rotate_left
  · intro w'
    go_simp
    with_reducible rfl
  rotate_left
  · simp only [Act.put, List.setIfInBounds_toArray, List.set_cons_zero, List.set_cons_succ, i64_w, i32_w]
    rfl
  refine pure_ (i := 7) (N := some 25) (v := ?_) (a' := ?_) #[true, true, true, true, true, true, true, true, false, false, false, false, false, false, false, false, false, false, false, false, false] rfl rfl (by kernel_rfl) (fun _ _ _ h => h) (Or.inl ⟨by rfl, ?_⟩) ?_ ?_
  rotate_left
  · intro w'
    go_simp
    with_reducible rfl
  rotate_left
  · simp only [Act.put, List.setIfInBounds_toArray, List.set_cons_zero, List.set_cons_succ, i64_w, i32_w]
    rfl
  refine take_ (i := 8) (N := some 26) (v := ?_) (a' := ?_) #[true, true, true, true, true, true, true, true, true, false, false, false, false, false, false, false, false, false, false, false, false] rfl rfl (by kernel_rfl) (fun _ _ _ h => h) (Or.inl ⟨by rfl, ?_⟩) hHeld ?_ ?_
  rotate_left
  · intro w' hS
    have hq := hcell8 hs8'.out hS
    go_simp
    with_reducible rfl
  rotate_left
  · simp only [Act.put, List.setIfInBounds_toArray, List.set_cons_zero, List.set_cons_succ, i64_w, i32_w]
    rfl
  refine pure_ (i := 9) (N := some 27) (v := ?_) (a' := ?_) #[true, true, true, true, true, true, true, true, true, true, false, false, false, false, false, false, false, false, false, false, false] rfl rfl (by kernel_rfl) (fun _ _ _ h => h) (Or.inl ⟨by rfl, ?_⟩) ?_ ?_
  rotate_left
  · intro w'
    go_simp
    with_reducible rfl
  rotate_left
  · simp only [Act.put, List.setIfInBounds_toArray, List.set_cons_zero, List.set_cons_succ, i64_w, i32_w]
    rfl
  refine pure_ (i := 10) (N := some 28) (v := ?_) (a' := ?_) #[true, true, true, true, true, true, true, true, true, true, true, false, false, false, false, false, false, false, false, false, false] rfl rfl (by kernel_rfl) (fun _ _ _ h => h) (Or.inl ⟨by rfl, ?_⟩) ?_ ?_
  rotate_left
  · intro w'
    go_simp
    with_reducible rfl
  rotate_left
  · simp only [Act.put, List.setIfInBounds_toArray, List.set_cons_zero, List.set_cons_succ, i64_w, i32_w]
    rfl
  refine pure_ (i := 11) (N := some 29) (v := ?_) (a' := ?_) #[true, true, true, true, true, true, true, true, true, true, true, true, false, false, false, false, false, false, false, false, false] rfl rfl (by kernel_rfl) (fun _ _ _ h => h) (Or.inl ⟨by rfl, ?_⟩) ?_ ?_
  rotate_left
  · intro w'
    go_simp
    with_reducible rfl
  rotate_left
  · simp only [Act.put, List.setIfInBounds_toArray, List.set_cons_zero, List.set_cons_succ, i64_w, i32_w]
    rfl
  refine pure_ (i := 12) (N := some 30) (v := ?_) (a' := ?_) #[true, true, true, true, true, true, true, true, true, true, true, true, true, false, false, false, false, false, false, false, false] rfl rfl (by kernel_rfl) (fun _ _ _ h => h) (Or.inl ⟨by rfl, ?_⟩) ?_ ?_
  rotate_left
  · intro w'
    go_simp
    with_reducible rfl
  rotate_left
  · simp only [Act.put, List.setIfInBounds_toArray, List.set_cons_zero, List.set_cons_succ, i64_w, i32_w]
    rfl
  refine take_ (i := 13) (N := some 31) (v := ?_) (a' := ?_) #[true, true, true, true, true, true, true, true, true, true, true, true, true, true, false, false, false, false, false, false, false] rfl rfl (by kernel_rfl) (fun _ _ _ h => h) (Or.inl ⟨by rfl, ?_⟩) hHeld ?_ ?_
  rotate_left
  · intro w' hS
    have hq := hcell8 hs8'.out hS
    go_simp
    with_reducible rfl
  rotate_left
  · simp only [Act.put, List.setIfInBounds_toArray, List.set_cons_zero, List.set_cons_succ, i64_w, i32_w]
    rfl
  refine pure_ (i := 14) (N := some 32) (v := ?_) (a' := ?_) #[true, true, true, true, true, true, true, true, true, true, true, true, true, true, true, false, false, false, false, false, false] rfl rfl (by kernel_rfl) (fun _ _ _ h => h) (Or.inl ⟨by rfl, ?_⟩) ?_ ?_
  rotate_left
  · intro w'
    go_simp
    with_reducible rfl
  rotate_left
  · simp only [Act.put, List.setIfInBounds_toArray, List.set_cons_zero, List.set_cons_succ, i64_w, i32_w]
    rfl
  refine pure_ (i := 15) (N := some 33) (v := ?_) (a' := ?_) #[true, true, true, true, true, true, true, true, true, true, true, true, true, true, true, true, false, false, false, false, false] rfl rfl (by kernel_rfl) (fun _ _ _ h => h) (Or.inl ⟨by rfl, ?_⟩) ?_ ?_
  rotate_left
  · intro w'
    go_simp
    with_reducible rfl
  rotate_left
  · simp only [Act.put, List.setIfInBounds_toArray, List.set_cons_zero, List.set_cons_succ, i64_w, i32_w]
    rfl
  refine pure_ (i := 16) (N := some 34) (v := ?_) (a' := ?_) #[true, true, true, true, true, true, true, true, true, true, true, true, true, true, true, true, true, false, false, false, false] rfl rfl (by kernel_rfl) (fun _ _ _ h => h) (Or.inl ⟨by rfl, ?_⟩) ?_ ?_
  rotate_left
  · intro w'
    go_simp
    with_reducible rfl
  rotate_left
  · simp only [Act.put, List.setIfInBounds_toArray, List.set_cons_zero, List.set_cons_succ, i64_w, i32_w]
    rfl
  refine one_ (i := 17) (N := some 35) #[true, true, true, true, true, true, true, true, true, true, true, true, true, true, true, true, true, true, false, false, false] rfl rfl (by kernel_rfl) (by decide) (fun K hK => ?_)
  obtain ⟨A1, c1, w1, hrun, hC1, hc1, hb1, hA1⟩ := append_full (w := w6.drew) (cb := cb) 22 (hat'.out.rd.keep (Chg.refl g w6).drew).toC (hm'.out.keep (Chg.refl g w6).drew).toC hlen'.out
  refine value_ (w1 := w1) (v := .slice A1 (l ++ m).length c1) (by rfl) rfl (exec_append _ (.tmp 33) (.tmp 34) 22 22 (by rfl) (.slice A l.length l.length) (.slice B m.length cb) (by rfl) (by rfl) (by exact hrun)) ?_
  refine hK.out _ _ (heap_below hHeld hb1) (fun hHeld => ?_)
  clear hK K
  refine norm_ (a' := ?_) ?_ ?_
  rotate_left
  · show Act.put _ (some 35) _ = _
    simp only [Act.put, List.setIfInBounds_toArray, List.set_cons_zero, List.set_cons_succ, i64_w, i32_w]
    rfl
  refine pure_ (i := 18) (N := some 36) (v := ?_) (a' := ?_) #[true, true, true, true, true, true, true, true, true, true, true, true, true, true, true, true, true, true, true, false, false] rfl rfl (by kernel_rfl) (fun _ _ _ h => h) (Or.inl ⟨by rfl, ?_⟩) ?_ ?_
  rotate_left
  · intro w'
    go_simp
    with_reducible rfl
  rotate_left
  · simp only [Act.put, List.setIfInBounds_toArray, List.set_cons_zero, List.set_cons_succ, i64_w, i32_w]
    rfl
  refine pure_ (i := 19) (N := some 37) (v := ?_) (a' := ?_) #[true, true, true, true, true, true, true, true, true, true, true, true, true, true, true, true, true, true, true, true, false] rfl rfl (by kernel_rfl) (fun _ _ _ h => h) (Or.inl ⟨by rfl, ?_⟩) ?_ ?_
  rotate_left
  · intro w'
    go_simp
    with_reducible rfl
  rotate_left
  · simp only [Act.put, List.setIfInBounds_toArray, List.set_cons_zero, List.set_cons_succ, i64_w, i32_w]
    rfl
  refine last_ (i := 20) (N := none) #[true, true, true, true, true, true, true, true, true, true, true, true, true, true, true, true, true, true, true, true, true] rfl rfl (by kernel_rfl) (by decide) (fun K hK => ?_)
  have hq := hcell8 hs8'.out hHeld
  have hf := hfree hHeld 8
  refine skip_ (w1 := w1.setCell ⟨g, 8, none⟩ (.slice A1 (l ++ m).length c1)) (by rfl) rfl (by go_simp; done) ?_
  refine hK.out _ _ ?_
  have hR1 : Rd w1 g A1 (l ++ m) := by
    rcases hA1 with ⟨rfl, rfl⟩ | rfl
    · rw [List.append_nil]; exact hat'.out.rd.keep ((Chg.refl g w6).drew.trans (Chg.of_below hb1))
    · exact Rd.ofC hC1 (fun ad e => by obtain rfl := Option.some.inj e; exact Nat.ne_of_gt (lt_of_heap hat'.out.obj))
  have hobj2 := hset8 hs8'.out hHeld (.slice A1 (l ++ m).length c1)
  have hchg2 : Chg g w6 (w1.setCell ⟨g, 8, none⟩ (.slice A1 (l ++ m).length c1)) := ((Chg.refl g w6).drew.trans (Chg.of_below hb1)).setCell _ _
  have hR2 : Rd (w1.setCell ⟨g, 8, none⟩ (.slice A1 (l ++ m).length c1)) g A1 (l ++ m) := hR1.keep ((Chg.refl g w1).setCell _ _)
  obtain ⟨w2, hw2⟩ : ∃ w2, w2 = w1.setCell ⟨g, 8, none⟩ (.slice A1 (l ++ m).length c1) := ⟨_, rfl⟩
  rw [← hw2] at hobj2 hchg2 hR2 ⊢
  clear hK K
  refine done_ (by kernel_rfl) ?_
  clear hw2 hHeld hq hf hrun hR1 hA1 hb1 hcut hcapi
  have hd9 := hcell9 hs8'.out hobj2
  have hf9 := hfree hobj2 9
  have hwr : IntKind.i64.wrap (n + (m.length : Int)) = n + m.length := by rw [IntKind.wrap_i64]; omega
  obtain ⟨L, hL⟩ : ∃ L, L = l ++ m := ⟨_, rfl⟩
  rw [← hL] at hobj2 hR2 hc1
  have hat3 : HashAt (w2.setCell ⟨g, 9, none⟩ (.int .i64 (n + m.length))) g S A1 c1 L (n + m.length) true := ⟨hs8'.out, hset9 hs8'.out hobj2 _, hR2.keep ((Chg.refl g w2).setCell _ _), hc1⟩
  have hat3' := Lib.hid hat3
  have hL' := Lib.hid hL
  have hchg2' := Lib.hid hchg2
  clear hobj2 hR2 hc1 hC1 hat3 hL hchg2
  go_wp2_with (go_at_call 49; refine (blocks_any _ g S A1 c1 L _ true hat3'.out).mono ?_; rintro e w4 ⟨rfl, A4, c4, hat4, hchg4⟩)
  go_end0
  exact ⟨rfl, A4, c4, by rw [← hL'.out]; exact hat4, hchg6.out.trans ((hchg2'.out.setCell _ _).trans hchg4)⟩
theorem write_nil (w : World) (v : Value) : Calls Try.prog 22 #[.pointer none, v] w fun e w' => e = .returned (.tuple #[]) ∧ Drawn0 w w' := by
  go_enter Try.func22, Try.ntmps22
  go_wp2
  refine bodyPost_ret (results_none rfl _ _ _) rfl ?_
  exact ⟨rfl, Drawn0.refl _⟩
end Go.Proofs.Ytoojonapnifjoaa.Own
