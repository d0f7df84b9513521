/- blocks and Write once more, with where the rest lies; what was appended elsewhere stays apart. -/
import Derived.Test.YtoojonapnifjoaaLwParts
namespace Go.Proofs.Ytoojonapnifjoaa.Own
open Go.RowKit Go.Proofs.Ytoojonapnifjoaa.Arr Go.Proofs.Ytoojonapnifjoaa.QB Go.Proofs.YtoojonapnifjoaaW.PrintWords Go.Proofs.YtoojonapnifjoaaW.PrintLast Go.Proofs.YtoojonapnifjoaaW.PrintMore
set_option linter.unusedVariables false
set_option linter.unusedSimpArgs false
attribute [-go_sem] Instr.build
/-- In the same block. -/
def From (A A' : Option Addr) : Prop := ∀ ad', A' = some ad' → ∃ ad, A = some ad ∧ ad.block = ad'.block
theorem From.refl (A : Option Addr) : From A A := fun ad h => ⟨ad, h, rfl⟩
theorem From.map {A A' : Option Addr} (h : From A A') : From A (Option.map (fun x => { block := x.block, off := x.off + 64 }) A') := fun ad' e => by
  cases A' with
  | none => simp at e
  | some a =>
    obtain ⟨ad, h1, h2⟩ := h a rfl
    exact ⟨ad, h1, by rw [h2, ← Option.some.inj e]⟩
theorem From.trans {A A' A'' : Option Addr} (h : From A A') (k : From A' A'') : From A A'' := fun ad e => by
  obtain ⟨ad1, h1, h2⟩ := k ad e
  obtain ⟨ad0, h3, h4⟩ := h ad1 h1
  exact ⟨ad0, h3, h4.trans h2⟩
theorem from_then {m : List Int} {base : Nat} {A A' A'' : Option Addr} (h : m = [] ∧ From A A' ∨ ∀ ad', A' = some ad' → base ≤ ad'.block) (k : From A' A'') : m = [] ∧ From A A'' ∨ ∀ ad', A'' = some ad' → base ≤ ad'.block := by
  rcases h with ⟨e, h⟩ | h
  · exact .inl ⟨e, h.trans k⟩
  · refine .inr fun ad e => ?_
    obtain ⟨ad1, h1, h2⟩ := k ad e
    have := h ad1 h1
    omega
set_option maxHeartbeats 4000000 in
set_option maxRecDepth 100000 in
theorem blocks_in (w : World) (g : Nat) (st : List Int) (A : Option Addr) (c : Nat) (l : List Int) (n : Int) (bg : Bool) (h : HashAt w g st A c l n bg) :
    Calls Try.prog 49 #[.pointer (some ⟨g, 0, none⟩)] w fun e w' => e = .returned (.tuple #[]) ∧ ∃ A' c', HashAt w' g (absorb (l.length / 64) st l) A' c' (l.drop (64 * (l.length / 64))) n bg ∧ Chg g w w' ∧ From A A' := by
  have hh := Lib.hid h
  clear h
  go_enter Try.func49, Try.ntmps49
  go_wp2_with fail
  go_loopg [2] (l.length / 64) (fun k _ wr => ∃ m A' c', m + k = l.length / 64 ∧ HashAt wr g (absorb m st l) A' c' (l.drop (64 * m)) n bg ∧ Chg g w wr ∧ From A A')
  case atStart => exact ⟨0, A, c, by omega, hh.out, Chg.refl _ _, From.refl A⟩
  case round =>
    obtain ⟨m, A', c', hm, hat, hchg, hfr⟩ := hrel
    have hfr' := Lib.hid hfr
    clear hfr
    obtain ⟨S, hS⟩ : ∃ S, S = absorb m st l := ⟨_, rfl⟩
    obtain ⟨L, hL⟩ : ∃ L, L = l.drop (64 * m) := ⟨_, rfl⟩
    rw [← hS, ← hL] at hat
    have hLl : L.length = l.length - 64 * m := by rw [hL, List.length_drop]
    have hs8 := hat.st8
    have hc8 := hcell8 hs8 hat.obj
    by_cases h64 : 64 ≤ L.length
    · have hsucc : absorb (m + 1) st l = compL S (L.take 64) := by rw [absorb_succ, hS, hL]
      have hdrop : l.drop (64 * (m + 1)) = L.drop 64 := by rw [hL, List.drop_drop, show 64 * m + 64 = 64 * (m + 1) from by omega]
      have h64i : ((64 : Int) ≤ (L.length : Int)) = True := eq_true (by omega)
      have hcap : 64 ≤ c' := by have := hat.cap; omega
      have hcapi : ((64 : Int) ≤ (c' : Int)) = True := eq_true (by omega)
      have hcut := cut_to A' L.length c' 64 hcap
      have hcut2 := cut_from A' L.length c' 64 h64
      have hl64 : (L.take 64).length = 64 := by rw [List.length_take]; omega
      have hcomp := fun w1 (hb : Kd.C (Kd.int .u8) w1 A' 64 (L.take 64)) => compress_any S hs8 A' c' (L.take 64) w1 hb hl64 hcap
      obtain ⟨T, hT⟩ : ∃ T, T = compL S (L.take 64) := ⟨_, rfl⟩
      rw [← hT] at hcomp hsucc
      have hT8 : T.length = 8 := by rw [hT]; exact compL_length _ _ hs8
      have hrdC : Kd.C (Kd.int .u8) wr A' 64 (L.take 64) := by have := (hat.rd.take 64).toC; rwa [hl64] at this
      have hcomp' := Lib.hid hcomp
      have hat' := Lib.hid hat
      have hs8' := Lib.hid hs8
      have hsucc' := Lib.hid hsucc
      have hdrop' := Lib.hid hdrop
      have hT8' := Lib.hid hT8
      have hrdC' := Lib.hid hrdC
      have hchg' := Lib.hid hchg
      have hm' := Lib.hid hm
      have hgk1 : Hid (1 ≤ gk) := Lib.hid (by omega)
      clear hS hL hT hcomp hat hs8 hsucc hdrop hT8 hrdC hchg hLl hm hl64 h64 hcap hh
      go_wp2_with fail
      refine start_ (n := 14) (S := fun w' => w'.heap[g]? = some (hobj S (.slice A' L.length c') n bg)) (ds := [13]) #[false, false, false, false, false, false, false, false, false, false, false, false, false, false] (by kernel_rfl) rfl rfl (by exact hat'.out.obj) (fun hHeld => ?_)
      refine pure_ (i := 0) (N := some 8) (v := ?_) (a' := ?_) #[true, false, false, false, false, false, false, false, false, false, false, false, false, false] rfl rfl (by kernel_rfl) (fun _ _ _ h => h) (Or.inl ⟨by rfl, ?_⟩) ?_ ?_
      rotate_left
      · intro w'
        go_simp
        with_reducible rfl
      rotate_left
      · simp only [Act.put, List.setIfInBounds_toArray, List.set_cons_zero, List.set_cons_succ, i64_w, i32_w]
        rfl
      refine pure_ (i := 1) (N := some 9) (v := ?_) (a' := ?_) #[true, true, false, false, false, false, false, false, false, false, false, false, false, false] rfl rfl (by kernel_rfl) (fun _ _ _ h => h) (Or.inl ⟨by rfl, ?_⟩) ?_ ?_
      rotate_left
      · intro w'
        go_simp
        with_reducible rfl
      rotate_left
      · simp only [Act.put, List.setIfInBounds_toArray, List.set_cons_zero, List.set_cons_succ, i64_w, i32_w]
        rfl
      refine pure_ (i := 2) (N := some 10) (v := ?_) (a' := ?_) #[true, true, true, false, false, false, false, false, false, false, false, false, false, false] rfl rfl (by kernel_rfl) (fun _ _ _ h => h) (Or.inl ⟨by rfl, ?_⟩) ?_ ?_
      rotate_left
      · intro w'
        go_simp
        with_reducible rfl
      rotate_left
      · simp only [Act.put, List.setIfInBounds_toArray, List.set_cons_zero, List.set_cons_succ, i64_w, i32_w]
        rfl
      refine pure_ (i := 3) (N := some 11) (v := ?_) (a' := ?_) #[true, true, true, true, false, false, false, false, false, false, false, false, false, false] rfl rfl (by kernel_rfl) (fun _ _ _ h => h) (Or.inl ⟨by rfl, ?_⟩) ?_ ?_
      rotate_left
      · intro w'
        go_simp
        with_reducible rfl
      rotate_left
      · simp only [Act.put, List.setIfInBounds_toArray, List.set_cons_zero, List.set_cons_succ, i64_w, i32_w]
        rfl
      refine take_ (i := 4) (N := some 12) (v := ?_) (a' := ?_) #[true, true, true, true, true, false, false, false, false, false, false, false, false, false] rfl rfl (by kernel_rfl) (fun _ _ _ h => h) (Or.inl ⟨by rfl, ?_⟩) hHeld ?_ ?_
      rotate_left
      · intro w' hS
        refine (exec_load_mid w' 35 _ (by rfl) g 0 (by rfl) (S.map (Value.int .u32)) _ (hrange hs8'.out hS) Try.underlying35 rfl (by rw [List.length_map, hs8'.out, size8])).trans ?_; show Result.ok (Next.value (Value.agg (ints .u32 S))) w' = _; with_reducible rfl
      rotate_left
      · simp only [Act.put, List.setIfInBounds_toArray, List.set_cons_zero, List.set_cons_succ, i64_w, i32_w]
        rfl
      refine pure_ (i := 5) (N := some 13) (v := ?_) (a' := ?_) #[true, true, true, true, true, true, false, false, false, false, false, false, false, false] rfl rfl (by kernel_rfl) (fun _ _ _ h => h) (Or.inl ⟨by rfl, ?_⟩) ?_ ?_
      rotate_left
      · intro w'
        go_simp
        with_reducible rfl
      rotate_left
      · simp only [Act.put, List.setIfInBounds_toArray, List.set_cons_zero, List.set_cons_succ, i64_w, i32_w]
        rfl
      refine pure_ (i := 6) (N := some 14) (v := ?_) (a' := ?_) #[true, true, true, true, true, true, true, false, false, false, false, false, false, false] rfl rfl (by kernel_rfl) (fun _ _ _ h => h) (Or.inl ⟨by rfl, ?_⟩) ?_ ?_
      rotate_left
      · intro w'
        go_simp
        with_reducible rfl
      rotate_left
      · simp only [Act.put, List.setIfInBounds_toArray, List.set_cons_zero, List.set_cons_succ, i64_w, i32_w]
        rfl
      refine pure_ (i := 7) (N := some 15) (v := ?_) (a' := ?_) #[true, true, true, true, true, true, true, true, false, false, false, false, false, false] rfl rfl (by kernel_rfl) (fun _ _ _ h => h) (Or.inl ⟨by rfl, ?_⟩) ?_ ?_
      rotate_left
      · intro w'
        go_simp
        with_reducible rfl
      rotate_left
      · simp only [Act.put, List.setIfInBounds_toArray, List.set_cons_zero, List.set_cons_succ, i64_w, i32_w]
        rfl
      refine take_ (i := 8) (N := some 16) (v := ?_) (a' := ?_) #[true, true, true, true, true, true, true, true, true, false, false, false, false, false] rfl rfl (by kernel_rfl) (fun _ _ _ h => h) (Or.inl ⟨by rfl, ?_⟩) hHeld ?_ ?_
      rotate_left
      · intro w' hS
        have hq := hcell8 hs8'.out hS
        go_simp
        with_reducible rfl
      rotate_left
      · simp only [Act.put, List.setIfInBounds_toArray, List.set_cons_zero, List.set_cons_succ, i64_w, i32_w]
        rfl
      refine pure_ (i := 9) (N := some 17) (v := ?_) (a' := ?_) #[true, true, true, true, true, true, true, true, true, true, false, false, false, false] rfl rfl (by kernel_rfl) (fun _ _ _ h => h) (Or.inl ⟨by rfl, ?_⟩) ?_ ?_
      rotate_left
      · intro w'
        go_simp
        with_reducible rfl
      rotate_left
      · simp only [Act.put, List.setIfInBounds_toArray, List.set_cons_zero, List.set_cons_succ, i64_w, i32_w]
        rfl
      refine one_ (i := 10) (N := some 18) #[true, true, true, true, true, true, true, true, true, true, true, false, false, false] rfl rfl (by kernel_rfl) (by decide) (fun K hK => ?_)
      refine goes_ Try.func51 (by kernel_rfl) rfl #[.agg (ints .u32 S), .slice A' 64 c'] (by rfl) rfl rfl (by simp only [List.map_toArray, List.map_cons, List.map_nil]; rfl) ?_
      refine (hcomp'.out _ (Kd.C_below hrdC'.out (below_drew (Below.refl _ _)))).mono ?_
      rintro e w1 ⟨rfl, hb1⟩
      refine ⟨_, rfl, ?_⟩
      refine hK.out _ _ (heap_below hHeld hb1) (fun hHeld => ?_)
      clear hK K
      refine norm_ (a' := ?_) ?_ ?_
      rotate_left
      · show Act.put _ (some 18) _ = _
        simp only [Act.put, List.setIfInBounds_toArray, List.set_cons_zero, List.set_cons_succ, i64_w, i32_w]
        rfl
      refine pure_ (i := 11) (N := some 19) (v := ?_) (a' := ?_) #[true, true, true, true, true, true, true, true, true, true, true, true, false, false] rfl rfl (by kernel_rfl) (fun _ _ _ h => h) (Or.inl ⟨by rfl, ?_⟩) ?_ ?_
      rotate_left
      · intro w'
        go_simp
        with_reducible rfl
      rotate_left
      · simp only [Act.put, List.setIfInBounds_toArray, List.set_cons_zero, List.set_cons_succ, i64_w, i32_w]
        rfl
      refine pure_ (i := 12) (N := some 20) (v := ?_) (a' := ?_) #[true, true, true, true, true, true, true, true, true, true, true, true, true, false] rfl rfl (by kernel_rfl) (fun _ _ _ h => h) (Or.inl ⟨by rfl, ?_⟩) ?_ ?_
      rotate_left
      · intro w'
        go_simp
        with_reducible rfl
      rotate_left
      · simp only [Act.put, List.setIfInBounds_toArray, List.set_cons_zero, List.set_cons_succ, i64_w, i32_w]
        rfl
      refine last_ (i := 13) (N := none) #[true, true, true, true, true, true, true, true, true, true, true, true, true, true] rfl rfl (by kernel_rfl) (by decide) (fun K hK => ?_)
      refine skip_ (w1 := w1.setCells g 0 (T.map (Value.int .u32))) (by rfl) rfl ?_ ?_
      · exact exec_store_mid w1 35 _ _ (by rfl) g 0 (ints .u32 T) (by rfl) (by rfl) (there8 hs8'.out hHeld hT8'.out) (sz8 hT8'.out) (ints_one _ _)
      refine hK.out _ _ ?_
      have hobj2 := hsetS hs8'.out hHeld T hT8'.out
      have hchg2 : Chg g wr (w1.setCells g 0 (T.map (Value.int .u32))) := ((Chg.refl g wr).drew.trans (Chg.of_below hb1)).setCells _ _
      obtain ⟨w2, hw2⟩ : ∃ w2, w2 = w1.setCells g 0 (T.map (Value.int .u32)) := ⟨_, rfl⟩
      rw [← hw2] at hobj2 hchg2 ⊢
      clear hK K
      refine done_ (by kernel_rfl) ?_
      clear hw2 hHeld
      have hd8 := hcell8 hT8'.out hobj2
      have hf8 := hfree hobj2 8
      have hobj2' := Lib.hid hobj2
      have hchg2' := Lib.hid hchg2
      clear hobj2 hchg2 hb1 hc8 hcut
      have hLlen' := Lib.hid hat'.out.cap
      go_wp2
      · go_roundg (gk - 1)
        case measure => have := hgk1.out; omega
        case rel =>
          refine ⟨m + 1, A', 0, by have := hm'.out; have := hgk1.out; omega, ?_, (hchg'.out.trans hchg2'.out).setCell _ _, hfr'.out⟩
          rw [hsucc'.out, hdrop'.out]
          refine ⟨hT8'.out, ?_, ((hat'.out.rd.keep hchg2'.out).keep ((Chg.refl g w2).setCell 8 _)).drop' 64 (fun b o _ h => absurd h (by have := hLlen'.out; omega)), by rw [List.length_drop]; have := hLlen'.out; omega⟩
          rw [List.length_drop, hset8 hT8'.out hobj2'.out]
      · go_roundg (gk - 1)
        case measure => have := hgk1.out; omega
        case rel =>
          refine ⟨m + 1, Option.map (fun x => { block := x.block, off := x.off + 64 }) A', c' - 64, by have := hm'.out; have := hgk1.out; omega, ?_, (hchg'.out.trans hchg2'.out).setCell _ _, hfr'.out.map⟩
          rw [hsucc'.out, hdrop'.out]
          refine ⟨hT8'.out, ?_, ((hat'.out.rd.keep hchg2'.out).keep ((Chg.refl g w2).setCell 8 _)).drop' 64 (fun b o h _ => by subst h; rfl), by rw [List.length_drop]; have := hLlen'.out; omega⟩
          rw [List.length_drop, hset8 hT8'.out hobj2'.out]
    · have h64i : ((64 : Int) ≤ (L.length : Int)) = False := eq_false (by omega)
      have hgk : m = l.length / 64 := by omega
      have hat' := Lib.hid hat
      have hchg' := Lib.hid hchg
      have hgk' := Lib.hid hgk
      have hS' := Lib.hid hS
      have hL' := Lib.hid hL
      clear hS hL hat hs8 hchg hLl hm hgk h64 hh
      go_wp2
      go_end0
      refine ⟨rfl, A', c', ?_, hchg'.out, hfr'.out⟩
      rw [← hgk'.out, ← hS'.out, ← hL'.out]
      exact hat'.out
set_option maxHeartbeats 4000000 in
set_option maxRecDepth 100000 in
theorem write_in (w : World) (g : Nat) (S0 : List Int) (A : Option Addr) (c : Nat) (l : List Int) (n : Int) (h : HashAt w g S0 A c l n true) (B : Option Addr) (cb : Nat) (m : List Int) (hm : Rd w g B m)
    (hlen : l.length + m.length ≤ 70368744177664) (hn0 : 0 ≤ n) (hn1 : n + (m.length : Int) ≤ 4611686018427387904) :
    Calls Try.prog 22 #[.pointer (some ⟨g, 0, none⟩), .slice B m.length cb] w fun e w' => e = .returned (.tuple #[]) ∧ ∃ A' c', HashAt w' g (absorb ((l ++ m).length / 64) S0 (l ++ m)) A' c' ((l ++ m).drop (64 * ((l ++ m).length / 64))) (n + m.length) true ∧ Chg g w w' ∧ (m = [] ∧ From A A' ∨ ∀ ad', A' = some ad' → w.heap.size ≤ ad'.block) := by
  have hc10 := hcell10 h.st8 h.obj
  have hat := h
  obtain ⟨S, hS⟩ : ∃ S, S = S0 := ⟨_, rfl⟩
  rw [← hS] at hat ⊢
  clear h hS
  go_enter Try.func22, Try.ntmps22
  have hm' := Lib.hid hm
  have hs8' := Lib.hid hat.st8
  have hcut := cut_full A l.length c hat.cap
  have hcapi : ((l.length : Int) ≤ (c : Int)) = True := eq_true (by have := hat.cap; omega)
  have hat' := Lib.hid hat
  have hlen' := Lib.hid hlen
  clear hm hat hlen
  go_wp2_with fail
  refine start_ (n := 21) (S := fun w' => w'.heap[g]? = some (hobj S (.slice A l.length c) n true)) (ds := [20]) #[false, false, false, false, false, false, false, false, false, false, false, false, false, false, false, false, false, false, false, false, false] (by kernel_rfl) rfl rfl (by exact hat'.out.obj) (fun hHeld => ?_)
  refine pure_ (i := 0) (N := some 18) (v := ?_) (a' := ?_) #[true, false, false, false, false, false, false, false, false, false, false, false, false, false, false, false, false, false, false, false, false] rfl rfl (by kernel_rfl) (fun _ _ _ h => h) (Or.inl ⟨by rfl, ?_⟩) ?_ ?_
  rotate_left
  · intro w'
    go_simp
    with_reducible rfl
  rotate_left
  · simp only [Act.put, List.setIfInBounds_toArray, List.set_cons_zero, List.set_cons_succ, i64_w, i32_w]
    rfl
  refine pure_ (i := 1) (N := some 19) (v := ?_) (a' := ?_) #[true, true, false, false, false, false, false, false, false, false, false, false, false, false, false, false, false, false, false, false, false] rfl rfl (by kernel_rfl) (fun _ _ _ h => h) (Or.inl ⟨by rfl, ?_⟩) ?_ ?_
  rotate_left
  · intro w'
    go_simp
    with_reducible rfl
  rotate_left
  · simp only [Act.put, List.setIfInBounds_toArray, List.set_cons_zero, List.set_cons_succ, i64_w, i32_w]
    rfl
  refine pure_ (i := 2) (N := some 20) (v := ?_) (a' := ?_) #[true, true, true, false, false, false, false, false, false, false, false, false, false, false, false, false, false, false, false, false, false] rfl rfl (by kernel_rfl) (fun _ _ _ h => h) (Or.inl ⟨by rfl, ?_⟩) ?_ ?_
  rotate_left
  · intro w'
    go_simp
    with_reducible rfl
  rotate_left
  · simp only [Act.put, List.setIfInBounds_toArray, List.set_cons_zero, List.set_cons_succ, i64_w, i32_w]
    rfl
  refine pure_ (i := 3) (N := some 21) (v := ?_) (a' := ?_) #[true, true, true, true, false, false, false, false, false, false, false, false, false, false, false, false, false, false, false, false, false] rfl rfl (by kernel_rfl) (fun _ _ _ h => h) (Or.inl ⟨by rfl, ?_⟩) ?_ ?_
  rotate_left
  · intro w'
    go_simp
    with_reducible rfl
  rotate_left
  · simp only [Act.put, List.setIfInBounds_toArray, List.set_cons_zero, List.set_cons_succ, i64_w, i32_w]
    rfl
  refine take_ (i := 4) (N := some 22) (v := ?_) (a' := ?_) #[true, true, true, true, true, false, false, false, false, false, false, false, false, false, false, false, false, false, false, false, false] rfl rfl (by kernel_rfl) (fun _ _ _ h => h) (Or.inl ⟨by rfl, ?_⟩) hHeld ?_ ?_
  rotate_left
  · intro w' hS
    have hq := hcell8 hs8'.out hS
    go_simp
    with_reducible rfl
  rotate_left
  · simp only [Act.put, List.setIfInBounds_toArray, List.set_cons_zero, List.set_cons_succ, i64_w, i32_w]
    rfl
  refine pure_ (i := 5) (N := some 23) (v := ?_) (a' := ?_) #[true, true, true, true, true, true, false, false, false, false, false, false, false, false, false, false, false, false, false, false, false] rfl rfl (by kernel_rfl) (fun _ _ _ h => h) (Or.inl ⟨by rfl, ?_⟩) ?_ ?_
  rotate_left
  · intro w'
    go_simp
    with_reducible rfl
  rotate_left
  · simp only [Act.put, List.setIfInBounds_toArray, List.set_cons_zero, List.set_cons_succ, i64_w, i32_w]
    rfl
  refine pure_ (i := 6) (N := some 24) (v := ?_) (a' := ?_) #[true, true, true, true, true, true, true, false, false, false, false, false, false, false, false, false, false, false, false, false, false] rfl rfl (by kernel_rfl) (fun _ _ _ h => h) (Or.inl ⟨by rfl, ?_⟩) ?_ ?_
  rotate_left
  · intro w'
    go_simp
    with_reducible rfl
  rotate_left
  · simp only [Act.put, List.setIfInBounds_toArray, List.set_cons_zero, List.set_cons_succ, i64_w, i32_w]
    rfl
  refine pure_ (i := 7) (N := some 25) (v := ?_) (a' := ?_) #[true, true, true, true, true, true, true, true, false, false, false, false, false, false, false, false, false, false, false, false, false] rfl rfl (by kernel_rfl) (fun _ _ _ h => h) (Or.inl ⟨by rfl, ?_⟩) ?_ ?_
  rotate_left
  · intro w'
    go_simp
    with_reducible rfl
  rotate_left
  · simp only [Act.put, List.setIfInBounds_toArray, List.set_cons_zero, List.set_cons_succ, i64_w, i32_w]
    rfl
  refine take_ (i := 8) (N := some 26) (v := ?_) (a' := ?_) #[true, true, true, true, true, true, true, true, true, false, false, false, false, false, false, false, false, false, false, false, false] rfl rfl (by kernel_rfl) (fun _ _ _ h => h) (Or.inl ⟨by rfl, ?_⟩) hHeld ?_ ?_
  rotate_left
  · intro w' hS
    have hq := hcell8 hs8'.out hS
    go_simp
    with_reducible rfl
  rotate_left
  · simp only [Act.put, List.setIfInBounds_toArray, List.set_cons_zero, List.set_cons_succ, i64_w, i32_w]
    rfl
  refine pure_ (i := 9) (N := some 27) (v := ?_) (a' := ?_) #[true, true, true, true, true, true, true, true, true, true, false, false, false, false, false, false, false, false, false, false, false] rfl rfl (by kernel_rfl) (fun _ _ _ h => h) (Or.inl ⟨by rfl, ?_⟩) ?_ ?_
  rotate_left
  · intro w'
    go_simp
    with_reducible rfl
  rotate_left
  · simp only [Act.put, List.setIfInBounds_toArray, List.set_cons_zero, List.set_cons_succ, i64_w, i32_w]
    rfl
  refine pure_ (i := 10) (N := some 28) (v := ?_) (a' := ?_) #[true, true, true, true, true, true, true, true, true, true, true, false, false, false, false, false, false, false, false, false, false] rfl rfl (by kernel_rfl) (fun _ _ _ h => h) (Or.inl ⟨by rfl, ?_⟩) ?_ ?_
  rotate_left
  · intro w'
    go_simp
    with_reducible rfl
  rotate_left
  · simp only [Act.put, List.setIfInBounds_toArray, List.set_cons_zero, List.set_cons_succ, i64_w, i32_w]
    rfl
  refine pure_ (i := 11) (N := some 29) (v := ?_) (a' := ?_) #[true, true, true, true, true, true, true, true, true, true, true, true, false, false, false, false, false, false, false, false, false] rfl rfl (by kernel_rfl) (fun _ _ _ h => h) (Or.inl ⟨by rfl, ?_⟩) ?_ ?_
  rotate_left
  · intro w'
    go_simp
    with_reducible rfl
  rotate_left
  · simp only [Act.put, List.setIfInBounds_toArray, List.set_cons_zero, List.set_cons_succ, i64_w, i32_w]
    rfl
  refine pure_ (i := 12) (N := some 30) (v := ?_) (a' := ?_) #[true, true, true, true, true, true, true, true, true, true, true, true, true, false, false, false, false, false, false, false, false] rfl rfl (by kernel_rfl) (fun _ _ _ h => h) (Or.inl ⟨by rfl, ?_⟩) ?_ ?_
  rotate_left
  · intro w'
    go_simp
    with_reducible rfl
  rotate_left
  · simp only [Act.put, List.setIfInBounds_toArray, List.set_cons_zero, List.set_cons_succ, i64_w, i32_w]
    rfl
  refine take_ (i := 13) (N := some 31) (v := ?_) (a' := ?_) #[true, true, true, true, true, true, true, true, true, true, true, true, true, true, false, false, false, false, false, false, false] rfl rfl (by kernel_rfl) (fun _ _ _ h => h) (Or.inl ⟨by rfl, ?_⟩) hHeld ?_ ?_
  rotate_left
  · intro w' hS
    have hq := hcell8 hs8'.out hS
    go_simp
    with_reducible rfl
  rotate_left
  · simp only [Act.put, List.setIfInBounds_toArray, List.set_cons_zero, List.set_cons_succ, i64_w, i32_w]
    rfl
  refine pure_ (i := 14) (N := some 32) (v := ?_) (a' := ?_) #[true, true, true, true, true, true, true, true, true, true, true, true, true, true, true, false, false, false, false, false, false] rfl rfl (by kernel_rfl) (fun _ _ _ h => h) (Or.inl ⟨by rfl, ?_⟩) ?_ ?_
  rotate_left
  · intro w'
    go_simp
    with_reducible rfl
  rotate_left
  · simp only [Act.put, List.setIfInBounds_toArray, List.set_cons_zero, List.set_cons_succ, i64_w, i32_w]
    rfl
  refine pure_ (i := 15) (N := some 33) (v := ?_) (a' := ?_) #[true, true, true, true, true, true, true, true, true, true, true, true, true, true, true, true, false, false, false, false, false] rfl rfl (by kernel_rfl) (fun _ _ _ h => h) (Or.inl ⟨by rfl, ?_⟩) ?_ ?_
  rotate_left
  · intro w'
    go_simp
    with_reducible rfl
  rotate_left
  · simp only [Act.put, List.setIfInBounds_toArray, List.set_cons_zero, List.set_cons_succ, i64_w, i32_w]
    rfl
  refine pure_ (i := 16) (N := some 34) (v := ?_) (a' := ?_) #[true, true, true, true, true, true, true, true, true, true, true, true, true, true, true, true, true, false, false, false, false] rfl rfl (by kernel_rfl) (fun _ _ _ h => h) (Or.inl ⟨by rfl, ?_⟩) ?_ ?_
  rotate_left
  · intro w'
    go_simp
    with_reducible rfl
  rotate_left
  · simp only [Act.put, List.setIfInBounds_toArray, List.set_cons_zero, List.set_cons_succ, i64_w, i32_w]
    rfl
  refine one_ (i := 17) (N := some 35) #[true, true, true, true, true, true, true, true, true, true, true, true, true, true, true, true, true, true, false, false, false] rfl rfl (by kernel_rfl) (by decide) (fun K hK => ?_)
  obtain ⟨A1, c1, w1, hrun, hC1, hc1, hb1, hA1⟩ := append_full (w := w.drew) (cb := cb) 22 (hat'.out.rd.keep (Chg.refl g w).drew).toC (hm'.out.keep (Chg.refl g w).drew).toC hlen'.out
  refine value_ (w1 := w1) (v := .slice A1 (l ++ m).length c1) (by rfl) rfl (exec_append _ (.tmp 33) (.tmp 34) 22 22 (by rfl) (.slice A l.length l.length) (.slice B m.length cb) (by rfl) (by rfl) (by exact hrun)) ?_
  refine hK.out _ _ (heap_below hHeld hb1) (fun hHeld => ?_)
  clear hK K
  refine norm_ (a' := ?_) ?_ ?_
  rotate_left
  · show Act.put _ (some 35) _ = _
    simp only [Act.put, List.setIfInBounds_toArray, List.set_cons_zero, List.set_cons_succ, i64_w, i32_w]
    rfl
  refine pure_ (i := 18) (N := some 36) (v := ?_) (a' := ?_) #[true, true, true, true, true, true, true, true, true, true, true, true, true, true, true, true, true, true, true, false, false] rfl rfl (by kernel_rfl) (fun _ _ _ h => h) (Or.inl ⟨by rfl, ?_⟩) ?_ ?_
  rotate_left
  · intro w'
    go_simp
    with_reducible rfl
  rotate_left
  · simp only [Act.put, List.setIfInBounds_toArray, List.set_cons_zero, List.set_cons_succ, i64_w, i32_w]
    rfl
  refine pure_ (i := 19) (N := some 37) (v := ?_) (a' := ?_) #[true, true, true, true, true, true, true, true, true, true, true, true, true, true, true, true, true, true, true, true, false] rfl rfl (by kernel_rfl) (fun _ _ _ h => h) (Or.inl ⟨by rfl, ?_⟩) ?_ ?_
  rotate_left
  · intro w'
    go_simp
    with_reducible rfl
  rotate_left
  · simp only [Act.put, List.setIfInBounds_toArray, List.set_cons_zero, List.set_cons_succ, i64_w, i32_w]
    rfl
  refine last_ (i := 20) (N := none) #[true, true, true, true, true, true, true, true, true, true, true, true, true, true, true, true, true, true, true, true, true] rfl rfl (by kernel_rfl) (by decide) (fun K hK => ?_)
  have hq := hcell8 hs8'.out hHeld
  have hf := hfree hHeld 8
  refine skip_ (w1 := w1.setCell ⟨g, 8, none⟩ (.slice A1 (l ++ m).length c1)) (by rfl) rfl (by go_simp; done) ?_
  refine hK.out _ _ ?_
  have hR1 : Rd w1 g A1 (l ++ m) := by
    rcases hA1 with ⟨rfl, rfl⟩ | rfl
    · rw [List.append_nil]; exact hat'.out.rd.keep ((Chg.refl g w).drew.trans (Chg.of_below hb1))
    · exact Rd.ofC hC1 (fun ad e => by obtain rfl := Option.some.inj e; exact Nat.ne_of_gt (lt_of_heap hat'.out.obj))
  have hfo : m = [] ∧ From A A1 ∨ ∀ ad', A1 = some ad' → w.heap.size ≤ ad'.block := by
    rcases hA1 with ⟨rfl, e0⟩ | rfl
    · exact .inl ⟨e0, From.refl _⟩
    · exact .inr fun ad e => by obtain rfl := Option.some.inj e; exact Nat.le_refl _
  have hfo' := Lib.hid hfo
  clear hfo
  have hobj2 := hset8 hs8'.out hHeld (.slice A1 (l ++ m).length c1)
  have hchg2 : Chg g w (w1.setCell ⟨g, 8, none⟩ (.slice A1 (l ++ m).length c1)) := ((Chg.refl g w).drew.trans (Chg.of_below hb1)).setCell _ _
  have hR2 : Rd (w1.setCell ⟨g, 8, none⟩ (.slice A1 (l ++ m).length c1)) g A1 (l ++ m) := hR1.keep ((Chg.refl g w1).setCell _ _)
  obtain ⟨w2, hw2⟩ : ∃ w2, w2 = w1.setCell ⟨g, 8, none⟩ (.slice A1 (l ++ m).length c1) := ⟨_, rfl⟩
  rw [← hw2] at hobj2 hchg2 hR2 ⊢
  clear hK K
  refine done_ (by kernel_rfl) ?_
  clear hw2 hHeld hq hf hrun hR1 hA1 hb1 hcut hcapi
  have hd9 := hcell9 hs8'.out hobj2
  have hf9 := hfree hobj2 9
  have hwr : IntKind.i64.wrap (n + (m.length : Int)) = n + m.length := by rw [IntKind.wrap_i64]; omega
  obtain ⟨L, hL⟩ : ∃ L, L = l ++ m := ⟨_, rfl⟩
  rw [← hL] at hobj2 hR2 hc1
  have hat3 : HashAt (w2.setCell ⟨g, 9, none⟩ (.int .i64 (n + m.length))) g S A1 c1 L (n + m.length) true := ⟨hs8'.out, hset9 hs8'.out hobj2 _, hR2.keep ((Chg.refl g w2).setCell _ _), hc1⟩
  have hat3' := Lib.hid hat3
  have hL' := Lib.hid hL
  have hchg2' := Lib.hid hchg2
  clear hobj2 hR2 hc1 hC1 hat3 hL hchg2
  go_wp2_with (go_at_call 49; refine (blocks_in _ g S A1 c1 L _ true hat3'.out).mono ?_; rintro e w4 ⟨rfl, A4, c4, hat4, hchg4, hfr4⟩)
  go_end0
  exact ⟨rfl, A4, c4, by rw [← hL'.out]; exact hat4, (hchg2'.out.setCell _ _).trans hchg4, from_then hfo'.out hfr4⟩
/-- A hash at g of the bytes L, its rest in a block that is ok. -/
def HashIn (w : World) (g : Nat) (ok : Nat → Prop) (L : List Int) : Prop := ∃ A c, HashAt w g (stL L) A c (restL L) L.length true ∧ (restL L ≠ [] → ∀ ad, A = some ad → ok ad.block)
theorem HashIn.of {w : World} {g : Nat} {ok : Nat → Prop} {L : List Int} (h : HashIn w g ok L) : HashOf w g L := by
  obtain ⟨A, c, h, _⟩ := h; exact ⟨A, c, h⟩
theorem HashIn.mono {w : World} {g : Nat} {ok ok' : Nat → Prop} {L : List Int} (h : HashIn w g ok L) (hk : ∀ k, ok k → ok' k) : HashIn w g ok' L := by
  obtain ⟨A, c, h, ho⟩ := h; exact ⟨A, c, h, fun hr ad e => hk _ (ho hr ad e)⟩
theorem HashIn.below {w w' : World} {g : Nat} {ok : Nat → Prop} {L : List Int} (h : HashIn w g ok L) (hb : Below w.heap.size w w') : HashIn w' g ok L := by
  obtain ⟨A, c, h, ho⟩ := h; exact ⟨A, c, h.below hb, ho⟩
theorem write_inof (w : World) (g : Nat) (ok : Nat → Prop) (L : List Int) (h : HashIn w g ok L) (B : Option Addr) (cb : Nat) (m : List Int) (hm : Rd w g B m) (hlen : L.length + m.length ≤ 70368744177600) :
    Calls Try.prog 22 #[.pointer (some ⟨g, 0, none⟩), .slice B m.length cb] w fun e w' => e = .returned (.tuple #[]) ∧ HashIn w' g (fun k => ok k ∨ w.heap.size ≤ k) (L ++ m) ∧ Chg g w w' := by
  obtain ⟨A, c, h, hok⟩ := h
  refine (write_in w g (stL L) A c (restL L) L.length h B cb m hm (by rw [restL_length]; omega) (by omega) (by omega)).mono ?_
  rintro e w' ⟨h1, A', c', h2, h3, h4⟩
  refine ⟨h1, ⟨A', c', ?_, fun hr ad e => ?_⟩, h3⟩
  · rw [stL_app, restL_app] at h2
    rw [show ((L ++ m).length : Int) = (L.length : Int) + (m.length : Int) from by rw [List.length_append]; omega]
    exact h2
  · rcases h4 with ⟨rfl, h5⟩ | h5
    · obtain ⟨ad0, e0, e1⟩ := h5 ad e
      rw [List.append_nil] at hr
      exact .inl (by rw [← e1]; exact hok hr ad0 e0)
    · exact .inr (h5 ad e)
theorem HashIn.grown {w w' : World} {g : Nat} {L : List Int} {row : Option Nat} (h : HashIn w g (fun k => some k ≠ row) L) (hg : some g ≠ row) (hgr : w.grownBy w' row) : HashIn w' g (fun k => some k ≠ row ∧ k < w.heap.size) L := by
  obtain ⟨A, c, hat, hok⟩ := h
  refine ⟨A, c, ⟨hat.st8, (hgr.block g (lt_of_heap hat.obj) hg).trans hat.obj, ⟨hat.rd.1, fun hl => ?_⟩, hat.cap⟩, fun hr ad e => ?_⟩
  · obtain ⟨b, o, rfl, hb, hrg⟩ := hat.rd.2 hl
    have hne : restL L ≠ [] := fun e => by rw [e] at hl; exact absurd hl (by simp)
    exact ⟨b, o, rfl, hb, range_keep hrg (hgr.block b (Rd.lt (A := none) (g := g) hl hrg) (hok hne _ rfl))⟩
  · have hl : 0 < (restL L).length := List.length_pos_iff.2 hr
    obtain ⟨b, o, rfl, hb, hrg⟩ := hat.rd.2 hl
    obtain rfl := Option.some.inj e
    exact ⟨hok hr _ rfl, Rd.lt (A := none) (g := g) hl hrg⟩
theorem new_in (w : World) (ok : Nat → Prop) : Calls Try.prog 21 #[] w fun e w' => ∃ g, e = .returned (.pointer (some ⟨g, 0, none⟩)) ∧ w.heap.size ≤ g ∧ HashIn w' g ok [] ∧ Below w.heap.size w w' :=
  (new_any w).mono fun e w' ⟨g, h1, h2, h3, h4⟩ => ⟨g, h1, h2, ⟨none, 0, h3, fun _ ad e => by cases e⟩, h4⟩
theorem R_chg {e g base : Nat} {w w1 : World} {v : Value} {xs : List Int} (h : Kd.R (Kd.int .u8) e w base (fun _ => True) v xs) (hc : Chg g w w1) (hg : g < base) : Kd.R (Kd.int .u8) e w1 base (fun _ => True) v xs :=
  Kd.R_mono (Kd.R_move (Kd.R_bound h) (fun k hk => hc.block k hk.2.2.1 (by have := hk.2.1; omega))) (fun _ _ => trivial)
end Go.Proofs.Ytoojonapnifjoaa.Own
