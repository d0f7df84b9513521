/- EvA, pruned (slim.py). -/
import Derived.Test.YtiogdomjmjiahaaZE2
import Derived.Test.YtiogdomjmjiahaaZE31
import Derived.Test.YtiogdomjmjiahaaZE32
import Derived.Deep.MidRow
namespace Go.Proofs.Ytiogdomjmjiahaa.Own
open Go.RowKit Go.Proofs.Ytiogdomjmjiahaa.Arr Go.Proofs.Ytiogdomjmjiahaa.QA Go.Proofs.Ytiogdomjmjiahaa.QB Go.Proofs.Ytiogdomjmjiahaa.QC Go.Proofs.YtiogdomjmjiahaaW.PrintWords Go.Proofs.YtiogdomjmjiahaaW.PrintLast Go.Proofs.YtiogdomjmjiahaaW.PrintMore
set_option linter.unusedVariables false
set_option linter.unusedSimpArgs false
abbrev EvT := Go.Proofs.Ytiogdomjmjiahaa.QE.S94
abbrev evK : Kd EvT := Go.Proofs.Ytiogdomjmjiahaa.QE.k94
def errB (a : Int) : ByteArray := (api_Errno_Error.f a).getD ⟨#[]⟩
def errL (a : Int) : List Int := (errB a).data.toList.map fun b => (b.toNat : Int)
theorem err_ex (a : Int) : ∃ B, api_Errno_Error.f a = some B ∧ B.size ≤ 20 := by
  unfold api_Errno_Error.f
  iterate 20 (refine if h : _ then ⟨_, if_pos h, by decide⟩ else ?_; rw [if_neg h]; clear h)
  exact ⟨_, rfl, by decide⟩
theorem err_eq (a : Int) : api_Errno_Error.f a = some (errB a) ∧ (errB a).size ≤ 20 := by
  obtain ⟨B, h1, h2⟩ := err_ex a
  unfold errB
  rw [h1]
  exact ⟨rfl, h2⟩
theorem bl_eq (s : ByteArray) : strOfNums (s.data.toList.map fun b => (b.toNat : Int)) = s := by
  unfold strOfNums
  apply ByteArray.ext
  rw [List.map_map]
  have : ((fun n : Int => UInt8.ofNat n.toNat) ∘ fun b : UInt8 => (b.toNat : Int)) = id := by funext b; simp
  rw [this, List.map_id]
theorem errL_eq (a : Int) : strOfNums (errL a) = errB a := bl_eq _
theorem errL_byt (a : Int) : ∀ x ∈ errL a, byt x := by
  intro x hx
  unfold errL at hx
  obtain ⟨b, -, rfl⟩ := List.mem_map.1 hx
  have := b.toNat_lt
  exact ⟨by omega, by omega⟩
theorem errL_len (a : Int) : (errL a).length ≤ 20 := by
  have := (err_eq a).2
  unfold errL
  rw [List.length_map]
  exact this
def evHead (x : EvT) : List Int := errL x.f0.f0 ++ [32, 111, 112, 115, 32] ++ numLs x.f1
def evOff (b : Bool) : List Int := if b = true then [] else [32, 111, 102, 102]
def evTail (x : EvT) : List Int := [32, 100, 97, 116, 97, 32] ++ hexW x.f0.f1 ++ [10]
def evL (x : EvT) : List Int := evHead x ++ evOff x.f5 ++ evTail x
def evsL (l : List EvT) : List Int := l.flatMap evL
def evOk (x : EvT) : Prop := x.f0.f1.length ≤ 1000000 ∧ (∀ y ∈ x.f0.f1, byt y) ∧ -9223372036854775808 ≤ x.f1 ∧ x.f1 < 9223372036854775808
theorem evHead_len (x : EvT) : (evHead x).length ≤ 50 := by
  have := errL_len x.f0.f0; have := numLs_len x.f1
  simp only [evHead, List.length_append, List.length_cons, List.length_nil]; omega
theorem evTail_len (x : EvT) : (evTail x).length ≤ 2 * x.f0.f1.length + 10 := by
  have := hexW_len x.f0.f1
  simp only [evTail, List.length_append, List.length_cons, List.length_nil]; omega
theorem evL_len (x : EvT) (h : evOk x) : (evL x).length ≤ 2001000 := by
  have := evHead_len x; have := evTail_len x; have := h.1
  have : (evOff x.f5).length ≤ 4 := by unfold evOff; split <;> simp
  simp only [evL, List.length_append]; omega
theorem evsL_len (l : List EvT) (h : ∀ x ∈ l, evOk x) : (evsL l).length ≤ l.length * 2001000 := by
  induction l with
  | nil => simp [evsL]
  | cons x l ih =>
    have := evL_len x (h x (by simp))
    have := ih (fun y hy => h y (List.mem_cons_of_mem _ hy))
    unfold evsL at this ⊢
    rw [List.flatMap_cons, List.length_append, List.length_cons]
    omega
theorem evsL_succ (l : List EvT) (k : Nat) (h : k < l.length) : evsL (l.take (k + 1)) = evsL (l.take k) ++ evL (l[k]) := by
  unfold evsL
  rw [List.take_succ_eq_append_getElem h, List.flatMap_append]
  simp
theorem evHead_byt (x : EvT) : ∀ y ∈ evHead x, byt y := by
  intro y hy
  unfold evHead at hy
  rcases List.mem_append.1 hy with hy | hy
  · rcases List.mem_append.1 hy with hy | hy
    · exact errL_byt _ _ hy
    · simp at hy; rcases hy with rfl | rfl | rfl | rfl | rfl <;> exact ⟨by omega, by omega⟩
  · exact numLs_byt _ _ hy
theorem evTail_byt (x : EvT) (h : evOk x) : ∀ y ∈ evTail x, byt y := by
  intro y hy
  unfold evTail at hy
  rcases List.mem_append.1 hy with hy | hy
  · rcases List.mem_append.1 hy with hy | hy
    · simp at hy; rcases hy with rfl | rfl | rfl | rfl | rfl | rfl <;> exact ⟨by omega, by omega⟩
    · exact hexW_byt _ h.2.1 _ hy
  · simp at hy; subst hy; exact ⟨by omega, by omega⟩
theorem C_rangeK {α : Type} {d : Kd α} {w : World} {A : Option Addr} {n : Nat} {l : List α} (hs : 0 < d.sz) (h : Kd.C d w A n l) (hn : 0 < n) :
    ∃ b o, A = some ⟨b, o, none⟩ ∧ ∀ k p, l[k]? = some p → ∃ cs, cs.length = d.sz ∧ d.K w p cs ∧ w.rangeAt b (o + k * d.sz) cs := by
  obtain ⟨ad, rfl, hc⟩ := h.2.2 hn
  obtain ⟨b, o, s⟩ := ad
  have hl := h.1
  obtain ⟨c, h1, h2, h3⟩ := hc 0 _ (List.getElem?_eq_getElem (by omega))
  have h0 := h3 0 _ (List.getElem?_eq_getElem (by omega))
  have hs : s = none := by
    cases s with
    | none => rfl
    | some s =>
      simp [Addr.add, World.cell?] at h0
      split at h0 <;> simp at h0
  subst hs
  refine ⟨b, o, rfl, fun k p hk => ?_⟩
  obtain ⟨c, h1, h2, h3⟩ := hc k p hk
  refine ⟨c, h1, h2, fun j v hj => ?_⟩
  have := h3 j v hj
  rw [Addr.add_mid] at this
  rw [Nat.add_assoc]
  exact this
theorem info94 : (Try.prog.info? 94).map (fun i => (i.zero, i.size)) = some (some (.agg #[.int .i64 0, .slice none 0 0, .int .i64 0, .int .u64 0, .int .u64 0, .int .u64 0, .bool false]), 7) := by kernel_rfl
set_option maxHeartbeats 4000000 in
set_option maxRecDepth 100000 in
theorem events_any (A : Option Addr) (c : Nat) (l : List EvT) (w : World) (hC : Kd.C evK w A l.length l) (hc : l.length ≤ c) (hl : l.length ≤ 1000) (hx : ∀ x ∈ l, evOk x) :
    Calls Try.prog 52 #[.slice A l.length c] w fun e w' => e = .returned (.string (strOfNums (evsL l))) ∧ Below w.heap.size w w' := by
  have hC' := Lib.hid hC
  have hx' := Lib.hid hx
  have hl' := Lib.hid hl
  have hm0 : (l.length : Int) ≤ 1000 := by omega
  obtain ⟨hz, -⟩ := zero_of_info (P := Try.prog) info94
  obtain ⟨Z, hZ⟩ : ∃ Z : Array Value, Z = #[.int .i64 0, .slice none 0 0, .int .i64 0, .int .u64 0, .int .u64 0, .int .u64 0, .bool false] := ⟨_, rfl⟩
  rw [← hZ] at hz
  have hZ' := Lib.hid hZ
  clear hC hx hl hZ
  go_enter Try.func52, Try.ntmps52
  go_wp2_with fail
  go_loopw [3, 8] (fun v u wr => ∃ k : Nat, k ≤ l.length ∧ u = .int .i64 k ∧ wr.ownsRow w.heap.size 5 1 v (evsL (l.take k)).length (nums .u8 (evsL (l.take k))) ∧ Below w.heap.size w wr) (fun _ u _ => l.length - (intOf u).toNat)
  case atStart => exact ⟨0, Nat.zero_le _, rfl, World.ownsRow_nil _ _ _ _, Below.refl _ _⟩
  case round =>
    obtain ⟨k, hk, rfl, hown, hbw⟩ := hrel
    obtain ⟨Av, cv, rfl⟩ := own_slice hown
    have hown' := Lib.hid hown
    have hbw' := Lib.hid hbw
    by_cases hlt : k < l.length
    · obtain ⟨b, o, rfl, hr⟩ := C_rangeK (d := evK) (by decide) hC'.out (by omega)
      obtain ⟨x, hxe⟩ : ∃ x, x = l[k] := ⟨_, rfl⟩
      obtain ⟨Ls, hLl, hLK, hrg⟩ := hr k x (by rw [hxe]; exact List.getElem?_eq_getElem hlt)
      have hok := Lib.hid (hx'.out x (by rw [hxe]; exact List.getElem_mem hlt))
      obtain ⟨A1, c1, hLs, hlc, hDC⟩ := Go.Proofs.Ytiogdomjmjiahaa.QE.k94_open hLK
      have hsucc := Lib.hid (evsL_succ l k hlt)
      rw [← hxe] at hsucc
      have hcell := Lib.hid (show ∀ (W : World) (g : Nat), W.heap[g]? = some (.cells Ls.toArray 94 (0, 0)) → W.cell? ⟨g, 0, none⟩ = some (.int .i64 x.f0.f0) ∧ W.cell? ⟨g, 1, none⟩ = some (.slice A1 x.f0.f1.length c1) ∧ W.cell? ⟨g, 2, none⟩ = some (.int .i64 x.f1) ∧ W.cell? ⟨g, 6, none⟩ = some (.bool x.f5) from fun W g h => by rw [hLs] at h; exact ⟨(blk_cell h 0).trans rfl, (blk_cell h 1).trans rfl, (blk_cell h 2).trans rfl, (blk_cell h 6).trans rfl⟩)
      have hone := Lib.hid (show Ls.toArray.all (·.oneCell') = true by rw [hLs]; simp [Value.oneCell'])
      have hzs := Lib.hid (show Z.size = Ls.toArray.size by rw [hZ'.out, hLs]; rfl)
      have hsz := Lib.hid (show (Try.prog.info? 94).map (·.size) = some Ls.length by
        have hi := info94
        cases h : Try.prog.info? 94 with
        | none => rw [h] at hi; simp at hi
        | some i =>
          rw [h] at hi
          simp only [Option.map_some, Option.some.injEq, Prod.mk.injEq] at hi
          rw [hLs]; simp [hi.2])
      have hszA := Lib.hid (show (Try.prog.info? 94).map (·.size) = some Ls.toArray.size from hsz.out)
      have hrg' := Lib.hid (show wr.rangeAt b (o + k * 7) Ls from range_below hrg hbw)
      have hDC' := Lib.hid hDC
      have q1 : (k : Int) < (l.length : Int) := by omega
      have q2 : (0 : Int) ≤ (k : Int) := by omega
      have kw : IntKind.i64.wrap ((k : Int) + 1) = (k : Int) + 1 := by rw [IntKind.wrap_i64]; omega
      have hk1 := Lib.hid (show k + 1 ≤ l.length from hlt)
      have hLlen := Lib.hid (show (evsL (l.take k)).length ≤ 2001000000 by have h1 := evsL_len (l.take k) (fun y hy => hx'.out y (List.mem_of_mem_take hy)); have h2 := hl'.out; rw [List.length_take] at h1; omega)
      obtain ⟨L, hL⟩ : ∃ L, L = evsL (l.take k) := ⟨_, rfl⟩
      rw [← hL] at hown' hsucc hLlen ⊢
      clear hr hLK hLl hLs hrg hDC hxe hown hbw hlt hk hL
      go_wp2_with (first
        | (with_reducible refine wpList_load_mid rfl 94 _ rfl b (o + k * 7) rfl Ls _ hrg'.out Try.underlying94 rfl hsz.out ?_)
        | (with_reducible refine wpList_store_row rfl 94 _ _ rfl wr.heap.size Ls.toArray rfl rfl 94 Z (heap_alloc_last _ _) hszA.out hzs.out hone.out ?_))
      have hk2 := Lib.hid (setRow_heap (wr.alloc (.cells Z 94 (0, 0))) wr.heap.size Z Ls.toArray 94 (0, 0) (heap_alloc_last _ _))
      have hb2 := Lib.hid (show Below w.heap.size w ((wr.alloc (.cells Z 94 (0, 0))).setRow wr.heap.size Ls.toArray) from below_setRow (below_alloc hbw'.out _) hbw'.out.size _)
      have ho2 := Lib.hid (own_move (w1 := ((wr.alloc (.cells Z 94 (0, 0))).setRow wr.heap.size Ls.toArray)) (hown'.out.alloc (.cells Z 94 (0, 0))) (fun j hj => setRow_other _ wr.heap.size j Ls.toArray (Nat.ne_of_lt (hown'.out.lt j hj).2)))
      have hlc' := Lib.hid hlc
      obtain ⟨ge, hge⟩ : ∃ ge, ge = wr.heap.size := ⟨_, rfl⟩
      rw [← hge] at hk2 hb2 ho2 ⊢
      clear hge hown' hbw' hrg' hone hzs hsz hszA hlc
      generalize (wr.alloc (.cells Z 94 (0, 0))).setRow ge Ls.toArray = w2 at *
      obtain ⟨SE, hSE⟩ : ∃ SE, SE = strOfNums (errL x.f0.f0) := ⟨_, rfl⟩
      obtain ⟨SE2, hSE2⟩ : ∃ SE, SE = strOfNums (errL x.f0.f0 ++ [32, 111, 112, 115, 32]) := ⟨_, rfl⟩
      obtain ⟨SN, hSN⟩ : ∃ SE, SE = strOfNums (numLs x.f1) := ⟨_, rfl⟩
      obtain ⟨SH, hSH⟩ : ∃ SE, SE = strOfNums (evHead x) := ⟨_, rfl⟩
      have a1 := Lib.hid (show ∀ W : World, (binOp .add 9 (.string SE) (.string { data := #[32, 111, 112, 115, 32] })).run Try.prog W = .ok (.string SE2) W by rw [hSE, hSE2]; exact fun W => str_add W (errL x.f0.f0) [32, 111, 112, 115, 32] (by have := errL_len x.f0.f0; simp; omega))
      have a2 := Lib.hid (show ∀ W : World, (binOp .add 9 (.string SE2) (.string SN)).run Try.prog W = .ok (.string SH) W by rw [hSE2, hSN, hSH]; exact fun W => str_add W (errL x.f0.f0 ++ [32, 111, 112, 115, 32]) (numLs x.f1) (by have := errL_len x.f0.f0; have := numLs_len x.f1; simp; omega))
      have herr := Lib.hid (fun w1 => api_Errno_Error.calls x.f0.f0 SE w1 (by rw [hSE, errL_eq]; exact (err_eq _).1))
      have hnum := Lib.hid (fun w1 => health_Number.calls 80 x.f1 SN w1 (by rw [hSN]; exact number_eq x.f1 hok.out.2.2.1 hok.out.2.2.2 0))
      have hsrc1 := Lib.hid (show ∀ W : World, Src Try.prog 1 9 (.string SH) (evHead x).length ((evHead x).map (Value.int .u8)) W by rw [hSH]; exact fun W => src_str W (evHead x) (evHead_byt x))
      have hel := Lib.hid (evHead_len x)
      obtain ⟨M1, hM1⟩ : ∃ M1, M1 = evHead x := ⟨_, rfl⟩
      rw [← hM1] at hsrc1 hel
      have hM1' := Lib.hid hM1
      clear hSE hSE2 hSN hSH hM1
      refine start_ (n := 12) (S := fun w' => w'.heap[ge]? = some (.cells Ls.toArray 94 (0, 0))) (ds := []) #[false, false, false, false, false, false, false, false, false, false, false, false] (by kernel_rfl) rfl rfl (by exact hk2.out) (fun hHeld => ?_)
      refine pure_ (i := 0) (N := some 12) (v := ?_) (a' := ?_) #[true, false, false, false, false, false, false, false, false, false, false, false] rfl rfl (by kernel_rfl) (fun _ _ _ h => h) (Or.inl ⟨by rfl, ?_⟩) ?_ ?_
      rotate_left
      · intro w'
        go_simp
        with_reducible rfl
      rotate_left
      · simp only [Act.put, List.setIfInBounds_toArray, List.set_cons_zero, List.set_cons_succ, i64_w, i32_w]
        rfl
      refine pure_ (i := 1) (N := some 13) (v := ?_) (a' := ?_) #[true, true, false, false, false, false, false, false, false, false, false, false] rfl rfl (by kernel_rfl) (fun _ _ _ h => h) (Or.inl ⟨by rfl, ?_⟩) ?_ ?_
      rotate_left
      · intro w'
        go_simp
        with_reducible rfl
      rotate_left
      · simp only [Act.put, List.setIfInBounds_toArray, List.set_cons_zero, List.set_cons_succ, i64_w, i32_w]
        rfl
      refine pure_ (i := 2) (N := some 14) (v := ?_) (a' := ?_) #[true, true, true, false, false, false, false, false, false, false, false, false] rfl rfl (by kernel_rfl) (fun _ _ _ h => h) (Or.inl ⟨by rfl, ?_⟩) ?_ ?_
      rotate_left
      · intro w'
        go_simp
        with_reducible rfl
      rotate_left
      · simp only [Act.put, List.setIfInBounds_toArray, List.set_cons_zero, List.set_cons_succ, i64_w, i32_w]
        rfl
      refine take_ (i := 3) (N := some 15) (v := ?_) (a' := ?_) #[true, true, true, true, false, false, false, false, false, false, false, false] rfl rfl (by kernel_rfl) (fun _ _ _ h => h) (Or.inl ⟨by rfl, ?_⟩) hHeld ?_ ?_
      rotate_left
      · intro w' hS
        have hq := (hcell.out w' _ hS).1
        go_simp
        with_reducible rfl
      rotate_left
      · simp only [Act.put, List.setIfInBounds_toArray, List.set_cons_zero, List.set_cons_succ, i64_w, i32_w]
        rfl
      refine pure_ (i := 6) (N := some 18) (v := ?_) (a' := ?_) #[true, true, true, true, false, false, true, false, false, false, false, false] rfl rfl (by kernel_rfl) (fun _ _ _ h => h) (Or.inl ⟨by rfl, ?_⟩) ?_ ?_
      rotate_left
      · intro w'
        go_simp
        with_reducible rfl
      rotate_left
      · simp only [Act.put, List.setIfInBounds_toArray, List.set_cons_zero, List.set_cons_succ, i64_w, i32_w]
        rfl
      refine take_ (i := 7) (N := some 19) (v := ?_) (a' := ?_) #[true, true, true, true, false, false, true, true, false, false, false, false] rfl rfl (by kernel_rfl) (fun _ _ _ h => h) (Or.inl ⟨by rfl, ?_⟩) hHeld ?_ ?_
      rotate_left
      · intro w' hS
        have hq := (hcell.out w' _ hS).2.2.1
        go_simp
        with_reducible rfl
      rotate_left
      · simp only [Act.put, List.setIfInBounds_toArray, List.set_cons_zero, List.set_cons_succ, i64_w, i32_w]
        rfl
      refine one_ (i := 4) (N := some 16) #[true, true, true, true, true, false, true, true, false, false, false, false] rfl rfl (by kernel_rfl) (by decide) (fun K hK => ?_)
      refine goes_ Try.func50 (by kernel_rfl) rfl #[.int .i64 x.f0.f0] (by rfl) rfl rfl (by (try simp only [List.map_toArray, List.map_cons, List.map_nil]); first | done | rfl) ?_
      refine (herr.out _).mono ?_
      rintro e w3 ⟨rfl, ⟨nd, rfl⟩⟩
      refine ⟨_, rfl, ?_⟩
      refine hK.out _ _ hHeld (fun hHeld => ?_)
      have b3 := Lib.hid (pw_below_drewN (below_drew hb2.out) nd)
      have o3 := Lib.hid (show (w2.drew.drewN nd).ownsRow w.heap.size 5 1 (.slice Av L.length cv) L.length (nums .u8 L) from own_move ho2.out (fun _ _ => rfl))
      clear hb2 ho2 hk2
      generalize w2.drew.drewN nd = w3 at *
      clear hK K
      refine norm_ (a' := ?_) ?_ ?_
      rotate_left
      · show Act.put _ (some 16) _ = _
        simp only [Act.put, List.setIfInBounds_toArray, List.set_cons_zero, List.set_cons_succ, i64_w, i32_w]
        rfl
      refine pure_ (i := 5) (N := some 17) (v := ?_) (a' := ?_) #[true, true, true, true, true, true, true, true, false, false, false, false] rfl rfl (by kernel_rfl) (fun _ _ _ h => h) (Or.inl ⟨by rfl, ?_⟩) ?_ ?_
      rotate_left
      · intro w'
        refine (exec_add w' 9 _ _ _ (by rfl) (.string SE) (.string { data := #[32, 111, 112, 115, 32] }) _ (by rfl) (by rfl) (a1.out w')).trans ?_; with_reducible rfl
      rotate_left
      · simp only [Act.put, List.setIfInBounds_toArray, List.set_cons_zero, List.set_cons_succ, i64_w, i32_w]
        rfl
      refine one_ (i := 8) (N := some 20) #[true, true, true, true, true, true, true, true, true, false, false, false] rfl rfl (by kernel_rfl) (by decide) (fun K hK => ?_)
      refine goes_ Try.func29 (by kernel_rfl) rfl #[.int .i64 x.f1] (by rfl) rfl rfl (by (try simp only [List.map_toArray, List.map_cons, List.map_nil]); first | done | rfl) ?_
      refine (hnum.out _).mono ?_
      rintro e w4 ⟨rfl, hb⟩
      refine ⟨_, rfl, ?_⟩
      refine hK.out _ _ (heap_below hHeld hb) (fun hHeld => ?_)
      have b4 := Lib.hid (below_step b3.out hb)
      have o4 := Lib.hid (own_move o3.out (fun k hk => hb.block k (o3.out.lt k hk).2))
      clear b3 o3 hb
      clear hK K
      refine norm_ (a' := ?_) ?_ ?_
      rotate_left
      · show Act.put _ (some 20) _ = _
        simp only [Act.put, List.setIfInBounds_toArray, List.set_cons_zero, List.set_cons_succ, i64_w, i32_w]
        rfl
      refine pure_ (i := 9) (N := some 21) (v := ?_) (a' := ?_) #[true, true, true, true, true, true, true, true, true, true, false, false] rfl rfl (by kernel_rfl) (fun _ _ _ h => h) (Or.inl ⟨by rfl, ?_⟩) ?_ ?_
      rotate_left
      · intro w'
        refine (exec_add w' 9 _ _ _ (by rfl) (.string SE2) (.string SN) _ (by rfl) (by rfl) (a2.out w')).trans ?_; with_reducible rfl
      rotate_left
      · simp only [Act.put, List.setIfInBounds_toArray, List.set_cons_zero, List.set_cons_succ, i64_w, i32_w]
        rfl
      refine one_ (i := 10) (N := some 22) #[true, true, true, true, true, true, true, true, true, true, true, false] rfl rfl (by kernel_rfl) (by decide) (fun K hK => ?_)
      obtain ⟨v5, w5, hrun, o5, hgr⟩ := own_append (w := w4) w.heap.size 25 9 (.slice Av L.length cv) L (.string SH) M1 (hsrc1.out _) o4.out b4.out.size (by have := hLlen.out; have := hel.out; omega)
      obtain ⟨L1, hL1⟩ : ∃ L1, L1 = L ++ M1 := ⟨_, rfl⟩
      rw [← hL1] at o5
      have hL1l := Lib.hid (show L1.length ≤ 2001000050 by rw [hL1, List.length_append]; have := hLlen.out; have := hel.out; omega)
      have hL1' := Lib.hid hL1
      clear hL1
      obtain ⟨A5, c5, rfl⟩ := own_slice o5
      refine value_ (w1 := w5) (v := .slice A5 L1.length c5) (by rfl) rfl (exec_append _ (.tmp 12) (.tmp 21) 25 9 (by rfl) (.slice Av L.length cv) (.string SH) (by rfl) (by rfl) (by exact hrun)) ?_
      refine hK.out _ _ (blk_grown hHeld hgr (fun e => own_ne o4.out hHeld (by decide) ge e.symm rfl)) (fun hHeld => ?_)
      have b5 := Lib.hid (b4.out.grown hgr b4.out.size (fun j hj => (o4.out.lt j hj).1))
      have o5' := Lib.hid o5
      have hk5 := Lib.hid hHeld
      clear b4 o4 hrun hgr o5 hHeld
      clear hK K
      refine norm_ (a' := ?_) ?_ ?_
      rotate_left
      · show Act.put _ (some 22) _ = _
        simp only [Act.put, List.setIfInBounds_toArray, List.set_cons_zero, List.set_cons_succ, i64_w, i32_w]
        rfl
      refine pure_ (i := 11) (N := some 3) (v := ?_) (a' := ?_) #[true, true, true, true, true, true, true, true, true, true, true, true] rfl rfl (by kernel_rfl) (fun _ _ _ h => h) (Or.inl ⟨by rfl, ?_⟩) ?_ ?_
      rotate_left
      · intro w'
        go_simp
        with_reducible rfl
      rotate_left
      · simp only [Act.put, List.setIfInBounds_toArray, List.set_cons_zero, List.set_cons_succ, i64_w, i32_w]
        rfl
      refine done_ (by kernel_rfl) ?_
      obtain ⟨SX, hSX⟩ : ∃ SE, SE = strOfNums (hexW x.f0.f1) := ⟨_, rfl⟩
      have hz5 : SX.size ≤ 9000000 := by rw [hSX, strOfNums_size]; have := hexW_len x.f0.f1; have := hok.out.1; omega
      have hST := Lib.hid (show ({ data := #[32, 100, 97, 116, 97, 32] } : ByteArray) ++ SX ++ { data := #[10] } = strOfNums (evTail x) by rw [hSX]; unfold evTail; rw [str_app, str_app]; rfl)
      have hhex := Lib.hid (fun (w1 : World) (h : Below w.heap.size w w1) => console_hex.calls A1 c1 x.f0.f1 SX w1 (Kd.C_below hDC'.out h) hlc'.out (by rw [hSX]; exact hex_eq x.f0.f1 hok.out.2.1 hok.out.1))
      have hsrc2 := Lib.hid (show ∀ W : World, Src Try.prog 1 9 (.string { data := #[32, 111, 102, 102] }) [(32 : Int), 111, 102, 102].length ([(32 : Int), 111, 102, 102].map (Value.int .u8)) W from fun W => src_str W [32, 111, 102, 102] (by intro y hy; simp at hy; rcases hy with rfl | rfl | rfl <;> exact ⟨by omega, by omega⟩))
      have hsrc3 := Lib.hid (show ∀ W : World, Src Try.prog 1 9 (.string (({ data := #[32, 100, 97, 116, 97, 32] } : ByteArray) ++ SX ++ { data := #[10] })) (evTail x).length ((evTail x).map (Value.int .u8)) W by rw [hST.out]; exact fun W => src_str W (evTail x) (evTail_byt x hok.out))
      have htl := Lib.hid (show (evTail x).length ≤ 2000010 by have := evTail_len x; have := hok.out.1; omega)
      obtain ⟨M3, hM3⟩ : ∃ M3, M3 = evTail x := ⟨_, rfl⟩
      rw [← hM3] at hsrc3 htl
      have hM3' := Lib.hid hM3
      have q6 := (hcell.out w5 ge hk5.out).2.2.2
      clear hSX hST hM3 a1 a2 herr hnum hsrc1
      cases hon : x.f5
      · rw [hon] at q6
        have hev := Lib.hid (show L1 ++ [32, 111, 102, 102] ++ M3 = L ++ evL x by rw [hL1'.out, hM1'.out, hM3'.out]; unfold evL evOff; rw [hon]; simp [List.append_assoc])
        clear hon
        have q7 := (hcell.out w5 ge hk5.out).2.1
        obtain ⟨L2, hL2⟩ : ∃ L2, L2 = L1 ++ [32, 111, 102, 102] := ⟨_, rfl⟩
        have hL2' := Lib.hid hL2
        have hL2l := Lib.hid (show L2.length ≤ 2001000060 by rw [hL2, List.length_append]; have := hL1l.out; simp; omega)
        obtain ⟨L3, hL3⟩ : ∃ L3, L3 = L2 ++ M3 := ⟨_, rfl⟩
        have hL3' := Lib.hid hL3
        clear hL2 hL3
        go_wp2_with (first
          | (refine wpList_own_append rfl (.tmp 26) (.const (.string { data := #[32, 111, 102, 102] })) 9 rfl w.heap.size (.slice A5 L1.length c5) L1 (.string { data := #[32, 111, 102, 102] }) [32, 111, 102, 102] rfl rfl (hsrc2.out _) o5'.out b5.out.size (by have := hL1l.out; simp; omega) ?_; intro v6 w6 h1 h2; rw [← hL2'.out] at h1; obtain ⟨A6, c6, rfl⟩ := own_slice h1; have b6 := Lib.hid (b5.out.grown h2 b5.out.size (fun j hj => (o5'.out.lt j hj).1)); have k6 := Lib.hid (blk_grown hk5.out h2 (fun e => own_ne o5'.out hk5.out (by decide) ge e.symm rfl)); have q8 := (hcell.out w6 ge k6.out).2.1; have o6 := Lib.hid h1; clear h1 h2)
          | ((with_reducible go_at_call 77); refine (hhex.out _ b6.out).mono ?_; rintro e w7 ⟨rfl, hb⟩; have b7 := Lib.hid (below_step b6.out hb); have o7 := Lib.hid (own_move o6.out (fun k hk => hb.block k (o6.out.lt k hk).2)); clear hb)
          | (refine wpList_own_append rfl (.tmp 28) (.tmp 34) 9 rfl w.heap.size (.slice A6 L2.length c6) L2 (.string ({ data := #[32, 100, 97, 116, 97, 32] } ++ SX ++ { data := #[10] })) M3 rfl rfl (hsrc3.out _) o7.out b7.out.size (by have := hL2l.out; have := htl.out; omega) ?_; intro v8 w8 h1 h2; rw [← hL3'.out] at h1; obtain ⟨A8, c8, rfl⟩ := own_slice h1; have b8 := Lib.hid (b7.out.grown h2 b7.out.size (fun j hj => (o7.out.lt j hj).1)); have o8 := Lib.hid h1; clear h1 h2))
        have hfin : L3 = evsL (List.take (k + 1) l) := by rw [hsucc.out, hL3'.out, hL2'.out, hev.out]
        rw [hfin] at o8
        exact ⟨⟨k + 1, hk1.out, by push_cast; rfl, by rw [hfin]; exact o8.out, b8.out⟩, by have := hk1.out; simp only [intOf]; omega⟩
      · rw [hon] at q6
        have hev := Lib.hid (show L1 ++ M3 = L ++ evL x by rw [hL1'.out, hM1'.out, hM3'.out]; unfold evL evOff; rw [hon]; simp [List.append_assoc])
        clear hon
        have q7 := (hcell.out w5 ge hk5.out).2.1
        obtain ⟨L3, hL3⟩ : ∃ L3, L3 = L1 ++ M3 := ⟨_, rfl⟩
        have hL3' := Lib.hid hL3
        clear hL3
        go_wp2_with (first
          | ((with_reducible go_at_call 77); refine (hhex.out _ b5.out).mono ?_; rintro e w7 ⟨rfl, hb⟩; have b7 := Lib.hid (below_step b5.out hb); have o7 := Lib.hid (own_move o5'.out (fun k hk => hb.block k (o5'.out.lt k hk).2)); clear hb)
          | (refine wpList_own_append rfl (.tmp 28) (.tmp 34) 9 rfl w.heap.size (.slice A5 L1.length c5) L1 (.string ({ data := #[32, 100, 97, 116, 97, 32] } ++ SX ++ { data := #[10] })) M3 rfl rfl (hsrc3.out _) o7.out b7.out.size (by have := hL1l.out; have := htl.out; omega) ?_; intro v8 w8 h1 h2; rw [← hL3'.out] at h1; obtain ⟨A8, c8, rfl⟩ := own_slice h1; have b8 := Lib.hid (b7.out.grown h2 b7.out.size (fun j hj => (o7.out.lt j hj).1)); have o8 := Lib.hid h1; clear h1 h2))
        have hfin : L3 = evsL (List.take (k + 1) l) := by rw [hsucc.out, hL3'.out,  hev.out]
        rw [hfin] at o8
        exact ⟨⟨k + 1, hk1.out, by push_cast; rfl, by rw [hfin]; exact o8.out, b8.out⟩, by have := hk1.out; simp only [intOf]; omega⟩
    · obtain rfl : k = l.length := by omega
      rw [List.take_length] at hown'
      have hcv := own_string (P := Try.prog) Try.underlying25 Try.underlying5 Try.underlying9 hown'.out
      obtain ⟨N, hN⟩ : ∃ N, N = (evsL l).length := ⟨_, rfl⟩
      obtain ⟨S, hS⟩ : ∃ S, S = strOfNums (evsL l) := ⟨_, rfl⟩
      rw [List.take_length]
      rw [← hN, ← hS] at hcv
      rw [← hN]
      have hS' := Lib.hid hS
      clear hown hbw hlt hk hN hS
      go_wp2_with fail
      go_ret
      exact ⟨by rw [← hS'.out]; rfl, hbw'.out⟩
instance (x : EvT) : Decidable (evOk x) := inferInstanceAs (Decidable (_ ∧ _))
def console_Events.f (l : List EvT) : Option ByteArray := if l.length ≤ 1000 ∧ ∀ x ∈ l, evOk x then some (strOfNums (evsL l)) else none
theorem console_Events.calls (A0 : Option Addr) (c0 : Nat) (l0 : List EvT) (r : ByteArray) (w : World) (hr0 : Kd.C evK w A0 l0.length l0) (hc0 : l0.length ≤ c0) (h : console_Events.f l0 = some r) :
    Calls Try.prog 52 #[.slice A0 l0.length c0] w fun e w' => e = .returned (.string r) ∧ Below w.heap.size w w' := by
  unfold console_Events.f at h
  by_cases h1 : l0.length ≤ 1000 ∧ ∀ x ∈ l0, evOk x
  · rw [if_pos h1] at h
    obtain rfl := Option.some.inj h
    exact events_any A0 c0 l0 w hr0 hc0 h1.1 h1.2
  · rw [if_neg h1] at h; cases h
end Go.Proofs.Ytiogdomjmjiahaa.Own
