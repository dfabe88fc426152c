-- Written by wip/hook.py of this repo: the kit's print over all of the seat's laws, with texts of this repo for what it does not take. Lean checks it.
import Derived.Test.YtcjalfgnnabghaaHx0
import Derived.Test.YtcjalfgnnabghaaWKept
import Derived.Test.YtcjalfgnnabghaaWLast
import Derived.Test.YtcjalfgnnabghaaWTab
import Derived.Test.YtcjalfgnnabghaaWWords
namespace Go.Proofs.Ytcjalfgnnabghaa.H
open Go.RowKit Go.Proofs.YtcjalfgnnabghaaW.PrintWords Go.Proofs.YtcjalfgnnabghaaW.PrintLast
set_option linter.unusedVariables false
set_option linter.unusedSimpArgs false

/-! ### laws_eqIntA2: function 79, by hand -/

def laws_eqIntA2.f (a0_0 : Int) (a0_1 : Int) (a1_0 : Int) (a1_1 : Int) : Option Bool := some (decide (a0_0 = a1_0) && decide (a0_1 = a1_1))
set_option maxHeartbeats 4000000 in
set_option maxRecDepth 100000 in
theorem laws_eqIntA2.calls (a0_0 : Int) (a0_1 : Int) (a1_0 : Int) (a1_1 : Int) (r : Bool) (w : World) (h : laws_eqIntA2.f a0_0 a0_1 a1_0 a1_1 = some r) :
  Calls Try.prog 79 #[.agg #[.int .i64 a0_0, .int .i64 a0_1], .agg #[.int .i64 a1_0, .int .i64 a1_1]] w fun e w' => e = .returned (.bool r) ∧ Below w.heap.size w w' := by
 have hu_ := Try.underlying79
 have hr1 := Option.some.inj h
 subst hr1
 clear h
 go_enter Try.func79, Try.ntmps79
 go_wp2
 go_loopg [5] 2 (fun gg s5 wr => ∃ x : Int, s5 = .int .i64 x ∧ Aside0 (0 ≤ x ∧ x ≤ 2 ∧ 2 - x ≤ gg) ∧ Aside0 (Below w.heap.size w wr) ∧ Aside0 (wr.cell? ⟨w.heap.size, 0, none⟩ = some (.int .i64 a0_0)) ∧ Aside0 (wr.cell? ⟨w.heap.size, 1, none⟩ = some (.int .i64 a0_1)) ∧ Aside0 (wr.cell? ⟨w.heap.size + 1, 0, none⟩ = some (.int .i64 a1_0)) ∧ Aside0 (wr.cell? ⟨w.heap.size + 1, 1, none⟩ = some (.int .i64 a1_1)) ∧ Aside0 (x = 0 ∨ x = 1 ∧ a0_0 = a1_0 ∨ x = 2 ∧ a0_0 = a1_0 ∧ a0_1 = a1_1))
 case atStart => exact ⟨0, rfl, ⟨by omega, by omega, by omega⟩, ⟨below_alloc (below_alloc (Below.refl _ _) _) _⟩, ⟨by first | (go_simp; done) | (simp; done)⟩, ⟨by first | (go_simp; done) | (simp; done)⟩, ⟨by first | (go_simp; done) | (simp; done)⟩, ⟨by first | (go_simp; done) | (simp; done)⟩, ⟨.inl rfl⟩⟩
 case round =>
  obtain ⟨x, rfl, HX, BW, C1, C2, C3, C4, HE⟩ := hrel
  have hx : x = 0 ∨ x = 1 ∨ x = 2 := by have := HX.out; omega
  have hc1 := C1.out
  have hc2 := C2.out
  have hc3 := C3.out
  have hc4 := C4.out
  rcases hx with rfl | rfl | rfl
  ·by_cases hq : a0_0 = a1_0
   ·subst hq
    go_wp2
    repeat (go_quiet (fail); try go_wp2)
    go_roundg 1
    case measure => have := HX.out; omega
    exact ⟨1, rfl, ⟨by omega, by omega, by omega⟩, ⟨by repeat (first | exact BW.out | apply pw_below_drewN | apply below_drew1)⟩, ⟨by first | exact C1.out | (go_simp; done)⟩, ⟨by first | exact C2.out | (go_simp; done)⟩, ⟨by first | exact C3.out | (go_simp; done)⟩, ⟨by first | exact C4.out | (go_simp; done)⟩, ⟨.inr (.inl ⟨by rfl, by trivial⟩)⟩⟩
   ·have c0 : decide (a0_0 = a1_0) = false := decide_eq_false hq
    have HQ := Aside0.mk hq
    go_wp2
    repeat (go_quiet (fail); try go_wp2)
    go_ret
    exact ⟨by simp only [HQ.out, decide_false, Bool.false_and, Bool.and_false]; rfl, by repeat (first | exact BW.out | apply pw_below_drewN | apply below_drew1)⟩
  ·have h0 : a0_0 = a1_0 := by rcases HE.out with h | h | h <;> first | (exact h.2) | (exact h.2.1) | omega
   subst h0
   by_cases hq : a0_1 = a1_1
   ·subst hq
    go_wp2
    repeat (go_quiet (fail); try go_wp2)
    go_roundg 0
    case measure => have := HX.out; omega
    exact ⟨2, rfl, ⟨by omega, by omega, by omega⟩, ⟨by repeat (first | exact BW.out | apply pw_below_drewN | apply below_drew1)⟩, ⟨by first | exact C1.out | (go_simp; done)⟩, ⟨by first | exact C2.out | (go_simp; done)⟩, ⟨by first | exact C3.out | (go_simp; done)⟩, ⟨by first | exact C4.out | (go_simp; done)⟩, ⟨.inr (.inr ⟨by rfl, by trivial, by trivial⟩)⟩⟩
   ·have c0 : decide (a0_1 = a1_1) = false := decide_eq_false hq
    have HQ := Aside0.mk hq
    go_wp2
    repeat (go_quiet (fail); try go_wp2)
    go_ret
    exact ⟨by simp only [HQ.out, decide_false, Bool.false_and, Bool.and_false]; rfl, by repeat (first | exact BW.out | apply pw_below_drewN | apply below_drew1)⟩
  ·have h0 : a0_0 = a1_0 ∧ a0_1 = a1_1 := by rcases HE.out with h | h | h <;> first | (exact h.2) | omega
   obtain ⟨rfl, rfl⟩ := h0
   go_wp2
   go_ret
   exact ⟨by simp, BW.out⟩


/-! ### laws_eqIntA2S: function 35 -/
def laws_eqIntA2S.l0 : Nat → List (S79) → List (S79) → Int → Option (Bool)
 | 0, _, _, _ => none
 | k + 1, x0, x1, x5 => if x5 < (x0.length : Int) then (if 0 ≤ x5 then (if x5 < (x1.length : Int) then ((laws_eqIntA2.f ((rd_T79 x0 x5).f0) ((rd_T79 x0 x5).f1) ((rd_T79 x1 x5).f0) ((rd_T79 x1 x5).f1)).bind fun t614 => (if t614 = true then (laws_eqIntA2S.l0 k x0 x1 (wrap64 (x5 + 1))) else (some false))) else (none)) else (none)) else (some true)
def laws_eqIntA2S.f (k : Nat) (l0 : List (S79)) (l1 : List (S79)) : Option (Bool) := if (l0.length : Int) = (l1.length : Int) then (laws_eqIntA2S.l0 k l0 l1 0) else (some false)

def laws_eqIntA2S.T6 : Bool × List (List Nat × List Nat) := (true, [([], []), ([], []), ([0, 1], [0, 1]), ([2], [2]), ([], []), ([], []), ([4, 5], [4, 5]), ([6], [6]), ([3, 7], [3, 7]), ([8], [8])])
def laws_eqIntA2S.B6 : List Nat := [0, 0, 3, 7, 0, 0, 48, 112, 255, 511]
theorem laws_eqIntA2S.tab6 : rtab .any (opsOf Try.f35 6) = laws_eqIntA2S.T6 := by kernel_rfl
theorem laws_eqIntA2S.bits6 : waitsOk laws_eqIntA2S.T6.2 laws_eqIntA2S.B6 = true := by kernel_rfl
set_option maxHeartbeats 8000000 in
set_option maxRecDepth 100000 in
theorem laws_eqIntA2S.calls (k : Nat) (A0 : Option Addr) (c0 : Nat) (l0 : List (S79)) (A1 : Option Addr) (c1 : Nat) (l1 : List (S79)) (r : Bool) (w : World) (hr0 : Kd.C k79 w A0 l0.length l0) (hc0 : l0.length ≤ c0) (hr1 : Kd.C k79 w A1 l1.length l1) (hc1 : l1.length ≤ c1) (h : laws_eqIntA2S.f k l0 l1 = some r) :
  Calls Try.prog 35 #[.slice A0 l0.length c0, .slice A1 l1.length c1] w fun e w' => e = .returned (.bool r) ∧ Below w.heap.size w w' := by
 have hu79 := Try.underlying79
 have HR0 := Aside0.mk hr0
 have HC0 := Aside0.mk hc0
 clear hr0 hc0
 have HR1 := Aside0.mk hr1
 have HC1 := Aside0.mk hc1
 clear hr1 hc1
 have HB := Aside0.mk (Below.refl w.heap.size w)
 have H : (if (l0.length : Int) = (l1.length : Int) then (laws_eqIntA2S.l0 k l0 l1 0) else (some false)) = some r := h
 clear h
 by_cases c3 : (l0.length : Int) = (l1.length : Int)
 ·rw [if_pos c3] at H
  have c3b0 : ((l0.length : Int) == (l1.length : Int)) = true := beq_iff_eq.mpr c3
  have c3b1 : ((l0.length : Int) != (l1.length : Int)) = false := bne_eq_false_iff_eq.mpr c3
  have c3b2 : (l0.length == l1.length) = true := by first | simpa using c3 | (simp at c3 ⊢; omega)
  clear c3
  have H' := Aside0.mk H
  clear H
  go_enter Try.func35, Try.ntmps35
  go_wp2
  go_loopg [5] k (fun kq v5 w' => ∃ (x5_1 : Int), v5 = .int .i64 x5_1 ∧ Aside0 (laws_eqIntA2S.l0 kq l0 l1 x5_1 = some r) ∧ Aside0 (kq ≤ k) ∧ Aside0 (Below w.heap.size w w'))
  case atStart => exact ⟨(0), (by first | rfl | (simp; done) | (simp [*]; done)), H', ⟨Nat.le_refl _⟩, ⟨by repeat (first | (with_reducible first | exact HB.out | apply below_alloc | apply pw_below_drewN | apply below_drew1) | exact HB.out)⟩⟩
  case round =>
   clear H'
   try clear c1
   try clear p2
   try clear c3
   try clear c3b0
   try clear c3b1
   try clear c3b2
   obtain ⟨x5_1, rfl, HA, HK1, HB⟩ := hrel
   cases gk with
   | zero => exact absurd HA.out (by simp [laws_eqIntA2S.l0])
   | succ k1 =>
    have H := HA.out
    clear HA
    simp only [laws_eqIntA2S.l0] at H
    by_cases c4 : x5_1 < (l0.length : Int)
    ·rw [if_pos c4] at H
     have c4b0 : decide (x5_1 < (l0.length : Int)) = true := decide_eq_true c4
     clear c4
     by_cases c5 : 0 ≤ x5_1
     ·rw [if_pos c5] at H
      have c5b0 : decide (0 ≤ x5_1) = true := decide_eq_true c5
      clear c5
      by_cases c6 : x5_1 < (l1.length : Int)
      ·rw [if_pos c6] at H
       have c6b0 : decide (x5_1 < (l1.length : Int)) = true := decide_eq_true c6
       clear c6
       replace H := Option.bind_eq_some_iff.mp H
       obtain ⟨t614, A70, H⟩ := H
       replace H : (if t614 = true then (laws_eqIntA2S.l0 k1 l0 l1 (wrap64 (x5_1 + 1))) else (some false)) = some r := H
       have A7 := Aside0.mk A70
       clear A70
       by_cases c8 : t614 = true
       ·subst c8
        have H1 : (laws_eqIntA2S.l0 k1 l0 l1 (wrap64 (x5_1 + 1))) = some r := by rw [if_pos rfl] at H; exact H
        clear H
        have H := H1
        clear H1
        have H' := Aside0.mk H
        clear H
        try go_wp2
        have n0_ := Aside0.mk (below_drew1 HB.out)
        clear HB
        have HB := n0_
        clear n0_
        have p612 : 0 ≤ (x5_1 : Int) := of_decide_eq_true (by first | (with_reducible assumption) | assumption)
        have q612 : x5_1 < (l0.length : Int) := of_decide_eq_true (by first | (with_reducible assumption) | assumption)
        obtain ⟨ad612, e612, hx612_0, hx612_1⟩ := at_T79 HR0.out x5_1 p612 q612
        have hw612_1 := hx612_1
        have hw612_0 := hx612_0
        cases e612
        replace hx612_0 := (HB.out.cell (World.block_lt_of_cell? w _ hx612_0)).trans hx612_0
        replace hx612_1 := (HB.out.cell (World.block_lt_of_cell? w _ hx612_1)).trans hx612_1
        replace p612 := eq_true p612
        replace q612 := eq_true q612
        have p613 : 0 ≤ (x5_1 : Int) := of_decide_eq_true (by first | (with_reducible assumption) | assumption)
        have q613 : x5_1 < (l1.length : Int) := of_decide_eq_true (by first | (with_reducible assumption) | assumption)
        obtain ⟨ad613, e613, hx613_0, hx613_1⟩ := at_T79 HR1.out x5_1 p613 q613
        have hw613_1 := hx613_1
        have hw613_0 := hx613_0
        cases e613
        replace hx613_0 := (HB.out.cell (World.block_lt_of_cell? w _ hx613_0)).trans hx613_0
        replace hx613_1 := (HB.out.cell (World.block_lt_of_cell? w _ hx613_1)).trans hx613_1
        replace p613 := eq_true p613
        replace q613 := eq_true q613
        refine start_ (n := 10) (S := fun w' => w'.cell? (ad612.add ((x5_1).toNat * 2)) = some (.int .i64 ((rd_T79 l0 x5_1).f0)) ∧ w'.cell? ⟨(ad612.add ((x5_1).toNat * 2)).block, (ad612.add ((x5_1).toNat * 2)).off + 1, none⟩ = some (.int .i64 ((rd_T79 l0 x5_1).f1)) ∧ w'.cell? (ad613.add ((x5_1).toNat * 2)) = some (.int .i64 ((rd_T79 l1 x5_1).f0)) ∧ w'.cell? ⟨(ad613.add ((x5_1).toNat * 2)).block, (ad613.add ((x5_1).toNat * 2)).off + 1, none⟩ = some (.int .i64 ((rd_T79 l1 x5_1).f1))) (ds := []) #[false, false, false, false, false, false, false, false, false, false] (by kernel_rfl) rfl rfl ⟨((HB.out.cell (World.block_lt_of_cell? w _ hw612_0)).trans hw612_0), ((HB.out.cell (World.block_lt_of_cell? w _ hw612_1)).trans hw612_1), ((HB.out.cell (World.block_lt_of_cell? w _ hw613_0)).trans hw613_0), ((HB.out.cell (World.block_lt_of_cell? w _ hw613_1)).trans hw613_1)⟩ (fun hHeld => ?_); refine with_tabW laws_eqIntA2S.tab6 laws_eqIntA2S.bits6 (fun HT_ HW_ => ?_)
        generalize wr.drew = w9 at HB hx612_0 hx612_1 hx613_0 hx613_1 hHeld ⊢
        refine pure_ (i := 0) (N := some 17) (v := ?_) (a' := ?_) #[true, false, false, false, false, false, false, false, false, false] rfl rfl (any_of HT_.out (by kernel_rfl)) (fun _ _ _ h => h) (Or.inl ⟨by rfl, ?_⟩) ?_ ?_
        rotate_left
        ·intro w'
         go_simp
         with_reducible rfl
        rotate_left
        ·simp only [Act.put, List.setIfInBounds_toArray, List.set_cons_zero, List.set_cons_succ, i64_w, i32_w]
         rfl
        refine pure_ (i := 1) (N := some 18) (v := ?_) (a' := ?_) #[true, true, false, false, false, false, false, false, false, false] rfl rfl (any_of HT_.out (by kernel_rfl)) (fun _ _ _ h => h) (Or.inl ⟨by rfl, ?_⟩) ?_ ?_
        rotate_left
        ·intro w'
         go_simp
         with_reducible rfl
        rotate_left
        ·simp only [Act.put, List.setIfInBounds_toArray, List.set_cons_zero, List.set_cons_succ, i64_w, i32_w]
         rfl
        refine pure_ (i := 2) (N := some 19) (v := ?_) (a' := ?_) #[true, true, true, false, false, false, false, false, false, false] rfl rfl (any_of HT_.out (by kernel_rfl)) (fun _ _ _ h => h) (Or.inl ⟨by rfl, ?_⟩) ?_ ?_
        rotate_left
        ·intro w'
         go_simp
         with_reducible rfl
        rotate_left
        ·simp only [Act.put, List.setIfInBounds_toArray, List.set_cons_zero, List.set_cons_succ, i64_w, i32_w]
         rfl
        refine pure_ (i := 4) (N := some 21) (v := ?_) (a' := ?_) #[true, true, true, false, true, false, false, false, false, false] rfl rfl (any_of HT_.out (by kernel_rfl)) (fun _ _ _ h => h) (Or.inl ⟨by rfl, ?_⟩) ?_ ?_
        rotate_left
        ·intro w'
         go_simp
         with_reducible rfl
        rotate_left
        ·simp only [Act.put, List.setIfInBounds_toArray, List.set_cons_zero, List.set_cons_succ, i64_w, i32_w]
         rfl
        refine pure_ (i := 5) (N := some 22) (v := ?_) (a' := ?_) #[true, true, true, false, true, true, false, false, false, false] rfl rfl (any_of HT_.out (by kernel_rfl)) (fun _ _ _ h => h) (Or.inl ⟨by rfl, ?_⟩) ?_ ?_
        rotate_left
        ·intro w'
         go_simp
         with_reducible rfl
        rotate_left
        ·simp only [Act.put, List.setIfInBounds_toArray, List.set_cons_zero, List.set_cons_succ, i64_w, i32_w]
         rfl
        refine pure_ (i := 6) (N := some 23) (v := ?_) (a' := ?_) #[true, true, true, false, true, true, true, false, false, false] rfl rfl (any_of HT_.out (by kernel_rfl)) (fun _ _ _ h => h) (Or.inl ⟨by rfl, ?_⟩) ?_ ?_
        rotate_left
        ·intro w'
         go_simp
         with_reducible rfl
        rotate_left
        ·simp only [Act.put, List.setIfInBounds_toArray, List.set_cons_zero, List.set_cons_succ, i64_w, i32_w]
         rfl
        refine take_ (i := 3) (N := some 20) (v := ?_) (a' := ?_) #[true, true, true, true, true, true, true, false, false, false] rfl rfl (take_ofW HT_.out HW_.out (by kernel_rfl)) (fun _ _ _ h => h) (Or.inl ⟨by rfl, ?_⟩) hHeld ?_ ?_
        rotate_left
        ·rintro w' ⟨s0, s1, s2, s3⟩
         go_simp
         with_reducible rfl
        rotate_left
        ·simp only [Act.put, List.setIfInBounds_toArray, List.set_cons_zero, List.set_cons_succ, i64_w, i32_w]
         rfl
        refine take_ (i := 7) (N := some 24) (v := ?_) (a' := ?_) #[true, true, true, true, true, true, true, true, false, false] rfl rfl (take_ofW HT_.out HW_.out (by kernel_rfl)) (fun _ _ _ h => h) (Or.inl ⟨by rfl, ?_⟩) hHeld ?_ ?_
        rotate_left
        ·rintro w' ⟨s0, s1, s2, s3⟩
         go_simp
         with_reducible rfl
        rotate_left
        ·simp only [Act.put, List.setIfInBounds_toArray, List.set_cons_zero, List.set_cons_succ, i64_w, i32_w]
         rfl
        refine one_ (i := 8) (N := some 25) #[true, true, true, true, true, true, true, true, true, false] rfl rfl (one_of HT_.out (by kernel_rfl)) (by decide) (fun K hK => ?_)
        refine goes_ Try.func79 (by kernel_rfl) rfl #[.agg #[.int .i64 ((rd_T79 l0 x5_1).f0), .int .i64 ((rd_T79 l0 x5_1).f1)], .agg #[.int .i64 ((rd_T79 l1 x5_1).f0), .int .i64 ((rd_T79 l1 x5_1).f1)]] (by rfl) rfl rfl (by (try simp only [List.map_toArray, List.map_cons, List.map_nil]); first | done | rfl | (simp only [List.length_drop, List.length_take]; rfl)) ?_
        with_reducible refine (laws_eqIntA2.calls ((rd_T79 l0 x5_1).f0) ((rd_T79 l0 x5_1).f1) ((rd_T79 l1 x5_1).f0) ((rd_T79 l1 x5_1).f1) true _ A7.out).mono ?_
        rintro e w10 ⟨rfl, hb⟩
        refine ⟨_, rfl, ?_⟩
        have n0_ := Aside0.mk (below_step (by repeat (first | (with_reducible first | exact HB.out | apply below_alloc | apply pw_below_drewN | apply below_drew1) | exact HB.out)) hb)
        clear HB
        have HB := n0_
        clear n0_
        (try clear hb)
        (try clear hb2)
        (try clear hk)
        (try clear hi)
        refine hK.out _ _ ⟨((HB.out.cell (World.block_lt_of_cell? w _ hw612_0)).trans hw612_0), ((HB.out.cell (World.block_lt_of_cell? w _ hw612_1)).trans hw612_1), ((HB.out.cell (World.block_lt_of_cell? w _ hw613_0)).trans hw613_0), ((HB.out.cell (World.block_lt_of_cell? w _ hw613_1)).trans hw613_1)⟩ (fun hHeld => ?_)
        clear hK K
        refine norm_ (a' := ?_) ?_ ?_
        rotate_left
        ·show Act.put _ (some 25) _ = _
         simp only [Act.put, List.setIfInBounds_toArray, List.set_cons_zero, List.set_cons_succ, i64_w, i32_w]
         rfl
        refine pure_ (i := 9) (N := some 26) (v := ?_) (a' := ?_) #[true, true, true, true, true, true, true, true, true, true] rfl rfl (any_of HT_.out (by kernel_rfl)) (fun _ _ _ h => h) (Or.inl ⟨by rfl, ?_⟩) ?_ ?_
        rotate_left
        ·intro w'
         go_simp
         with_reducible rfl
        rotate_left
        ·simp only [Act.put, List.setIfInBounds_toArray, List.set_cons_zero, List.set_cons_succ, i64_w, i32_w]
         rfl
        refine done_ (done_of HT_.out (by kernel_rfl)) ?_
        try go_wp2
        go_roundg k1
        case measure => have := HK1.out; omega
        case rel => exact ⟨(wrap64 (x5_1 + 1)), (by first | rfl | (simp; done) | (simp [*]; done)), H', ⟨by have := HK1.out; omega⟩, ⟨by repeat (first | (with_reducible first | exact HB.out | apply below_alloc | apply pw_below_drewN | apply below_drew1) | exact HB.out)⟩⟩
       ·replace c8 := Bool.eq_false_iff.mpr c8
        subst c8
        have H1 : (some false) = some r := by rw [if_neg (show ¬ (false = true) by decide)] at H; exact H
        clear H
        have H := H1
        clear H1
        obtain rfl := Option.some.inj H
        try go_wp2
        have n0_ := Aside0.mk (below_drew1 HB.out)
        clear HB
        have HB := n0_
        clear n0_
        have p612 : 0 ≤ (x5_1 : Int) := of_decide_eq_true (by first | (with_reducible assumption) | assumption)
        have q612 : x5_1 < (l0.length : Int) := of_decide_eq_true (by first | (with_reducible assumption) | assumption)
        obtain ⟨ad612, e612, hx612_0, hx612_1⟩ := at_T79 HR0.out x5_1 p612 q612
        have hw612_1 := hx612_1
        have hw612_0 := hx612_0
        cases e612
        replace hx612_0 := (HB.out.cell (World.block_lt_of_cell? w _ hx612_0)).trans hx612_0
        replace hx612_1 := (HB.out.cell (World.block_lt_of_cell? w _ hx612_1)).trans hx612_1
        replace p612 := eq_true p612
        replace q612 := eq_true q612
        have p613 : 0 ≤ (x5_1 : Int) := of_decide_eq_true (by first | (with_reducible assumption) | assumption)
        have q613 : x5_1 < (l1.length : Int) := of_decide_eq_true (by first | (with_reducible assumption) | assumption)
        obtain ⟨ad613, e613, hx613_0, hx613_1⟩ := at_T79 HR1.out x5_1 p613 q613
        have hw613_1 := hx613_1
        have hw613_0 := hx613_0
        cases e613
        replace hx613_0 := (HB.out.cell (World.block_lt_of_cell? w _ hx613_0)).trans hx613_0
        replace hx613_1 := (HB.out.cell (World.block_lt_of_cell? w _ hx613_1)).trans hx613_1
        replace p613 := eq_true p613
        replace q613 := eq_true q613
        refine start_ (n := 10) (S := fun w' => w'.cell? (ad612.add ((x5_1).toNat * 2)) = some (.int .i64 ((rd_T79 l0 x5_1).f0)) ∧ w'.cell? ⟨(ad612.add ((x5_1).toNat * 2)).block, (ad612.add ((x5_1).toNat * 2)).off + 1, none⟩ = some (.int .i64 ((rd_T79 l0 x5_1).f1)) ∧ w'.cell? (ad613.add ((x5_1).toNat * 2)) = some (.int .i64 ((rd_T79 l1 x5_1).f0)) ∧ w'.cell? ⟨(ad613.add ((x5_1).toNat * 2)).block, (ad613.add ((x5_1).toNat * 2)).off + 1, none⟩ = some (.int .i64 ((rd_T79 l1 x5_1).f1))) (ds := []) #[false, false, false, false, false, false, false, false, false, false] (by kernel_rfl) rfl rfl ⟨((HB.out.cell (World.block_lt_of_cell? w _ hw612_0)).trans hw612_0), ((HB.out.cell (World.block_lt_of_cell? w _ hw612_1)).trans hw612_1), ((HB.out.cell (World.block_lt_of_cell? w _ hw613_0)).trans hw613_0), ((HB.out.cell (World.block_lt_of_cell? w _ hw613_1)).trans hw613_1)⟩ (fun hHeld => ?_); refine with_tabW laws_eqIntA2S.tab6 laws_eqIntA2S.bits6 (fun HT_ HW_ => ?_)
        generalize wr.drew = w11 at HB hx612_0 hx612_1 hx613_0 hx613_1 hHeld ⊢
        refine pure_ (i := 0) (N := some 17) (v := ?_) (a' := ?_) #[true, false, false, false, false, false, false, false, false, false] rfl rfl (any_of HT_.out (by kernel_rfl)) (fun _ _ _ h => h) (Or.inl ⟨by rfl, ?_⟩) ?_ ?_
        rotate_left
        ·intro w'
         go_simp
         with_reducible rfl
        rotate_left
        ·simp only [Act.put, List.setIfInBounds_toArray, List.set_cons_zero, List.set_cons_succ, i64_w, i32_w]
         rfl
        refine pure_ (i := 1) (N := some 18) (v := ?_) (a' := ?_) #[true, true, false, false, false, false, false, false, false, false] rfl rfl (any_of HT_.out (by kernel_rfl)) (fun _ _ _ h => h) (Or.inl ⟨by rfl, ?_⟩) ?_ ?_
        rotate_left
        ·intro w'
         go_simp
         with_reducible rfl
        rotate_left
        ·simp only [Act.put, List.setIfInBounds_toArray, List.set_cons_zero, List.set_cons_succ, i64_w, i32_w]
         rfl
        refine pure_ (i := 2) (N := some 19) (v := ?_) (a' := ?_) #[true, true, true, false, false, false, false, false, false, false] rfl rfl (any_of HT_.out (by kernel_rfl)) (fun _ _ _ h => h) (Or.inl ⟨by rfl, ?_⟩) ?_ ?_
        rotate_left
        ·intro w'
         go_simp
         with_reducible rfl
        rotate_left
        ·simp only [Act.put, List.setIfInBounds_toArray, List.set_cons_zero, List.set_cons_succ, i64_w, i32_w]
         rfl
        refine pure_ (i := 4) (N := some 21) (v := ?_) (a' := ?_) #[true, true, true, false, true, false, false, false, false, false] rfl rfl (any_of HT_.out (by kernel_rfl)) (fun _ _ _ h => h) (Or.inl ⟨by rfl, ?_⟩) ?_ ?_
        rotate_left
        ·intro w'
         go_simp
         with_reducible rfl
        rotate_left
        ·simp only [Act.put, List.setIfInBounds_toArray, List.set_cons_zero, List.set_cons_succ, i64_w, i32_w]
         rfl
        refine pure_ (i := 5) (N := some 22) (v := ?_) (a' := ?_) #[true, true, true, false, true, true, false, false, false, false] rfl rfl (any_of HT_.out (by kernel_rfl)) (fun _ _ _ h => h) (Or.inl ⟨by rfl, ?_⟩) ?_ ?_
        rotate_left
        ·intro w'
         go_simp
         with_reducible rfl
        rotate_left
        ·simp only [Act.put, List.setIfInBounds_toArray, List.set_cons_zero, List.set_cons_succ, i64_w, i32_w]
         rfl
        refine pure_ (i := 6) (N := some 23) (v := ?_) (a' := ?_) #[true, true, true, false, true, true, true, false, false, false] rfl rfl (any_of HT_.out (by kernel_rfl)) (fun _ _ _ h => h) (Or.inl ⟨by rfl, ?_⟩) ?_ ?_
        rotate_left
        ·intro w'
         go_simp
         with_reducible rfl
        rotate_left
        ·simp only [Act.put, List.setIfInBounds_toArray, List.set_cons_zero, List.set_cons_succ, i64_w, i32_w]
         rfl
        refine take_ (i := 3) (N := some 20) (v := ?_) (a' := ?_) #[true, true, true, true, true, true, true, false, false, false] rfl rfl (take_ofW HT_.out HW_.out (by kernel_rfl)) (fun _ _ _ h => h) (Or.inl ⟨by rfl, ?_⟩) hHeld ?_ ?_
        rotate_left
        ·rintro w' ⟨s0, s1, s2, s3⟩
         go_simp
         with_reducible rfl
        rotate_left
        ·simp only [Act.put, List.setIfInBounds_toArray, List.set_cons_zero, List.set_cons_succ, i64_w, i32_w]
         rfl
        refine take_ (i := 7) (N := some 24) (v := ?_) (a' := ?_) #[true, true, true, true, true, true, true, true, false, false] rfl rfl (take_ofW HT_.out HW_.out (by kernel_rfl)) (fun _ _ _ h => h) (Or.inl ⟨by rfl, ?_⟩) hHeld ?_ ?_
        rotate_left
        ·rintro w' ⟨s0, s1, s2, s3⟩
         go_simp
         with_reducible rfl
        rotate_left
        ·simp only [Act.put, List.setIfInBounds_toArray, List.set_cons_zero, List.set_cons_succ, i64_w, i32_w]
         rfl
        refine one_ (i := 8) (N := some 25) #[true, true, true, true, true, true, true, true, true, false] rfl rfl (one_of HT_.out (by kernel_rfl)) (by decide) (fun K hK => ?_)
        refine goes_ Try.func79 (by kernel_rfl) rfl #[.agg #[.int .i64 ((rd_T79 l0 x5_1).f0), .int .i64 ((rd_T79 l0 x5_1).f1)], .agg #[.int .i64 ((rd_T79 l1 x5_1).f0), .int .i64 ((rd_T79 l1 x5_1).f1)]] (by rfl) rfl rfl (by (try simp only [List.map_toArray, List.map_cons, List.map_nil]); first | done | rfl | (simp only [List.length_drop, List.length_take]; rfl)) ?_
        with_reducible refine (laws_eqIntA2.calls ((rd_T79 l0 x5_1).f0) ((rd_T79 l0 x5_1).f1) ((rd_T79 l1 x5_1).f0) ((rd_T79 l1 x5_1).f1) false _ A7.out).mono ?_
        rintro e w12 ⟨rfl, hb⟩
        refine ⟨_, rfl, ?_⟩
        have n0_ := Aside0.mk (below_step (by repeat (first | (with_reducible first | exact HB.out | apply below_alloc | apply pw_below_drewN | apply below_drew1) | exact HB.out)) hb)
        clear HB
        have HB := n0_
        clear n0_
        (try clear hb)
        (try clear hb2)
        (try clear hk)
        (try clear hi)
        refine hK.out _ _ ⟨((HB.out.cell (World.block_lt_of_cell? w _ hw612_0)).trans hw612_0), ((HB.out.cell (World.block_lt_of_cell? w _ hw612_1)).trans hw612_1), ((HB.out.cell (World.block_lt_of_cell? w _ hw613_0)).trans hw613_0), ((HB.out.cell (World.block_lt_of_cell? w _ hw613_1)).trans hw613_1)⟩ (fun hHeld => ?_)
        clear hK K
        refine norm_ (a' := ?_) ?_ ?_
        rotate_left
        ·show Act.put _ (some 25) _ = _
         simp only [Act.put, List.setIfInBounds_toArray, List.set_cons_zero, List.set_cons_succ, i64_w, i32_w]
         rfl
        refine pure_ (i := 9) (N := some 26) (v := ?_) (a' := ?_) #[true, true, true, true, true, true, true, true, true, true] rfl rfl (any_of HT_.out (by kernel_rfl)) (fun _ _ _ h => h) (Or.inl ⟨by rfl, ?_⟩) ?_ ?_
        rotate_left
        ·intro w'
         go_simp
         with_reducible rfl
        rotate_left
        ·simp only [Act.put, List.setIfInBounds_toArray, List.set_cons_zero, List.set_cons_succ, i64_w, i32_w]
         rfl
        refine done_ (done_of HT_.out (by kernel_rfl)) ?_
        try go_wp2
        go_ret
        exact ⟨by first | rfl | (simp [errW_none, errW_some] <;> rfl) | (simp [*, errW_none, errW_some] <;> rfl), by repeat (first | (with_reducible first | exact HB.out | apply below_alloc | apply pw_below_drewN | apply below_drew1) | exact HB.out)⟩
      ·rw [if_neg c6] at H
       exact absurd H (by simp)
     ·rw [if_neg c5] at H
      exact absurd H (by simp)
    ·rw [if_neg c4] at H
     have c4b0 : decide (x5_1 < (l0.length : Int)) = false := decide_eq_false c4
     clear c4
     obtain rfl := Option.some.inj H
     go_wp2
     go_ret
     exact ⟨by first | rfl | (simp [errW_none, errW_some] <;> rfl) | (simp [*, errW_none, errW_some] <;> rfl), by repeat (first | (with_reducible first | exact HB.out | apply below_alloc | apply pw_below_drewN | apply below_drew1) | exact HB.out)⟩
 ·rw [if_neg c3] at H
  have c3b0 : ((l0.length : Int) == (l1.length : Int)) = false := beq_eq_false_iff_ne.mpr c3
  have c3b1 : ((l0.length : Int) != (l1.length : Int)) = true := bne_iff_ne.mpr c3
  have c3b2 : (l0.length == l1.length) = false := by first | simpa using c3 | (simp at c3 ⊢; omega)
  obtain rfl := Option.some.inj H
  go_enter Try.func35, Try.ntmps35
  go_wp2
  go_ret
  exact ⟨by first | rfl | (simp [errW_none, errW_some] <;> rfl) | (simp [*, errW_none, errW_some] <;> rfl), by repeat (first | (with_reducible first | exact HB.out | apply below_alloc | apply pw_below_drewN | apply below_drew1) | exact HB.out)⟩

/-! ### laws_markIntA2S: function 36, by hand -/

def markN2 (l : List S79) (a : Int) : Nat → List S79
 | 0 => l
 | i + 1 => (markN2 l a i).set i ⟨a + 2 * (i : Int), a + 2 * (i : Int) + 1⟩
theorem markN2_length (l : List S79) (a : Int) (i : Nat) : (markN2 l a i).length = l.length := by
 induction i with
 | zero => rfl
 | succ i ih => rw [markN2, List.length_set, ih]
def midA2 (l : List S79) (i : Nat) (v : Int) (j : Int) : List S79 :=
 if j = 0 then l else if j = 1 then l.set i ⟨v, (l.getD i z79).f1⟩ else l.set i ⟨v, v + 1⟩
theorem midA2_length (l : List S79) (i : Nat) (v j : Int) : (midA2 l i v j).length = l.length := by
 unfold midA2; split
 ·rfl
 ·split <;> rw [List.length_set]
theorem midA2_1 (l : List S79) (i : Nat) (v y : Int) (hi : i < l.length) (hy : y = v) : (midA2 l i v 0).set i ⟨y, ((midA2 l i v 0).getD i z79).f1⟩ = midA2 l i v 1 := by
 subst hy; rfl
theorem midA2_2 (l : List S79) (i : Nat) (v y : Int) (hi : i < l.length) (hy : y = v + 1) : (midA2 l i v 1).set i ⟨((midA2 l i v 1).getD i z79).f0, y⟩ = midA2 l i v 2 := by
 subst hy
 have e : (midA2 l i v 1).getD i z79 = ⟨v, (l.getD i z79).f1⟩ := by
  unfold midA2
  rw [if_neg (by decide), if_pos rfl, List.getD_eq_getElem?_getD, List.getElem?_set_self hi]; rfl
 rw [e]
 unfold midA2
 rw [if_neg (by decide), if_pos rfl, if_neg (by decide), if_neg (by decide), List.set_set]
def laws_markIntA2S.f (l0 : List S79) (a1 : Int) : Option (Int × List S79) := if 0 ≤ a1 ∧ a1 ≤ 1000000000000 ∧ l0.length ≤ 1000000000 then some (a1 + 2 * (l0.length : Int), markN2 l0 a1 l0.length) else none
set_option maxHeartbeats 8000000 in
set_option maxRecDepth 100000 in
theorem laws_markIntA2S.calls (P0_ : Nat → Prop) (u9000_ : Value) (l0 : List S79) (a1 : Int) (r1 : Int) (r2 : List S79) (w0 w : World) (hB : Below w0.heap.size w0 w) (ho0 : Kd.R k79 79 w w0.heap.size P0_ u9000_ l0) (h : laws_markIntA2S.f l0 a1 = some (r1, r2)) :
  Calls Try.prog 36 #[u9000_, .int .i64 a1] w fun e w' => e = .returned (.int .i64 r1) ∧ Kd.R k79 79 w' w0.heap.size (fun k_ => (P0_ k_ ∨ w.heap.size ≤ k_)) u9000_ r2 ∧ Below w0.heap.size w0 w' ∧ Kept w w' (fun k_ => P0_ k_) := by
 have hu_ := Try.underlying79
 unfold laws_markIntA2S.f at h
 by_cases hq : 0 ≤ a1 ∧ a1 ≤ 1000000000000 ∧ l0.length ≤ 1000000000
 case neg => rw [if_neg hq] at h; cases h
 rw [if_pos hq] at h
 have h1 := Option.some.inj h
 simp only [Prod.mk.injEq] at h1
 obtain ⟨h2, h3⟩ := h1
 have H2 := Aside0.mk h2
 have H3 := Aside0.mk h3
 have HQ := Aside0.mk hq
 clear h h2 h3 hq
 obtain ⟨A, c, rfl⟩ := Kd.R_slice ho0
 have HO0 := Aside0.mk (show Kd.R k79 79 w w0.heap.size (fun k_ => (P0_ k_ ∨ w.heap.size ≤ k_)) (.slice A l0.length c) l0 from Kd.R_mono ho0 (fun k_ hk => (.inl hk)))
 have HP0 := Aside0.mk ho0
 have HK := Aside0.mk (Kept.refl w (fun k_ => P0_ k_))
 have HB := Aside0.mk hB
 clear hB ho0
 go_enter Try.func36, Try.ntmps36
 go_wp2
 go_loopg [1, 5] l0.length (fun gg v1 v5 w' => ∃ (y : Int) (x : Int), v1 = .int .i64 y ∧ v5 = .int .i64 x ∧ Aside0 (0 ≤ x ∧ x ≤ (l0.length : Int) ∧ (l0.length : Int) - x ≤ gg ∧ y = a1 + 2 * x) ∧ Aside0 (Kd.R k79 79 w' w0.heap.size (fun k_ => (P0_ k_ ∨ w.heap.size ≤ k_)) (.slice A l0.length c) (markN2 l0 a1 x.toNat)) ∧ Aside0 (Kept w w' (fun k_ => P0_ k_)) ∧ Aside0 (Below w0.heap.size w0 w'))
 case atStart => exact ⟨a1, 0, rfl, rfl, ⟨by omega, by omega, by omega, by omega⟩, HO0, HK, HB⟩
 case round =>
  clear HK HB
  obtain ⟨y, x, rfl, rfl, HX, HO, HK, HB⟩ := hrel
  by_cases hlt : x < (l0.length : Int)
  ·have c0 : decide (x < (l0.length : Int)) = true := decide_eq_true hlt
   have HL := Aside0.mk hlt
   have hlen := Aside0.mk (markN2_length l0 a1 x.toNat)
   clear hlt
   go_wp2
   go_loopg [1, 6] 2 (fun gg v1 v6 w' => ∃ (y2 : Int) (j : Int), v1 = .int .i64 y2 ∧ v6 = .int .i64 j ∧ Aside0 (0 ≤ j ∧ j ≤ 2 ∧ 2 - j ≤ gg ∧ y2 = y + j) ∧ Aside0 (Kd.R k79 79 w' w0.heap.size (fun k_ => (P0_ k_ ∨ w.heap.size ≤ k_)) (.slice A l0.length c) (midA2 (markN2 l0 a1 x.toNat) x.toNat y j)) ∧ Aside0 (Kept w w' (fun k_ => P0_ k_)) ∧ Aside0 (Below w0.heap.size w0 w'))
   case atStart => exact ⟨y, 0, rfl, rfl, ⟨by omega, by omega, by omega, by omega⟩, ⟨by unfold midA2; rw [if_pos rfl]; exact HO.out⟩, HK, HB⟩
   case round =>
    clear HK HB HO
    obtain ⟨y2, j, rfl, rfl, HJ, HO, HK, HB⟩ := hrel
    have hlm := Aside0.mk (midA2_length (markN2 l0 a1 x.toNat) x.toNat y j)
    have hj : j = 0 ∨ j = 1 ∨ j = 2 := by have := HJ.out; omega
    rcases hj with rfl | rfl | rfl
    ·obtain ⟨g, cp, eo, gb, gl, cl, HG⟩ := Kd.R_form HO.out (by rw [hlm.out, hlen.out]; have := HL.out; have := HX.out; omega)
     (first | cases eo | (injection eo with ea_ en_ ec_; (first | subst ea_ | (injection ea_ with ea_; subst ea_)); subst ec_; clear en_))
     have GB := Aside0.mk gb
     have GG := Aside0.mk HG
     clear gb gl HG
     have p5 : 0 ≤ (x : Int) := HX.out.1
     have q5 : (x : Int) < (l0.length : Int) := HL.out
     obtain ⟨cf, hcl, hN, hcc, hfr⟩ := Kd.R_elem HO.out z79 (x : Int) p5 q5
     obtain rfl := k79_openM hN
     have HP := Kd.R_seg HO.out (x : Int) p5 q5 (seg := [.int .i64 y2]) (j := 0) hcl hcc (show 1 ≤ 2 from by decide) (x' := ⟨y2, ((midA2 (markN2 l0 a1 x.toNat) x.toNat y 0).getD x.toNat z79).f1⟩) (k79_mkM _ _ _ ⟨y2, ((midA2 (markN2 l0 a1 x.toNat) x.toNat y 0).getD x.toNat z79).f1⟩) (fun _ hk => hk)
     rw [midA2_1 _ _ _ _ (by rw [hlen.out]; omega) (by have := HJ.out; omega)] at HP
     have HPP := Aside0.mk HP
     have hx0 : wr.cell? ⟨g, x.toNat * 2, none⟩ = _ := hcc 0 _ rfl
     have hf0 : wr.frozen? ⟨g, x.toNat * 2, none⟩ = false := hfr 0
     clear hcl hN hcc hfr HP
     replace p5 := eq_true p5
     replace q5 := eq_true q5
     go_wp2_with (first | ((with_reducible refine gate_store (t := 3) (p := 22) rfl ?_); refine store_event (t := 3) (p := 22) (v := ?vo_w8) (w1 := (wr.setCell ⟨g, x.toNat * 2, none⟩ (.int .i64 y2))) ?hg ?ho ?hn ?hr ?_; (case ho => rfl); (case hg => rfl); (case hn => rfl); (case hr => first | (go_simp; done) | (go_simp; rfl)); intro w8 hw; have hg : wr.grownBy w8 (some g) := (by rw [hw]; exact HPP.out.2); have n0_ := Aside0.mk (show Kd.R k79 79 w8 w0.heap.size (fun k_ => (P0_ k_ ∨ w.heap.size ≤ k_)) (.slice (some ⟨g, 0, none⟩) l0.length c) (midA2 (markN2 l0 a1 x.toNat) x.toNat y 1) from (by rw [hw]; exact HPP.out.1)); have n1_ := Aside0.mk ((by rw [hw]; exact below_set (HB.out) GB.out : Below w0.heap.size w0 w8)); have n2_ := Aside0.mk (Kept.of_grown (S := (fun k_ => P0_ k_)) hg HK.out (fun k_ e_ => (HO.out.1 k_ e_))); clear HO; clear HB; clear HK; have HO := n0_; have HB := n1_; have HK := n2_; clear n0_ n1_ n2_; clear hg hw HPP))
     go_roundg 1
     case measure => have := HJ.out; omega
     case rel => exact ⟨wrap64 (y2 + 1), 1, by first | rfl | simp, by first | rfl | simp, ⟨by omega, by omega, by omega, by have := HJ.out; have := HX.out; have := HQ.out; unfold wrap64; omega⟩, HO, HK, HB⟩
    ·obtain ⟨g, cp, eo, gb, gl, cl, HG⟩ := Kd.R_form HO.out (by rw [hlm.out, hlen.out]; have := HL.out; have := HX.out; omega)
     (first | cases eo | (injection eo with ea_ en_ ec_; (first | subst ea_ | (injection ea_ with ea_; subst ea_)); subst ec_; clear en_))
     have GB := Aside0.mk gb
     have GG := Aside0.mk HG
     clear gb gl HG
     have p5 : 0 ≤ (x : Int) := HX.out.1
     have q5 : (x : Int) < (l0.length : Int) := HL.out
     obtain ⟨cf, hcl, hN, hcc, hfr⟩ := Kd.R_elem HO.out z79 (x : Int) p5 q5
     obtain rfl := k79_openM hN
     have HP := Kd.R_seg HO.out (x : Int) p5 q5 (seg := [.int .i64 y2]) (j := 1) hcl hcc (show 2 ≤ 2 from by decide) (x' := ⟨((midA2 (markN2 l0 a1 x.toNat) x.toNat y 1).getD x.toNat z79).f0, y2⟩) (k79_mkM _ _ _ ⟨((midA2 (markN2 l0 a1 x.toNat) x.toNat y 1).getD x.toNat z79).f0, y2⟩) (fun _ hk => hk)
     rw [midA2_2 _ _ _ _ (by rw [hlen.out]; omega) (by have := HJ.out; omega)] at HP
     have HPP := Aside0.mk HP
     have hx0 : wr.cell? ⟨g, x.toNat * 2 + 1, none⟩ = _ := hcc 1 _ rfl
     have hf0 : wr.frozen? ⟨g, x.toNat * 2 + 1, none⟩ = false := hfr 1
     clear hcl hN hcc hfr HP
     replace p5 := eq_true p5
     replace q5 := eq_true q5
     go_wp2_with (first | ((with_reducible refine gate_store (t := 3) (p := 22) rfl ?_); refine store_event (t := 3) (p := 22) (v := ?vo_w8) (w1 := (wr.setCell ⟨g, x.toNat * 2 + 1, none⟩ (.int .i64 y2))) ?hg ?ho ?hn ?hr ?_; (case ho => rfl); (case hg => rfl); (case hn => rfl); (case hr => first | (go_simp; done) | (go_simp; rfl)); intro w8 hw; have hg : wr.grownBy w8 (some g) := (by rw [hw]; exact HPP.out.2); have n0_ := Aside0.mk (show Kd.R k79 79 w8 w0.heap.size (fun k_ => (P0_ k_ ∨ w.heap.size ≤ k_)) (.slice (some ⟨g, 0, none⟩) l0.length c) (midA2 (markN2 l0 a1 x.toNat) x.toNat y 2) from (by rw [hw]; exact HPP.out.1)); have n1_ := Aside0.mk ((by rw [hw]; exact below_set (HB.out) GB.out : Below w0.heap.size w0 w8)); have n2_ := Aside0.mk (Kept.of_grown (S := (fun k_ => P0_ k_)) hg HK.out (fun k_ e_ => (HO.out.1 k_ e_))); clear HO; clear HB; clear HK; have HO := n0_; have HB := n1_; have HK := n2_; clear n0_ n1_ n2_; clear hg hw HPP))
     go_roundg 0
     case measure => have := HJ.out; omega
     case rel => exact ⟨wrap64 (y2 + 1), 2, by first | rfl | simp, by first | rfl | simp, ⟨by omega, by omega, by omega, by have := HJ.out; have := HX.out; have := HQ.out; unfold wrap64; omega⟩, HO, HK, HB⟩
    ·go_wp2
     go_roundg (l0.length - (x.toNat + 1))
     case measure => have := HX.out; have := HL.out; omega
     case rel =>
      have hw1 : wrap64 (x + 1) = x + 1 := by have := HX.out; have := HL.out; have := HQ.out; unfold wrap64; omega
      refine ⟨y2, wrap64 (x + 1), by first | rfl | simp, by first | rfl | simp, ⟨by have := HX.out; omega, by have := HL.out; omega, by have := HX.out; have := HL.out; omega, by have := HJ.out; have := HX.out; omega⟩, ⟨?_⟩, HK, HB⟩
      have e : markN2 l0 a1 (wrap64 (x + 1)).toNat = midA2 (markN2 l0 a1 x.toNat) x.toNat y 2 := by
       rw [hw1, show (x + 1).toNat = x.toNat + 1 by have := HX.out; omega, markN2]
       unfold midA2
       rw [if_neg (by decide), if_neg (by decide), show y = a1 + 2 * ((x.toNat : Nat) : Int) by have := HX.out; omega]
      rw [e]
      exact HO.out
  ·have c0 : decide (x < (l0.length : Int)) = false := decide_eq_false hlt
   have HL := Aside0.mk hlt
   clear hlt
   go_wp2
   go_ret
   refine ⟨by rw [← H2.out, show y = a1 + 2 * (l0.length : Int) by have := HX.out; have := HL.out; omega]; rfl, ?_, HB.out, HK.out⟩
   have e : x.toNat = l0.length := by have := HX.out; have := HL.out; omega
   rw [← H3.out, show markN2 l0 a1 l0.length = markN2 l0 a1 x.toNat by rw [e]]
   exact HO.out


/-! ### laws_heldIntA2S: function 37, by hand -/

def isMark2 (l : List S79) (a : Int) : Bool := (List.range l.length).all fun i => decide ((l.getD i z79).f0 = a + 2 * (i : Int)) && decide ((l.getD i z79).f1 = a + 2 * (i : Int) + 1)
theorem isMark2_at (l : List S79) (a : Int) (h : isMark2 l a = true) (i : Nat) (hi : i < l.length) : (l.getD i z79).f0 = a + 2 * (i : Int) ∧ (l.getD i z79).f1 = a + 2 * (i : Int) + 1 := by
 unfold isMark2 at h
 rw [List.all_eq_true] at h
 have := h i (List.mem_range.2 hi)
 simpa using this
def laws_heldIntA2S.f (l0 : List S79) (a1 : Int) : Option Int := if (0 ≤ a1 ∧ a1 ≤ 1000000000000 ∧ l0.length ≤ 1000000000) ∧ isMark2 l0 a1 = true then some (a1 + 2 * (l0.length : Int)) else none
set_option maxHeartbeats 8000000 in
set_option maxRecDepth 100000 in
theorem laws_heldIntA2S.calls (A0 : Option Addr) (c0 : Nat) (l0 : List S79) (a1 : Int) (r : Int) (w : World) (hr0 : Kd.C k79 w A0 l0.length l0) (hc0 : l0.length ≤ c0) (h : laws_heldIntA2S.f l0 a1 = some r) :
  Calls Try.prog 37 #[.slice A0 l0.length c0, .int .i64 a1] w fun e w' => e = .returned (.int .i64 r) ∧ Drawn0 w w' := by
 have hu_ := Try.underlying79
 unfold laws_heldIntA2S.f at h
 by_cases hq : (0 ≤ a1 ∧ a1 ≤ 1000000000000 ∧ l0.length ≤ 1000000000) ∧ isMark2 l0 a1 = true
 case neg => rw [if_neg hq] at h; cases h
 rw [if_pos hq] at h
 have H2 := Aside0.mk (Option.some.inj h)
 have HQ := Aside0.mk hq.1
 have HM := Aside0.mk (isMark2_at l0 a1 hq.2)
 have HR0 := Aside0.mk hr0
 clear h hq hr0 hc0
 go_enter Try.func37, Try.ntmps37
 go_wp2
 go_loopg [1, 5] l0.length (fun gg v1 v5 w' => ∃ (y : Int) (x : Int), v1 = .int .i64 y ∧ v5 = .int .i64 x ∧ Aside0 (0 ≤ x ∧ x ≤ (l0.length : Int) ∧ (l0.length : Int) - x ≤ gg ∧ y = a1 + 2 * x) ∧ Drawn0 w w')
 case atStart => exact ⟨a1, 0, rfl, rfl, ⟨by omega, by omega, by omega, by omega⟩, Drawn0.refl _⟩
 case round =>
  obtain ⟨y, x, rfl, rfl, HX, ⟨m1, rfl⟩⟩ := hrel
  by_cases hlt : x < (l0.length : Int)
  ·have c0 : decide (x < (l0.length : Int)) = true := decide_eq_true hlt
   have HL := Aside0.mk hlt
   clear hlt
   go_wp2
   go_loopg [1, 6] 2 (fun gg v1 v6 w' => ∃ (y2 : Int) (j : Int), v1 = .int .i64 y2 ∧ v6 = .int .i64 j ∧ Aside0 (0 ≤ j ∧ j ≤ 2 ∧ 2 - j ≤ gg ∧ y2 = y + j) ∧ Drawn0 w w')
   case atStart => exact ⟨y, 0, rfl, rfl, ⟨by omega, by omega, by omega, by omega⟩, by repeat (first | exact Drawn0.refl _ | apply Drawn0.step)⟩
   case round =>
    obtain ⟨y2, j, rfl, rfl, HJ, ⟨m2, rfl⟩⟩ := hrel
    have hj : j = 0 ∨ j = 1 ∨ j = 2 := by have := HJ.out; omega
    have hm := HM.out x.toNat (by have := HX.out; have := HL.out; omega)
    have p5 : 0 ≤ (x : Int) := HX.out.1
    have q5 : (x : Int) < (l0.length : Int) := HL.out
    obtain ⟨ad, ea, hx0, hx1⟩ := at_T79 HR0.out x p5 q5
    cases ea
    have e0 : (rd_T79 l0 x).f0 = a1 + 2 * ((x.toNat : Nat) : Int) := hm.1
    have e1 : (rd_T79 l0 x).f1 = a1 + 2 * ((x.toNat : Nat) : Int) + 1 := hm.2
    have E0 := Aside0.mk e0
    have E1 := Aside0.mk e1
    clear e0 e1 hm
    replace p5 := eq_true p5
    replace q5 := eq_true q5
    rcases hj with rfl | rfl | rfl
    ·have c1 : ((rd_T79 l0 x).f0 != y2) = false := bne_eq_false_iff_eq.mpr (by rw [E0.out]; have := HX.out; have := HJ.out; omega)
     go_wp2
     go_roundg 1
     case measure => have := HJ.out; omega
     case rel => exact ⟨wrap64 (y2 + 1), 1, by first | rfl | simp, by first | rfl | simp, ⟨by omega, by omega, by omega, by have := HJ.out; have := HX.out; have := HQ.out; unfold wrap64; omega⟩, by repeat (first | exact Drawn0.refl _ | apply Drawn0.step)⟩
    ·have c1 : ((rd_T79 l0 x).f1 != y2) = false := bne_eq_false_iff_eq.mpr (by rw [E1.out]; have := HX.out; have := HJ.out; omega)
     go_wp2
     go_roundg 0
     case measure => have := HJ.out; omega
     case rel => exact ⟨wrap64 (y2 + 1), 2, by first | rfl | simp, by first | rfl | simp, ⟨by omega, by omega, by omega, by have := HJ.out; have := HX.out; have := HQ.out; unfold wrap64; omega⟩, by repeat (first | exact Drawn0.refl _ | apply Drawn0.step)⟩
    ·go_wp2
     go_roundg (l0.length - (x.toNat + 1))
     case measure => have := HX.out; have := HL.out; omega
     case rel => exact ⟨y2, wrap64 (x + 1), by first | rfl | simp, by first | rfl | simp, ⟨by have := HX.out; have := HQ.out; have := HL.out; unfold wrap64; omega, by have := HX.out; have := HQ.out; have := HL.out; unfold wrap64; omega, by have := HX.out; have := HQ.out; have := HL.out; unfold wrap64; omega, by have := HJ.out; have := HX.out; have := HQ.out; have := HL.out; unfold wrap64; omega⟩, by repeat (first | exact Drawn0.refl _ | apply Drawn0.step)⟩
  ·have c0 : decide (x < (l0.length : Int)) = false := decide_eq_false hlt
   have HL := Aside0.mk hlt
   clear hlt
   go_wp2
   go_ret
   exact ⟨by rw [← H2.out, show y = a1 + 2 * (l0.length : Int) by have := HX.out; have := HL.out; omega]; rfl, by repeat (first | exact Drawn0.refl _ | apply Drawn0.step)⟩


end Go.Proofs.Ytcjalfgnnabghaa.H
