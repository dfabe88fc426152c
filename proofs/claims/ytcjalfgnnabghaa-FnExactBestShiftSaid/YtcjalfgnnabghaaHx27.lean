-- Written by wip/hook.py of this repo: the kit's print over all of the seat's laws, with texts of this repo for what it does not take. Lean checks it.
import Derived.Test.YtcjalfgnnabghaaHx0
import Derived.Test.YtcjalfgnnabghaaHx1
import Derived.Test.YtcjalfgnnabghaaHx23
import Derived.Test.YtcjalfgnnabghaaHx26
import Derived.Test.YtcjalfgnnabghaaWLast
import Derived.Test.YtcjalfgnnabghaaWMore
import Derived.Test.YtcjalfgnnabghaaWTab
import Derived.Test.YtcjalfgnnabghaaWWords
namespace Go.Proofs.Ytcjalfgnnabghaa.H
open Go.RowKit Go.Proofs.YtcjalfgnnabghaaW.PrintWords Go.Proofs.YtcjalfgnnabghaaW.PrintLast Go.Proofs.YtcjalfgnnabghaaW.PrintMore
attribute [local go_sem] max2_int min2_int max_two min_two max_three min_three max_four min_four   -- for this text's walks alone
set_option linter.unusedVariables false
set_option linter.unusedSimpArgs false

/-! ### laws_FnExactBestShift: function 8 -/
def laws_FnExactBestShift.f (k : Nat) (a0_0 : Int) (a0_1 : Int) (l0_2 : List Int) (a1_0 : Int) (a1_1 : Int) (l1_2 : List Int) : Option (Bool) := (laws_szChart.f a0_0 a0_1 l0_2 1048576).bind fun t553 => (if t553 < 0 then (some true) else ((laws_szChart.f a1_0 a1_1 l1_2 t553).bind fun t554 => (if t554 < 0 then (some true) else ((laws_toChart.f k a0_0 a0_1 l0_2).bind fun bt555 => ((laws_toChart.f k a1_0 a1_1 l1_2).bind fun bt560 => ((spec_BestShift.f k bt555.1 bt555.2.1 bt555.2.2 bt560.1 bt560.2.1 bt560.2.2).bind fun bt565 => ((laws_toChart.f k a0_0 a0_1 l0_2).bind fun bt568 => ((laws_toChart.f k a1_0 a1_1 l1_2).bind fun bt574 => ((impl_BestShift.f k bt568.1 bt568.2.1 bt568.2.2 bt574.1 bt574.2.1 bt574.2.2).bind fun bt580 => (if bt580.1 = bt565.1 then (if bt580.2.1 = bt565.2.1 then (if (bt580.2.2 != bt565.2.2) = true then (none) else ((laws_toChart.f k a0_0 a0_1 l0_2).bind fun bt583 => ((laws_eqChart.f k bt568.1 bt568.2.1 bt568.2.2 bt583.1 bt583.2.1 bt583.2.2).bind fun t588 => (if t588 = true then ((laws_toChart.f k a1_0 a1_1 l1_2).bind fun bt589 => ((laws_eqChart.f k bt574.1 bt574.2.1 bt574.2.2 bt589.1 bt589.2.1 bt589.2.2).bind fun t594 => (if t594 = true then (some true) else (none)))) else (none))))) else (none)) else (none)))))))))))

def laws_FnExactBestShift.T8 : Bool × List (List Nat × List Nat) := (true, [([], []), ([0], [0]), ([], []), ([2, 1], [2]), ([1, 3, 3], [1, 3]), ([4], [4]), ([5], [5]), ([5], [5]), ([5], [5]), ([6, 4, 0, 1, 2, 3, 4, 5, 6], [6]), ([7, 9, 0, 1, 2, 3, 4, 5, 6, 7, 9], [7]), ([8, 10, 0, 1, 2, 3, 4, 5, 6, 7, 8, 9, 10], [8])])
def laws_FnExactBestShift.B8 : List Nat := [0, 1, 0, 7, 15, 31, 63, 63, 63, 127, 767, 2047]
theorem laws_FnExactBestShift.tab8 : rtab .any (opsOf Try.f8 8) = laws_FnExactBestShift.T8 := by kernel_rfl
theorem laws_FnExactBestShift.bits8 : waitsOk laws_FnExactBestShift.T8.2 laws_FnExactBestShift.B8 = true := by kernel_rfl
set_option maxHeartbeats 8000000 in
set_option maxRecDepth 100000 in
theorem laws_FnExactBestShift.calls (k : Nat) (a0_0 : Int) (a0_1 : Int) (A0_2 : Option Addr) (c0_2 : Nat) (l0_2 : List Int) (a1_0 : Int) (a1_1 : Int) (A1_2 : Option Addr) (c1_2 : Nat) (l1_2 : List Int) (r : Bool) (w : World) (hr0_2 : Kd.C (Kd.int .i64) w A0_2 l0_2.length l0_2) (hc0_2 : l0_2.length ≤ c0_2) (hr1_2 : Kd.C (Kd.int .i64) w A1_2 l1_2.length l1_2) (hc1_2 : l1_2.length ≤ c1_2) (h : laws_FnExactBestShift.f k a0_0 a0_1 l0_2 a1_0 a1_1 l1_2 = some r) :
    Calls Try.prog 8 #[.agg #[.int .i64 a0_0, .int .i64 a0_1, .slice A0_2 l0_2.length c0_2], .agg #[.int .i64 a1_0, .int .i64 a1_1, .slice A1_2 l1_2.length c1_2]] w fun e w' => e = .returned (.bool r) ∧ Below w.heap.size w w' := by
  have hu24 := Try.underlying24
  have hu28 := Try.underlying28
  have HR0_2 := Aside0.mk hr0_2
  have HC0_2 := Aside0.mk hc0_2
  clear hr0_2 hc0_2
  have HR1_2 := Aside0.mk hr1_2
  have HC1_2 := Aside0.mk hc1_2
  clear hr1_2 hc1_2
  have HB := Aside0.mk (Below.refl w.heap.size w)
  have H : ((laws_szChart.f a0_0 a0_1 l0_2 1048576).bind fun t553 => (if t553 < 0 then (some true) else ((laws_szChart.f a1_0 a1_1 l1_2 t553).bind fun t554 => (if t554 < 0 then (some true) else ((laws_toChart.f k a0_0 a0_1 l0_2).bind fun bt555 => ((laws_toChart.f k a1_0 a1_1 l1_2).bind fun bt560 => ((spec_BestShift.f k bt555.1 bt555.2.1 bt555.2.2 bt560.1 bt560.2.1 bt560.2.2).bind fun bt565 => ((laws_toChart.f k a0_0 a0_1 l0_2).bind fun bt568 => ((laws_toChart.f k a1_0 a1_1 l1_2).bind fun bt574 => ((impl_BestShift.f k bt568.1 bt568.2.1 bt568.2.2 bt574.1 bt574.2.1 bt574.2.2).bind fun bt580 => (if bt580.1 = bt565.1 then (if bt580.2.1 = bt565.2.1 then (if (bt580.2.2 != bt565.2.2) = true then (none) else ((laws_toChart.f k a0_0 a0_1 l0_2).bind fun bt583 => ((laws_eqChart.f k bt568.1 bt568.2.1 bt568.2.2 bt583.1 bt583.2.1 bt583.2.2).bind fun t588 => (if t588 = true then ((laws_toChart.f k a1_0 a1_1 l1_2).bind fun bt589 => ((laws_eqChart.f k bt574.1 bt574.2.1 bt574.2.2 bt589.1 bt589.2.1 bt589.2.2).bind fun t594 => (if t594 = true then (some true) else (none)))) else (none))))) else (none)) else (none)))))))))))) = some r := h
  clear h
  replace H := Option.bind_eq_some_iff.mp H
  obtain ⟨t553, A30, H⟩ := H
  replace H : (if t553 < 0 then (some true) else ((laws_szChart.f a1_0 a1_1 l1_2 t553).bind fun t554 => (if t554 < 0 then (some true) else ((laws_toChart.f k a0_0 a0_1 l0_2).bind fun bt555 => ((laws_toChart.f k a1_0 a1_1 l1_2).bind fun bt560 => ((spec_BestShift.f k bt555.1 bt555.2.1 bt555.2.2 bt560.1 bt560.2.1 bt560.2.2).bind fun bt565 => ((laws_toChart.f k a0_0 a0_1 l0_2).bind fun bt568 => ((laws_toChart.f k a1_0 a1_1 l1_2).bind fun bt574 => ((impl_BestShift.f k bt568.1 bt568.2.1 bt568.2.2 bt574.1 bt574.2.1 bt574.2.2).bind fun bt580 => (if bt580.1 = bt565.1 then (if bt580.2.1 = bt565.2.1 then (if (bt580.2.2 != bt565.2.2) = true then (none) else ((laws_toChart.f k a0_0 a0_1 l0_2).bind fun bt583 => ((laws_eqChart.f k bt568.1 bt568.2.1 bt568.2.2 bt583.1 bt583.2.1 bt583.2.2).bind fun t588 => (if t588 = true then ((laws_toChart.f k a1_0 a1_1 l1_2).bind fun bt589 => ((laws_eqChart.f k bt574.1 bt574.2.1 bt574.2.2 bt589.1 bt589.2.1 bt589.2.2).bind fun t594 => (if t594 = true then (some true) else (none)))) else (none))))) else (none)) else (none))))))))))) = some r := H
  have A3 := Aside0.mk A30
  clear A30
  by_cases c4 : t553 < 0
  · rw [if_pos c4] at H
    have c4b0 : decide (t553 < 0) = true := decide_eq_true c4
    clear c4
    obtain rfl := Option.some.inj H
    go_enter Try.func8, Try.ntmps8
    go_wp2_with (first | ((with_reducible refine gate_dst (N := 2) rfl ?_); refine box_event ?hg (N := 2) ?hd (cs := #[.int .i64 a0_0, .int .i64 a0_1, .slice A0_2 l0_2.length c0_2]) (t := 24) ?hr ?_; (case hd => rfl); (case hg => rfl); (case hr => first | (go_simp; done) | (go_simp; rfl)); intro gb551 hg w5 hbox hb; have n0_ := Aside0.mk (below_step (by repeat (first | (with_reducible first | exact HB.out | apply below_alloc | apply pw_below_drewN | apply below_drew1) | exact HB.out)) hb); have n1_ := Aside0.mk (hbox); have n2_ := Aside0.mk ((by rw [hg]; exact (below_size (by repeat (first | (with_reducible first | exact HB.out | apply below_alloc | apply pw_below_drewN | apply below_drew1) | exact HB.out))) : w.heap.size ≤ gb551)); have n3_ := Aside0.mk ((by rw [hg]; exact (below_size (by repeat (first | (with_reducible first | exact HB.out | apply below_alloc | apply pw_below_drewN | apply below_drew1) | exact HB.out))) : w.heap.size ≤ gb551)); clear HB; have HB := n0_; have BK551 := n1_; have GW551 := n2_; have GE551 := n3_; clear n0_ n1_ n2_ n3_; clear hb hbox hg) | ((with_reducible refine gate_dst (N := 3) rfl ?_); refine box_event ?hg (N := 3) ?hd (cs := #[.int .i64 a1_0, .int .i64 a1_1, .slice A1_2 l1_2.length c1_2]) (t := 24) ?hr ?_; (case hd => rfl); (case hg => rfl); (case hr => first | (go_simp; done) | (go_simp; rfl)); intro gb552 hg w6 hbox hb; have n0_ := Aside0.mk (blk_below (g := gb551) (o := .cells #[.int .i64 a0_0, .int .i64 a0_1, .slice A0_2 l0_2.length c0_2] 24 (0, 0)) (by (with_reducible repeat (first | refine blk_drewN ?_ _ | refine blk_drew ?_ | refine blk_alloc ?_ _)); exact BK551.out) hb); have n1_ := Aside0.mk (below_step (by repeat (first | (with_reducible first | exact HB.out | apply below_alloc | apply pw_below_drewN | apply below_drew1 | refine below_set ?_ GE551.out) | exact HB.out)) hb); have n2_ := Aside0.mk (hbox); have n3_ := Aside0.mk ((by rw [hg]; exact (below_size (by repeat (first | (with_reducible first | exact HB.out | apply below_alloc | apply pw_below_drewN | apply below_drew1 | refine below_set ?_ GE551.out) | exact HB.out))) : w.heap.size ≤ gb552)); have n4_ := Aside0.mk ((by rw [hg]; exact (below_size (by repeat (first | (with_reducible first | exact HB.out | apply below_alloc | apply pw_below_drewN | apply below_drew1 | refine below_set ?_ GE551.out) | exact HB.out))) : w.heap.size ≤ gb552)); have n5_ := Aside0.mk ((by rw [hg]; exact Nat.ne_of_lt (blk_lt (g := gb551) (o := .cells #[.int .i64 a0_0, .int .i64 a0_1, .slice A0_2 l0_2.length c0_2] 24 (0, 0)) (by (with_reducible repeat (first | refine blk_drewN ?_ _ | refine blk_drew ?_ | refine blk_alloc ?_ _)); exact BK551.out)) : gb551 ≠ gb552)); have n6_ := Aside0.mk ((by rw [hg]; exact Nat.ne_of_gt (blk_lt (g := gb551) (o := .cells #[.int .i64 a0_0, .int .i64 a0_1, .slice A0_2 l0_2.length c0_2] 24 (0, 0)) (by (with_reducible repeat (first | refine blk_drewN ?_ _ | refine blk_drew ?_ | refine blk_alloc ?_ _)); exact BK551.out)) : gb552 ≠ gb551)); clear BK551; clear HB; have BK551 := n0_; have HB := n1_; have BK552 := n2_; have GW552 := n3_; have GE552 := n4_; have NB551_552 := n5_; have NB552_551 := n6_; clear n0_ n1_ n2_ n3_ n4_ n5_ n6_; clear hb hbox hg; have hnb7 := NB551_552.out; have hnc7 := NB552_551.out; have hcz8_0 : w6.cell? ⟨gb551, 0, none⟩ = some (.int .i64 a0_0) := (blk_cell BK551.out 0).trans rfl; have hcz8_1 : w6.cell? ⟨gb551, 1, none⟩ = some (.int .i64 a0_1) := (blk_cell BK551.out 1).trans rfl; have hcz8_2 : w6.cell? ⟨gb551, 2, none⟩ = some (.slice A0_2 l0_2.length c0_2) := (blk_cell BK551.out 2).trans rfl; have hfz8_0 := blk_frozen BK551.out 0; have hfz8_1 := blk_frozen BK551.out 1; have hfz8_2 := blk_frozen BK551.out 2) | ((with_reducible refine gate_callee (f := 13) rfl ?_); refine goesL_ (some 16) rfl rfl Try.func13 (by kernel_rfl) rfl #[.agg #[.int .i64 a0_0, .int .i64 a0_1, .slice A0_2 l0_2.length c0_2], .int .i64 1048576] rfl (by (try simp only [List.map_toArray, List.map_cons, List.map_nil]); first | done | rfl | (simp only [List.length_drop, List.length_take]; rfl)) ?_; (with_reducible refine (laws_szChart.calls a0_0 a0_1 _ _ l0_2 1048576 t553 _ ?side1 ?side2 A3.out).mono ?_); (case side1 => repeat (first | exact (Kd.C_below HR0_2.out HB.out) | (with_reducible refine Kd.C_alloc ?_ _) | (with_reducible refine Kd.C_drewN ?_ _) | (with_reducible refine Kd.C_drew ?_))); (case side2 => exact HC0_2.out); rintro e w9 ⟨rfl, hb⟩; refine ⟨_, rfl, ?_⟩; have n0_ := Aside0.mk (blk_below (g := gb551) (o := .cells #[.int .i64 a0_0, .int .i64 a0_1, .slice A0_2 l0_2.length c0_2] 24 (0, 0)) (by (with_reducible repeat (first | refine blk_drewN ?_ _ | refine blk_drew ?_ | refine blk_alloc ?_ _)); exact BK551.out) hb); have n1_ := Aside0.mk (blk_below (g := gb552) (o := .cells #[.int .i64 a1_0, .int .i64 a1_1, .slice A1_2 l1_2.length c1_2] 24 (0, 0)) (by (with_reducible repeat (first | refine blk_drewN ?_ _ | refine blk_drew ?_ | refine blk_alloc ?_ _)); exact BK552.out) hb); have n2_ := Aside0.mk (below_step (by repeat (first | (with_reducible first | exact HB.out | apply below_alloc | apply pw_below_drewN | apply below_drew1 | refine below_set ?_ GE551.out | refine below_set ?_ GE552.out) | exact HB.out)) hb); clear BK551; clear BK552; clear HB; have BK551 := n0_; have BK552 := n1_; have HB := n2_; clear n0_ n1_ n2_; (try clear hb); (try clear hb2); (try clear hk); (try clear hi)))
    go_ret
    exact ⟨by first | rfl | (simp [errW_none, errW_some] <;> rfl) | (simp [*, errW_none, errW_some] <;> rfl), by repeat (first | (with_reducible first | exact HB.out | apply below_alloc | apply pw_below_drewN | apply below_drew1 | refine below_set ?_ GE551.out | refine below_set ?_ GE552.out) | exact HB.out)⟩
  · rw [if_neg c4] at H
    have c4b0 : decide (t553 < 0) = false := decide_eq_false c4
    clear c4
    replace H := Option.bind_eq_some_iff.mp H
    obtain ⟨t554, A100, H⟩ := H
    replace H : (if t554 < 0 then (some true) else ((laws_toChart.f k a0_0 a0_1 l0_2).bind fun bt555 => ((laws_toChart.f k a1_0 a1_1 l1_2).bind fun bt560 => ((spec_BestShift.f k bt555.1 bt555.2.1 bt555.2.2 bt560.1 bt560.2.1 bt560.2.2).bind fun bt565 => ((laws_toChart.f k a0_0 a0_1 l0_2).bind fun bt568 => ((laws_toChart.f k a1_0 a1_1 l1_2).bind fun bt574 => ((impl_BestShift.f k bt568.1 bt568.2.1 bt568.2.2 bt574.1 bt574.2.1 bt574.2.2).bind fun bt580 => (if bt580.1 = bt565.1 then (if bt580.2.1 = bt565.2.1 then (if (bt580.2.2 != bt565.2.2) = true then (none) else ((laws_toChart.f k a0_0 a0_1 l0_2).bind fun bt583 => ((laws_eqChart.f k bt568.1 bt568.2.1 bt568.2.2 bt583.1 bt583.2.1 bt583.2.2).bind fun t588 => (if t588 = true then ((laws_toChart.f k a1_0 a1_1 l1_2).bind fun bt589 => ((laws_eqChart.f k bt574.1 bt574.2.1 bt574.2.2 bt589.1 bt589.2.1 bt589.2.2).bind fun t594 => (if t594 = true then (some true) else (none)))) else (none))))) else (none)) else (none))))))))) = some r := H
    have A10 := Aside0.mk A100
    clear A100
    by_cases c11 : t554 < 0
    · rw [if_pos c11] at H
      have c11b0 : decide (t554 < 0) = true := decide_eq_true c11
      clear c11
      obtain rfl := Option.some.inj H
      go_enter Try.func8, Try.ntmps8
      go_wp2_with (first | ((with_reducible refine gate_dst (N := 2) rfl ?_); refine box_event ?hg (N := 2) ?hd (cs := #[.int .i64 a0_0, .int .i64 a0_1, .slice A0_2 l0_2.length c0_2]) (t := 24) ?hr ?_; (case hd => rfl); (case hg => rfl); (case hr => first | (go_simp; done) | (go_simp; rfl)); intro gb551 hg w12 hbox hb; have n0_ := Aside0.mk (below_step (by repeat (first | (with_reducible first | exact HB.out | apply below_alloc | apply pw_below_drewN | apply below_drew1) | exact HB.out)) hb); have n1_ := Aside0.mk (hbox); have n2_ := Aside0.mk ((by rw [hg]; exact (below_size (by repeat (first | (with_reducible first | exact HB.out | apply below_alloc | apply pw_below_drewN | apply below_drew1) | exact HB.out))) : w.heap.size ≤ gb551)); have n3_ := Aside0.mk ((by rw [hg]; exact (below_size (by repeat (first | (with_reducible first | exact HB.out | apply below_alloc | apply pw_below_drewN | apply below_drew1) | exact HB.out))) : w.heap.size ≤ gb551)); clear HB; have HB := n0_; have BK551 := n1_; have GW551 := n2_; have GE551 := n3_; clear n0_ n1_ n2_ n3_; clear hb hbox hg) | ((with_reducible refine gate_dst (N := 3) rfl ?_); refine box_event ?hg (N := 3) ?hd (cs := #[.int .i64 a1_0, .int .i64 a1_1, .slice A1_2 l1_2.length c1_2]) (t := 24) ?hr ?_; (case hd => rfl); (case hg => rfl); (case hr => first | (go_simp; done) | (go_simp; rfl)); intro gb552 hg w13 hbox hb; have n0_ := Aside0.mk (blk_below (g := gb551) (o := .cells #[.int .i64 a0_0, .int .i64 a0_1, .slice A0_2 l0_2.length c0_2] 24 (0, 0)) (by (with_reducible repeat (first | refine blk_drewN ?_ _ | refine blk_drew ?_ | refine blk_alloc ?_ _)); exact BK551.out) hb); have n1_ := Aside0.mk (below_step (by repeat (first | (with_reducible first | exact HB.out | apply below_alloc | apply pw_below_drewN | apply below_drew1 | refine below_set ?_ GE551.out) | exact HB.out)) hb); have n2_ := Aside0.mk (hbox); have n3_ := Aside0.mk ((by rw [hg]; exact (below_size (by repeat (first | (with_reducible first | exact HB.out | apply below_alloc | apply pw_below_drewN | apply below_drew1 | refine below_set ?_ GE551.out) | exact HB.out))) : w.heap.size ≤ gb552)); have n4_ := Aside0.mk ((by rw [hg]; exact (below_size (by repeat (first | (with_reducible first | exact HB.out | apply below_alloc | apply pw_below_drewN | apply below_drew1 | refine below_set ?_ GE551.out) | exact HB.out))) : w.heap.size ≤ gb552)); have n5_ := Aside0.mk ((by rw [hg]; exact Nat.ne_of_lt (blk_lt (g := gb551) (o := .cells #[.int .i64 a0_0, .int .i64 a0_1, .slice A0_2 l0_2.length c0_2] 24 (0, 0)) (by (with_reducible repeat (first | refine blk_drewN ?_ _ | refine blk_drew ?_ | refine blk_alloc ?_ _)); exact BK551.out)) : gb551 ≠ gb552)); have n6_ := Aside0.mk ((by rw [hg]; exact Nat.ne_of_gt (blk_lt (g := gb551) (o := .cells #[.int .i64 a0_0, .int .i64 a0_1, .slice A0_2 l0_2.length c0_2] 24 (0, 0)) (by (with_reducible repeat (first | refine blk_drewN ?_ _ | refine blk_drew ?_ | refine blk_alloc ?_ _)); exact BK551.out)) : gb552 ≠ gb551)); clear BK551; clear HB; have BK551 := n0_; have HB := n1_; have BK552 := n2_; have GW552 := n3_; have GE552 := n4_; have NB551_552 := n5_; have NB552_551 := n6_; clear n0_ n1_ n2_ n3_ n4_ n5_ n6_; clear hb hbox hg; have hnb14 := NB551_552.out; have hnc14 := NB552_551.out; have hcz15_0 : w13.cell? ⟨gb551, 0, none⟩ = some (.int .i64 a0_0) := (blk_cell BK551.out 0).trans rfl; have hcz15_1 : w13.cell? ⟨gb551, 1, none⟩ = some (.int .i64 a0_1) := (blk_cell BK551.out 1).trans rfl; have hcz15_2 : w13.cell? ⟨gb551, 2, none⟩ = some (.slice A0_2 l0_2.length c0_2) := (blk_cell BK551.out 2).trans rfl; have hfz15_0 := blk_frozen BK551.out 0; have hfz15_1 := blk_frozen BK551.out 1; have hfz15_2 := blk_frozen BK551.out 2) | ((with_reducible refine gate_callee (f := 13) rfl ?_); refine goesL_ (some 16) rfl rfl Try.func13 (by kernel_rfl) rfl #[.agg #[.int .i64 a0_0, .int .i64 a0_1, .slice A0_2 l0_2.length c0_2], .int .i64 1048576] rfl (by (try simp only [List.map_toArray, List.map_cons, List.map_nil]); first | done | rfl | (simp only [List.length_drop, List.length_take]; rfl)) ?_; (with_reducible refine (laws_szChart.calls a0_0 a0_1 _ _ l0_2 1048576 t553 _ ?side1 ?side2 A3.out).mono ?_); (case side1 => repeat (first | exact (Kd.C_below HR0_2.out HB.out) | (with_reducible refine Kd.C_alloc ?_ _) | (with_reducible refine Kd.C_drewN ?_ _) | (with_reducible refine Kd.C_drew ?_))); (case side2 => exact HC0_2.out); rintro e w16 ⟨rfl, hb⟩; refine ⟨_, rfl, ?_⟩; have n0_ := Aside0.mk (blk_below (g := gb551) (o := .cells #[.int .i64 a0_0, .int .i64 a0_1, .slice A0_2 l0_2.length c0_2] 24 (0, 0)) (by (with_reducible repeat (first | refine blk_drewN ?_ _ | refine blk_drew ?_ | refine blk_alloc ?_ _)); exact BK551.out) hb); have n1_ := Aside0.mk (blk_below (g := gb552) (o := .cells #[.int .i64 a1_0, .int .i64 a1_1, .slice A1_2 l1_2.length c1_2] 24 (0, 0)) (by (with_reducible repeat (first | refine blk_drewN ?_ _ | refine blk_drew ?_ | refine blk_alloc ?_ _)); exact BK552.out) hb); have n2_ := Aside0.mk (below_step (by repeat (first | (with_reducible first | exact HB.out | apply below_alloc | apply pw_below_drewN | apply below_drew1 | refine below_set ?_ GE551.out | refine below_set ?_ GE552.out) | exact HB.out)) hb); clear BK551; clear BK552; clear HB; have BK551 := n0_; have BK552 := n1_; have HB := n2_; clear n0_ n1_ n2_; (try clear hb); (try clear hb2); (try clear hk); (try clear hi); have hcz17_0 : w16.cell? ⟨gb552, 0, none⟩ = some (.int .i64 a1_0) := (blk_cell BK552.out 0).trans rfl; have hcz17_1 : w16.cell? ⟨gb552, 1, none⟩ = some (.int .i64 a1_1) := (blk_cell BK552.out 1).trans rfl; have hcz17_2 : w16.cell? ⟨gb552, 2, none⟩ = some (.slice A1_2 l1_2.length c1_2) := (blk_cell BK552.out 2).trans rfl; have hfz17_0 := blk_frozen BK552.out 0; have hfz17_1 := blk_frozen BK552.out 1; have hfz17_2 := blk_frozen BK552.out 2) | ((with_reducible refine gate_callee (f := 13) rfl ?_); refine goesL_ (some 21) rfl rfl Try.func13 (by kernel_rfl) rfl #[.agg #[.int .i64 a1_0, .int .i64 a1_1, .slice A1_2 l1_2.length c1_2], .int .i64 t553] rfl (by (try simp only [List.map_toArray, List.map_cons, List.map_nil]); first | done | rfl | (simp only [List.length_drop, List.length_take]; rfl)) ?_; (with_reducible refine (laws_szChart.calls a1_0 a1_1 _ _ l1_2 t553 t554 _ ?side1 ?side2 A10.out).mono ?_); (case side1 => repeat (first | exact (Kd.C_below HR1_2.out HB.out) | (with_reducible refine Kd.C_alloc ?_ _) | (with_reducible refine Kd.C_drewN ?_ _) | (with_reducible refine Kd.C_drew ?_))); (case side2 => exact HC1_2.out); rintro e w18 ⟨rfl, hb⟩; refine ⟨_, rfl, ?_⟩; have n0_ := Aside0.mk (blk_below (g := gb551) (o := .cells #[.int .i64 a0_0, .int .i64 a0_1, .slice A0_2 l0_2.length c0_2] 24 (0, 0)) (by (with_reducible repeat (first | refine blk_drewN ?_ _ | refine blk_drew ?_ | refine blk_alloc ?_ _)); exact BK551.out) hb); have n1_ := Aside0.mk (blk_below (g := gb552) (o := .cells #[.int .i64 a1_0, .int .i64 a1_1, .slice A1_2 l1_2.length c1_2] 24 (0, 0)) (by (with_reducible repeat (first | refine blk_drewN ?_ _ | refine blk_drew ?_ | refine blk_alloc ?_ _)); exact BK552.out) hb); have n2_ := Aside0.mk (below_step (by repeat (first | (with_reducible first | exact HB.out | apply below_alloc | apply pw_below_drewN | apply below_drew1 | refine below_set ?_ GE551.out | refine below_set ?_ GE552.out) | exact HB.out)) hb); clear BK551; clear BK552; clear HB; have BK551 := n0_; have BK552 := n1_; have HB := n2_; clear n0_ n1_ n2_; (try clear hb); (try clear hb2); (try clear hk); (try clear hi)))
      go_ret
      exact ⟨by first | rfl | (simp [errW_none, errW_some] <;> rfl) | (simp [*, errW_none, errW_some] <;> rfl), by repeat (first | (with_reducible first | exact HB.out | apply below_alloc | apply pw_below_drewN | apply below_drew1 | refine below_set ?_ GE551.out | refine below_set ?_ GE552.out) | exact HB.out)⟩
    · rw [if_neg c11] at H
      have c11b0 : decide (t554 < 0) = false := decide_eq_false c11
      clear c11
      replace H := Option.bind_eq_some_iff.mp H
      obtain ⟨⟨t555, t556, t557⟩, A190, H⟩ := H
      replace H : ((laws_toChart.f k a1_0 a1_1 l1_2).bind fun bt560 => ((spec_BestShift.f k t555 t556 t557 bt560.1 bt560.2.1 bt560.2.2).bind fun bt565 => ((laws_toChart.f k a0_0 a0_1 l0_2).bind fun bt568 => ((laws_toChart.f k a1_0 a1_1 l1_2).bind fun bt574 => ((impl_BestShift.f k bt568.1 bt568.2.1 bt568.2.2 bt574.1 bt574.2.1 bt574.2.2).bind fun bt580 => (if bt580.1 = bt565.1 then (if bt580.2.1 = bt565.2.1 then (if (bt580.2.2 != bt565.2.2) = true then (none) else ((laws_toChart.f k a0_0 a0_1 l0_2).bind fun bt583 => ((laws_eqChart.f k bt568.1 bt568.2.1 bt568.2.2 bt583.1 bt583.2.1 bt583.2.2).bind fun t588 => (if t588 = true then ((laws_toChart.f k a1_0 a1_1 l1_2).bind fun bt589 => ((laws_eqChart.f k bt574.1 bt574.2.1 bt574.2.2 bt589.1 bt589.2.1 bt589.2.2).bind fun t594 => (if t594 = true then (some true) else (none)))) else (none))))) else (none)) else (none))))))) = some r := H
      have A19 := Aside0.mk A190
      clear A190
      replace H := Option.bind_eq_some_iff.mp H
      obtain ⟨⟨t560, t561, t562⟩, A200, H⟩ := H
      replace H : ((spec_BestShift.f k t555 t556 t557 t560 t561 t562).bind fun bt565 => ((laws_toChart.f k a0_0 a0_1 l0_2).bind fun bt568 => ((laws_toChart.f k a1_0 a1_1 l1_2).bind fun bt574 => ((impl_BestShift.f k bt568.1 bt568.2.1 bt568.2.2 bt574.1 bt574.2.1 bt574.2.2).bind fun bt580 => (if bt580.1 = bt565.1 then (if bt580.2.1 = bt565.2.1 then (if (bt580.2.2 != bt565.2.2) = true then (none) else ((laws_toChart.f k a0_0 a0_1 l0_2).bind fun bt583 => ((laws_eqChart.f k bt568.1 bt568.2.1 bt568.2.2 bt583.1 bt583.2.1 bt583.2.2).bind fun t588 => (if t588 = true then ((laws_toChart.f k a1_0 a1_1 l1_2).bind fun bt589 => ((laws_eqChart.f k bt574.1 bt574.2.1 bt574.2.2 bt589.1 bt589.2.1 bt589.2.2).bind fun t594 => (if t594 = true then (some true) else (none)))) else (none))))) else (none)) else (none)))))) = some r := H
      have A20 := Aside0.mk A200
      clear A200
      replace H := Option.bind_eq_some_iff.mp H
      obtain ⟨⟨t565, t566, t567⟩, A210, H⟩ := H
      replace H : ((laws_toChart.f k a0_0 a0_1 l0_2).bind fun bt568 => ((laws_toChart.f k a1_0 a1_1 l1_2).bind fun bt574 => ((impl_BestShift.f k bt568.1 bt568.2.1 bt568.2.2 bt574.1 bt574.2.1 bt574.2.2).bind fun bt580 => (if bt580.1 = t565 then (if bt580.2.1 = t566 then (if (bt580.2.2 != t567) = true then (none) else ((laws_toChart.f k a0_0 a0_1 l0_2).bind fun bt583 => ((laws_eqChart.f k bt568.1 bt568.2.1 bt568.2.2 bt583.1 bt583.2.1 bt583.2.2).bind fun t588 => (if t588 = true then ((laws_toChart.f k a1_0 a1_1 l1_2).bind fun bt589 => ((laws_eqChart.f k bt574.1 bt574.2.1 bt574.2.2 bt589.1 bt589.2.1 bt589.2.2).bind fun t594 => (if t594 = true then (some true) else (none)))) else (none))))) else (none)) else (none))))) = some r := H
      have A21 := Aside0.mk A210
      clear A210
      replace H := Option.bind_eq_some_iff.mp H
      obtain ⟨⟨t568, t569, t570⟩, A220, H⟩ := H
      replace H : ((laws_toChart.f k a1_0 a1_1 l1_2).bind fun bt574 => ((impl_BestShift.f k t568 t569 t570 bt574.1 bt574.2.1 bt574.2.2).bind fun bt580 => (if bt580.1 = t565 then (if bt580.2.1 = t566 then (if (bt580.2.2 != t567) = true then (none) else ((laws_toChart.f k a0_0 a0_1 l0_2).bind fun bt583 => ((laws_eqChart.f k t568 t569 t570 bt583.1 bt583.2.1 bt583.2.2).bind fun t588 => (if t588 = true then ((laws_toChart.f k a1_0 a1_1 l1_2).bind fun bt589 => ((laws_eqChart.f k bt574.1 bt574.2.1 bt574.2.2 bt589.1 bt589.2.1 bt589.2.2).bind fun t594 => (if t594 = true then (some true) else (none)))) else (none))))) else (none)) else (none)))) = some r := H
      have A22 := Aside0.mk A220
      clear A220
      replace H := Option.bind_eq_some_iff.mp H
      obtain ⟨⟨t574, t575, t576⟩, A230, H⟩ := H
      replace H : ((impl_BestShift.f k t568 t569 t570 t574 t575 t576).bind fun bt580 => (if bt580.1 = t565 then (if bt580.2.1 = t566 then (if (bt580.2.2 != t567) = true then (none) else ((laws_toChart.f k a0_0 a0_1 l0_2).bind fun bt583 => ((laws_eqChart.f k t568 t569 t570 bt583.1 bt583.2.1 bt583.2.2).bind fun t588 => (if t588 = true then ((laws_toChart.f k a1_0 a1_1 l1_2).bind fun bt589 => ((laws_eqChart.f k t574 t575 t576 bt589.1 bt589.2.1 bt589.2.2).bind fun t594 => (if t594 = true then (some true) else (none)))) else (none))))) else (none)) else (none))) = some r := H
      have A23 := Aside0.mk A230
      clear A230
      replace H := Option.bind_eq_some_iff.mp H
      obtain ⟨⟨t580, t581, t582⟩, A240, H⟩ := H
      replace H : (if t580 = t565 then (if t581 = t566 then (if (t582 != t567) = true then (none) else ((laws_toChart.f k a0_0 a0_1 l0_2).bind fun bt583 => ((laws_eqChart.f k t568 t569 t570 bt583.1 bt583.2.1 bt583.2.2).bind fun t588 => (if t588 = true then ((laws_toChart.f k a1_0 a1_1 l1_2).bind fun bt589 => ((laws_eqChart.f k t574 t575 t576 bt589.1 bt589.2.1 bt589.2.2).bind fun t594 => (if t594 = true then (some true) else (none)))) else (none))))) else (none)) else (none)) = some r := H
      have A24 := Aside0.mk A240
      clear A240
      by_cases c25 : t580 = t565
      · rw [if_pos c25] at H
        have c25b0 : (t580 == t565) = true := beq_iff_eq.mpr c25
        have c25b1 : (t580 != t565) = false := bne_eq_false_iff_eq.mpr c25
        clear c25
        by_cases c26 : t581 = t566
        · rw [if_pos c26] at H
          have c26b0 : (t581 == t566) = true := beq_iff_eq.mpr c26
          have c26b1 : (t581 != t566) = false := bne_eq_false_iff_eq.mpr c26
          clear c26
          by_cases c27 : (t582 != t567) = true
          · rw [if_pos c27] at H
            exact absurd H (by simp)
          · rw [if_neg c27] at H
            have c27b0 : (t582 != t567) = false := by simpa using c27
            (try (have c27b1 : decide (t582 = t567) = true := by simpa using c27))
            (try (have c27b2 : (t582 == t567) = true := by simpa using c27))
            clear c27
            replace H := Option.bind_eq_some_iff.mp H
            obtain ⟨⟨t583, t584, t585⟩, A280, H⟩ := H
            replace H : ((laws_eqChart.f k t568 t569 t570 t583 t584 t585).bind fun t588 => (if t588 = true then ((laws_toChart.f k a1_0 a1_1 l1_2).bind fun bt589 => ((laws_eqChart.f k t574 t575 t576 bt589.1 bt589.2.1 bt589.2.2).bind fun t594 => (if t594 = true then (some true) else (none)))) else (none))) = some r := H
            have A28 := Aside0.mk A280
            clear A280
            replace H := Option.bind_eq_some_iff.mp H
            obtain ⟨t588, A290, H⟩ := H
            replace H : (if t588 = true then ((laws_toChart.f k a1_0 a1_1 l1_2).bind fun bt589 => ((laws_eqChart.f k t574 t575 t576 bt589.1 bt589.2.1 bt589.2.2).bind fun t594 => (if t594 = true then (some true) else (none)))) else (none)) = some r := H
            have A29 := Aside0.mk A290
            clear A290
            by_cases c30 : t588 = true
            · subst c30
              have H1 : ((laws_toChart.f k a1_0 a1_1 l1_2).bind fun bt589 => ((laws_eqChart.f k t574 t575 t576 bt589.1 bt589.2.1 bt589.2.2).bind fun t594 => (if t594 = true then (some true) else (none)))) = some r := by rw [if_pos rfl] at H; exact H
              clear H
              have H := H1
              clear H1
              replace H := Option.bind_eq_some_iff.mp H
              obtain ⟨⟨t589, t590, t591⟩, A310, H⟩ := H
              replace H : ((laws_eqChart.f k t574 t575 t576 t589 t590 t591).bind fun t594 => (if t594 = true then (some true) else (none))) = some r := H
              have A31 := Aside0.mk A310
              clear A310
              replace H := Option.bind_eq_some_iff.mp H
              obtain ⟨t594, A320, H⟩ := H
              replace H : (if t594 = true then (some true) else (none)) = some r := H
              have A32 := Aside0.mk A320
              clear A320
              by_cases c33 : t594 = true
              · subst c33
                have H1 : (some true) = some r := by rw [if_pos rfl] at H; exact H
                clear H
                have H := H1
                clear H1
                obtain rfl := Option.some.inj H
                go_enter Try.func8, Try.ntmps8
                try go_wp2_with (first | ((with_reducible refine gate_dst (N := 2) rfl ?_); refine box_event ?hg (N := 2) ?hd (cs := #[.int .i64 a0_0, .int .i64 a0_1, .slice A0_2 l0_2.length c0_2]) (t := 24) ?hr ?_; (case hd => rfl); (case hg => rfl); (case hr => first | (go_simp; done) | (go_simp; rfl)); intro gb551 hg w34 hbox hb; have n0_ := Aside0.mk (below_step (by repeat (first | (with_reducible first | exact HB.out | apply below_alloc | apply pw_below_drewN | apply below_drew1) | exact HB.out)) hb); have n1_ := Aside0.mk (hbox); have n2_ := Aside0.mk ((by rw [hg]; exact (below_size (by repeat (first | (with_reducible first | exact HB.out | apply below_alloc | apply pw_below_drewN | apply below_drew1) | exact HB.out))) : w.heap.size ≤ gb551)); have n3_ := Aside0.mk ((by rw [hg]; exact (below_size (by repeat (first | (with_reducible first | exact HB.out | apply below_alloc | apply pw_below_drewN | apply below_drew1) | exact HB.out))) : w.heap.size ≤ gb551)); clear HB; have HB := n0_; have BK551 := n1_; have GW551 := n2_; have GE551 := n3_; clear n0_ n1_ n2_ n3_; clear hb hbox hg) | ((with_reducible refine gate_dst (N := 3) rfl ?_); refine box_event ?hg (N := 3) ?hd (cs := #[.int .i64 a1_0, .int .i64 a1_1, .slice A1_2 l1_2.length c1_2]) (t := 24) ?hr ?_; (case hd => rfl); (case hg => rfl); (case hr => first | (go_simp; done) | (go_simp; rfl)); intro gb552 hg w35 hbox hb; have n0_ := Aside0.mk (blk_below (g := gb551) (o := .cells #[.int .i64 a0_0, .int .i64 a0_1, .slice A0_2 l0_2.length c0_2] 24 (0, 0)) (by (with_reducible repeat (first | refine blk_drewN ?_ _ | refine blk_drew ?_ | refine blk_alloc ?_ _)); exact BK551.out) hb); have n1_ := Aside0.mk (below_step (by repeat (first | (with_reducible first | exact HB.out | apply below_alloc | apply pw_below_drewN | apply below_drew1 | refine below_set ?_ GE551.out) | exact HB.out)) hb); have n2_ := Aside0.mk (hbox); have n3_ := Aside0.mk ((by rw [hg]; exact (below_size (by repeat (first | (with_reducible first | exact HB.out | apply below_alloc | apply pw_below_drewN | apply below_drew1 | refine below_set ?_ GE551.out) | exact HB.out))) : w.heap.size ≤ gb552)); have n4_ := Aside0.mk ((by rw [hg]; exact (below_size (by repeat (first | (with_reducible first | exact HB.out | apply below_alloc | apply pw_below_drewN | apply below_drew1 | refine below_set ?_ GE551.out) | exact HB.out))) : w.heap.size ≤ gb552)); have n5_ := Aside0.mk ((by rw [hg]; exact Nat.ne_of_lt (blk_lt (g := gb551) (o := .cells #[.int .i64 a0_0, .int .i64 a0_1, .slice A0_2 l0_2.length c0_2] 24 (0, 0)) (by (with_reducible repeat (first | refine blk_drewN ?_ _ | refine blk_drew ?_ | refine blk_alloc ?_ _)); exact BK551.out)) : gb551 ≠ gb552)); have n6_ := Aside0.mk ((by rw [hg]; exact Nat.ne_of_gt (blk_lt (g := gb551) (o := .cells #[.int .i64 a0_0, .int .i64 a0_1, .slice A0_2 l0_2.length c0_2] 24 (0, 0)) (by (with_reducible repeat (first | refine blk_drewN ?_ _ | refine blk_drew ?_ | refine blk_alloc ?_ _)); exact BK551.out)) : gb552 ≠ gb551)); clear BK551; clear HB; have BK551 := n0_; have HB := n1_; have BK552 := n2_; have GW552 := n3_; have GE552 := n4_; have NB551_552 := n5_; have NB552_551 := n6_; clear n0_ n1_ n2_ n3_ n4_ n5_ n6_; clear hb hbox hg; have hnb36 := NB551_552.out; have hnc36 := NB552_551.out; have hcz37_0 : w35.cell? ⟨gb551, 0, none⟩ = some (.int .i64 a0_0) := (blk_cell BK551.out 0).trans rfl; have hcz37_1 : w35.cell? ⟨gb551, 1, none⟩ = some (.int .i64 a0_1) := (blk_cell BK551.out 1).trans rfl; have hcz37_2 : w35.cell? ⟨gb551, 2, none⟩ = some (.slice A0_2 l0_2.length c0_2) := (blk_cell BK551.out 2).trans rfl; have hfz37_0 := blk_frozen BK551.out 0; have hfz37_1 := blk_frozen BK551.out 1; have hfz37_2 := blk_frozen BK551.out 2) | ((with_reducible refine gate_callee (f := 13) rfl ?_); refine goesL_ (some 16) rfl rfl Try.func13 (by kernel_rfl) rfl #[.agg #[.int .i64 a0_0, .int .i64 a0_1, .slice A0_2 l0_2.length c0_2], .int .i64 1048576] rfl (by (try simp only [List.map_toArray, List.map_cons, List.map_nil]); first | done | rfl | (simp only [List.length_drop, List.length_take]; rfl)) ?_; (with_reducible refine (laws_szChart.calls a0_0 a0_1 _ _ l0_2 1048576 t553 _ ?side1 ?side2 A3.out).mono ?_); (case side1 => repeat (first | exact (Kd.C_below HR0_2.out HB.out) | (with_reducible refine Kd.C_alloc ?_ _) | (with_reducible refine Kd.C_drewN ?_ _) | (with_reducible refine Kd.C_drew ?_))); (case side2 => exact HC0_2.out); rintro e w38 ⟨rfl, hb⟩; refine ⟨_, rfl, ?_⟩; have n0_ := Aside0.mk (blk_below (g := gb551) (o := .cells #[.int .i64 a0_0, .int .i64 a0_1, .slice A0_2 l0_2.length c0_2] 24 (0, 0)) (by (with_reducible repeat (first | refine blk_drewN ?_ _ | refine blk_drew ?_ | refine blk_alloc ?_ _)); exact BK551.out) hb); have n1_ := Aside0.mk (blk_below (g := gb552) (o := .cells #[.int .i64 a1_0, .int .i64 a1_1, .slice A1_2 l1_2.length c1_2] 24 (0, 0)) (by (with_reducible repeat (first | refine blk_drewN ?_ _ | refine blk_drew ?_ | refine blk_alloc ?_ _)); exact BK552.out) hb); have n2_ := Aside0.mk (below_step (by repeat (first | (with_reducible first | exact HB.out | apply below_alloc | apply pw_below_drewN | apply below_drew1 | refine below_set ?_ GE551.out | refine below_set ?_ GE552.out) | exact HB.out)) hb); clear BK551; clear BK552; clear HB; have BK551 := n0_; have BK552 := n1_; have HB := n2_; clear n0_ n1_ n2_; (try clear hb); (try clear hb2); (try clear hk); (try clear hi); have hcz39_0 : w38.cell? ⟨gb552, 0, none⟩ = some (.int .i64 a1_0) := (blk_cell BK552.out 0).trans rfl; have hcz39_1 : w38.cell? ⟨gb552, 1, none⟩ = some (.int .i64 a1_1) := (blk_cell BK552.out 1).trans rfl; have hcz39_2 : w38.cell? ⟨gb552, 2, none⟩ = some (.slice A1_2 l1_2.length c1_2) := (blk_cell BK552.out 2).trans rfl; have hfz39_0 := blk_frozen BK552.out 0; have hfz39_1 := blk_frozen BK552.out 1; have hfz39_2 := blk_frozen BK552.out 2) | ((with_reducible refine gate_callee (f := 13) rfl ?_); refine goesL_ (some 21) rfl rfl Try.func13 (by kernel_rfl) rfl #[.agg #[.int .i64 a1_0, .int .i64 a1_1, .slice A1_2 l1_2.length c1_2], .int .i64 t553] rfl (by (try simp only [List.map_toArray, List.map_cons, List.map_nil]); first | done | rfl | (simp only [List.length_drop, List.length_take]; rfl)) ?_; (with_reducible refine (laws_szChart.calls a1_0 a1_1 _ _ l1_2 t553 t554 _ ?side1 ?side2 A10.out).mono ?_); (case side1 => repeat (first | exact (Kd.C_below HR1_2.out HB.out) | (with_reducible refine Kd.C_alloc ?_ _) | (with_reducible refine Kd.C_drewN ?_ _) | (with_reducible refine Kd.C_drew ?_))); (case side2 => exact HC1_2.out); rintro e w40 ⟨rfl, hb⟩; refine ⟨_, rfl, ?_⟩; have n0_ := Aside0.mk (blk_below (g := gb551) (o := .cells #[.int .i64 a0_0, .int .i64 a0_1, .slice A0_2 l0_2.length c0_2] 24 (0, 0)) (by (with_reducible repeat (first | refine blk_drewN ?_ _ | refine blk_drew ?_ | refine blk_alloc ?_ _)); exact BK551.out) hb); have n1_ := Aside0.mk (blk_below (g := gb552) (o := .cells #[.int .i64 a1_0, .int .i64 a1_1, .slice A1_2 l1_2.length c1_2] 24 (0, 0)) (by (with_reducible repeat (first | refine blk_drewN ?_ _ | refine blk_drew ?_ | refine blk_alloc ?_ _)); exact BK552.out) hb); have n2_ := Aside0.mk (below_step (by repeat (first | (with_reducible first | exact HB.out | apply below_alloc | apply pw_below_drewN | apply below_drew1 | refine below_set ?_ GE551.out | refine below_set ?_ GE552.out) | exact HB.out)) hb); clear BK551; clear BK552; clear HB; have BK551 := n0_; have BK552 := n1_; have HB := n2_; clear n0_ n1_ n2_; (try clear hb); (try clear hb2); (try clear hk); (try clear hi)))
                have n0_ := Aside0.mk (blk_drew BK551.out)
                have n1_ := Aside0.mk (blk_drew BK552.out)
                have n2_ := Aside0.mk (below_drew1 HB.out)
                clear BK551
                clear BK552
                clear HB
                have BK551 := n0_
                have BK552 := n1_
                have HB := n2_
                clear n0_ n1_ n2_
                refine start_ (n := 12) (S := fun w' => w'.cell? ⟨gb551, 0, none⟩ = some (.int .i64 a0_0) ∧ w'.cell? ⟨gb551, 1, none⟩ = some (.int .i64 a0_1) ∧ w'.cell? ⟨gb551, 2, none⟩ = some (.slice A0_2 l0_2.length c0_2) ∧ w'.cell? ⟨gb552, 0, none⟩ = some (.int .i64 a1_0) ∧ w'.cell? ⟨gb552, 1, none⟩ = some (.int .i64 a1_1) ∧ w'.cell? ⟨gb552, 2, none⟩ = some (.slice A1_2 l1_2.length c1_2)) (ds := []) #[false, false, false, false, false, false, false, false, false, false, false, false] (by kernel_rfl) rfl rfl ⟨(blk_cell BK551.out 0).trans rfl, (blk_cell BK551.out 1).trans rfl, (blk_cell BK551.out 2).trans rfl, (blk_cell BK552.out 0).trans rfl, (blk_cell BK552.out 1).trans rfl, (blk_cell BK552.out 2).trans rfl⟩ (fun hHeld => ?_); refine with_tabW laws_FnExactBestShift.tab8 laws_FnExactBestShift.bits8 (fun HT_ HW_ => ?_)
                generalize w40.drew = w41 at BK551 BK552 HB hHeld ⊢
                refine take_ (i := 0) (N := some 25) (v := ?_) (a' := ?_) #[true, false, false, false, false, false, false, false, false, false, false, false] rfl rfl (take_ofW HT_.out HW_.out (by kernel_rfl)) (fun _ _ _ h => h) (Or.inl ⟨by rfl, ?_⟩) hHeld ?_ ?_
                rotate_left
                · rintro w' ⟨s0, s1, s2, s3, s4, s5⟩
                  go_simp
                  with_reducible rfl
                rotate_left
                · simp only [Act.put, List.setIfInBounds_toArray, List.set_cons_zero, List.set_cons_succ, i64_w, i32_w]
                  rfl
                refine take_ (i := 2) (N := some 27) (v := ?_) (a' := ?_) #[true, false, true, false, false, false, false, false, false, false, false, false] rfl rfl (take_ofW HT_.out HW_.out (by kernel_rfl)) (fun _ _ _ h => h) (Or.inl ⟨by rfl, ?_⟩) hHeld ?_ ?_
                rotate_left
                · rintro w' ⟨s0, s1, s2, s3, s4, s5⟩
                  go_simp
                  with_reducible rfl
                rotate_left
                · simp only [Act.put, List.setIfInBounds_toArray, List.set_cons_zero, List.set_cons_succ, i64_w, i32_w]
                  rfl
                refine one_ (i := 1) (N := some 26) #[true, true, true, false, false, false, false, false, false, false, false, false] rfl rfl (one_of HT_.out (by kernel_rfl)) (by decide) (fun K hK => ?_)
                refine goes_ Try.func15 (by kernel_rfl) rfl #[.agg #[.int .i64 a0_0, .int .i64 a0_1, .slice A0_2 l0_2.length c0_2]] (by rfl) rfl rfl (by (try simp only [List.map_toArray, List.map_cons, List.map_nil]); first | done | rfl | (simp only [List.length_drop, List.length_take]; rfl)) ?_
                with_reducible refine (laws_toChart.calls k a0_0 a0_1 _ _ l0_2 t555 t556 t557 _ ?side1 ?side2 A19.out).mono ?_
                (case side1 => repeat (first | exact (Kd.C_below HR0_2.out HB.out) | (with_reducible refine Kd.C_alloc ?_ _) | (with_reducible refine Kd.C_drewN ?_ _) | (with_reducible refine Kd.C_drew ?_)))
                (case side2 => exact HC0_2.out)
                rintro e w42 ⟨v558, rfl, ho0, hb⟩
                refine ⟨_, rfl, ?_⟩
                have n0_ := Aside0.mk (Kd.R_lower ho0 (below_size (by repeat (first | (with_reducible first | exact HB.out | apply below_alloc | apply pw_below_drewN | apply below_drew1 | refine below_set ?_ GE551.out | refine below_set ?_ GE552.out) | exact HB.out))))
                have n1_ := Aside0.mk (blk_below (g := gb551) (o := .cells #[.int .i64 a0_0, .int .i64 a0_1, .slice A0_2 l0_2.length c0_2] 24 (0, 0)) (by (with_reducible repeat (first | refine blk_drewN ?_ _ | refine blk_drew ?_ | refine blk_alloc ?_ _)); exact BK551.out) hb)
                have n2_ := Aside0.mk (blk_below (g := gb552) (o := .cells #[.int .i64 a1_0, .int .i64 a1_1, .slice A1_2 l1_2.length c1_2] 24 (0, 0)) (by (with_reducible repeat (first | refine blk_drewN ?_ _ | refine blk_drew ?_ | refine blk_alloc ?_ _)); exact BK552.out) hb)
                have n3_ := Aside0.mk (below_step (by repeat (first | (with_reducible first | exact HB.out | apply below_alloc | apply pw_below_drewN | apply below_drew1 | refine below_set ?_ GE551.out | refine below_set ?_ GE552.out) | exact HB.out)) hb)
                clear BK551
                clear BK552
                clear HB
                have HO559 := n0_
                have BK551 := n1_
                have BK552 := n2_
                have HB := n3_
                clear n0_ n1_ n2_ n3_
                (try clear hb)
                (try clear hb2)
                (try clear hk)
                (try clear hi)
                (try clear ho0)
                refine hK.out _ _ ⟨(blk_cell BK551.out 0).trans rfl, (blk_cell BK551.out 1).trans rfl, (blk_cell BK551.out 2).trans rfl, (blk_cell BK552.out 0).trans rfl, (blk_cell BK552.out 1).trans rfl, (blk_cell BK552.out 2).trans rfl⟩ (fun hHeld => ?_)
                clear hK K
                refine norm_ (a' := ?_) ?_ ?_
                rotate_left
                · show Act.put _ (some 26) _ = _
                  simp only [Act.put, List.setIfInBounds_toArray, List.set_cons_zero, List.set_cons_succ, i64_w, i32_w]
                  rfl
                refine one_ (i := 3) (N := some 28) #[true, true, true, true, false, false, false, false, false, false, false, false] rfl rfl (one_of HT_.out (by kernel_rfl)) (by decide) (fun K hK => ?_)
                refine goes_ Try.func15 (by kernel_rfl) rfl #[.agg #[.int .i64 a1_0, .int .i64 a1_1, .slice A1_2 l1_2.length c1_2]] (by rfl) rfl rfl (by (try simp only [List.map_toArray, List.map_cons, List.map_nil]); first | done | rfl | (simp only [List.length_drop, List.length_take]; rfl)) ?_
                with_reducible refine (laws_toChart.calls k a1_0 a1_1 _ _ l1_2 t560 t561 t562 _ ?side1 ?side2 A20.out).mono ?_
                (case side1 => repeat (first | exact (Kd.C_below HR1_2.out HB.out) | (with_reducible refine Kd.C_alloc ?_ _) | (with_reducible refine Kd.C_drewN ?_ _) | (with_reducible refine Kd.C_drew ?_)))
                (case side2 => exact HC1_2.out)
                rintro e w43 ⟨v563, rfl, ho0, hb⟩
                refine ⟨_, rfl, ?_⟩
                have n0_ := Aside0.mk (Kd.R_elder' (by (with_reducible repeat (first | apply Kd.R_alloc | apply Kd.R_drewN | apply Kd.R_drew)); exact HO559.out) (Kd.R_base ho0) hb)
                have n1_ := Aside0.mk (Kd.R_lower (Kd.R_new' ho0 (Kd.R_lt (by (with_reducible repeat (first | apply Kd.R_alloc | apply Kd.R_drewN | apply Kd.R_drew)); exact HO559.out))) (below_size (by repeat (first | (with_reducible first | exact HB.out | apply below_alloc | apply pw_below_drewN | apply below_drew1 | refine below_set ?_ GE551.out | refine below_set ?_ GE552.out) | exact HB.out))))
                have n2_ := Aside0.mk (blk_below (g := gb551) (o := .cells #[.int .i64 a0_0, .int .i64 a0_1, .slice A0_2 l0_2.length c0_2] 24 (0, 0)) (by (with_reducible repeat (first | refine blk_drewN ?_ _ | refine blk_drew ?_ | refine blk_alloc ?_ _)); exact BK551.out) hb)
                have n3_ := Aside0.mk (blk_below (g := gb552) (o := .cells #[.int .i64 a1_0, .int .i64 a1_1, .slice A1_2 l1_2.length c1_2] 24 (0, 0)) (by (with_reducible repeat (first | refine blk_drewN ?_ _ | refine blk_drew ?_ | refine blk_alloc ?_ _)); exact BK552.out) hb)
                have n4_ := Aside0.mk (below_step (by repeat (first | (with_reducible first | exact HB.out | apply below_alloc | apply pw_below_drewN | apply below_drew1 | refine below_set ?_ GE551.out | refine below_set ?_ GE552.out) | exact HB.out)) hb)
                clear HO559
                clear BK551
                clear BK552
                clear HB
                have HO559 := n0_
                have HO564 := n1_
                have BK551 := n2_
                have BK552 := n3_
                have HB := n4_
                clear n0_ n1_ n2_ n3_ n4_
                (try clear hb)
                (try clear hb2)
                (try clear hk)
                (try clear hi)
                (try clear ho0)
                obtain ⟨Ao44, co44, eo44⟩ := Kd.R_slice HO559.out
                (first | subst eo44 | (injection eo44 with f1_ f2_ f3_; have f4_ := f1_.symm; have f5_ := f3_.symm; clear f1_ f2_ f3_; subst f4_; subst f5_))
                obtain ⟨Ao45, co45, eo45⟩ := Kd.R_slice HO564.out
                (first | subst eo45 | (injection eo45 with f1_ f2_ f3_; have f4_ := f1_.symm; have f5_ := f3_.symm; clear f1_ f2_ f3_; subst f4_; subst f5_))
                refine hK.out _ _ ⟨(blk_cell BK551.out 0).trans rfl, (blk_cell BK551.out 1).trans rfl, (blk_cell BK551.out 2).trans rfl, (blk_cell BK552.out 0).trans rfl, (blk_cell BK552.out 1).trans rfl, (blk_cell BK552.out 2).trans rfl⟩ (fun hHeld => ?_)
                clear hK K
                refine norm_ (a' := ?_) ?_ ?_
                rotate_left
                · show Act.put _ (some 28) _ = _
                  simp only [Act.put, List.setIfInBounds_toArray, List.set_cons_zero, List.set_cons_succ, i64_w, i32_w]
                  rfl
                refine one_ (i := 4) (N := some 29) #[true, true, true, true, true, false, false, false, false, false, false, false] rfl rfl (one_of HT_.out (by kernel_rfl)) (by decide) (fun K hK => ?_)
                refine goes_ Try.func31 (by kernel_rfl) rfl #[.agg #[.int .i64 t555, .int .i64 t556, .slice Ao44 t557.length co44], .agg #[.int .i64 t560, .int .i64 t561, .slice Ao45 t562.length co45]] (by rfl) rfl rfl (by (try simp only [List.map_toArray, List.map_cons, List.map_nil]); first | done | rfl | (simp only [List.length_drop, List.length_take]; rfl)) ?_
                with_reducible refine (spec_BestShift.calls k t555 t556 _ _ t557 t560 t561 _ _ t562 t565 t566 t567 _ ?side1 ?side2 ?side3 ?side4 A21.out).mono ?_
                (case side1 => repeat (first | exact (Kd.R_reads' HO559.out).2.2 | (with_reducible refine Kd.C_alloc ?_ _) | (with_reducible refine Kd.C_drewN ?_ _) | (with_reducible refine Kd.C_drew ?_)))
                (case side2 => exact (Kd.R_reads' HO559.out).2.1)
                (case side3 => repeat (first | exact (Kd.R_reads' HO564.out).2.2 | (with_reducible refine Kd.C_alloc ?_ _) | (with_reducible refine Kd.C_drewN ?_ _) | (with_reducible refine Kd.C_drew ?_)))
                (case side4 => exact (Kd.R_reads' HO564.out).2.1)
                rintro e w46 ⟨rfl, hb⟩
                refine ⟨_, rfl, ?_⟩
                have n0_ := Aside0.mk (Kd.R_below (by (with_reducible repeat (first | apply Kd.R_alloc | apply Kd.R_drewN | apply Kd.R_drew)); exact HO559.out) hb)
                have n1_ := Aside0.mk (Kd.R_below (by (with_reducible repeat (first | apply Kd.R_alloc | apply Kd.R_drewN | apply Kd.R_drew)); exact HO564.out) hb)
                have n2_ := Aside0.mk (blk_below (g := gb551) (o := .cells #[.int .i64 a0_0, .int .i64 a0_1, .slice A0_2 l0_2.length c0_2] 24 (0, 0)) (by (with_reducible repeat (first | refine blk_drewN ?_ _ | refine blk_drew ?_ | refine blk_alloc ?_ _)); exact BK551.out) hb)
                have n3_ := Aside0.mk (blk_below (g := gb552) (o := .cells #[.int .i64 a1_0, .int .i64 a1_1, .slice A1_2 l1_2.length c1_2] 24 (0, 0)) (by (with_reducible repeat (first | refine blk_drewN ?_ _ | refine blk_drew ?_ | refine blk_alloc ?_ _)); exact BK552.out) hb)
                have n4_ := Aside0.mk (below_step (by repeat (first | (with_reducible first | exact HB.out | apply below_alloc | apply pw_below_drewN | apply below_drew1 | refine below_set ?_ GE551.out | refine below_set ?_ GE552.out) | exact HB.out)) hb)
                clear HO559
                clear HO564
                clear BK551
                clear BK552
                clear HB
                have HO559 := n0_
                have HO564 := n1_
                have BK551 := n2_
                have BK552 := n3_
                have HB := n4_
                clear n0_ n1_ n2_ n3_ n4_
                (try clear hb)
                (try clear hb2)
                (try clear hk)
                (try clear hi)
                refine hK.out _ _ ⟨(blk_cell BK551.out 0).trans rfl, (blk_cell BK551.out 1).trans rfl, (blk_cell BK551.out 2).trans rfl, (blk_cell BK552.out 0).trans rfl, (blk_cell BK552.out 1).trans rfl, (blk_cell BK552.out 2).trans rfl⟩ (fun hHeld => ?_)
                clear hK K
                refine norm_ (a' := ?_) ?_ ?_
                rotate_left
                · show Act.put _ (some 29) _ = _
                  simp only [Act.put, List.setIfInBounds_toArray, List.set_cons_zero, List.set_cons_succ, i64_w, i32_w]
                  rfl
                refine pure_ (i := 5) (N := some 24) (v := ?_) (a' := ?_) #[true, true, true, true, true, true, false, false, false, false, false, false] rfl rfl (any_of HT_.out (by kernel_rfl)) (fun _ _ _ h => h) (Or.inl ⟨by rfl, ?_⟩) ?_ ?_
                rotate_left
                · intro w'
                  go_simp
                  with_reducible rfl
                rotate_left
                · simp only [Act.put, List.setIfInBounds_toArray, List.set_cons_zero, List.set_cons_succ, i64_w, i32_w]
                  rfl
                refine pure_ (i := 6) (N := some 30) (v := ?_) (a' := ?_) #[true, true, true, true, true, true, true, false, false, false, false, false] rfl rfl (any_of HT_.out (by kernel_rfl)) (fun _ _ _ h => h) (Or.inl ⟨by rfl, ?_⟩) ?_ ?_
                rotate_left
                · intro w'
                  go_simp
                  with_reducible rfl
                rotate_left
                · simp only [Act.put, List.setIfInBounds_toArray, List.set_cons_zero, List.set_cons_succ, i64_w, i32_w]
                  rfl
                refine pure_ (i := 7) (N := some 31) (v := ?_) (a' := ?_) #[true, true, true, true, true, true, true, true, false, false, false, false] rfl rfl (any_of HT_.out (by kernel_rfl)) (fun _ _ _ h => h) (Or.inl ⟨by rfl, ?_⟩) ?_ ?_
                rotate_left
                · intro w'
                  go_simp
                  with_reducible rfl
                rotate_left
                · simp only [Act.put, List.setIfInBounds_toArray, List.set_cons_zero, List.set_cons_succ, i64_w, i32_w]
                  rfl
                refine pure_ (i := 8) (N := some 32) (v := ?_) (a' := ?_) #[true, true, true, true, true, true, true, true, true, false, false, false] rfl rfl (any_of HT_.out (by kernel_rfl)) (fun _ _ _ h => h) (Or.inl ⟨by rfl, ?_⟩) ?_ ?_
                rotate_left
                · intro w'
                  go_simp
                  with_reducible rfl
                rotate_left
                · simp only [Act.put, List.setIfInBounds_toArray, List.set_cons_zero, List.set_cons_succ, i64_w, i32_w]
                  rfl
                refine pure_ (i := 9) (N := some 6) (v := ?_) (a' := ?_) #[true, true, true, true, true, true, true, true, true, true, false, false] rfl rfl (any_of HT_.out (by kernel_rfl)) (fun _ _ _ h => h) (Or.inl ⟨by rfl, ?_⟩) ?_ ?_
                rotate_left
                · intro w'
                  go_simp
                  with_reducible rfl
                rotate_left
                · simp only [Act.put, List.setIfInBounds_toArray, List.set_cons_zero, List.set_cons_succ, i64_w, i32_w]
                  rfl
                refine pure_ (i := 10) (N := some 7) (v := ?_) (a' := ?_) #[true, true, true, true, true, true, true, true, true, true, true, false] rfl rfl (any_of HT_.out (by kernel_rfl)) (fun _ _ _ h => h) (Or.inl ⟨by rfl, ?_⟩) ?_ ?_
                rotate_left
                · intro w'
                  go_simp
                  with_reducible rfl
                rotate_left
                · simp only [Act.put, List.setIfInBounds_toArray, List.set_cons_zero, List.set_cons_succ, i64_w, i32_w]
                  rfl
                refine pure_ (i := 11) (N := some 8) (v := ?_) (a' := ?_) #[true, true, true, true, true, true, true, true, true, true, true, true] rfl rfl (any_of HT_.out (by kernel_rfl)) (fun _ _ _ h => h) (Or.inl ⟨by rfl, ?_⟩) ?_ ?_
                rotate_left
                · intro w'
                  go_simp
                  with_reducible rfl
                rotate_left
                · simp only [Act.put, List.setIfInBounds_toArray, List.set_cons_zero, List.set_cons_succ, i64_w, i32_w]
                  rfl
                refine done_ (done_of HT_.out (by kernel_rfl)) ?_
                have hcz47_0 : w46.cell? ⟨gb551, 0, none⟩ = some (.int .i64 a0_0) := (blk_cell BK551.out 0).trans rfl
                have hcz47_1 : w46.cell? ⟨gb551, 1, none⟩ = some (.int .i64 a0_1) := (blk_cell BK551.out 1).trans rfl
                have hcz47_2 : w46.cell? ⟨gb551, 2, none⟩ = some (.slice A0_2 l0_2.length c0_2) := (blk_cell BK551.out 2).trans rfl
                have hfz47_0 := blk_frozen BK551.out 0
                have hfz47_1 := blk_frozen BK551.out 1
                have hfz47_2 := blk_frozen BK551.out 2
                try go_wp2_with (first | ((with_reducible refine gate_callee (f := 15) rfl ?_); refine goesL_ (some 34) rfl rfl Try.func15 (by kernel_rfl) rfl #[.agg #[.int .i64 a0_0, .int .i64 a0_1, .slice A0_2 l0_2.length c0_2]] rfl (by (try simp only [List.map_toArray, List.map_cons, List.map_nil]); first | done | rfl | (simp only [List.length_drop, List.length_take]; rfl)) ?_; (with_reducible refine (laws_toChart.calls k a0_0 a0_1 _ _ l0_2 t568 t569 t570 _ ?side1 ?side2 A22.out).mono ?_); (case side1 => repeat (first | exact (Kd.C_below HR0_2.out HB.out) | (with_reducible refine Kd.C_alloc ?_ _) | (with_reducible refine Kd.C_drewN ?_ _) | (with_reducible refine Kd.C_drew ?_))); (case side2 => exact HC0_2.out); rintro e w48 ⟨v571, rfl, ho0, hb⟩; refine ⟨_, rfl, ?_⟩; have n0_ := Aside0.mk (Kd.R_elder' (by (with_reducible repeat (first | apply Kd.R_alloc | apply Kd.R_drewN | apply Kd.R_drew)); exact HO559.out) (Kd.R_base ho0) hb); have n1_ := Aside0.mk (Kd.R_elder' (by (with_reducible repeat (first | apply Kd.R_alloc | apply Kd.R_drewN | apply Kd.R_drew)); exact HO564.out) (Kd.R_base ho0) hb); have n2_ := Aside0.mk (Kd.R_lower (Kd.R_new' (Kd.R_new' ho0 (Kd.R_lt (by (with_reducible repeat (first | apply Kd.R_alloc | apply Kd.R_drewN | apply Kd.R_drew)); exact HO559.out))) (Kd.R_lt (by (with_reducible repeat (first | apply Kd.R_alloc | apply Kd.R_drewN | apply Kd.R_drew)); exact HO564.out))) (below_size (by repeat (first | (with_reducible first | exact HB.out | apply below_alloc | apply pw_below_drewN | apply below_drew1 | refine below_set ?_ GE551.out | refine below_set ?_ GE552.out) | exact HB.out)))); have n3_ := Aside0.mk (blk_below (g := gb551) (o := .cells #[.int .i64 a0_0, .int .i64 a0_1, .slice A0_2 l0_2.length c0_2] 24 (0, 0)) (by (with_reducible repeat (first | refine blk_drewN ?_ _ | refine blk_drew ?_ | refine blk_alloc ?_ _)); exact BK551.out) hb); have n4_ := Aside0.mk (blk_below (g := gb552) (o := .cells #[.int .i64 a1_0, .int .i64 a1_1, .slice A1_2 l1_2.length c1_2] 24 (0, 0)) (by (with_reducible repeat (first | refine blk_drewN ?_ _ | refine blk_drew ?_ | refine blk_alloc ?_ _)); exact BK552.out) hb); have n5_ := Aside0.mk (below_step (by repeat (first | (with_reducible first | exact HB.out | apply below_alloc | apply pw_below_drewN | apply below_drew1 | refine below_set ?_ GE551.out | refine below_set ?_ GE552.out) | exact HB.out)) hb); clear HO559; clear HO564; clear BK551; clear BK552; clear HB; have HO559 := n0_; have HO564 := n1_; have HO572 := n2_; have BK551 := n3_; have BK552 := n4_; have HB := n5_; clear n0_ n1_ n2_ n3_ n4_ n5_; (try clear hb); (try clear hb2); (try clear hk); (try clear hi); (try clear ho0)) | ((with_reducible refine gate_dst (N := 9) rfl ?_); refine box_event ?hg (N := 9) ?hd (cs := #[.int .i64 0, .int .i64 0, .slice none 0 0]) (t := 28) ?hr ?_; (case hd => rfl); (case hg => rfl); (case hr => first | (go_simp; done) | (go_simp; rfl)); intro gb573 hg w49 hbox hb; have n0_ := Aside0.mk (Kd.R_below (by (with_reducible repeat (first | apply Kd.R_alloc | apply Kd.R_drewN | apply Kd.R_drew)); exact HO559.out) hb); have n1_ := Aside0.mk (Kd.R_below (by (with_reducible repeat (first | apply Kd.R_alloc | apply Kd.R_drewN | apply Kd.R_drew)); exact HO564.out) hb); have n2_ := Aside0.mk (Kd.R_below (by (with_reducible repeat (first | apply Kd.R_alloc | apply Kd.R_drewN | apply Kd.R_drew)); exact HO572.out) hb); have n3_ := Aside0.mk (blk_below (g := gb551) (o := .cells #[.int .i64 a0_0, .int .i64 a0_1, .slice A0_2 l0_2.length c0_2] 24 (0, 0)) (by (with_reducible repeat (first | refine blk_drewN ?_ _ | refine blk_drew ?_ | refine blk_alloc ?_ _)); exact BK551.out) hb); have n4_ := Aside0.mk (blk_below (g := gb552) (o := .cells #[.int .i64 a1_0, .int .i64 a1_1, .slice A1_2 l1_2.length c1_2] 24 (0, 0)) (by (with_reducible repeat (first | refine blk_drewN ?_ _ | refine blk_drew ?_ | refine blk_alloc ?_ _)); exact BK552.out) hb); have n5_ := Aside0.mk (below_step (by repeat (first | (with_reducible first | exact HB.out | apply below_alloc | apply pw_below_drewN | apply below_drew1 | refine below_set ?_ GE551.out | refine below_set ?_ GE552.out) | exact HB.out)) hb); have n6_ := Aside0.mk (hbox); have n7_ := Aside0.mk ((by rw [hg]; exact (below_size (by repeat (first | (with_reducible first | exact HB.out | apply below_alloc | apply pw_below_drewN | apply below_drew1 | refine below_set ?_ GE551.out | refine below_set ?_ GE552.out) | exact HB.out))) : w.heap.size ≤ gb573)); have n8_ := Aside0.mk ((by rw [hg]; exact (below_size (by repeat (first | (with_reducible first | exact HB.out | apply below_alloc | apply pw_below_drewN | apply below_drew1 | refine below_set ?_ GE551.out | refine below_set ?_ GE552.out) | exact HB.out))) : w.heap.size ≤ gb573)); have n9_ := Aside0.mk ((by rw [hg]; exact Nat.ne_of_lt (blk_lt (g := gb551) (o := .cells #[.int .i64 a0_0, .int .i64 a0_1, .slice A0_2 l0_2.length c0_2] 24 (0, 0)) (by (with_reducible repeat (first | refine blk_drewN ?_ _ | refine blk_drew ?_ | refine blk_alloc ?_ _)); exact BK551.out)) : gb551 ≠ gb573)); have n10_ := Aside0.mk ((by rw [hg]; exact Nat.ne_of_gt (blk_lt (g := gb551) (o := .cells #[.int .i64 a0_0, .int .i64 a0_1, .slice A0_2 l0_2.length c0_2] 24 (0, 0)) (by (with_reducible repeat (first | refine blk_drewN ?_ _ | refine blk_drew ?_ | refine blk_alloc ?_ _)); exact BK551.out)) : gb573 ≠ gb551)); have n11_ := Aside0.mk ((by rw [hg]; exact Nat.ne_of_lt (blk_lt (g := gb552) (o := .cells #[.int .i64 a1_0, .int .i64 a1_1, .slice A1_2 l1_2.length c1_2] 24 (0, 0)) (by (with_reducible repeat (first | refine blk_drewN ?_ _ | refine blk_drew ?_ | refine blk_alloc ?_ _)); exact BK552.out)) : gb552 ≠ gb573)); have n12_ := Aside0.mk ((by rw [hg]; exact Nat.ne_of_gt (blk_lt (g := gb552) (o := .cells #[.int .i64 a1_0, .int .i64 a1_1, .slice A1_2 l1_2.length c1_2] 24 (0, 0)) (by (with_reducible repeat (first | refine blk_drewN ?_ _ | refine blk_drew ?_ | refine blk_alloc ?_ _)); exact BK552.out)) : gb573 ≠ gb552)); clear HO559; clear HO564; clear HO572; clear BK551; clear BK552; clear HB; have HO559 := n0_; have HO564 := n1_; have HO572 := n2_; have BK551 := n3_; have BK552 := n4_; have HB := n5_; have BK573 := n6_; have GW573 := n7_; have GE573 := n8_; have NB551_573 := n9_; have NB573_551 := n10_; have NB552_573 := n11_; have NB573_552 := n12_; clear n0_ n1_ n2_ n3_ n4_ n5_ n6_ n7_ n8_ n9_ n10_ n11_ n12_; clear hb hbox hg; have hnb50 := NB573_551.out; have hnc50 := NB551_573.out; have hnb51 := NB573_552.out; have hnc51 := NB552_573.out; have hcz52_0 : w49.cell? ⟨gb573, 0, none⟩ = some (.int .i64 0) := (blk_cell BK573.out 0).trans rfl; have hcz52_1 : w49.cell? ⟨gb573, 1, none⟩ = some (.int .i64 0) := (blk_cell BK573.out 1).trans rfl; have hcz52_2 : w49.cell? ⟨gb573, 2, none⟩ = some (.slice none 0 0) := (blk_cell BK573.out 2).trans rfl; have hfz52_0 := blk_frozen BK573.out 0; have hfz52_1 := blk_frozen BK573.out 1; have hfz52_2 := blk_frozen BK573.out 2; obtain ⟨Ao53, co53, eo53⟩ := Kd.R_slice HO572.out; subst eo53; have hcz54_0 : w49.cell? ⟨gb552, 0, none⟩ = some (.int .i64 a1_0) := (blk_cell BK552.out 0).trans rfl; have hcz54_1 : w49.cell? ⟨gb552, 1, none⟩ = some (.int .i64 a1_1) := (blk_cell BK552.out 1).trans rfl; have hcz54_2 : w49.cell? ⟨gb552, 2, none⟩ = some (.slice A1_2 l1_2.length c1_2) := (blk_cell BK552.out 2).trans rfl; have hfz54_0 := blk_frozen BK552.out 0; have hfz54_1 := blk_frozen BK552.out 1; have hfz54_2 := blk_frozen BK552.out 2) | ((with_reducible refine gate_callee (f := 15) rfl ?_); refine goesL_ (some 36) rfl rfl Try.func15 (by kernel_rfl) rfl #[.agg #[.int .i64 a1_0, .int .i64 a1_1, .slice A1_2 l1_2.length c1_2]] rfl (by (try simp only [List.map_toArray, List.map_cons, List.map_nil]); first | done | rfl | (simp only [List.length_drop, List.length_take]; rfl)) ?_; (with_reducible refine (laws_toChart.calls k a1_0 a1_1 _ _ l1_2 t574 t575 t576 _ ?side1 ?side2 A23.out).mono ?_); (case side1 => exact Kd.C_below HR1_2.out (by repeat (first | (with_reducible first | exact HB.out | apply below_alloc | apply pw_below_drewN | apply below_drew1 | refine below_set ?_ GE551.out | refine below_set ?_ GE552.out | refine below_set ?_ GE573.out) | exact HB.out))); (case side2 => exact HC1_2.out); rintro e w55 ⟨v577, rfl, ho0, hb⟩; refine ⟨_, rfl, ?_⟩; have n0_ := Aside0.mk (Kd.R_elder' (by (with_reducible repeat (first | apply Kd.R_alloc | apply Kd.R_drewN | apply Kd.R_drew)); exact (Kd.R_mono (Kd.R_far (p := ⟨gb573, 2, none⟩) (Kd.R_far (p := ⟨gb573, 1, none⟩) (Kd.R_far (p := ⟨gb573, 0, none⟩) (Kd.R_types HO559.out BK573.out (by decide)) (fun _ hk => hk.2) (.int .i64 t568)) (fun _ hk => hk.2) (.int .i64 t569)) (fun _ hk => hk.2) (.slice Ao53 t570.length co53)) (fun _ h_ => h_.1))) (Kd.R_base ho0) hb); have n1_ := Aside0.mk (Kd.R_elder' (by (with_reducible repeat (first | apply Kd.R_alloc | apply Kd.R_drewN | apply Kd.R_drew)); exact (Kd.R_mono (Kd.R_far (p := ⟨gb573, 2, none⟩) (Kd.R_far (p := ⟨gb573, 1, none⟩) (Kd.R_far (p := ⟨gb573, 0, none⟩) (Kd.R_types HO564.out BK573.out (by decide)) (fun _ hk => hk.2) (.int .i64 t568)) (fun _ hk => hk.2) (.int .i64 t569)) (fun _ hk => hk.2) (.slice Ao53 t570.length co53)) (fun _ h_ => h_.1))) (Kd.R_base ho0) hb); have n2_ := Aside0.mk (Kd.R_elder' (by (with_reducible repeat (first | apply Kd.R_alloc | apply Kd.R_drewN | apply Kd.R_drew)); exact (Kd.R_mono (Kd.R_far (p := ⟨gb573, 2, none⟩) (Kd.R_far (p := ⟨gb573, 1, none⟩) (Kd.R_far (p := ⟨gb573, 0, none⟩) (Kd.R_types HO572.out BK573.out (by decide)) (fun _ hk => hk.2) (.int .i64 t568)) (fun _ hk => hk.2) (.int .i64 t569)) (fun _ hk => hk.2) (.slice Ao53 t570.length co53)) (fun _ h_ => h_.1))) (Kd.R_base ho0) hb); have n3_ := Aside0.mk (Kd.R_lower (Kd.R_new' (Kd.R_new' (Kd.R_new' ho0 (Kd.R_lt (by (with_reducible repeat (first | apply Kd.R_alloc | apply Kd.R_drewN | apply Kd.R_drew)); exact (Kd.R_mono (Kd.R_far (p := ⟨gb573, 2, none⟩) (Kd.R_far (p := ⟨gb573, 1, none⟩) (Kd.R_far (p := ⟨gb573, 0, none⟩) (Kd.R_types HO559.out BK573.out (by decide)) (fun _ hk => hk.2) (.int .i64 t568)) (fun _ hk => hk.2) (.int .i64 t569)) (fun _ hk => hk.2) (.slice Ao53 t570.length co53)) (fun _ h_ => h_.1))))) (Kd.R_lt (by (with_reducible repeat (first | apply Kd.R_alloc | apply Kd.R_drewN | apply Kd.R_drew)); exact (Kd.R_mono (Kd.R_far (p := ⟨gb573, 2, none⟩) (Kd.R_far (p := ⟨gb573, 1, none⟩) (Kd.R_far (p := ⟨gb573, 0, none⟩) (Kd.R_types HO564.out BK573.out (by decide)) (fun _ hk => hk.2) (.int .i64 t568)) (fun _ hk => hk.2) (.int .i64 t569)) (fun _ hk => hk.2) (.slice Ao53 t570.length co53)) (fun _ h_ => h_.1))))) (Kd.R_lt (by (with_reducible repeat (first | apply Kd.R_alloc | apply Kd.R_drewN | apply Kd.R_drew)); exact (Kd.R_mono (Kd.R_far (p := ⟨gb573, 2, none⟩) (Kd.R_far (p := ⟨gb573, 1, none⟩) (Kd.R_far (p := ⟨gb573, 0, none⟩) (Kd.R_types HO572.out BK573.out (by decide)) (fun _ hk => hk.2) (.int .i64 t568)) (fun _ hk => hk.2) (.int .i64 t569)) (fun _ hk => hk.2) (.slice Ao53 t570.length co53)) (fun _ h_ => h_.1))))) (below_size (by repeat (first | (with_reducible first | exact HB.out | apply below_alloc | apply pw_below_drewN | apply below_drew1 | refine below_set ?_ GE551.out | refine below_set ?_ GE552.out | refine below_set ?_ GE573.out) | exact HB.out)))); have n4_ := Aside0.mk (blk_below (g := gb551) (o := .cells #[.int .i64 a0_0, .int .i64 a0_1, .slice A0_2 l0_2.length c0_2] 24 (0, 0)) (by (with_reducible repeat (first | refine blk_drewN ?_ _ | refine blk_drew ?_ | refine blk_alloc ?_ _)); refine blk_far ?_ NB551_573.out _; (with_reducible repeat (first | refine blk_drewN ?_ _ | refine blk_drew ?_ | refine blk_alloc ?_ _)); refine blk_far ?_ NB551_573.out _; (with_reducible repeat (first | refine blk_drewN ?_ _ | refine blk_drew ?_ | refine blk_alloc ?_ _)); refine blk_far ?_ NB551_573.out _; (with_reducible repeat (first | refine blk_drewN ?_ _ | refine blk_drew ?_ | refine blk_alloc ?_ _)); exact BK551.out) hb); have n5_ := Aside0.mk (blk_below (g := gb552) (o := .cells #[.int .i64 a1_0, .int .i64 a1_1, .slice A1_2 l1_2.length c1_2] 24 (0, 0)) (by (with_reducible repeat (first | refine blk_drewN ?_ _ | refine blk_drew ?_ | refine blk_alloc ?_ _)); refine blk_far ?_ NB552_573.out _; (with_reducible repeat (first | refine blk_drewN ?_ _ | refine blk_drew ?_ | refine blk_alloc ?_ _)); refine blk_far ?_ NB552_573.out _; (with_reducible repeat (first | refine blk_drewN ?_ _ | refine blk_drew ?_ | refine blk_alloc ?_ _)); refine blk_far ?_ NB552_573.out _; (with_reducible repeat (first | refine blk_drewN ?_ _ | refine blk_drew ?_ | refine blk_alloc ?_ _)); exact BK552.out) hb); have n6_ := Aside0.mk (blk_below (g := gb573) (o := .cells #[.int .i64 t568, .int .i64 t569, .slice Ao53 t570.length co53] 28 (0, 0)) (by (with_reducible repeat (first | refine blk_drewN ?_ _ | refine blk_drew ?_ | refine blk_alloc ?_ _)); refine blk_put (cs := #[.int .i64 t568, .int .i64 t569, .slice none 0 0]) ?_ 2 _ rfl; (with_reducible repeat (first | refine blk_drewN ?_ _ | refine blk_drew ?_ | refine blk_alloc ?_ _)); refine blk_put (cs := #[.int .i64 t568, .int .i64 0, .slice none 0 0]) ?_ 1 _ rfl; (with_reducible repeat (first | refine blk_drewN ?_ _ | refine blk_drew ?_ | refine blk_alloc ?_ _)); refine blk_put (cs := #[.int .i64 0, .int .i64 0, .slice none 0 0]) ?_ 0 _ rfl; (with_reducible repeat (first | refine blk_drewN ?_ _ | refine blk_drew ?_ | refine blk_alloc ?_ _)); exact BK573.out) hb); have n7_ := Aside0.mk (below_step (by repeat (first | (with_reducible first | exact HB.out | apply below_alloc | apply pw_below_drewN | apply below_drew1 | refine below_set ?_ GE551.out | refine below_set ?_ GE552.out | refine below_set ?_ GE573.out) | exact HB.out)) hb); clear HO559; clear HO564; clear HO572; clear BK551; clear BK552; clear BK573; clear HB; have HO559 := n0_; have HO564 := n1_; have HO572 := n2_; have HO578 := n3_; have BK551 := n4_; have BK552 := n5_; have BK573 := n6_; have HB := n7_; clear n0_ n1_ n2_ n3_ n4_ n5_ n6_ n7_; (try clear hb); (try clear hb2); (try clear hk); (try clear hi); (try clear ho0)) | ((with_reducible refine gate_dst (N := 10) rfl ?_); refine box_event ?hg (N := 10) ?hd (cs := #[.int .i64 0, .int .i64 0, .slice none 0 0]) (t := 28) ?hr ?_; (case hd => rfl); (case hg => rfl); (case hr => first | (go_simp; done) | (go_simp; rfl)); intro gb579 hg w56 hbox hb; have n0_ := Aside0.mk (Kd.R_below (by (with_reducible repeat (first | apply Kd.R_alloc | apply Kd.R_drewN | apply Kd.R_drew)); exact HO559.out) hb); have n1_ := Aside0.mk (Kd.R_below (by (with_reducible repeat (first | apply Kd.R_alloc | apply Kd.R_drewN | apply Kd.R_drew)); exact HO564.out) hb); have n2_ := Aside0.mk (Kd.R_below (by (with_reducible repeat (first | apply Kd.R_alloc | apply Kd.R_drewN | apply Kd.R_drew)); exact HO572.out) hb); have n3_ := Aside0.mk (Kd.R_below (by (with_reducible repeat (first | apply Kd.R_alloc | apply Kd.R_drewN | apply Kd.R_drew)); exact HO578.out) hb); have n4_ := Aside0.mk (blk_below (g := gb551) (o := .cells #[.int .i64 a0_0, .int .i64 a0_1, .slice A0_2 l0_2.length c0_2] 24 (0, 0)) (by (with_reducible repeat (first | refine blk_drewN ?_ _ | refine blk_drew ?_ | refine blk_alloc ?_ _)); exact BK551.out) hb); have n5_ := Aside0.mk (blk_below (g := gb552) (o := .cells #[.int .i64 a1_0, .int .i64 a1_1, .slice A1_2 l1_2.length c1_2] 24 (0, 0)) (by (with_reducible repeat (first | refine blk_drewN ?_ _ | refine blk_drew ?_ | refine blk_alloc ?_ _)); exact BK552.out) hb); have n6_ := Aside0.mk (blk_below (g := gb573) (o := .cells #[.int .i64 t568, .int .i64 t569, .slice Ao53 t570.length co53] 28 (0, 0)) (by (with_reducible repeat (first | refine blk_drewN ?_ _ | refine blk_drew ?_ | refine blk_alloc ?_ _)); exact BK573.out) hb); have n7_ := Aside0.mk (below_step (by repeat (first | (with_reducible first | exact HB.out | apply below_alloc | apply pw_below_drewN | apply below_drew1 | refine below_set ?_ GE551.out | refine below_set ?_ GE552.out | refine below_set ?_ GE573.out) | exact HB.out)) hb); have n8_ := Aside0.mk (hbox); have n9_ := Aside0.mk ((by rw [hg]; exact (below_size (by repeat (first | (with_reducible first | exact HB.out | apply below_alloc | apply pw_below_drewN | apply below_drew1 | refine below_set ?_ GE551.out | refine below_set ?_ GE552.out | refine below_set ?_ GE573.out) | exact HB.out))) : w.heap.size ≤ gb579)); have n10_ := Aside0.mk ((by rw [hg]; exact (below_size (by repeat (first | (with_reducible first | exact HB.out | apply below_alloc | apply pw_below_drewN | apply below_drew1 | refine below_set ?_ GE551.out | refine below_set ?_ GE552.out | refine below_set ?_ GE573.out) | exact HB.out))) : w.heap.size ≤ gb579)); have n11_ := Aside0.mk ((by rw [hg]; exact Nat.ne_of_lt (blk_lt (g := gb551) (o := .cells #[.int .i64 a0_0, .int .i64 a0_1, .slice A0_2 l0_2.length c0_2] 24 (0, 0)) (by (with_reducible repeat (first | refine blk_drewN ?_ _ | refine blk_drew ?_ | refine blk_alloc ?_ _)); exact BK551.out)) : gb551 ≠ gb579)); have n12_ := Aside0.mk ((by rw [hg]; exact Nat.ne_of_gt (blk_lt (g := gb551) (o := .cells #[.int .i64 a0_0, .int .i64 a0_1, .slice A0_2 l0_2.length c0_2] 24 (0, 0)) (by (with_reducible repeat (first | refine blk_drewN ?_ _ | refine blk_drew ?_ | refine blk_alloc ?_ _)); exact BK551.out)) : gb579 ≠ gb551)); have n13_ := Aside0.mk ((by rw [hg]; exact Nat.ne_of_lt (blk_lt (g := gb552) (o := .cells #[.int .i64 a1_0, .int .i64 a1_1, .slice A1_2 l1_2.length c1_2] 24 (0, 0)) (by (with_reducible repeat (first | refine blk_drewN ?_ _ | refine blk_drew ?_ | refine blk_alloc ?_ _)); exact BK552.out)) : gb552 ≠ gb579)); have n14_ := Aside0.mk ((by rw [hg]; exact Nat.ne_of_gt (blk_lt (g := gb552) (o := .cells #[.int .i64 a1_0, .int .i64 a1_1, .slice A1_2 l1_2.length c1_2] 24 (0, 0)) (by (with_reducible repeat (first | refine blk_drewN ?_ _ | refine blk_drew ?_ | refine blk_alloc ?_ _)); exact BK552.out)) : gb579 ≠ gb552)); have n15_ := Aside0.mk ((by rw [hg]; exact Nat.ne_of_lt (blk_lt (g := gb573) (o := .cells #[.int .i64 t568, .int .i64 t569, .slice Ao53 t570.length co53] 28 (0, 0)) (by (with_reducible repeat (first | refine blk_drewN ?_ _ | refine blk_drew ?_ | refine blk_alloc ?_ _)); exact BK573.out)) : gb573 ≠ gb579)); have n16_ := Aside0.mk ((by rw [hg]; exact Nat.ne_of_gt (blk_lt (g := gb573) (o := .cells #[.int .i64 t568, .int .i64 t569, .slice Ao53 t570.length co53] 28 (0, 0)) (by (with_reducible repeat (first | refine blk_drewN ?_ _ | refine blk_drew ?_ | refine blk_alloc ?_ _)); exact BK573.out)) : gb579 ≠ gb573)); clear HO559; clear HO564; clear HO572; clear HO578; clear BK551; clear BK552; clear BK573; clear HB; have HO559 := n0_; have HO564 := n1_; have HO572 := n2_; have HO578 := n3_; have BK551 := n4_; have BK552 := n5_; have BK573 := n6_; have HB := n7_; have BK579 := n8_; have GW579 := n9_; have GE579 := n10_; have NB551_579 := n11_; have NB579_551 := n12_; have NB552_579 := n13_; have NB579_552 := n14_; have NB573_579 := n15_; have NB579_573 := n16_; clear n0_ n1_ n2_ n3_ n4_ n5_ n6_ n7_ n8_ n9_ n10_ n11_ n12_ n13_ n14_ n15_ n16_; clear hb hbox hg; have hnb57 := NB579_551.out; have hnc57 := NB551_579.out; have hnb58 := NB579_552.out; have hnc58 := NB552_579.out; have hnb59 := NB579_573.out; have hnc59 := NB573_579.out; have hcz60_0 : w56.cell? ⟨gb579, 0, none⟩ = some (.int .i64 0) := (blk_cell BK579.out 0).trans rfl; have hcz60_1 : w56.cell? ⟨gb579, 1, none⟩ = some (.int .i64 0) := (blk_cell BK579.out 1).trans rfl; have hcz60_2 : w56.cell? ⟨gb579, 2, none⟩ = some (.slice none 0 0) := (blk_cell BK579.out 2).trans rfl; have hfz60_0 := blk_frozen BK579.out 0; have hfz60_1 := blk_frozen BK579.out 1; have hfz60_2 := blk_frozen BK579.out 2; obtain ⟨Ao61, co61, eo61⟩ := Kd.R_slice HO578.out; subst eo61; have hcz62_0 : w56.cell? ⟨gb573, 0, none⟩ = some (.int .i64 t568) := (blk_cell BK573.out 0).trans rfl; have hcz62_1 : w56.cell? ⟨gb573, 1, none⟩ = some (.int .i64 t569) := (blk_cell BK573.out 1).trans rfl; have hcz62_2 : w56.cell? ⟨gb573, 2, none⟩ = some (.slice Ao53 t570.length co53) := (blk_cell BK573.out 2).trans rfl; have hfz62_0 := blk_frozen BK573.out 0; have hfz62_1 := blk_frozen BK573.out 1; have hfz62_2 := blk_frozen BK573.out 2) | ((with_reducible refine gate_callee (f := 32) rfl ?_); refine goesL_ (some 40) rfl rfl Try.func32 (by kernel_rfl) rfl #[.agg #[.int .i64 t568, .int .i64 t569, .slice Ao53 t570.length co53], .agg #[.int .i64 t574, .int .i64 t575, .slice Ao61 t576.length co61]] rfl (by (try simp only [List.map_toArray, List.map_cons, List.map_nil]); first | done | rfl | (simp only [List.length_drop, List.length_take]; rfl)) ?_; (with_reducible refine (impl_BestShift.calls k t568 t569 _ _ t570 t574 t575 _ _ t576 t580 t581 t582 _ ?side1 ?side2 ?side3 ?side4 A24.out).mono ?_); (case side1 => refine (Kd.R_reads' (e := 3) (base := w.heap.size) (ok := fun k_ => (((True ∧ some k_ ≠ (.slice Ao44 t557.length co44 : Value).ownBlock) ∧ some k_ ≠ (.slice Ao45 t562.length co45 : Value).ownBlock) ∧ some k_ ≠ (.slice Ao61 t576.length co61 : Value).ownBlock)) (n := t570.length) (c := co53) ?_).2.2; exact (by (with_reducible repeat (first | apply Kd.R_alloc | apply Kd.R_drewN | apply Kd.R_drew)); exact (Kd.R_mono (Kd.R_far (p := ⟨gb579, 2, none⟩) (Kd.R_far (p := ⟨gb579, 1, none⟩) (Kd.R_far (p := ⟨gb579, 0, none⟩) (Kd.R_types HO572.out BK579.out (by decide)) (fun _ hk => hk.2) (.int .i64 t574)) (fun _ hk => hk.2) (.int .i64 t575)) (fun _ hk => hk.2) (.slice Ao61 t576.length co61)) (fun _ h_ => h_.1)))); (case side2 => exact (Kd.R_reads' HO572.out).2.1); (case side3 => refine (Kd.R_reads' (e := 3) (base := w.heap.size) (ok := fun k_ => (((True ∧ some k_ ≠ (.slice Ao44 t557.length co44 : Value).ownBlock) ∧ some k_ ≠ (.slice Ao45 t562.length co45 : Value).ownBlock) ∧ some k_ ≠ (.slice Ao53 t570.length co53 : Value).ownBlock)) (n := t576.length) (c := co61) ?_).2.2; exact (by (with_reducible repeat (first | apply Kd.R_alloc | apply Kd.R_drewN | apply Kd.R_drew)); exact (Kd.R_mono (Kd.R_far (p := ⟨gb579, 2, none⟩) (Kd.R_far (p := ⟨gb579, 1, none⟩) (Kd.R_far (p := ⟨gb579, 0, none⟩) (Kd.R_types HO578.out BK579.out (by decide)) (fun _ hk => hk.2) (.int .i64 t574)) (fun _ hk => hk.2) (.int .i64 t575)) (fun _ hk => hk.2) (.slice Ao61 t576.length co61)) (fun _ h_ => h_.1)))); (case side4 => exact (Kd.R_reads' HO578.out).2.1); rintro e w63 ⟨rfl, hb⟩; refine ⟨_, rfl, ?_⟩; have n0_ := Aside0.mk (Kd.R_below (by (with_reducible repeat (first | apply Kd.R_alloc | apply Kd.R_drewN | apply Kd.R_drew)); exact (Kd.R_mono (Kd.R_far (p := ⟨gb579, 2, none⟩) (Kd.R_far (p := ⟨gb579, 1, none⟩) (Kd.R_far (p := ⟨gb579, 0, none⟩) (Kd.R_types HO559.out BK579.out (by decide)) (fun _ hk => hk.2) (.int .i64 t574)) (fun _ hk => hk.2) (.int .i64 t575)) (fun _ hk => hk.2) (.slice Ao61 t576.length co61)) (fun _ h_ => h_.1))) hb); have n1_ := Aside0.mk (Kd.R_below (by (with_reducible repeat (first | apply Kd.R_alloc | apply Kd.R_drewN | apply Kd.R_drew)); exact (Kd.R_mono (Kd.R_far (p := ⟨gb579, 2, none⟩) (Kd.R_far (p := ⟨gb579, 1, none⟩) (Kd.R_far (p := ⟨gb579, 0, none⟩) (Kd.R_types HO564.out BK579.out (by decide)) (fun _ hk => hk.2) (.int .i64 t574)) (fun _ hk => hk.2) (.int .i64 t575)) (fun _ hk => hk.2) (.slice Ao61 t576.length co61)) (fun _ h_ => h_.1))) hb); have n2_ := Aside0.mk (Kd.R_below (by (with_reducible repeat (first | apply Kd.R_alloc | apply Kd.R_drewN | apply Kd.R_drew)); exact (Kd.R_mono (Kd.R_far (p := ⟨gb579, 2, none⟩) (Kd.R_far (p := ⟨gb579, 1, none⟩) (Kd.R_far (p := ⟨gb579, 0, none⟩) (Kd.R_types HO572.out BK579.out (by decide)) (fun _ hk => hk.2) (.int .i64 t574)) (fun _ hk => hk.2) (.int .i64 t575)) (fun _ hk => hk.2) (.slice Ao61 t576.length co61)) (fun _ h_ => h_.1))) hb); have n3_ := Aside0.mk (Kd.R_below (by (with_reducible repeat (first | apply Kd.R_alloc | apply Kd.R_drewN | apply Kd.R_drew)); exact (Kd.R_mono (Kd.R_far (p := ⟨gb579, 2, none⟩) (Kd.R_far (p := ⟨gb579, 1, none⟩) (Kd.R_far (p := ⟨gb579, 0, none⟩) (Kd.R_types HO578.out BK579.out (by decide)) (fun _ hk => hk.2) (.int .i64 t574)) (fun _ hk => hk.2) (.int .i64 t575)) (fun _ hk => hk.2) (.slice Ao61 t576.length co61)) (fun _ h_ => h_.1))) hb); have n4_ := Aside0.mk (blk_below (g := gb551) (o := .cells #[.int .i64 a0_0, .int .i64 a0_1, .slice A0_2 l0_2.length c0_2] 24 (0, 0)) (by (with_reducible repeat (first | refine blk_drewN ?_ _ | refine blk_drew ?_ | refine blk_alloc ?_ _)); refine blk_far ?_ NB551_579.out _; (with_reducible repeat (first | refine blk_drewN ?_ _ | refine blk_drew ?_ | refine blk_alloc ?_ _)); refine blk_far ?_ NB551_579.out _; (with_reducible repeat (first | refine blk_drewN ?_ _ | refine blk_drew ?_ | refine blk_alloc ?_ _)); refine blk_far ?_ NB551_579.out _; (with_reducible repeat (first | refine blk_drewN ?_ _ | refine blk_drew ?_ | refine blk_alloc ?_ _)); exact BK551.out) hb); have n5_ := Aside0.mk (blk_below (g := gb552) (o := .cells #[.int .i64 a1_0, .int .i64 a1_1, .slice A1_2 l1_2.length c1_2] 24 (0, 0)) (by (with_reducible repeat (first | refine blk_drewN ?_ _ | refine blk_drew ?_ | refine blk_alloc ?_ _)); refine blk_far ?_ NB552_579.out _; (with_reducible repeat (first | refine blk_drewN ?_ _ | refine blk_drew ?_ | refine blk_alloc ?_ _)); refine blk_far ?_ NB552_579.out _; (with_reducible repeat (first | refine blk_drewN ?_ _ | refine blk_drew ?_ | refine blk_alloc ?_ _)); refine blk_far ?_ NB552_579.out _; (with_reducible repeat (first | refine blk_drewN ?_ _ | refine blk_drew ?_ | refine blk_alloc ?_ _)); exact BK552.out) hb); have n6_ := Aside0.mk (blk_below (g := gb573) (o := .cells #[.int .i64 t568, .int .i64 t569, .slice Ao53 t570.length co53] 28 (0, 0)) (by (with_reducible repeat (first | refine blk_drewN ?_ _ | refine blk_drew ?_ | refine blk_alloc ?_ _)); refine blk_far ?_ NB573_579.out _; (with_reducible repeat (first | refine blk_drewN ?_ _ | refine blk_drew ?_ | refine blk_alloc ?_ _)); refine blk_far ?_ NB573_579.out _; (with_reducible repeat (first | refine blk_drewN ?_ _ | refine blk_drew ?_ | refine blk_alloc ?_ _)); refine blk_far ?_ NB573_579.out _; (with_reducible repeat (first | refine blk_drewN ?_ _ | refine blk_drew ?_ | refine blk_alloc ?_ _)); exact BK573.out) hb); have n7_ := Aside0.mk (blk_below (g := gb579) (o := .cells #[.int .i64 t574, .int .i64 t575, .slice Ao61 t576.length co61] 28 (0, 0)) (by (with_reducible repeat (first | refine blk_drewN ?_ _ | refine blk_drew ?_ | refine blk_alloc ?_ _)); refine blk_put (cs := #[.int .i64 t574, .int .i64 t575, .slice none 0 0]) ?_ 2 _ rfl; (with_reducible repeat (first | refine blk_drewN ?_ _ | refine blk_drew ?_ | refine blk_alloc ?_ _)); refine blk_put (cs := #[.int .i64 t574, .int .i64 0, .slice none 0 0]) ?_ 1 _ rfl; (with_reducible repeat (first | refine blk_drewN ?_ _ | refine blk_drew ?_ | refine blk_alloc ?_ _)); refine blk_put (cs := #[.int .i64 0, .int .i64 0, .slice none 0 0]) ?_ 0 _ rfl; (with_reducible repeat (first | refine blk_drewN ?_ _ | refine blk_drew ?_ | refine blk_alloc ?_ _)); exact BK579.out) hb); have n8_ := Aside0.mk (below_step (by repeat (first | (with_reducible first | exact HB.out | apply below_alloc | apply pw_below_drewN | apply below_drew1 | refine below_set ?_ GE551.out | refine below_set ?_ GE552.out | refine below_set ?_ GE573.out | refine below_set ?_ GE579.out) | exact HB.out)) hb); clear HO559; clear HO564; clear HO572; clear HO578; clear BK551; clear BK552; clear BK573; clear BK579; clear HB; have HO559 := n0_; have HO564 := n1_; have HO572 := n2_; have HO578 := n3_; have BK551 := n4_; have BK552 := n5_; have BK573 := n6_; have BK579 := n7_; have HB := n8_; clear n0_ n1_ n2_ n3_ n4_ n5_ n6_ n7_ n8_; (try clear hb); (try clear hb2); (try clear hk); (try clear hi)))
                have n0_ := Aside0.mk (Kd.R_drew HO559.out)
                have n1_ := Aside0.mk (Kd.R_drew HO564.out)
                have n2_ := Aside0.mk (Kd.R_drew HO572.out)
                have n3_ := Aside0.mk (Kd.R_drew HO578.out)
                have n4_ := Aside0.mk (blk_drew BK551.out)
                have n5_ := Aside0.mk (blk_drew BK552.out)
                have n6_ := Aside0.mk (blk_drew BK573.out)
                have n7_ := Aside0.mk (blk_drew BK579.out)
                have n8_ := Aside0.mk (below_drew1 HB.out)
                clear HO559
                clear HO564
                clear HO572
                clear HO578
                clear BK551
                clear BK552
                clear BK573
                clear BK579
                clear HB
                have HO559 := n0_
                have HO564 := n1_
                have HO572 := n2_
                have HO578 := n3_
                have BK551 := n4_
                have BK552 := n5_
                have BK573 := n6_
                have BK579 := n7_
                have HB := n8_
                clear n0_ n1_ n2_ n3_ n4_ n5_ n6_ n7_ n8_
                refine start_ (n := 5) (S := fun w' => w'.cell? ⟨gb573, 0, none⟩ = some (.int .i64 t568) ∧ w'.cell? ⟨gb573, 1, none⟩ = some (.int .i64 t569) ∧ w'.cell? ⟨gb573, 2, none⟩ = some (.slice Ao53 t570.length co53) ∧ w'.cell? ⟨gb551, 0, none⟩ = some (.int .i64 a0_0) ∧ w'.cell? ⟨gb551, 1, none⟩ = some (.int .i64 a0_1) ∧ w'.cell? ⟨gb551, 2, none⟩ = some (.slice A0_2 l0_2.length c0_2)) (ds := []) #[false, false, false, false, false] (by kernel_rfl) rfl rfl ⟨(blk_cell BK573.out 0).trans rfl, (blk_cell BK573.out 1).trans rfl, (blk_cell BK573.out 2).trans rfl, (blk_cell BK551.out 0).trans rfl, (blk_cell BK551.out 1).trans rfl, (blk_cell BK551.out 2).trans rfl⟩ (fun hHeld => ?_)
                generalize w63.drew = w64 at HO559 HO564 HO572 HO578 BK551 BK552 BK573 BK579 HB hHeld ⊢
                refine take_ (i := 0) (N := some 57) (v := ?_) (a' := ?_) #[true, false, false, false, false] rfl rfl (by kernel_rfl) (fun _ _ _ h => h) (Or.inl ⟨by rfl, ?_⟩) hHeld ?_ ?_
                rotate_left
                · rintro w' ⟨s0, s1, s2, s3, s4, s5⟩
                  go_simp
                  with_reducible rfl
                rotate_left
                · simp only [Act.put, List.setIfInBounds_toArray, List.set_cons_zero, List.set_cons_succ, i64_w, i32_w]
                  rfl
                refine take_ (i := 1) (N := some 58) (v := ?_) (a' := ?_) #[true, true, false, false, false] rfl rfl (by kernel_rfl) (fun _ _ _ h => h) (Or.inl ⟨by rfl, ?_⟩) hHeld ?_ ?_
                rotate_left
                · rintro w' ⟨s0, s1, s2, s3, s4, s5⟩
                  go_simp
                  with_reducible rfl
                rotate_left
                · simp only [Act.put, List.setIfInBounds_toArray, List.set_cons_zero, List.set_cons_succ, i64_w, i32_w]
                  rfl
                refine one_ (i := 2) (N := some 59) #[true, true, true, false, false] rfl rfl (by kernel_rfl) (by decide) (fun K hK => ?_)
                refine goes_ Try.func15 (by kernel_rfl) rfl #[.agg #[.int .i64 a0_0, .int .i64 a0_1, .slice A0_2 l0_2.length c0_2]] (by rfl) rfl rfl (by (try simp only [List.map_toArray, List.map_cons, List.map_nil]); first | done | rfl | (simp only [List.length_drop, List.length_take]; rfl)) ?_
                with_reducible refine (laws_toChart.calls k a0_0 a0_1 _ _ l0_2 t583 t584 t585 _ ?side1 ?side2 A28.out).mono ?_
                (case side1 => repeat (first | exact (Kd.C_below HR0_2.out HB.out) | (with_reducible refine Kd.C_alloc ?_ _) | (with_reducible refine Kd.C_drewN ?_ _) | (with_reducible refine Kd.C_drew ?_)))
                (case side2 => exact HC0_2.out)
                rintro e w65 ⟨v586, rfl, ho0, hb⟩
                refine ⟨_, rfl, ?_⟩
                have n0_ := Aside0.mk (Kd.R_elder' (by (with_reducible repeat (first | apply Kd.R_alloc | apply Kd.R_drewN | apply Kd.R_drew)); exact HO559.out) (Kd.R_base ho0) hb)
                have n1_ := Aside0.mk (Kd.R_elder' (by (with_reducible repeat (first | apply Kd.R_alloc | apply Kd.R_drewN | apply Kd.R_drew)); exact HO564.out) (Kd.R_base ho0) hb)
                have n2_ := Aside0.mk (Kd.R_elder' (by (with_reducible repeat (first | apply Kd.R_alloc | apply Kd.R_drewN | apply Kd.R_drew)); exact HO572.out) (Kd.R_base ho0) hb)
                have n3_ := Aside0.mk (Kd.R_elder' (by (with_reducible repeat (first | apply Kd.R_alloc | apply Kd.R_drewN | apply Kd.R_drew)); exact HO578.out) (Kd.R_base ho0) hb)
                have n4_ := Aside0.mk (Kd.R_lower (Kd.R_new' (Kd.R_new' (Kd.R_new' (Kd.R_new' ho0 (Kd.R_lt (by (with_reducible repeat (first | apply Kd.R_alloc | apply Kd.R_drewN | apply Kd.R_drew)); exact HO559.out))) (Kd.R_lt (by (with_reducible repeat (first | apply Kd.R_alloc | apply Kd.R_drewN | apply Kd.R_drew)); exact HO564.out))) (Kd.R_lt (by (with_reducible repeat (first | apply Kd.R_alloc | apply Kd.R_drewN | apply Kd.R_drew)); exact HO572.out))) (Kd.R_lt (by (with_reducible repeat (first | apply Kd.R_alloc | apply Kd.R_drewN | apply Kd.R_drew)); exact HO578.out))) (below_size (by repeat (first | (with_reducible first | exact HB.out | apply below_alloc | apply pw_below_drewN | apply below_drew1 | refine below_set ?_ GE551.out | refine below_set ?_ GE552.out | refine below_set ?_ GE573.out | refine below_set ?_ GE579.out) | exact HB.out))))
                have n5_ := Aside0.mk (blk_below (g := gb551) (o := .cells #[.int .i64 a0_0, .int .i64 a0_1, .slice A0_2 l0_2.length c0_2] 24 (0, 0)) (by (with_reducible repeat (first | refine blk_drewN ?_ _ | refine blk_drew ?_ | refine blk_alloc ?_ _)); exact BK551.out) hb)
                have n6_ := Aside0.mk (blk_below (g := gb552) (o := .cells #[.int .i64 a1_0, .int .i64 a1_1, .slice A1_2 l1_2.length c1_2] 24 (0, 0)) (by (with_reducible repeat (first | refine blk_drewN ?_ _ | refine blk_drew ?_ | refine blk_alloc ?_ _)); exact BK552.out) hb)
                have n7_ := Aside0.mk (blk_below (g := gb573) (o := .cells #[.int .i64 t568, .int .i64 t569, .slice Ao53 t570.length co53] 28 (0, 0)) (by (with_reducible repeat (first | refine blk_drewN ?_ _ | refine blk_drew ?_ | refine blk_alloc ?_ _)); exact BK573.out) hb)
                have n8_ := Aside0.mk (blk_below (g := gb579) (o := .cells #[.int .i64 t574, .int .i64 t575, .slice Ao61 t576.length co61] 28 (0, 0)) (by (with_reducible repeat (first | refine blk_drewN ?_ _ | refine blk_drew ?_ | refine blk_alloc ?_ _)); exact BK579.out) hb)
                have n9_ := Aside0.mk (below_step (by repeat (first | (with_reducible first | exact HB.out | apply below_alloc | apply pw_below_drewN | apply below_drew1 | refine below_set ?_ GE551.out | refine below_set ?_ GE552.out | refine below_set ?_ GE573.out | refine below_set ?_ GE579.out) | exact HB.out)) hb)
                clear HO559
                clear HO564
                clear HO572
                clear HO578
                clear BK551
                clear BK552
                clear BK573
                clear BK579
                clear HB
                have HO559 := n0_
                have HO564 := n1_
                have HO572 := n2_
                have HO578 := n3_
                have HO587 := n4_
                have BK551 := n5_
                have BK552 := n6_
                have BK573 := n7_
                have BK579 := n8_
                have HB := n9_
                clear n0_ n1_ n2_ n3_ n4_ n5_ n6_ n7_ n8_ n9_
                (try clear hb)
                (try clear hb2)
                (try clear hk)
                (try clear hi)
                (try clear ho0)
                obtain ⟨Ao66, co66, eo66⟩ := Kd.R_slice HO587.out
                (first | subst eo66 | (injection eo66 with f1_ f2_ f3_; have f4_ := f1_.symm; have f5_ := f3_.symm; clear f1_ f2_ f3_; subst f4_; subst f5_))
                refine hK.out _ _ ⟨(blk_cell BK573.out 0).trans rfl, (blk_cell BK573.out 1).trans rfl, (blk_cell BK573.out 2).trans rfl, (blk_cell BK551.out 0).trans rfl, (blk_cell BK551.out 1).trans rfl, (blk_cell BK551.out 2).trans rfl⟩ (fun hHeld => ?_)
                clear hK K
                refine norm_ (a' := ?_) ?_ ?_
                rotate_left
                · show Act.put _ (some 59) _ = _
                  simp only [Act.put, List.setIfInBounds_toArray, List.set_cons_zero, List.set_cons_succ, i64_w, i32_w]
                  rfl
                refine one_ (i := 3) (N := some 60) #[true, true, true, true, false] rfl rfl (by kernel_rfl) (by decide) (fun K hK => ?_)
                refine goes_ Try.func17 (by kernel_rfl) rfl #[.agg #[.int .i64 t568, .int .i64 t569, .slice Ao53 t570.length co53], .agg #[.int .i64 t583, .int .i64 t584, .slice Ao66 t585.length co66]] (by rfl) rfl rfl (by (try simp only [List.map_toArray, List.map_cons, List.map_nil]); first | done | rfl | (simp only [List.length_drop, List.length_take]; rfl)) ?_
                with_reducible refine (laws_eqChart.calls k t568 t569 _ _ t570 t583 t584 _ _ t585 true _ ?side1 ?side2 ?side3 ?side4 A29.out).mono ?_
                (case side1 => repeat (first | exact (Kd.R_reads' HO572.out).2.2 | (with_reducible refine Kd.C_alloc ?_ _) | (with_reducible refine Kd.C_drewN ?_ _) | (with_reducible refine Kd.C_drew ?_)))
                (case side2 => exact (Kd.R_reads' HO572.out).2.1)
                (case side3 => repeat (first | exact (Kd.R_reads' HO587.out).2.2 | (with_reducible refine Kd.C_alloc ?_ _) | (with_reducible refine Kd.C_drewN ?_ _) | (with_reducible refine Kd.C_drew ?_)))
                (case side4 => exact (Kd.R_reads' HO587.out).2.1)
                rintro e w67 ⟨rfl, hb⟩
                refine ⟨_, rfl, ?_⟩
                have n0_ := Aside0.mk (Kd.R_below (by (with_reducible repeat (first | apply Kd.R_alloc | apply Kd.R_drewN | apply Kd.R_drew)); exact HO559.out) hb)
                have n1_ := Aside0.mk (Kd.R_below (by (with_reducible repeat (first | apply Kd.R_alloc | apply Kd.R_drewN | apply Kd.R_drew)); exact HO564.out) hb)
                have n2_ := Aside0.mk (Kd.R_below (by (with_reducible repeat (first | apply Kd.R_alloc | apply Kd.R_drewN | apply Kd.R_drew)); exact HO572.out) hb)
                have n3_ := Aside0.mk (Kd.R_below (by (with_reducible repeat (first | apply Kd.R_alloc | apply Kd.R_drewN | apply Kd.R_drew)); exact HO578.out) hb)
                have n4_ := Aside0.mk (Kd.R_below (by (with_reducible repeat (first | apply Kd.R_alloc | apply Kd.R_drewN | apply Kd.R_drew)); exact HO587.out) hb)
                have n5_ := Aside0.mk (blk_below (g := gb551) (o := .cells #[.int .i64 a0_0, .int .i64 a0_1, .slice A0_2 l0_2.length c0_2] 24 (0, 0)) (by (with_reducible repeat (first | refine blk_drewN ?_ _ | refine blk_drew ?_ | refine blk_alloc ?_ _)); exact BK551.out) hb)
                have n6_ := Aside0.mk (blk_below (g := gb552) (o := .cells #[.int .i64 a1_0, .int .i64 a1_1, .slice A1_2 l1_2.length c1_2] 24 (0, 0)) (by (with_reducible repeat (first | refine blk_drewN ?_ _ | refine blk_drew ?_ | refine blk_alloc ?_ _)); exact BK552.out) hb)
                have n7_ := Aside0.mk (blk_below (g := gb573) (o := .cells #[.int .i64 t568, .int .i64 t569, .slice Ao53 t570.length co53] 28 (0, 0)) (by (with_reducible repeat (first | refine blk_drewN ?_ _ | refine blk_drew ?_ | refine blk_alloc ?_ _)); exact BK573.out) hb)
                have n8_ := Aside0.mk (blk_below (g := gb579) (o := .cells #[.int .i64 t574, .int .i64 t575, .slice Ao61 t576.length co61] 28 (0, 0)) (by (with_reducible repeat (first | refine blk_drewN ?_ _ | refine blk_drew ?_ | refine blk_alloc ?_ _)); exact BK579.out) hb)
                have n9_ := Aside0.mk (below_step (by repeat (first | (with_reducible first | exact HB.out | apply below_alloc | apply pw_below_drewN | apply below_drew1 | refine below_set ?_ GE551.out | refine below_set ?_ GE552.out | refine below_set ?_ GE573.out | refine below_set ?_ GE579.out) | exact HB.out)) hb)
                clear HO559
                clear HO564
                clear HO572
                clear HO578
                clear HO587
                clear BK551
                clear BK552
                clear BK573
                clear BK579
                clear HB
                have HO559 := n0_
                have HO564 := n1_
                have HO572 := n2_
                have HO578 := n3_
                have HO587 := n4_
                have BK551 := n5_
                have BK552 := n6_
                have BK573 := n7_
                have BK579 := n8_
                have HB := n9_
                clear n0_ n1_ n2_ n3_ n4_ n5_ n6_ n7_ n8_ n9_
                (try clear hb)
                (try clear hb2)
                (try clear hk)
                (try clear hi)
                refine hK.out _ _ ⟨(blk_cell BK573.out 0).trans rfl, (blk_cell BK573.out 1).trans rfl, (blk_cell BK573.out 2).trans rfl, (blk_cell BK551.out 0).trans rfl, (blk_cell BK551.out 1).trans rfl, (blk_cell BK551.out 2).trans rfl⟩ (fun hHeld => ?_)
                clear hK K
                refine norm_ (a' := ?_) ?_ ?_
                rotate_left
                · show Act.put _ (some 60) _ = _
                  simp only [Act.put, List.setIfInBounds_toArray, List.set_cons_zero, List.set_cons_succ, i64_w, i32_w]
                  rfl
                refine pure_ (i := 4) (N := some 61) (v := ?_) (a' := ?_) #[true, true, true, true, true] rfl rfl (by kernel_rfl) (fun _ _ _ h => h) (Or.inl ⟨by rfl, ?_⟩) ?_ ?_
                rotate_left
                · intro w'
                  go_simp
                  with_reducible rfl
                rotate_left
                · simp only [Act.put, List.setIfInBounds_toArray, List.set_cons_zero, List.set_cons_succ, i64_w, i32_w]
                  rfl
                refine done_ (by kernel_rfl) ?_
                try go_wp2
                have n0_ := Aside0.mk (Kd.R_drew HO559.out)
                have n1_ := Aside0.mk (Kd.R_drew HO564.out)
                have n2_ := Aside0.mk (Kd.R_drew HO572.out)
                have n3_ := Aside0.mk (Kd.R_drew HO578.out)
                have n4_ := Aside0.mk (Kd.R_drew HO587.out)
                have n5_ := Aside0.mk (blk_drew BK551.out)
                have n6_ := Aside0.mk (blk_drew BK552.out)
                have n7_ := Aside0.mk (blk_drew BK573.out)
                have n8_ := Aside0.mk (blk_drew BK579.out)
                have n9_ := Aside0.mk (below_drew1 HB.out)
                clear HO559
                clear HO564
                clear HO572
                clear HO578
                clear HO587
                clear BK551
                clear BK552
                clear BK573
                clear BK579
                clear HB
                have HO559 := n0_
                have HO564 := n1_
                have HO572 := n2_
                have HO578 := n3_
                have HO587 := n4_
                have BK551 := n5_
                have BK552 := n6_
                have BK573 := n7_
                have BK579 := n8_
                have HB := n9_
                clear n0_ n1_ n2_ n3_ n4_ n5_ n6_ n7_ n8_ n9_
                refine start_ (n := 5) (S := fun w' => w'.cell? ⟨gb579, 0, none⟩ = some (.int .i64 t574) ∧ w'.cell? ⟨gb579, 1, none⟩ = some (.int .i64 t575) ∧ w'.cell? ⟨gb579, 2, none⟩ = some (.slice Ao61 t576.length co61) ∧ w'.cell? ⟨gb552, 0, none⟩ = some (.int .i64 a1_0) ∧ w'.cell? ⟨gb552, 1, none⟩ = some (.int .i64 a1_1) ∧ w'.cell? ⟨gb552, 2, none⟩ = some (.slice A1_2 l1_2.length c1_2)) (ds := []) #[false, false, false, false, false] (by kernel_rfl) rfl rfl ⟨(blk_cell BK579.out 0).trans rfl, (blk_cell BK579.out 1).trans rfl, (blk_cell BK579.out 2).trans rfl, (blk_cell BK552.out 0).trans rfl, (blk_cell BK552.out 1).trans rfl, (blk_cell BK552.out 2).trans rfl⟩ (fun hHeld => ?_)
                generalize w67.drew = w68 at HO559 HO564 HO572 HO578 HO587 BK551 BK552 BK573 BK579 HB hHeld ⊢
                refine take_ (i := 0) (N := some 62) (v := ?_) (a' := ?_) #[true, false, false, false, false] rfl rfl (by kernel_rfl) (fun _ _ _ h => h) (Or.inl ⟨by rfl, ?_⟩) hHeld ?_ ?_
                rotate_left
                · rintro w' ⟨s0, s1, s2, s3, s4, s5⟩
                  go_simp
                  with_reducible rfl
                rotate_left
                · simp only [Act.put, List.setIfInBounds_toArray, List.set_cons_zero, List.set_cons_succ, i64_w, i32_w]
                  rfl
                refine take_ (i := 1) (N := some 63) (v := ?_) (a' := ?_) #[true, true, false, false, false] rfl rfl (by kernel_rfl) (fun _ _ _ h => h) (Or.inl ⟨by rfl, ?_⟩) hHeld ?_ ?_
                rotate_left
                · rintro w' ⟨s0, s1, s2, s3, s4, s5⟩
                  go_simp
                  with_reducible rfl
                rotate_left
                · simp only [Act.put, List.setIfInBounds_toArray, List.set_cons_zero, List.set_cons_succ, i64_w, i32_w]
                  rfl
                refine one_ (i := 2) (N := some 64) #[true, true, true, false, false] rfl rfl (by kernel_rfl) (by decide) (fun K hK => ?_)
                refine goes_ Try.func15 (by kernel_rfl) rfl #[.agg #[.int .i64 a1_0, .int .i64 a1_1, .slice A1_2 l1_2.length c1_2]] (by rfl) rfl rfl (by (try simp only [List.map_toArray, List.map_cons, List.map_nil]); first | done | rfl | (simp only [List.length_drop, List.length_take]; rfl)) ?_
                with_reducible refine (laws_toChart.calls k a1_0 a1_1 _ _ l1_2 t589 t590 t591 _ ?side1 ?side2 A31.out).mono ?_
                (case side1 => repeat (first | exact (Kd.C_below HR1_2.out HB.out) | (with_reducible refine Kd.C_alloc ?_ _) | (with_reducible refine Kd.C_drewN ?_ _) | (with_reducible refine Kd.C_drew ?_)))
                (case side2 => exact HC1_2.out)
                rintro e w69 ⟨v592, rfl, ho0, hb⟩
                refine ⟨_, rfl, ?_⟩
                have n0_ := Aside0.mk (Kd.R_elder' (by (with_reducible repeat (first | apply Kd.R_alloc | apply Kd.R_drewN | apply Kd.R_drew)); exact HO559.out) (Kd.R_base ho0) hb)
                have n1_ := Aside0.mk (Kd.R_elder' (by (with_reducible repeat (first | apply Kd.R_alloc | apply Kd.R_drewN | apply Kd.R_drew)); exact HO564.out) (Kd.R_base ho0) hb)
                have n2_ := Aside0.mk (Kd.R_elder' (by (with_reducible repeat (first | apply Kd.R_alloc | apply Kd.R_drewN | apply Kd.R_drew)); exact HO572.out) (Kd.R_base ho0) hb)
                have n3_ := Aside0.mk (Kd.R_elder' (by (with_reducible repeat (first | apply Kd.R_alloc | apply Kd.R_drewN | apply Kd.R_drew)); exact HO578.out) (Kd.R_base ho0) hb)
                have n4_ := Aside0.mk (Kd.R_elder' (by (with_reducible repeat (first | apply Kd.R_alloc | apply Kd.R_drewN | apply Kd.R_drew)); exact HO587.out) (Kd.R_base ho0) hb)
                have n5_ := Aside0.mk (Kd.R_lower (Kd.R_new' (Kd.R_new' (Kd.R_new' (Kd.R_new' (Kd.R_new' ho0 (Kd.R_lt (by (with_reducible repeat (first | apply Kd.R_alloc | apply Kd.R_drewN | apply Kd.R_drew)); exact HO559.out))) (Kd.R_lt (by (with_reducible repeat (first | apply Kd.R_alloc | apply Kd.R_drewN | apply Kd.R_drew)); exact HO564.out))) (Kd.R_lt (by (with_reducible repeat (first | apply Kd.R_alloc | apply Kd.R_drewN | apply Kd.R_drew)); exact HO572.out))) (Kd.R_lt (by (with_reducible repeat (first | apply Kd.R_alloc | apply Kd.R_drewN | apply Kd.R_drew)); exact HO578.out))) (Kd.R_lt (by (with_reducible repeat (first | apply Kd.R_alloc | apply Kd.R_drewN | apply Kd.R_drew)); exact HO587.out))) (below_size (by repeat (first | (with_reducible first | exact HB.out | apply below_alloc | apply pw_below_drewN | apply below_drew1 | refine below_set ?_ GE551.out | refine below_set ?_ GE552.out | refine below_set ?_ GE573.out | refine below_set ?_ GE579.out) | exact HB.out))))
                have n6_ := Aside0.mk (blk_below (g := gb551) (o := .cells #[.int .i64 a0_0, .int .i64 a0_1, .slice A0_2 l0_2.length c0_2] 24 (0, 0)) (by (with_reducible repeat (first | refine blk_drewN ?_ _ | refine blk_drew ?_ | refine blk_alloc ?_ _)); exact BK551.out) hb)
                have n7_ := Aside0.mk (blk_below (g := gb552) (o := .cells #[.int .i64 a1_0, .int .i64 a1_1, .slice A1_2 l1_2.length c1_2] 24 (0, 0)) (by (with_reducible repeat (first | refine blk_drewN ?_ _ | refine blk_drew ?_ | refine blk_alloc ?_ _)); exact BK552.out) hb)
                have n8_ := Aside0.mk (blk_below (g := gb573) (o := .cells #[.int .i64 t568, .int .i64 t569, .slice Ao53 t570.length co53] 28 (0, 0)) (by (with_reducible repeat (first | refine blk_drewN ?_ _ | refine blk_drew ?_ | refine blk_alloc ?_ _)); exact BK573.out) hb)
                have n9_ := Aside0.mk (blk_below (g := gb579) (o := .cells #[.int .i64 t574, .int .i64 t575, .slice Ao61 t576.length co61] 28 (0, 0)) (by (with_reducible repeat (first | refine blk_drewN ?_ _ | refine blk_drew ?_ | refine blk_alloc ?_ _)); exact BK579.out) hb)
                have n10_ := Aside0.mk (below_step (by repeat (first | (with_reducible first | exact HB.out | apply below_alloc | apply pw_below_drewN | apply below_drew1 | refine below_set ?_ GE551.out | refine below_set ?_ GE552.out | refine below_set ?_ GE573.out | refine below_set ?_ GE579.out) | exact HB.out)) hb)
                clear HO559
                clear HO564
                clear HO572
                clear HO578
                clear HO587
                clear BK551
                clear BK552
                clear BK573
                clear BK579
                clear HB
                have HO559 := n0_
                have HO564 := n1_
                have HO572 := n2_
                have HO578 := n3_
                have HO587 := n4_
                have HO593 := n5_
                have BK551 := n6_
                have BK552 := n7_
                have BK573 := n8_
                have BK579 := n9_
                have HB := n10_
                clear n0_ n1_ n2_ n3_ n4_ n5_ n6_ n7_ n8_ n9_ n10_
                (try clear hb)
                (try clear hb2)
                (try clear hk)
                (try clear hi)
                (try clear ho0)
                obtain ⟨Ao70, co70, eo70⟩ := Kd.R_slice HO593.out
                (first | subst eo70 | (injection eo70 with f1_ f2_ f3_; have f4_ := f1_.symm; have f5_ := f3_.symm; clear f1_ f2_ f3_; subst f4_; subst f5_))
                refine hK.out _ _ ⟨(blk_cell BK579.out 0).trans rfl, (blk_cell BK579.out 1).trans rfl, (blk_cell BK579.out 2).trans rfl, (blk_cell BK552.out 0).trans rfl, (blk_cell BK552.out 1).trans rfl, (blk_cell BK552.out 2).trans rfl⟩ (fun hHeld => ?_)
                clear hK K
                refine norm_ (a' := ?_) ?_ ?_
                rotate_left
                · show Act.put _ (some 64) _ = _
                  simp only [Act.put, List.setIfInBounds_toArray, List.set_cons_zero, List.set_cons_succ, i64_w, i32_w]
                  rfl
                refine one_ (i := 3) (N := some 65) #[true, true, true, true, false] rfl rfl (by kernel_rfl) (by decide) (fun K hK => ?_)
                refine goes_ Try.func17 (by kernel_rfl) rfl #[.agg #[.int .i64 t574, .int .i64 t575, .slice Ao61 t576.length co61], .agg #[.int .i64 t589, .int .i64 t590, .slice Ao70 t591.length co70]] (by rfl) rfl rfl (by (try simp only [List.map_toArray, List.map_cons, List.map_nil]); first | done | rfl | (simp only [List.length_drop, List.length_take]; rfl)) ?_
                with_reducible refine (laws_eqChart.calls k t574 t575 _ _ t576 t589 t590 _ _ t591 true _ ?side1 ?side2 ?side3 ?side4 A32.out).mono ?_
                (case side1 => repeat (first | exact (Kd.R_reads' HO578.out).2.2 | (with_reducible refine Kd.C_alloc ?_ _) | (with_reducible refine Kd.C_drewN ?_ _) | (with_reducible refine Kd.C_drew ?_)))
                (case side2 => exact (Kd.R_reads' HO578.out).2.1)
                (case side3 => repeat (first | exact (Kd.R_reads' HO593.out).2.2 | (with_reducible refine Kd.C_alloc ?_ _) | (with_reducible refine Kd.C_drewN ?_ _) | (with_reducible refine Kd.C_drew ?_)))
                (case side4 => exact (Kd.R_reads' HO593.out).2.1)
                rintro e w71 ⟨rfl, hb⟩
                refine ⟨_, rfl, ?_⟩
                have n0_ := Aside0.mk (Kd.R_below (by (with_reducible repeat (first | apply Kd.R_alloc | apply Kd.R_drewN | apply Kd.R_drew)); exact HO559.out) hb)
                have n1_ := Aside0.mk (Kd.R_below (by (with_reducible repeat (first | apply Kd.R_alloc | apply Kd.R_drewN | apply Kd.R_drew)); exact HO564.out) hb)
                have n2_ := Aside0.mk (Kd.R_below (by (with_reducible repeat (first | apply Kd.R_alloc | apply Kd.R_drewN | apply Kd.R_drew)); exact HO572.out) hb)
                have n3_ := Aside0.mk (Kd.R_below (by (with_reducible repeat (first | apply Kd.R_alloc | apply Kd.R_drewN | apply Kd.R_drew)); exact HO578.out) hb)
                have n4_ := Aside0.mk (Kd.R_below (by (with_reducible repeat (first | apply Kd.R_alloc | apply Kd.R_drewN | apply Kd.R_drew)); exact HO587.out) hb)
                have n5_ := Aside0.mk (Kd.R_below (by (with_reducible repeat (first | apply Kd.R_alloc | apply Kd.R_drewN | apply Kd.R_drew)); exact HO593.out) hb)
                have n6_ := Aside0.mk (blk_below (g := gb551) (o := .cells #[.int .i64 a0_0, .int .i64 a0_1, .slice A0_2 l0_2.length c0_2] 24 (0, 0)) (by (with_reducible repeat (first | refine blk_drewN ?_ _ | refine blk_drew ?_ | refine blk_alloc ?_ _)); exact BK551.out) hb)
                have n7_ := Aside0.mk (blk_below (g := gb552) (o := .cells #[.int .i64 a1_0, .int .i64 a1_1, .slice A1_2 l1_2.length c1_2] 24 (0, 0)) (by (with_reducible repeat (first | refine blk_drewN ?_ _ | refine blk_drew ?_ | refine blk_alloc ?_ _)); exact BK552.out) hb)
                have n8_ := Aside0.mk (blk_below (g := gb573) (o := .cells #[.int .i64 t568, .int .i64 t569, .slice Ao53 t570.length co53] 28 (0, 0)) (by (with_reducible repeat (first | refine blk_drewN ?_ _ | refine blk_drew ?_ | refine blk_alloc ?_ _)); exact BK573.out) hb)
                have n9_ := Aside0.mk (blk_below (g := gb579) (o := .cells #[.int .i64 t574, .int .i64 t575, .slice Ao61 t576.length co61] 28 (0, 0)) (by (with_reducible repeat (first | refine blk_drewN ?_ _ | refine blk_drew ?_ | refine blk_alloc ?_ _)); exact BK579.out) hb)
                have n10_ := Aside0.mk (below_step (by repeat (first | (with_reducible first | exact HB.out | apply below_alloc | apply pw_below_drewN | apply below_drew1 | refine below_set ?_ GE551.out | refine below_set ?_ GE552.out | refine below_set ?_ GE573.out | refine below_set ?_ GE579.out) | exact HB.out)) hb)
                clear HO559
                clear HO564
                clear HO572
                clear HO578
                clear HO587
                clear HO593
                clear BK551
                clear BK552
                clear BK573
                clear BK579
                clear HB
                have HO559 := n0_
                have HO564 := n1_
                have HO572 := n2_
                have HO578 := n3_
                have HO587 := n4_
                have HO593 := n5_
                have BK551 := n6_
                have BK552 := n7_
                have BK573 := n8_
                have BK579 := n9_
                have HB := n10_
                clear n0_ n1_ n2_ n3_ n4_ n5_ n6_ n7_ n8_ n9_ n10_
                (try clear hb)
                (try clear hb2)
                (try clear hk)
                (try clear hi)
                refine hK.out _ _ ⟨(blk_cell BK579.out 0).trans rfl, (blk_cell BK579.out 1).trans rfl, (blk_cell BK579.out 2).trans rfl, (blk_cell BK552.out 0).trans rfl, (blk_cell BK552.out 1).trans rfl, (blk_cell BK552.out 2).trans rfl⟩ (fun hHeld => ?_)
                clear hK K
                refine norm_ (a' := ?_) ?_ ?_
                rotate_left
                · show Act.put _ (some 65) _ = _
                  simp only [Act.put, List.setIfInBounds_toArray, List.set_cons_zero, List.set_cons_succ, i64_w, i32_w]
                  rfl
                refine pure_ (i := 4) (N := some 66) (v := ?_) (a' := ?_) #[true, true, true, true, true] rfl rfl (by kernel_rfl) (fun _ _ _ h => h) (Or.inl ⟨by rfl, ?_⟩) ?_ ?_
                rotate_left
                · intro w'
                  go_simp
                  with_reducible rfl
                rotate_left
                · simp only [Act.put, List.setIfInBounds_toArray, List.set_cons_zero, List.set_cons_succ, i64_w, i32_w]
                  rfl
                refine done_ (by kernel_rfl) ?_
                try go_wp2
                go_ret
                exact ⟨by first | rfl | (simp [errW_none, errW_some] <;> rfl) | (simp [*, errW_none, errW_some] <;> rfl), by repeat (first | (with_reducible first | exact HB.out | apply below_alloc | apply pw_below_drewN | apply below_drew1 | refine below_set ?_ GE551.out | refine below_set ?_ GE552.out | refine below_set ?_ GE573.out | refine below_set ?_ GE579.out) | exact HB.out)⟩
              · replace c33 := Bool.eq_false_iff.mpr c33
                subst c33
                have H1 : (none) = some r := by rw [if_neg (show ¬ (false = true) by decide)] at H; exact H
                clear H
                have H := H1
                clear H1
                exact absurd H (by simp)
            · replace c30 := Bool.eq_false_iff.mpr c30
              subst c30
              have H1 : (none) = some r := by rw [if_neg (show ¬ (false = true) by decide)] at H; exact H
              clear H
              have H := H1
              clear H1
              exact absurd H (by simp)
        · rw [if_neg c26] at H
          exact absurd H (by simp)
      · rw [if_neg c25] at H
        exact absurd H (by simp)

end Go.Proofs.Ytcjalfgnnabghaa.H
