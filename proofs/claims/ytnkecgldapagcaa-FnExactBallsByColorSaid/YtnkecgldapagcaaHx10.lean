-- Written by wip/hook.py of this repo: the kit's print over all of the seat's laws, with texts of this repo for what it does not take. Lean checks it.
import Derived.Test.YtnkecgldapagcaaHx0
import Derived.Test.YtnkecgldapagcaaHx1
import Derived.Test.YtnkecgldapagcaaHx5
import Derived.Test.YtnkecgldapagcaaHx7
import Derived.Test.YtnkecgldapagcaaHx9
import Derived.Test.YtnkecgldapagcaaWApart
import Derived.Test.YtnkecgldapagcaaWKept
import Derived.Test.YtnkecgldapagcaaWLast
import Derived.Test.YtnkecgldapagcaaWMore
import Derived.Test.YtnkecgldapagcaaWTab
import Derived.Test.YtnkecgldapagcaaWWords
namespace Go.Proofs.Ytnkecgldapagcaa.H
open Go.RowKit Go.Proofs.YtnkecgldapagcaaW.PrintWords Go.Proofs.YtnkecgldapagcaaW.PrintLast Go.Proofs.YtnkecgldapagcaaW.PrintMore
attribute [local go_sem] max2_int min2_int max_two min_two max_three min_three max_four min_four   -- for this text's walks alone
set_option linter.unusedVariables false
set_option linter.unusedSimpArgs false

/-! ### laws_FnExactBallsByColor: function 4 -/
def laws_FnExactBallsByColor.f (k : Nat) (a0_0 : Int) (a0_1 : Int) (l0_2 : List Int) (a1_0 : Int) (a1_1 : Int) (a1_2 : Int) (a1_3 : Int) : Option (Bool) := (laws_szChart.f a0_0 a0_1 l0_2 1048576).bind fun t290 => (if t290 < 0 then (some true) else ((laws_toChart.f k a0_0 a0_1 l0_2).bind fun bt291 => ((laws_toYarn.f a1_0 a1_1 a1_2 a1_3).bind fun bt296 => ((spec_BallsByColor.f k bt291.1 bt291.2.1 bt291.2.2 bt296.1 bt296.2.1 bt296.2.2.1 bt296.2.2.2).bind fun bt300 => ((laws_toChart.f k a0_0 a0_1 l0_2).bind fun bt304 => ((laws_toYarn.f a1_0 a1_1 a1_2 a1_3).bind fun bt310 => ((impl_BallsByColor.f k bt304.1 bt304.2.1 bt304.2.2 bt310.1 bt310.2.1 bt310.2.2.1 bt310.2.2.2).bind fun bt314 => ((laws_eqIntS.f k bt314.1 bt300.1).bind fun t318 => (if t318 = true then (if (bt314.2 != bt300.2) = true then (none) else ((laws_toChart.f k a0_0 a0_1 l0_2).bind fun bt319 => ((laws_eqChart.f k bt304.1 bt304.2.1 bt304.2.2 bt319.1 bt319.2.1 bt319.2.2).bind fun t324 => (if t324 = true then ((laws_markChart.f k bt304.1 bt304.2.1 bt304.2.2 1).bind fun bt325 => (if bt325.1 < 0 then (none) else ((laws_eqIntS.f k bt314.1 bt300.1).bind fun t327 => (if t327 = true then ((laws_markIntS.f k bt314.1 1).bind fun bt328 => ((laws_heldIntS.f k bt328.2 1).bind fun t330 => (if t330 < 0 then (none) else (if t330 = bt328.1 then ((laws_toChart.f k a0_0 a0_1 l0_2).bind fun bt331 => ((laws_toYarn.f a1_0 a1_1 a1_2 a1_3).bind fun bt336 => ((impl_BallsByColor.f k bt331.1 bt331.2.1 bt331.2.2 bt336.1 bt336.2.1 bt336.2.2.1 bt336.2.2.2).bind fun bt340 => ((laws_eqIntS.f k bt340.1 bt300.1).bind fun t344 => (if t344 = true then (if (bt340.2 != bt300.2) = true then (none) else ((laws_heldIntS.f k bt328.2 1).bind fun t345 => (if t345 < 0 then (none) else (if t345 = bt328.1 then (some true) else (none))))) else (none)))))) else (none))))) else (none))))) else (none))))) else (none))))))))))

def laws_FnExactBallsByColor.T5 : Bool × List (List Nat × List Nat) := (true, [([], []), ([0], [0]), ([], []), ([2, 1], [2]), ([1, 3, 3], [1, 3]), ([4], [4]), ([5], [5]), ([5], [5]), ([6, 4, 0, 1, 2, 3, 4, 5, 6], [6]), ([7, 8, 0, 1, 2, 3, 4, 5, 6, 7, 8], [7])])
def laws_FnExactBallsByColor.B5 : List Nat := [0, 1, 0, 7, 15, 31, 63, 63, 127, 511]
theorem laws_FnExactBallsByColor.tab5 : rtab .any (opsOf Try.f4 5) = laws_FnExactBallsByColor.T5 := by kernel_rfl
theorem laws_FnExactBallsByColor.bits5 : waitsOk laws_FnExactBallsByColor.T5.2 laws_FnExactBallsByColor.B5 = true := by kernel_rfl
def laws_FnExactBallsByColor.T7 : Bool × List (List Nat × List Nat) := (true, [([], []), ([], []), ([1], [1]), ([0, 2, 2], [0, 2]), ([3], [3]), ([4], [4]), ([4], [4]), ([5, 3, 0, 1, 2, 3, 4, 5], [5]), ([6, 7, 0, 1, 2, 3, 4, 5, 6, 7], [6])])
def laws_FnExactBallsByColor.B7 : List Nat := [0, 0, 2, 7, 15, 31, 31, 63, 255]
theorem laws_FnExactBallsByColor.tab7 : rtab .any (opsOf Try.f4 7) = laws_FnExactBallsByColor.T7 := by kernel_rfl
theorem laws_FnExactBallsByColor.bits7 : waitsOk laws_FnExactBallsByColor.T7.2 laws_FnExactBallsByColor.B7 = true := by kernel_rfl
def laws_FnExactBallsByColor.T24 : Bool × List (List Nat × List Nat) := (true, [([], []), ([0], [0]), ([], []), ([2, 1], [2]), ([1, 3, 3], [1, 3]), ([4], [4]), ([5], [5]), ([5], [5]), ([6, 4, 0, 1, 2, 3, 4, 5, 6], [6]), ([7, 8, 0, 1, 2, 3, 4, 5, 6, 7, 8], [7])])
def laws_FnExactBallsByColor.B24 : List Nat := [0, 1, 0, 7, 15, 31, 63, 63, 127, 511]
theorem laws_FnExactBallsByColor.tab24 : rtab .any (opsOf Try.f4 24) = laws_FnExactBallsByColor.T24 := by kernel_rfl
theorem laws_FnExactBallsByColor.bits24 : waitsOk laws_FnExactBallsByColor.T24.2 laws_FnExactBallsByColor.B24 = true := by kernel_rfl
set_option maxHeartbeats 8000000 in
set_option maxRecDepth 100000 in
theorem laws_FnExactBallsByColor.calls (k : Nat) (a0_0 : Int) (a0_1 : Int) (A0_2 : Option Addr) (c0_2 : Nat) (l0_2 : List Int) (a1_0 : Int) (a1_1 : Int) (a1_2 : Int) (a1_3 : Int) (r : Bool) (w : World) (hr0_2 : Kd.C (Kd.int .i64) w A0_2 l0_2.length l0_2) (hc0_2 : l0_2.length ≤ c0_2) (h : laws_FnExactBallsByColor.f k a0_0 a0_1 l0_2 a1_0 a1_1 a1_2 a1_3 = some r) :
    Calls Try.prog 4 #[.agg #[.int .i64 a0_0, .int .i64 a0_1, .slice A0_2 l0_2.length c0_2], .agg #[.int .i64 a1_0, .int .i64 a1_1, .int .i64 a1_2, .int .i64 a1_3]] w fun e w' => e = .returned (.bool r) ∧ Below w.heap.size w w' := by
  have hu24 := Try.underlying24
  have hu26 := Try.underlying26
  have hu30 := Try.underlying30
  have HR0_2 := Aside0.mk hr0_2
  have HC0_2 := Aside0.mk hc0_2
  clear hr0_2 hc0_2
  have HB := Aside0.mk (Below.refl w.heap.size w)
  have H : ((laws_szChart.f a0_0 a0_1 l0_2 1048576).bind fun t290 => (if t290 < 0 then (some true) else ((laws_toChart.f k a0_0 a0_1 l0_2).bind fun bt291 => ((laws_toYarn.f a1_0 a1_1 a1_2 a1_3).bind fun bt296 => ((spec_BallsByColor.f k bt291.1 bt291.2.1 bt291.2.2 bt296.1 bt296.2.1 bt296.2.2.1 bt296.2.2.2).bind fun bt300 => ((laws_toChart.f k a0_0 a0_1 l0_2).bind fun bt304 => ((laws_toYarn.f a1_0 a1_1 a1_2 a1_3).bind fun bt310 => ((impl_BallsByColor.f k bt304.1 bt304.2.1 bt304.2.2 bt310.1 bt310.2.1 bt310.2.2.1 bt310.2.2.2).bind fun bt314 => ((laws_eqIntS.f k bt314.1 bt300.1).bind fun t318 => (if t318 = true then (if (bt314.2 != bt300.2) = true then (none) else ((laws_toChart.f k a0_0 a0_1 l0_2).bind fun bt319 => ((laws_eqChart.f k bt304.1 bt304.2.1 bt304.2.2 bt319.1 bt319.2.1 bt319.2.2).bind fun t324 => (if t324 = true then ((laws_markChart.f k bt304.1 bt304.2.1 bt304.2.2 1).bind fun bt325 => (if bt325.1 < 0 then (none) else ((laws_eqIntS.f k bt314.1 bt300.1).bind fun t327 => (if t327 = true then ((laws_markIntS.f k bt314.1 1).bind fun bt328 => ((laws_heldIntS.f k bt328.2 1).bind fun t330 => (if t330 < 0 then (none) else (if t330 = bt328.1 then ((laws_toChart.f k a0_0 a0_1 l0_2).bind fun bt331 => ((laws_toYarn.f a1_0 a1_1 a1_2 a1_3).bind fun bt336 => ((impl_BallsByColor.f k bt331.1 bt331.2.1 bt331.2.2 bt336.1 bt336.2.1 bt336.2.2.1 bt336.2.2.2).bind fun bt340 => ((laws_eqIntS.f k bt340.1 bt300.1).bind fun t344 => (if t344 = true then (if (bt340.2 != bt300.2) = true then (none) else ((laws_heldIntS.f k bt328.2 1).bind fun t345 => (if t345 < 0 then (none) else (if t345 = bt328.1 then (some true) else (none))))) else (none)))))) else (none))))) else (none))))) else (none))))) else (none))))))))))) = some r := h
  clear h
  replace H := Option.bind_eq_some_iff.mp H
  obtain ⟨t290, A30, H⟩ := H
  replace H : (if t290 < 0 then (some true) else ((laws_toChart.f k a0_0 a0_1 l0_2).bind fun bt291 => ((laws_toYarn.f a1_0 a1_1 a1_2 a1_3).bind fun bt296 => ((spec_BallsByColor.f k bt291.1 bt291.2.1 bt291.2.2 bt296.1 bt296.2.1 bt296.2.2.1 bt296.2.2.2).bind fun bt300 => ((laws_toChart.f k a0_0 a0_1 l0_2).bind fun bt304 => ((laws_toYarn.f a1_0 a1_1 a1_2 a1_3).bind fun bt310 => ((impl_BallsByColor.f k bt304.1 bt304.2.1 bt304.2.2 bt310.1 bt310.2.1 bt310.2.2.1 bt310.2.2.2).bind fun bt314 => ((laws_eqIntS.f k bt314.1 bt300.1).bind fun t318 => (if t318 = true then (if (bt314.2 != bt300.2) = true then (none) else ((laws_toChart.f k a0_0 a0_1 l0_2).bind fun bt319 => ((laws_eqChart.f k bt304.1 bt304.2.1 bt304.2.2 bt319.1 bt319.2.1 bt319.2.2).bind fun t324 => (if t324 = true then ((laws_markChart.f k bt304.1 bt304.2.1 bt304.2.2 1).bind fun bt325 => (if bt325.1 < 0 then (none) else ((laws_eqIntS.f k bt314.1 bt300.1).bind fun t327 => (if t327 = true then ((laws_markIntS.f k bt314.1 1).bind fun bt328 => ((laws_heldIntS.f k bt328.2 1).bind fun t330 => (if t330 < 0 then (none) else (if t330 = bt328.1 then ((laws_toChart.f k a0_0 a0_1 l0_2).bind fun bt331 => ((laws_toYarn.f a1_0 a1_1 a1_2 a1_3).bind fun bt336 => ((impl_BallsByColor.f k bt331.1 bt331.2.1 bt331.2.2 bt336.1 bt336.2.1 bt336.2.2.1 bt336.2.2.2).bind fun bt340 => ((laws_eqIntS.f k bt340.1 bt300.1).bind fun t344 => (if t344 = true then (if (bt340.2 != bt300.2) = true then (none) else ((laws_heldIntS.f k bt328.2 1).bind fun t345 => (if t345 < 0 then (none) else (if t345 = bt328.1 then (some true) else (none))))) else (none)))))) else (none))))) else (none))))) else (none))))) else (none)))))))))) = some r := H
  have A3 := Aside0.mk A30
  clear A30
  by_cases c4 : t290 < 0
  · rw [if_pos c4] at H
    have c4b0 : decide (t290 < 0) = true := decide_eq_true c4
    clear c4
    obtain rfl := Option.some.inj H
    go_enter Try.func4, Try.ntmps4
    go_wp2_with (first | ((with_reducible refine gate_dst (N := 2) rfl ?_); refine box_event ?hg (N := 2) ?hd (cs := #[.int .i64 a0_0, .int .i64 a0_1, .slice A0_2 l0_2.length c0_2]) (t := 24) ?hr ?_; (case hd => rfl); (case hg => rfl); (case hr => first | (go_simp; done) | (go_simp; rfl)); intro gb288 hg w5 hbox hb; have n0_ := Aside0.mk (below_step (by repeat (first | (with_reducible first | exact HB.out | apply below_alloc | apply pw_below_drewN | apply below_drew1) | exact HB.out)) hb); have n1_ := Aside0.mk (hbox); have n2_ := Aside0.mk ((by rw [hg]; exact (below_size (by repeat (first | (with_reducible first | exact HB.out | apply below_alloc | apply pw_below_drewN | apply below_drew1) | exact HB.out))) : w.heap.size ≤ gb288)); have n3_ := Aside0.mk ((by rw [hg]; exact (below_size (by repeat (first | (with_reducible first | exact HB.out | apply below_alloc | apply pw_below_drewN | apply below_drew1) | exact HB.out))) : w.heap.size ≤ gb288)); clear HB; have HB := n0_; have BK288 := n1_; have GW288 := n2_; have GE288 := n3_; clear n0_ n1_ n2_ n3_; clear hb hbox hg) | ((with_reducible refine gate_dst (N := 3) rfl ?_); refine box_event ?hg (N := 3) ?hd (cs := #[.int .i64 a1_0, .int .i64 a1_1, .int .i64 a1_2, .int .i64 a1_3]) (t := 26) ?hr ?_; (case hd => rfl); (case hg => rfl); (case hr => first | (go_simp; done) | (go_simp; rfl)); intro gb289 hg w6 hbox hb; have n0_ := Aside0.mk (blk_below (g := gb288) (o := .cells #[.int .i64 a0_0, .int .i64 a0_1, .slice A0_2 l0_2.length c0_2] 24 (0, 0)) (by (with_reducible repeat (first | refine blk_drewN ?_ _ | refine blk_drew ?_ | refine blk_alloc ?_ _)); exact BK288.out) hb); have n1_ := Aside0.mk (below_step (by repeat (first | (with_reducible first | exact HB.out | apply below_alloc | apply pw_below_drewN | apply below_drew1 | refine below_set ?_ GE288.out) | exact HB.out)) hb); have n2_ := Aside0.mk (hbox); have n3_ := Aside0.mk ((by rw [hg]; exact (below_size (by repeat (first | (with_reducible first | exact HB.out | apply below_alloc | apply pw_below_drewN | apply below_drew1 | refine below_set ?_ GE288.out) | exact HB.out))) : w.heap.size ≤ gb289)); have n4_ := Aside0.mk ((by rw [hg]; exact (below_size (by repeat (first | (with_reducible first | exact HB.out | apply below_alloc | apply pw_below_drewN | apply below_drew1 | refine below_set ?_ GE288.out) | exact HB.out))) : w.heap.size ≤ gb289)); have n5_ := Aside0.mk ((by rw [hg]; exact Nat.ne_of_lt (blk_lt (g := gb288) (o := .cells #[.int .i64 a0_0, .int .i64 a0_1, .slice A0_2 l0_2.length c0_2] 24 (0, 0)) (by (with_reducible repeat (first | refine blk_drewN ?_ _ | refine blk_drew ?_ | refine blk_alloc ?_ _)); exact BK288.out)) : gb288 ≠ gb289)); have n6_ := Aside0.mk ((by rw [hg]; exact Nat.ne_of_gt (blk_lt (g := gb288) (o := .cells #[.int .i64 a0_0, .int .i64 a0_1, .slice A0_2 l0_2.length c0_2] 24 (0, 0)) (by (with_reducible repeat (first | refine blk_drewN ?_ _ | refine blk_drew ?_ | refine blk_alloc ?_ _)); exact BK288.out)) : gb289 ≠ gb288)); clear BK288; clear HB; have BK288 := n0_; have HB := n1_; have BK289 := n2_; have GW289 := n3_; have GE289 := n4_; have NB288_289 := n5_; have NB289_288 := n6_; clear n0_ n1_ n2_ n3_ n4_ n5_ n6_; clear hb hbox hg; have hnb7 := NB288_289.out; have hnc7 := NB289_288.out; have hcz8_0 : w6.cell? ⟨gb288, 0, none⟩ = some (.int .i64 a0_0) := (blk_cell BK288.out 0).trans rfl; have hcz8_1 : w6.cell? ⟨gb288, 1, none⟩ = some (.int .i64 a0_1) := (blk_cell BK288.out 1).trans rfl; have hcz8_2 : w6.cell? ⟨gb288, 2, none⟩ = some (.slice A0_2 l0_2.length c0_2) := (blk_cell BK288.out 2).trans rfl; have hfz8_0 := blk_frozen BK288.out 0; have hfz8_1 := blk_frozen BK288.out 1; have hfz8_2 := blk_frozen BK288.out 2) | ((with_reducible refine gate_callee (f := 11) rfl ?_); refine goesL_ (some 18) rfl rfl Try.func11 (by kernel_rfl) rfl #[.agg #[.int .i64 a0_0, .int .i64 a0_1, .slice A0_2 l0_2.length c0_2], .int .i64 1048576] rfl (by (try simp only [List.map_toArray, List.map_cons, List.map_nil]); first | done | rfl | (simp only [List.length_drop, List.length_take]; rfl)) ?_; (with_reducible refine (laws_szChart.calls a0_0 a0_1 _ _ l0_2 1048576 t290 _ ?side1 ?side2 A3.out).mono ?_); (case side1 => repeat (first | exact (Kd.C_below HR0_2.out HB.out) | (with_reducible refine Kd.C_alloc ?_ _) | (with_reducible refine Kd.C_drewN ?_ _) | (with_reducible refine Kd.C_drew ?_))); (case side2 => exact HC0_2.out); rintro e w9 ⟨rfl, hb⟩; refine ⟨_, rfl, ?_⟩; have n0_ := Aside0.mk (blk_below (g := gb288) (o := .cells #[.int .i64 a0_0, .int .i64 a0_1, .slice A0_2 l0_2.length c0_2] 24 (0, 0)) (by (with_reducible repeat (first | refine blk_drewN ?_ _ | refine blk_drew ?_ | refine blk_alloc ?_ _)); exact BK288.out) hb); have n1_ := Aside0.mk (blk_below (g := gb289) (o := .cells #[.int .i64 a1_0, .int .i64 a1_1, .int .i64 a1_2, .int .i64 a1_3] 26 (0, 0)) (by (with_reducible repeat (first | refine blk_drewN ?_ _ | refine blk_drew ?_ | refine blk_alloc ?_ _)); exact BK289.out) hb); have n2_ := Aside0.mk (below_step (by repeat (first | (with_reducible first | exact HB.out | apply below_alloc | apply pw_below_drewN | apply below_drew1 | refine below_set ?_ GE288.out | refine below_set ?_ GE289.out) | exact HB.out)) hb); clear BK288; clear BK289; clear HB; have BK288 := n0_; have BK289 := n1_; have HB := n2_; clear n0_ n1_ n2_; (try clear hb); (try clear hb2); (try clear hk); (try clear hi)))
    go_ret
    exact ⟨by first | rfl | (simp [errW_none, errW_some] <;> rfl) | (simp [*, errW_none, errW_some] <;> rfl), by repeat (first | (with_reducible first | exact HB.out | apply below_alloc | apply pw_below_drewN | apply below_drew1 | refine below_set ?_ GE288.out | refine below_set ?_ GE289.out) | exact HB.out)⟩
  · rw [if_neg c4] at H
    have c4b0 : decide (t290 < 0) = false := decide_eq_false c4
    clear c4
    replace H := Option.bind_eq_some_iff.mp H
    obtain ⟨⟨t291, t292, t293⟩, A100, H⟩ := H
    replace H : ((laws_toYarn.f a1_0 a1_1 a1_2 a1_3).bind fun bt296 => ((spec_BallsByColor.f k t291 t292 t293 bt296.1 bt296.2.1 bt296.2.2.1 bt296.2.2.2).bind fun bt300 => ((laws_toChart.f k a0_0 a0_1 l0_2).bind fun bt304 => ((laws_toYarn.f a1_0 a1_1 a1_2 a1_3).bind fun bt310 => ((impl_BallsByColor.f k bt304.1 bt304.2.1 bt304.2.2 bt310.1 bt310.2.1 bt310.2.2.1 bt310.2.2.2).bind fun bt314 => ((laws_eqIntS.f k bt314.1 bt300.1).bind fun t318 => (if t318 = true then (if (bt314.2 != bt300.2) = true then (none) else ((laws_toChart.f k a0_0 a0_1 l0_2).bind fun bt319 => ((laws_eqChart.f k bt304.1 bt304.2.1 bt304.2.2 bt319.1 bt319.2.1 bt319.2.2).bind fun t324 => (if t324 = true then ((laws_markChart.f k bt304.1 bt304.2.1 bt304.2.2 1).bind fun bt325 => (if bt325.1 < 0 then (none) else ((laws_eqIntS.f k bt314.1 bt300.1).bind fun t327 => (if t327 = true then ((laws_markIntS.f k bt314.1 1).bind fun bt328 => ((laws_heldIntS.f k bt328.2 1).bind fun t330 => (if t330 < 0 then (none) else (if t330 = bt328.1 then ((laws_toChart.f k a0_0 a0_1 l0_2).bind fun bt331 => ((laws_toYarn.f a1_0 a1_1 a1_2 a1_3).bind fun bt336 => ((impl_BallsByColor.f k bt331.1 bt331.2.1 bt331.2.2 bt336.1 bt336.2.1 bt336.2.2.1 bt336.2.2.2).bind fun bt340 => ((laws_eqIntS.f k bt340.1 bt300.1).bind fun t344 => (if t344 = true then (if (bt340.2 != bt300.2) = true then (none) else ((laws_heldIntS.f k bt328.2 1).bind fun t345 => (if t345 < 0 then (none) else (if t345 = bt328.1 then (some true) else (none))))) else (none)))))) else (none))))) else (none))))) else (none))))) else (none)))))))) = some r := H
    have A10 := Aside0.mk A100
    clear A100
    replace H := Option.bind_eq_some_iff.mp H
    obtain ⟨⟨t296, t297, t298, t299⟩, A110, H⟩ := H
    replace H : ((spec_BallsByColor.f k t291 t292 t293 t296 t297 t298 t299).bind fun bt300 => ((laws_toChart.f k a0_0 a0_1 l0_2).bind fun bt304 => ((laws_toYarn.f a1_0 a1_1 a1_2 a1_3).bind fun bt310 => ((impl_BallsByColor.f k bt304.1 bt304.2.1 bt304.2.2 bt310.1 bt310.2.1 bt310.2.2.1 bt310.2.2.2).bind fun bt314 => ((laws_eqIntS.f k bt314.1 bt300.1).bind fun t318 => (if t318 = true then (if (bt314.2 != bt300.2) = true then (none) else ((laws_toChart.f k a0_0 a0_1 l0_2).bind fun bt319 => ((laws_eqChart.f k bt304.1 bt304.2.1 bt304.2.2 bt319.1 bt319.2.1 bt319.2.2).bind fun t324 => (if t324 = true then ((laws_markChart.f k bt304.1 bt304.2.1 bt304.2.2 1).bind fun bt325 => (if bt325.1 < 0 then (none) else ((laws_eqIntS.f k bt314.1 bt300.1).bind fun t327 => (if t327 = true then ((laws_markIntS.f k bt314.1 1).bind fun bt328 => ((laws_heldIntS.f k bt328.2 1).bind fun t330 => (if t330 < 0 then (none) else (if t330 = bt328.1 then ((laws_toChart.f k a0_0 a0_1 l0_2).bind fun bt331 => ((laws_toYarn.f a1_0 a1_1 a1_2 a1_3).bind fun bt336 => ((impl_BallsByColor.f k bt331.1 bt331.2.1 bt331.2.2 bt336.1 bt336.2.1 bt336.2.2.1 bt336.2.2.2).bind fun bt340 => ((laws_eqIntS.f k bt340.1 bt300.1).bind fun t344 => (if t344 = true then (if (bt340.2 != bt300.2) = true then (none) else ((laws_heldIntS.f k bt328.2 1).bind fun t345 => (if t345 < 0 then (none) else (if t345 = bt328.1 then (some true) else (none))))) else (none)))))) else (none))))) else (none))))) else (none))))) else (none))))))) = some r := H
    have A11 := Aside0.mk A110
    clear A110
    replace H := Option.bind_eq_some_iff.mp H
    obtain ⟨⟨t300, t303⟩, A120, H⟩ := H
    replace H : ((laws_toChart.f k a0_0 a0_1 l0_2).bind fun bt304 => ((laws_toYarn.f a1_0 a1_1 a1_2 a1_3).bind fun bt310 => ((impl_BallsByColor.f k bt304.1 bt304.2.1 bt304.2.2 bt310.1 bt310.2.1 bt310.2.2.1 bt310.2.2.2).bind fun bt314 => ((laws_eqIntS.f k bt314.1 t300).bind fun t318 => (if t318 = true then (if (bt314.2 != t303) = true then (none) else ((laws_toChart.f k a0_0 a0_1 l0_2).bind fun bt319 => ((laws_eqChart.f k bt304.1 bt304.2.1 bt304.2.2 bt319.1 bt319.2.1 bt319.2.2).bind fun t324 => (if t324 = true then ((laws_markChart.f k bt304.1 bt304.2.1 bt304.2.2 1).bind fun bt325 => (if bt325.1 < 0 then (none) else ((laws_eqIntS.f k bt314.1 t300).bind fun t327 => (if t327 = true then ((laws_markIntS.f k bt314.1 1).bind fun bt328 => ((laws_heldIntS.f k bt328.2 1).bind fun t330 => (if t330 < 0 then (none) else (if t330 = bt328.1 then ((laws_toChart.f k a0_0 a0_1 l0_2).bind fun bt331 => ((laws_toYarn.f a1_0 a1_1 a1_2 a1_3).bind fun bt336 => ((impl_BallsByColor.f k bt331.1 bt331.2.1 bt331.2.2 bt336.1 bt336.2.1 bt336.2.2.1 bt336.2.2.2).bind fun bt340 => ((laws_eqIntS.f k bt340.1 t300).bind fun t344 => (if t344 = true then (if (bt340.2 != t303) = true then (none) else ((laws_heldIntS.f k bt328.2 1).bind fun t345 => (if t345 < 0 then (none) else (if t345 = bt328.1 then (some true) else (none))))) else (none)))))) else (none))))) else (none))))) else (none))))) else (none)))))) = some r := H
    have A12 := Aside0.mk A120
    clear A120
    replace H := Option.bind_eq_some_iff.mp H
    obtain ⟨⟨t304, t305, t306⟩, A130, H⟩ := H
    replace H : ((laws_toYarn.f a1_0 a1_1 a1_2 a1_3).bind fun bt310 => ((impl_BallsByColor.f k t304 t305 t306 bt310.1 bt310.2.1 bt310.2.2.1 bt310.2.2.2).bind fun bt314 => ((laws_eqIntS.f k bt314.1 t300).bind fun t318 => (if t318 = true then (if (bt314.2 != t303) = true then (none) else ((laws_toChart.f k a0_0 a0_1 l0_2).bind fun bt319 => ((laws_eqChart.f k t304 t305 t306 bt319.1 bt319.2.1 bt319.2.2).bind fun t324 => (if t324 = true then ((laws_markChart.f k t304 t305 t306 1).bind fun bt325 => (if bt325.1 < 0 then (none) else ((laws_eqIntS.f k bt314.1 t300).bind fun t327 => (if t327 = true then ((laws_markIntS.f k bt314.1 1).bind fun bt328 => ((laws_heldIntS.f k bt328.2 1).bind fun t330 => (if t330 < 0 then (none) else (if t330 = bt328.1 then ((laws_toChart.f k a0_0 a0_1 l0_2).bind fun bt331 => ((laws_toYarn.f a1_0 a1_1 a1_2 a1_3).bind fun bt336 => ((impl_BallsByColor.f k bt331.1 bt331.2.1 bt331.2.2 bt336.1 bt336.2.1 bt336.2.2.1 bt336.2.2.2).bind fun bt340 => ((laws_eqIntS.f k bt340.1 t300).bind fun t344 => (if t344 = true then (if (bt340.2 != t303) = true then (none) else ((laws_heldIntS.f k bt328.2 1).bind fun t345 => (if t345 < 0 then (none) else (if t345 = bt328.1 then (some true) else (none))))) else (none)))))) else (none))))) else (none))))) else (none))))) else (none))))) = some r := H
    have A13 := Aside0.mk A130
    clear A130
    replace H := Option.bind_eq_some_iff.mp H
    obtain ⟨⟨t310, t311, t312, t313⟩, A140, H⟩ := H
    replace H : ((impl_BallsByColor.f k t304 t305 t306 t310 t311 t312 t313).bind fun bt314 => ((laws_eqIntS.f k bt314.1 t300).bind fun t318 => (if t318 = true then (if (bt314.2 != t303) = true then (none) else ((laws_toChart.f k a0_0 a0_1 l0_2).bind fun bt319 => ((laws_eqChart.f k t304 t305 t306 bt319.1 bt319.2.1 bt319.2.2).bind fun t324 => (if t324 = true then ((laws_markChart.f k t304 t305 t306 1).bind fun bt325 => (if bt325.1 < 0 then (none) else ((laws_eqIntS.f k bt314.1 t300).bind fun t327 => (if t327 = true then ((laws_markIntS.f k bt314.1 1).bind fun bt328 => ((laws_heldIntS.f k bt328.2 1).bind fun t330 => (if t330 < 0 then (none) else (if t330 = bt328.1 then ((laws_toChart.f k a0_0 a0_1 l0_2).bind fun bt331 => ((laws_toYarn.f a1_0 a1_1 a1_2 a1_3).bind fun bt336 => ((impl_BallsByColor.f k bt331.1 bt331.2.1 bt331.2.2 bt336.1 bt336.2.1 bt336.2.2.1 bt336.2.2.2).bind fun bt340 => ((laws_eqIntS.f k bt340.1 t300).bind fun t344 => (if t344 = true then (if (bt340.2 != t303) = true then (none) else ((laws_heldIntS.f k bt328.2 1).bind fun t345 => (if t345 < 0 then (none) else (if t345 = bt328.1 then (some true) else (none))))) else (none)))))) else (none))))) else (none))))) else (none))))) else (none)))) = some r := H
    have A14 := Aside0.mk A140
    clear A140
    replace H := Option.bind_eq_some_iff.mp H
    obtain ⟨⟨t314, t317⟩, A150, H⟩ := H
    replace H : ((laws_eqIntS.f k t314 t300).bind fun t318 => (if t318 = true then (if (t317 != t303) = true then (none) else ((laws_toChart.f k a0_0 a0_1 l0_2).bind fun bt319 => ((laws_eqChart.f k t304 t305 t306 bt319.1 bt319.2.1 bt319.2.2).bind fun t324 => (if t324 = true then ((laws_markChart.f k t304 t305 t306 1).bind fun bt325 => (if bt325.1 < 0 then (none) else ((laws_eqIntS.f k t314 t300).bind fun t327 => (if t327 = true then ((laws_markIntS.f k t314 1).bind fun bt328 => ((laws_heldIntS.f k bt328.2 1).bind fun t330 => (if t330 < 0 then (none) else (if t330 = bt328.1 then ((laws_toChart.f k a0_0 a0_1 l0_2).bind fun bt331 => ((laws_toYarn.f a1_0 a1_1 a1_2 a1_3).bind fun bt336 => ((impl_BallsByColor.f k bt331.1 bt331.2.1 bt331.2.2 bt336.1 bt336.2.1 bt336.2.2.1 bt336.2.2.2).bind fun bt340 => ((laws_eqIntS.f k bt340.1 t300).bind fun t344 => (if t344 = true then (if (bt340.2 != t303) = true then (none) else ((laws_heldIntS.f k bt328.2 1).bind fun t345 => (if t345 < 0 then (none) else (if t345 = bt328.1 then (some true) else (none))))) else (none)))))) else (none))))) else (none))))) else (none))))) else (none))) = some r := H
    have A15 := Aside0.mk A150
    clear A150
    replace H := Option.bind_eq_some_iff.mp H
    obtain ⟨t318, A160, H⟩ := H
    replace H : (if t318 = true then (if (t317 != t303) = true then (none) else ((laws_toChart.f k a0_0 a0_1 l0_2).bind fun bt319 => ((laws_eqChart.f k t304 t305 t306 bt319.1 bt319.2.1 bt319.2.2).bind fun t324 => (if t324 = true then ((laws_markChart.f k t304 t305 t306 1).bind fun bt325 => (if bt325.1 < 0 then (none) else ((laws_eqIntS.f k t314 t300).bind fun t327 => (if t327 = true then ((laws_markIntS.f k t314 1).bind fun bt328 => ((laws_heldIntS.f k bt328.2 1).bind fun t330 => (if t330 < 0 then (none) else (if t330 = bt328.1 then ((laws_toChart.f k a0_0 a0_1 l0_2).bind fun bt331 => ((laws_toYarn.f a1_0 a1_1 a1_2 a1_3).bind fun bt336 => ((impl_BallsByColor.f k bt331.1 bt331.2.1 bt331.2.2 bt336.1 bt336.2.1 bt336.2.2.1 bt336.2.2.2).bind fun bt340 => ((laws_eqIntS.f k bt340.1 t300).bind fun t344 => (if t344 = true then (if (bt340.2 != t303) = true then (none) else ((laws_heldIntS.f k bt328.2 1).bind fun t345 => (if t345 < 0 then (none) else (if t345 = bt328.1 then (some true) else (none))))) else (none)))))) else (none))))) else (none))))) else (none))))) else (none)) = some r := H
    have A16 := Aside0.mk A160
    clear A160
    by_cases c17 : t318 = true
    · subst c17
      have H1 : (if (t317 != t303) = true then (none) else ((laws_toChart.f k a0_0 a0_1 l0_2).bind fun bt319 => ((laws_eqChart.f k t304 t305 t306 bt319.1 bt319.2.1 bt319.2.2).bind fun t324 => (if t324 = true then ((laws_markChart.f k t304 t305 t306 1).bind fun bt325 => (if bt325.1 < 0 then (none) else ((laws_eqIntS.f k t314 t300).bind fun t327 => (if t327 = true then ((laws_markIntS.f k t314 1).bind fun bt328 => ((laws_heldIntS.f k bt328.2 1).bind fun t330 => (if t330 < 0 then (none) else (if t330 = bt328.1 then ((laws_toChart.f k a0_0 a0_1 l0_2).bind fun bt331 => ((laws_toYarn.f a1_0 a1_1 a1_2 a1_3).bind fun bt336 => ((impl_BallsByColor.f k bt331.1 bt331.2.1 bt331.2.2 bt336.1 bt336.2.1 bt336.2.2.1 bt336.2.2.2).bind fun bt340 => ((laws_eqIntS.f k bt340.1 t300).bind fun t344 => (if t344 = true then (if (bt340.2 != t303) = true then (none) else ((laws_heldIntS.f k bt328.2 1).bind fun t345 => (if t345 < 0 then (none) else (if t345 = bt328.1 then (some true) else (none))))) else (none)))))) else (none))))) else (none))))) else (none))))) = some r := by rw [if_pos rfl] at H; exact H
      clear H
      have H := H1
      clear H1
      by_cases c18 : (t317 != t303) = true
      · rw [if_pos c18] at H
        exact absurd H (by simp)
      · rw [if_neg c18] at H
        have c18b0 : (t317 != t303) = false := by simpa using c18
        (try (have c18b1 : decide (t317 = t303) = true := by simpa using c18))
        (try (have c18b2 : (t317 == t303) = true := by simpa using c18))
        clear c18
        replace H := Option.bind_eq_some_iff.mp H
        obtain ⟨⟨t319, t320, t321⟩, A190, H⟩ := H
        replace H : ((laws_eqChart.f k t304 t305 t306 t319 t320 t321).bind fun t324 => (if t324 = true then ((laws_markChart.f k t304 t305 t306 1).bind fun bt325 => (if bt325.1 < 0 then (none) else ((laws_eqIntS.f k t314 t300).bind fun t327 => (if t327 = true then ((laws_markIntS.f k t314 1).bind fun bt328 => ((laws_heldIntS.f k bt328.2 1).bind fun t330 => (if t330 < 0 then (none) else (if t330 = bt328.1 then ((laws_toChart.f k a0_0 a0_1 l0_2).bind fun bt331 => ((laws_toYarn.f a1_0 a1_1 a1_2 a1_3).bind fun bt336 => ((impl_BallsByColor.f k bt331.1 bt331.2.1 bt331.2.2 bt336.1 bt336.2.1 bt336.2.2.1 bt336.2.2.2).bind fun bt340 => ((laws_eqIntS.f k bt340.1 t300).bind fun t344 => (if t344 = true then (if (bt340.2 != t303) = true then (none) else ((laws_heldIntS.f k bt328.2 1).bind fun t345 => (if t345 < 0 then (none) else (if t345 = bt328.1 then (some true) else (none))))) else (none)))))) else (none))))) else (none))))) else (none))) = some r := H
        have A19 := Aside0.mk A190
        clear A190
        replace H := Option.bind_eq_some_iff.mp H
        obtain ⟨t324, A200, H⟩ := H
        replace H : (if t324 = true then ((laws_markChart.f k t304 t305 t306 1).bind fun bt325 => (if bt325.1 < 0 then (none) else ((laws_eqIntS.f k t314 t300).bind fun t327 => (if t327 = true then ((laws_markIntS.f k t314 1).bind fun bt328 => ((laws_heldIntS.f k bt328.2 1).bind fun t330 => (if t330 < 0 then (none) else (if t330 = bt328.1 then ((laws_toChart.f k a0_0 a0_1 l0_2).bind fun bt331 => ((laws_toYarn.f a1_0 a1_1 a1_2 a1_3).bind fun bt336 => ((impl_BallsByColor.f k bt331.1 bt331.2.1 bt331.2.2 bt336.1 bt336.2.1 bt336.2.2.1 bt336.2.2.2).bind fun bt340 => ((laws_eqIntS.f k bt340.1 t300).bind fun t344 => (if t344 = true then (if (bt340.2 != t303) = true then (none) else ((laws_heldIntS.f k bt328.2 1).bind fun t345 => (if t345 < 0 then (none) else (if t345 = bt328.1 then (some true) else (none))))) else (none)))))) else (none))))) else (none))))) else (none)) = some r := H
        have A20 := Aside0.mk A200
        clear A200
        by_cases c21 : t324 = true
        · subst c21
          have H1 : ((laws_markChart.f k t304 t305 t306 1).bind fun bt325 => (if bt325.1 < 0 then (none) else ((laws_eqIntS.f k t314 t300).bind fun t327 => (if t327 = true then ((laws_markIntS.f k t314 1).bind fun bt328 => ((laws_heldIntS.f k bt328.2 1).bind fun t330 => (if t330 < 0 then (none) else (if t330 = bt328.1 then ((laws_toChart.f k a0_0 a0_1 l0_2).bind fun bt331 => ((laws_toYarn.f a1_0 a1_1 a1_2 a1_3).bind fun bt336 => ((impl_BallsByColor.f k bt331.1 bt331.2.1 bt331.2.2 bt336.1 bt336.2.1 bt336.2.2.1 bt336.2.2.2).bind fun bt340 => ((laws_eqIntS.f k bt340.1 t300).bind fun t344 => (if t344 = true then (if (bt340.2 != t303) = true then (none) else ((laws_heldIntS.f k bt328.2 1).bind fun t345 => (if t345 < 0 then (none) else (if t345 = bt328.1 then (some true) else (none))))) else (none)))))) else (none))))) else (none))))) = some r := by rw [if_pos rfl] at H; exact H
          clear H
          have H := H1
          clear H1
          replace H := Option.bind_eq_some_iff.mp H
          obtain ⟨⟨t325, t326⟩, A220, H⟩ := H
          replace H : (if t325 < 0 then (none) else ((laws_eqIntS.f k t314 t300).bind fun t327 => (if t327 = true then ((laws_markIntS.f k t314 1).bind fun bt328 => ((laws_heldIntS.f k bt328.2 1).bind fun t330 => (if t330 < 0 then (none) else (if t330 = bt328.1 then ((laws_toChart.f k a0_0 a0_1 l0_2).bind fun bt331 => ((laws_toYarn.f a1_0 a1_1 a1_2 a1_3).bind fun bt336 => ((impl_BallsByColor.f k bt331.1 bt331.2.1 bt331.2.2 bt336.1 bt336.2.1 bt336.2.2.1 bt336.2.2.2).bind fun bt340 => ((laws_eqIntS.f k bt340.1 t300).bind fun t344 => (if t344 = true then (if (bt340.2 != t303) = true then (none) else ((laws_heldIntS.f k bt328.2 1).bind fun t345 => (if t345 < 0 then (none) else (if t345 = bt328.1 then (some true) else (none))))) else (none)))))) else (none))))) else (none)))) = some r := H
          have A22 := Aside0.mk A220
          clear A220
          by_cases c23 : t325 < 0
          · rw [if_pos c23] at H
            exact absurd H (by simp)
          · rw [if_neg c23] at H
            have c23b0 : decide (t325 < 0) = false := decide_eq_false c23
            clear c23
            replace H := Option.bind_eq_some_iff.mp H
            obtain ⟨t327, A240, H⟩ := H
            replace H : (if t327 = true then ((laws_markIntS.f k t314 1).bind fun bt328 => ((laws_heldIntS.f k bt328.2 1).bind fun t330 => (if t330 < 0 then (none) else (if t330 = bt328.1 then ((laws_toChart.f k a0_0 a0_1 l0_2).bind fun bt331 => ((laws_toYarn.f a1_0 a1_1 a1_2 a1_3).bind fun bt336 => ((impl_BallsByColor.f k bt331.1 bt331.2.1 bt331.2.2 bt336.1 bt336.2.1 bt336.2.2.1 bt336.2.2.2).bind fun bt340 => ((laws_eqIntS.f k bt340.1 t300).bind fun t344 => (if t344 = true then (if (bt340.2 != t303) = true then (none) else ((laws_heldIntS.f k bt328.2 1).bind fun t345 => (if t345 < 0 then (none) else (if t345 = bt328.1 then (some true) else (none))))) else (none)))))) else (none))))) else (none)) = some r := H
            have A24 := Aside0.mk A240
            clear A240
            by_cases c25 : t327 = true
            · subst c25
              have H1 : ((laws_markIntS.f k t314 1).bind fun bt328 => ((laws_heldIntS.f k bt328.2 1).bind fun t330 => (if t330 < 0 then (none) else (if t330 = bt328.1 then ((laws_toChart.f k a0_0 a0_1 l0_2).bind fun bt331 => ((laws_toYarn.f a1_0 a1_1 a1_2 a1_3).bind fun bt336 => ((impl_BallsByColor.f k bt331.1 bt331.2.1 bt331.2.2 bt336.1 bt336.2.1 bt336.2.2.1 bt336.2.2.2).bind fun bt340 => ((laws_eqIntS.f k bt340.1 t300).bind fun t344 => (if t344 = true then (if (bt340.2 != t303) = true then (none) else ((laws_heldIntS.f k bt328.2 1).bind fun t345 => (if t345 < 0 then (none) else (if t345 = bt328.1 then (some true) else (none))))) else (none)))))) else (none))))) = some r := by rw [if_pos rfl] at H; exact H
              clear H
              have H := H1
              clear H1
              replace H := Option.bind_eq_some_iff.mp H
              obtain ⟨⟨t328, t329⟩, A260, H⟩ := H
              replace H : ((laws_heldIntS.f k t329 1).bind fun t330 => (if t330 < 0 then (none) else (if t330 = t328 then ((laws_toChart.f k a0_0 a0_1 l0_2).bind fun bt331 => ((laws_toYarn.f a1_0 a1_1 a1_2 a1_3).bind fun bt336 => ((impl_BallsByColor.f k bt331.1 bt331.2.1 bt331.2.2 bt336.1 bt336.2.1 bt336.2.2.1 bt336.2.2.2).bind fun bt340 => ((laws_eqIntS.f k bt340.1 t300).bind fun t344 => (if t344 = true then (if (bt340.2 != t303) = true then (none) else ((laws_heldIntS.f k t329 1).bind fun t345 => (if t345 < 0 then (none) else (if t345 = t328 then (some true) else (none))))) else (none)))))) else (none)))) = some r := H
              have A26 := Aside0.mk A260
              clear A260
              replace H := Option.bind_eq_some_iff.mp H
              obtain ⟨t330, A270, H⟩ := H
              replace H : (if t330 < 0 then (none) else (if t330 = t328 then ((laws_toChart.f k a0_0 a0_1 l0_2).bind fun bt331 => ((laws_toYarn.f a1_0 a1_1 a1_2 a1_3).bind fun bt336 => ((impl_BallsByColor.f k bt331.1 bt331.2.1 bt331.2.2 bt336.1 bt336.2.1 bt336.2.2.1 bt336.2.2.2).bind fun bt340 => ((laws_eqIntS.f k bt340.1 t300).bind fun t344 => (if t344 = true then (if (bt340.2 != t303) = true then (none) else ((laws_heldIntS.f k t329 1).bind fun t345 => (if t345 < 0 then (none) else (if t345 = t328 then (some true) else (none))))) else (none)))))) else (none))) = some r := H
              have A27 := Aside0.mk A270
              clear A270
              by_cases c28 : t330 < 0
              · rw [if_pos c28] at H
                exact absurd H (by simp)
              · rw [if_neg c28] at H
                have c28b0 : decide (t330 < 0) = false := decide_eq_false c28
                clear c28
                by_cases c29 : t330 = t328
                · rw [if_pos c29] at H
                  have c29b0 : (t330 == t328) = true := beq_iff_eq.mpr c29
                  have c29b1 : (t330 != t328) = false := bne_eq_false_iff_eq.mpr c29
                  clear c29
                  replace H := Option.bind_eq_some_iff.mp H
                  obtain ⟨⟨t331, t332, t333⟩, A300, H⟩ := H
                  replace H : ((laws_toYarn.f a1_0 a1_1 a1_2 a1_3).bind fun bt336 => ((impl_BallsByColor.f k t331 t332 t333 bt336.1 bt336.2.1 bt336.2.2.1 bt336.2.2.2).bind fun bt340 => ((laws_eqIntS.f k bt340.1 t300).bind fun t344 => (if t344 = true then (if (bt340.2 != t303) = true then (none) else ((laws_heldIntS.f k t329 1).bind fun t345 => (if t345 < 0 then (none) else (if t345 = t328 then (some true) else (none))))) else (none))))) = some r := H
                  have A30 := Aside0.mk A300
                  clear A300
                  replace H := Option.bind_eq_some_iff.mp H
                  obtain ⟨⟨t336, t337, t338, t339⟩, A310, H⟩ := H
                  replace H : ((impl_BallsByColor.f k t331 t332 t333 t336 t337 t338 t339).bind fun bt340 => ((laws_eqIntS.f k bt340.1 t300).bind fun t344 => (if t344 = true then (if (bt340.2 != t303) = true then (none) else ((laws_heldIntS.f k t329 1).bind fun t345 => (if t345 < 0 then (none) else (if t345 = t328 then (some true) else (none))))) else (none)))) = some r := H
                  have A31 := Aside0.mk A310
                  clear A310
                  replace H := Option.bind_eq_some_iff.mp H
                  obtain ⟨⟨t340, t343⟩, A320, H⟩ := H
                  replace H : ((laws_eqIntS.f k t340 t300).bind fun t344 => (if t344 = true then (if (t343 != t303) = true then (none) else ((laws_heldIntS.f k t329 1).bind fun t345 => (if t345 < 0 then (none) else (if t345 = t328 then (some true) else (none))))) else (none))) = some r := H
                  have A32 := Aside0.mk A320
                  clear A320
                  replace H := Option.bind_eq_some_iff.mp H
                  obtain ⟨t344, A330, H⟩ := H
                  replace H : (if t344 = true then (if (t343 != t303) = true then (none) else ((laws_heldIntS.f k t329 1).bind fun t345 => (if t345 < 0 then (none) else (if t345 = t328 then (some true) else (none))))) else (none)) = some r := H
                  have A33 := Aside0.mk A330
                  clear A330
                  by_cases c34 : t344 = true
                  · subst c34
                    have H1 : (if (t343 != t303) = true then (none) else ((laws_heldIntS.f k t329 1).bind fun t345 => (if t345 < 0 then (none) else (if t345 = t328 then (some true) else (none))))) = some r := by rw [if_pos rfl] at H; exact H
                    clear H
                    have H := H1
                    clear H1
                    by_cases c35 : (t343 != t303) = true
                    · rw [if_pos c35] at H
                      exact absurd H (by simp)
                    · rw [if_neg c35] at H
                      have c35b0 : (t343 != t303) = false := by simpa using c35
                      (try (have c35b1 : decide (t343 = t303) = true := by simpa using c35))
                      (try (have c35b2 : (t343 == t303) = true := by simpa using c35))
                      clear c35
                      replace H := Option.bind_eq_some_iff.mp H
                      obtain ⟨t345, A360, H⟩ := H
                      replace H : (if t345 < 0 then (none) else (if t345 = t328 then (some true) else (none))) = some r := H
                      have A36 := Aside0.mk A360
                      clear A360
                      by_cases c37 : t345 < 0
                      · rw [if_pos c37] at H
                        exact absurd H (by simp)
                      · rw [if_neg c37] at H
                        have c37b0 : decide (t345 < 0) = false := decide_eq_false c37
                        clear c37
                        by_cases c38 : t345 = t328
                        · rw [if_pos c38] at H
                          have c38b0 : (t345 == t328) = true := beq_iff_eq.mpr c38
                          have c38b1 : (t345 != t328) = false := bne_eq_false_iff_eq.mpr c38
                          clear c38
                          obtain rfl := Option.some.inj H
                          go_enter Try.func4, Try.ntmps4
                          try go_wp2_with (first | ((with_reducible refine gate_dst (N := 2) rfl ?_); refine box_event ?hg (N := 2) ?hd (cs := #[.int .i64 a0_0, .int .i64 a0_1, .slice A0_2 l0_2.length c0_2]) (t := 24) ?hr ?_; (case hd => rfl); (case hg => rfl); (case hr => first | (go_simp; done) | (go_simp; rfl)); intro gb288 hg w39 hbox hb; have n0_ := Aside0.mk (below_step (by repeat (first | (with_reducible first | exact HB.out | apply below_alloc | apply pw_below_drewN | apply below_drew1) | exact HB.out)) hb); have n1_ := Aside0.mk (hbox); have n2_ := Aside0.mk ((by rw [hg]; exact (below_size (by repeat (first | (with_reducible first | exact HB.out | apply below_alloc | apply pw_below_drewN | apply below_drew1) | exact HB.out))) : w.heap.size ≤ gb288)); have n3_ := Aside0.mk ((by rw [hg]; exact (below_size (by repeat (first | (with_reducible first | exact HB.out | apply below_alloc | apply pw_below_drewN | apply below_drew1) | exact HB.out))) : w.heap.size ≤ gb288)); clear HB; have HB := n0_; have BK288 := n1_; have GW288 := n2_; have GE288 := n3_; clear n0_ n1_ n2_ n3_; clear hb hbox hg) | ((with_reducible refine gate_dst (N := 3) rfl ?_); refine box_event ?hg (N := 3) ?hd (cs := #[.int .i64 a1_0, .int .i64 a1_1, .int .i64 a1_2, .int .i64 a1_3]) (t := 26) ?hr ?_; (case hd => rfl); (case hg => rfl); (case hr => first | (go_simp; done) | (go_simp; rfl)); intro gb289 hg w40 hbox hb; have n0_ := Aside0.mk (blk_below (g := gb288) (o := .cells #[.int .i64 a0_0, .int .i64 a0_1, .slice A0_2 l0_2.length c0_2] 24 (0, 0)) (by (with_reducible repeat (first | refine blk_drewN ?_ _ | refine blk_drew ?_ | refine blk_alloc ?_ _)); exact BK288.out) hb); have n1_ := Aside0.mk (below_step (by repeat (first | (with_reducible first | exact HB.out | apply below_alloc | apply pw_below_drewN | apply below_drew1 | refine below_set ?_ GE288.out) | exact HB.out)) hb); have n2_ := Aside0.mk (hbox); have n3_ := Aside0.mk ((by rw [hg]; exact (below_size (by repeat (first | (with_reducible first | exact HB.out | apply below_alloc | apply pw_below_drewN | apply below_drew1 | refine below_set ?_ GE288.out) | exact HB.out))) : w.heap.size ≤ gb289)); have n4_ := Aside0.mk ((by rw [hg]; exact (below_size (by repeat (first | (with_reducible first | exact HB.out | apply below_alloc | apply pw_below_drewN | apply below_drew1 | refine below_set ?_ GE288.out) | exact HB.out))) : w.heap.size ≤ gb289)); have n5_ := Aside0.mk ((by rw [hg]; exact Nat.ne_of_lt (blk_lt (g := gb288) (o := .cells #[.int .i64 a0_0, .int .i64 a0_1, .slice A0_2 l0_2.length c0_2] 24 (0, 0)) (by (with_reducible repeat (first | refine blk_drewN ?_ _ | refine blk_drew ?_ | refine blk_alloc ?_ _)); exact BK288.out)) : gb288 ≠ gb289)); have n6_ := Aside0.mk ((by rw [hg]; exact Nat.ne_of_gt (blk_lt (g := gb288) (o := .cells #[.int .i64 a0_0, .int .i64 a0_1, .slice A0_2 l0_2.length c0_2] 24 (0, 0)) (by (with_reducible repeat (first | refine blk_drewN ?_ _ | refine blk_drew ?_ | refine blk_alloc ?_ _)); exact BK288.out)) : gb289 ≠ gb288)); clear BK288; clear HB; have BK288 := n0_; have HB := n1_; have BK289 := n2_; have GW289 := n3_; have GE289 := n4_; have NB288_289 := n5_; have NB289_288 := n6_; clear n0_ n1_ n2_ n3_ n4_ n5_ n6_; clear hb hbox hg; have hnb41 := NB288_289.out; have hnc41 := NB289_288.out; have hcz42_0 : w40.cell? ⟨gb288, 0, none⟩ = some (.int .i64 a0_0) := (blk_cell BK288.out 0).trans rfl; have hcz42_1 : w40.cell? ⟨gb288, 1, none⟩ = some (.int .i64 a0_1) := (blk_cell BK288.out 1).trans rfl; have hcz42_2 : w40.cell? ⟨gb288, 2, none⟩ = some (.slice A0_2 l0_2.length c0_2) := (blk_cell BK288.out 2).trans rfl; have hfz42_0 := blk_frozen BK288.out 0; have hfz42_1 := blk_frozen BK288.out 1; have hfz42_2 := blk_frozen BK288.out 2) | ((with_reducible refine gate_callee (f := 11) rfl ?_); refine goesL_ (some 18) rfl rfl Try.func11 (by kernel_rfl) rfl #[.agg #[.int .i64 a0_0, .int .i64 a0_1, .slice A0_2 l0_2.length c0_2], .int .i64 1048576] rfl (by (try simp only [List.map_toArray, List.map_cons, List.map_nil]); first | done | rfl | (simp only [List.length_drop, List.length_take]; rfl)) ?_; (with_reducible refine (laws_szChart.calls a0_0 a0_1 _ _ l0_2 1048576 t290 _ ?side1 ?side2 A3.out).mono ?_); (case side1 => repeat (first | exact (Kd.C_below HR0_2.out HB.out) | (with_reducible refine Kd.C_alloc ?_ _) | (with_reducible refine Kd.C_drewN ?_ _) | (with_reducible refine Kd.C_drew ?_))); (case side2 => exact HC0_2.out); rintro e w43 ⟨rfl, hb⟩; refine ⟨_, rfl, ?_⟩; have n0_ := Aside0.mk (blk_below (g := gb288) (o := .cells #[.int .i64 a0_0, .int .i64 a0_1, .slice A0_2 l0_2.length c0_2] 24 (0, 0)) (by (with_reducible repeat (first | refine blk_drewN ?_ _ | refine blk_drew ?_ | refine blk_alloc ?_ _)); exact BK288.out) hb); have n1_ := Aside0.mk (blk_below (g := gb289) (o := .cells #[.int .i64 a1_0, .int .i64 a1_1, .int .i64 a1_2, .int .i64 a1_3] 26 (0, 0)) (by (with_reducible repeat (first | refine blk_drewN ?_ _ | refine blk_drew ?_ | refine blk_alloc ?_ _)); exact BK289.out) hb); have n2_ := Aside0.mk (below_step (by repeat (first | (with_reducible first | exact HB.out | apply below_alloc | apply pw_below_drewN | apply below_drew1 | refine below_set ?_ GE288.out | refine below_set ?_ GE289.out) | exact HB.out)) hb); clear BK288; clear BK289; clear HB; have BK288 := n0_; have BK289 := n1_; have HB := n2_; clear n0_ n1_ n2_; (try clear hb); (try clear hb2); (try clear hk); (try clear hi)))
                          have n0_ := Aside0.mk (blk_drew BK288.out)
                          have n1_ := Aside0.mk (blk_drew BK289.out)
                          have n2_ := Aside0.mk (below_drew1 HB.out)
                          clear BK288
                          clear BK289
                          clear HB
                          have BK288 := n0_
                          have BK289 := n1_
                          have HB := n2_
                          clear n0_ n1_ n2_
                          refine start_ (n := 10) (S := fun w' => w'.cell? ⟨gb288, 0, none⟩ = some (.int .i64 a0_0) ∧ w'.cell? ⟨gb288, 1, none⟩ = some (.int .i64 a0_1) ∧ w'.cell? ⟨gb288, 2, none⟩ = some (.slice A0_2 l0_2.length c0_2) ∧ w'.cell? ⟨gb289, 0, none⟩ = some (.int .i64 a1_0) ∧ w'.cell? ⟨gb289, 1, none⟩ = some (.int .i64 a1_1) ∧ w'.cell? ⟨gb289, 2, none⟩ = some (.int .i64 a1_2) ∧ w'.cell? ⟨gb289, 3, none⟩ = some (.int .i64 a1_3)) (ds := []) #[false, false, false, false, false, false, false, false, false, false] (by kernel_rfl) rfl rfl ⟨(blk_cell BK288.out 0).trans rfl, (blk_cell BK288.out 1).trans rfl, (blk_cell BK288.out 2).trans rfl, (blk_cell BK289.out 0).trans rfl, (blk_cell BK289.out 1).trans rfl, (blk_cell BK289.out 2).trans rfl, (blk_cell BK289.out 3).trans rfl⟩ (fun hHeld => ?_); refine with_tabW laws_FnExactBallsByColor.tab5 laws_FnExactBallsByColor.bits5 (fun HT_ HW_ => ?_)
                          generalize w43.drew = w44 at BK288 BK289 HB hHeld ⊢
                          refine take_ (i := 0) (N := some 22) (v := ?_) (a' := ?_) #[true, false, false, false, false, false, false, false, false, false] rfl rfl (take_ofW HT_.out HW_.out (by kernel_rfl)) (fun _ _ _ h => h) (Or.inl ⟨by rfl, ?_⟩) hHeld ?_ ?_
                          rotate_left
                          · rintro w' ⟨s0, s1, s2, s3, s4, s5, s6⟩
                            go_simp
                            with_reducible rfl
                          rotate_left
                          · simp only [Act.put, List.setIfInBounds_toArray, List.set_cons_zero, List.set_cons_succ, i64_w, i32_w]
                            rfl
                          refine take_ (i := 2) (N := some 24) (v := ?_) (a' := ?_) #[true, false, true, false, false, false, false, false, false, false] rfl rfl (take_ofW HT_.out HW_.out (by kernel_rfl)) (fun _ _ _ h => h) (Or.inl ⟨by rfl, ?_⟩) hHeld ?_ ?_
                          rotate_left
                          · rintro w' ⟨s0, s1, s2, s3, s4, s5, s6⟩
                            go_simp
                            with_reducible rfl
                          rotate_left
                          · simp only [Act.put, List.setIfInBounds_toArray, List.set_cons_zero, List.set_cons_succ, i64_w, i32_w]
                            rfl
                          refine one_ (i := 1) (N := some 23) #[true, true, true, false, false, false, false, false, false, false] rfl rfl (one_of HT_.out (by kernel_rfl)) (by decide) (fun K hK => ?_)
                          refine goes_ Try.func13 (by kernel_rfl) rfl #[.agg #[.int .i64 a0_0, .int .i64 a0_1, .slice A0_2 l0_2.length c0_2]] (by rfl) rfl rfl (by (try simp only [List.map_toArray, List.map_cons, List.map_nil]); first | done | rfl | (simp only [List.length_drop, List.length_take]; rfl)) ?_
                          with_reducible refine (laws_toChart.calls k a0_0 a0_1 _ _ l0_2 t291 t292 t293 _ ?side1 ?side2 A10.out).mono ?_
                          (case side1 => repeat (first | exact (Kd.C_below HR0_2.out HB.out) | (with_reducible refine Kd.C_alloc ?_ _) | (with_reducible refine Kd.C_drewN ?_ _) | (with_reducible refine Kd.C_drew ?_)))
                          (case side2 => exact HC0_2.out)
                          rintro e w45 ⟨v294, rfl, ho0, hb⟩
                          refine ⟨_, rfl, ?_⟩
                          have n0_ := Aside0.mk (Kd.R_lower ho0 (below_size (by repeat (first | (with_reducible first | exact HB.out | apply below_alloc | apply pw_below_drewN | apply below_drew1 | refine below_set ?_ GE288.out | refine below_set ?_ GE289.out) | exact HB.out))))
                          have n1_ := Aside0.mk (blk_below (g := gb288) (o := .cells #[.int .i64 a0_0, .int .i64 a0_1, .slice A0_2 l0_2.length c0_2] 24 (0, 0)) (by (with_reducible repeat (first | refine blk_drewN ?_ _ | refine blk_drew ?_ | refine blk_alloc ?_ _)); exact BK288.out) hb)
                          have n2_ := Aside0.mk (blk_below (g := gb289) (o := .cells #[.int .i64 a1_0, .int .i64 a1_1, .int .i64 a1_2, .int .i64 a1_3] 26 (0, 0)) (by (with_reducible repeat (first | refine blk_drewN ?_ _ | refine blk_drew ?_ | refine blk_alloc ?_ _)); exact BK289.out) hb)
                          have n3_ := Aside0.mk (below_step (by repeat (first | (with_reducible first | exact HB.out | apply below_alloc | apply pw_below_drewN | apply below_drew1 | refine below_set ?_ GE288.out | refine below_set ?_ GE289.out) | exact HB.out)) hb)
                          clear BK288
                          clear BK289
                          clear HB
                          have HO295 := n0_
                          have BK288 := n1_
                          have BK289 := n2_
                          have HB := n3_
                          clear n0_ n1_ n2_ n3_
                          (try clear hb)
                          (try clear hb2)
                          (try clear hk)
                          (try clear hi)
                          (try clear ho0)
                          refine hK.out _ _ ⟨(blk_cell BK288.out 0).trans rfl, (blk_cell BK288.out 1).trans rfl, (blk_cell BK288.out 2).trans rfl, (blk_cell BK289.out 0).trans rfl, (blk_cell BK289.out 1).trans rfl, (blk_cell BK289.out 2).trans rfl, (blk_cell BK289.out 3).trans rfl⟩ (fun hHeld => ?_)
                          clear hK K
                          refine norm_ (a' := ?_) ?_ ?_
                          rotate_left
                          · show Act.put _ (some 23) _ = _
                            simp only [Act.put, List.setIfInBounds_toArray, List.set_cons_zero, List.set_cons_succ, i64_w, i32_w]
                            rfl
                          refine one_ (i := 3) (N := some 25) #[true, true, true, true, false, false, false, false, false, false] rfl rfl (one_of HT_.out (by kernel_rfl)) (by decide) (fun K hK => ?_)
                          refine goes_ Try.func14 (by kernel_rfl) rfl #[.agg #[.int .i64 a1_0, .int .i64 a1_1, .int .i64 a1_2, .int .i64 a1_3]] (by rfl) rfl rfl (by (try simp only [List.map_toArray, List.map_cons, List.map_nil]); first | done | rfl | (simp only [List.length_drop, List.length_take]; rfl)) ?_
                          with_reducible refine (laws_toYarn.calls a1_0 a1_1 a1_2 a1_3 t296 t297 t298 t299 _ A11.out).mono ?_
                          rintro e w46 ⟨rfl, hb⟩
                          refine ⟨_, rfl, ?_⟩
                          have n0_ := Aside0.mk (Kd.R_below (by (with_reducible repeat (first | apply Kd.R_alloc | apply Kd.R_drewN | apply Kd.R_drew)); exact HO295.out) hb)
                          have n1_ := Aside0.mk (blk_below (g := gb288) (o := .cells #[.int .i64 a0_0, .int .i64 a0_1, .slice A0_2 l0_2.length c0_2] 24 (0, 0)) (by (with_reducible repeat (first | refine blk_drewN ?_ _ | refine blk_drew ?_ | refine blk_alloc ?_ _)); exact BK288.out) hb)
                          have n2_ := Aside0.mk (blk_below (g := gb289) (o := .cells #[.int .i64 a1_0, .int .i64 a1_1, .int .i64 a1_2, .int .i64 a1_3] 26 (0, 0)) (by (with_reducible repeat (first | refine blk_drewN ?_ _ | refine blk_drew ?_ | refine blk_alloc ?_ _)); exact BK289.out) hb)
                          have n3_ := Aside0.mk (below_step (by repeat (first | (with_reducible first | exact HB.out | apply below_alloc | apply pw_below_drewN | apply below_drew1 | refine below_set ?_ GE288.out | refine below_set ?_ GE289.out) | exact HB.out)) hb)
                          clear HO295
                          clear BK288
                          clear BK289
                          clear HB
                          have HO295 := n0_
                          have BK288 := n1_
                          have BK289 := n2_
                          have HB := n3_
                          clear n0_ n1_ n2_ n3_
                          (try clear hb)
                          (try clear hb2)
                          (try clear hk)
                          (try clear hi)
                          obtain ⟨Ao47, co47, eo47⟩ := Kd.R_slice HO295.out
                          (first | subst eo47 | (injection eo47 with f1_ f2_ f3_; have f4_ := f1_.symm; have f5_ := f3_.symm; clear f1_ f2_ f3_; subst f4_; subst f5_))
                          refine hK.out _ _ ⟨(blk_cell BK288.out 0).trans rfl, (blk_cell BK288.out 1).trans rfl, (blk_cell BK288.out 2).trans rfl, (blk_cell BK289.out 0).trans rfl, (blk_cell BK289.out 1).trans rfl, (blk_cell BK289.out 2).trans rfl, (blk_cell BK289.out 3).trans rfl⟩ (fun hHeld => ?_)
                          clear hK K
                          refine norm_ (a' := ?_) ?_ ?_
                          rotate_left
                          · show Act.put _ (some 25) _ = _
                            simp only [Act.put, List.setIfInBounds_toArray, List.set_cons_zero, List.set_cons_succ, i64_w, i32_w]
                            rfl
                          refine one_ (i := 4) (N := some 26) #[true, true, true, true, true, false, false, false, false, false] rfl rfl (one_of HT_.out (by kernel_rfl)) (by decide) (fun K hK => ?_)
                          refine goes_ Try.func21 (by kernel_rfl) rfl #[.agg #[.int .i64 t291, .int .i64 t292, .slice Ao47 t293.length co47], .agg #[.int .i64 t296, .int .i64 t297, .int .i64 t298, .int .i64 t299]] (by rfl) rfl rfl (by (try simp only [List.map_toArray, List.map_cons, List.map_nil]); first | done | rfl | (simp only [List.length_drop, List.length_take]; rfl)) ?_
                          with_reducible refine (spec_BallsByColor.calls k t291 t292 _ _ t293 t296 t297 t298 t299 t300 t303 _ ?side1 ?side2 A12.out).mono ?_
                          (case side1 => repeat (first | exact (Kd.R_reads' HO295.out).2.2 | (with_reducible refine Kd.C_alloc ?_ _) | (with_reducible refine Kd.C_drewN ?_ _) | (with_reducible refine Kd.C_drew ?_)))
                          (case side2 => exact (Kd.R_reads' HO295.out).2.1)
                          rintro e w48 ⟨v301, rfl, ho0, hb⟩
                          refine ⟨_, rfl, ?_⟩
                          have n0_ := Aside0.mk (Kd.R_elder' (by (with_reducible repeat (first | apply Kd.R_alloc | apply Kd.R_drewN | apply Kd.R_drew)); exact HO295.out) (Kd.R_base ho0) hb)
                          have n1_ := Aside0.mk (Kd.R_lower (Kd.R_new' ho0 (Kd.R_lt (by (with_reducible repeat (first | apply Kd.R_alloc | apply Kd.R_drewN | apply Kd.R_drew)); exact HO295.out))) (below_size (by repeat (first | (with_reducible first | exact HB.out | apply below_alloc | apply pw_below_drewN | apply below_drew1 | refine below_set ?_ GE288.out | refine below_set ?_ GE289.out) | exact HB.out))))
                          have n2_ := Aside0.mk (blk_below (g := gb288) (o := .cells #[.int .i64 a0_0, .int .i64 a0_1, .slice A0_2 l0_2.length c0_2] 24 (0, 0)) (by (with_reducible repeat (first | refine blk_drewN ?_ _ | refine blk_drew ?_ | refine blk_alloc ?_ _)); exact BK288.out) hb)
                          have n3_ := Aside0.mk (blk_below (g := gb289) (o := .cells #[.int .i64 a1_0, .int .i64 a1_1, .int .i64 a1_2, .int .i64 a1_3] 26 (0, 0)) (by (with_reducible repeat (first | refine blk_drewN ?_ _ | refine blk_drew ?_ | refine blk_alloc ?_ _)); exact BK289.out) hb)
                          have n4_ := Aside0.mk (below_step (by repeat (first | (with_reducible first | exact HB.out | apply below_alloc | apply pw_below_drewN | apply below_drew1 | refine below_set ?_ GE288.out | refine below_set ?_ GE289.out) | exact HB.out)) hb)
                          clear HO295
                          clear BK288
                          clear BK289
                          clear HB
                          have HO295 := n0_
                          have HO302 := n1_
                          have BK288 := n2_
                          have BK289 := n3_
                          have HB := n4_
                          clear n0_ n1_ n2_ n3_ n4_
                          (try clear hb)
                          (try clear hb2)
                          (try clear hk)
                          (try clear hi)
                          (try clear ho0)
                          refine hK.out _ _ ⟨(blk_cell BK288.out 0).trans rfl, (blk_cell BK288.out 1).trans rfl, (blk_cell BK288.out 2).trans rfl, (blk_cell BK289.out 0).trans rfl, (blk_cell BK289.out 1).trans rfl, (blk_cell BK289.out 2).trans rfl, (blk_cell BK289.out 3).trans rfl⟩ (fun hHeld => ?_)
                          clear hK K
                          refine norm_ (a' := ?_) ?_ ?_
                          rotate_left
                          · show Act.put _ (some 26) _ = _
                            simp only [Act.put, List.setIfInBounds_toArray, List.set_cons_zero, List.set_cons_succ, i64_w, i32_w]
                            rfl
                          refine pure_ (i := 5) (N := some 21) (v := ?_) (a' := ?_) #[true, true, true, true, true, true, false, false, false, false] rfl rfl (any_of HT_.out (by kernel_rfl)) (fun _ _ _ h => h) (Or.inl ⟨by rfl, ?_⟩) ?_ ?_
                          rotate_left
                          · intro w'
                            go_simp
                            with_reducible rfl
                          rotate_left
                          · simp only [Act.put, List.setIfInBounds_toArray, List.set_cons_zero, List.set_cons_succ, i64_w, i32_w]
                            rfl
                          refine pure_ (i := 6) (N := some 27) (v := ?_) (a' := ?_) #[true, true, true, true, true, true, true, false, false, false] rfl rfl (any_of HT_.out (by kernel_rfl)) (fun _ _ _ h => h) (Or.inl ⟨by rfl, ?_⟩) ?_ ?_
                          rotate_left
                          · intro w'
                            go_simp
                            with_reducible rfl
                          rotate_left
                          · simp only [Act.put, List.setIfInBounds_toArray, List.set_cons_zero, List.set_cons_succ, i64_w, i32_w]
                            rfl
                          refine pure_ (i := 7) (N := some 28) (v := ?_) (a' := ?_) #[true, true, true, true, true, true, true, true, false, false] rfl rfl (any_of HT_.out (by kernel_rfl)) (fun _ _ _ h => h) (Or.inl ⟨by rfl, ?_⟩) ?_ ?_
                          rotate_left
                          · intro w'
                            go_simp
                            with_reducible rfl
                          rotate_left
                          · simp only [Act.put, List.setIfInBounds_toArray, List.set_cons_zero, List.set_cons_succ, i64_w, i32_w]
                            rfl
                          refine pure_ (i := 8) (N := some 6) (v := ?_) (a' := ?_) #[true, true, true, true, true, true, true, true, true, false] rfl rfl (any_of HT_.out (by kernel_rfl)) (fun _ _ _ h => h) (Or.inl ⟨by rfl, ?_⟩) ?_ ?_
                          rotate_left
                          · intro w'
                            go_simp
                            with_reducible rfl
                          rotate_left
                          · simp only [Act.put, List.setIfInBounds_toArray, List.set_cons_zero, List.set_cons_succ, i64_w, i32_w]
                            rfl
                          refine pure_ (i := 9) (N := some 7) (v := ?_) (a' := ?_) #[true, true, true, true, true, true, true, true, true, true] rfl rfl (any_of HT_.out (by kernel_rfl)) (fun _ _ _ h => h) (Or.inl ⟨by rfl, ?_⟩) ?_ ?_
                          rotate_left
                          · intro w'
                            go_simp
                            with_reducible rfl
                          rotate_left
                          · simp only [Act.put, List.setIfInBounds_toArray, List.set_cons_zero, List.set_cons_succ, i64_w, i32_w]
                            rfl
                          refine done_ (done_of HT_.out (by kernel_rfl)) ?_
                          have hcz49_0 : w48.cell? ⟨gb288, 0, none⟩ = some (.int .i64 a0_0) := (blk_cell BK288.out 0).trans rfl
                          have hcz49_1 : w48.cell? ⟨gb288, 1, none⟩ = some (.int .i64 a0_1) := (blk_cell BK288.out 1).trans rfl
                          have hcz49_2 : w48.cell? ⟨gb288, 2, none⟩ = some (.slice A0_2 l0_2.length c0_2) := (blk_cell BK288.out 2).trans rfl
                          have hfz49_0 := blk_frozen BK288.out 0
                          have hfz49_1 := blk_frozen BK288.out 1
                          have hfz49_2 := blk_frozen BK288.out 2
                          try go_wp2_with (first | ((with_reducible refine gate_callee (f := 13) rfl ?_); refine goesL_ (some 30) rfl rfl Try.func13 (by kernel_rfl) rfl #[.agg #[.int .i64 a0_0, .int .i64 a0_1, .slice A0_2 l0_2.length c0_2]] rfl (by (try simp only [List.map_toArray, List.map_cons, List.map_nil]); first | done | rfl | (simp only [List.length_drop, List.length_take]; rfl)) ?_; (with_reducible refine (laws_toChart.calls k a0_0 a0_1 _ _ l0_2 t304 t305 t306 _ ?side1 ?side2 A13.out).mono ?_); (case side1 => repeat (first | exact (Kd.C_below HR0_2.out HB.out) | (with_reducible refine Kd.C_alloc ?_ _) | (with_reducible refine Kd.C_drewN ?_ _) | (with_reducible refine Kd.C_drew ?_))); (case side2 => exact HC0_2.out); rintro e w50 ⟨v307, rfl, ho0, hb⟩; refine ⟨_, rfl, ?_⟩; have n0_ := Aside0.mk (Kd.R_elder' (by (with_reducible repeat (first | apply Kd.R_alloc | apply Kd.R_drewN | apply Kd.R_drew)); exact HO295.out) (Kd.R_base ho0) hb); have n1_ := Aside0.mk (Kd.R_elder' (by (with_reducible repeat (first | apply Kd.R_alloc | apply Kd.R_drewN | apply Kd.R_drew)); exact HO302.out) (Kd.R_base ho0) hb); have n2_ := Aside0.mk (Kd.R_lower (Kd.R_new' (Kd.R_new' ho0 (Kd.R_lt (by (with_reducible repeat (first | apply Kd.R_alloc | apply Kd.R_drewN | apply Kd.R_drew)); exact HO295.out))) (Kd.R_lt (by (with_reducible repeat (first | apply Kd.R_alloc | apply Kd.R_drewN | apply Kd.R_drew)); exact HO302.out))) (below_size (by repeat (first | (with_reducible first | exact HB.out | apply below_alloc | apply pw_below_drewN | apply below_drew1 | refine below_set ?_ GE288.out | refine below_set ?_ GE289.out) | exact HB.out)))); have n3_ := Aside0.mk (blk_below (g := gb288) (o := .cells #[.int .i64 a0_0, .int .i64 a0_1, .slice A0_2 l0_2.length c0_2] 24 (0, 0)) (by (with_reducible repeat (first | refine blk_drewN ?_ _ | refine blk_drew ?_ | refine blk_alloc ?_ _)); exact BK288.out) hb); have n4_ := Aside0.mk (blk_below (g := gb289) (o := .cells #[.int .i64 a1_0, .int .i64 a1_1, .int .i64 a1_2, .int .i64 a1_3] 26 (0, 0)) (by (with_reducible repeat (first | refine blk_drewN ?_ _ | refine blk_drew ?_ | refine blk_alloc ?_ _)); exact BK289.out) hb); have n5_ := Aside0.mk (below_step (by repeat (first | (with_reducible first | exact HB.out | apply below_alloc | apply pw_below_drewN | apply below_drew1 | refine below_set ?_ GE288.out | refine below_set ?_ GE289.out) | exact HB.out)) hb); clear HO295; clear HO302; clear BK288; clear BK289; clear HB; have HO295 := n0_; have HO302 := n1_; have HO308 := n2_; have BK288 := n3_; have BK289 := n4_; have HB := n5_; clear n0_ n1_ n2_ n3_ n4_ n5_; (try clear hb); (try clear hb2); (try clear hk); (try clear hi); (try clear ho0)) | ((with_reducible refine gate_dst (N := 8) rfl ?_); refine box_event ?hg (N := 8) ?hd (cs := #[.int .i64 0, .int .i64 0, .slice none 0 0]) (t := 30) ?hr ?_; (case hd => rfl); (case hg => rfl); (case hr => first | (go_simp; done) | (go_simp; rfl)); intro gb309 hg w51 hbox hb; have n0_ := Aside0.mk (Kd.R_below (by (with_reducible repeat (first | apply Kd.R_alloc | apply Kd.R_drewN | apply Kd.R_drew)); exact HO295.out) hb); have n1_ := Aside0.mk (Kd.R_below (by (with_reducible repeat (first | apply Kd.R_alloc | apply Kd.R_drewN | apply Kd.R_drew)); exact HO302.out) hb); have n2_ := Aside0.mk (Kd.R_below (by (with_reducible repeat (first | apply Kd.R_alloc | apply Kd.R_drewN | apply Kd.R_drew)); exact HO308.out) hb); have n3_ := Aside0.mk (blk_below (g := gb288) (o := .cells #[.int .i64 a0_0, .int .i64 a0_1, .slice A0_2 l0_2.length c0_2] 24 (0, 0)) (by (with_reducible repeat (first | refine blk_drewN ?_ _ | refine blk_drew ?_ | refine blk_alloc ?_ _)); exact BK288.out) hb); have n4_ := Aside0.mk (blk_below (g := gb289) (o := .cells #[.int .i64 a1_0, .int .i64 a1_1, .int .i64 a1_2, .int .i64 a1_3] 26 (0, 0)) (by (with_reducible repeat (first | refine blk_drewN ?_ _ | refine blk_drew ?_ | refine blk_alloc ?_ _)); exact BK289.out) hb); have n5_ := Aside0.mk (below_step (by repeat (first | (with_reducible first | exact HB.out | apply below_alloc | apply pw_below_drewN | apply below_drew1 | refine below_set ?_ GE288.out | refine below_set ?_ GE289.out) | exact HB.out)) hb); have n6_ := Aside0.mk (hbox); have n7_ := Aside0.mk ((by rw [hg]; exact (below_size (by repeat (first | (with_reducible first | exact HB.out | apply below_alloc | apply pw_below_drewN | apply below_drew1 | refine below_set ?_ GE288.out | refine below_set ?_ GE289.out) | exact HB.out))) : w.heap.size ≤ gb309)); have n8_ := Aside0.mk ((by rw [hg]; exact (below_size (by repeat (first | (with_reducible first | exact HB.out | apply below_alloc | apply pw_below_drewN | apply below_drew1 | refine below_set ?_ GE288.out | refine below_set ?_ GE289.out) | exact HB.out))) : w.heap.size ≤ gb309)); have n9_ := Aside0.mk ((by rw [hg]; exact Nat.ne_of_lt (blk_lt (g := gb288) (o := .cells #[.int .i64 a0_0, .int .i64 a0_1, .slice A0_2 l0_2.length c0_2] 24 (0, 0)) (by (with_reducible repeat (first | refine blk_drewN ?_ _ | refine blk_drew ?_ | refine blk_alloc ?_ _)); exact BK288.out)) : gb288 ≠ gb309)); have n10_ := Aside0.mk ((by rw [hg]; exact Nat.ne_of_gt (blk_lt (g := gb288) (o := .cells #[.int .i64 a0_0, .int .i64 a0_1, .slice A0_2 l0_2.length c0_2] 24 (0, 0)) (by (with_reducible repeat (first | refine blk_drewN ?_ _ | refine blk_drew ?_ | refine blk_alloc ?_ _)); exact BK288.out)) : gb309 ≠ gb288)); have n11_ := Aside0.mk ((by rw [hg]; exact Nat.ne_of_lt (blk_lt (g := gb289) (o := .cells #[.int .i64 a1_0, .int .i64 a1_1, .int .i64 a1_2, .int .i64 a1_3] 26 (0, 0)) (by (with_reducible repeat (first | refine blk_drewN ?_ _ | refine blk_drew ?_ | refine blk_alloc ?_ _)); exact BK289.out)) : gb289 ≠ gb309)); have n12_ := Aside0.mk ((by rw [hg]; exact Nat.ne_of_gt (blk_lt (g := gb289) (o := .cells #[.int .i64 a1_0, .int .i64 a1_1, .int .i64 a1_2, .int .i64 a1_3] 26 (0, 0)) (by (with_reducible repeat (first | refine blk_drewN ?_ _ | refine blk_drew ?_ | refine blk_alloc ?_ _)); exact BK289.out)) : gb309 ≠ gb289)); clear HO295; clear HO302; clear HO308; clear BK288; clear BK289; clear HB; have HO295 := n0_; have HO302 := n1_; have HO308 := n2_; have BK288 := n3_; have BK289 := n4_; have HB := n5_; have BK309 := n6_; have GW309 := n7_; have GE309 := n8_; have NB288_309 := n9_; have NB309_288 := n10_; have NB289_309 := n11_; have NB309_289 := n12_; clear n0_ n1_ n2_ n3_ n4_ n5_ n6_ n7_ n8_ n9_ n10_ n11_ n12_; clear hb hbox hg; have hnb52 := NB309_288.out; have hnc52 := NB288_309.out; have hnb53 := NB309_289.out; have hnc53 := NB289_309.out; have hcz54_0 : w51.cell? ⟨gb309, 0, none⟩ = some (.int .i64 0) := (blk_cell BK309.out 0).trans rfl; have hcz54_1 : w51.cell? ⟨gb309, 1, none⟩ = some (.int .i64 0) := (blk_cell BK309.out 1).trans rfl; have hcz54_2 : w51.cell? ⟨gb309, 2, none⟩ = some (.slice none 0 0) := (blk_cell BK309.out 2).trans rfl; have hfz54_0 := blk_frozen BK309.out 0; have hfz54_1 := blk_frozen BK309.out 1; have hfz54_2 := blk_frozen BK309.out 2; obtain ⟨Ao55, co55, eo55⟩ := Kd.R_slice HO308.out; subst eo55))
                          have n0_ : Aside0 (Kd.R (Kd.int .i64) 3 (((w51.setCell ⟨gb309, 0, none⟩ (.int .i64 t304)).setCell ⟨gb309, 1, none⟩ (.int .i64 t305)).setCell ⟨gb309, 2, none⟩ (.slice Ao55 t306.length co55)) w.heap.size (fun k_ => some k_ ≠ (v301 : Value).ownBlock ∧ some k_ ≠ (.slice Ao55 t306.length co55 : Value).ownBlock) (.slice Ao47 t293.length co47) t293) := ⟨by (with_reducible repeat (first | apply Kd.R_alloc | apply Kd.R_drewN | apply Kd.R_drew)); exact Kd.R_mono (Kd.R_far (p := ⟨gb309, 2, none⟩) (Kd.R_far (p := ⟨gb309, 1, none⟩) (Kd.R_far (p := ⟨gb309, 0, none⟩) (Kd.R_types HO295.out BK309.out (by decide)) (fun _ hk => hk.2) (.int .i64 t304)) (fun _ hk => hk.2) (.int .i64 t305)) (fun _ hk => hk.2) (.slice Ao55 t306.length co55)) (fun _ hk => ⟨hk.1.1.2, hk.1.2⟩)⟩
                          have n1_ : Aside0 (Kd.R (Kd.int .i64) 3 (((w51.setCell ⟨gb309, 0, none⟩ (.int .i64 t304)).setCell ⟨gb309, 1, none⟩ (.int .i64 t305)).setCell ⟨gb309, 2, none⟩ (.slice Ao55 t306.length co55)) w.heap.size (fun k_ => some k_ ≠ (.slice Ao47 t293.length co47 : Value).ownBlock ∧ some k_ ≠ (.slice Ao55 t306.length co55 : Value).ownBlock) v301 t300) := ⟨by (with_reducible repeat (first | apply Kd.R_alloc | apply Kd.R_drewN | apply Kd.R_drew)); exact Kd.R_mono (Kd.R_far (p := ⟨gb309, 2, none⟩) (Kd.R_far (p := ⟨gb309, 1, none⟩) (Kd.R_far (p := ⟨gb309, 0, none⟩) (Kd.R_types HO302.out BK309.out (by decide)) (fun _ hk => hk.2) (.int .i64 t304)) (fun _ hk => hk.2) (.int .i64 t305)) (fun _ hk => hk.2) (.slice Ao55 t306.length co55)) (fun _ hk => ⟨hk.1.1.2, hk.1.2⟩)⟩
                          have n2_ : Aside0 (Kd.R (Kd.int .i64) 3 (((w51.setCell ⟨gb309, 0, none⟩ (.int .i64 t304)).setCell ⟨gb309, 1, none⟩ (.int .i64 t305)).setCell ⟨gb309, 2, none⟩ (.slice Ao55 t306.length co55)) w.heap.size (fun k_ => some k_ ≠ (.slice Ao47 t293.length co47 : Value).ownBlock ∧ some k_ ≠ (v301 : Value).ownBlock) (.slice Ao55 t306.length co55) t306) := ⟨by (with_reducible repeat (first | apply Kd.R_alloc | apply Kd.R_drewN | apply Kd.R_drew)); exact Kd.R_mono (Kd.R_far (p := ⟨gb309, 2, none⟩) (Kd.R_far (p := ⟨gb309, 1, none⟩) (Kd.R_far (p := ⟨gb309, 0, none⟩) (Kd.R_types HO308.out BK309.out (by decide)) (fun _ hk => hk.2) (.int .i64 t304)) (fun _ hk => hk.2) (.int .i64 t305)) (fun _ hk => hk.2) (.slice Ao55 t306.length co55)) (fun _ hk => ⟨hk.1.1.2, hk.1.2⟩)⟩
                          have n3_ : Aside0 ((((w51.setCell ⟨gb309, 0, none⟩ (.int .i64 t304)).setCell ⟨gb309, 1, none⟩ (.int .i64 t305)).setCell ⟨gb309, 2, none⟩ (.slice Ao55 t306.length co55)).heap[gb288]? = some (.cells #[.int .i64 a0_0, .int .i64 a0_1, .slice A0_2 l0_2.length c0_2] 24 (0, 0))) := ⟨by (with_reducible repeat (first | refine blk_drewN ?_ _ | refine blk_drew ?_ | refine blk_alloc ?_ _)); refine blk_far ?_ NB288_309.out _; (with_reducible repeat (first | refine blk_drewN ?_ _ | refine blk_drew ?_ | refine blk_alloc ?_ _)); refine blk_far ?_ NB288_309.out _; (with_reducible repeat (first | refine blk_drewN ?_ _ | refine blk_drew ?_ | refine blk_alloc ?_ _)); refine blk_far ?_ NB288_309.out _; (with_reducible repeat (first | refine blk_drewN ?_ _ | refine blk_drew ?_ | refine blk_alloc ?_ _)); exact BK288.out⟩
                          have n4_ : Aside0 ((((w51.setCell ⟨gb309, 0, none⟩ (.int .i64 t304)).setCell ⟨gb309, 1, none⟩ (.int .i64 t305)).setCell ⟨gb309, 2, none⟩ (.slice Ao55 t306.length co55)).heap[gb289]? = some (.cells #[.int .i64 a1_0, .int .i64 a1_1, .int .i64 a1_2, .int .i64 a1_3] 26 (0, 0))) := ⟨by (with_reducible repeat (first | refine blk_drewN ?_ _ | refine blk_drew ?_ | refine blk_alloc ?_ _)); refine blk_far ?_ NB289_309.out _; (with_reducible repeat (first | refine blk_drewN ?_ _ | refine blk_drew ?_ | refine blk_alloc ?_ _)); refine blk_far ?_ NB289_309.out _; (with_reducible repeat (first | refine blk_drewN ?_ _ | refine blk_drew ?_ | refine blk_alloc ?_ _)); refine blk_far ?_ NB289_309.out _; (with_reducible repeat (first | refine blk_drewN ?_ _ | refine blk_drew ?_ | refine blk_alloc ?_ _)); exact BK289.out⟩
                          have n5_ : Aside0 ((((w51.setCell ⟨gb309, 0, none⟩ (.int .i64 t304)).setCell ⟨gb309, 1, none⟩ (.int .i64 t305)).setCell ⟨gb309, 2, none⟩ (.slice Ao55 t306.length co55)).heap[gb309]? = some (.cells #[.int .i64 t304, .int .i64 t305, .slice Ao55 t306.length co55] 30 (0, 0))) := ⟨by (with_reducible repeat (first | refine blk_drewN ?_ _ | refine blk_drew ?_ | refine blk_alloc ?_ _)); refine blk_put (cs := #[.int .i64 t304, .int .i64 t305, .slice none 0 0]) ?_ 2 _ rfl; (with_reducible repeat (first | refine blk_drewN ?_ _ | refine blk_drew ?_ | refine blk_alloc ?_ _)); refine blk_put (cs := #[.int .i64 t304, .int .i64 0, .slice none 0 0]) ?_ 1 _ rfl; (with_reducible repeat (first | refine blk_drewN ?_ _ | refine blk_drew ?_ | refine blk_alloc ?_ _)); refine blk_put (cs := #[.int .i64 0, .int .i64 0, .slice none 0 0]) ?_ 0 _ rfl; (with_reducible repeat (first | refine blk_drewN ?_ _ | refine blk_drew ?_ | refine blk_alloc ?_ _)); exact BK309.out⟩
                          have n6_ : Aside0 (Below w.heap.size w (((w51.setCell ⟨gb309, 0, none⟩ (.int .i64 t304)).setCell ⟨gb309, 1, none⟩ (.int .i64 t305)).setCell ⟨gb309, 2, none⟩ (.slice Ao55 t306.length co55))) := ⟨by repeat (first | (with_reducible first | exact HB.out | apply below_alloc | apply pw_below_drewN | apply below_drew1 | refine below_set ?_ GE288.out | refine below_set ?_ GE289.out | refine below_set ?_ GE309.out) | exact HB.out)⟩
                          (try clear HO295)
                          (try clear HO302)
                          (try clear HO308)
                          (try clear BK288)
                          (try clear BK289)
                          (try clear BK309)
                          (try clear HB)
                          generalize (((w51.setCell ⟨gb309, 0, none⟩ (.int .i64 t304)).setCell ⟨gb309, 1, none⟩ (.int .i64 t305)).setCell ⟨gb309, 2, none⟩ (.slice Ao55 t306.length co55)) = w56 at n0_ n1_ n2_ n3_ n4_ n5_ n6_ ⊢
                          have HO295 := n0_
                          have HO302 := n1_
                          have HO308 := n2_
                          have BK288 := n3_
                          have BK289 := n4_
                          have BK309 := n5_
                          have HB := n6_
                          clear n0_ n1_ n2_ n3_ n4_ n5_ n6_
                          have n0_ := Aside0.mk (Kd.R_drew HO295.out)
                          have n1_ := Aside0.mk (Kd.R_drew HO302.out)
                          have n2_ := Aside0.mk (Kd.R_drew HO308.out)
                          have n3_ := Aside0.mk (blk_drew BK288.out)
                          have n4_ := Aside0.mk (blk_drew BK289.out)
                          have n5_ := Aside0.mk (blk_drew BK309.out)
                          have n6_ := Aside0.mk (below_drew1 HB.out)
                          clear HO295
                          clear HO302
                          clear HO308
                          clear BK288
                          clear BK289
                          clear BK309
                          clear HB
                          have HO295 := n0_
                          have HO302 := n1_
                          have HO308 := n2_
                          have BK288 := n3_
                          have BK289 := n4_
                          have BK309 := n5_
                          have HB := n6_
                          clear n0_ n1_ n2_ n3_ n4_ n5_ n6_
                          refine start_ (n := 9) (S := fun w' => w'.cell? ⟨gb309, 0, none⟩ = some (.int .i64 t304) ∧ w'.cell? ⟨gb309, 1, none⟩ = some (.int .i64 t305) ∧ w'.cell? ⟨gb309, 2, none⟩ = some (.slice Ao55 t306.length co55) ∧ w'.cell? ⟨gb289, 0, none⟩ = some (.int .i64 a1_0) ∧ w'.cell? ⟨gb289, 1, none⟩ = some (.int .i64 a1_1) ∧ w'.cell? ⟨gb289, 2, none⟩ = some (.int .i64 a1_2) ∧ w'.cell? ⟨gb289, 3, none⟩ = some (.int .i64 a1_3)) (ds := []) #[false, false, false, false, false, false, false, false, false] (by kernel_rfl) rfl rfl ⟨(blk_cell BK309.out 0).trans rfl, (blk_cell BK309.out 1).trans rfl, (blk_cell BK309.out 2).trans rfl, (blk_cell BK289.out 0).trans rfl, (blk_cell BK289.out 1).trans rfl, (blk_cell BK289.out 2).trans rfl, (blk_cell BK289.out 3).trans rfl⟩ (fun hHeld => ?_); refine with_tabW laws_FnExactBallsByColor.tab7 laws_FnExactBallsByColor.bits7 (fun HT_ HW_ => ?_)
                          generalize w56.drew = w57 at HO295 HO302 HO308 BK288 BK289 BK309 HB hHeld ⊢
                          refine take_ (i := 0) (N := some 32) (v := ?_) (a' := ?_) #[true, false, false, false, false, false, false, false, false] rfl rfl (take_ofW HT_.out HW_.out (by kernel_rfl)) (fun _ _ _ h => h) (Or.inl ⟨by rfl, ?_⟩) hHeld ?_ ?_
                          rotate_left
                          · rintro w' ⟨s0, s1, s2, s3, s4, s5, s6⟩
                            go_simp
                            with_reducible rfl
                          rotate_left
                          · simp only [Act.put, List.setIfInBounds_toArray, List.set_cons_zero, List.set_cons_succ, i64_w, i32_w]
                            rfl
                          refine take_ (i := 1) (N := some 33) (v := ?_) (a' := ?_) #[true, true, false, false, false, false, false, false, false] rfl rfl (take_ofW HT_.out HW_.out (by kernel_rfl)) (fun _ _ _ h => h) (Or.inl ⟨by rfl, ?_⟩) hHeld ?_ ?_
                          rotate_left
                          · rintro w' ⟨s0, s1, s2, s3, s4, s5, s6⟩
                            go_simp
                            with_reducible rfl
                          rotate_left
                          · simp only [Act.put, List.setIfInBounds_toArray, List.set_cons_zero, List.set_cons_succ, i64_w, i32_w]
                            rfl
                          refine one_ (i := 2) (N := some 34) #[true, true, true, false, false, false, false, false, false] rfl rfl (one_of HT_.out (by kernel_rfl)) (by decide) (fun K hK => ?_)
                          refine goes_ Try.func14 (by kernel_rfl) rfl #[.agg #[.int .i64 a1_0, .int .i64 a1_1, .int .i64 a1_2, .int .i64 a1_3]] (by rfl) rfl rfl (by (try simp only [List.map_toArray, List.map_cons, List.map_nil]); first | done | rfl | (simp only [List.length_drop, List.length_take]; rfl)) ?_
                          with_reducible refine (laws_toYarn.calls a1_0 a1_1 a1_2 a1_3 t310 t311 t312 t313 _ A14.out).mono ?_
                          rintro e w58 ⟨rfl, hb⟩
                          refine ⟨_, rfl, ?_⟩
                          have n0_ := Aside0.mk (Kd.R_below (by (with_reducible repeat (first | apply Kd.R_alloc | apply Kd.R_drewN | apply Kd.R_drew)); exact HO295.out) hb)
                          have n1_ := Aside0.mk (Kd.R_below (by (with_reducible repeat (first | apply Kd.R_alloc | apply Kd.R_drewN | apply Kd.R_drew)); exact HO302.out) hb)
                          have n2_ := Aside0.mk (Kd.R_below (by (with_reducible repeat (first | apply Kd.R_alloc | apply Kd.R_drewN | apply Kd.R_drew)); exact HO308.out) hb)
                          have n3_ := Aside0.mk (blk_below (g := gb288) (o := .cells #[.int .i64 a0_0, .int .i64 a0_1, .slice A0_2 l0_2.length c0_2] 24 (0, 0)) (by (with_reducible repeat (first | refine blk_drewN ?_ _ | refine blk_drew ?_ | refine blk_alloc ?_ _)); exact BK288.out) hb)
                          have n4_ := Aside0.mk (blk_below (g := gb289) (o := .cells #[.int .i64 a1_0, .int .i64 a1_1, .int .i64 a1_2, .int .i64 a1_3] 26 (0, 0)) (by (with_reducible repeat (first | refine blk_drewN ?_ _ | refine blk_drew ?_ | refine blk_alloc ?_ _)); exact BK289.out) hb)
                          have n5_ := Aside0.mk (blk_below (g := gb309) (o := .cells #[.int .i64 t304, .int .i64 t305, .slice Ao55 t306.length co55] 30 (0, 0)) (by (with_reducible repeat (first | refine blk_drewN ?_ _ | refine blk_drew ?_ | refine blk_alloc ?_ _)); exact BK309.out) hb)
                          have n6_ := Aside0.mk (below_step (by repeat (first | (with_reducible first | exact HB.out | apply below_alloc | apply pw_below_drewN | apply below_drew1 | refine below_set ?_ GE288.out | refine below_set ?_ GE289.out | refine below_set ?_ GE309.out) | exact HB.out)) hb)
                          clear HO295
                          clear HO302
                          clear HO308
                          clear BK288
                          clear BK289
                          clear BK309
                          clear HB
                          have HO295 := n0_
                          have HO302 := n1_
                          have HO308 := n2_
                          have BK288 := n3_
                          have BK289 := n4_
                          have BK309 := n5_
                          have HB := n6_
                          clear n0_ n1_ n2_ n3_ n4_ n5_ n6_
                          (try clear hb)
                          (try clear hb2)
                          (try clear hk)
                          (try clear hi)
                          refine hK.out _ _ ⟨(blk_cell BK309.out 0).trans rfl, (blk_cell BK309.out 1).trans rfl, (blk_cell BK309.out 2).trans rfl, (blk_cell BK289.out 0).trans rfl, (blk_cell BK289.out 1).trans rfl, (blk_cell BK289.out 2).trans rfl, (blk_cell BK289.out 3).trans rfl⟩ (fun hHeld => ?_)
                          clear hK K
                          refine norm_ (a' := ?_) ?_ ?_
                          rotate_left
                          · show Act.put _ (some 34) _ = _
                            simp only [Act.put, List.setIfInBounds_toArray, List.set_cons_zero, List.set_cons_succ, i64_w, i32_w]
                            rfl
                          refine one_ (i := 3) (N := some 35) #[true, true, true, true, false, false, false, false, false] rfl rfl (one_of HT_.out (by kernel_rfl)) (by decide) (fun K hK => ?_)
                          refine goes_ Try.func22 (by kernel_rfl) rfl #[.agg #[.int .i64 t304, .int .i64 t305, .slice Ao55 t306.length co55], .agg #[.int .i64 t310, .int .i64 t311, .int .i64 t312, .int .i64 t313]] (by rfl) rfl rfl (by (try simp only [List.map_toArray, List.map_cons, List.map_nil]); first | done | rfl | (simp only [List.length_drop, List.length_take]; rfl)) ?_
                          with_reducible refine (impl_BallsByColor.calls k t304 t305 _ _ t306 t310 t311 t312 t313 t314 t317 _ ?side1 ?side2 A15.out).mono ?_
                          (case side1 => repeat (first | exact (Kd.R_reads' HO308.out).2.2 | (with_reducible refine Kd.C_alloc ?_ _) | (with_reducible refine Kd.C_drewN ?_ _) | (with_reducible refine Kd.C_drew ?_)))
                          (case side2 => exact (Kd.R_reads' HO308.out).2.1)
                          rintro e w59 ⟨v315, rfl, ho0, hb⟩
                          refine ⟨_, rfl, ?_⟩
                          have n0_ := Aside0.mk (Kd.R_elder' (by (with_reducible repeat (first | apply Kd.R_alloc | apply Kd.R_drewN | apply Kd.R_drew)); exact HO295.out) (Kd.R_base ho0) hb)
                          have n1_ := Aside0.mk (Kd.R_elder' (by (with_reducible repeat (first | apply Kd.R_alloc | apply Kd.R_drewN | apply Kd.R_drew)); exact HO302.out) (Kd.R_base ho0) hb)
                          have n2_ := Aside0.mk (Kd.R_elder' (by (with_reducible repeat (first | apply Kd.R_alloc | apply Kd.R_drewN | apply Kd.R_drew)); exact HO308.out) (Kd.R_base ho0) hb)
                          have n3_ := Aside0.mk (Kd.R_lower (Kd.R_new' (Kd.R_new' (Kd.R_new' ho0 (Kd.R_lt (by (with_reducible repeat (first | apply Kd.R_alloc | apply Kd.R_drewN | apply Kd.R_drew)); exact HO295.out))) (Kd.R_lt (by (with_reducible repeat (first | apply Kd.R_alloc | apply Kd.R_drewN | apply Kd.R_drew)); exact HO302.out))) (Kd.R_lt (by (with_reducible repeat (first | apply Kd.R_alloc | apply Kd.R_drewN | apply Kd.R_drew)); exact HO308.out))) (below_size (by repeat (first | (with_reducible first | exact HB.out | apply below_alloc | apply pw_below_drewN | apply below_drew1 | refine below_set ?_ GE288.out | refine below_set ?_ GE289.out | refine below_set ?_ GE309.out) | exact HB.out))))
                          have n4_ := Aside0.mk (blk_below (g := gb288) (o := .cells #[.int .i64 a0_0, .int .i64 a0_1, .slice A0_2 l0_2.length c0_2] 24 (0, 0)) (by (with_reducible repeat (first | refine blk_drewN ?_ _ | refine blk_drew ?_ | refine blk_alloc ?_ _)); exact BK288.out) hb)
                          have n5_ := Aside0.mk (blk_below (g := gb289) (o := .cells #[.int .i64 a1_0, .int .i64 a1_1, .int .i64 a1_2, .int .i64 a1_3] 26 (0, 0)) (by (with_reducible repeat (first | refine blk_drewN ?_ _ | refine blk_drew ?_ | refine blk_alloc ?_ _)); exact BK289.out) hb)
                          have n6_ := Aside0.mk (blk_below (g := gb309) (o := .cells #[.int .i64 t304, .int .i64 t305, .slice Ao55 t306.length co55] 30 (0, 0)) (by (with_reducible repeat (first | refine blk_drewN ?_ _ | refine blk_drew ?_ | refine blk_alloc ?_ _)); exact BK309.out) hb)
                          have n7_ := Aside0.mk (below_step (by repeat (first | (with_reducible first | exact HB.out | apply below_alloc | apply pw_below_drewN | apply below_drew1 | refine below_set ?_ GE288.out | refine below_set ?_ GE289.out | refine below_set ?_ GE309.out) | exact HB.out)) hb)
                          clear HO295
                          clear HO302
                          clear HO308
                          clear BK288
                          clear BK289
                          clear BK309
                          clear HB
                          have HO295 := n0_
                          have HO302 := n1_
                          have HO308 := n2_
                          have HO316 := n3_
                          have BK288 := n4_
                          have BK289 := n5_
                          have BK309 := n6_
                          have HB := n7_
                          clear n0_ n1_ n2_ n3_ n4_ n5_ n6_ n7_
                          (try clear hb)
                          (try clear hb2)
                          (try clear hk)
                          (try clear hi)
                          (try clear ho0)
                          refine hK.out _ _ ⟨(blk_cell BK309.out 0).trans rfl, (blk_cell BK309.out 1).trans rfl, (blk_cell BK309.out 2).trans rfl, (blk_cell BK289.out 0).trans rfl, (blk_cell BK289.out 1).trans rfl, (blk_cell BK289.out 2).trans rfl, (blk_cell BK289.out 3).trans rfl⟩ (fun hHeld => ?_)
                          clear hK K
                          refine norm_ (a' := ?_) ?_ ?_
                          rotate_left
                          · show Act.put _ (some 35) _ = _
                            simp only [Act.put, List.setIfInBounds_toArray, List.set_cons_zero, List.set_cons_succ, i64_w, i32_w]
                            rfl
                          refine pure_ (i := 4) (N := some 31) (v := ?_) (a' := ?_) #[true, true, true, true, true, false, false, false, false] rfl rfl (any_of HT_.out (by kernel_rfl)) (fun _ _ _ h => h) (Or.inl ⟨by rfl, ?_⟩) ?_ ?_
                          rotate_left
                          · intro w'
                            go_simp
                            with_reducible rfl
                          rotate_left
                          · simp only [Act.put, List.setIfInBounds_toArray, List.set_cons_zero, List.set_cons_succ, i64_w, i32_w]
                            rfl
                          refine pure_ (i := 5) (N := some 36) (v := ?_) (a' := ?_) #[true, true, true, true, true, true, false, false, false] rfl rfl (any_of HT_.out (by kernel_rfl)) (fun _ _ _ h => h) (Or.inl ⟨by rfl, ?_⟩) ?_ ?_
                          rotate_left
                          · intro w'
                            go_simp
                            with_reducible rfl
                          rotate_left
                          · simp only [Act.put, List.setIfInBounds_toArray, List.set_cons_zero, List.set_cons_succ, i64_w, i32_w]
                            rfl
                          refine pure_ (i := 6) (N := some 37) (v := ?_) (a' := ?_) #[true, true, true, true, true, true, true, false, false] rfl rfl (any_of HT_.out (by kernel_rfl)) (fun _ _ _ h => h) (Or.inl ⟨by rfl, ?_⟩) ?_ ?_
                          rotate_left
                          · intro w'
                            go_simp
                            with_reducible rfl
                          rotate_left
                          · simp only [Act.put, List.setIfInBounds_toArray, List.set_cons_zero, List.set_cons_succ, i64_w, i32_w]
                            rfl
                          refine pure_ (i := 7) (N := some 9) (v := ?_) (a' := ?_) #[true, true, true, true, true, true, true, true, false] rfl rfl (any_of HT_.out (by kernel_rfl)) (fun _ _ _ h => h) (Or.inl ⟨by rfl, ?_⟩) ?_ ?_
                          rotate_left
                          · intro w'
                            go_simp
                            with_reducible rfl
                          rotate_left
                          · simp only [Act.put, List.setIfInBounds_toArray, List.set_cons_zero, List.set_cons_succ, i64_w, i32_w]
                            rfl
                          refine pure_ (i := 8) (N := some 10) (v := ?_) (a' := ?_) #[true, true, true, true, true, true, true, true, true] rfl rfl (any_of HT_.out (by kernel_rfl)) (fun _ _ _ h => h) (Or.inl ⟨by rfl, ?_⟩) ?_ ?_
                          rotate_left
                          · intro w'
                            go_simp
                            with_reducible rfl
                          rotate_left
                          · simp only [Act.put, List.setIfInBounds_toArray, List.set_cons_zero, List.set_cons_succ, i64_w, i32_w]
                            rfl
                          refine done_ (done_of HT_.out (by kernel_rfl)) ?_
                          obtain ⟨Ao60, co60, eo60⟩ := Kd.R_slice HO316.out
                          subst eo60
                          obtain ⟨Ao61, co61, eo61⟩ := Kd.R_slice HO302.out
                          subst eo61
                          try go_wp2_with (first | ((with_reducible refine gate_callee (f := 16) rfl ?_); refine goesL_ (some 40) rfl rfl Try.func16 (by kernel_rfl) rfl #[.slice Ao60 t314.length co60, .slice Ao61 t300.length co61] rfl (by (try simp only [List.map_toArray, List.map_cons, List.map_nil]); first | done | rfl | (simp only [List.length_drop, List.length_take]; rfl)) ?_; (with_reducible refine (laws_eqIntS.calls k _ _ t314 _ _ t300 true _ ?side1 ?side2 ?side3 ?side4 A16.out).mono ?_); (case side1 => repeat (first | exact (Kd.R_reads' HO316.out).2.2 | (with_reducible refine Kd.C_alloc ?_ _) | (with_reducible refine Kd.C_drewN ?_ _) | (with_reducible refine Kd.C_drew ?_))); (case side2 => exact (Kd.R_reads' HO316.out).2.1); (case side3 => repeat (first | exact (Kd.R_reads' HO302.out).2.2 | (with_reducible refine Kd.C_alloc ?_ _) | (with_reducible refine Kd.C_drewN ?_ _) | (with_reducible refine Kd.C_drew ?_))); (case side4 => exact (Kd.R_reads' HO302.out).2.1); rintro e w' ⟨rfl, ⟨nd, rfl⟩⟩; refine ⟨_, rfl, ?_⟩))
                          (try (rw [drewN_self w59]; generalize hq_ : World.drewN w59 _ = w59; have n0_ : Aside0 (Kd.R (Kd.int .i64) 3 w59 w.heap.size (fun k_ => ((some k_ ≠ (.slice Ao61 t300.length co61 : Value).ownBlock ∧ some k_ ≠ (.slice Ao55 t306.length co55 : Value).ownBlock) ∧ some k_ ≠ (.slice Ao60 t314.length co60 : Value).ownBlock)) (.slice Ao47 t293.length co47) t293) := ⟨by rw [← hq_]; exact (by (with_reducible repeat (first | apply Kd.R_alloc | apply Kd.R_drewN | apply Kd.R_drew)); exact HO295.out)⟩; have n1_ : Aside0 (Kd.R (Kd.int .i64) 3 w59 w.heap.size (fun k_ => ((some k_ ≠ (.slice Ao47 t293.length co47 : Value).ownBlock ∧ some k_ ≠ (.slice Ao55 t306.length co55 : Value).ownBlock) ∧ some k_ ≠ (.slice Ao60 t314.length co60 : Value).ownBlock)) (.slice Ao61 t300.length co61) t300) := ⟨by rw [← hq_]; exact (by (with_reducible repeat (first | apply Kd.R_alloc | apply Kd.R_drewN | apply Kd.R_drew)); exact HO302.out)⟩; have n2_ : Aside0 (Kd.R (Kd.int .i64) 3 w59 w.heap.size (fun k_ => ((some k_ ≠ (.slice Ao47 t293.length co47 : Value).ownBlock ∧ some k_ ≠ (.slice Ao61 t300.length co61 : Value).ownBlock) ∧ some k_ ≠ (.slice Ao60 t314.length co60 : Value).ownBlock)) (.slice Ao55 t306.length co55) t306) := ⟨by rw [← hq_]; exact (by (with_reducible repeat (first | apply Kd.R_alloc | apply Kd.R_drewN | apply Kd.R_drew)); exact HO308.out)⟩; have n3_ : Aside0 (Kd.R (Kd.int .i64) 3 w59 w.heap.size (fun k_ => (((True ∧ some k_ ≠ (.slice Ao47 t293.length co47 : Value).ownBlock) ∧ some k_ ≠ (.slice Ao61 t300.length co61 : Value).ownBlock) ∧ some k_ ≠ (.slice Ao55 t306.length co55 : Value).ownBlock)) (.slice Ao60 t314.length co60) t314) := ⟨by rw [← hq_]; exact (by (with_reducible repeat (first | apply Kd.R_alloc | apply Kd.R_drewN | apply Kd.R_drew)); exact HO316.out)⟩; have n4_ : Aside0 (w59.heap[gb288]? = some (.cells #[.int .i64 a0_0, .int .i64 a0_1, .slice A0_2 l0_2.length c0_2] 24 (0, 0))) := ⟨by rw [← hq_]; exact (by (with_reducible repeat (first | refine blk_drewN ?_ _ | refine blk_drew ?_ | refine blk_alloc ?_ _)); exact BK288.out)⟩; have n5_ : Aside0 (w59.heap[gb289]? = some (.cells #[.int .i64 a1_0, .int .i64 a1_1, .int .i64 a1_2, .int .i64 a1_3] 26 (0, 0))) := ⟨by rw [← hq_]; exact (by (with_reducible repeat (first | refine blk_drewN ?_ _ | refine blk_drew ?_ | refine blk_alloc ?_ _)); exact BK289.out)⟩; have n6_ : Aside0 (w59.heap[gb309]? = some (.cells #[.int .i64 t304, .int .i64 t305, .slice Ao55 t306.length co55] 30 (0, 0))) := ⟨by rw [← hq_]; exact (by (with_reducible repeat (first | refine blk_drewN ?_ _ | refine blk_drew ?_ | refine blk_alloc ?_ _)); exact BK309.out)⟩; have n7_ : Aside0 (Below w.heap.size w w59) := ⟨by rw [← hq_]; exact (by repeat (first | (with_reducible first | exact HB.out | apply below_alloc | apply pw_below_drewN | apply below_drew1 | refine below_set ?_ GE288.out | refine below_set ?_ GE289.out | refine below_set ?_ GE309.out) | exact HB.out))⟩; clear HO295 HO302 HO308 HO316 BK288 BK289 BK309 HB hq_; have HO295 := n0_; have HO302 := n1_; have HO308 := n2_; have HO316 := n3_; have BK288 := n4_; have BK289 := n5_; have BK309 := n6_; have HB := n7_; clear n0_ n1_ n2_ n3_ n4_ n5_ n6_ n7_))
                          have n0_ := Aside0.mk (Kd.R_drew HO295.out)
                          have n1_ := Aside0.mk (Kd.R_drew HO302.out)
                          have n2_ := Aside0.mk (Kd.R_drew HO308.out)
                          have n3_ := Aside0.mk (Kd.R_drew HO316.out)
                          have n4_ := Aside0.mk (blk_drew BK288.out)
                          have n5_ := Aside0.mk (blk_drew BK289.out)
                          have n6_ := Aside0.mk (blk_drew BK309.out)
                          have n7_ := Aside0.mk (below_drew1 HB.out)
                          clear HO295
                          clear HO302
                          clear HO308
                          clear HO316
                          clear BK288
                          clear BK289
                          clear BK309
                          clear HB
                          have HO295 := n0_
                          have HO302 := n1_
                          have HO308 := n2_
                          have HO316 := n3_
                          have BK288 := n4_
                          have BK289 := n5_
                          have BK309 := n6_
                          have HB := n7_
                          clear n0_ n1_ n2_ n3_ n4_ n5_ n6_ n7_
                          refine start_ (n := 5) (S := fun w' => w'.cell? ⟨gb309, 0, none⟩ = some (.int .i64 t304) ∧ w'.cell? ⟨gb309, 1, none⟩ = some (.int .i64 t305) ∧ w'.cell? ⟨gb309, 2, none⟩ = some (.slice Ao55 t306.length co55) ∧ w'.cell? ⟨gb288, 0, none⟩ = some (.int .i64 a0_0) ∧ w'.cell? ⟨gb288, 1, none⟩ = some (.int .i64 a0_1) ∧ w'.cell? ⟨gb288, 2, none⟩ = some (.slice A0_2 l0_2.length c0_2)) (ds := []) #[false, false, false, false, false] (by kernel_rfl) rfl rfl ⟨(blk_cell BK309.out 0).trans rfl, (blk_cell BK309.out 1).trans rfl, (blk_cell BK309.out 2).trans rfl, (blk_cell BK288.out 0).trans rfl, (blk_cell BK288.out 1).trans rfl, (blk_cell BK288.out 2).trans rfl⟩ (fun hHeld => ?_)
                          generalize w59.drew = w62 at HO295 HO302 HO308 HO316 BK288 BK289 BK309 HB hHeld ⊢
                          refine take_ (i := 0) (N := some 47) (v := ?_) (a' := ?_) #[true, false, false, false, false] rfl rfl (by kernel_rfl) (fun _ _ _ h => h) (Or.inl ⟨by rfl, ?_⟩) hHeld ?_ ?_
                          rotate_left
                          · rintro w' ⟨s0, s1, s2, s3, s4, s5⟩
                            go_simp
                            with_reducible rfl
                          rotate_left
                          · simp only [Act.put, List.setIfInBounds_toArray, List.set_cons_zero, List.set_cons_succ, i64_w, i32_w]
                            rfl
                          refine take_ (i := 1) (N := some 48) (v := ?_) (a' := ?_) #[true, true, false, false, false] rfl rfl (by kernel_rfl) (fun _ _ _ h => h) (Or.inl ⟨by rfl, ?_⟩) hHeld ?_ ?_
                          rotate_left
                          · rintro w' ⟨s0, s1, s2, s3, s4, s5⟩
                            go_simp
                            with_reducible rfl
                          rotate_left
                          · simp only [Act.put, List.setIfInBounds_toArray, List.set_cons_zero, List.set_cons_succ, i64_w, i32_w]
                            rfl
                          refine one_ (i := 2) (N := some 49) #[true, true, true, false, false] rfl rfl (by kernel_rfl) (by decide) (fun K hK => ?_)
                          refine goes_ Try.func13 (by kernel_rfl) rfl #[.agg #[.int .i64 a0_0, .int .i64 a0_1, .slice A0_2 l0_2.length c0_2]] (by rfl) rfl rfl (by (try simp only [List.map_toArray, List.map_cons, List.map_nil]); first | done | rfl | (simp only [List.length_drop, List.length_take]; rfl)) ?_
                          with_reducible refine (laws_toChart.calls k a0_0 a0_1 _ _ l0_2 t319 t320 t321 _ ?side1 ?side2 A19.out).mono ?_
                          (case side1 => repeat (first | exact (Kd.C_below HR0_2.out HB.out) | (with_reducible refine Kd.C_alloc ?_ _) | (with_reducible refine Kd.C_drewN ?_ _) | (with_reducible refine Kd.C_drew ?_)))
                          (case side2 => exact HC0_2.out)
                          rintro e w63 ⟨v322, rfl, ho0, hb⟩
                          refine ⟨_, rfl, ?_⟩
                          have n0_ := Aside0.mk (Kd.R_elder' (by (with_reducible repeat (first | apply Kd.R_alloc | apply Kd.R_drewN | apply Kd.R_drew)); exact HO295.out) (Kd.R_base ho0) hb)
                          have n1_ := Aside0.mk (Kd.R_elder' (by (with_reducible repeat (first | apply Kd.R_alloc | apply Kd.R_drewN | apply Kd.R_drew)); exact HO302.out) (Kd.R_base ho0) hb)
                          have n2_ := Aside0.mk (Kd.R_elder' (by (with_reducible repeat (first | apply Kd.R_alloc | apply Kd.R_drewN | apply Kd.R_drew)); exact HO308.out) (Kd.R_base ho0) hb)
                          have n3_ := Aside0.mk (Kd.R_elder' (by (with_reducible repeat (first | apply Kd.R_alloc | apply Kd.R_drewN | apply Kd.R_drew)); exact HO316.out) (Kd.R_base ho0) hb)
                          have n4_ := Aside0.mk (Kd.R_lower (Kd.R_new' (Kd.R_new' (Kd.R_new' (Kd.R_new' ho0 (Kd.R_lt (by (with_reducible repeat (first | apply Kd.R_alloc | apply Kd.R_drewN | apply Kd.R_drew)); exact HO295.out))) (Kd.R_lt (by (with_reducible repeat (first | apply Kd.R_alloc | apply Kd.R_drewN | apply Kd.R_drew)); exact HO302.out))) (Kd.R_lt (by (with_reducible repeat (first | apply Kd.R_alloc | apply Kd.R_drewN | apply Kd.R_drew)); exact HO308.out))) (Kd.R_lt (by (with_reducible repeat (first | apply Kd.R_alloc | apply Kd.R_drewN | apply Kd.R_drew)); exact HO316.out))) (below_size (by repeat (first | (with_reducible first | exact HB.out | apply below_alloc | apply pw_below_drewN | apply below_drew1 | refine below_set ?_ GE288.out | refine below_set ?_ GE289.out | refine below_set ?_ GE309.out) | exact HB.out))))
                          have n5_ := Aside0.mk (blk_below (g := gb288) (o := .cells #[.int .i64 a0_0, .int .i64 a0_1, .slice A0_2 l0_2.length c0_2] 24 (0, 0)) (by (with_reducible repeat (first | refine blk_drewN ?_ _ | refine blk_drew ?_ | refine blk_alloc ?_ _)); exact BK288.out) hb)
                          have n6_ := Aside0.mk (blk_below (g := gb289) (o := .cells #[.int .i64 a1_0, .int .i64 a1_1, .int .i64 a1_2, .int .i64 a1_3] 26 (0, 0)) (by (with_reducible repeat (first | refine blk_drewN ?_ _ | refine blk_drew ?_ | refine blk_alloc ?_ _)); exact BK289.out) hb)
                          have n7_ := Aside0.mk (blk_below (g := gb309) (o := .cells #[.int .i64 t304, .int .i64 t305, .slice Ao55 t306.length co55] 30 (0, 0)) (by (with_reducible repeat (first | refine blk_drewN ?_ _ | refine blk_drew ?_ | refine blk_alloc ?_ _)); exact BK309.out) hb)
                          have n8_ := Aside0.mk (below_step (by repeat (first | (with_reducible first | exact HB.out | apply below_alloc | apply pw_below_drewN | apply below_drew1 | refine below_set ?_ GE288.out | refine below_set ?_ GE289.out | refine below_set ?_ GE309.out) | exact HB.out)) hb)
                          clear HO295
                          clear HO302
                          clear HO308
                          clear HO316
                          clear BK288
                          clear BK289
                          clear BK309
                          clear HB
                          have HO295 := n0_
                          have HO302 := n1_
                          have HO308 := n2_
                          have HO316 := n3_
                          have HO323 := n4_
                          have BK288 := n5_
                          have BK289 := n6_
                          have BK309 := n7_
                          have HB := n8_
                          clear n0_ n1_ n2_ n3_ n4_ n5_ n6_ n7_ n8_
                          (try clear hb)
                          (try clear hb2)
                          (try clear hk)
                          (try clear hi)
                          (try clear ho0)
                          obtain ⟨Ao64, co64, eo64⟩ := Kd.R_slice HO323.out
                          (first | subst eo64 | (injection eo64 with f1_ f2_ f3_; have f4_ := f1_.symm; have f5_ := f3_.symm; clear f1_ f2_ f3_; subst f4_; subst f5_))
                          refine hK.out _ _ ⟨(blk_cell BK309.out 0).trans rfl, (blk_cell BK309.out 1).trans rfl, (blk_cell BK309.out 2).trans rfl, (blk_cell BK288.out 0).trans rfl, (blk_cell BK288.out 1).trans rfl, (blk_cell BK288.out 2).trans rfl⟩ (fun hHeld => ?_)
                          clear hK K
                          refine norm_ (a' := ?_) ?_ ?_
                          rotate_left
                          · show Act.put _ (some 49) _ = _
                            simp only [Act.put, List.setIfInBounds_toArray, List.set_cons_zero, List.set_cons_succ, i64_w, i32_w]
                            rfl
                          refine one_ (i := 3) (N := some 50) #[true, true, true, true, false] rfl rfl (by kernel_rfl) (by decide) (fun K hK => ?_)
                          refine goes_ Try.func17 (by kernel_rfl) rfl #[.agg #[.int .i64 t304, .int .i64 t305, .slice Ao55 t306.length co55], .agg #[.int .i64 t319, .int .i64 t320, .slice Ao64 t321.length co64]] (by rfl) rfl rfl (by (try simp only [List.map_toArray, List.map_cons, List.map_nil]); first | done | rfl | (simp only [List.length_drop, List.length_take]; rfl)) ?_
                          with_reducible refine (laws_eqChart.calls k t304 t305 _ _ t306 t319 t320 _ _ t321 true _ ?side1 ?side2 ?side3 ?side4 A20.out).mono ?_
                          (case side1 => repeat (first | exact (Kd.R_reads' HO308.out).2.2 | (with_reducible refine Kd.C_alloc ?_ _) | (with_reducible refine Kd.C_drewN ?_ _) | (with_reducible refine Kd.C_drew ?_)))
                          (case side2 => exact (Kd.R_reads' HO308.out).2.1)
                          (case side3 => repeat (first | exact (Kd.R_reads' HO323.out).2.2 | (with_reducible refine Kd.C_alloc ?_ _) | (with_reducible refine Kd.C_drewN ?_ _) | (with_reducible refine Kd.C_drew ?_)))
                          (case side4 => exact (Kd.R_reads' HO323.out).2.1)
                          rintro e w65 ⟨rfl, hb⟩
                          refine ⟨_, rfl, ?_⟩
                          have n0_ := Aside0.mk (Kd.R_below (by (with_reducible repeat (first | apply Kd.R_alloc | apply Kd.R_drewN | apply Kd.R_drew)); exact HO295.out) hb)
                          have n1_ := Aside0.mk (Kd.R_below (by (with_reducible repeat (first | apply Kd.R_alloc | apply Kd.R_drewN | apply Kd.R_drew)); exact HO302.out) hb)
                          have n2_ := Aside0.mk (Kd.R_below (by (with_reducible repeat (first | apply Kd.R_alloc | apply Kd.R_drewN | apply Kd.R_drew)); exact HO308.out) hb)
                          have n3_ := Aside0.mk (Kd.R_below (by (with_reducible repeat (first | apply Kd.R_alloc | apply Kd.R_drewN | apply Kd.R_drew)); exact HO316.out) hb)
                          have n4_ := Aside0.mk (Kd.R_below (by (with_reducible repeat (first | apply Kd.R_alloc | apply Kd.R_drewN | apply Kd.R_drew)); exact HO323.out) hb)
                          have n5_ := Aside0.mk (blk_below (g := gb288) (o := .cells #[.int .i64 a0_0, .int .i64 a0_1, .slice A0_2 l0_2.length c0_2] 24 (0, 0)) (by (with_reducible repeat (first | refine blk_drewN ?_ _ | refine blk_drew ?_ | refine blk_alloc ?_ _)); exact BK288.out) hb)
                          have n6_ := Aside0.mk (blk_below (g := gb289) (o := .cells #[.int .i64 a1_0, .int .i64 a1_1, .int .i64 a1_2, .int .i64 a1_3] 26 (0, 0)) (by (with_reducible repeat (first | refine blk_drewN ?_ _ | refine blk_drew ?_ | refine blk_alloc ?_ _)); exact BK289.out) hb)
                          have n7_ := Aside0.mk (blk_below (g := gb309) (o := .cells #[.int .i64 t304, .int .i64 t305, .slice Ao55 t306.length co55] 30 (0, 0)) (by (with_reducible repeat (first | refine blk_drewN ?_ _ | refine blk_drew ?_ | refine blk_alloc ?_ _)); exact BK309.out) hb)
                          have n8_ := Aside0.mk (below_step (by repeat (first | (with_reducible first | exact HB.out | apply below_alloc | apply pw_below_drewN | apply below_drew1 | refine below_set ?_ GE288.out | refine below_set ?_ GE289.out | refine below_set ?_ GE309.out) | exact HB.out)) hb)
                          clear HO295
                          clear HO302
                          clear HO308
                          clear HO316
                          clear HO323
                          clear BK288
                          clear BK289
                          clear BK309
                          clear HB
                          have HO295 := n0_
                          have HO302 := n1_
                          have HO308 := n2_
                          have HO316 := n3_
                          have HO323 := n4_
                          have BK288 := n5_
                          have BK289 := n6_
                          have BK309 := n7_
                          have HB := n8_
                          clear n0_ n1_ n2_ n3_ n4_ n5_ n6_ n7_ n8_
                          (try clear hb)
                          (try clear hb2)
                          (try clear hk)
                          (try clear hi)
                          refine hK.out _ _ ⟨(blk_cell BK309.out 0).trans rfl, (blk_cell BK309.out 1).trans rfl, (blk_cell BK309.out 2).trans rfl, (blk_cell BK288.out 0).trans rfl, (blk_cell BK288.out 1).trans rfl, (blk_cell BK288.out 2).trans rfl⟩ (fun hHeld => ?_)
                          clear hK K
                          refine norm_ (a' := ?_) ?_ ?_
                          rotate_left
                          · show Act.put _ (some 50) _ = _
                            simp only [Act.put, List.setIfInBounds_toArray, List.set_cons_zero, List.set_cons_succ, i64_w, i32_w]
                            rfl
                          refine pure_ (i := 4) (N := some 51) (v := ?_) (a' := ?_) #[true, true, true, true, true] rfl rfl (by kernel_rfl) (fun _ _ _ h => h) (Or.inl ⟨by rfl, ?_⟩) ?_ ?_
                          rotate_left
                          · intro w'
                            go_simp
                            with_reducible rfl
                          rotate_left
                          · simp only [Act.put, List.setIfInBounds_toArray, List.set_cons_zero, List.set_cons_succ, i64_w, i32_w]
                            rfl
                          refine done_ (by kernel_rfl) ?_
                          have hcz66_0 : w65.cell? ⟨gb309, 0, none⟩ = some (.int .i64 t304) := (blk_cell BK309.out 0).trans rfl
                          have hcz66_1 : w65.cell? ⟨gb309, 1, none⟩ = some (.int .i64 t305) := (blk_cell BK309.out 1).trans rfl
                          have hcz66_2 : w65.cell? ⟨gb309, 2, none⟩ = some (.slice Ao55 t306.length co55) := (blk_cell BK309.out 2).trans rfl
                          have hfz66_0 := blk_frozen BK309.out 0
                          have hfz66_1 := blk_frozen BK309.out 1
                          have hfz66_2 := blk_frozen BK309.out 2
                          try go_wp2_with (first | ((with_reducible refine gate_callee (f := 18) rfl ?_); refine goesL_ (some 54) rfl rfl Try.func18 (by kernel_rfl) rfl #[.agg #[.int .i64 t304, .int .i64 t305, .slice Ao55 t306.length co55], .int .i64 1] rfl (by (try simp only [List.map_toArray, List.map_cons, List.map_nil]); first | done | rfl | (simp only [List.length_drop, List.length_take]; rfl)) ?_; (with_reducible refine (laws_markChart.calls k t304 t305 (fun k_ => some k_ = (.slice Ao55 t306.length co55 : Value).ownBlock) (.slice Ao55 t306.length co55) t306 1 t325 t326 w _ ?side1 ?side2 A22.out).mono ?_); (case side1 => repeat (first | (with_reducible first | exact HB.out | apply below_alloc | apply pw_below_drewN | apply below_drew1 | refine below_set ?_ GE288.out | refine below_set ?_ GE289.out | refine below_set ?_ GE309.out) | exact HB.out)); (case side2 => exact Kd.R_tight rfl HO308.out); rintro e w67 ⟨rfl, hy0, hb, hkp⟩; refine ⟨_, rfl, ?_⟩; have n0_ := Aside0.mk (blk_kept (by (with_reducible repeat (first | refine blk_drewN ?_ _ | refine blk_drew ?_ | refine blk_alloc ?_ _)); exact BK288.out) hkp (fun hs_ => (fun e_ => (Kd.R_ne HO308.out BK288.out (by decide)) e_) hs_)); have n1_ := Aside0.mk (blk_kept (by (with_reducible repeat (first | refine blk_drewN ?_ _ | refine blk_drew ?_ | refine blk_alloc ?_ _)); exact BK289.out) hkp (fun hs_ => (fun e_ => (Kd.R_ne HO308.out BK289.out (by decide)) e_) hs_)); have n2_ := Aside0.mk (Kd.R_mono (ok' := fun k_ => some k_ ≠ (.slice Ao61 t300.length co61 : Value).ownBlock ∧ some k_ ≠ (.slice Ao55 t306.length co55 : Value).ownBlock ∧ some k_ ≠ (.slice Ao60 t314.length co60 : Value).ownBlock ∧ some k_ ≠ (.slice Ao64 t321.length co64 : Value).ownBlock) (Kd.R_keptB (HO295.out) hkp (fun k_ hk_ hs_ => (hk_.1.1.2) hs_)) (fun k_ hk_ => ⟨hk_.1.1.1.1, hk_.1.1.1.2, hk_.1.1.2, hk_.1.2⟩)); have n3_ := Aside0.mk (Kd.R_mono (ok' := fun k_ => some k_ ≠ (.slice Ao47 t293.length co47 : Value).ownBlock ∧ some k_ ≠ (.slice Ao55 t306.length co55 : Value).ownBlock ∧ some k_ ≠ (.slice Ao60 t314.length co60 : Value).ownBlock ∧ some k_ ≠ (.slice Ao64 t321.length co64 : Value).ownBlock) (Kd.R_keptB (HO302.out) hkp (fun k_ hk_ hs_ => (hk_.1.1.2) hs_)) (fun k_ hk_ => ⟨hk_.1.1.1.1, hk_.1.1.1.2, hk_.1.1.2, hk_.1.2⟩)); have n4_ := Aside0.mk (Kd.R_reok rfl hy0 (fun k_ e_ => HO308.out.1 k_ e_)); have n5_ := Aside0.mk (blk_kept (by (with_reducible repeat (first | refine blk_drewN ?_ _ | refine blk_drew ?_ | refine blk_alloc ?_ _)); exact BK309.out) hkp (fun hs_ => (fun e_ => (Kd.R_ne HO308.out BK309.out (by decide)) e_) hs_)); have n6_ := Aside0.mk (Kd.R_mono (ok' := fun k_ => some k_ ≠ (.slice Ao47 t293.length co47 : Value).ownBlock ∧ some k_ ≠ (.slice Ao61 t300.length co61 : Value).ownBlock ∧ some k_ ≠ (.slice Ao55 t306.length co55 : Value).ownBlock ∧ some k_ ≠ (.slice Ao64 t321.length co64 : Value).ownBlock) (Kd.R_keptB (HO316.out) hkp (fun k_ hk_ hs_ => (hk_.1.2) hs_)) (fun k_ hk_ => ⟨hk_.1.1.1.1.2, hk_.1.1.1.2, hk_.1.1.2, hk_.1.2⟩)); have n7_ := Aside0.mk (Kd.R_mono (ok' := fun k_ => some k_ ≠ (.slice Ao47 t293.length co47 : Value).ownBlock ∧ some k_ ≠ (.slice Ao61 t300.length co61 : Value).ownBlock ∧ some k_ ≠ (.slice Ao55 t306.length co55 : Value).ownBlock ∧ some k_ ≠ (.slice Ao60 t314.length co60 : Value).ownBlock) (Kd.R_keptB (HO323.out) hkp (fun k_ hk_ hs_ => (hk_.1.2) hs_)) (fun k_ hk_ => ⟨hk_.1.1.1.1.2, hk_.1.1.1.2, hk_.1.1.2, hk_.1.2⟩)); have n8_ := Aside0.mk (hb); clear BK288; clear BK289; clear HO295; clear HO302; clear HO308; clear BK309; clear HO316; clear HO323; clear HB; have BK288 := n0_; have BK289 := n1_; have HO295 := n2_; have HO302 := n3_; have HO308 := n4_; have BK309 := n5_; have HO316 := n6_; have HO323 := n7_; have HB := n8_; clear n0_ n1_ n2_ n3_ n4_ n5_ n6_ n7_ n8_; (try clear hb); (try clear hkp); (try clear hy0)) | (go_at_call 16; (with_reducible refine (laws_eqIntS.calls k _ _ t314 _ _ t300 true _ ?side1 ?side2 ?side3 ?side4 A24.out).mono ?_); (case side1 => repeat (first | exact (Kd.R_reads' HO316.out).2.2 | (with_reducible refine Kd.C_alloc ?_ _) | (with_reducible refine Kd.C_drewN ?_ _) | (with_reducible refine Kd.C_drew ?_))); (case side2 => exact (Kd.R_reads' HO316.out).2.1); (case side3 => repeat (first | exact (Kd.R_reads' HO302.out).2.2 | (with_reducible refine Kd.C_alloc ?_ _) | (with_reducible refine Kd.C_drewN ?_ _) | (with_reducible refine Kd.C_drew ?_))); (case side4 => exact (Kd.R_reads' HO302.out).2.1); rintro e w' ⟨rfl, ⟨nd, rfl⟩⟩) | ((with_reducible refine gate_callee (f := 19) rfl ?_); refine goesL_ (some 70) rfl rfl Try.func19 (by kernel_rfl) rfl #[.slice Ao60 t314.length co60, .int .i64 1] rfl (by (try simp only [List.map_toArray, List.map_cons, List.map_nil]); first | done | rfl | (simp only [List.length_drop, List.length_take]; rfl)) ?_; (with_reducible refine (laws_markIntS.calls k (fun k_ => some k_ = (.slice Ao60 t314.length co60 : Value).ownBlock) (.slice Ao60 t314.length co60) t314 1 t328 t329 w _ ?side1 ?side2 A26.out).mono ?_); (case side1 => repeat (first | (with_reducible first | exact HB.out | apply below_alloc | apply pw_below_drewN | apply below_drew1 | refine below_set ?_ GE288.out | refine below_set ?_ GE289.out | refine below_set ?_ GE309.out) | exact HB.out)); (case side2 => exact Kd.R_tight rfl HO316.out); rintro e w68 ⟨rfl, hy0, hb, hkp⟩; refine ⟨_, rfl, ?_⟩; have n0_ := Aside0.mk (blk_kept (by (with_reducible repeat (first | refine blk_drewN ?_ _ | refine blk_drew ?_ | refine blk_alloc ?_ _)); exact BK288.out) hkp (fun hs_ => (fun e_ => (Kd.R_ne HO316.out BK288.out (by decide)) e_) hs_)); have n1_ := Aside0.mk (blk_kept (by (with_reducible repeat (first | refine blk_drewN ?_ _ | refine blk_drew ?_ | refine blk_alloc ?_ _)); exact BK289.out) hkp (fun hs_ => (fun e_ => (Kd.R_ne HO316.out BK289.out (by decide)) e_) hs_)); have n2_ := Aside0.mk (Kd.R_mono (ok' := fun k_ => some k_ ≠ (.slice Ao61 t300.length co61 : Value).ownBlock ∧ some k_ ≠ (.slice Ao55 t306.length co55 : Value).ownBlock ∧ some k_ ≠ (.slice Ao60 t314.length co60 : Value).ownBlock ∧ some k_ ≠ (.slice Ao64 t321.length co64 : Value).ownBlock) (Kd.R_keptB (HO295.out) hkp (fun k_ hk_ hs_ => (hk_.2.2.1) hs_)) (fun k_ hk_ => ⟨hk_.1.1, hk_.1.2.1, hk_.1.2.2.1, hk_.1.2.2.2⟩)); have n3_ := Aside0.mk (Kd.R_mono (ok' := fun k_ => some k_ ≠ (.slice Ao47 t293.length co47 : Value).ownBlock ∧ some k_ ≠ (.slice Ao55 t306.length co55 : Value).ownBlock ∧ some k_ ≠ (.slice Ao60 t314.length co60 : Value).ownBlock ∧ some k_ ≠ (.slice Ao64 t321.length co64 : Value).ownBlock) (Kd.R_keptB (HO302.out) hkp (fun k_ hk_ hs_ => (hk_.2.2.1) hs_)) (fun k_ hk_ => ⟨hk_.1.1, hk_.1.2.1, hk_.1.2.2.1, hk_.1.2.2.2⟩)); have n4_ := Aside0.mk (Kd.R_mono (ok' := fun k_ => some k_ ≠ (.slice Ao47 t293.length co47 : Value).ownBlock ∧ some k_ ≠ (.slice Ao61 t300.length co61 : Value).ownBlock ∧ some k_ ≠ (.slice Ao60 t314.length co60 : Value).ownBlock ∧ some k_ ≠ (.slice Ao64 t321.length co64 : Value).ownBlock) (Kd.R_keptB (HO308.out) hkp (fun k_ hk_ hs_ => (hk_.1.2) hs_)) (fun k_ hk_ => ⟨hk_.1.1.1.1, hk_.1.1.1.2, hk_.1.1.2, hk_.1.2⟩)); have n5_ := Aside0.mk (blk_kept (by (with_reducible repeat (first | refine blk_drewN ?_ _ | refine blk_drew ?_ | refine blk_alloc ?_ _)); exact BK309.out) hkp (fun hs_ => (fun e_ => (Kd.R_ne HO316.out BK309.out (by decide)) e_) hs_)); have n6_ := Aside0.mk (Kd.R_reok rfl hy0 (fun k_ e_ => HO316.out.1 k_ e_)); have n7_ := Aside0.mk (Kd.R_mono (ok' := fun k_ => some k_ ≠ (.slice Ao47 t293.length co47 : Value).ownBlock ∧ some k_ ≠ (.slice Ao61 t300.length co61 : Value).ownBlock ∧ some k_ ≠ (.slice Ao55 t306.length co55 : Value).ownBlock ∧ some k_ ≠ (.slice Ao60 t314.length co60 : Value).ownBlock) (Kd.R_keptB (HO323.out) hkp (fun k_ hk_ hs_ => (hk_.2.2.2) hs_)) (fun k_ hk_ => ⟨hk_.1.1, hk_.1.2.1, hk_.1.2.2.1, hk_.1.2.2.2⟩)); have n8_ := Aside0.mk (hb); clear BK288; clear BK289; clear HO295; clear HO302; clear HO308; clear BK309; clear HO316; clear HO323; clear HB; have BK288 := n0_; have BK289 := n1_; have HO295 := n2_; have HO302 := n3_; have HO308 := n4_; have BK309 := n5_; have HO316 := n6_; have HO323 := n7_; have HB := n8_; clear n0_ n1_ n2_ n3_ n4_ n5_ n6_ n7_ n8_; (try clear hb); (try clear hkp); (try clear hy0)) | ((with_reducible refine gate_callee (f := 20) rfl ?_); refine goesL_ (some 73) rfl rfl Try.func20 (by kernel_rfl) rfl #[.slice Ao60 t329.length co60, .int .i64 1] rfl (by (try simp only [List.map_toArray, List.map_cons, List.map_nil]); first | done | (rw [show t329.length = t314.length from (Kd.R_reads' HO316.out).1.symm] <;> rfl) | rfl | (simp only [List.length_drop, List.length_take]; rfl)) ?_; (with_reducible refine (laws_heldIntS.calls k _ _ t329 1 t330 _ ?side1 ?side2 A27.out).mono ?_); (case side1 => repeat (first | exact (Kd.R_reads' HO316.out).2.2 | (with_reducible refine Kd.C_alloc ?_ _) | (with_reducible refine Kd.C_drewN ?_ _) | (with_reducible refine Kd.C_drew ?_))); (case side2 => rw [show t329.length = t314.length from (Kd.R_reads' HO316.out).1.symm]; exact (Kd.R_reads' HO316.out).2.1); rintro e w' ⟨rfl, ⟨nd, rfl⟩⟩; refine ⟨_, rfl, ?_⟩))
                          (try (rw [drewN_self w68]; generalize hq_ : World.drewN w68 _ = w68; have n0_ : Aside0 (Kd.R (Kd.int .i64) 3 w68 w.heap.size (fun k_ => (some k_ ≠ (.slice Ao61 t300.length co61 : Value).ownBlock ∧ (some k_ ≠ (.slice Ao55 t306.length co55 : Value).ownBlock ∧ (some k_ ≠ (.slice Ao60 t314.length co60 : Value).ownBlock ∧ some k_ ≠ (.slice Ao64 t321.length co64 : Value).ownBlock)))) (.slice Ao47 t293.length co47) t293) := ⟨by rw [← hq_]; exact (by (with_reducible repeat (first | apply Kd.R_alloc | apply Kd.R_drewN | apply Kd.R_drew)); exact HO295.out)⟩; have n1_ : Aside0 (Kd.R (Kd.int .i64) 3 w68 w.heap.size (fun k_ => (some k_ ≠ (.slice Ao47 t293.length co47 : Value).ownBlock ∧ (some k_ ≠ (.slice Ao55 t306.length co55 : Value).ownBlock ∧ (some k_ ≠ (.slice Ao60 t314.length co60 : Value).ownBlock ∧ some k_ ≠ (.slice Ao64 t321.length co64 : Value).ownBlock)))) (.slice Ao61 t300.length co61) t300) := ⟨by rw [← hq_]; exact (by (with_reducible repeat (first | apply Kd.R_alloc | apply Kd.R_drewN | apply Kd.R_drew)); exact HO302.out)⟩; have n2_ : Aside0 (Kd.R (Kd.int .i64) 3 w68 w.heap.size (fun k_ => (some k_ ≠ (.slice Ao47 t293.length co47 : Value).ownBlock ∧ (some k_ ≠ (.slice Ao61 t300.length co61 : Value).ownBlock ∧ (some k_ ≠ (.slice Ao60 t314.length co60 : Value).ownBlock ∧ some k_ ≠ (.slice Ao64 t321.length co64 : Value).ownBlock)))) (.slice Ao55 t306.length co55) t326) := ⟨by rw [← hq_]; exact (by (with_reducible repeat (first | apply Kd.R_alloc | apply Kd.R_drewN | apply Kd.R_drew)); exact HO308.out)⟩; have n3_ : Aside0 (Kd.R (Kd.int .i64) 3 w68 w.heap.size (fun k_ => (some k_ ≠ (.slice Ao47 t293.length co47 : Value).ownBlock ∧ (some k_ ≠ (.slice Ao61 t300.length co61 : Value).ownBlock ∧ (some k_ ≠ (.slice Ao55 t306.length co55 : Value).ownBlock ∧ some k_ ≠ (.slice Ao64 t321.length co64 : Value).ownBlock)))) (.slice Ao60 t314.length co60) t329) := ⟨by rw [← hq_]; exact (by (with_reducible repeat (first | apply Kd.R_alloc | apply Kd.R_drewN | apply Kd.R_drew)); exact HO316.out)⟩; have n4_ : Aside0 (Kd.R (Kd.int .i64) 3 w68 w.heap.size (fun k_ => (some k_ ≠ (.slice Ao47 t293.length co47 : Value).ownBlock ∧ (some k_ ≠ (.slice Ao61 t300.length co61 : Value).ownBlock ∧ (some k_ ≠ (.slice Ao55 t306.length co55 : Value).ownBlock ∧ some k_ ≠ (.slice Ao60 t314.length co60 : Value).ownBlock)))) (.slice Ao64 t321.length co64) t321) := ⟨by rw [← hq_]; exact (by (with_reducible repeat (first | apply Kd.R_alloc | apply Kd.R_drewN | apply Kd.R_drew)); exact HO323.out)⟩; have n5_ : Aside0 (w68.heap[gb288]? = some (.cells #[.int .i64 a0_0, .int .i64 a0_1, .slice A0_2 l0_2.length c0_2] 24 (0, 0))) := ⟨by rw [← hq_]; exact (by (with_reducible repeat (first | refine blk_drewN ?_ _ | refine blk_drew ?_ | refine blk_alloc ?_ _)); exact BK288.out)⟩; have n6_ : Aside0 (w68.heap[gb289]? = some (.cells #[.int .i64 a1_0, .int .i64 a1_1, .int .i64 a1_2, .int .i64 a1_3] 26 (0, 0))) := ⟨by rw [← hq_]; exact (by (with_reducible repeat (first | refine blk_drewN ?_ _ | refine blk_drew ?_ | refine blk_alloc ?_ _)); exact BK289.out)⟩; have n7_ : Aside0 (w68.heap[gb309]? = some (.cells #[.int .i64 t304, .int .i64 t305, .slice Ao55 t306.length co55] 30 (0, 0))) := ⟨by rw [← hq_]; exact (by (with_reducible repeat (first | refine blk_drewN ?_ _ | refine blk_drew ?_ | refine blk_alloc ?_ _)); exact BK309.out)⟩; have n8_ : Aside0 (Below w.heap.size w w68) := ⟨by rw [← hq_]; exact (by repeat (first | (with_reducible first | exact HB.out | apply below_alloc | apply pw_below_drewN | apply below_drew1 | refine below_set ?_ GE288.out | refine below_set ?_ GE289.out | refine below_set ?_ GE309.out) | exact HB.out))⟩; clear HO295 HO302 HO308 HO316 HO323 BK288 BK289 BK309 HB hq_; have HO295 := n0_; have HO302 := n1_; have HO308 := n2_; have HO316 := n3_; have HO323 := n4_; have BK288 := n5_; have BK289 := n6_; have BK309 := n7_; have HB := n8_; clear n0_ n1_ n2_ n3_ n4_ n5_ n6_ n7_ n8_))
                          have n0_ := Aside0.mk (Kd.R_drew HO295.out)
                          have n1_ := Aside0.mk (Kd.R_drew HO302.out)
                          have n2_ := Aside0.mk (Kd.R_drew HO308.out)
                          have n3_ := Aside0.mk (Kd.R_drew HO316.out)
                          have n4_ := Aside0.mk (Kd.R_drew HO323.out)
                          have n5_ := Aside0.mk (blk_drew BK288.out)
                          have n6_ := Aside0.mk (blk_drew BK289.out)
                          have n7_ := Aside0.mk (blk_drew BK309.out)
                          have n8_ := Aside0.mk (below_drew1 HB.out)
                          clear HO295
                          clear HO302
                          clear HO308
                          clear HO316
                          clear HO323
                          clear BK288
                          clear BK289
                          clear BK309
                          clear HB
                          have HO295 := n0_
                          have HO302 := n1_
                          have HO308 := n2_
                          have HO316 := n3_
                          have HO323 := n4_
                          have BK288 := n5_
                          have BK289 := n6_
                          have BK309 := n7_
                          have HB := n8_
                          clear n0_ n1_ n2_ n3_ n4_ n5_ n6_ n7_ n8_
                          refine start_ (n := 10) (S := fun w' => w'.cell? ⟨gb288, 0, none⟩ = some (.int .i64 a0_0) ∧ w'.cell? ⟨gb288, 1, none⟩ = some (.int .i64 a0_1) ∧ w'.cell? ⟨gb288, 2, none⟩ = some (.slice A0_2 l0_2.length c0_2) ∧ w'.cell? ⟨gb289, 0, none⟩ = some (.int .i64 a1_0) ∧ w'.cell? ⟨gb289, 1, none⟩ = some (.int .i64 a1_1) ∧ w'.cell? ⟨gb289, 2, none⟩ = some (.int .i64 a1_2) ∧ w'.cell? ⟨gb289, 3, none⟩ = some (.int .i64 a1_3)) (ds := []) #[false, false, false, false, false, false, false, false, false, false] (by kernel_rfl) rfl rfl ⟨(blk_cell BK288.out 0).trans rfl, (blk_cell BK288.out 1).trans rfl, (blk_cell BK288.out 2).trans rfl, (blk_cell BK289.out 0).trans rfl, (blk_cell BK289.out 1).trans rfl, (blk_cell BK289.out 2).trans rfl, (blk_cell BK289.out 3).trans rfl⟩ (fun hHeld => ?_); refine with_tabW laws_FnExactBallsByColor.tab24 laws_FnExactBallsByColor.bits24 (fun HT_ HW_ => ?_)
                          generalize w68.drew = w69 at HO295 HO302 HO308 HO316 HO323 BK288 BK289 BK309 HB hHeld ⊢
                          refine take_ (i := 0) (N := some 80) (v := ?_) (a' := ?_) #[true, false, false, false, false, false, false, false, false, false] rfl rfl (take_ofW HT_.out HW_.out (by kernel_rfl)) (fun _ _ _ h => h) (Or.inl ⟨by rfl, ?_⟩) hHeld ?_ ?_
                          rotate_left
                          · rintro w' ⟨s0, s1, s2, s3, s4, s5, s6⟩
                            go_simp
                            with_reducible rfl
                          rotate_left
                          · simp only [Act.put, List.setIfInBounds_toArray, List.set_cons_zero, List.set_cons_succ, i64_w, i32_w]
                            rfl
                          refine take_ (i := 2) (N := some 82) (v := ?_) (a' := ?_) #[true, false, true, false, false, false, false, false, false, false] rfl rfl (take_ofW HT_.out HW_.out (by kernel_rfl)) (fun _ _ _ h => h) (Or.inl ⟨by rfl, ?_⟩) hHeld ?_ ?_
                          rotate_left
                          · rintro w' ⟨s0, s1, s2, s3, s4, s5, s6⟩
                            go_simp
                            with_reducible rfl
                          rotate_left
                          · simp only [Act.put, List.setIfInBounds_toArray, List.set_cons_zero, List.set_cons_succ, i64_w, i32_w]
                            rfl
                          refine one_ (i := 1) (N := some 81) #[true, true, true, false, false, false, false, false, false, false] rfl rfl (one_of HT_.out (by kernel_rfl)) (by decide) (fun K hK => ?_)
                          refine goes_ Try.func13 (by kernel_rfl) rfl #[.agg #[.int .i64 a0_0, .int .i64 a0_1, .slice A0_2 l0_2.length c0_2]] (by rfl) rfl rfl (by (try simp only [List.map_toArray, List.map_cons, List.map_nil]); first | done | rfl | (simp only [List.length_drop, List.length_take]; rfl)) ?_
                          with_reducible refine (laws_toChart.calls k a0_0 a0_1 _ _ l0_2 t331 t332 t333 _ ?side1 ?side2 A30.out).mono ?_
                          (case side1 => repeat (first | exact (Kd.C_below HR0_2.out HB.out) | (with_reducible refine Kd.C_alloc ?_ _) | (with_reducible refine Kd.C_drewN ?_ _) | (with_reducible refine Kd.C_drew ?_)))
                          (case side2 => exact HC0_2.out)
                          rintro e w70 ⟨v334, rfl, ho0, hb⟩
                          refine ⟨_, rfl, ?_⟩
                          have n0_ := Aside0.mk (Kd.R_elder' (by (with_reducible repeat (first | apply Kd.R_alloc | apply Kd.R_drewN | apply Kd.R_drew)); exact HO295.out) (Kd.R_base ho0) hb)
                          have n1_ := Aside0.mk (Kd.R_elder' (by (with_reducible repeat (first | apply Kd.R_alloc | apply Kd.R_drewN | apply Kd.R_drew)); exact HO302.out) (Kd.R_base ho0) hb)
                          have n2_ := Aside0.mk (Kd.R_elder' (by (with_reducible repeat (first | apply Kd.R_alloc | apply Kd.R_drewN | apply Kd.R_drew)); exact HO308.out) (Kd.R_base ho0) hb)
                          have n3_ := Aside0.mk (Kd.R_elder' (by (with_reducible repeat (first | apply Kd.R_alloc | apply Kd.R_drewN | apply Kd.R_drew)); exact HO316.out) (Kd.R_base ho0) hb)
                          have n4_ := Aside0.mk (Kd.R_elder' (by (with_reducible repeat (first | apply Kd.R_alloc | apply Kd.R_drewN | apply Kd.R_drew)); exact HO323.out) (Kd.R_base ho0) hb)
                          have n5_ := Aside0.mk (Kd.R_lower (Kd.R_new' (Kd.R_new' (Kd.R_new' (Kd.R_new' (Kd.R_new' ho0 (Kd.R_lt (by (with_reducible repeat (first | apply Kd.R_alloc | apply Kd.R_drewN | apply Kd.R_drew)); exact HO295.out))) (Kd.R_lt (by (with_reducible repeat (first | apply Kd.R_alloc | apply Kd.R_drewN | apply Kd.R_drew)); exact HO302.out))) (Kd.R_lt (by (with_reducible repeat (first | apply Kd.R_alloc | apply Kd.R_drewN | apply Kd.R_drew)); exact HO308.out))) (Kd.R_lt (by (with_reducible repeat (first | apply Kd.R_alloc | apply Kd.R_drewN | apply Kd.R_drew)); exact HO316.out))) (Kd.R_lt (by (with_reducible repeat (first | apply Kd.R_alloc | apply Kd.R_drewN | apply Kd.R_drew)); exact HO323.out))) (below_size (by repeat (first | (with_reducible first | exact HB.out | apply below_alloc | apply pw_below_drewN | apply below_drew1 | refine below_set ?_ GE288.out | refine below_set ?_ GE289.out | refine below_set ?_ GE309.out) | exact HB.out))))
                          have n6_ := Aside0.mk (blk_below (g := gb288) (o := .cells #[.int .i64 a0_0, .int .i64 a0_1, .slice A0_2 l0_2.length c0_2] 24 (0, 0)) (by (with_reducible repeat (first | refine blk_drewN ?_ _ | refine blk_drew ?_ | refine blk_alloc ?_ _)); exact BK288.out) hb)
                          have n7_ := Aside0.mk (blk_below (g := gb289) (o := .cells #[.int .i64 a1_0, .int .i64 a1_1, .int .i64 a1_2, .int .i64 a1_3] 26 (0, 0)) (by (with_reducible repeat (first | refine blk_drewN ?_ _ | refine blk_drew ?_ | refine blk_alloc ?_ _)); exact BK289.out) hb)
                          have n8_ := Aside0.mk (blk_below (g := gb309) (o := .cells #[.int .i64 t304, .int .i64 t305, .slice Ao55 t306.length co55] 30 (0, 0)) (by (with_reducible repeat (first | refine blk_drewN ?_ _ | refine blk_drew ?_ | refine blk_alloc ?_ _)); exact BK309.out) hb)
                          have n9_ := Aside0.mk (below_step (by repeat (first | (with_reducible first | exact HB.out | apply below_alloc | apply pw_below_drewN | apply below_drew1 | refine below_set ?_ GE288.out | refine below_set ?_ GE289.out | refine below_set ?_ GE309.out) | exact HB.out)) hb)
                          clear HO295
                          clear HO302
                          clear HO308
                          clear HO316
                          clear HO323
                          clear BK288
                          clear BK289
                          clear BK309
                          clear HB
                          have HO295 := n0_
                          have HO302 := n1_
                          have HO308 := n2_
                          have HO316 := n3_
                          have HO323 := n4_
                          have HO335 := n5_
                          have BK288 := n6_
                          have BK289 := n7_
                          have BK309 := n8_
                          have HB := n9_
                          clear n0_ n1_ n2_ n3_ n4_ n5_ n6_ n7_ n8_ n9_
                          (try clear hb)
                          (try clear hb2)
                          (try clear hk)
                          (try clear hi)
                          (try clear ho0)
                          refine hK.out _ _ ⟨(blk_cell BK288.out 0).trans rfl, (blk_cell BK288.out 1).trans rfl, (blk_cell BK288.out 2).trans rfl, (blk_cell BK289.out 0).trans rfl, (blk_cell BK289.out 1).trans rfl, (blk_cell BK289.out 2).trans rfl, (blk_cell BK289.out 3).trans rfl⟩ (fun hHeld => ?_)
                          clear hK K
                          refine norm_ (a' := ?_) ?_ ?_
                          rotate_left
                          · show Act.put _ (some 81) _ = _
                            simp only [Act.put, List.setIfInBounds_toArray, List.set_cons_zero, List.set_cons_succ, i64_w, i32_w]
                            rfl
                          refine one_ (i := 3) (N := some 83) #[true, true, true, true, false, false, false, false, false, false] rfl rfl (one_of HT_.out (by kernel_rfl)) (by decide) (fun K hK => ?_)
                          refine goes_ Try.func14 (by kernel_rfl) rfl #[.agg #[.int .i64 a1_0, .int .i64 a1_1, .int .i64 a1_2, .int .i64 a1_3]] (by rfl) rfl rfl (by (try simp only [List.map_toArray, List.map_cons, List.map_nil]); first | done | rfl | (simp only [List.length_drop, List.length_take]; rfl)) ?_
                          with_reducible refine (laws_toYarn.calls a1_0 a1_1 a1_2 a1_3 t336 t337 t338 t339 _ A31.out).mono ?_
                          rintro e w71 ⟨rfl, hb⟩
                          refine ⟨_, rfl, ?_⟩
                          have n0_ := Aside0.mk (Kd.R_below (by (with_reducible repeat (first | apply Kd.R_alloc | apply Kd.R_drewN | apply Kd.R_drew)); exact HO295.out) hb)
                          have n1_ := Aside0.mk (Kd.R_below (by (with_reducible repeat (first | apply Kd.R_alloc | apply Kd.R_drewN | apply Kd.R_drew)); exact HO302.out) hb)
                          have n2_ := Aside0.mk (Kd.R_below (by (with_reducible repeat (first | apply Kd.R_alloc | apply Kd.R_drewN | apply Kd.R_drew)); exact HO308.out) hb)
                          have n3_ := Aside0.mk (Kd.R_below (by (with_reducible repeat (first | apply Kd.R_alloc | apply Kd.R_drewN | apply Kd.R_drew)); exact HO316.out) hb)
                          have n4_ := Aside0.mk (Kd.R_below (by (with_reducible repeat (first | apply Kd.R_alloc | apply Kd.R_drewN | apply Kd.R_drew)); exact HO323.out) hb)
                          have n5_ := Aside0.mk (Kd.R_below (by (with_reducible repeat (first | apply Kd.R_alloc | apply Kd.R_drewN | apply Kd.R_drew)); exact HO335.out) hb)
                          have n6_ := Aside0.mk (blk_below (g := gb288) (o := .cells #[.int .i64 a0_0, .int .i64 a0_1, .slice A0_2 l0_2.length c0_2] 24 (0, 0)) (by (with_reducible repeat (first | refine blk_drewN ?_ _ | refine blk_drew ?_ | refine blk_alloc ?_ _)); exact BK288.out) hb)
                          have n7_ := Aside0.mk (blk_below (g := gb289) (o := .cells #[.int .i64 a1_0, .int .i64 a1_1, .int .i64 a1_2, .int .i64 a1_3] 26 (0, 0)) (by (with_reducible repeat (first | refine blk_drewN ?_ _ | refine blk_drew ?_ | refine blk_alloc ?_ _)); exact BK289.out) hb)
                          have n8_ := Aside0.mk (blk_below (g := gb309) (o := .cells #[.int .i64 t304, .int .i64 t305, .slice Ao55 t306.length co55] 30 (0, 0)) (by (with_reducible repeat (first | refine blk_drewN ?_ _ | refine blk_drew ?_ | refine blk_alloc ?_ _)); exact BK309.out) hb)
                          have n9_ := Aside0.mk (below_step (by repeat (first | (with_reducible first | exact HB.out | apply below_alloc | apply pw_below_drewN | apply below_drew1 | refine below_set ?_ GE288.out | refine below_set ?_ GE289.out | refine below_set ?_ GE309.out) | exact HB.out)) hb)
                          clear HO295
                          clear HO302
                          clear HO308
                          clear HO316
                          clear HO323
                          clear HO335
                          clear BK288
                          clear BK289
                          clear BK309
                          clear HB
                          have HO295 := n0_
                          have HO302 := n1_
                          have HO308 := n2_
                          have HO316 := n3_
                          have HO323 := n4_
                          have HO335 := n5_
                          have BK288 := n6_
                          have BK289 := n7_
                          have BK309 := n8_
                          have HB := n9_
                          clear n0_ n1_ n2_ n3_ n4_ n5_ n6_ n7_ n8_ n9_
                          (try clear hb)
                          (try clear hb2)
                          (try clear hk)
                          (try clear hi)
                          obtain ⟨Ao72, co72, eo72⟩ := Kd.R_slice HO335.out
                          (first | subst eo72 | (injection eo72 with f1_ f2_ f3_; have f4_ := f1_.symm; have f5_ := f3_.symm; clear f1_ f2_ f3_; subst f4_; subst f5_))
                          refine hK.out _ _ ⟨(blk_cell BK288.out 0).trans rfl, (blk_cell BK288.out 1).trans rfl, (blk_cell BK288.out 2).trans rfl, (blk_cell BK289.out 0).trans rfl, (blk_cell BK289.out 1).trans rfl, (blk_cell BK289.out 2).trans rfl, (blk_cell BK289.out 3).trans rfl⟩ (fun hHeld => ?_)
                          clear hK K
                          refine norm_ (a' := ?_) ?_ ?_
                          rotate_left
                          · show Act.put _ (some 83) _ = _
                            simp only [Act.put, List.setIfInBounds_toArray, List.set_cons_zero, List.set_cons_succ, i64_w, i32_w]
                            rfl
                          refine one_ (i := 4) (N := some 84) #[true, true, true, true, true, false, false, false, false, false] rfl rfl (one_of HT_.out (by kernel_rfl)) (by decide) (fun K hK => ?_)
                          refine goes_ Try.func22 (by kernel_rfl) rfl #[.agg #[.int .i64 t331, .int .i64 t332, .slice Ao72 t333.length co72], .agg #[.int .i64 t336, .int .i64 t337, .int .i64 t338, .int .i64 t339]] (by rfl) rfl rfl (by (try simp only [List.map_toArray, List.map_cons, List.map_nil]); first | done | rfl | (simp only [List.length_drop, List.length_take]; rfl)) ?_
                          with_reducible refine (impl_BallsByColor.calls k t331 t332 _ _ t333 t336 t337 t338 t339 t340 t343 _ ?side1 ?side2 A32.out).mono ?_
                          (case side1 => repeat (first | exact (Kd.R_reads' HO335.out).2.2 | (with_reducible refine Kd.C_alloc ?_ _) | (with_reducible refine Kd.C_drewN ?_ _) | (with_reducible refine Kd.C_drew ?_)))
                          (case side2 => exact (Kd.R_reads' HO335.out).2.1)
                          rintro e w73 ⟨v341, rfl, ho0, hb⟩
                          refine ⟨_, rfl, ?_⟩
                          have n0_ := Aside0.mk (Kd.R_elder' (by (with_reducible repeat (first | apply Kd.R_alloc | apply Kd.R_drewN | apply Kd.R_drew)); exact HO295.out) (Kd.R_base ho0) hb)
                          have n1_ := Aside0.mk (Kd.R_elder' (by (with_reducible repeat (first | apply Kd.R_alloc | apply Kd.R_drewN | apply Kd.R_drew)); exact HO302.out) (Kd.R_base ho0) hb)
                          have n2_ := Aside0.mk (Kd.R_elder' (by (with_reducible repeat (first | apply Kd.R_alloc | apply Kd.R_drewN | apply Kd.R_drew)); exact HO308.out) (Kd.R_base ho0) hb)
                          have n3_ := Aside0.mk (Kd.R_elder' (by (with_reducible repeat (first | apply Kd.R_alloc | apply Kd.R_drewN | apply Kd.R_drew)); exact HO316.out) (Kd.R_base ho0) hb)
                          have n4_ := Aside0.mk (Kd.R_elder' (by (with_reducible repeat (first | apply Kd.R_alloc | apply Kd.R_drewN | apply Kd.R_drew)); exact HO323.out) (Kd.R_base ho0) hb)
                          have n5_ := Aside0.mk (Kd.R_elder' (by (with_reducible repeat (first | apply Kd.R_alloc | apply Kd.R_drewN | apply Kd.R_drew)); exact HO335.out) (Kd.R_base ho0) hb)
                          have n6_ := Aside0.mk (Kd.R_lower (Kd.R_new' (Kd.R_new' (Kd.R_new' (Kd.R_new' (Kd.R_new' (Kd.R_new' ho0 (Kd.R_lt (by (with_reducible repeat (first | apply Kd.R_alloc | apply Kd.R_drewN | apply Kd.R_drew)); exact HO295.out))) (Kd.R_lt (by (with_reducible repeat (first | apply Kd.R_alloc | apply Kd.R_drewN | apply Kd.R_drew)); exact HO302.out))) (Kd.R_lt (by (with_reducible repeat (first | apply Kd.R_alloc | apply Kd.R_drewN | apply Kd.R_drew)); exact HO308.out))) (Kd.R_lt (by (with_reducible repeat (first | apply Kd.R_alloc | apply Kd.R_drewN | apply Kd.R_drew)); exact HO316.out))) (Kd.R_lt (by (with_reducible repeat (first | apply Kd.R_alloc | apply Kd.R_drewN | apply Kd.R_drew)); exact HO323.out))) (Kd.R_lt (by (with_reducible repeat (first | apply Kd.R_alloc | apply Kd.R_drewN | apply Kd.R_drew)); exact HO335.out))) (below_size (by repeat (first | (with_reducible first | exact HB.out | apply below_alloc | apply pw_below_drewN | apply below_drew1 | refine below_set ?_ GE288.out | refine below_set ?_ GE289.out | refine below_set ?_ GE309.out) | exact HB.out))))
                          have n7_ := Aside0.mk (blk_below (g := gb288) (o := .cells #[.int .i64 a0_0, .int .i64 a0_1, .slice A0_2 l0_2.length c0_2] 24 (0, 0)) (by (with_reducible repeat (first | refine blk_drewN ?_ _ | refine blk_drew ?_ | refine blk_alloc ?_ _)); exact BK288.out) hb)
                          have n8_ := Aside0.mk (blk_below (g := gb289) (o := .cells #[.int .i64 a1_0, .int .i64 a1_1, .int .i64 a1_2, .int .i64 a1_3] 26 (0, 0)) (by (with_reducible repeat (first | refine blk_drewN ?_ _ | refine blk_drew ?_ | refine blk_alloc ?_ _)); exact BK289.out) hb)
                          have n9_ := Aside0.mk (blk_below (g := gb309) (o := .cells #[.int .i64 t304, .int .i64 t305, .slice Ao55 t306.length co55] 30 (0, 0)) (by (with_reducible repeat (first | refine blk_drewN ?_ _ | refine blk_drew ?_ | refine blk_alloc ?_ _)); exact BK309.out) hb)
                          have n10_ := Aside0.mk (below_step (by repeat (first | (with_reducible first | exact HB.out | apply below_alloc | apply pw_below_drewN | apply below_drew1 | refine below_set ?_ GE288.out | refine below_set ?_ GE289.out | refine below_set ?_ GE309.out) | exact HB.out)) hb)
                          clear HO295
                          clear HO302
                          clear HO308
                          clear HO316
                          clear HO323
                          clear HO335
                          clear BK288
                          clear BK289
                          clear BK309
                          clear HB
                          have HO295 := n0_
                          have HO302 := n1_
                          have HO308 := n2_
                          have HO316 := n3_
                          have HO323 := n4_
                          have HO335 := n5_
                          have HO342 := n6_
                          have BK288 := n7_
                          have BK289 := n8_
                          have BK309 := n9_
                          have HB := n10_
                          clear n0_ n1_ n2_ n3_ n4_ n5_ n6_ n7_ n8_ n9_ n10_
                          (try clear hb)
                          (try clear hb2)
                          (try clear hk)
                          (try clear hi)
                          (try clear ho0)
                          refine hK.out _ _ ⟨(blk_cell BK288.out 0).trans rfl, (blk_cell BK288.out 1).trans rfl, (blk_cell BK288.out 2).trans rfl, (blk_cell BK289.out 0).trans rfl, (blk_cell BK289.out 1).trans rfl, (blk_cell BK289.out 2).trans rfl, (blk_cell BK289.out 3).trans rfl⟩ (fun hHeld => ?_)
                          clear hK K
                          refine norm_ (a' := ?_) ?_ ?_
                          rotate_left
                          · show Act.put _ (some 84) _ = _
                            simp only [Act.put, List.setIfInBounds_toArray, List.set_cons_zero, List.set_cons_succ, i64_w, i32_w]
                            rfl
                          refine pure_ (i := 5) (N := some 79) (v := ?_) (a' := ?_) #[true, true, true, true, true, true, false, false, false, false] rfl rfl (any_of HT_.out (by kernel_rfl)) (fun _ _ _ h => h) (Or.inl ⟨by rfl, ?_⟩) ?_ ?_
                          rotate_left
                          · intro w'
                            go_simp
                            with_reducible rfl
                          rotate_left
                          · simp only [Act.put, List.setIfInBounds_toArray, List.set_cons_zero, List.set_cons_succ, i64_w, i32_w]
                            rfl
                          refine pure_ (i := 6) (N := some 85) (v := ?_) (a' := ?_) #[true, true, true, true, true, true, true, false, false, false] rfl rfl (any_of HT_.out (by kernel_rfl)) (fun _ _ _ h => h) (Or.inl ⟨by rfl, ?_⟩) ?_ ?_
                          rotate_left
                          · intro w'
                            go_simp
                            with_reducible rfl
                          rotate_left
                          · simp only [Act.put, List.setIfInBounds_toArray, List.set_cons_zero, List.set_cons_succ, i64_w, i32_w]
                            rfl
                          refine pure_ (i := 7) (N := some 86) (v := ?_) (a' := ?_) #[true, true, true, true, true, true, true, true, false, false] rfl rfl (any_of HT_.out (by kernel_rfl)) (fun _ _ _ h => h) (Or.inl ⟨by rfl, ?_⟩) ?_ ?_
                          rotate_left
                          · intro w'
                            go_simp
                            with_reducible rfl
                          rotate_left
                          · simp only [Act.put, List.setIfInBounds_toArray, List.set_cons_zero, List.set_cons_succ, i64_w, i32_w]
                            rfl
                          refine pure_ (i := 8) (N := some 14) (v := ?_) (a' := ?_) #[true, true, true, true, true, true, true, true, true, false] rfl rfl (any_of HT_.out (by kernel_rfl)) (fun _ _ _ h => h) (Or.inl ⟨by rfl, ?_⟩) ?_ ?_
                          rotate_left
                          · intro w'
                            go_simp
                            with_reducible rfl
                          rotate_left
                          · simp only [Act.put, List.setIfInBounds_toArray, List.set_cons_zero, List.set_cons_succ, i64_w, i32_w]
                            rfl
                          refine pure_ (i := 9) (N := some 15) (v := ?_) (a' := ?_) #[true, true, true, true, true, true, true, true, true, true] rfl rfl (any_of HT_.out (by kernel_rfl)) (fun _ _ _ h => h) (Or.inl ⟨by rfl, ?_⟩) ?_ ?_
                          rotate_left
                          · intro w'
                            go_simp
                            with_reducible rfl
                          rotate_left
                          · simp only [Act.put, List.setIfInBounds_toArray, List.set_cons_zero, List.set_cons_succ, i64_w, i32_w]
                            rfl
                          refine done_ (done_of HT_.out (by kernel_rfl)) ?_
                          obtain ⟨Ao74, co74, eo74⟩ := Kd.R_slice HO342.out
                          subst eo74
                          try go_wp2_with (first | ((with_reducible refine gate_callee (f := 16) rfl ?_); refine goesL_ (some 89) rfl rfl Try.func16 (by kernel_rfl) rfl #[.slice Ao74 t340.length co74, .slice Ao61 t300.length co61] rfl (by (try simp only [List.map_toArray, List.map_cons, List.map_nil]); first | done | rfl | (simp only [List.length_drop, List.length_take]; rfl)) ?_; (with_reducible refine (laws_eqIntS.calls k _ _ t340 _ _ t300 true _ ?side1 ?side2 ?side3 ?side4 A33.out).mono ?_); (case side1 => repeat (first | exact (Kd.R_reads' HO342.out).2.2 | (with_reducible refine Kd.C_alloc ?_ _) | (with_reducible refine Kd.C_drewN ?_ _) | (with_reducible refine Kd.C_drew ?_))); (case side2 => exact (Kd.R_reads' HO342.out).2.1); (case side3 => repeat (first | exact (Kd.R_reads' HO302.out).2.2 | (with_reducible refine Kd.C_alloc ?_ _) | (with_reducible refine Kd.C_drewN ?_ _) | (with_reducible refine Kd.C_drew ?_))); (case side4 => exact (Kd.R_reads' HO302.out).2.1); rintro e w' ⟨rfl, ⟨nd, rfl⟩⟩; refine ⟨_, rfl, ?_⟩) | ((with_reducible refine gate_callee (f := 20) rfl ?_); refine goesL_ (some 98) rfl rfl Try.func20 (by kernel_rfl) rfl #[.slice Ao60 t329.length co60, .int .i64 1] rfl (by (try simp only [List.map_toArray, List.map_cons, List.map_nil]); first | done | (rw [show t329.length = t314.length from (Kd.R_reads' HO316.out).1.symm] <;> rfl) | rfl | (simp only [List.length_drop, List.length_take]; rfl)) ?_; (with_reducible refine (laws_heldIntS.calls k _ _ t329 1 t345 _ ?side1 ?side2 A36.out).mono ?_); (case side1 => repeat (first | exact (Kd.R_reads' HO316.out).2.2 | (with_reducible refine Kd.C_alloc ?_ _) | (with_reducible refine Kd.C_drewN ?_ _) | (with_reducible refine Kd.C_drew ?_))); (case side2 => rw [show t329.length = t314.length from (Kd.R_reads' HO316.out).1.symm]; exact (Kd.R_reads' HO316.out).2.1); rintro e w' ⟨rfl, ⟨nd, rfl⟩⟩; refine ⟨_, rfl, ?_⟩))
                          go_ret
                          exact ⟨by first | rfl | (simp [errW_none, errW_some] <;> rfl) | (simp [*, errW_none, errW_some] <;> rfl), by repeat (first | (with_reducible first | exact HB.out | apply below_alloc | apply pw_below_drewN | apply below_drew1 | refine below_set ?_ GE288.out | refine below_set ?_ GE289.out | refine below_set ?_ GE309.out) | exact HB.out)⟩
                        · rw [if_neg c38] at H
                          exact absurd H (by simp)
                  · replace c34 := Bool.eq_false_iff.mpr c34
                    subst c34
                    have H1 : (none) = some r := by rw [if_neg (show ¬ (false = true) by decide)] at H; exact H
                    clear H
                    have H := H1
                    clear H1
                    exact absurd H (by simp)
                · rw [if_neg c29] at H
                  exact absurd H (by simp)
            · replace c25 := Bool.eq_false_iff.mpr c25
              subst c25
              have H1 : (none) = some r := by rw [if_neg (show ¬ (false = true) by decide)] at H; exact H
              clear H
              have H := H1
              clear H1
              exact absurd H (by simp)
        · replace c21 := Bool.eq_false_iff.mpr c21
          subst c21
          have H1 : (none) = some r := by rw [if_neg (show ¬ (false = true) by decide)] at H; exact H
          clear H
          have H := H1
          clear H1
          exact absurd H (by simp)
    · replace c17 := Bool.eq_false_iff.mpr c17
      subst c17
      have H1 : (none) = some r := by rw [if_neg (show ¬ (false = true) by decide)] at H; exact H
      clear H
      have H := H1
      clear H1
      exact absurd H (by simp)

end Go.Proofs.Ytnkecgldapagcaa.H
