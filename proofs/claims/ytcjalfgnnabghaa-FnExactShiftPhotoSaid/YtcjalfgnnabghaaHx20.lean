-- Written by wip/hook.py of this repo: the kit's print over all of the seat's laws, with texts of this repo for what it does not take. Lean checks it.
import Derived.Test.YtcjalfgnnabghaaHx0
import Derived.Test.YtcjalfgnnabghaaHx1
import Derived.Test.YtcjalfgnnabghaaHx14
import Derived.Test.YtcjalfgnnabghaaHx16
import Derived.Test.YtcjalfgnnabghaaHx18
import Derived.Test.YtcjalfgnnabghaaHx19
import Derived.Test.YtcjalfgnnabghaaWApart
import Derived.Test.YtcjalfgnnabghaaWKept
import Derived.Test.YtcjalfgnnabghaaWLast
import Derived.Test.YtcjalfgnnabghaaWMore
import Derived.Test.YtcjalfgnnabghaaWWords
namespace Go.Proofs.Ytcjalfgnnabghaa.H
open Go.RowKit Go.Proofs.YtcjalfgnnabghaaW.PrintWords Go.Proofs.YtcjalfgnnabghaaW.PrintLast Go.Proofs.YtcjalfgnnabghaaW.PrintMore
attribute [local go_sem] max2_int min2_int max_two min_two max_three min_three max_four min_four   -- for this text's walks alone
set_option linter.unusedVariables false
set_option linter.unusedSimpArgs false

/-! ### laws_FnExactShiftPhoto: function 5 -/
mutual
def laws_FnExactShiftPhoto.j0 : Nat → Int → Int → Int → Bool → Bool → Bool → Int → Int → List Int → Int → Int → List Int → Int → Int → List Int → Int → Int → List Int → Option (Bool)
 | 0, _, _, _, _, _, _, _, _, _, _, _, _, _, _, _, _, _, _ => none
 | k + 1, x1, x2, x3, x11, x14, x52, x346000, x346001, x346002, x359000, x359001, x359002, x365000, x365001, x365002, x372000, x372001, x372002 => if x52 = true then (none) else ((laws_toChart.f k x346000 x346001 x346002).bind fun bt373 => ((laws_eqChart.f k x365000 x365001 x365002 bt373.1 bt373.2.1 bt373.2.2).bind fun t378 => (if t378 = true then ((laws_markChart.f k x365000 x365001 x365002 1).bind fun bt379 => (if bt379.1 < 0 then (laws_FnExactShiftPhoto.j1 k x1 x2 x3 x11 true x346000 x346001 x346002 x359000 x359001 x359002 x372000 x372001 x372002) else ((laws_eqChart.f k x372000 x372001 x372002 x359000 x359001 x359002).bind fun t381 => (if t381 = true then (laws_FnExactShiftPhoto.j1 k x1 x2 x3 x11 (x14 != x11) x346000 x346001 x346002 x359000 x359001 x359002 x372000 x372001 x372002) else (laws_FnExactShiftPhoto.j1 k x1 x2 x3 x11 true x346000 x346001 x346002 x359000 x359001 x359002 x372000 x372001 x372002))))) else (none))))
def laws_FnExactShiftPhoto.j1 : Nat → Int → Int → Int → Bool → Bool → Int → Int → List Int → Int → Int → List Int → Int → Int → List Int → Option (Bool)
 | 0, _, _, _, _, _, _, _, _, _, _, _, _, _, _ => none
 | k + 1, x1, x2, x3, x11, x73, x346000, x346001, x346002, x359000, x359001, x359002, x372000, x372001, x372002 => if x73 = true then (none) else ((laws_markChart.f k x372000 x372001 x372002 1).bind fun bt382 => ((laws_heldChart.f k x372000 x372001 bt382.2 1).bind fun t384 => (if t384 < 0 then (none) else (if t384 = bt382.1 then ((laws_toChart.f k x346000 x346001 x346002).bind fun bt385 => ((impl_ShiftPhoto.f k bt385.1 bt385.2.1 bt385.2.2 x1 x2 x3).bind fun bt390 => ((laws_eqChart.f k bt390.1 bt390.2.1 bt390.2.2.1 x359000 x359001 x359002).bind fun t397 => (if t397 = true then (laws_FnExactShiftPhoto.j2 k bt382.1 (bt390.2.2.2 != x11) x372000 x372001 bt382.2) else (laws_FnExactShiftPhoto.j2 k bt382.1 true x372000 x372001 bt382.2))))) else (none)))))
def laws_FnExactShiftPhoto.j2 : Nat → Int → Bool → Int → Int → List Int → Option (Bool)
 | 0, _, _, _, _, _ => none
 | k + 1, x16, x102, x372000, x372001, x372002 => if x102 = true then (none) else ((laws_heldChart.f k x372000 x372001 x372002 1).bind fun t398 => (if t398 < 0 then (none) else (if t398 = x16 then (some true) else (none))))
end
def laws_FnExactShiftPhoto.f (k : Nat) (a0_0 : Int) (a0_1 : Int) (l0_2 : List Int) (a1 : Int) (a2 : Int) (a3 : Int) : Option (Bool) := (laws_szChart.f a0_0 a0_1 l0_2 1048576).bind fun t346 => (if t346 < 0 then (some true) else ((laws_toChart.f k a0_0 a0_1 l0_2).bind fun bt347 => ((spec_ShiftPhoto.f k bt347.1 bt347.2.1 bt347.2.2 a1 a2 a3).bind fun bt352 => ((laws_toChart.f k a0_0 a0_1 l0_2).bind fun bt359 => ((impl_ShiftPhoto.f k bt359.1 bt359.2.1 bt359.2.2 a1 a2 a3).bind fun bt365 => ((laws_eqChart.f k bt365.1 bt365.2.1 bt365.2.2.1 bt352.1 bt352.2.1 bt352.2.2.1).bind fun t372 => (if t372 = true then (laws_FnExactShiftPhoto.j0 k a1 a2 a3 bt352.2.2.2 bt365.2.2.2 (bt365.2.2.2 != bt352.2.2.2) a0_0 a0_1 l0_2 bt352.1 bt352.2.1 bt352.2.2.1 bt359.1 bt359.2.1 bt359.2.2 bt365.1 bt365.2.1 bt365.2.2.1) else (laws_FnExactShiftPhoto.j0 k a1 a2 a3 bt352.2.2.2 bt365.2.2.2 true a0_0 a0_1 l0_2 bt352.1 bt352.2.1 bt352.2.2.1 bt359.1 bt359.2.1 bt359.2.2 bt365.1 bt365.2.1 bt365.2.2.1))))))))

set_option maxHeartbeats 8000000 in
set_option maxRecDepth 100000 in
theorem laws_FnExactShiftPhoto.calls (k : Nat) (a0_0 : Int) (a0_1 : Int) (A0_2 : Option Addr) (c0_2 : Nat) (l0_2 : List Int) (a1 : Int) (a2 : Int) (a3 : Int) (r : Bool) (w : World) (hr0_2 : Kd.C (Kd.int .i64) w A0_2 l0_2.length l0_2) (hc0_2 : l0_2.length ≤ c0_2) (h : laws_FnExactShiftPhoto.f k a0_0 a0_1 l0_2 a1 a2 a3 = some r) :
  Calls Try.prog 5 #[.agg #[.int .i64 a0_0, .int .i64 a0_1, .slice A0_2 l0_2.length c0_2], .int .i64 a1, .int .i64 a2, .int .i64 a3] w fun e w' => e = .returned (.bool r) ∧ Below w.heap.size w w' := by
 have hu24 := Try.underlying24
 have hu28 := Try.underlying28
 have HR0_2 := Aside0.mk hr0_2
 have HC0_2 := Aside0.mk hc0_2
 clear hr0_2 hc0_2
 have HB := Aside0.mk (Below.refl w.heap.size w)
 have H : ((laws_szChart.f a0_0 a0_1 l0_2 1048576).bind fun t346 => (if t346 < 0 then (some true) else ((laws_toChart.f k a0_0 a0_1 l0_2).bind fun bt347 => ((spec_ShiftPhoto.f k bt347.1 bt347.2.1 bt347.2.2 a1 a2 a3).bind fun bt352 => ((laws_toChart.f k a0_0 a0_1 l0_2).bind fun bt359 => ((impl_ShiftPhoto.f k bt359.1 bt359.2.1 bt359.2.2 a1 a2 a3).bind fun bt365 => ((laws_eqChart.f k bt365.1 bt365.2.1 bt365.2.2.1 bt352.1 bt352.2.1 bt352.2.2.1).bind fun t372 => (if t372 = true then (laws_FnExactShiftPhoto.j0 k a1 a2 a3 bt352.2.2.2 bt365.2.2.2 (bt365.2.2.2 != bt352.2.2.2) a0_0 a0_1 l0_2 bt352.1 bt352.2.1 bt352.2.2.1 bt359.1 bt359.2.1 bt359.2.2 bt365.1 bt365.2.1 bt365.2.2.1) else (laws_FnExactShiftPhoto.j0 k a1 a2 a3 bt352.2.2.2 bt365.2.2.2 true a0_0 a0_1 l0_2 bt352.1 bt352.2.1 bt352.2.2.1 bt359.1 bt359.2.1 bt359.2.2 bt365.1 bt365.2.1 bt365.2.2.1))))))))) = some r := h
 clear h
 replace H := Option.bind_eq_some_iff.mp H
 obtain ⟨t346, A50, H⟩ := H
 replace H : (if t346 < 0 then (some true) else ((laws_toChart.f k a0_0 a0_1 l0_2).bind fun bt347 => ((spec_ShiftPhoto.f k bt347.1 bt347.2.1 bt347.2.2 a1 a2 a3).bind fun bt352 => ((laws_toChart.f k a0_0 a0_1 l0_2).bind fun bt359 => ((impl_ShiftPhoto.f k bt359.1 bt359.2.1 bt359.2.2 a1 a2 a3).bind fun bt365 => ((laws_eqChart.f k bt365.1 bt365.2.1 bt365.2.2.1 bt352.1 bt352.2.1 bt352.2.2.1).bind fun t372 => (if t372 = true then (laws_FnExactShiftPhoto.j0 k a1 a2 a3 bt352.2.2.2 bt365.2.2.2 (bt365.2.2.2 != bt352.2.2.2) a0_0 a0_1 l0_2 bt352.1 bt352.2.1 bt352.2.2.1 bt359.1 bt359.2.1 bt359.2.2 bt365.1 bt365.2.1 bt365.2.2.1) else (laws_FnExactShiftPhoto.j0 k a1 a2 a3 bt352.2.2.2 bt365.2.2.2 true a0_0 a0_1 l0_2 bt352.1 bt352.2.1 bt352.2.2.1 bt359.1 bt359.2.1 bt359.2.2 bt365.1 bt365.2.1 bt365.2.2.1)))))))) = some r := H
 have A5 := Aside0.mk A50
 clear A50
 by_cases c6 : t346 < 0
 ·rw [if_pos c6] at H
  have c6b0 : decide (t346 < 0) = true := decide_eq_true c6
  clear c6
  obtain rfl := Option.some.inj H
  go_enter Try.func5, Try.ntmps5
  go_wp2_with (first | ((with_reducible refine gate_dst (N := 4) rfl ?_); refine box_event ?hg (N := 4) ?hd (cs := #[.int .i64 a0_0, .int .i64 a0_1, .slice A0_2 l0_2.length c0_2]) (t := 24) ?hr ?_; (case hd => rfl); (case hg => rfl); (case hr => first | (go_simp; done) | (go_simp; rfl)); intro gb345 hg w7 hbox hb; have n0_ := Aside0.mk (below_step (by repeat (first | (with_reducible first | exact HB.out | apply below_alloc | apply pw_below_drewN | apply below_drew1) | exact HB.out)) hb); have n1_ := Aside0.mk (hbox); have n2_ := Aside0.mk ((by rw [hg]; exact (below_size (by repeat (first | (with_reducible first | exact HB.out | apply below_alloc | apply pw_below_drewN | apply below_drew1) | exact HB.out))) : w.heap.size ≤ gb345)); have n3_ := Aside0.mk ((by rw [hg]; exact (below_size (by repeat (first | (with_reducible first | exact HB.out | apply below_alloc | apply pw_below_drewN | apply below_drew1) | exact HB.out))) : w.heap.size ≤ gb345)); clear HB; have HB := n0_; have BK345 := n1_; have GW345 := n2_; have GE345 := n3_; clear n0_ n1_ n2_ n3_; clear hb hbox hg; have hcz8_0 : w7.cell? ⟨gb345, 0, none⟩ = some (.int .i64 a0_0) := (blk_cell BK345.out 0).trans rfl; have hcz8_1 : w7.cell? ⟨gb345, 1, none⟩ = some (.int .i64 a0_1) := (blk_cell BK345.out 1).trans rfl; have hcz8_2 : w7.cell? ⟨gb345, 2, none⟩ = some (.slice A0_2 l0_2.length c0_2) := (blk_cell BK345.out 2).trans rfl; have hfz8_0 := blk_frozen BK345.out 0; have hfz8_1 := blk_frozen BK345.out 1; have hfz8_2 := blk_frozen BK345.out 2) | ((with_reducible refine gate_callee (f := 13) rfl ?_); refine goesL_ (some 22) rfl rfl Try.func13 (by kernel_rfl) rfl #[.agg #[.int .i64 a0_0, .int .i64 a0_1, .slice A0_2 l0_2.length c0_2], .int .i64 1048576] rfl (by (try simp only [List.map_toArray, List.map_cons, List.map_nil]); first | done | rfl | (simp only [List.length_drop, List.length_take]; rfl)) ?_; (with_reducible refine (laws_szChart.calls a0_0 a0_1 _ _ l0_2 1048576 t346 _ ?side1 ?side2 A5.out).mono ?_); (case side1 => repeat (first | exact (Kd.C_below HR0_2.out HB.out) | (with_reducible refine Kd.C_alloc ?_ _) | (with_reducible refine Kd.C_drewN ?_ _) | (with_reducible refine Kd.C_drew ?_))); (case side2 => exact HC0_2.out); rintro e w9 ⟨rfl, hb⟩; refine ⟨_, rfl, ?_⟩; have n0_ := Aside0.mk (blk_below (g := gb345) (o := .cells #[.int .i64 a0_0, .int .i64 a0_1, .slice A0_2 l0_2.length c0_2] 24 (0, 0)) (by (with_reducible repeat (first | refine blk_drewN ?_ _ | refine blk_drew ?_ | refine blk_alloc ?_ _)); exact BK345.out) hb); have n1_ := Aside0.mk (below_step (by repeat (first | (with_reducible first | exact HB.out | apply below_alloc | apply pw_below_drewN | apply below_drew1 | refine below_set ?_ GE345.out) | exact HB.out)) hb); clear BK345; clear HB; have BK345 := n0_; have HB := n1_; clear n0_ n1_; (try clear hb); (try clear hb2); (try clear hk); (try clear hi)))
  go_ret
  exact ⟨by first | rfl | (simp [errW_none, errW_some] <;> rfl) | (simp [*, errW_none, errW_some] <;> rfl), by repeat (first | (with_reducible first | exact HB.out | apply below_alloc | apply pw_below_drewN | apply below_drew1 | refine below_set ?_ GE345.out) | exact HB.out)⟩
 ·rw [if_neg c6] at H
  have c6b0 : decide (t346 < 0) = false := decide_eq_false c6
  clear c6
  replace H := Option.bind_eq_some_iff.mp H
  obtain ⟨⟨t347, t348, t349⟩, A100, H⟩ := H
  replace H : ((spec_ShiftPhoto.f k t347 t348 t349 a1 a2 a3).bind fun bt352 => ((laws_toChart.f k a0_0 a0_1 l0_2).bind fun bt359 => ((impl_ShiftPhoto.f k bt359.1 bt359.2.1 bt359.2.2 a1 a2 a3).bind fun bt365 => ((laws_eqChart.f k bt365.1 bt365.2.1 bt365.2.2.1 bt352.1 bt352.2.1 bt352.2.2.1).bind fun t372 => (if t372 = true then (laws_FnExactShiftPhoto.j0 k a1 a2 a3 bt352.2.2.2 bt365.2.2.2 (bt365.2.2.2 != bt352.2.2.2) a0_0 a0_1 l0_2 bt352.1 bt352.2.1 bt352.2.2.1 bt359.1 bt359.2.1 bt359.2.2 bt365.1 bt365.2.1 bt365.2.2.1) else (laws_FnExactShiftPhoto.j0 k a1 a2 a3 bt352.2.2.2 bt365.2.2.2 true a0_0 a0_1 l0_2 bt352.1 bt352.2.1 bt352.2.2.1 bt359.1 bt359.2.1 bt359.2.2 bt365.1 bt365.2.1 bt365.2.2.1)))))) = some r := H
  have A10 := Aside0.mk A100
  clear A100
  replace H := Option.bind_eq_some_iff.mp H
  obtain ⟨⟨t352, t353, t354, t357⟩, A110, H⟩ := H
  replace H : ((laws_toChart.f k a0_0 a0_1 l0_2).bind fun bt359 => ((impl_ShiftPhoto.f k bt359.1 bt359.2.1 bt359.2.2 a1 a2 a3).bind fun bt365 => ((laws_eqChart.f k bt365.1 bt365.2.1 bt365.2.2.1 t352 t353 t354).bind fun t372 => (if t372 = true then (laws_FnExactShiftPhoto.j0 k a1 a2 a3 t357 bt365.2.2.2 (bt365.2.2.2 != t357) a0_0 a0_1 l0_2 t352 t353 t354 bt359.1 bt359.2.1 bt359.2.2 bt365.1 bt365.2.1 bt365.2.2.1) else (laws_FnExactShiftPhoto.j0 k a1 a2 a3 t357 bt365.2.2.2 true a0_0 a0_1 l0_2 t352 t353 t354 bt359.1 bt359.2.1 bt359.2.2 bt365.1 bt365.2.1 bt365.2.2.1))))) = some r := H
  have A11 := Aside0.mk A110
  clear A110
  replace H := Option.bind_eq_some_iff.mp H
  obtain ⟨⟨t359, t360, t361⟩, A120, H⟩ := H
  replace H : ((impl_ShiftPhoto.f k t359 t360 t361 a1 a2 a3).bind fun bt365 => ((laws_eqChart.f k bt365.1 bt365.2.1 bt365.2.2.1 t352 t353 t354).bind fun t372 => (if t372 = true then (laws_FnExactShiftPhoto.j0 k a1 a2 a3 t357 bt365.2.2.2 (bt365.2.2.2 != t357) a0_0 a0_1 l0_2 t352 t353 t354 t359 t360 t361 bt365.1 bt365.2.1 bt365.2.2.1) else (laws_FnExactShiftPhoto.j0 k a1 a2 a3 t357 bt365.2.2.2 true a0_0 a0_1 l0_2 t352 t353 t354 t359 t360 t361 bt365.1 bt365.2.1 bt365.2.2.1)))) = some r := H
  have A12 := Aside0.mk A120
  clear A120
  replace H := Option.bind_eq_some_iff.mp H
  obtain ⟨⟨t365, t366, t367, t370⟩, A130, H⟩ := H
  replace H : ((laws_eqChart.f k t365 t366 t367 t352 t353 t354).bind fun t372 => (if t372 = true then (laws_FnExactShiftPhoto.j0 k a1 a2 a3 t357 t370 (t370 != t357) a0_0 a0_1 l0_2 t352 t353 t354 t359 t360 t361 t365 t366 t367) else (laws_FnExactShiftPhoto.j0 k a1 a2 a3 t357 t370 true a0_0 a0_1 l0_2 t352 t353 t354 t359 t360 t361 t365 t366 t367))) = some r := H
  have A13 := Aside0.mk A130
  clear A130
  have HC14 := Aside0.mk H
  clear H
  go_enter Try.func5, Try.ntmps5
  go_upto_region 8 with (first | ((with_reducible refine gate_dst (N := 4) rfl ?_); refine box_event ?hg (N := 4) ?hd (cs := #[.int .i64 a0_0, .int .i64 a0_1, .slice A0_2 l0_2.length c0_2]) (t := 24) ?hr ?_; (case hd => rfl); (case hg => rfl); (case hr => first | (go_simp; done) | (go_simp; rfl)); intro gb345 hg w15 hbox hb; have n0_ := Aside0.mk (below_step (by repeat (first | (with_reducible first | exact HB.out | apply below_alloc | apply pw_below_drewN | apply below_drew1) | exact HB.out)) hb); have n1_ := Aside0.mk (hbox); have n2_ := Aside0.mk ((by rw [hg]; exact (below_size (by repeat (first | (with_reducible first | exact HB.out | apply below_alloc | apply pw_below_drewN | apply below_drew1) | exact HB.out))) : w.heap.size ≤ gb345)); have n3_ := Aside0.mk ((by rw [hg]; exact (below_size (by repeat (first | (with_reducible first | exact HB.out | apply below_alloc | apply pw_below_drewN | apply below_drew1) | exact HB.out))) : w.heap.size ≤ gb345)); clear HB; have HB := n0_; have BK345 := n1_; have GW345 := n2_; have GE345 := n3_; clear n0_ n1_ n2_ n3_; clear hb hbox hg; have hcz16_0 : w15.cell? ⟨gb345, 0, none⟩ = some (.int .i64 a0_0) := (blk_cell BK345.out 0).trans rfl; have hcz16_1 : w15.cell? ⟨gb345, 1, none⟩ = some (.int .i64 a0_1) := (blk_cell BK345.out 1).trans rfl; have hcz16_2 : w15.cell? ⟨gb345, 2, none⟩ = some (.slice A0_2 l0_2.length c0_2) := (blk_cell BK345.out 2).trans rfl; have hfz16_0 := blk_frozen BK345.out 0; have hfz16_1 := blk_frozen BK345.out 1; have hfz16_2 := blk_frozen BK345.out 2) | ((with_reducible refine gate_callee (f := 13) rfl ?_); refine goesL_ (some 22) rfl rfl Try.func13 (by kernel_rfl) rfl #[.agg #[.int .i64 a0_0, .int .i64 a0_1, .slice A0_2 l0_2.length c0_2], .int .i64 1048576] rfl (by (try simp only [List.map_toArray, List.map_cons, List.map_nil]); first | done | rfl | (simp only [List.length_drop, List.length_take]; rfl)) ?_; (with_reducible refine (laws_szChart.calls a0_0 a0_1 _ _ l0_2 1048576 t346 _ ?side1 ?side2 A5.out).mono ?_); (case side1 => repeat (first | exact (Kd.C_below HR0_2.out HB.out) | (with_reducible refine Kd.C_alloc ?_ _) | (with_reducible refine Kd.C_drewN ?_ _) | (with_reducible refine Kd.C_drew ?_))); (case side2 => exact HC0_2.out); rintro e w17 ⟨rfl, hb⟩; refine ⟨_, rfl, ?_⟩; have n0_ := Aside0.mk (blk_below (g := gb345) (o := .cells #[.int .i64 a0_0, .int .i64 a0_1, .slice A0_2 l0_2.length c0_2] 24 (0, 0)) (by (with_reducible repeat (first | refine blk_drewN ?_ _ | refine blk_drew ?_ | refine blk_alloc ?_ _)); exact BK345.out) hb); have n1_ := Aside0.mk (below_step (by repeat (first | (with_reducible first | exact HB.out | apply below_alloc | apply pw_below_drewN | apply below_drew1 | refine below_set ?_ GE345.out) | exact HB.out)) hb); clear BK345; clear HB; have BK345 := n0_; have HB := n1_; clear n0_ n1_; (try clear hb); (try clear hb2); (try clear hk); (try clear hi); have hcz18_0 : w17.cell? ⟨gb345, 0, none⟩ = some (.int .i64 a0_0) := (blk_cell BK345.out 0).trans rfl; have hcz18_1 : w17.cell? ⟨gb345, 1, none⟩ = some (.int .i64 a0_1) := (blk_cell BK345.out 1).trans rfl; have hcz18_2 : w17.cell? ⟨gb345, 2, none⟩ = some (.slice A0_2 l0_2.length c0_2) := (blk_cell BK345.out 2).trans rfl; have hfz18_0 := blk_frozen BK345.out 0; have hfz18_1 := blk_frozen BK345.out 1; have hfz18_2 := blk_frozen BK345.out 2) | ((with_reducible refine gate_callee (f := 15) rfl ?_); refine goesL_ (some 27) rfl rfl Try.func15 (by kernel_rfl) rfl #[.agg #[.int .i64 a0_0, .int .i64 a0_1, .slice A0_2 l0_2.length c0_2]] rfl (by (try simp only [List.map_toArray, List.map_cons, List.map_nil]); first | done | rfl | (simp only [List.length_drop, List.length_take]; rfl)) ?_; (with_reducible refine (laws_toChart.calls k a0_0 a0_1 _ _ l0_2 t347 t348 t349 _ ?side1 ?side2 A10.out).mono ?_); (case side1 => repeat (first | exact (Kd.C_below HR0_2.out HB.out) | (with_reducible refine Kd.C_alloc ?_ _) | (with_reducible refine Kd.C_drewN ?_ _) | (with_reducible refine Kd.C_drew ?_))); (case side2 => exact HC0_2.out); rintro e w19 ⟨v350, rfl, ho0, hb⟩; refine ⟨_, rfl, ?_⟩; have n0_ := Aside0.mk (Kd.R_lower ho0 (below_size (by repeat (first | (with_reducible first | exact HB.out | apply below_alloc | apply pw_below_drewN | apply below_drew1 | refine below_set ?_ GE345.out) | exact HB.out)))); have n1_ := Aside0.mk (blk_below (g := gb345) (o := .cells #[.int .i64 a0_0, .int .i64 a0_1, .slice A0_2 l0_2.length c0_2] 24 (0, 0)) (by (with_reducible repeat (first | refine blk_drewN ?_ _ | refine blk_drew ?_ | refine blk_alloc ?_ _)); exact BK345.out) hb); have n2_ := Aside0.mk (below_step (by repeat (first | (with_reducible first | exact HB.out | apply below_alloc | apply pw_below_drewN | apply below_drew1 | refine below_set ?_ GE345.out) | exact HB.out)) hb); clear BK345; clear HB; have HO351 := n0_; have BK345 := n1_; have HB := n2_; clear n0_ n1_ n2_; (try clear hb); (try clear hb2); (try clear hk); (try clear hi); (try clear ho0); obtain ⟨Ao20, co20, eo20⟩ := Kd.R_slice HO351.out; subst eo20) | ((with_reducible refine gate_callee (f := 22) rfl ?_); refine goesL_ (some 31) rfl rfl Try.func22 (by kernel_rfl) rfl #[.agg #[.int .i64 t347, .int .i64 t348, .slice Ao20 t349.length co20], .int .i64 a1, .int .i64 a2, .int .i64 a3] rfl (by (try simp only [List.map_toArray, List.map_cons, List.map_nil]); first | done | rfl | (simp only [List.length_drop, List.length_take]; rfl)) ?_; (with_reducible refine (spec_ShiftPhoto.calls k t347 t348 _ _ t349 a1 a2 a3 t352 t353 t354 t357 _ ?side1 ?side2 A11.out).mono ?_); (case side1 => repeat (first | exact (Kd.R_reads' HO351.out).2.2 | (with_reducible refine Kd.C_alloc ?_ _) | (with_reducible refine Kd.C_drewN ?_ _) | (with_reducible refine Kd.C_drew ?_))); (case side2 => exact (Kd.R_reads' HO351.out).2.1); rintro e w21 ⟨v355, rfl, ho0, hb⟩; refine ⟨_, rfl, ?_⟩; have n0_ := Aside0.mk (Kd.R_elder' (by (with_reducible repeat (first | apply Kd.R_alloc | apply Kd.R_drewN | apply Kd.R_drew)); exact HO351.out) (Kd.R_base ho0) hb); have n1_ := Aside0.mk (Kd.R_lower (Kd.R_new' ho0 (Kd.R_lt (by (with_reducible repeat (first | apply Kd.R_alloc | apply Kd.R_drewN | apply Kd.R_drew)); exact HO351.out))) (below_size (by repeat (first | (with_reducible first | exact HB.out | apply below_alloc | apply pw_below_drewN | apply below_drew1 | refine below_set ?_ GE345.out) | exact HB.out)))); have n2_ := Aside0.mk (blk_below (g := gb345) (o := .cells #[.int .i64 a0_0, .int .i64 a0_1, .slice A0_2 l0_2.length c0_2] 24 (0, 0)) (by (with_reducible repeat (first | refine blk_drewN ?_ _ | refine blk_drew ?_ | refine blk_alloc ?_ _)); exact BK345.out) hb); have n3_ := Aside0.mk (below_step (by repeat (first | (with_reducible first | exact HB.out | apply below_alloc | apply pw_below_drewN | apply below_drew1 | refine below_set ?_ GE345.out) | exact HB.out)) hb); clear HO351; clear BK345; clear HB; have HO351 := n0_; have HO356 := n1_; have BK345 := n2_; have HB := n3_; clear n0_ n1_ n2_ n3_; (try clear hb); (try clear hb2); (try clear hk); (try clear hi); (try clear ho0)) | ((with_reducible refine gate_dst (N := 10) rfl ?_); refine box_event ?hg (N := 10) ?hd (cs := #[.int .i64 0, .int .i64 0, .slice none 0 0]) (t := 28) ?hr ?_; (case hd => rfl); (case hg => rfl); (case hr => first | (go_simp; done) | (go_simp; rfl)); intro gb358 hg w22 hbox hb; have n0_ := Aside0.mk (Kd.R_below (by (with_reducible repeat (first | apply Kd.R_alloc | apply Kd.R_drewN | apply Kd.R_drew)); exact HO351.out) hb); have n1_ := Aside0.mk (Kd.R_below (by (with_reducible repeat (first | apply Kd.R_alloc | apply Kd.R_drewN | apply Kd.R_drew)); exact HO356.out) hb); have n2_ := Aside0.mk (blk_below (g := gb345) (o := .cells #[.int .i64 a0_0, .int .i64 a0_1, .slice A0_2 l0_2.length c0_2] 24 (0, 0)) (by (with_reducible repeat (first | refine blk_drewN ?_ _ | refine blk_drew ?_ | refine blk_alloc ?_ _)); exact BK345.out) hb); have n3_ := Aside0.mk (below_step (by repeat (first | (with_reducible first | exact HB.out | apply below_alloc | apply pw_below_drewN | apply below_drew1 | refine below_set ?_ GE345.out) | exact HB.out)) hb); have n4_ := Aside0.mk (hbox); have n5_ := Aside0.mk ((by rw [hg]; exact (below_size (by repeat (first | (with_reducible first | exact HB.out | apply below_alloc | apply pw_below_drewN | apply below_drew1 | refine below_set ?_ GE345.out) | exact HB.out))) : w.heap.size ≤ gb358)); have n6_ := Aside0.mk ((by rw [hg]; exact (below_size (by repeat (first | (with_reducible first | exact HB.out | apply below_alloc | apply pw_below_drewN | apply below_drew1 | refine below_set ?_ GE345.out) | exact HB.out))) : w.heap.size ≤ gb358)); have n7_ := Aside0.mk ((by rw [hg]; exact Nat.ne_of_lt (blk_lt (g := gb345) (o := .cells #[.int .i64 a0_0, .int .i64 a0_1, .slice A0_2 l0_2.length c0_2] 24 (0, 0)) (by (with_reducible repeat (first | refine blk_drewN ?_ _ | refine blk_drew ?_ | refine blk_alloc ?_ _)); exact BK345.out)) : gb345 ≠ gb358)); have n8_ := Aside0.mk ((by rw [hg]; exact Nat.ne_of_gt (blk_lt (g := gb345) (o := .cells #[.int .i64 a0_0, .int .i64 a0_1, .slice A0_2 l0_2.length c0_2] 24 (0, 0)) (by (with_reducible repeat (first | refine blk_drewN ?_ _ | refine blk_drew ?_ | refine blk_alloc ?_ _)); exact BK345.out)) : gb358 ≠ gb345)); clear HO351; clear HO356; clear BK345; clear HB; have HO351 := n0_; have HO356 := n1_; have BK345 := n2_; have HB := n3_; have BK358 := n4_; have GW358 := n5_; have GE358 := n6_; have NB345_358 := n7_; have NB358_345 := n8_; clear n0_ n1_ n2_ n3_ n4_ n5_ n6_ n7_ n8_; clear hb hbox hg; have hnb23 := NB358_345.out; have hnc23 := NB345_358.out; have hcz24_0 : w22.cell? ⟨gb358, 0, none⟩ = some (.int .i64 0) := (blk_cell BK358.out 0).trans rfl; have hcz24_1 : w22.cell? ⟨gb358, 1, none⟩ = some (.int .i64 0) := (blk_cell BK358.out 1).trans rfl; have hcz24_2 : w22.cell? ⟨gb358, 2, none⟩ = some (.slice none 0 0) := (blk_cell BK358.out 2).trans rfl; have hfz24_0 := blk_frozen BK358.out 0; have hfz24_1 := blk_frozen BK358.out 1; have hfz24_2 := blk_frozen BK358.out 2; obtain ⟨Ao25, co25, eo25⟩ := Kd.R_slice HO356.out; subst eo25; have hcz26_0 : w22.cell? ⟨gb345, 0, none⟩ = some (.int .i64 a0_0) := (blk_cell BK345.out 0).trans rfl; have hcz26_1 : w22.cell? ⟨gb345, 1, none⟩ = some (.int .i64 a0_1) := (blk_cell BK345.out 1).trans rfl; have hcz26_2 : w22.cell? ⟨gb345, 2, none⟩ = some (.slice A0_2 l0_2.length c0_2) := (blk_cell BK345.out 2).trans rfl; have hfz26_0 := blk_frozen BK345.out 0; have hfz26_1 := blk_frozen BK345.out 1; have hfz26_2 := blk_frozen BK345.out 2) | ((with_reducible refine gate_callee (f := 15) rfl ?_); refine goesL_ (some 35) rfl rfl Try.func15 (by kernel_rfl) rfl #[.agg #[.int .i64 a0_0, .int .i64 a0_1, .slice A0_2 l0_2.length c0_2]] rfl (by (try simp only [List.map_toArray, List.map_cons, List.map_nil]); first | done | rfl | (simp only [List.length_drop, List.length_take]; rfl)) ?_; (with_reducible refine (laws_toChart.calls k a0_0 a0_1 _ _ l0_2 t359 t360 t361 _ ?side1 ?side2 A12.out).mono ?_); (case side1 => exact Kd.C_below HR0_2.out (by repeat (first | (with_reducible first | exact HB.out | apply below_alloc | apply pw_below_drewN | apply below_drew1 | refine below_set ?_ GE345.out | refine below_set ?_ GE358.out) | exact HB.out))); (case side2 => exact HC0_2.out); rintro e w27 ⟨v362, rfl, ho0, hb⟩; refine ⟨_, rfl, ?_⟩; have n0_ := Aside0.mk (Kd.R_elder' (by (with_reducible repeat (first | apply Kd.R_alloc | apply Kd.R_drewN | apply Kd.R_drew)); exact (Kd.R_mono (Kd.R_far (p := ⟨gb358, 2, none⟩) (Kd.R_far (p := ⟨gb358, 1, none⟩) (Kd.R_far (p := ⟨gb358, 0, none⟩) (Kd.R_types HO351.out BK358.out (by decide)) (fun _ hk => hk.2) (.int .i64 t352)) (fun _ hk => hk.2) (.int .i64 t353)) (fun _ hk => hk.2) (.slice Ao25 t354.length co25)) (fun _ h_ => h_.1))) (Kd.R_base ho0) hb); have n1_ := Aside0.mk (Kd.R_elder' (by (with_reducible repeat (first | apply Kd.R_alloc | apply Kd.R_drewN | apply Kd.R_drew)); exact (Kd.R_mono (Kd.R_far (p := ⟨gb358, 2, none⟩) (Kd.R_far (p := ⟨gb358, 1, none⟩) (Kd.R_far (p := ⟨gb358, 0, none⟩) (Kd.R_types HO356.out BK358.out (by decide)) (fun _ hk => hk.2) (.int .i64 t352)) (fun _ hk => hk.2) (.int .i64 t353)) (fun _ hk => hk.2) (.slice Ao25 t354.length co25)) (fun _ h_ => h_.1))) (Kd.R_base ho0) hb); have n2_ := Aside0.mk (Kd.R_lower (Kd.R_new' (Kd.R_new' ho0 (Kd.R_lt (by (with_reducible repeat (first | apply Kd.R_alloc | apply Kd.R_drewN | apply Kd.R_drew)); exact (Kd.R_mono (Kd.R_far (p := ⟨gb358, 2, none⟩) (Kd.R_far (p := ⟨gb358, 1, none⟩) (Kd.R_far (p := ⟨gb358, 0, none⟩) (Kd.R_types HO351.out BK358.out (by decide)) (fun _ hk => hk.2) (.int .i64 t352)) (fun _ hk => hk.2) (.int .i64 t353)) (fun _ hk => hk.2) (.slice Ao25 t354.length co25)) (fun _ h_ => h_.1))))) (Kd.R_lt (by (with_reducible repeat (first | apply Kd.R_alloc | apply Kd.R_drewN | apply Kd.R_drew)); exact (Kd.R_mono (Kd.R_far (p := ⟨gb358, 2, none⟩) (Kd.R_far (p := ⟨gb358, 1, none⟩) (Kd.R_far (p := ⟨gb358, 0, none⟩) (Kd.R_types HO356.out BK358.out (by decide)) (fun _ hk => hk.2) (.int .i64 t352)) (fun _ hk => hk.2) (.int .i64 t353)) (fun _ hk => hk.2) (.slice Ao25 t354.length co25)) (fun _ h_ => h_.1))))) (below_size (by repeat (first | (with_reducible first | exact HB.out | apply below_alloc | apply pw_below_drewN | apply below_drew1 | refine below_set ?_ GE345.out | refine below_set ?_ GE358.out) | exact HB.out)))); have n3_ := Aside0.mk (blk_below (g := gb345) (o := .cells #[.int .i64 a0_0, .int .i64 a0_1, .slice A0_2 l0_2.length c0_2] 24 (0, 0)) (by (with_reducible repeat (first | refine blk_drewN ?_ _ | refine blk_drew ?_ | refine blk_alloc ?_ _)); refine blk_far ?_ NB345_358.out _; (with_reducible repeat (first | refine blk_drewN ?_ _ | refine blk_drew ?_ | refine blk_alloc ?_ _)); refine blk_far ?_ NB345_358.out _; (with_reducible repeat (first | refine blk_drewN ?_ _ | refine blk_drew ?_ | refine blk_alloc ?_ _)); refine blk_far ?_ NB345_358.out _; (with_reducible repeat (first | refine blk_drewN ?_ _ | refine blk_drew ?_ | refine blk_alloc ?_ _)); exact BK345.out) hb); have n4_ := Aside0.mk (blk_below (g := gb358) (o := .cells #[.int .i64 t352, .int .i64 t353, .slice Ao25 t354.length co25] 28 (0, 0)) (by (with_reducible repeat (first | refine blk_drewN ?_ _ | refine blk_drew ?_ | refine blk_alloc ?_ _)); refine blk_put (cs := #[.int .i64 t352, .int .i64 t353, .slice none 0 0]) ?_ 2 _ rfl; (with_reducible repeat (first | refine blk_drewN ?_ _ | refine blk_drew ?_ | refine blk_alloc ?_ _)); refine blk_put (cs := #[.int .i64 t352, .int .i64 0, .slice none 0 0]) ?_ 1 _ rfl; (with_reducible repeat (first | refine blk_drewN ?_ _ | refine blk_drew ?_ | refine blk_alloc ?_ _)); refine blk_put (cs := #[.int .i64 0, .int .i64 0, .slice none 0 0]) ?_ 0 _ rfl; (with_reducible repeat (first | refine blk_drewN ?_ _ | refine blk_drew ?_ | refine blk_alloc ?_ _)); exact BK358.out) hb); have n5_ := Aside0.mk (below_step (by repeat (first | (with_reducible first | exact HB.out | apply below_alloc | apply pw_below_drewN | apply below_drew1 | refine below_set ?_ GE345.out | refine below_set ?_ GE358.out) | exact HB.out)) hb); clear HO351; clear HO356; clear BK345; clear BK358; clear HB; have HO351 := n0_; have HO356 := n1_; have HO363 := n2_; have BK345 := n3_; have BK358 := n4_; have HB := n5_; clear n0_ n1_ n2_ n3_ n4_ n5_; (try clear hb); (try clear hb2); (try clear hk); (try clear hi); (try clear ho0)) | ((with_reducible refine gate_dst (N := 12) rfl ?_); refine box_event ?hg (N := 12) ?hd (cs := #[.int .i64 0, .int .i64 0, .slice none 0 0]) (t := 28) ?hr ?_; (case hd => rfl); (case hg => rfl); (case hr => first | (go_simp; done) | (go_simp; rfl)); intro gb364 hg w28 hbox hb; have n0_ := Aside0.mk (Kd.R_below (by (with_reducible repeat (first | apply Kd.R_alloc | apply Kd.R_drewN | apply Kd.R_drew)); exact HO351.out) hb); have n1_ := Aside0.mk (Kd.R_below (by (with_reducible repeat (first | apply Kd.R_alloc | apply Kd.R_drewN | apply Kd.R_drew)); exact HO356.out) hb); have n2_ := Aside0.mk (Kd.R_below (by (with_reducible repeat (first | apply Kd.R_alloc | apply Kd.R_drewN | apply Kd.R_drew)); exact HO363.out) hb); have n3_ := Aside0.mk (blk_below (g := gb345) (o := .cells #[.int .i64 a0_0, .int .i64 a0_1, .slice A0_2 l0_2.length c0_2] 24 (0, 0)) (by (with_reducible repeat (first | refine blk_drewN ?_ _ | refine blk_drew ?_ | refine blk_alloc ?_ _)); exact BK345.out) hb); have n4_ := Aside0.mk (blk_below (g := gb358) (o := .cells #[.int .i64 t352, .int .i64 t353, .slice Ao25 t354.length co25] 28 (0, 0)) (by (with_reducible repeat (first | refine blk_drewN ?_ _ | refine blk_drew ?_ | refine blk_alloc ?_ _)); exact BK358.out) hb); have n5_ := Aside0.mk (below_step (by repeat (first | (with_reducible first | exact HB.out | apply below_alloc | apply pw_below_drewN | apply below_drew1 | refine below_set ?_ GE345.out | refine below_set ?_ GE358.out) | exact HB.out)) hb); have n6_ := Aside0.mk (hbox); have n7_ := Aside0.mk ((by rw [hg]; exact (below_size (by repeat (first | (with_reducible first | exact HB.out | apply below_alloc | apply pw_below_drewN | apply below_drew1 | refine below_set ?_ GE345.out | refine below_set ?_ GE358.out) | exact HB.out))) : w.heap.size ≤ gb364)); have n8_ := Aside0.mk ((by rw [hg]; exact (below_size (by repeat (first | (with_reducible first | exact HB.out | apply below_alloc | apply pw_below_drewN | apply below_drew1 | refine below_set ?_ GE345.out | refine below_set ?_ GE358.out) | exact HB.out))) : w.heap.size ≤ gb364)); have n9_ := Aside0.mk ((by rw [hg]; exact Nat.ne_of_lt (blk_lt (g := gb345) (o := .cells #[.int .i64 a0_0, .int .i64 a0_1, .slice A0_2 l0_2.length c0_2] 24 (0, 0)) (by (with_reducible repeat (first | refine blk_drewN ?_ _ | refine blk_drew ?_ | refine blk_alloc ?_ _)); exact BK345.out)) : gb345 ≠ gb364)); have n10_ := Aside0.mk ((by rw [hg]; exact Nat.ne_of_gt (blk_lt (g := gb345) (o := .cells #[.int .i64 a0_0, .int .i64 a0_1, .slice A0_2 l0_2.length c0_2] 24 (0, 0)) (by (with_reducible repeat (first | refine blk_drewN ?_ _ | refine blk_drew ?_ | refine blk_alloc ?_ _)); exact BK345.out)) : gb364 ≠ gb345)); have n11_ := Aside0.mk ((by rw [hg]; exact Nat.ne_of_lt (blk_lt (g := gb358) (o := .cells #[.int .i64 t352, .int .i64 t353, .slice Ao25 t354.length co25] 28 (0, 0)) (by (with_reducible repeat (first | refine blk_drewN ?_ _ | refine blk_drew ?_ | refine blk_alloc ?_ _)); exact BK358.out)) : gb358 ≠ gb364)); have n12_ := Aside0.mk ((by rw [hg]; exact Nat.ne_of_gt (blk_lt (g := gb358) (o := .cells #[.int .i64 t352, .int .i64 t353, .slice Ao25 t354.length co25] 28 (0, 0)) (by (with_reducible repeat (first | refine blk_drewN ?_ _ | refine blk_drew ?_ | refine blk_alloc ?_ _)); exact BK358.out)) : gb364 ≠ gb358)); clear HO351; clear HO356; clear HO363; clear BK345; clear BK358; clear HB; have HO351 := n0_; have HO356 := n1_; have HO363 := n2_; have BK345 := n3_; have BK358 := n4_; have HB := n5_; have BK364 := n6_; have GW364 := n7_; have GE364 := n8_; have NB345_364 := n9_; have NB364_345 := n10_; have NB358_364 := n11_; have NB364_358 := n12_; clear n0_ n1_ n2_ n3_ n4_ n5_ n6_ n7_ n8_ n9_ n10_ n11_ n12_; clear hb hbox hg; have hnb29 := NB364_345.out; have hnc29 := NB345_364.out; have hnb30 := NB364_358.out; have hnc30 := NB358_364.out; have hcz31_0 : w28.cell? ⟨gb364, 0, none⟩ = some (.int .i64 0) := (blk_cell BK364.out 0).trans rfl; have hcz31_1 : w28.cell? ⟨gb364, 1, none⟩ = some (.int .i64 0) := (blk_cell BK364.out 1).trans rfl; have hcz31_2 : w28.cell? ⟨gb364, 2, none⟩ = some (.slice none 0 0) := (blk_cell BK364.out 2).trans rfl; have hfz31_0 := blk_frozen BK364.out 0; have hfz31_1 := blk_frozen BK364.out 1; have hfz31_2 := blk_frozen BK364.out 2; obtain ⟨Ao32, co32, eo32⟩ := Kd.R_slice HO363.out; subst eo32) | ((with_reducible refine gate_callee (f := 23) rfl ?_); refine goesL_ (some 41) rfl rfl Try.func23 (by kernel_rfl) rfl #[.agg #[.int .i64 t359, .int .i64 t360, .slice Ao32 t361.length co32], .int .i64 a1, .int .i64 a2, .int .i64 a3] rfl (by (try simp only [List.map_toArray, List.map_cons, List.map_nil]); first | done | rfl | (simp only [List.length_drop, List.length_take]; rfl)) ?_; (with_reducible refine (impl_ShiftPhoto.calls k t359 t360 _ _ t361 a1 a2 a3 t365 t366 t367 t370 _ ?side1 ?side2 A13.out).mono ?_); (case side1 => refine (Kd.R_reads' (e := 3) (base := w.heap.size) (ok := fun k_ => ((True ∧ some k_ ≠ (.slice Ao20 t349.length co20 : Value).ownBlock) ∧ some k_ ≠ (.slice Ao25 t354.length co25 : Value).ownBlock)) (n := t361.length) (c := co32) ?_).2.2; exact (by (with_reducible repeat (first | apply Kd.R_alloc | apply Kd.R_drewN | apply Kd.R_drew)); exact (Kd.R_mono (Kd.R_far (p := ⟨gb364, 2, none⟩) (Kd.R_far (p := ⟨gb364, 1, none⟩) (Kd.R_far (p := ⟨gb364, 0, none⟩) (Kd.R_types HO363.out BK364.out (by decide)) (fun _ hk => hk.2) (.int .i64 t359)) (fun _ hk => hk.2) (.int .i64 t360)) (fun _ hk => hk.2) (.slice Ao32 t361.length co32)) (fun _ h_ => h_.1)))); (case side2 => exact (Kd.R_reads' HO363.out).2.1); rintro e w33 ⟨v368, rfl, ho0, hb⟩; refine ⟨_, rfl, ?_⟩; have n0_ := Aside0.mk (Kd.R_elder' (by (with_reducible repeat (first | apply Kd.R_alloc | apply Kd.R_drewN | apply Kd.R_drew)); exact (Kd.R_mono (Kd.R_far (p := ⟨gb364, 2, none⟩) (Kd.R_far (p := ⟨gb364, 1, none⟩) (Kd.R_far (p := ⟨gb364, 0, none⟩) (Kd.R_types HO351.out BK364.out (by decide)) (fun _ hk => hk.2) (.int .i64 t359)) (fun _ hk => hk.2) (.int .i64 t360)) (fun _ hk => hk.2) (.slice Ao32 t361.length co32)) (fun _ h_ => h_.1))) (Kd.R_base ho0) hb); have n1_ := Aside0.mk (Kd.R_elder' (by (with_reducible repeat (first | apply Kd.R_alloc | apply Kd.R_drewN | apply Kd.R_drew)); exact (Kd.R_mono (Kd.R_far (p := ⟨gb364, 2, none⟩) (Kd.R_far (p := ⟨gb364, 1, none⟩) (Kd.R_far (p := ⟨gb364, 0, none⟩) (Kd.R_types HO356.out BK364.out (by decide)) (fun _ hk => hk.2) (.int .i64 t359)) (fun _ hk => hk.2) (.int .i64 t360)) (fun _ hk => hk.2) (.slice Ao32 t361.length co32)) (fun _ h_ => h_.1))) (Kd.R_base ho0) hb); have n2_ := Aside0.mk (Kd.R_elder' (by (with_reducible repeat (first | apply Kd.R_alloc | apply Kd.R_drewN | apply Kd.R_drew)); exact (Kd.R_mono (Kd.R_far (p := ⟨gb364, 2, none⟩) (Kd.R_far (p := ⟨gb364, 1, none⟩) (Kd.R_far (p := ⟨gb364, 0, none⟩) (Kd.R_types HO363.out BK364.out (by decide)) (fun _ hk => hk.2) (.int .i64 t359)) (fun _ hk => hk.2) (.int .i64 t360)) (fun _ hk => hk.2) (.slice Ao32 t361.length co32)) (fun _ h_ => h_.1))) (Kd.R_base ho0) hb); have n3_ := Aside0.mk (Kd.R_lower (Kd.R_new' (Kd.R_new' (Kd.R_new' ho0 (Kd.R_lt (by (with_reducible repeat (first | apply Kd.R_alloc | apply Kd.R_drewN | apply Kd.R_drew)); exact (Kd.R_mono (Kd.R_far (p := ⟨gb364, 2, none⟩) (Kd.R_far (p := ⟨gb364, 1, none⟩) (Kd.R_far (p := ⟨gb364, 0, none⟩) (Kd.R_types HO351.out BK364.out (by decide)) (fun _ hk => hk.2) (.int .i64 t359)) (fun _ hk => hk.2) (.int .i64 t360)) (fun _ hk => hk.2) (.slice Ao32 t361.length co32)) (fun _ h_ => h_.1))))) (Kd.R_lt (by (with_reducible repeat (first | apply Kd.R_alloc | apply Kd.R_drewN | apply Kd.R_drew)); exact (Kd.R_mono (Kd.R_far (p := ⟨gb364, 2, none⟩) (Kd.R_far (p := ⟨gb364, 1, none⟩) (Kd.R_far (p := ⟨gb364, 0, none⟩) (Kd.R_types HO356.out BK364.out (by decide)) (fun _ hk => hk.2) (.int .i64 t359)) (fun _ hk => hk.2) (.int .i64 t360)) (fun _ hk => hk.2) (.slice Ao32 t361.length co32)) (fun _ h_ => h_.1))))) (Kd.R_lt (by (with_reducible repeat (first | apply Kd.R_alloc | apply Kd.R_drewN | apply Kd.R_drew)); exact (Kd.R_mono (Kd.R_far (p := ⟨gb364, 2, none⟩) (Kd.R_far (p := ⟨gb364, 1, none⟩) (Kd.R_far (p := ⟨gb364, 0, none⟩) (Kd.R_types HO363.out BK364.out (by decide)) (fun _ hk => hk.2) (.int .i64 t359)) (fun _ hk => hk.2) (.int .i64 t360)) (fun _ hk => hk.2) (.slice Ao32 t361.length co32)) (fun _ h_ => h_.1))))) (below_size (by repeat (first | (with_reducible first | exact HB.out | apply below_alloc | apply pw_below_drewN | apply below_drew1 | refine below_set ?_ GE345.out | refine below_set ?_ GE358.out | refine below_set ?_ GE364.out) | exact HB.out)))); have n4_ := Aside0.mk (blk_below (g := gb345) (o := .cells #[.int .i64 a0_0, .int .i64 a0_1, .slice A0_2 l0_2.length c0_2] 24 (0, 0)) (by (with_reducible repeat (first | refine blk_drewN ?_ _ | refine blk_drew ?_ | refine blk_alloc ?_ _)); refine blk_far ?_ NB345_364.out _; (with_reducible repeat (first | refine blk_drewN ?_ _ | refine blk_drew ?_ | refine blk_alloc ?_ _)); refine blk_far ?_ NB345_364.out _; (with_reducible repeat (first | refine blk_drewN ?_ _ | refine blk_drew ?_ | refine blk_alloc ?_ _)); refine blk_far ?_ NB345_364.out _; (with_reducible repeat (first | refine blk_drewN ?_ _ | refine blk_drew ?_ | refine blk_alloc ?_ _)); exact BK345.out) hb); have n5_ := Aside0.mk (blk_below (g := gb358) (o := .cells #[.int .i64 t352, .int .i64 t353, .slice Ao25 t354.length co25] 28 (0, 0)) (by (with_reducible repeat (first | refine blk_drewN ?_ _ | refine blk_drew ?_ | refine blk_alloc ?_ _)); refine blk_far ?_ NB358_364.out _; (with_reducible repeat (first | refine blk_drewN ?_ _ | refine blk_drew ?_ | refine blk_alloc ?_ _)); refine blk_far ?_ NB358_364.out _; (with_reducible repeat (first | refine blk_drewN ?_ _ | refine blk_drew ?_ | refine blk_alloc ?_ _)); refine blk_far ?_ NB358_364.out _; (with_reducible repeat (first | refine blk_drewN ?_ _ | refine blk_drew ?_ | refine blk_alloc ?_ _)); exact BK358.out) hb); have n6_ := Aside0.mk (blk_below (g := gb364) (o := .cells #[.int .i64 t359, .int .i64 t360, .slice Ao32 t361.length co32] 28 (0, 0)) (by (with_reducible repeat (first | refine blk_drewN ?_ _ | refine blk_drew ?_ | refine blk_alloc ?_ _)); refine blk_put (cs := #[.int .i64 t359, .int .i64 t360, .slice none 0 0]) ?_ 2 _ rfl; (with_reducible repeat (first | refine blk_drewN ?_ _ | refine blk_drew ?_ | refine blk_alloc ?_ _)); refine blk_put (cs := #[.int .i64 t359, .int .i64 0, .slice none 0 0]) ?_ 1 _ rfl; (with_reducible repeat (first | refine blk_drewN ?_ _ | refine blk_drew ?_ | refine blk_alloc ?_ _)); refine blk_put (cs := #[.int .i64 0, .int .i64 0, .slice none 0 0]) ?_ 0 _ rfl; (with_reducible repeat (first | refine blk_drewN ?_ _ | refine blk_drew ?_ | refine blk_alloc ?_ _)); exact BK364.out) hb); have n7_ := Aside0.mk (below_step (by repeat (first | (with_reducible first | exact HB.out | apply below_alloc | apply pw_below_drewN | apply below_drew1 | refine below_set ?_ GE345.out | refine below_set ?_ GE358.out | refine below_set ?_ GE364.out) | exact HB.out)) hb); clear HO351; clear HO356; clear HO363; clear BK345; clear BK358; clear BK364; clear HB; have HO351 := n0_; have HO356 := n1_; have HO363 := n2_; have HO369 := n3_; have BK345 := n4_; have BK358 := n5_; have BK364 := n6_; have HB := n7_; clear n0_ n1_ n2_ n3_ n4_ n5_ n6_ n7_; (try clear hb); (try clear hb2); (try clear hk); (try clear hi); (try clear ho0)) | ((with_reducible refine gate_dst (N := 13) rfl ?_); refine box_event ?hg (N := 13) ?hd (cs := #[.int .i64 0, .int .i64 0, .slice none 0 0]) (t := 28) ?hr ?_; (case hd => rfl); (case hg => rfl); (case hr => first | (go_simp; done) | (go_simp; rfl)); intro gb371 hg w34 hbox hb; have n0_ := Aside0.mk (Kd.R_below (by (with_reducible repeat (first | apply Kd.R_alloc | apply Kd.R_drewN | apply Kd.R_drew)); exact HO351.out) hb); have n1_ := Aside0.mk (Kd.R_below (by (with_reducible repeat (first | apply Kd.R_alloc | apply Kd.R_drewN | apply Kd.R_drew)); exact HO356.out) hb); have n2_ := Aside0.mk (Kd.R_below (by (with_reducible repeat (first | apply Kd.R_alloc | apply Kd.R_drewN | apply Kd.R_drew)); exact HO363.out) hb); have n3_ := Aside0.mk (Kd.R_below (by (with_reducible repeat (first | apply Kd.R_alloc | apply Kd.R_drewN | apply Kd.R_drew)); exact HO369.out) hb); have n4_ := Aside0.mk (blk_below (g := gb345) (o := .cells #[.int .i64 a0_0, .int .i64 a0_1, .slice A0_2 l0_2.length c0_2] 24 (0, 0)) (by (with_reducible repeat (first | refine blk_drewN ?_ _ | refine blk_drew ?_ | refine blk_alloc ?_ _)); exact BK345.out) hb); have n5_ := Aside0.mk (blk_below (g := gb358) (o := .cells #[.int .i64 t352, .int .i64 t353, .slice Ao25 t354.length co25] 28 (0, 0)) (by (with_reducible repeat (first | refine blk_drewN ?_ _ | refine blk_drew ?_ | refine blk_alloc ?_ _)); exact BK358.out) hb); have n6_ := Aside0.mk (blk_below (g := gb364) (o := .cells #[.int .i64 t359, .int .i64 t360, .slice Ao32 t361.length co32] 28 (0, 0)) (by (with_reducible repeat (first | refine blk_drewN ?_ _ | refine blk_drew ?_ | refine blk_alloc ?_ _)); exact BK364.out) hb); have n7_ := Aside0.mk (below_step (by repeat (first | (with_reducible first | exact HB.out | apply below_alloc | apply pw_below_drewN | apply below_drew1 | refine below_set ?_ GE345.out | refine below_set ?_ GE358.out | refine below_set ?_ GE364.out) | exact HB.out)) hb); have n8_ := Aside0.mk (hbox); have n9_ := Aside0.mk ((by rw [hg]; exact (below_size (by repeat (first | (with_reducible first | exact HB.out | apply below_alloc | apply pw_below_drewN | apply below_drew1 | refine below_set ?_ GE345.out | refine below_set ?_ GE358.out | refine below_set ?_ GE364.out) | exact HB.out))) : w.heap.size ≤ gb371)); have n10_ := Aside0.mk ((by rw [hg]; exact (below_size (by repeat (first | (with_reducible first | exact HB.out | apply below_alloc | apply pw_below_drewN | apply below_drew1 | refine below_set ?_ GE345.out | refine below_set ?_ GE358.out | refine below_set ?_ GE364.out) | exact HB.out))) : w.heap.size ≤ gb371)); have n11_ := Aside0.mk ((by rw [hg]; exact Nat.ne_of_lt (blk_lt (g := gb345) (o := .cells #[.int .i64 a0_0, .int .i64 a0_1, .slice A0_2 l0_2.length c0_2] 24 (0, 0)) (by (with_reducible repeat (first | refine blk_drewN ?_ _ | refine blk_drew ?_ | refine blk_alloc ?_ _)); exact BK345.out)) : gb345 ≠ gb371)); have n12_ := Aside0.mk ((by rw [hg]; exact Nat.ne_of_gt (blk_lt (g := gb345) (o := .cells #[.int .i64 a0_0, .int .i64 a0_1, .slice A0_2 l0_2.length c0_2] 24 (0, 0)) (by (with_reducible repeat (first | refine blk_drewN ?_ _ | refine blk_drew ?_ | refine blk_alloc ?_ _)); exact BK345.out)) : gb371 ≠ gb345)); have n13_ := Aside0.mk ((by rw [hg]; exact Nat.ne_of_lt (blk_lt (g := gb358) (o := .cells #[.int .i64 t352, .int .i64 t353, .slice Ao25 t354.length co25] 28 (0, 0)) (by (with_reducible repeat (first | refine blk_drewN ?_ _ | refine blk_drew ?_ | refine blk_alloc ?_ _)); exact BK358.out)) : gb358 ≠ gb371)); have n14_ := Aside0.mk ((by rw [hg]; exact Nat.ne_of_gt (blk_lt (g := gb358) (o := .cells #[.int .i64 t352, .int .i64 t353, .slice Ao25 t354.length co25] 28 (0, 0)) (by (with_reducible repeat (first | refine blk_drewN ?_ _ | refine blk_drew ?_ | refine blk_alloc ?_ _)); exact BK358.out)) : gb371 ≠ gb358)); have n15_ := Aside0.mk ((by rw [hg]; exact Nat.ne_of_lt (blk_lt (g := gb364) (o := .cells #[.int .i64 t359, .int .i64 t360, .slice Ao32 t361.length co32] 28 (0, 0)) (by (with_reducible repeat (first | refine blk_drewN ?_ _ | refine blk_drew ?_ | refine blk_alloc ?_ _)); exact BK364.out)) : gb364 ≠ gb371)); have n16_ := Aside0.mk ((by rw [hg]; exact Nat.ne_of_gt (blk_lt (g := gb364) (o := .cells #[.int .i64 t359, .int .i64 t360, .slice Ao32 t361.length co32] 28 (0, 0)) (by (with_reducible repeat (first | refine blk_drewN ?_ _ | refine blk_drew ?_ | refine blk_alloc ?_ _)); exact BK364.out)) : gb371 ≠ gb364)); clear HO351; clear HO356; clear HO363; clear HO369; clear BK345; clear BK358; clear BK364; clear HB; have HO351 := n0_; have HO356 := n1_; have HO363 := n2_; have HO369 := n3_; have BK345 := n4_; have BK358 := n5_; have BK364 := n6_; have HB := n7_; have BK371 := n8_; have GW371 := n9_; have GE371 := n10_; have NB345_371 := n11_; have NB371_345 := n12_; have NB358_371 := n13_; have NB371_358 := n14_; have NB364_371 := n15_; have NB371_364 := n16_; clear n0_ n1_ n2_ n3_ n4_ n5_ n6_ n7_ n8_ n9_ n10_ n11_ n12_ n13_ n14_ n15_ n16_; clear hb hbox hg; have hnb35 := NB371_345.out; have hnc35 := NB345_371.out; have hnb36 := NB371_358.out; have hnc36 := NB358_371.out; have hnb37 := NB371_364.out; have hnc37 := NB364_371.out; have hcz38_0 : w34.cell? ⟨gb371, 0, none⟩ = some (.int .i64 0) := (blk_cell BK371.out 0).trans rfl; have hcz38_1 : w34.cell? ⟨gb371, 1, none⟩ = some (.int .i64 0) := (blk_cell BK371.out 1).trans rfl; have hcz38_2 : w34.cell? ⟨gb371, 2, none⟩ = some (.slice none 0 0) := (blk_cell BK371.out 2).trans rfl; have hfz38_0 := blk_frozen BK371.out 0; have hfz38_1 := blk_frozen BK371.out 1; have hfz38_2 := blk_frozen BK371.out 2; obtain ⟨Ao39, co39, eo39⟩ := Kd.R_slice HO369.out; subst eo39))
  (try simp only [Act.put, List.setIfInBounds_toArray, List.set_cons_zero, List.set_cons_succ])
  go_cut [52] (fun v52 wc => ∃ (kq : Nat) (x52_13 : Bool), v52 = .bool x52_13 ∧ Aside0 (laws_FnExactShiftPhoto.j0 kq a1 a2 a3 t357 t370 x52_13 a0_0 a0_1 l0_2 t352 t353 t354 t359 t360 t361 t365 t366 t367 = some r) ∧ Aside0 (kq ≤ k) ∧ Aside0 (Kd.R (Kd.int .i64) 3 wc w.heap.size (fun k_ => some k_ ≠ ((.slice Ao32 t361.length co32) : Value).ownBlock ∧ some k_ ≠ ((.slice Ao39 t367.length co39) : Value).ownBlock) (.slice Ao25 t354.length co25) t354) ∧ Aside0 (Kd.R (Kd.int .i64) 3 wc w.heap.size (fun k_ => some k_ ≠ ((.slice Ao25 t354.length co25) : Value).ownBlock ∧ some k_ ≠ ((.slice Ao39 t367.length co39) : Value).ownBlock) (.slice Ao32 t361.length co32) t361) ∧ Aside0 (Kd.R (Kd.int .i64) 3 wc w.heap.size (fun k_ => some k_ ≠ ((.slice Ao25 t354.length co25) : Value).ownBlock ∧ some k_ ≠ ((.slice Ao32 t361.length co32) : Value).ownBlock) (.slice Ao39 t367.length co39) t367) ∧ Aside0 (wc.heap[gb345]? = some (.cells #[.int .i64 a0_0, .int .i64 a0_1, (.slice A0_2 l0_2.length c0_2)] 24 (0, 0))) ∧ Aside0 (wc.heap[gb358]? = some (.cells #[.int .i64 t352, .int .i64 t353, (.slice Ao25 t354.length co25)] 28 (0, 0))) ∧ Aside0 (wc.heap[gb364]? = some (.cells #[.int .i64 t359, .int .i64 t360, (.slice Ao32 t361.length co32)] 28 (0, 0))) ∧ Aside0 (wc.heap[gb371]? = some (.cells #[.int .i64 t365, .int .i64 t366, (.slice Ao39 t367.length co39)] 28 (0, 0))) ∧ Aside0 (Below w.heap.size w wc))
  case first =>
   have H := HC14.out
   clear HC14
   replace H := Option.bind_eq_some_iff.mp H
   obtain ⟨t372, A400, H⟩ := H
   replace H : (if t372 = true then (laws_FnExactShiftPhoto.j0 k a1 a2 a3 t357 t370 (t370 != t357) a0_0 a0_1 l0_2 t352 t353 t354 t359 t360 t361 t365 t366 t367) else (laws_FnExactShiftPhoto.j0 k a1 a2 a3 t357 t370 true a0_0 a0_1 l0_2 t352 t353 t354 t359 t360 t361 t365 t366 t367)) = some r := H
   have A40 := Aside0.mk A400
   clear A400
   by_cases c41 : t372 = true
   ·subst c41
    have H1 : (laws_FnExactShiftPhoto.j0 k a1 a2 a3 t357 t370 (t370 != t357) a0_0 a0_1 l0_2 t352 t353 t354 t359 t360 t361 t365 t366 t367) = some r := by rw [if_pos rfl] at H; exact H
    clear H
    have H := H1
    clear H1
    have H' := Aside0.mk H
    clear H
    have hnb42 := NB371_345.out
    have hnc42 := NB345_371.out
    have hnb43 := NB371_358.out
    have hnc43 := NB358_371.out
    have hnb44 := NB371_364.out
    have hnc44 := NB364_371.out
    have hcz45_0 : w34.cell? ⟨gb371, 0, none⟩ = some (.int .i64 0) := (blk_cell BK371.out 0).trans rfl
    have hcz45_1 : w34.cell? ⟨gb371, 1, none⟩ = some (.int .i64 0) := (blk_cell BK371.out 1).trans rfl
    have hcz45_2 : w34.cell? ⟨gb371, 2, none⟩ = some (.slice none 0 0) := (blk_cell BK371.out 2).trans rfl
    have hfz45_0 := blk_frozen BK371.out 0
    have hfz45_1 := blk_frozen BK371.out 1
    have hfz45_2 := blk_frozen BK371.out 2
    have hnb46 := NB358_345.out
    have hnc46 := NB345_358.out
    have hnb47 := NB358_364.out
    have hnc47 := NB364_358.out
    have hcz48_0 : w34.cell? ⟨gb358, 0, none⟩ = some (.int .i64 t352) := (blk_cell BK358.out 0).trans rfl
    have hcz48_1 : w34.cell? ⟨gb358, 1, none⟩ = some (.int .i64 t353) := (blk_cell BK358.out 1).trans rfl
    have hcz48_2 : w34.cell? ⟨gb358, 2, none⟩ = some (.slice Ao25 t354.length co25) := (blk_cell BK358.out 2).trans rfl
    have hfz48_0 := blk_frozen BK358.out 0
    have hfz48_1 := blk_frozen BK358.out 1
    have hfz48_2 := blk_frozen BK358.out 2
    go_wp2_with (first | ((with_reducible refine gate_callee (f := 17) rfl ?_); refine goesL_ (some 46) rfl rfl Try.func17 (by kernel_rfl) rfl #[.agg #[.int .i64 t365, .int .i64 t366, .slice Ao39 t367.length co39], .agg #[.int .i64 t352, .int .i64 t353, .slice Ao25 t354.length co25]] rfl (by (try simp only [List.map_toArray, List.map_cons, List.map_nil]); first | done | rfl | (simp only [List.length_drop, List.length_take]; rfl)) ?_; (with_reducible refine (laws_eqChart.calls k t365 t366 _ _ t367 t352 t353 _ _ t354 true _ ?side1 ?side2 ?side3 ?side4 A40.out).mono ?_); (case side1 => refine (Kd.R_reads' (e := 3) (base := w.heap.size) (ok := fun k_ => (((True ∧ some k_ ≠ (.slice Ao20 t349.length co20 : Value).ownBlock) ∧ some k_ ≠ (.slice Ao25 t354.length co25 : Value).ownBlock) ∧ some k_ ≠ (.slice Ao32 t361.length co32 : Value).ownBlock)) (n := t367.length) (c := co39) ?_).2.2; exact (by (with_reducible repeat (first | apply Kd.R_alloc | apply Kd.R_drewN | apply Kd.R_drew)); exact (Kd.R_mono (Kd.R_far (p := ⟨gb371, 2, none⟩) (Kd.R_far (p := ⟨gb371, 1, none⟩) (Kd.R_far (p := ⟨gb371, 0, none⟩) (Kd.R_types HO369.out BK371.out (by decide)) (fun _ hk => hk.2) (.int .i64 t365)) (fun _ hk => hk.2) (.int .i64 t366)) (fun _ hk => hk.2) (.slice Ao39 t367.length co39)) (fun _ h_ => h_.1)))); (case side2 => exact (Kd.R_reads' HO369.out).2.1); (case side3 => refine (Kd.R_reads' (e := 3) (base := w.heap.size) (ok := fun k_ => (((True ∧ some k_ ≠ (.slice Ao20 t349.length co20 : Value).ownBlock) ∧ some k_ ≠ (.slice Ao32 t361.length co32 : Value).ownBlock) ∧ some k_ ≠ (.slice Ao39 t367.length co39 : Value).ownBlock)) (n := t354.length) (c := co25) ?_).2.2; exact (by (with_reducible repeat (first | apply Kd.R_alloc | apply Kd.R_drewN | apply Kd.R_drew)); exact (Kd.R_mono (Kd.R_far (p := ⟨gb371, 2, none⟩) (Kd.R_far (p := ⟨gb371, 1, none⟩) (Kd.R_far (p := ⟨gb371, 0, none⟩) (Kd.R_types HO356.out BK371.out (by decide)) (fun _ hk => hk.2) (.int .i64 t365)) (fun _ hk => hk.2) (.int .i64 t366)) (fun _ hk => hk.2) (.slice Ao39 t367.length co39)) (fun _ h_ => h_.1)))); (case side4 => exact (Kd.R_reads' HO356.out).2.1); rintro e w49 ⟨rfl, hb⟩; refine ⟨_, rfl, ?_⟩; have n0_ := Aside0.mk (Kd.R_below (by (with_reducible repeat (first | apply Kd.R_alloc | apply Kd.R_drewN | apply Kd.R_drew)); exact (Kd.R_mono (Kd.R_far (p := ⟨gb371, 2, none⟩) (Kd.R_far (p := ⟨gb371, 1, none⟩) (Kd.R_far (p := ⟨gb371, 0, none⟩) (Kd.R_types HO351.out BK371.out (by decide)) (fun _ hk => hk.2) (.int .i64 t365)) (fun _ hk => hk.2) (.int .i64 t366)) (fun _ hk => hk.2) (.slice Ao39 t367.length co39)) (fun _ h_ => h_.1))) hb); have n1_ := Aside0.mk (Kd.R_below (by (with_reducible repeat (first | apply Kd.R_alloc | apply Kd.R_drewN | apply Kd.R_drew)); exact (Kd.R_mono (Kd.R_far (p := ⟨gb371, 2, none⟩) (Kd.R_far (p := ⟨gb371, 1, none⟩) (Kd.R_far (p := ⟨gb371, 0, none⟩) (Kd.R_types HO356.out BK371.out (by decide)) (fun _ hk => hk.2) (.int .i64 t365)) (fun _ hk => hk.2) (.int .i64 t366)) (fun _ hk => hk.2) (.slice Ao39 t367.length co39)) (fun _ h_ => h_.1))) hb); have n2_ := Aside0.mk (Kd.R_below (by (with_reducible repeat (first | apply Kd.R_alloc | apply Kd.R_drewN | apply Kd.R_drew)); exact (Kd.R_mono (Kd.R_far (p := ⟨gb371, 2, none⟩) (Kd.R_far (p := ⟨gb371, 1, none⟩) (Kd.R_far (p := ⟨gb371, 0, none⟩) (Kd.R_types HO363.out BK371.out (by decide)) (fun _ hk => hk.2) (.int .i64 t365)) (fun _ hk => hk.2) (.int .i64 t366)) (fun _ hk => hk.2) (.slice Ao39 t367.length co39)) (fun _ h_ => h_.1))) hb); have n3_ := Aside0.mk (Kd.R_below (by (with_reducible repeat (first | apply Kd.R_alloc | apply Kd.R_drewN | apply Kd.R_drew)); exact (Kd.R_mono (Kd.R_far (p := ⟨gb371, 2, none⟩) (Kd.R_far (p := ⟨gb371, 1, none⟩) (Kd.R_far (p := ⟨gb371, 0, none⟩) (Kd.R_types HO369.out BK371.out (by decide)) (fun _ hk => hk.2) (.int .i64 t365)) (fun _ hk => hk.2) (.int .i64 t366)) (fun _ hk => hk.2) (.slice Ao39 t367.length co39)) (fun _ h_ => h_.1))) hb); have n4_ := Aside0.mk (blk_below (g := gb345) (o := .cells #[.int .i64 a0_0, .int .i64 a0_1, .slice A0_2 l0_2.length c0_2] 24 (0, 0)) (by (with_reducible repeat (first | refine blk_drewN ?_ _ | refine blk_drew ?_ | refine blk_alloc ?_ _)); refine blk_far ?_ NB345_371.out _; (with_reducible repeat (first | refine blk_drewN ?_ _ | refine blk_drew ?_ | refine blk_alloc ?_ _)); refine blk_far ?_ NB345_371.out _; (with_reducible repeat (first | refine blk_drewN ?_ _ | refine blk_drew ?_ | refine blk_alloc ?_ _)); refine blk_far ?_ NB345_371.out _; (with_reducible repeat (first | refine blk_drewN ?_ _ | refine blk_drew ?_ | refine blk_alloc ?_ _)); exact BK345.out) hb); have n5_ := Aside0.mk (blk_below (g := gb358) (o := .cells #[.int .i64 t352, .int .i64 t353, .slice Ao25 t354.length co25] 28 (0, 0)) (by (with_reducible repeat (first | refine blk_drewN ?_ _ | refine blk_drew ?_ | refine blk_alloc ?_ _)); refine blk_far ?_ NB358_371.out _; (with_reducible repeat (first | refine blk_drewN ?_ _ | refine blk_drew ?_ | refine blk_alloc ?_ _)); refine blk_far ?_ NB358_371.out _; (with_reducible repeat (first | refine blk_drewN ?_ _ | refine blk_drew ?_ | refine blk_alloc ?_ _)); refine blk_far ?_ NB358_371.out _; (with_reducible repeat (first | refine blk_drewN ?_ _ | refine blk_drew ?_ | refine blk_alloc ?_ _)); exact BK358.out) hb); have n6_ := Aside0.mk (blk_below (g := gb364) (o := .cells #[.int .i64 t359, .int .i64 t360, .slice Ao32 t361.length co32] 28 (0, 0)) (by (with_reducible repeat (first | refine blk_drewN ?_ _ | refine blk_drew ?_ | refine blk_alloc ?_ _)); refine blk_far ?_ NB364_371.out _; (with_reducible repeat (first | refine blk_drewN ?_ _ | refine blk_drew ?_ | refine blk_alloc ?_ _)); refine blk_far ?_ NB364_371.out _; (with_reducible repeat (first | refine blk_drewN ?_ _ | refine blk_drew ?_ | refine blk_alloc ?_ _)); refine blk_far ?_ NB364_371.out _; (with_reducible repeat (first | refine blk_drewN ?_ _ | refine blk_drew ?_ | refine blk_alloc ?_ _)); exact BK364.out) hb); have n7_ := Aside0.mk (blk_below (g := gb371) (o := .cells #[.int .i64 t365, .int .i64 t366, .slice Ao39 t367.length co39] 28 (0, 0)) (by (with_reducible repeat (first | refine blk_drewN ?_ _ | refine blk_drew ?_ | refine blk_alloc ?_ _)); refine blk_put (cs := #[.int .i64 t365, .int .i64 t366, .slice none 0 0]) ?_ 2 _ rfl; (with_reducible repeat (first | refine blk_drewN ?_ _ | refine blk_drew ?_ | refine blk_alloc ?_ _)); refine blk_put (cs := #[.int .i64 t365, .int .i64 0, .slice none 0 0]) ?_ 1 _ rfl; (with_reducible repeat (first | refine blk_drewN ?_ _ | refine blk_drew ?_ | refine blk_alloc ?_ _)); refine blk_put (cs := #[.int .i64 0, .int .i64 0, .slice none 0 0]) ?_ 0 _ rfl; (with_reducible repeat (first | refine blk_drewN ?_ _ | refine blk_drew ?_ | refine blk_alloc ?_ _)); exact BK371.out) hb); have n8_ := Aside0.mk (below_step (by repeat (first | (with_reducible first | exact HB.out | apply below_alloc | apply pw_below_drewN | apply below_drew1 | refine below_set ?_ GE345.out | refine below_set ?_ GE358.out | refine below_set ?_ GE364.out | refine below_set ?_ GE371.out) | exact HB.out)) hb); clear HO351; clear HO356; clear HO363; clear HO369; clear BK345; clear BK358; clear BK364; clear BK371; clear HB; have HO351 := n0_; have HO356 := n1_; have HO363 := n2_; have HO369 := n3_; have BK345 := n4_; have BK358 := n5_; have BK364 := n6_; have BK371 := n7_; have HB := n8_; clear n0_ n1_ n2_ n3_ n4_ n5_ n6_ n7_ n8_; (try clear hb); (try clear hb2); (try clear hk); (try clear hi)))
    go_meet
    case rel => exact ⟨_, ((t370 != t357)), (by first | rfl | (simp; done) | (simp [*]; done)), H', ⟨by first | omega | exact Nat.le_refl _⟩, ⟨by (with_reducible repeat (first | apply Kd.R_alloc | apply Kd.R_drewN | apply Kd.R_drew)); exact Kd.R_mono HO356.out (fun _ hk => ⟨hk.1.2, hk.2⟩)⟩, ⟨by (with_reducible repeat (first | apply Kd.R_alloc | apply Kd.R_drewN | apply Kd.R_drew)); exact Kd.R_mono HO363.out (fun _ hk => ⟨hk.1.2, hk.2⟩)⟩, ⟨by (with_reducible repeat (first | apply Kd.R_alloc | apply Kd.R_drewN | apply Kd.R_drew)); exact Kd.R_mono HO369.out (fun _ hk => ⟨hk.1.2, hk.2⟩)⟩, ⟨by (with_reducible repeat (first | refine blk_drewN ?_ _ | refine blk_drew ?_ | refine blk_alloc ?_ _)); exact BK345.out⟩, ⟨by (with_reducible repeat (first | refine blk_drewN ?_ _ | refine blk_drew ?_ | refine blk_alloc ?_ _)); exact BK358.out⟩, ⟨by (with_reducible repeat (first | refine blk_drewN ?_ _ | refine blk_drew ?_ | refine blk_alloc ?_ _)); exact BK364.out⟩, ⟨by (with_reducible repeat (first | refine blk_drewN ?_ _ | refine blk_drew ?_ | refine blk_alloc ?_ _)); exact BK371.out⟩, ⟨by repeat (first | (with_reducible first | exact HB.out | apply below_alloc | apply pw_below_drewN | apply below_drew1 | refine below_set ?_ GE345.out | refine below_set ?_ GE358.out | refine below_set ?_ GE364.out | refine below_set ?_ GE371.out) | exact HB.out)⟩⟩
   ·replace c41 := Bool.eq_false_iff.mpr c41
    subst c41
    have H1 : (laws_FnExactShiftPhoto.j0 k a1 a2 a3 t357 t370 true a0_0 a0_1 l0_2 t352 t353 t354 t359 t360 t361 t365 t366 t367) = some r := by rw [if_neg (show ¬ (false = true) by decide)] at H; exact H
    clear H
    have H := H1
    clear H1
    have H' := Aside0.mk H
    clear H
    have hnb50 := NB371_345.out
    have hnc50 := NB345_371.out
    have hnb51 := NB371_358.out
    have hnc51 := NB358_371.out
    have hnb52 := NB371_364.out
    have hnc52 := NB364_371.out
    have hcz53_0 : w34.cell? ⟨gb371, 0, none⟩ = some (.int .i64 0) := (blk_cell BK371.out 0).trans rfl
    have hcz53_1 : w34.cell? ⟨gb371, 1, none⟩ = some (.int .i64 0) := (blk_cell BK371.out 1).trans rfl
    have hcz53_2 : w34.cell? ⟨gb371, 2, none⟩ = some (.slice none 0 0) := (blk_cell BK371.out 2).trans rfl
    have hfz53_0 := blk_frozen BK371.out 0
    have hfz53_1 := blk_frozen BK371.out 1
    have hfz53_2 := blk_frozen BK371.out 2
    have hnb54 := NB358_345.out
    have hnc54 := NB345_358.out
    have hnb55 := NB358_364.out
    have hnc55 := NB364_358.out
    have hcz56_0 : w34.cell? ⟨gb358, 0, none⟩ = some (.int .i64 t352) := (blk_cell BK358.out 0).trans rfl
    have hcz56_1 : w34.cell? ⟨gb358, 1, none⟩ = some (.int .i64 t353) := (blk_cell BK358.out 1).trans rfl
    have hcz56_2 : w34.cell? ⟨gb358, 2, none⟩ = some (.slice Ao25 t354.length co25) := (blk_cell BK358.out 2).trans rfl
    have hfz56_0 := blk_frozen BK358.out 0
    have hfz56_1 := blk_frozen BK358.out 1
    have hfz56_2 := blk_frozen BK358.out 2
    go_wp2_with (first | ((with_reducible refine gate_callee (f := 17) rfl ?_); refine goesL_ (some 46) rfl rfl Try.func17 (by kernel_rfl) rfl #[.agg #[.int .i64 t365, .int .i64 t366, .slice Ao39 t367.length co39], .agg #[.int .i64 t352, .int .i64 t353, .slice Ao25 t354.length co25]] rfl (by (try simp only [List.map_toArray, List.map_cons, List.map_nil]); first | done | rfl | (simp only [List.length_drop, List.length_take]; rfl)) ?_; (with_reducible refine (laws_eqChart.calls k t365 t366 _ _ t367 t352 t353 _ _ t354 false _ ?side1 ?side2 ?side3 ?side4 A40.out).mono ?_); (case side1 => refine (Kd.R_reads' (e := 3) (base := w.heap.size) (ok := fun k_ => (((True ∧ some k_ ≠ (.slice Ao20 t349.length co20 : Value).ownBlock) ∧ some k_ ≠ (.slice Ao25 t354.length co25 : Value).ownBlock) ∧ some k_ ≠ (.slice Ao32 t361.length co32 : Value).ownBlock)) (n := t367.length) (c := co39) ?_).2.2; exact (by (with_reducible repeat (first | apply Kd.R_alloc | apply Kd.R_drewN | apply Kd.R_drew)); exact (Kd.R_mono (Kd.R_far (p := ⟨gb371, 2, none⟩) (Kd.R_far (p := ⟨gb371, 1, none⟩) (Kd.R_far (p := ⟨gb371, 0, none⟩) (Kd.R_types HO369.out BK371.out (by decide)) (fun _ hk => hk.2) (.int .i64 t365)) (fun _ hk => hk.2) (.int .i64 t366)) (fun _ hk => hk.2) (.slice Ao39 t367.length co39)) (fun _ h_ => h_.1)))); (case side2 => exact (Kd.R_reads' HO369.out).2.1); (case side3 => refine (Kd.R_reads' (e := 3) (base := w.heap.size) (ok := fun k_ => (((True ∧ some k_ ≠ (.slice Ao20 t349.length co20 : Value).ownBlock) ∧ some k_ ≠ (.slice Ao32 t361.length co32 : Value).ownBlock) ∧ some k_ ≠ (.slice Ao39 t367.length co39 : Value).ownBlock)) (n := t354.length) (c := co25) ?_).2.2; exact (by (with_reducible repeat (first | apply Kd.R_alloc | apply Kd.R_drewN | apply Kd.R_drew)); exact (Kd.R_mono (Kd.R_far (p := ⟨gb371, 2, none⟩) (Kd.R_far (p := ⟨gb371, 1, none⟩) (Kd.R_far (p := ⟨gb371, 0, none⟩) (Kd.R_types HO356.out BK371.out (by decide)) (fun _ hk => hk.2) (.int .i64 t365)) (fun _ hk => hk.2) (.int .i64 t366)) (fun _ hk => hk.2) (.slice Ao39 t367.length co39)) (fun _ h_ => h_.1)))); (case side4 => exact (Kd.R_reads' HO356.out).2.1); rintro e w57 ⟨rfl, hb⟩; refine ⟨_, rfl, ?_⟩; have n0_ := Aside0.mk (Kd.R_below (by (with_reducible repeat (first | apply Kd.R_alloc | apply Kd.R_drewN | apply Kd.R_drew)); exact (Kd.R_mono (Kd.R_far (p := ⟨gb371, 2, none⟩) (Kd.R_far (p := ⟨gb371, 1, none⟩) (Kd.R_far (p := ⟨gb371, 0, none⟩) (Kd.R_types HO351.out BK371.out (by decide)) (fun _ hk => hk.2) (.int .i64 t365)) (fun _ hk => hk.2) (.int .i64 t366)) (fun _ hk => hk.2) (.slice Ao39 t367.length co39)) (fun _ h_ => h_.1))) hb); have n1_ := Aside0.mk (Kd.R_below (by (with_reducible repeat (first | apply Kd.R_alloc | apply Kd.R_drewN | apply Kd.R_drew)); exact (Kd.R_mono (Kd.R_far (p := ⟨gb371, 2, none⟩) (Kd.R_far (p := ⟨gb371, 1, none⟩) (Kd.R_far (p := ⟨gb371, 0, none⟩) (Kd.R_types HO356.out BK371.out (by decide)) (fun _ hk => hk.2) (.int .i64 t365)) (fun _ hk => hk.2) (.int .i64 t366)) (fun _ hk => hk.2) (.slice Ao39 t367.length co39)) (fun _ h_ => h_.1))) hb); have n2_ := Aside0.mk (Kd.R_below (by (with_reducible repeat (first | apply Kd.R_alloc | apply Kd.R_drewN | apply Kd.R_drew)); exact (Kd.R_mono (Kd.R_far (p := ⟨gb371, 2, none⟩) (Kd.R_far (p := ⟨gb371, 1, none⟩) (Kd.R_far (p := ⟨gb371, 0, none⟩) (Kd.R_types HO363.out BK371.out (by decide)) (fun _ hk => hk.2) (.int .i64 t365)) (fun _ hk => hk.2) (.int .i64 t366)) (fun _ hk => hk.2) (.slice Ao39 t367.length co39)) (fun _ h_ => h_.1))) hb); have n3_ := Aside0.mk (Kd.R_below (by (with_reducible repeat (first | apply Kd.R_alloc | apply Kd.R_drewN | apply Kd.R_drew)); exact (Kd.R_mono (Kd.R_far (p := ⟨gb371, 2, none⟩) (Kd.R_far (p := ⟨gb371, 1, none⟩) (Kd.R_far (p := ⟨gb371, 0, none⟩) (Kd.R_types HO369.out BK371.out (by decide)) (fun _ hk => hk.2) (.int .i64 t365)) (fun _ hk => hk.2) (.int .i64 t366)) (fun _ hk => hk.2) (.slice Ao39 t367.length co39)) (fun _ h_ => h_.1))) hb); have n4_ := Aside0.mk (blk_below (g := gb345) (o := .cells #[.int .i64 a0_0, .int .i64 a0_1, .slice A0_2 l0_2.length c0_2] 24 (0, 0)) (by (with_reducible repeat (first | refine blk_drewN ?_ _ | refine blk_drew ?_ | refine blk_alloc ?_ _)); refine blk_far ?_ NB345_371.out _; (with_reducible repeat (first | refine blk_drewN ?_ _ | refine blk_drew ?_ | refine blk_alloc ?_ _)); refine blk_far ?_ NB345_371.out _; (with_reducible repeat (first | refine blk_drewN ?_ _ | refine blk_drew ?_ | refine blk_alloc ?_ _)); refine blk_far ?_ NB345_371.out _; (with_reducible repeat (first | refine blk_drewN ?_ _ | refine blk_drew ?_ | refine blk_alloc ?_ _)); exact BK345.out) hb); have n5_ := Aside0.mk (blk_below (g := gb358) (o := .cells #[.int .i64 t352, .int .i64 t353, .slice Ao25 t354.length co25] 28 (0, 0)) (by (with_reducible repeat (first | refine blk_drewN ?_ _ | refine blk_drew ?_ | refine blk_alloc ?_ _)); refine blk_far ?_ NB358_371.out _; (with_reducible repeat (first | refine blk_drewN ?_ _ | refine blk_drew ?_ | refine blk_alloc ?_ _)); refine blk_far ?_ NB358_371.out _; (with_reducible repeat (first | refine blk_drewN ?_ _ | refine blk_drew ?_ | refine blk_alloc ?_ _)); refine blk_far ?_ NB358_371.out _; (with_reducible repeat (first | refine blk_drewN ?_ _ | refine blk_drew ?_ | refine blk_alloc ?_ _)); exact BK358.out) hb); have n6_ := Aside0.mk (blk_below (g := gb364) (o := .cells #[.int .i64 t359, .int .i64 t360, .slice Ao32 t361.length co32] 28 (0, 0)) (by (with_reducible repeat (first | refine blk_drewN ?_ _ | refine blk_drew ?_ | refine blk_alloc ?_ _)); refine blk_far ?_ NB364_371.out _; (with_reducible repeat (first | refine blk_drewN ?_ _ | refine blk_drew ?_ | refine blk_alloc ?_ _)); refine blk_far ?_ NB364_371.out _; (with_reducible repeat (first | refine blk_drewN ?_ _ | refine blk_drew ?_ | refine blk_alloc ?_ _)); refine blk_far ?_ NB364_371.out _; (with_reducible repeat (first | refine blk_drewN ?_ _ | refine blk_drew ?_ | refine blk_alloc ?_ _)); exact BK364.out) hb); have n7_ := Aside0.mk (blk_below (g := gb371) (o := .cells #[.int .i64 t365, .int .i64 t366, .slice Ao39 t367.length co39] 28 (0, 0)) (by (with_reducible repeat (first | refine blk_drewN ?_ _ | refine blk_drew ?_ | refine blk_alloc ?_ _)); refine blk_put (cs := #[.int .i64 t365, .int .i64 t366, .slice none 0 0]) ?_ 2 _ rfl; (with_reducible repeat (first | refine blk_drewN ?_ _ | refine blk_drew ?_ | refine blk_alloc ?_ _)); refine blk_put (cs := #[.int .i64 t365, .int .i64 0, .slice none 0 0]) ?_ 1 _ rfl; (with_reducible repeat (first | refine blk_drewN ?_ _ | refine blk_drew ?_ | refine blk_alloc ?_ _)); refine blk_put (cs := #[.int .i64 0, .int .i64 0, .slice none 0 0]) ?_ 0 _ rfl; (with_reducible repeat (first | refine blk_drewN ?_ _ | refine blk_drew ?_ | refine blk_alloc ?_ _)); exact BK371.out) hb); have n8_ := Aside0.mk (below_step (by repeat (first | (with_reducible first | exact HB.out | apply below_alloc | apply pw_below_drewN | apply below_drew1 | refine below_set ?_ GE345.out | refine below_set ?_ GE358.out | refine below_set ?_ GE364.out | refine below_set ?_ GE371.out) | exact HB.out)) hb); clear HO351; clear HO356; clear HO363; clear HO369; clear BK345; clear BK358; clear BK364; clear BK371; clear HB; have HO351 := n0_; have HO356 := n1_; have HO363 := n2_; have HO369 := n3_; have BK345 := n4_; have BK358 := n5_; have BK364 := n6_; have BK371 := n7_; have HB := n8_; clear n0_ n1_ n2_ n3_ n4_ n5_ n6_ n7_ n8_; (try clear hb); (try clear hb2); (try clear hk); (try clear hi)))
    go_meet
    case rel => exact ⟨_, (true), (by first | rfl | (simp; done) | (simp [*]; done)), H', ⟨by first | omega | exact Nat.le_refl _⟩, ⟨by (with_reducible repeat (first | apply Kd.R_alloc | apply Kd.R_drewN | apply Kd.R_drew)); exact Kd.R_mono HO356.out (fun _ hk => ⟨hk.1.2, hk.2⟩)⟩, ⟨by (with_reducible repeat (first | apply Kd.R_alloc | apply Kd.R_drewN | apply Kd.R_drew)); exact Kd.R_mono HO363.out (fun _ hk => ⟨hk.1.2, hk.2⟩)⟩, ⟨by (with_reducible repeat (first | apply Kd.R_alloc | apply Kd.R_drewN | apply Kd.R_drew)); exact Kd.R_mono HO369.out (fun _ hk => ⟨hk.1.2, hk.2⟩)⟩, ⟨by (with_reducible repeat (first | refine blk_drewN ?_ _ | refine blk_drew ?_ | refine blk_alloc ?_ _)); exact BK345.out⟩, ⟨by (with_reducible repeat (first | refine blk_drewN ?_ _ | refine blk_drew ?_ | refine blk_alloc ?_ _)); exact BK358.out⟩, ⟨by (with_reducible repeat (first | refine blk_drewN ?_ _ | refine blk_drew ?_ | refine blk_alloc ?_ _)); exact BK364.out⟩, ⟨by (with_reducible repeat (first | refine blk_drewN ?_ _ | refine blk_drew ?_ | refine blk_alloc ?_ _)); exact BK371.out⟩, ⟨by repeat (first | (with_reducible first | exact HB.out | apply below_alloc | apply pw_below_drewN | apply below_drew1 | refine below_set ?_ GE345.out | refine below_set ?_ GE358.out | refine below_set ?_ GE364.out | refine below_set ?_ GE371.out) | exact HB.out)⟩⟩
  case rest =>
   clear HC14
   try clear c1
   try clear c2
   try clear p2
   try clear c3
   try clear c4
   try clear c5
   try clear c6
   try clear c6b0
   try clear c13
   try clear c15
   try clear c17
   try clear c22
   try clear c23
   try clear c29
   try clear c30
   try clear c35
   try clear c36
   try clear c37
   try clear c41
   try clear c42
   try clear c43
   try clear c44
   try clear c46
   try clear c47
   try clear c50
   try clear c51
   try clear c52
   try clear c54
   try clear c55
   try clear hcz16_0
   try clear hcz16_1
   try clear hcz16_2
   try clear hcz18_0
   try clear hcz18_1
   try clear hcz18_2
   try clear hcz24_0
   try clear hcz24_1
   try clear hcz24_2
   try clear hcz26_0
   try clear hcz26_1
   try clear hcz26_2
   try clear hcz31_0
   try clear hcz31_1
   try clear hcz31_2
   try clear hcz38_0
   try clear hcz38_1
   try clear hcz38_2
   try clear hcz45_0
   try clear hcz45_1
   try clear hcz45_2
   try clear hcz48_0
   try clear hcz48_1
   try clear hcz48_2
   try clear hcz53_0
   try clear hcz53_1
   try clear hcz53_2
   try clear hcz56_0
   try clear hcz56_1
   try clear hcz56_2
   try clear hcz8_0
   try clear hcz8_1
   try clear hcz8_2
   try clear hfz16_0
   try clear hfz16_1
   try clear hfz16_2
   try clear hfz18_0
   try clear hfz18_1
   try clear hfz18_2
   try clear hfz24_0
   try clear hfz24_1
   try clear hfz24_2
   try clear hfz26_0
   try clear hfz26_1
   try clear hfz26_2
   try clear hfz31_0
   try clear hfz31_1
   try clear hfz31_2
   try clear hfz38_0
   try clear hfz38_1
   try clear hfz38_2
   try clear hfz45_0
   try clear hfz45_1
   try clear hfz45_2
   try clear hfz48_0
   try clear hfz48_1
   try clear hfz48_2
   try clear hfz53_0
   try clear hfz53_1
   try clear hfz53_2
   try clear hfz56_0
   try clear hfz56_1
   try clear hfz56_2
   try clear hfz8_0
   try clear hfz8_1
   try clear hfz8_2
   obtain ⟨kq, x52_13, rfl, HA, HJ13, HO_359002, HO_365002, HO_372002, BK345, BK358, BK364, BK371, HB⟩ := hcut
   cases kq with
   | zero => exact absurd HA.out (by simp [laws_FnExactShiftPhoto.j0])
   | succ kj13 =>
    have H := HA.out
    clear HA
    simp only [laws_FnExactShiftPhoto.j0] at H
    by_cases c58 : x52_13 = true
    ·subst c58
     have H1 : (none) = some r := by rw [if_pos rfl] at H; exact H
     clear H
     have H := H1
     clear H1
     exact absurd H (by simp)
    ·replace c58 := Bool.eq_false_iff.mpr c58
     subst c58
     have H1 : ((laws_toChart.f kj13 a0_0 a0_1 l0_2).bind fun bt373 => ((laws_eqChart.f kj13 t359 t360 t361 bt373.1 bt373.2.1 bt373.2.2).bind fun t378 => (if t378 = true then ((laws_markChart.f kj13 t359 t360 t361 1).bind fun bt379 => (if bt379.1 < 0 then (laws_FnExactShiftPhoto.j1 kj13 a1 a2 a3 t357 true a0_0 a0_1 l0_2 t352 t353 t354 t365 t366 t367) else ((laws_eqChart.f kj13 t365 t366 t367 t352 t353 t354).bind fun t381 => (if t381 = true then (laws_FnExactShiftPhoto.j1 kj13 a1 a2 a3 t357 (t370 != t357) a0_0 a0_1 l0_2 t352 t353 t354 t365 t366 t367) else (laws_FnExactShiftPhoto.j1 kj13 a1 a2 a3 t357 true a0_0 a0_1 l0_2 t352 t353 t354 t365 t366 t367))))) else (none)))) = some r := by rw [if_neg (show ¬ (false = true) by decide)] at H; exact H
     clear H
     have H := H1
     clear H1
     replace H := Option.bind_eq_some_iff.mp H
     obtain ⟨⟨t373, t374, t375⟩, A590, H⟩ := H
     replace H : ((laws_eqChart.f kj13 t359 t360 t361 t373 t374 t375).bind fun t378 => (if t378 = true then ((laws_markChart.f kj13 t359 t360 t361 1).bind fun bt379 => (if bt379.1 < 0 then (laws_FnExactShiftPhoto.j1 kj13 a1 a2 a3 t357 true a0_0 a0_1 l0_2 t352 t353 t354 t365 t366 t367) else ((laws_eqChart.f kj13 t365 t366 t367 t352 t353 t354).bind fun t381 => (if t381 = true then (laws_FnExactShiftPhoto.j1 kj13 a1 a2 a3 t357 (t370 != t357) a0_0 a0_1 l0_2 t352 t353 t354 t365 t366 t367) else (laws_FnExactShiftPhoto.j1 kj13 a1 a2 a3 t357 true a0_0 a0_1 l0_2 t352 t353 t354 t365 t366 t367))))) else (none))) = some r := H
     have A59 := Aside0.mk A590
     clear A590
     replace H := Option.bind_eq_some_iff.mp H
     obtain ⟨t378, A600, H⟩ := H
     replace H : (if t378 = true then ((laws_markChart.f kj13 t359 t360 t361 1).bind fun bt379 => (if bt379.1 < 0 then (laws_FnExactShiftPhoto.j1 kj13 a1 a2 a3 t357 true a0_0 a0_1 l0_2 t352 t353 t354 t365 t366 t367) else ((laws_eqChart.f kj13 t365 t366 t367 t352 t353 t354).bind fun t381 => (if t381 = true then (laws_FnExactShiftPhoto.j1 kj13 a1 a2 a3 t357 (t370 != t357) a0_0 a0_1 l0_2 t352 t353 t354 t365 t366 t367) else (laws_FnExactShiftPhoto.j1 kj13 a1 a2 a3 t357 true a0_0 a0_1 l0_2 t352 t353 t354 t365 t366 t367))))) else (none)) = some r := H
     have A60 := Aside0.mk A600
     clear A600
     by_cases c61 : t378 = true
     ·subst c61
      have H1 : ((laws_markChart.f kj13 t359 t360 t361 1).bind fun bt379 => (if bt379.1 < 0 then (laws_FnExactShiftPhoto.j1 kj13 a1 a2 a3 t357 true a0_0 a0_1 l0_2 t352 t353 t354 t365 t366 t367) else ((laws_eqChart.f kj13 t365 t366 t367 t352 t353 t354).bind fun t381 => (if t381 = true then (laws_FnExactShiftPhoto.j1 kj13 a1 a2 a3 t357 (t370 != t357) a0_0 a0_1 l0_2 t352 t353 t354 t365 t366 t367) else (laws_FnExactShiftPhoto.j1 kj13 a1 a2 a3 t357 true a0_0 a0_1 l0_2 t352 t353 t354 t365 t366 t367))))) = some r := by rw [if_pos rfl] at H; exact H
      clear H
      have H := H1
      clear H1
      replace H := Option.bind_eq_some_iff.mp H
      obtain ⟨⟨t379, t380⟩, A620, H⟩ := H
      replace H : (if t379 < 0 then (laws_FnExactShiftPhoto.j1 kj13 a1 a2 a3 t357 true a0_0 a0_1 l0_2 t352 t353 t354 t365 t366 t367) else ((laws_eqChart.f kj13 t365 t366 t367 t352 t353 t354).bind fun t381 => (if t381 = true then (laws_FnExactShiftPhoto.j1 kj13 a1 a2 a3 t357 (t370 != t357) a0_0 a0_1 l0_2 t352 t353 t354 t365 t366 t367) else (laws_FnExactShiftPhoto.j1 kj13 a1 a2 a3 t357 true a0_0 a0_1 l0_2 t352 t353 t354 t365 t366 t367)))) = some r := H
      have A62 := Aside0.mk A620
      clear A620
      have HC63 := Aside0.mk H
      clear H
      try go_wp2
      have n0_ := Aside0.mk (Kd.R_drew HO_359002.out)
      have n1_ := Aside0.mk (Kd.R_drew HO_365002.out)
      have n2_ := Aside0.mk (Kd.R_drew HO_372002.out)
      have n3_ := Aside0.mk (blk_drew BK345.out)
      have n4_ := Aside0.mk (blk_drew BK358.out)
      have n5_ := Aside0.mk (blk_drew BK364.out)
      have n6_ := Aside0.mk (blk_drew BK371.out)
      have n7_ := Aside0.mk (below_drew1 HB.out)
      clear HO_359002
      clear HO_365002
      clear HO_372002
      clear BK345
      clear BK358
      clear BK364
      clear BK371
      clear HB
      have HO_359002 := n0_
      have HO_365002 := n1_
      have HO_372002 := n2_
      have BK345 := n3_
      have BK358 := n4_
      have BK364 := n5_
      have BK371 := n6_
      have HB := n7_
      clear n0_ n1_ n2_ n3_ n4_ n5_ n6_ n7_
      refine start_ (n := 5) (S := fun w' => w'.cell? ⟨gb364, 0, none⟩ = some (.int .i64 t359) ∧ w'.cell? ⟨gb364, 1, none⟩ = some (.int .i64 t360) ∧ w'.cell? ⟨gb364, 2, none⟩ = some (.slice Ao32 t361.length co32) ∧ w'.cell? ⟨gb345, 0, none⟩ = some (.int .i64 a0_0) ∧ w'.cell? ⟨gb345, 1, none⟩ = some (.int .i64 a0_1) ∧ w'.cell? ⟨gb345, 2, none⟩ = some (.slice A0_2 l0_2.length c0_2)) (ds := []) #[false, false, false, false, false] (by kernel_rfl) rfl rfl ⟨(blk_cell BK364.out 0).trans rfl, (blk_cell BK364.out 1).trans rfl, (blk_cell BK364.out 2).trans rfl, (blk_cell BK345.out 0).trans rfl, (blk_cell BK345.out 1).trans rfl, (blk_cell BK345.out 2).trans rfl⟩ (fun hHeld => ?_)
      generalize wc.drew = w64 at HO_359002 HO_365002 HO_372002 BK345 BK358 BK364 BK371 HB hHeld ⊢
      refine take_ (i := 0) (N := some 53) (v := ?_) (a' := ?_) #[true, false, false, false, false] rfl rfl (by kernel_rfl) (fun _ _ _ h => h) (Or.inl ⟨by rfl, ?_⟩) hHeld ?_ ?_
      rotate_left
      ·rintro w' ⟨s0, s1, s2, s3, s4, s5⟩
       go_simp
       with_reducible rfl
      rotate_left
      ·simp only [Act.put, List.setIfInBounds_toArray, List.set_cons_zero, List.set_cons_succ, i64_w, i32_w]
       rfl
      refine take_ (i := 1) (N := some 54) (v := ?_) (a' := ?_) #[true, true, false, false, false] rfl rfl (by kernel_rfl) (fun _ _ _ h => h) (Or.inl ⟨by rfl, ?_⟩) hHeld ?_ ?_
      rotate_left
      ·rintro w' ⟨s0, s1, s2, s3, s4, s5⟩
       go_simp
       with_reducible rfl
      rotate_left
      ·simp only [Act.put, List.setIfInBounds_toArray, List.set_cons_zero, List.set_cons_succ, i64_w, i32_w]
       rfl
      refine one_ (i := 2) (N := some 55) #[true, true, true, false, false] rfl rfl (by kernel_rfl) (by decide) (fun K hK => ?_)
      refine goes_ Try.func15 (by kernel_rfl) rfl #[.agg #[.int .i64 a0_0, .int .i64 a0_1, .slice A0_2 l0_2.length c0_2]] (by rfl) rfl rfl (by (try simp only [List.map_toArray, List.map_cons, List.map_nil]); first | done | rfl | (simp only [List.length_drop, List.length_take]; rfl)) ?_
      with_reducible refine (laws_toChart.calls kj13 a0_0 a0_1 _ _ l0_2 t373 t374 t375 _ ?side1 ?side2 A59.out).mono ?_
      (case side1 => repeat (first | exact (Kd.C_below HR0_2.out HB.out) | (with_reducible refine Kd.C_alloc ?_ _) | (with_reducible refine Kd.C_drewN ?_ _) | (with_reducible refine Kd.C_drew ?_)))
      (case side2 => exact HC0_2.out)
      rintro e w65 ⟨v376, rfl, ho0, hb⟩
      refine ⟨_, rfl, ?_⟩
      have n0_ := Aside0.mk (Kd.R_elder' (by (with_reducible repeat (first | apply Kd.R_alloc | apply Kd.R_drewN | apply Kd.R_drew)); exact HO_359002.out) (Kd.R_base ho0) hb)
      have n1_ := Aside0.mk (Kd.R_elder' (by (with_reducible repeat (first | apply Kd.R_alloc | apply Kd.R_drewN | apply Kd.R_drew)); exact HO_365002.out) (Kd.R_base ho0) hb)
      have n2_ := Aside0.mk (Kd.R_elder' (by (with_reducible repeat (first | apply Kd.R_alloc | apply Kd.R_drewN | apply Kd.R_drew)); exact HO_372002.out) (Kd.R_base ho0) hb)
      have n3_ := Aside0.mk (Kd.R_lower (Kd.R_new' (Kd.R_new' (Kd.R_new' ho0 (Kd.R_lt (by (with_reducible repeat (first | apply Kd.R_alloc | apply Kd.R_drewN | apply Kd.R_drew)); exact HO_359002.out))) (Kd.R_lt (by (with_reducible repeat (first | apply Kd.R_alloc | apply Kd.R_drewN | apply Kd.R_drew)); exact HO_365002.out))) (Kd.R_lt (by (with_reducible repeat (first | apply Kd.R_alloc | apply Kd.R_drewN | apply Kd.R_drew)); exact HO_372002.out))) (below_size (by repeat (first | (with_reducible first | exact HB.out | apply below_alloc | apply pw_below_drewN | apply below_drew1 | refine below_set ?_ GE345.out | refine below_set ?_ GE358.out | refine below_set ?_ GE364.out | refine below_set ?_ GE371.out) | exact HB.out))))
      have n4_ := Aside0.mk (blk_below (g := gb345) (o := .cells #[.int .i64 a0_0, .int .i64 a0_1, .slice A0_2 l0_2.length c0_2] 24 (0, 0)) (by (with_reducible repeat (first | refine blk_drewN ?_ _ | refine blk_drew ?_ | refine blk_alloc ?_ _)); exact BK345.out) hb)
      have n5_ := Aside0.mk (blk_below (g := gb358) (o := .cells #[.int .i64 t352, .int .i64 t353, .slice Ao25 t354.length co25] 28 (0, 0)) (by (with_reducible repeat (first | refine blk_drewN ?_ _ | refine blk_drew ?_ | refine blk_alloc ?_ _)); exact BK358.out) hb)
      have n6_ := Aside0.mk (blk_below (g := gb364) (o := .cells #[.int .i64 t359, .int .i64 t360, .slice Ao32 t361.length co32] 28 (0, 0)) (by (with_reducible repeat (first | refine blk_drewN ?_ _ | refine blk_drew ?_ | refine blk_alloc ?_ _)); exact BK364.out) hb)
      have n7_ := Aside0.mk (blk_below (g := gb371) (o := .cells #[.int .i64 t365, .int .i64 t366, .slice Ao39 t367.length co39] 28 (0, 0)) (by (with_reducible repeat (first | refine blk_drewN ?_ _ | refine blk_drew ?_ | refine blk_alloc ?_ _)); exact BK371.out) hb)
      have n8_ := Aside0.mk (below_step (by repeat (first | (with_reducible first | exact HB.out | apply below_alloc | apply pw_below_drewN | apply below_drew1 | refine below_set ?_ GE345.out | refine below_set ?_ GE358.out | refine below_set ?_ GE364.out | refine below_set ?_ GE371.out) | exact HB.out)) hb)
      clear HO_359002
      clear HO_365002
      clear HO_372002
      clear BK345
      clear BK358
      clear BK364
      clear BK371
      clear HB
      have HO_359002 := n0_
      have HO_365002 := n1_
      have HO_372002 := n2_
      have HO377 := n3_
      have BK345 := n4_
      have BK358 := n5_
      have BK364 := n6_
      have BK371 := n7_
      have HB := n8_
      clear n0_ n1_ n2_ n3_ n4_ n5_ n6_ n7_ n8_
      (try clear hb)
      (try clear hb2)
      (try clear hk)
      (try clear hi)
      (try clear ho0)
      obtain ⟨Ao66, co66, eo66⟩ := Kd.R_slice HO377.out
      (first | subst eo66 | (injection eo66 with f1_ f2_ f3_; have f4_ := f1_.symm; have f5_ := f3_.symm; clear f1_ f2_ f3_; subst f4_; subst f5_))
      refine hK.out _ _ ⟨(blk_cell BK364.out 0).trans rfl, (blk_cell BK364.out 1).trans rfl, (blk_cell BK364.out 2).trans rfl, (blk_cell BK345.out 0).trans rfl, (blk_cell BK345.out 1).trans rfl, (blk_cell BK345.out 2).trans rfl⟩ (fun hHeld => ?_)
      clear hK K
      refine norm_ (a' := ?_) ?_ ?_
      rotate_left
      ·show Act.put _ (some 55) _ = _
       simp only [Act.put, List.setIfInBounds_toArray, List.set_cons_zero, List.set_cons_succ, i64_w, i32_w]
       rfl
      refine one_ (i := 3) (N := some 56) #[true, true, true, true, false] rfl rfl (by kernel_rfl) (by decide) (fun K hK => ?_)
      refine goes_ Try.func17 (by kernel_rfl) rfl #[.agg #[.int .i64 t359, .int .i64 t360, .slice Ao32 t361.length co32], .agg #[.int .i64 t373, .int .i64 t374, .slice Ao66 t375.length co66]] (by rfl) rfl rfl (by (try simp only [List.map_toArray, List.map_cons, List.map_nil]); first | done | rfl | (simp only [List.length_drop, List.length_take]; rfl)) ?_
      with_reducible refine (laws_eqChart.calls kj13 t359 t360 _ _ t361 t373 t374 _ _ t375 true _ ?side1 ?side2 ?side3 ?side4 A60.out).mono ?_
      (case side1 => repeat (first | exact (Kd.R_reads' HO_365002.out).2.2 | (with_reducible refine Kd.C_alloc ?_ _) | (with_reducible refine Kd.C_drewN ?_ _) | (with_reducible refine Kd.C_drew ?_)))
      (case side2 => exact (Kd.R_reads' HO_365002.out).2.1)
      (case side3 => repeat (first | exact (Kd.R_reads' HO377.out).2.2 | (with_reducible refine Kd.C_alloc ?_ _) | (with_reducible refine Kd.C_drewN ?_ _) | (with_reducible refine Kd.C_drew ?_)))
      (case side4 => exact (Kd.R_reads' HO377.out).2.1)
      rintro e w67 ⟨rfl, hb⟩
      refine ⟨_, rfl, ?_⟩
      have n0_ := Aside0.mk (Kd.R_below (by (with_reducible repeat (first | apply Kd.R_alloc | apply Kd.R_drewN | apply Kd.R_drew)); exact HO_359002.out) hb)
      have n1_ := Aside0.mk (Kd.R_below (by (with_reducible repeat (first | apply Kd.R_alloc | apply Kd.R_drewN | apply Kd.R_drew)); exact HO_365002.out) hb)
      have n2_ := Aside0.mk (Kd.R_below (by (with_reducible repeat (first | apply Kd.R_alloc | apply Kd.R_drewN | apply Kd.R_drew)); exact HO_372002.out) hb)
      have n3_ := Aside0.mk (Kd.R_below (by (with_reducible repeat (first | apply Kd.R_alloc | apply Kd.R_drewN | apply Kd.R_drew)); exact HO377.out) hb)
      have n4_ := Aside0.mk (blk_below (g := gb345) (o := .cells #[.int .i64 a0_0, .int .i64 a0_1, .slice A0_2 l0_2.length c0_2] 24 (0, 0)) (by (with_reducible repeat (first | refine blk_drewN ?_ _ | refine blk_drew ?_ | refine blk_alloc ?_ _)); exact BK345.out) hb)
      have n5_ := Aside0.mk (blk_below (g := gb358) (o := .cells #[.int .i64 t352, .int .i64 t353, .slice Ao25 t354.length co25] 28 (0, 0)) (by (with_reducible repeat (first | refine blk_drewN ?_ _ | refine blk_drew ?_ | refine blk_alloc ?_ _)); exact BK358.out) hb)
      have n6_ := Aside0.mk (blk_below (g := gb364) (o := .cells #[.int .i64 t359, .int .i64 t360, .slice Ao32 t361.length co32] 28 (0, 0)) (by (with_reducible repeat (first | refine blk_drewN ?_ _ | refine blk_drew ?_ | refine blk_alloc ?_ _)); exact BK364.out) hb)
      have n7_ := Aside0.mk (blk_below (g := gb371) (o := .cells #[.int .i64 t365, .int .i64 t366, .slice Ao39 t367.length co39] 28 (0, 0)) (by (with_reducible repeat (first | refine blk_drewN ?_ _ | refine blk_drew ?_ | refine blk_alloc ?_ _)); exact BK371.out) hb)
      have n8_ := Aside0.mk (below_step (by repeat (first | (with_reducible first | exact HB.out | apply below_alloc | apply pw_below_drewN | apply below_drew1 | refine below_set ?_ GE345.out | refine below_set ?_ GE358.out | refine below_set ?_ GE364.out | refine below_set ?_ GE371.out) | exact HB.out)) hb)
      clear HO_359002
      clear HO_365002
      clear HO_372002
      clear HO377
      clear BK345
      clear BK358
      clear BK364
      clear BK371
      clear HB
      have HO_359002 := n0_
      have HO_365002 := n1_
      have HO_372002 := n2_
      have HO377 := n3_
      have BK345 := n4_
      have BK358 := n5_
      have BK364 := n6_
      have BK371 := n7_
      have HB := n8_
      clear n0_ n1_ n2_ n3_ n4_ n5_ n6_ n7_ n8_
      (try clear hb)
      (try clear hb2)
      (try clear hk)
      (try clear hi)
      refine hK.out _ _ ⟨(blk_cell BK364.out 0).trans rfl, (blk_cell BK364.out 1).trans rfl, (blk_cell BK364.out 2).trans rfl, (blk_cell BK345.out 0).trans rfl, (blk_cell BK345.out 1).trans rfl, (blk_cell BK345.out 2).trans rfl⟩ (fun hHeld => ?_)
      clear hK K
      refine norm_ (a' := ?_) ?_ ?_
      rotate_left
      ·show Act.put _ (some 56) _ = _
       simp only [Act.put, List.setIfInBounds_toArray, List.set_cons_zero, List.set_cons_succ, i64_w, i32_w]
       rfl
      refine pure_ (i := 4) (N := some 57) (v := ?_) (a' := ?_) #[true, true, true, true, true] rfl rfl (by kernel_rfl) (fun _ _ _ h => h) (Or.inl ⟨by rfl, ?_⟩) ?_ ?_
      rotate_left
      ·intro w'
       go_simp
       with_reducible rfl
      rotate_left
      ·simp only [Act.put, List.setIfInBounds_toArray, List.set_cons_zero, List.set_cons_succ, i64_w, i32_w]
       rfl
      refine done_ (by kernel_rfl) ?_
      have hnb68 := NB364_345.out
      have hnc68 := NB345_364.out
      have hnb69 := NB364_358.out
      have hnc69 := NB358_364.out
      have hnb70 := NB364_371.out
      have hnc70 := NB371_364.out
      have hcz71_0 : w67.cell? ⟨gb364, 0, none⟩ = some (.int .i64 t359) := (blk_cell BK364.out 0).trans rfl
      have hcz71_1 : w67.cell? ⟨gb364, 1, none⟩ = some (.int .i64 t360) := (blk_cell BK364.out 1).trans rfl
      have hcz71_2 : w67.cell? ⟨gb364, 2, none⟩ = some (.slice Ao32 t361.length co32) := (blk_cell BK364.out 2).trans rfl
      have hfz71_0 := blk_frozen BK364.out 0
      have hfz71_1 := blk_frozen BK364.out 1
      have hfz71_2 := blk_frozen BK364.out 2
      go_upto_region 14 with (first | ((with_reducible refine gate_callee (f := 20) rfl ?_); refine goesL_ (some 60) rfl rfl Try.func20 (by kernel_rfl) rfl #[.agg #[.int .i64 t359, .int .i64 t360, .slice Ao32 t361.length co32], .int .i64 1] rfl (by (try simp only [List.map_toArray, List.map_cons, List.map_nil]); first | done | rfl | (simp only [List.length_drop, List.length_take]; rfl)) ?_; (with_reducible refine (laws_markChart.calls kj13 t359 t360 (fun k_ => some k_ = (.slice Ao32 t361.length co32 : Value).ownBlock) (.slice Ao32 t361.length co32) t361 1 t379 t380 w _ ?side1 ?side2 A62.out).mono ?_); (case side1 => repeat (first | (with_reducible first | exact HB.out | apply below_alloc | apply pw_below_drewN | apply below_drew1 | refine below_set ?_ GE345.out | refine below_set ?_ GE358.out | refine below_set ?_ GE364.out | refine below_set ?_ GE371.out) | exact HB.out)); (case side2 => exact Kd.R_tight rfl HO_365002.out); rintro e w72 ⟨rfl, hy0, hb, hkp⟩; refine ⟨_, rfl, ?_⟩; have n0_ := Aside0.mk (Kd.R_mono (ok' := fun k_ => some k_ ≠ (.slice Ao32 t361.length co32 : Value).ownBlock ∧ some k_ ≠ (.slice Ao39 t367.length co39 : Value).ownBlock ∧ some k_ ≠ (.slice Ao66 t375.length co66 : Value).ownBlock) (Kd.R_keptB (HO_359002.out) hkp (fun k_ hk_ hs_ => (hk_.1.1) hs_)) (fun k_ hk_ => ⟨hk_.1.1.1, hk_.1.1.2, hk_.1.2⟩)); have n1_ := Aside0.mk (Kd.R_reok rfl hy0 (fun k_ e_ => HO_365002.out.1 k_ e_)); have n2_ := Aside0.mk (Kd.R_mono (ok' := fun k_ => some k_ ≠ (.slice Ao25 t354.length co25 : Value).ownBlock ∧ some k_ ≠ (.slice Ao32 t361.length co32 : Value).ownBlock ∧ some k_ ≠ (.slice Ao66 t375.length co66 : Value).ownBlock) (Kd.R_keptB (HO_372002.out) hkp (fun k_ hk_ hs_ => (hk_.1.2) hs_)) (fun k_ hk_ => ⟨hk_.1.1.1, hk_.1.1.2, hk_.1.2⟩)); have n3_ := Aside0.mk (blk_kept (by (with_reducible repeat (first | refine blk_drewN ?_ _ | refine blk_drew ?_ | refine blk_alloc ?_ _)); exact BK345.out) hkp (fun hs_ => (fun e_ => (Kd.R_ne HO_365002.out BK345.out (by decide)) e_) hs_)); have n4_ := Aside0.mk (blk_kept (by (with_reducible repeat (first | refine blk_drewN ?_ _ | refine blk_drew ?_ | refine blk_alloc ?_ _)); exact BK358.out) hkp (fun hs_ => (fun e_ => (Kd.R_ne HO_365002.out BK358.out (by decide)) e_) hs_)); have n5_ := Aside0.mk (blk_kept (by (with_reducible repeat (first | refine blk_drewN ?_ _ | refine blk_drew ?_ | refine blk_alloc ?_ _)); exact BK364.out) hkp (fun hs_ => (fun e_ => (Kd.R_ne HO_365002.out BK364.out (by decide)) e_) hs_)); have n6_ := Aside0.mk (blk_kept (by (with_reducible repeat (first | refine blk_drewN ?_ _ | refine blk_drew ?_ | refine blk_alloc ?_ _)); exact BK371.out) hkp (fun hs_ => (fun e_ => (Kd.R_ne HO_365002.out BK371.out (by decide)) e_) hs_)); have n7_ := Aside0.mk (Kd.R_mono (ok' := fun k_ => some k_ ≠ (.slice Ao25 t354.length co25 : Value).ownBlock ∧ some k_ ≠ (.slice Ao32 t361.length co32 : Value).ownBlock ∧ some k_ ≠ (.slice Ao39 t367.length co39 : Value).ownBlock) (Kd.R_keptB (HO377.out) hkp (fun k_ hk_ hs_ => (hk_.1.2) hs_)) (fun k_ hk_ => ⟨hk_.1.1.1.2, hk_.1.1.2, hk_.1.2⟩)); have n8_ := Aside0.mk (hb); clear HO_359002; clear HO_365002; clear HO_372002; clear BK345; clear BK358; clear BK364; clear BK371; clear HO377; clear HB; have HO_359002 := n0_; have HO_365002 := n1_; have HO_372002 := n2_; have BK345 := n3_; have BK358 := n4_; have BK364 := n5_; have BK371 := n6_; have HO377 := n7_; have HB := n8_; clear n0_ n1_ n2_ n3_ n4_ n5_ n6_ n7_ n8_; (try clear hb); (try clear hkp); (try clear hy0)))
      (try simp only [Act.put, List.setIfInBounds_toArray, List.set_cons_zero, List.set_cons_succ])
      go_cut [73] (fun v73 wc => ∃ (kq : Nat) (x73_62 : Bool), v73 = .bool x73_62 ∧ Aside0 (laws_FnExactShiftPhoto.j1 kq a1 a2 a3 t357 x73_62 a0_0 a0_1 l0_2 t352 t353 t354 t365 t366 t367 = some r) ∧ Aside0 (kq ≤ kj13) ∧ Aside0 (Kd.R (Kd.int .i64) 3 wc w.heap.size (fun k_ => some k_ ≠ ((.slice Ao32 t361.length co32) : Value).ownBlock ∧ some k_ ≠ ((.slice Ao39 t367.length co39) : Value).ownBlock) (.slice Ao25 t354.length co25) t354) ∧ Aside0 (Kd.R (Kd.int .i64) 3 wc w.heap.size (fun k_ => some k_ ≠ ((.slice Ao25 t354.length co25) : Value).ownBlock ∧ some k_ ≠ ((.slice Ao39 t367.length co39) : Value).ownBlock) (.slice Ao32 t361.length co32) t380) ∧ Aside0 (Kd.R (Kd.int .i64) 3 wc w.heap.size (fun k_ => some k_ ≠ ((.slice Ao25 t354.length co25) : Value).ownBlock ∧ some k_ ≠ ((.slice Ao32 t361.length co32) : Value).ownBlock) (.slice Ao39 t367.length co39) t367) ∧ Aside0 (wc.heap[gb345]? = some (.cells #[.int .i64 a0_0, .int .i64 a0_1, (.slice A0_2 l0_2.length c0_2)] 24 (0, 0))) ∧ Aside0 (wc.heap[gb358]? = some (.cells #[.int .i64 t352, .int .i64 t353, (.slice Ao25 t354.length co25)] 28 (0, 0))) ∧ Aside0 (wc.heap[gb364]? = some (.cells #[.int .i64 t359, .int .i64 t360, (.slice Ao32 t361.length co32)] 28 (0, 0))) ∧ Aside0 (wc.heap[gb371]? = some (.cells #[.int .i64 t365, .int .i64 t366, (.slice Ao39 t367.length co39)] 28 (0, 0))) ∧ Aside0 (Below w.heap.size w wc))
      case first =>
       have H := HC63.out
       clear HC63
       by_cases c73 : t379 < 0
       ·rw [if_pos c73] at H
        have c73b0 : decide (t379 < 0) = true := decide_eq_true c73
        clear c73
        (first | rw [c73b0] | (simp only [i64_w, i32_w]; rw [c73b0]) | skip)
        have H' := Aside0.mk H
        clear H
        go_wp2
        go_meet
        case rel => exact ⟨_, (true), (by first | rfl | (simp; done) | (simp [*]; done)), H', ⟨by have := HJ13.out; first | omega | exact Nat.le_refl _⟩, ⟨by (with_reducible repeat (first | apply Kd.R_alloc | apply Kd.R_drewN | apply Kd.R_drew)); exact Kd.R_mono HO_359002.out (fun _ hk => ⟨hk.1, hk.2.1⟩)⟩, ⟨by (with_reducible repeat (first | apply Kd.R_alloc | apply Kd.R_drewN | apply Kd.R_drew)); exact Kd.R_mono HO_365002.out (fun _ hk => ⟨hk.1.1, hk.1.2⟩)⟩, ⟨by (with_reducible repeat (first | apply Kd.R_alloc | apply Kd.R_drewN | apply Kd.R_drew)); exact Kd.R_mono HO_372002.out (fun _ hk => ⟨hk.1, hk.2.1⟩)⟩, ⟨by (with_reducible repeat (first | refine blk_drewN ?_ _ | refine blk_drew ?_ | refine blk_alloc ?_ _)); exact BK345.out⟩, ⟨by (with_reducible repeat (first | refine blk_drewN ?_ _ | refine blk_drew ?_ | refine blk_alloc ?_ _)); exact BK358.out⟩, ⟨by (with_reducible repeat (first | refine blk_drewN ?_ _ | refine blk_drew ?_ | refine blk_alloc ?_ _)); exact BK364.out⟩, ⟨by (with_reducible repeat (first | refine blk_drewN ?_ _ | refine blk_drew ?_ | refine blk_alloc ?_ _)); exact BK371.out⟩, ⟨by repeat (first | (with_reducible first | exact HB.out | apply below_alloc | apply pw_below_drewN | apply below_drew1 | refine below_set ?_ GE345.out | refine below_set ?_ GE358.out | refine below_set ?_ GE364.out | refine below_set ?_ GE371.out) | exact HB.out)⟩⟩
       ·rw [if_neg c73] at H
        have c73b0 : decide (t379 < 0) = false := decide_eq_false c73
        clear c73
        (first | rw [c73b0] | (simp only [i64_w, i32_w]; rw [c73b0]) | skip)
        replace H := Option.bind_eq_some_iff.mp H
        obtain ⟨t381, A740, H⟩ := H
        replace H : (if t381 = true then (laws_FnExactShiftPhoto.j1 kj13 a1 a2 a3 t357 (t370 != t357) a0_0 a0_1 l0_2 t352 t353 t354 t365 t366 t367) else (laws_FnExactShiftPhoto.j1 kj13 a1 a2 a3 t357 true a0_0 a0_1 l0_2 t352 t353 t354 t365 t366 t367)) = some r := H
        have A74 := Aside0.mk A740
        clear A740
        by_cases c75 : t381 = true
        ·subst c75
         have H1 : (laws_FnExactShiftPhoto.j1 kj13 a1 a2 a3 t357 (t370 != t357) a0_0 a0_1 l0_2 t352 t353 t354 t365 t366 t367) = some r := by rw [if_pos rfl] at H; exact H
         clear H
         have H := H1
         clear H1
         have H' := Aside0.mk H
         clear H
         have hnb76 := NB371_345.out
         have hnc76 := NB345_371.out
         have hnb77 := NB371_358.out
         have hnc77 := NB358_371.out
         have hnb78 := NB371_364.out
         have hnc78 := NB364_371.out
         have hcz79_0 : w72.cell? ⟨gb371, 0, none⟩ = some (.int .i64 t365) := (blk_cell BK371.out 0).trans rfl
         have hcz79_1 : w72.cell? ⟨gb371, 1, none⟩ = some (.int .i64 t366) := (blk_cell BK371.out 1).trans rfl
         have hcz79_2 : w72.cell? ⟨gb371, 2, none⟩ = some (.slice Ao39 t367.length co39) := (blk_cell BK371.out 2).trans rfl
         have hfz79_0 := blk_frozen BK371.out 0
         have hfz79_1 := blk_frozen BK371.out 1
         have hfz79_2 := blk_frozen BK371.out 2
         have hnb80 := NB358_345.out
         have hnc80 := NB345_358.out
         have hnb81 := NB358_364.out
         have hnc81 := NB364_358.out
         have hcz82_0 : w72.cell? ⟨gb358, 0, none⟩ = some (.int .i64 t352) := (blk_cell BK358.out 0).trans rfl
         have hcz82_1 : w72.cell? ⟨gb358, 1, none⟩ = some (.int .i64 t353) := (blk_cell BK358.out 1).trans rfl
         have hcz82_2 : w72.cell? ⟨gb358, 2, none⟩ = some (.slice Ao25 t354.length co25) := (blk_cell BK358.out 2).trans rfl
         have hfz82_0 := blk_frozen BK358.out 0
         have hfz82_1 := blk_frozen BK358.out 1
         have hfz82_2 := blk_frozen BK358.out 2
         go_wp2_with (first | (go_at_call 17; (with_reducible refine (laws_eqChart.calls kj13 t365 t366 _ _ t367 t352 t353 _ _ t354 true _ ?side1 ?side2 ?side3 ?side4 A74.out).mono ?_); (case side1 => repeat (first | exact (Kd.R_reads' HO_372002.out).2.2 | (with_reducible refine Kd.C_alloc ?_ _) | (with_reducible refine Kd.C_drewN ?_ _) | (with_reducible refine Kd.C_drew ?_))); (case side2 => exact (Kd.R_reads' HO_372002.out).2.1); (case side3 => repeat (first | exact (Kd.R_reads' HO_359002.out).2.2 | (with_reducible refine Kd.C_alloc ?_ _) | (with_reducible refine Kd.C_drewN ?_ _) | (with_reducible refine Kd.C_drew ?_))); (case side4 => exact (Kd.R_reads' HO_359002.out).2.1); rintro e w83 ⟨rfl, hb⟩; have n0_ := Aside0.mk (Kd.R_below (by (with_reducible repeat (first | apply Kd.R_alloc | apply Kd.R_drewN | apply Kd.R_drew)); exact HO_359002.out) hb); have n1_ := Aside0.mk (Kd.R_below (by (with_reducible repeat (first | apply Kd.R_alloc | apply Kd.R_drewN | apply Kd.R_drew)); exact HO_365002.out) hb); have n2_ := Aside0.mk (Kd.R_below (by (with_reducible repeat (first | apply Kd.R_alloc | apply Kd.R_drewN | apply Kd.R_drew)); exact HO_372002.out) hb); have n3_ := Aside0.mk (Kd.R_below (by (with_reducible repeat (first | apply Kd.R_alloc | apply Kd.R_drewN | apply Kd.R_drew)); exact HO377.out) hb); have n4_ := Aside0.mk (blk_below (g := gb345) (o := .cells #[.int .i64 a0_0, .int .i64 a0_1, .slice A0_2 l0_2.length c0_2] 24 (0, 0)) (by (with_reducible repeat (first | refine blk_drewN ?_ _ | refine blk_drew ?_ | refine blk_alloc ?_ _)); exact BK345.out) hb); have n5_ := Aside0.mk (blk_below (g := gb358) (o := .cells #[.int .i64 t352, .int .i64 t353, .slice Ao25 t354.length co25] 28 (0, 0)) (by (with_reducible repeat (first | refine blk_drewN ?_ _ | refine blk_drew ?_ | refine blk_alloc ?_ _)); exact BK358.out) hb); have n6_ := Aside0.mk (blk_below (g := gb364) (o := .cells #[.int .i64 t359, .int .i64 t360, .slice Ao32 t361.length co32] 28 (0, 0)) (by (with_reducible repeat (first | refine blk_drewN ?_ _ | refine blk_drew ?_ | refine blk_alloc ?_ _)); exact BK364.out) hb); have n7_ := Aside0.mk (blk_below (g := gb371) (o := .cells #[.int .i64 t365, .int .i64 t366, .slice Ao39 t367.length co39] 28 (0, 0)) (by (with_reducible repeat (first | refine blk_drewN ?_ _ | refine blk_drew ?_ | refine blk_alloc ?_ _)); exact BK371.out) hb); have n8_ := Aside0.mk (below_step (by repeat (first | (with_reducible first | exact HB.out | apply below_alloc | apply pw_below_drewN | apply below_drew1 | refine below_set ?_ GE345.out | refine below_set ?_ GE358.out | refine below_set ?_ GE364.out | refine below_set ?_ GE371.out) | exact HB.out)) hb); clear HO_359002; clear HO_365002; clear HO_372002; clear HO377; clear BK345; clear BK358; clear BK364; clear BK371; clear HB; have HO_359002 := n0_; have HO_365002 := n1_; have HO_372002 := n2_; have HO377 := n3_; have BK345 := n4_; have BK358 := n5_; have BK364 := n6_; have BK371 := n7_; have HB := n8_; clear n0_ n1_ n2_ n3_ n4_ n5_ n6_ n7_ n8_; (try clear hb); (try clear hb2); (try clear hk); (try clear hi)))
         go_meet
         case rel => exact ⟨_, ((t370 != t357)), (by first | rfl | (simp; done) | (simp [*]; done)), H', ⟨by have := HJ13.out; first | omega | exact Nat.le_refl _⟩, ⟨by (with_reducible repeat (first | apply Kd.R_alloc | apply Kd.R_drewN | apply Kd.R_drew)); exact Kd.R_mono HO_359002.out (fun _ hk => ⟨hk.1, hk.2.1⟩)⟩, ⟨by (with_reducible repeat (first | apply Kd.R_alloc | apply Kd.R_drewN | apply Kd.R_drew)); exact Kd.R_mono HO_365002.out (fun _ hk => ⟨hk.1.1, hk.1.2⟩)⟩, ⟨by (with_reducible repeat (first | apply Kd.R_alloc | apply Kd.R_drewN | apply Kd.R_drew)); exact Kd.R_mono HO_372002.out (fun _ hk => ⟨hk.1, hk.2.1⟩)⟩, ⟨by (with_reducible repeat (first | refine blk_drewN ?_ _ | refine blk_drew ?_ | refine blk_alloc ?_ _)); exact BK345.out⟩, ⟨by (with_reducible repeat (first | refine blk_drewN ?_ _ | refine blk_drew ?_ | refine blk_alloc ?_ _)); exact BK358.out⟩, ⟨by (with_reducible repeat (first | refine blk_drewN ?_ _ | refine blk_drew ?_ | refine blk_alloc ?_ _)); exact BK364.out⟩, ⟨by (with_reducible repeat (first | refine blk_drewN ?_ _ | refine blk_drew ?_ | refine blk_alloc ?_ _)); exact BK371.out⟩, ⟨by repeat (first | (with_reducible first | exact HB.out | apply below_alloc | apply pw_below_drewN | apply below_drew1 | refine below_set ?_ GE345.out | refine below_set ?_ GE358.out | refine below_set ?_ GE364.out | refine below_set ?_ GE371.out) | exact HB.out)⟩⟩
        ·replace c75 := Bool.eq_false_iff.mpr c75
         subst c75
         have H1 : (laws_FnExactShiftPhoto.j1 kj13 a1 a2 a3 t357 true a0_0 a0_1 l0_2 t352 t353 t354 t365 t366 t367) = some r := by rw [if_neg (show ¬ (false = true) by decide)] at H; exact H
         clear H
         have H := H1
         clear H1
         have H' := Aside0.mk H
         clear H
         have hnb84 := NB371_345.out
         have hnc84 := NB345_371.out
         have hnb85 := NB371_358.out
         have hnc85 := NB358_371.out
         have hnb86 := NB371_364.out
         have hnc86 := NB364_371.out
         have hcz87_0 : w72.cell? ⟨gb371, 0, none⟩ = some (.int .i64 t365) := (blk_cell BK371.out 0).trans rfl
         have hcz87_1 : w72.cell? ⟨gb371, 1, none⟩ = some (.int .i64 t366) := (blk_cell BK371.out 1).trans rfl
         have hcz87_2 : w72.cell? ⟨gb371, 2, none⟩ = some (.slice Ao39 t367.length co39) := (blk_cell BK371.out 2).trans rfl
         have hfz87_0 := blk_frozen BK371.out 0
         have hfz87_1 := blk_frozen BK371.out 1
         have hfz87_2 := blk_frozen BK371.out 2
         have hnb88 := NB358_345.out
         have hnc88 := NB345_358.out
         have hnb89 := NB358_364.out
         have hnc89 := NB364_358.out
         have hcz90_0 : w72.cell? ⟨gb358, 0, none⟩ = some (.int .i64 t352) := (blk_cell BK358.out 0).trans rfl
         have hcz90_1 : w72.cell? ⟨gb358, 1, none⟩ = some (.int .i64 t353) := (blk_cell BK358.out 1).trans rfl
         have hcz90_2 : w72.cell? ⟨gb358, 2, none⟩ = some (.slice Ao25 t354.length co25) := (blk_cell BK358.out 2).trans rfl
         have hfz90_0 := blk_frozen BK358.out 0
         have hfz90_1 := blk_frozen BK358.out 1
         have hfz90_2 := blk_frozen BK358.out 2
         go_wp2_with (first | (go_at_call 17; (with_reducible refine (laws_eqChart.calls kj13 t365 t366 _ _ t367 t352 t353 _ _ t354 false _ ?side1 ?side2 ?side3 ?side4 A74.out).mono ?_); (case side1 => repeat (first | exact (Kd.R_reads' HO_372002.out).2.2 | (with_reducible refine Kd.C_alloc ?_ _) | (with_reducible refine Kd.C_drewN ?_ _) | (with_reducible refine Kd.C_drew ?_))); (case side2 => exact (Kd.R_reads' HO_372002.out).2.1); (case side3 => repeat (first | exact (Kd.R_reads' HO_359002.out).2.2 | (with_reducible refine Kd.C_alloc ?_ _) | (with_reducible refine Kd.C_drewN ?_ _) | (with_reducible refine Kd.C_drew ?_))); (case side4 => exact (Kd.R_reads' HO_359002.out).2.1); rintro e w91 ⟨rfl, hb⟩; have n0_ := Aside0.mk (Kd.R_below (by (with_reducible repeat (first | apply Kd.R_alloc | apply Kd.R_drewN | apply Kd.R_drew)); exact HO_359002.out) hb); have n1_ := Aside0.mk (Kd.R_below (by (with_reducible repeat (first | apply Kd.R_alloc | apply Kd.R_drewN | apply Kd.R_drew)); exact HO_365002.out) hb); have n2_ := Aside0.mk (Kd.R_below (by (with_reducible repeat (first | apply Kd.R_alloc | apply Kd.R_drewN | apply Kd.R_drew)); exact HO_372002.out) hb); have n3_ := Aside0.mk (Kd.R_below (by (with_reducible repeat (first | apply Kd.R_alloc | apply Kd.R_drewN | apply Kd.R_drew)); exact HO377.out) hb); have n4_ := Aside0.mk (blk_below (g := gb345) (o := .cells #[.int .i64 a0_0, .int .i64 a0_1, .slice A0_2 l0_2.length c0_2] 24 (0, 0)) (by (with_reducible repeat (first | refine blk_drewN ?_ _ | refine blk_drew ?_ | refine blk_alloc ?_ _)); exact BK345.out) hb); have n5_ := Aside0.mk (blk_below (g := gb358) (o := .cells #[.int .i64 t352, .int .i64 t353, .slice Ao25 t354.length co25] 28 (0, 0)) (by (with_reducible repeat (first | refine blk_drewN ?_ _ | refine blk_drew ?_ | refine blk_alloc ?_ _)); exact BK358.out) hb); have n6_ := Aside0.mk (blk_below (g := gb364) (o := .cells #[.int .i64 t359, .int .i64 t360, .slice Ao32 t361.length co32] 28 (0, 0)) (by (with_reducible repeat (first | refine blk_drewN ?_ _ | refine blk_drew ?_ | refine blk_alloc ?_ _)); exact BK364.out) hb); have n7_ := Aside0.mk (blk_below (g := gb371) (o := .cells #[.int .i64 t365, .int .i64 t366, .slice Ao39 t367.length co39] 28 (0, 0)) (by (with_reducible repeat (first | refine blk_drewN ?_ _ | refine blk_drew ?_ | refine blk_alloc ?_ _)); exact BK371.out) hb); have n8_ := Aside0.mk (below_step (by repeat (first | (with_reducible first | exact HB.out | apply below_alloc | apply pw_below_drewN | apply below_drew1 | refine below_set ?_ GE345.out | refine below_set ?_ GE358.out | refine below_set ?_ GE364.out | refine below_set ?_ GE371.out) | exact HB.out)) hb); clear HO_359002; clear HO_365002; clear HO_372002; clear HO377; clear BK345; clear BK358; clear BK364; clear BK371; clear HB; have HO_359002 := n0_; have HO_365002 := n1_; have HO_372002 := n2_; have HO377 := n3_; have BK345 := n4_; have BK358 := n5_; have BK364 := n6_; have BK371 := n7_; have HB := n8_; clear n0_ n1_ n2_ n3_ n4_ n5_ n6_ n7_ n8_; (try clear hb); (try clear hb2); (try clear hk); (try clear hi)))
         go_meet
         case rel => exact ⟨_, (true), (by first | rfl | (simp; done) | (simp [*]; done)), H', ⟨by have := HJ13.out; first | omega | exact Nat.le_refl _⟩, ⟨by (with_reducible repeat (first | apply Kd.R_alloc | apply Kd.R_drewN | apply Kd.R_drew)); exact Kd.R_mono HO_359002.out (fun _ hk => ⟨hk.1, hk.2.1⟩)⟩, ⟨by (with_reducible repeat (first | apply Kd.R_alloc | apply Kd.R_drewN | apply Kd.R_drew)); exact Kd.R_mono HO_365002.out (fun _ hk => ⟨hk.1.1, hk.1.2⟩)⟩, ⟨by (with_reducible repeat (first | apply Kd.R_alloc | apply Kd.R_drewN | apply Kd.R_drew)); exact Kd.R_mono HO_372002.out (fun _ hk => ⟨hk.1, hk.2.1⟩)⟩, ⟨by (with_reducible repeat (first | refine blk_drewN ?_ _ | refine blk_drew ?_ | refine blk_alloc ?_ _)); exact BK345.out⟩, ⟨by (with_reducible repeat (first | refine blk_drewN ?_ _ | refine blk_drew ?_ | refine blk_alloc ?_ _)); exact BK358.out⟩, ⟨by (with_reducible repeat (first | refine blk_drewN ?_ _ | refine blk_drew ?_ | refine blk_alloc ?_ _)); exact BK364.out⟩, ⟨by (with_reducible repeat (first | refine blk_drewN ?_ _ | refine blk_drew ?_ | refine blk_alloc ?_ _)); exact BK371.out⟩, ⟨by repeat (first | (with_reducible first | exact HB.out | apply below_alloc | apply pw_below_drewN | apply below_drew1 | refine below_set ?_ GE345.out | refine below_set ?_ GE358.out | refine below_set ?_ GE364.out | refine below_set ?_ GE371.out) | exact HB.out)⟩⟩
      case rest =>
       clear HC63
       try clear c1
       try clear c2
       try clear p2
       try clear c3
       try clear c4
       try clear c5
       try clear c6
       try clear c6b0
       try clear c7
       try clear c8
       try clear c13
       try clear c15
       try clear c17
       try clear c20
       try clear c22
       try clear c23
       try clear c29
       try clear c30
       try clear c35
       try clear c36
       try clear c37
       try clear c41
       try clear c42
       try clear c43
       try clear c44
       try clear c46
       try clear c47
       try clear c50
       try clear c51
       try clear c52
       try clear c54
       try clear c55
       try clear c58
       try clear c61
       try clear c68
       try clear c69
       try clear c70
       try clear c73
       try clear c73b0
       try clear c75
       try clear c76
       try clear c77
       try clear c78
       try clear c80
       try clear c81
       try clear c84
       try clear c85
       try clear c86
       try clear c88
       try clear c89
       try clear hcz16_0
       try clear hcz16_1
       try clear hcz16_2
       try clear hcz18_0
       try clear hcz18_1
       try clear hcz18_2
       try clear hcz24_0
       try clear hcz24_1
       try clear hcz24_2
       try clear hcz26_0
       try clear hcz26_1
       try clear hcz26_2
       try clear hcz31_0
       try clear hcz31_1
       try clear hcz31_2
       try clear hcz38_0
       try clear hcz38_1
       try clear hcz38_2
       try clear hcz45_0
       try clear hcz45_1
       try clear hcz45_2
       try clear hcz48_0
       try clear hcz48_1
       try clear hcz48_2
       try clear hcz53_0
       try clear hcz53_1
       try clear hcz53_2
       try clear hcz56_0
       try clear hcz56_1
       try clear hcz56_2
       try clear hcz71_0
       try clear hcz71_1
       try clear hcz71_2
       try clear hcz79_0
       try clear hcz79_1
       try clear hcz79_2
       try clear hcz82_0
       try clear hcz82_1
       try clear hcz82_2
       try clear hcz87_0
       try clear hcz87_1
       try clear hcz87_2
       try clear hcz8_0
       try clear hcz8_1
       try clear hcz8_2
       try clear hcz90_0
       try clear hcz90_1
       try clear hcz90_2
       try clear hfz16_0
       try clear hfz16_1
       try clear hfz16_2
       try clear hfz18_0
       try clear hfz18_1
       try clear hfz18_2
       try clear hfz24_0
       try clear hfz24_1
       try clear hfz24_2
       try clear hfz26_0
       try clear hfz26_1
       try clear hfz26_2
       try clear hfz31_0
       try clear hfz31_1
       try clear hfz31_2
       try clear hfz38_0
       try clear hfz38_1
       try clear hfz38_2
       try clear hfz45_0
       try clear hfz45_1
       try clear hfz45_2
       try clear hfz48_0
       try clear hfz48_1
       try clear hfz48_2
       try clear hfz53_0
       try clear hfz53_1
       try clear hfz53_2
       try clear hfz56_0
       try clear hfz56_1
       try clear hfz56_2
       try clear hfz71_0
       try clear hfz71_1
       try clear hfz71_2
       try clear hfz79_0
       try clear hfz79_1
       try clear hfz79_2
       try clear hfz82_0
       try clear hfz82_1
       try clear hfz82_2
       try clear hfz87_0
       try clear hfz87_1
       try clear hfz87_2
       try clear hfz8_0
       try clear hfz8_1
       try clear hfz8_2
       try clear hfz90_0
       try clear hfz90_1
       try clear hfz90_2
       try clear p2
       obtain ⟨kq, x73_62, rfl, HA, HJ62, HO_359002, HO_365002, HO_372002, BK345, BK358, BK364, BK371, HB⟩ := hcut
       have hl365002_62 := (Kd.R_reads' HO_365002.out).1
       rw [hl365002_62] at HO_365002
       (try simp only [hl365002_62])
       (try simp only [hl365002_62] at BK345)
       (try simp only [hl365002_62] at BK358)
       (try simp only [hl365002_62] at BK364)
       (try simp only [hl365002_62] at BK371)
       (try simp only [hl365002_62] at HO_359002)
       (try simp only [hl365002_62] at HO_372002)
       cases kq with
       | zero => exact absurd HA.out (by simp [laws_FnExactShiftPhoto.j1])
       | succ kj62 =>
        have H := HA.out
        clear HA
        simp only [laws_FnExactShiftPhoto.j1] at H
        by_cases c92 : x73_62 = true
        ·subst c92
         have H1 : (none) = some r := by rw [if_pos rfl] at H; exact H
         clear H
         have H := H1
         clear H1
         exact absurd H (by simp)
        ·replace c92 := Bool.eq_false_iff.mpr c92
         subst c92
         have H1 : ((laws_markChart.f kj62 t365 t366 t367 1).bind fun bt382 => ((laws_heldChart.f kj62 t365 t366 bt382.2 1).bind fun t384 => (if t384 < 0 then (none) else (if t384 = bt382.1 then ((laws_toChart.f kj62 a0_0 a0_1 l0_2).bind fun bt385 => ((impl_ShiftPhoto.f kj62 bt385.1 bt385.2.1 bt385.2.2 a1 a2 a3).bind fun bt390 => ((laws_eqChart.f kj62 bt390.1 bt390.2.1 bt390.2.2.1 t352 t353 t354).bind fun t397 => (if t397 = true then (laws_FnExactShiftPhoto.j2 kj62 bt382.1 (bt390.2.2.2 != t357) t365 t366 bt382.2) else (laws_FnExactShiftPhoto.j2 kj62 bt382.1 true t365 t366 bt382.2))))) else (none))))) = some r := by rw [if_neg (show ¬ (false = true) by decide)] at H; exact H
         clear H
         have H := H1
         clear H1
         replace H := Option.bind_eq_some_iff.mp H
         obtain ⟨⟨t382, t383⟩, A930, H⟩ := H
         replace H : ((laws_heldChart.f kj62 t365 t366 t383 1).bind fun t384 => (if t384 < 0 then (none) else (if t384 = t382 then ((laws_toChart.f kj62 a0_0 a0_1 l0_2).bind fun bt385 => ((impl_ShiftPhoto.f kj62 bt385.1 bt385.2.1 bt385.2.2 a1 a2 a3).bind fun bt390 => ((laws_eqChart.f kj62 bt390.1 bt390.2.1 bt390.2.2.1 t352 t353 t354).bind fun t397 => (if t397 = true then (laws_FnExactShiftPhoto.j2 kj62 t382 (bt390.2.2.2 != t357) t365 t366 t383) else (laws_FnExactShiftPhoto.j2 kj62 t382 true t365 t366 t383))))) else (none)))) = some r := H
         have A93 := Aside0.mk A930
         clear A930
         replace H := Option.bind_eq_some_iff.mp H
         obtain ⟨t384, A940, H⟩ := H
         replace H : (if t384 < 0 then (none) else (if t384 = t382 then ((laws_toChart.f kj62 a0_0 a0_1 l0_2).bind fun bt385 => ((impl_ShiftPhoto.f kj62 bt385.1 bt385.2.1 bt385.2.2 a1 a2 a3).bind fun bt390 => ((laws_eqChart.f kj62 bt390.1 bt390.2.1 bt390.2.2.1 t352 t353 t354).bind fun t397 => (if t397 = true then (laws_FnExactShiftPhoto.j2 kj62 t382 (bt390.2.2.2 != t357) t365 t366 t383) else (laws_FnExactShiftPhoto.j2 kj62 t382 true t365 t366 t383))))) else (none))) = some r := H
         have A94 := Aside0.mk A940
         clear A940
         by_cases c95 : t384 < 0
         ·rw [if_pos c95] at H
          exact absurd H (by simp)
         ·rw [if_neg c95] at H
          have c95b0 : decide (t384 < 0) = false := decide_eq_false c95
          clear c95
          by_cases c96 : t384 = t382
          ·rw [if_pos c96] at H
           have c96b0 : (t384 == t382) = true := beq_iff_eq.mpr c96
           have c96b1 : (t384 != t382) = false := bne_eq_false_iff_eq.mpr c96
           clear c96
           replace H := Option.bind_eq_some_iff.mp H
           obtain ⟨⟨t385, t386, t387⟩, A970, H⟩ := H
           replace H : ((impl_ShiftPhoto.f kj62 t385 t386 t387 a1 a2 a3).bind fun bt390 => ((laws_eqChart.f kj62 bt390.1 bt390.2.1 bt390.2.2.1 t352 t353 t354).bind fun t397 => (if t397 = true then (laws_FnExactShiftPhoto.j2 kj62 t382 (bt390.2.2.2 != t357) t365 t366 t383) else (laws_FnExactShiftPhoto.j2 kj62 t382 true t365 t366 t383)))) = some r := H
           have A97 := Aside0.mk A970
           clear A970
           replace H := Option.bind_eq_some_iff.mp H
           obtain ⟨⟨t390, t391, t392, t395⟩, A980, H⟩ := H
           replace H : ((laws_eqChart.f kj62 t390 t391 t392 t352 t353 t354).bind fun t397 => (if t397 = true then (laws_FnExactShiftPhoto.j2 kj62 t382 (t395 != t357) t365 t366 t383) else (laws_FnExactShiftPhoto.j2 kj62 t382 true t365 t366 t383))) = some r := H
           have A98 := Aside0.mk A980
           clear A980
           have HC99 := Aside0.mk H
           clear H
           have hnb100 := NB371_345.out
           have hnc100 := NB345_371.out
           have hnb101 := NB371_358.out
           have hnc101 := NB358_371.out
           have hnb102 := NB371_364.out
           have hnc102 := NB364_371.out
           have hcz103_0 : wc.cell? ⟨gb371, 0, none⟩ = some (.int .i64 t365) := (blk_cell BK371.out 0).trans rfl
           have hcz103_1 : wc.cell? ⟨gb371, 1, none⟩ = some (.int .i64 t366) := (blk_cell BK371.out 1).trans rfl
           have hcz103_2 : wc.cell? ⟨gb371, 2, none⟩ = some (.slice Ao39 t367.length co39) := (blk_cell BK371.out 2).trans rfl
           have hfz103_0 := blk_frozen BK371.out 0
           have hfz103_1 := blk_frozen BK371.out 1
           have hfz103_2 := blk_frozen BK371.out 2
           go_upto_region 25 with (first | ((with_reducible refine gate_callee (f := 20) rfl ?_); refine goesL_ (some 76) rfl rfl Try.func20 (by kernel_rfl) rfl #[.agg #[.int .i64 t365, .int .i64 t366, .slice Ao39 t367.length co39], .int .i64 1] rfl (by (try simp only [List.map_toArray, List.map_cons, List.map_nil]); first | done | rfl | (simp only [List.length_drop, List.length_take]; rfl)) ?_; (with_reducible refine (laws_markChart.calls kj62 t365 t366 (fun k_ => some k_ = (.slice Ao39 t367.length co39 : Value).ownBlock) (.slice Ao39 t367.length co39) t367 1 t382 t383 w _ ?side1 ?side2 A93.out).mono ?_); (case side1 => repeat (first | (with_reducible first | exact HB.out | apply below_alloc | apply pw_below_drewN | apply below_drew1 | refine below_set ?_ GE345.out | refine below_set ?_ GE358.out | refine below_set ?_ GE364.out | refine below_set ?_ GE371.out) | exact HB.out)); (case side2 => exact Kd.R_tight rfl HO_372002.out); rintro e w104 ⟨rfl, hy0, hb, hkp⟩; refine ⟨_, rfl, ?_⟩; have n0_ := Aside0.mk (Kd.R_mono (ok' := fun k_ => some k_ ≠ (.slice Ao32 t380.length co32 : Value).ownBlock ∧ some k_ ≠ (.slice Ao39 t367.length co39 : Value).ownBlock) (Kd.R_keptB (HO_359002.out) hkp (fun k_ hk_ hs_ => (hk_.2) hs_)) (fun k_ hk_ => ⟨hk_.1.1, hk_.1.2⟩)); have n1_ := Aside0.mk (Kd.R_mono (ok' := fun k_ => some k_ ≠ (.slice Ao25 t354.length co25 : Value).ownBlock ∧ some k_ ≠ (.slice Ao39 t367.length co39 : Value).ownBlock) (Kd.R_keptB (HO_365002.out) hkp (fun k_ hk_ hs_ => (hk_.2) hs_)) (fun k_ hk_ => ⟨hk_.1.1, hk_.1.2⟩)); have n2_ := Aside0.mk (Kd.R_reok rfl hy0 (fun k_ e_ => HO_372002.out.1 k_ e_)); have n3_ := Aside0.mk (blk_kept (by (with_reducible repeat (first | refine blk_drewN ?_ _ | refine blk_drew ?_ | refine blk_alloc ?_ _)); exact BK345.out) hkp (fun hs_ => (fun e_ => (Kd.R_ne HO_372002.out BK345.out (by decide)) e_) hs_)); have n4_ := Aside0.mk (blk_kept (by (with_reducible repeat (first | refine blk_drewN ?_ _ | refine blk_drew ?_ | refine blk_alloc ?_ _)); exact BK358.out) hkp (fun hs_ => (fun e_ => (Kd.R_ne HO_372002.out BK358.out (by decide)) e_) hs_)); have n5_ := Aside0.mk (blk_kept (by (with_reducible repeat (first | refine blk_drewN ?_ _ | refine blk_drew ?_ | refine blk_alloc ?_ _)); exact BK364.out) hkp (fun hs_ => (fun e_ => (Kd.R_ne HO_372002.out BK364.out (by decide)) e_) hs_)); have n6_ := Aside0.mk (blk_kept (by (with_reducible repeat (first | refine blk_drewN ?_ _ | refine blk_drew ?_ | refine blk_alloc ?_ _)); exact BK371.out) hkp (fun hs_ => (fun e_ => (Kd.R_ne HO_372002.out BK371.out (by decide)) e_) hs_)); have n7_ := Aside0.mk (hb); clear HO_359002; clear HO_365002; clear HO_372002; clear BK345; clear BK358; clear BK364; clear BK371; clear HB; have HO_359002 := n0_; have HO_365002 := n1_; have HO_372002 := n2_; have BK345 := n3_; have BK358 := n4_; have BK364 := n5_; have BK371 := n6_; have HB := n7_; clear n0_ n1_ n2_ n3_ n4_ n5_ n6_ n7_; (try clear hb); (try clear hkp); (try clear hy0); have hcz105_0 : w104.cell? ⟨gb371, 0, none⟩ = some (.int .i64 t365) := (blk_cell BK371.out 0).trans rfl; have hcz105_1 : w104.cell? ⟨gb371, 1, none⟩ = some (.int .i64 t366) := (blk_cell BK371.out 1).trans rfl; have hcz105_2 : w104.cell? ⟨gb371, 2, none⟩ = some (.slice Ao39 t367.length co39) := (blk_cell BK371.out 2).trans rfl; have hfz105_0 := blk_frozen BK371.out 0; have hfz105_1 := blk_frozen BK371.out 1; have hfz105_2 := blk_frozen BK371.out 2) | ((with_reducible refine gate_callee (f := 21) rfl ?_); refine goesL_ (some 79) rfl rfl Try.func21 (by kernel_rfl) rfl #[.agg #[.int .i64 t365, .int .i64 t366, .slice Ao39 t383.length co39], .int .i64 1] rfl (by (try simp only [List.map_toArray, List.map_cons, List.map_nil]); first | done | (rw [show t383.length = t367.length from (Kd.R_reads' HO_372002.out).1.symm] <;> rfl) | rfl | (simp only [List.length_drop, List.length_take]; rfl)) ?_; (with_reducible refine (laws_heldChart.calls kj62 t365 t366 _ _ t383 1 t384 _ ?side1 ?side2 A94.out).mono ?_); (case side1 => repeat (first | exact (Kd.R_reads' HO_372002.out).2.2 | (with_reducible refine Kd.C_alloc ?_ _) | (with_reducible refine Kd.C_drewN ?_ _) | (with_reducible refine Kd.C_drew ?_))); (case side2 => rw [show t383.length = t367.length from (Kd.R_reads' HO_372002.out).1.symm]; exact (Kd.R_reads' HO_372002.out).2.1); rintro e w106 ⟨rfl, hb⟩; refine ⟨_, rfl, ?_⟩; have n0_ := Aside0.mk (Kd.R_below (by (with_reducible repeat (first | apply Kd.R_alloc | apply Kd.R_drewN | apply Kd.R_drew)); exact HO_359002.out) hb); have n1_ := Aside0.mk (Kd.R_below (by (with_reducible repeat (first | apply Kd.R_alloc | apply Kd.R_drewN | apply Kd.R_drew)); exact HO_365002.out) hb); have n2_ := Aside0.mk (Kd.R_below (by (with_reducible repeat (first | apply Kd.R_alloc | apply Kd.R_drewN | apply Kd.R_drew)); exact HO_372002.out) hb); have n3_ := Aside0.mk (blk_below (g := gb345) (o := .cells #[.int .i64 a0_0, .int .i64 a0_1, .slice A0_2 l0_2.length c0_2] 24 (0, 0)) (by (with_reducible repeat (first | refine blk_drewN ?_ _ | refine blk_drew ?_ | refine blk_alloc ?_ _)); exact BK345.out) hb); have n4_ := Aside0.mk (blk_below (g := gb358) (o := .cells #[.int .i64 t352, .int .i64 t353, .slice Ao25 t354.length co25] 28 (0, 0)) (by (with_reducible repeat (first | refine blk_drewN ?_ _ | refine blk_drew ?_ | refine blk_alloc ?_ _)); exact BK358.out) hb); have n5_ := Aside0.mk (blk_below (g := gb364) (o := .cells #[.int .i64 t359, .int .i64 t360, .slice Ao32 t380.length co32] 28 (0, 0)) (by (with_reducible repeat (first | refine blk_drewN ?_ _ | refine blk_drew ?_ | refine blk_alloc ?_ _)); exact BK364.out) hb); have n6_ := Aside0.mk (blk_below (g := gb371) (o := .cells #[.int .i64 t365, .int .i64 t366, .slice Ao39 t367.length co39] 28 (0, 0)) (by (with_reducible repeat (first | refine blk_drewN ?_ _ | refine blk_drew ?_ | refine blk_alloc ?_ _)); exact BK371.out) hb); have n7_ := Aside0.mk (below_step (by repeat (first | (with_reducible first | exact HB.out | apply below_alloc | apply pw_below_drewN | apply below_drew1 | refine below_set ?_ GE345.out | refine below_set ?_ GE358.out | refine below_set ?_ GE364.out | refine below_set ?_ GE371.out) | exact HB.out)) hb); clear HO_359002; clear HO_365002; clear HO_372002; clear BK345; clear BK358; clear BK364; clear BK371; clear HB; have HO_359002 := n0_; have HO_365002 := n1_; have HO_372002 := n2_; have BK345 := n3_; have BK358 := n4_; have BK364 := n5_; have BK371 := n6_; have HB := n7_; clear n0_ n1_ n2_ n3_ n4_ n5_ n6_ n7_; (try clear hb); (try clear hb2); (try clear hk); (try clear hi); have hnb107 := NB345_358.out; have hnc107 := NB358_345.out; have hnb108 := NB345_364.out; have hnc108 := NB364_345.out; have hcz109_0 : w106.cell? ⟨gb345, 0, none⟩ = some (.int .i64 a0_0) := (blk_cell BK345.out 0).trans rfl; have hcz109_1 : w106.cell? ⟨gb345, 1, none⟩ = some (.int .i64 a0_1) := (blk_cell BK345.out 1).trans rfl; have hcz109_2 : w106.cell? ⟨gb345, 2, none⟩ = some (.slice A0_2 l0_2.length c0_2) := (blk_cell BK345.out 2).trans rfl; have hfz109_0 := blk_frozen BK345.out 0; have hfz109_1 := blk_frozen BK345.out 1; have hfz109_2 := blk_frozen BK345.out 2) | ((with_reducible refine gate_callee (f := 15) rfl ?_); refine goesL_ (some 87) rfl rfl Try.func15 (by kernel_rfl) rfl #[.agg #[.int .i64 a0_0, .int .i64 a0_1, .slice A0_2 l0_2.length c0_2]] rfl (by (try simp only [List.map_toArray, List.map_cons, List.map_nil]); first | done | rfl | (simp only [List.length_drop, List.length_take]; rfl)) ?_; (with_reducible refine (laws_toChart.calls kj62 a0_0 a0_1 _ _ l0_2 t385 t386 t387 _ ?side1 ?side2 A97.out).mono ?_); (case side1 => repeat (first | exact (Kd.C_below HR0_2.out HB.out) | (with_reducible refine Kd.C_alloc ?_ _) | (with_reducible refine Kd.C_drewN ?_ _) | (with_reducible refine Kd.C_drew ?_))); (case side2 => exact HC0_2.out); rintro e w110 ⟨v388, rfl, ho0, hb⟩; refine ⟨_, rfl, ?_⟩; have n0_ := Aside0.mk (Kd.R_elder' (by (with_reducible repeat (first | apply Kd.R_alloc | apply Kd.R_drewN | apply Kd.R_drew)); exact HO_359002.out) (Kd.R_base ho0) hb); have n1_ := Aside0.mk (Kd.R_elder' (by (with_reducible repeat (first | apply Kd.R_alloc | apply Kd.R_drewN | apply Kd.R_drew)); exact HO_365002.out) (Kd.R_base ho0) hb); have n2_ := Aside0.mk (Kd.R_elder' (by (with_reducible repeat (first | apply Kd.R_alloc | apply Kd.R_drewN | apply Kd.R_drew)); exact HO_372002.out) (Kd.R_base ho0) hb); have n3_ := Aside0.mk (Kd.R_lower (Kd.R_new' (Kd.R_new' (Kd.R_new' ho0 (Kd.R_lt (by (with_reducible repeat (first | apply Kd.R_alloc | apply Kd.R_drewN | apply Kd.R_drew)); exact HO_359002.out))) (Kd.R_lt (by (with_reducible repeat (first | apply Kd.R_alloc | apply Kd.R_drewN | apply Kd.R_drew)); exact HO_365002.out))) (Kd.R_lt (by (with_reducible repeat (first | apply Kd.R_alloc | apply Kd.R_drewN | apply Kd.R_drew)); exact HO_372002.out))) (below_size (by repeat (first | (with_reducible first | exact HB.out | apply below_alloc | apply pw_below_drewN | apply below_drew1 | refine below_set ?_ GE345.out | refine below_set ?_ GE358.out | refine below_set ?_ GE364.out | refine below_set ?_ GE371.out) | exact HB.out)))); have n4_ := Aside0.mk (blk_below (g := gb345) (o := .cells #[.int .i64 a0_0, .int .i64 a0_1, .slice A0_2 l0_2.length c0_2] 24 (0, 0)) (by (with_reducible repeat (first | refine blk_drewN ?_ _ | refine blk_drew ?_ | refine blk_alloc ?_ _)); exact BK345.out) hb); have n5_ := Aside0.mk (blk_below (g := gb358) (o := .cells #[.int .i64 t352, .int .i64 t353, .slice Ao25 t354.length co25] 28 (0, 0)) (by (with_reducible repeat (first | refine blk_drewN ?_ _ | refine blk_drew ?_ | refine blk_alloc ?_ _)); exact BK358.out) hb); have n6_ := Aside0.mk (blk_below (g := gb364) (o := .cells #[.int .i64 t359, .int .i64 t360, .slice Ao32 t380.length co32] 28 (0, 0)) (by (with_reducible repeat (first | refine blk_drewN ?_ _ | refine blk_drew ?_ | refine blk_alloc ?_ _)); exact BK364.out) hb); have n7_ := Aside0.mk (blk_below (g := gb371) (o := .cells #[.int .i64 t365, .int .i64 t366, .slice Ao39 t367.length co39] 28 (0, 0)) (by (with_reducible repeat (first | refine blk_drewN ?_ _ | refine blk_drew ?_ | refine blk_alloc ?_ _)); exact BK371.out) hb); have n8_ := Aside0.mk (below_step (by repeat (first | (with_reducible first | exact HB.out | apply below_alloc | apply pw_below_drewN | apply below_drew1 | refine below_set ?_ GE345.out | refine below_set ?_ GE358.out | refine below_set ?_ GE364.out | refine below_set ?_ GE371.out) | exact HB.out)) hb); clear HO_359002; clear HO_365002; clear HO_372002; clear BK345; clear BK358; clear BK364; clear BK371; clear HB; have HO_359002 := n0_; have HO_365002 := n1_; have HO_372002 := n2_; have HO389 := n3_; have BK345 := n4_; have BK358 := n5_; have BK364 := n6_; have BK371 := n7_; have HB := n8_; clear n0_ n1_ n2_ n3_ n4_ n5_ n6_ n7_ n8_; (try clear hb); (try clear hb2); (try clear hk); (try clear hi); (try clear ho0); obtain ⟨Ao111, co111, eo111⟩ := Kd.R_slice HO389.out; subst eo111) | ((with_reducible refine gate_callee (f := 23) rfl ?_); refine goesL_ (some 91) rfl rfl Try.func23 (by kernel_rfl) rfl #[.agg #[.int .i64 t385, .int .i64 t386, .slice Ao111 t387.length co111], .int .i64 a1, .int .i64 a2, .int .i64 a3] rfl (by (try simp only [List.map_toArray, List.map_cons, List.map_nil]); first | done | rfl | (simp only [List.length_drop, List.length_take]; rfl)) ?_; (with_reducible refine (impl_ShiftPhoto.calls kj62 t385 t386 _ _ t387 a1 a2 a3 t390 t391 t392 t395 _ ?side1 ?side2 A98.out).mono ?_); (case side1 => repeat (first | exact (Kd.R_reads' HO389.out).2.2 | (with_reducible refine Kd.C_alloc ?_ _) | (with_reducible refine Kd.C_drewN ?_ _) | (with_reducible refine Kd.C_drew ?_))); (case side2 => exact (Kd.R_reads' HO389.out).2.1); rintro e w112 ⟨v393, rfl, ho0, hb⟩; refine ⟨_, rfl, ?_⟩; have n0_ := Aside0.mk (Kd.R_elder' (by (with_reducible repeat (first | apply Kd.R_alloc | apply Kd.R_drewN | apply Kd.R_drew)); exact HO_359002.out) (Kd.R_base ho0) hb); have n1_ := Aside0.mk (Kd.R_elder' (by (with_reducible repeat (first | apply Kd.R_alloc | apply Kd.R_drewN | apply Kd.R_drew)); exact HO_365002.out) (Kd.R_base ho0) hb); have n2_ := Aside0.mk (Kd.R_elder' (by (with_reducible repeat (first | apply Kd.R_alloc | apply Kd.R_drewN | apply Kd.R_drew)); exact HO_372002.out) (Kd.R_base ho0) hb); have n3_ := Aside0.mk (Kd.R_elder' (by (with_reducible repeat (first | apply Kd.R_alloc | apply Kd.R_drewN | apply Kd.R_drew)); exact HO389.out) (Kd.R_base ho0) hb); have n4_ := Aside0.mk (Kd.R_lower (Kd.R_new' (Kd.R_new' (Kd.R_new' (Kd.R_new' ho0 (Kd.R_lt (by (with_reducible repeat (first | apply Kd.R_alloc | apply Kd.R_drewN | apply Kd.R_drew)); exact HO_359002.out))) (Kd.R_lt (by (with_reducible repeat (first | apply Kd.R_alloc | apply Kd.R_drewN | apply Kd.R_drew)); exact HO_365002.out))) (Kd.R_lt (by (with_reducible repeat (first | apply Kd.R_alloc | apply Kd.R_drewN | apply Kd.R_drew)); exact HO_372002.out))) (Kd.R_lt (by (with_reducible repeat (first | apply Kd.R_alloc | apply Kd.R_drewN | apply Kd.R_drew)); exact HO389.out))) (below_size (by repeat (first | (with_reducible first | exact HB.out | apply below_alloc | apply pw_below_drewN | apply below_drew1 | refine below_set ?_ GE345.out | refine below_set ?_ GE358.out | refine below_set ?_ GE364.out | refine below_set ?_ GE371.out) | exact HB.out)))); have n5_ := Aside0.mk (blk_below (g := gb345) (o := .cells #[.int .i64 a0_0, .int .i64 a0_1, .slice A0_2 l0_2.length c0_2] 24 (0, 0)) (by (with_reducible repeat (first | refine blk_drewN ?_ _ | refine blk_drew ?_ | refine blk_alloc ?_ _)); exact BK345.out) hb); have n6_ := Aside0.mk (blk_below (g := gb358) (o := .cells #[.int .i64 t352, .int .i64 t353, .slice Ao25 t354.length co25] 28 (0, 0)) (by (with_reducible repeat (first | refine blk_drewN ?_ _ | refine blk_drew ?_ | refine blk_alloc ?_ _)); exact BK358.out) hb); have n7_ := Aside0.mk (blk_below (g := gb364) (o := .cells #[.int .i64 t359, .int .i64 t360, .slice Ao32 t380.length co32] 28 (0, 0)) (by (with_reducible repeat (first | refine blk_drewN ?_ _ | refine blk_drew ?_ | refine blk_alloc ?_ _)); exact BK364.out) hb); have n8_ := Aside0.mk (blk_below (g := gb371) (o := .cells #[.int .i64 t365, .int .i64 t366, .slice Ao39 t367.length co39] 28 (0, 0)) (by (with_reducible repeat (first | refine blk_drewN ?_ _ | refine blk_drew ?_ | refine blk_alloc ?_ _)); exact BK371.out) hb); have n9_ := Aside0.mk (below_step (by repeat (first | (with_reducible first | exact HB.out | apply below_alloc | apply pw_below_drewN | apply below_drew1 | refine below_set ?_ GE345.out | refine below_set ?_ GE358.out | refine below_set ?_ GE364.out | refine below_set ?_ GE371.out) | exact HB.out)) hb); clear HO_359002; clear HO_365002; clear HO_372002; clear HO389; clear BK345; clear BK358; clear BK364; clear BK371; clear HB; have HO_359002 := n0_; have HO_365002 := n1_; have HO_372002 := n2_; have HO389 := n3_; have HO394 := n4_; have BK345 := n5_; have BK358 := n6_; have BK364 := n7_; have BK371 := n8_; have HB := n9_; clear n0_ n1_ n2_ n3_ n4_ n5_ n6_ n7_ n8_ n9_; (try clear hb); (try clear hb2); (try clear hk); (try clear hi); (try clear ho0)) | ((with_reducible refine gate_dst (N := 18) rfl ?_); refine box_event ?hg (N := 18) ?hd (cs := #[.int .i64 0, .int .i64 0, .slice none 0 0]) (t := 28) ?hr ?_; (case hd => rfl); (case hg => rfl); (case hr => first | (go_simp; done) | (go_simp; rfl)); intro gb396 hg w113 hbox hb; have n0_ := Aside0.mk (Kd.R_below (by (with_reducible repeat (first | apply Kd.R_alloc | apply Kd.R_drewN | apply Kd.R_drew)); exact HO_359002.out) hb); have n1_ := Aside0.mk (Kd.R_below (by (with_reducible repeat (first | apply Kd.R_alloc | apply Kd.R_drewN | apply Kd.R_drew)); exact HO_365002.out) hb); have n2_ := Aside0.mk (Kd.R_below (by (with_reducible repeat (first | apply Kd.R_alloc | apply Kd.R_drewN | apply Kd.R_drew)); exact HO_372002.out) hb); have n3_ := Aside0.mk (Kd.R_below (by (with_reducible repeat (first | apply Kd.R_alloc | apply Kd.R_drewN | apply Kd.R_drew)); exact HO389.out) hb); have n4_ := Aside0.mk (Kd.R_below (by (with_reducible repeat (first | apply Kd.R_alloc | apply Kd.R_drewN | apply Kd.R_drew)); exact HO394.out) hb); have n5_ := Aside0.mk (blk_below (g := gb345) (o := .cells #[.int .i64 a0_0, .int .i64 a0_1, .slice A0_2 l0_2.length c0_2] 24 (0, 0)) (by (with_reducible repeat (first | refine blk_drewN ?_ _ | refine blk_drew ?_ | refine blk_alloc ?_ _)); exact BK345.out) hb); have n6_ := Aside0.mk (blk_below (g := gb358) (o := .cells #[.int .i64 t352, .int .i64 t353, .slice Ao25 t354.length co25] 28 (0, 0)) (by (with_reducible repeat (first | refine blk_drewN ?_ _ | refine blk_drew ?_ | refine blk_alloc ?_ _)); exact BK358.out) hb); have n7_ := Aside0.mk (blk_below (g := gb364) (o := .cells #[.int .i64 t359, .int .i64 t360, .slice Ao32 t380.length co32] 28 (0, 0)) (by (with_reducible repeat (first | refine blk_drewN ?_ _ | refine blk_drew ?_ | refine blk_alloc ?_ _)); exact BK364.out) hb); have n8_ := Aside0.mk (blk_below (g := gb371) (o := .cells #[.int .i64 t365, .int .i64 t366, .slice Ao39 t367.length co39] 28 (0, 0)) (by (with_reducible repeat (first | refine blk_drewN ?_ _ | refine blk_drew ?_ | refine blk_alloc ?_ _)); exact BK371.out) hb); have n9_ := Aside0.mk (below_step (by repeat (first | (with_reducible first | exact HB.out | apply below_alloc | apply pw_below_drewN | apply below_drew1 | refine below_set ?_ GE345.out | refine below_set ?_ GE358.out | refine below_set ?_ GE364.out | refine below_set ?_ GE371.out) | exact HB.out)) hb); have n10_ := Aside0.mk (hbox); have n11_ := Aside0.mk ((by rw [hg]; exact (below_size (by repeat (first | (with_reducible first | exact HB.out | apply below_alloc | apply pw_below_drewN | apply below_drew1 | refine below_set ?_ GE345.out | refine below_set ?_ GE358.out | refine below_set ?_ GE364.out | refine below_set ?_ GE371.out) | exact HB.out))) : w.heap.size ≤ gb396)); have n12_ := Aside0.mk ((by rw [hg]; exact (below_size (by repeat (first | (with_reducible first | exact HB.out | apply below_alloc | apply pw_below_drewN | apply below_drew1 | refine below_set ?_ GE345.out | refine below_set ?_ GE358.out | refine below_set ?_ GE364.out | refine below_set ?_ GE371.out) | exact HB.out))) : w.heap.size ≤ gb396)); have n13_ := Aside0.mk ((by rw [hg]; exact Nat.ne_of_lt (blk_lt (g := gb345) (o := .cells #[.int .i64 a0_0, .int .i64 a0_1, .slice A0_2 l0_2.length c0_2] 24 (0, 0)) (by (with_reducible repeat (first | refine blk_drewN ?_ _ | refine blk_drew ?_ | refine blk_alloc ?_ _)); exact BK345.out)) : gb345 ≠ gb396)); have n14_ := Aside0.mk ((by rw [hg]; exact Nat.ne_of_gt (blk_lt (g := gb345) (o := .cells #[.int .i64 a0_0, .int .i64 a0_1, .slice A0_2 l0_2.length c0_2] 24 (0, 0)) (by (with_reducible repeat (first | refine blk_drewN ?_ _ | refine blk_drew ?_ | refine blk_alloc ?_ _)); exact BK345.out)) : gb396 ≠ gb345)); have n15_ := Aside0.mk ((by rw [hg]; exact Nat.ne_of_lt (blk_lt (g := gb358) (o := .cells #[.int .i64 t352, .int .i64 t353, .slice Ao25 t354.length co25] 28 (0, 0)) (by (with_reducible repeat (first | refine blk_drewN ?_ _ | refine blk_drew ?_ | refine blk_alloc ?_ _)); exact BK358.out)) : gb358 ≠ gb396)); have n16_ := Aside0.mk ((by rw [hg]; exact Nat.ne_of_gt (blk_lt (g := gb358) (o := .cells #[.int .i64 t352, .int .i64 t353, .slice Ao25 t354.length co25] 28 (0, 0)) (by (with_reducible repeat (first | refine blk_drewN ?_ _ | refine blk_drew ?_ | refine blk_alloc ?_ _)); exact BK358.out)) : gb396 ≠ gb358)); have n17_ := Aside0.mk ((by rw [hg]; exact Nat.ne_of_lt (blk_lt (g := gb364) (o := .cells #[.int .i64 t359, .int .i64 t360, .slice Ao32 t380.length co32] 28 (0, 0)) (by (with_reducible repeat (first | refine blk_drewN ?_ _ | refine blk_drew ?_ | refine blk_alloc ?_ _)); exact BK364.out)) : gb364 ≠ gb396)); have n18_ := Aside0.mk ((by rw [hg]; exact Nat.ne_of_gt (blk_lt (g := gb364) (o := .cells #[.int .i64 t359, .int .i64 t360, .slice Ao32 t380.length co32] 28 (0, 0)) (by (with_reducible repeat (first | refine blk_drewN ?_ _ | refine blk_drew ?_ | refine blk_alloc ?_ _)); exact BK364.out)) : gb396 ≠ gb364)); have n19_ := Aside0.mk ((by rw [hg]; exact Nat.ne_of_lt (blk_lt (g := gb371) (o := .cells #[.int .i64 t365, .int .i64 t366, .slice Ao39 t367.length co39] 28 (0, 0)) (by (with_reducible repeat (first | refine blk_drewN ?_ _ | refine blk_drew ?_ | refine blk_alloc ?_ _)); exact BK371.out)) : gb371 ≠ gb396)); have n20_ := Aside0.mk ((by rw [hg]; exact Nat.ne_of_gt (blk_lt (g := gb371) (o := .cells #[.int .i64 t365, .int .i64 t366, .slice Ao39 t367.length co39] 28 (0, 0)) (by (with_reducible repeat (first | refine blk_drewN ?_ _ | refine blk_drew ?_ | refine blk_alloc ?_ _)); exact BK371.out)) : gb396 ≠ gb371)); clear HO_359002; clear HO_365002; clear HO_372002; clear HO389; clear HO394; clear BK345; clear BK358; clear BK364; clear BK371; clear HB; have HO_359002 := n0_; have HO_365002 := n1_; have HO_372002 := n2_; have HO389 := n3_; have HO394 := n4_; have BK345 := n5_; have BK358 := n6_; have BK364 := n7_; have BK371 := n8_; have HB := n9_; have BK396 := n10_; have GW396 := n11_; have GE396 := n12_; have NB345_396 := n13_; have NB396_345 := n14_; have NB358_396 := n15_; have NB396_358 := n16_; have NB364_396 := n17_; have NB396_364 := n18_; have NB371_396 := n19_; have NB396_371 := n20_; clear n0_ n1_ n2_ n3_ n4_ n5_ n6_ n7_ n8_ n9_ n10_ n11_ n12_ n13_ n14_ n15_ n16_ n17_ n18_ n19_ n20_; clear hb hbox hg; have hnb114 := NB396_345.out; have hnc114 := NB345_396.out; have hnb115 := NB396_358.out; have hnc115 := NB358_396.out; have hnb116 := NB396_364.out; have hnc116 := NB364_396.out; have hnb117 := NB396_371.out; have hnc117 := NB371_396.out; have hcz118_0 : w113.cell? ⟨gb396, 0, none⟩ = some (.int .i64 0) := (blk_cell BK396.out 0).trans rfl; have hcz118_1 : w113.cell? ⟨gb396, 1, none⟩ = some (.int .i64 0) := (blk_cell BK396.out 1).trans rfl; have hcz118_2 : w113.cell? ⟨gb396, 2, none⟩ = some (.slice none 0 0) := (blk_cell BK396.out 2).trans rfl; have hfz118_0 := blk_frozen BK396.out 0; have hfz118_1 := blk_frozen BK396.out 1; have hfz118_2 := blk_frozen BK396.out 2; obtain ⟨Ao119, co119, eo119⟩ := Kd.R_slice HO394.out; subst eo119))
           (try simp only [Act.put, List.setIfInBounds_toArray, List.set_cons_zero, List.set_cons_succ])
           go_cut [102] (fun v102 wc => ∃ (kq : Nat) (x102_98 : Bool), v102 = .bool x102_98 ∧ Aside0 (laws_FnExactShiftPhoto.j2 kq t382 x102_98 t365 t366 t383 = some r) ∧ Aside0 (kq ≤ kj62) ∧ Aside0 (Kd.R (Kd.int .i64) 3 wc w.heap.size (fun k_ => some k_ ≠ ((.slice Ao32 t380.length co32) : Value).ownBlock ∧ some k_ ≠ ((.slice Ao39 t367.length co39) : Value).ownBlock ∧ some k_ ≠ ((.slice Ao119 t392.length co119) : Value).ownBlock) (.slice Ao25 t354.length co25) t354) ∧ Aside0 (Kd.R (Kd.int .i64) 3 wc w.heap.size (fun k_ => some k_ ≠ ((.slice Ao25 t354.length co25) : Value).ownBlock ∧ some k_ ≠ ((.slice Ao39 t367.length co39) : Value).ownBlock ∧ some k_ ≠ ((.slice Ao119 t392.length co119) : Value).ownBlock) (.slice Ao32 t380.length co32) t380) ∧ Aside0 (Kd.R (Kd.int .i64) 3 wc w.heap.size (fun k_ => some k_ ≠ ((.slice Ao25 t354.length co25) : Value).ownBlock ∧ some k_ ≠ ((.slice Ao32 t380.length co32) : Value).ownBlock ∧ some k_ ≠ ((.slice Ao119 t392.length co119) : Value).ownBlock) (.slice Ao39 t367.length co39) t383) ∧ Aside0 (Kd.R (Kd.int .i64) 3 wc w.heap.size (fun k_ => some k_ ≠ ((.slice Ao25 t354.length co25) : Value).ownBlock ∧ some k_ ≠ ((.slice Ao32 t380.length co32) : Value).ownBlock ∧ some k_ ≠ ((.slice Ao39 t367.length co39) : Value).ownBlock) (.slice Ao119 t392.length co119) t392) ∧ Aside0 (wc.heap[gb345]? = some (.cells #[.int .i64 a0_0, .int .i64 a0_1, (.slice A0_2 l0_2.length c0_2)] 24 (0, 0))) ∧ Aside0 (wc.heap[gb358]? = some (.cells #[.int .i64 t352, .int .i64 t353, (.slice Ao25 t354.length co25)] 28 (0, 0))) ∧ Aside0 (wc.heap[gb364]? = some (.cells #[.int .i64 t359, .int .i64 t360, (.slice Ao32 t380.length co32)] 28 (0, 0))) ∧ Aside0 (wc.heap[gb371]? = some (.cells #[.int .i64 t365, .int .i64 t366, (.slice Ao39 t367.length co39)] 28 (0, 0))) ∧ Aside0 (wc.heap[gb396]? = some (.cells #[.int .i64 t390, .int .i64 t391, (.slice Ao119 t392.length co119)] 28 (0, 0))) ∧ Aside0 (Below w.heap.size w wc))
           case first =>
            have H := HC99.out
            clear HC99
            replace H := Option.bind_eq_some_iff.mp H
            obtain ⟨t397, A1200, H⟩ := H
            replace H : (if t397 = true then (laws_FnExactShiftPhoto.j2 kj62 t382 (t395 != t357) t365 t366 t383) else (laws_FnExactShiftPhoto.j2 kj62 t382 true t365 t366 t383)) = some r := H
            have A120 := Aside0.mk A1200
            clear A1200
            by_cases c121 : t397 = true
            ·subst c121
             have H1 : (laws_FnExactShiftPhoto.j2 kj62 t382 (t395 != t357) t365 t366 t383) = some r := by rw [if_pos rfl] at H; exact H
             clear H
             have H := H1
             clear H1
             have H' := Aside0.mk H
             clear H
             have hnb122 := NB396_345.out
             have hnc122 := NB345_396.out
             have hnb123 := NB396_358.out
             have hnc123 := NB358_396.out
             have hnb124 := NB396_364.out
             have hnc124 := NB364_396.out
             have hnb125 := NB396_371.out
             have hnc125 := NB371_396.out
             have hcz126_0 : w113.cell? ⟨gb396, 0, none⟩ = some (.int .i64 0) := (blk_cell BK396.out 0).trans rfl
             have hcz126_1 : w113.cell? ⟨gb396, 1, none⟩ = some (.int .i64 0) := (blk_cell BK396.out 1).trans rfl
             have hcz126_2 : w113.cell? ⟨gb396, 2, none⟩ = some (.slice none 0 0) := (blk_cell BK396.out 2).trans rfl
             have hfz126_0 := blk_frozen BK396.out 0
             have hfz126_1 := blk_frozen BK396.out 1
             have hfz126_2 := blk_frozen BK396.out 2
             have hnb127 := NB358_345.out
             have hnc127 := NB345_358.out
             have hnb128 := NB358_364.out
             have hnc128 := NB364_358.out
             have hnb129 := NB358_371.out
             have hnc129 := NB371_358.out
             have hcz130_0 : w113.cell? ⟨gb358, 0, none⟩ = some (.int .i64 t352) := (blk_cell BK358.out 0).trans rfl
             have hcz130_1 : w113.cell? ⟨gb358, 1, none⟩ = some (.int .i64 t353) := (blk_cell BK358.out 1).trans rfl
             have hcz130_2 : w113.cell? ⟨gb358, 2, none⟩ = some (.slice Ao25 t354.length co25) := (blk_cell BK358.out 2).trans rfl
             have hfz130_0 := blk_frozen BK358.out 0
             have hfz130_1 := blk_frozen BK358.out 1
             have hfz130_2 := blk_frozen BK358.out 2
             go_wp2_with (first | ((with_reducible refine gate_callee (f := 17) rfl ?_); refine goesL_ (some 96) rfl rfl Try.func17 (by kernel_rfl) rfl #[.agg #[.int .i64 t390, .int .i64 t391, .slice Ao119 t392.length co119], .agg #[.int .i64 t352, .int .i64 t353, .slice Ao25 t354.length co25]] rfl (by (try simp only [List.map_toArray, List.map_cons, List.map_nil]); first | done | rfl | (simp only [List.length_drop, List.length_take]; rfl)) ?_; (with_reducible refine (laws_eqChart.calls kj62 t390 t391 _ _ t392 t352 t353 _ _ t354 true _ ?side1 ?side2 ?side3 ?side4 A120.out).mono ?_); (case side1 => refine (Kd.R_reads' (e := 3) (base := w.heap.size) (ok := fun k_ => ((((True ∧ some k_ ≠ (.slice Ao25 t354.length co25 : Value).ownBlock) ∧ some k_ ≠ (.slice Ao32 t380.length co32 : Value).ownBlock) ∧ some k_ ≠ (.slice Ao39 t367.length co39 : Value).ownBlock) ∧ some k_ ≠ (.slice Ao111 t387.length co111 : Value).ownBlock)) (n := t392.length) (c := co119) ?_).2.2; exact (by (with_reducible repeat (first | apply Kd.R_alloc | apply Kd.R_drewN | apply Kd.R_drew)); exact (Kd.R_mono (Kd.R_far (p := ⟨gb396, 2, none⟩) (Kd.R_far (p := ⟨gb396, 1, none⟩) (Kd.R_far (p := ⟨gb396, 0, none⟩) (Kd.R_types HO394.out BK396.out (by decide)) (fun _ hk => hk.2) (.int .i64 t390)) (fun _ hk => hk.2) (.int .i64 t391)) (fun _ hk => hk.2) (.slice Ao119 t392.length co119)) (fun _ h_ => h_.1)))); (case side2 => exact (Kd.R_reads' HO394.out).2.1); (case side3 => refine (Kd.R_reads' (e := 3) (base := w.heap.size) (ok := fun k_ => (((some k_ ≠ (.slice Ao32 t380.length co32 : Value).ownBlock ∧ some k_ ≠ (.slice Ao39 t367.length co39 : Value).ownBlock) ∧ some k_ ≠ (.slice Ao111 t387.length co111 : Value).ownBlock) ∧ some k_ ≠ (.slice Ao119 t392.length co119 : Value).ownBlock)) (n := t354.length) (c := co25) ?_).2.2; exact (by (with_reducible repeat (first | apply Kd.R_alloc | apply Kd.R_drewN | apply Kd.R_drew)); exact (Kd.R_mono (Kd.R_far (p := ⟨gb396, 2, none⟩) (Kd.R_far (p := ⟨gb396, 1, none⟩) (Kd.R_far (p := ⟨gb396, 0, none⟩) (Kd.R_types HO_359002.out BK396.out (by decide)) (fun _ hk => hk.2) (.int .i64 t390)) (fun _ hk => hk.2) (.int .i64 t391)) (fun _ hk => hk.2) (.slice Ao119 t392.length co119)) (fun _ h_ => h_.1)))); (case side4 => exact (Kd.R_reads' HO_359002.out).2.1); rintro e w131 ⟨rfl, hb⟩; refine ⟨_, rfl, ?_⟩; have n0_ := Aside0.mk (Kd.R_below (by (with_reducible repeat (first | apply Kd.R_alloc | apply Kd.R_drewN | apply Kd.R_drew)); exact (Kd.R_mono (Kd.R_far (p := ⟨gb396, 2, none⟩) (Kd.R_far (p := ⟨gb396, 1, none⟩) (Kd.R_far (p := ⟨gb396, 0, none⟩) (Kd.R_types HO_359002.out BK396.out (by decide)) (fun _ hk => hk.2) (.int .i64 t390)) (fun _ hk => hk.2) (.int .i64 t391)) (fun _ hk => hk.2) (.slice Ao119 t392.length co119)) (fun _ h_ => h_.1))) hb); have n1_ := Aside0.mk (Kd.R_below (by (with_reducible repeat (first | apply Kd.R_alloc | apply Kd.R_drewN | apply Kd.R_drew)); exact (Kd.R_mono (Kd.R_far (p := ⟨gb396, 2, none⟩) (Kd.R_far (p := ⟨gb396, 1, none⟩) (Kd.R_far (p := ⟨gb396, 0, none⟩) (Kd.R_types HO_365002.out BK396.out (by decide)) (fun _ hk => hk.2) (.int .i64 t390)) (fun _ hk => hk.2) (.int .i64 t391)) (fun _ hk => hk.2) (.slice Ao119 t392.length co119)) (fun _ h_ => h_.1))) hb); have n2_ := Aside0.mk (Kd.R_below (by (with_reducible repeat (first | apply Kd.R_alloc | apply Kd.R_drewN | apply Kd.R_drew)); exact (Kd.R_mono (Kd.R_far (p := ⟨gb396, 2, none⟩) (Kd.R_far (p := ⟨gb396, 1, none⟩) (Kd.R_far (p := ⟨gb396, 0, none⟩) (Kd.R_types HO_372002.out BK396.out (by decide)) (fun _ hk => hk.2) (.int .i64 t390)) (fun _ hk => hk.2) (.int .i64 t391)) (fun _ hk => hk.2) (.slice Ao119 t392.length co119)) (fun _ h_ => h_.1))) hb); have n3_ := Aside0.mk (Kd.R_below (by (with_reducible repeat (first | apply Kd.R_alloc | apply Kd.R_drewN | apply Kd.R_drew)); exact (Kd.R_mono (Kd.R_far (p := ⟨gb396, 2, none⟩) (Kd.R_far (p := ⟨gb396, 1, none⟩) (Kd.R_far (p := ⟨gb396, 0, none⟩) (Kd.R_types HO389.out BK396.out (by decide)) (fun _ hk => hk.2) (.int .i64 t390)) (fun _ hk => hk.2) (.int .i64 t391)) (fun _ hk => hk.2) (.slice Ao119 t392.length co119)) (fun _ h_ => h_.1))) hb); have n4_ := Aside0.mk (Kd.R_below (by (with_reducible repeat (first | apply Kd.R_alloc | apply Kd.R_drewN | apply Kd.R_drew)); exact (Kd.R_mono (Kd.R_far (p := ⟨gb396, 2, none⟩) (Kd.R_far (p := ⟨gb396, 1, none⟩) (Kd.R_far (p := ⟨gb396, 0, none⟩) (Kd.R_types HO394.out BK396.out (by decide)) (fun _ hk => hk.2) (.int .i64 t390)) (fun _ hk => hk.2) (.int .i64 t391)) (fun _ hk => hk.2) (.slice Ao119 t392.length co119)) (fun _ h_ => h_.1))) hb); have n5_ := Aside0.mk (blk_below (g := gb345) (o := .cells #[.int .i64 a0_0, .int .i64 a0_1, .slice A0_2 l0_2.length c0_2] 24 (0, 0)) (by (with_reducible repeat (first | refine blk_drewN ?_ _ | refine blk_drew ?_ | refine blk_alloc ?_ _)); refine blk_far ?_ NB345_396.out _; (with_reducible repeat (first | refine blk_drewN ?_ _ | refine blk_drew ?_ | refine blk_alloc ?_ _)); refine blk_far ?_ NB345_396.out _; (with_reducible repeat (first | refine blk_drewN ?_ _ | refine blk_drew ?_ | refine blk_alloc ?_ _)); refine blk_far ?_ NB345_396.out _; (with_reducible repeat (first | refine blk_drewN ?_ _ | refine blk_drew ?_ | refine blk_alloc ?_ _)); exact BK345.out) hb); have n6_ := Aside0.mk (blk_below (g := gb358) (o := .cells #[.int .i64 t352, .int .i64 t353, .slice Ao25 t354.length co25] 28 (0, 0)) (by (with_reducible repeat (first | refine blk_drewN ?_ _ | refine blk_drew ?_ | refine blk_alloc ?_ _)); refine blk_far ?_ NB358_396.out _; (with_reducible repeat (first | refine blk_drewN ?_ _ | refine blk_drew ?_ | refine blk_alloc ?_ _)); refine blk_far ?_ NB358_396.out _; (with_reducible repeat (first | refine blk_drewN ?_ _ | refine blk_drew ?_ | refine blk_alloc ?_ _)); refine blk_far ?_ NB358_396.out _; (with_reducible repeat (first | refine blk_drewN ?_ _ | refine blk_drew ?_ | refine blk_alloc ?_ _)); exact BK358.out) hb); have n7_ := Aside0.mk (blk_below (g := gb364) (o := .cells #[.int .i64 t359, .int .i64 t360, .slice Ao32 t380.length co32] 28 (0, 0)) (by (with_reducible repeat (first | refine blk_drewN ?_ _ | refine blk_drew ?_ | refine blk_alloc ?_ _)); refine blk_far ?_ NB364_396.out _; (with_reducible repeat (first | refine blk_drewN ?_ _ | refine blk_drew ?_ | refine blk_alloc ?_ _)); refine blk_far ?_ NB364_396.out _; (with_reducible repeat (first | refine blk_drewN ?_ _ | refine blk_drew ?_ | refine blk_alloc ?_ _)); refine blk_far ?_ NB364_396.out _; (with_reducible repeat (first | refine blk_drewN ?_ _ | refine blk_drew ?_ | refine blk_alloc ?_ _)); exact BK364.out) hb); have n8_ := Aside0.mk (blk_below (g := gb371) (o := .cells #[.int .i64 t365, .int .i64 t366, .slice Ao39 t367.length co39] 28 (0, 0)) (by (with_reducible repeat (first | refine blk_drewN ?_ _ | refine blk_drew ?_ | refine blk_alloc ?_ _)); refine blk_far ?_ NB371_396.out _; (with_reducible repeat (first | refine blk_drewN ?_ _ | refine blk_drew ?_ | refine blk_alloc ?_ _)); refine blk_far ?_ NB371_396.out _; (with_reducible repeat (first | refine blk_drewN ?_ _ | refine blk_drew ?_ | refine blk_alloc ?_ _)); refine blk_far ?_ NB371_396.out _; (with_reducible repeat (first | refine blk_drewN ?_ _ | refine blk_drew ?_ | refine blk_alloc ?_ _)); exact BK371.out) hb); have n9_ := Aside0.mk (blk_below (g := gb396) (o := .cells #[.int .i64 t390, .int .i64 t391, .slice Ao119 t392.length co119] 28 (0, 0)) (by (with_reducible repeat (first | refine blk_drewN ?_ _ | refine blk_drew ?_ | refine blk_alloc ?_ _)); refine blk_put (cs := #[.int .i64 t390, .int .i64 t391, .slice none 0 0]) ?_ 2 _ rfl; (with_reducible repeat (first | refine blk_drewN ?_ _ | refine blk_drew ?_ | refine blk_alloc ?_ _)); refine blk_put (cs := #[.int .i64 t390, .int .i64 0, .slice none 0 0]) ?_ 1 _ rfl; (with_reducible repeat (first | refine blk_drewN ?_ _ | refine blk_drew ?_ | refine blk_alloc ?_ _)); refine blk_put (cs := #[.int .i64 0, .int .i64 0, .slice none 0 0]) ?_ 0 _ rfl; (with_reducible repeat (first | refine blk_drewN ?_ _ | refine blk_drew ?_ | refine blk_alloc ?_ _)); exact BK396.out) hb); have n10_ := Aside0.mk (below_step (by repeat (first | (with_reducible first | exact HB.out | apply below_alloc | apply pw_below_drewN | apply below_drew1 | refine below_set ?_ GE345.out | refine below_set ?_ GE358.out | refine below_set ?_ GE364.out | refine below_set ?_ GE371.out | refine below_set ?_ GE396.out) | exact HB.out)) hb); clear HO_359002; clear HO_365002; clear HO_372002; clear HO389; clear HO394; clear BK345; clear BK358; clear BK364; clear BK371; clear BK396; clear HB; have HO_359002 := n0_; have HO_365002 := n1_; have HO_372002 := n2_; have HO389 := n3_; have HO394 := n4_; have BK345 := n5_; have BK358 := n6_; have BK364 := n7_; have BK371 := n8_; have BK396 := n9_; have HB := n10_; clear n0_ n1_ n2_ n3_ n4_ n5_ n6_ n7_ n8_ n9_ n10_; (try clear hb); (try clear hb2); (try clear hk); (try clear hi)))
             go_meet
             case rel => exact ⟨_, ((t395 != t357)), (by first | rfl | (simp; done) | (simp [*]; done)), H', ⟨by have := HJ13.out; have := HJ62.out; first | omega | exact Nat.le_refl _⟩, ⟨by (try simp only [hl365002_62]); (with_reducible repeat (first | apply Kd.R_alloc | apply Kd.R_drewN | apply Kd.R_drew)); exact Kd.R_mono HO_359002.out (fun _ hk => ⟨hk.1.1.1, ⟨hk.1.1.2, hk.2⟩⟩)⟩, ⟨by (try simp only [hl365002_62]); (with_reducible repeat (first | apply Kd.R_alloc | apply Kd.R_drewN | apply Kd.R_drew)); exact Kd.R_mono HO_365002.out (fun _ hk => ⟨hk.1.1.1, ⟨hk.1.1.2, hk.2⟩⟩)⟩, ⟨by (try simp only [hl365002_62]); (with_reducible repeat (first | apply Kd.R_alloc | apply Kd.R_drewN | apply Kd.R_drew)); exact Kd.R_mono HO_372002.out (fun _ hk => ⟨hk.1.1.1, ⟨hk.1.1.2, hk.2⟩⟩)⟩, ⟨by (try simp only [hl365002_62]); (with_reducible repeat (first | apply Kd.R_alloc | apply Kd.R_drewN | apply Kd.R_drew)); exact Kd.R_mono HO394.out (fun _ hk => ⟨hk.1.1.1.2, ⟨hk.1.1.2, hk.1.2⟩⟩)⟩, ⟨by (try simp only [hl365002_62]); (with_reducible repeat (first | refine blk_drewN ?_ _ | refine blk_drew ?_ | refine blk_alloc ?_ _)); exact BK345.out⟩, ⟨by (try simp only [hl365002_62]); (with_reducible repeat (first | refine blk_drewN ?_ _ | refine blk_drew ?_ | refine blk_alloc ?_ _)); exact BK358.out⟩, ⟨by (try simp only [hl365002_62]); (with_reducible repeat (first | refine blk_drewN ?_ _ | refine blk_drew ?_ | refine blk_alloc ?_ _)); exact BK364.out⟩, ⟨by (try simp only [hl365002_62]); (with_reducible repeat (first | refine blk_drewN ?_ _ | refine blk_drew ?_ | refine blk_alloc ?_ _)); exact BK371.out⟩, ⟨by (try simp only [hl365002_62]); (with_reducible repeat (first | refine blk_drewN ?_ _ | refine blk_drew ?_ | refine blk_alloc ?_ _)); exact BK396.out⟩, ⟨by repeat (first | (with_reducible first | exact HB.out | apply below_alloc | apply pw_below_drewN | apply below_drew1 | refine below_set ?_ GE345.out | refine below_set ?_ GE358.out | refine below_set ?_ GE364.out | refine below_set ?_ GE371.out | refine below_set ?_ GE396.out) | exact HB.out)⟩⟩
            ·replace c121 := Bool.eq_false_iff.mpr c121
             subst c121
             have H1 : (laws_FnExactShiftPhoto.j2 kj62 t382 true t365 t366 t383) = some r := by rw [if_neg (show ¬ (false = true) by decide)] at H; exact H
             clear H
             have H := H1
             clear H1
             have H' := Aside0.mk H
             clear H
             have hnb132 := NB396_345.out
             have hnc132 := NB345_396.out
             have hnb133 := NB396_358.out
             have hnc133 := NB358_396.out
             have hnb134 := NB396_364.out
             have hnc134 := NB364_396.out
             have hnb135 := NB396_371.out
             have hnc135 := NB371_396.out
             have hcz136_0 : w113.cell? ⟨gb396, 0, none⟩ = some (.int .i64 0) := (blk_cell BK396.out 0).trans rfl
             have hcz136_1 : w113.cell? ⟨gb396, 1, none⟩ = some (.int .i64 0) := (blk_cell BK396.out 1).trans rfl
             have hcz136_2 : w113.cell? ⟨gb396, 2, none⟩ = some (.slice none 0 0) := (blk_cell BK396.out 2).trans rfl
             have hfz136_0 := blk_frozen BK396.out 0
             have hfz136_1 := blk_frozen BK396.out 1
             have hfz136_2 := blk_frozen BK396.out 2
             have hnb137 := NB358_345.out
             have hnc137 := NB345_358.out
             have hnb138 := NB358_364.out
             have hnc138 := NB364_358.out
             have hnb139 := NB358_371.out
             have hnc139 := NB371_358.out
             have hcz140_0 : w113.cell? ⟨gb358, 0, none⟩ = some (.int .i64 t352) := (blk_cell BK358.out 0).trans rfl
             have hcz140_1 : w113.cell? ⟨gb358, 1, none⟩ = some (.int .i64 t353) := (blk_cell BK358.out 1).trans rfl
             have hcz140_2 : w113.cell? ⟨gb358, 2, none⟩ = some (.slice Ao25 t354.length co25) := (blk_cell BK358.out 2).trans rfl
             have hfz140_0 := blk_frozen BK358.out 0
             have hfz140_1 := blk_frozen BK358.out 1
             have hfz140_2 := blk_frozen BK358.out 2
             go_wp2_with (first | ((with_reducible refine gate_callee (f := 17) rfl ?_); refine goesL_ (some 96) rfl rfl Try.func17 (by kernel_rfl) rfl #[.agg #[.int .i64 t390, .int .i64 t391, .slice Ao119 t392.length co119], .agg #[.int .i64 t352, .int .i64 t353, .slice Ao25 t354.length co25]] rfl (by (try simp only [List.map_toArray, List.map_cons, List.map_nil]); first | done | rfl | (simp only [List.length_drop, List.length_take]; rfl)) ?_; (with_reducible refine (laws_eqChart.calls kj62 t390 t391 _ _ t392 t352 t353 _ _ t354 false _ ?side1 ?side2 ?side3 ?side4 A120.out).mono ?_); (case side1 => refine (Kd.R_reads' (e := 3) (base := w.heap.size) (ok := fun k_ => ((((True ∧ some k_ ≠ (.slice Ao25 t354.length co25 : Value).ownBlock) ∧ some k_ ≠ (.slice Ao32 t380.length co32 : Value).ownBlock) ∧ some k_ ≠ (.slice Ao39 t367.length co39 : Value).ownBlock) ∧ some k_ ≠ (.slice Ao111 t387.length co111 : Value).ownBlock)) (n := t392.length) (c := co119) ?_).2.2; exact (by (with_reducible repeat (first | apply Kd.R_alloc | apply Kd.R_drewN | apply Kd.R_drew)); exact (Kd.R_mono (Kd.R_far (p := ⟨gb396, 2, none⟩) (Kd.R_far (p := ⟨gb396, 1, none⟩) (Kd.R_far (p := ⟨gb396, 0, none⟩) (Kd.R_types HO394.out BK396.out (by decide)) (fun _ hk => hk.2) (.int .i64 t390)) (fun _ hk => hk.2) (.int .i64 t391)) (fun _ hk => hk.2) (.slice Ao119 t392.length co119)) (fun _ h_ => h_.1)))); (case side2 => exact (Kd.R_reads' HO394.out).2.1); (case side3 => refine (Kd.R_reads' (e := 3) (base := w.heap.size) (ok := fun k_ => (((some k_ ≠ (.slice Ao32 t380.length co32 : Value).ownBlock ∧ some k_ ≠ (.slice Ao39 t367.length co39 : Value).ownBlock) ∧ some k_ ≠ (.slice Ao111 t387.length co111 : Value).ownBlock) ∧ some k_ ≠ (.slice Ao119 t392.length co119 : Value).ownBlock)) (n := t354.length) (c := co25) ?_).2.2; exact (by (with_reducible repeat (first | apply Kd.R_alloc | apply Kd.R_drewN | apply Kd.R_drew)); exact (Kd.R_mono (Kd.R_far (p := ⟨gb396, 2, none⟩) (Kd.R_far (p := ⟨gb396, 1, none⟩) (Kd.R_far (p := ⟨gb396, 0, none⟩) (Kd.R_types HO_359002.out BK396.out (by decide)) (fun _ hk => hk.2) (.int .i64 t390)) (fun _ hk => hk.2) (.int .i64 t391)) (fun _ hk => hk.2) (.slice Ao119 t392.length co119)) (fun _ h_ => h_.1)))); (case side4 => exact (Kd.R_reads' HO_359002.out).2.1); rintro e w141 ⟨rfl, hb⟩; refine ⟨_, rfl, ?_⟩; have n0_ := Aside0.mk (Kd.R_below (by (with_reducible repeat (first | apply Kd.R_alloc | apply Kd.R_drewN | apply Kd.R_drew)); exact (Kd.R_mono (Kd.R_far (p := ⟨gb396, 2, none⟩) (Kd.R_far (p := ⟨gb396, 1, none⟩) (Kd.R_far (p := ⟨gb396, 0, none⟩) (Kd.R_types HO_359002.out BK396.out (by decide)) (fun _ hk => hk.2) (.int .i64 t390)) (fun _ hk => hk.2) (.int .i64 t391)) (fun _ hk => hk.2) (.slice Ao119 t392.length co119)) (fun _ h_ => h_.1))) hb); have n1_ := Aside0.mk (Kd.R_below (by (with_reducible repeat (first | apply Kd.R_alloc | apply Kd.R_drewN | apply Kd.R_drew)); exact (Kd.R_mono (Kd.R_far (p := ⟨gb396, 2, none⟩) (Kd.R_far (p := ⟨gb396, 1, none⟩) (Kd.R_far (p := ⟨gb396, 0, none⟩) (Kd.R_types HO_365002.out BK396.out (by decide)) (fun _ hk => hk.2) (.int .i64 t390)) (fun _ hk => hk.2) (.int .i64 t391)) (fun _ hk => hk.2) (.slice Ao119 t392.length co119)) (fun _ h_ => h_.1))) hb); have n2_ := Aside0.mk (Kd.R_below (by (with_reducible repeat (first | apply Kd.R_alloc | apply Kd.R_drewN | apply Kd.R_drew)); exact (Kd.R_mono (Kd.R_far (p := ⟨gb396, 2, none⟩) (Kd.R_far (p := ⟨gb396, 1, none⟩) (Kd.R_far (p := ⟨gb396, 0, none⟩) (Kd.R_types HO_372002.out BK396.out (by decide)) (fun _ hk => hk.2) (.int .i64 t390)) (fun _ hk => hk.2) (.int .i64 t391)) (fun _ hk => hk.2) (.slice Ao119 t392.length co119)) (fun _ h_ => h_.1))) hb); have n3_ := Aside0.mk (Kd.R_below (by (with_reducible repeat (first | apply Kd.R_alloc | apply Kd.R_drewN | apply Kd.R_drew)); exact (Kd.R_mono (Kd.R_far (p := ⟨gb396, 2, none⟩) (Kd.R_far (p := ⟨gb396, 1, none⟩) (Kd.R_far (p := ⟨gb396, 0, none⟩) (Kd.R_types HO389.out BK396.out (by decide)) (fun _ hk => hk.2) (.int .i64 t390)) (fun _ hk => hk.2) (.int .i64 t391)) (fun _ hk => hk.2) (.slice Ao119 t392.length co119)) (fun _ h_ => h_.1))) hb); have n4_ := Aside0.mk (Kd.R_below (by (with_reducible repeat (first | apply Kd.R_alloc | apply Kd.R_drewN | apply Kd.R_drew)); exact (Kd.R_mono (Kd.R_far (p := ⟨gb396, 2, none⟩) (Kd.R_far (p := ⟨gb396, 1, none⟩) (Kd.R_far (p := ⟨gb396, 0, none⟩) (Kd.R_types HO394.out BK396.out (by decide)) (fun _ hk => hk.2) (.int .i64 t390)) (fun _ hk => hk.2) (.int .i64 t391)) (fun _ hk => hk.2) (.slice Ao119 t392.length co119)) (fun _ h_ => h_.1))) hb); have n5_ := Aside0.mk (blk_below (g := gb345) (o := .cells #[.int .i64 a0_0, .int .i64 a0_1, .slice A0_2 l0_2.length c0_2] 24 (0, 0)) (by (with_reducible repeat (first | refine blk_drewN ?_ _ | refine blk_drew ?_ | refine blk_alloc ?_ _)); refine blk_far ?_ NB345_396.out _; (with_reducible repeat (first | refine blk_drewN ?_ _ | refine blk_drew ?_ | refine blk_alloc ?_ _)); refine blk_far ?_ NB345_396.out _; (with_reducible repeat (first | refine blk_drewN ?_ _ | refine blk_drew ?_ | refine blk_alloc ?_ _)); refine blk_far ?_ NB345_396.out _; (with_reducible repeat (first | refine blk_drewN ?_ _ | refine blk_drew ?_ | refine blk_alloc ?_ _)); exact BK345.out) hb); have n6_ := Aside0.mk (blk_below (g := gb358) (o := .cells #[.int .i64 t352, .int .i64 t353, .slice Ao25 t354.length co25] 28 (0, 0)) (by (with_reducible repeat (first | refine blk_drewN ?_ _ | refine blk_drew ?_ | refine blk_alloc ?_ _)); refine blk_far ?_ NB358_396.out _; (with_reducible repeat (first | refine blk_drewN ?_ _ | refine blk_drew ?_ | refine blk_alloc ?_ _)); refine blk_far ?_ NB358_396.out _; (with_reducible repeat (first | refine blk_drewN ?_ _ | refine blk_drew ?_ | refine blk_alloc ?_ _)); refine blk_far ?_ NB358_396.out _; (with_reducible repeat (first | refine blk_drewN ?_ _ | refine blk_drew ?_ | refine blk_alloc ?_ _)); exact BK358.out) hb); have n7_ := Aside0.mk (blk_below (g := gb364) (o := .cells #[.int .i64 t359, .int .i64 t360, .slice Ao32 t380.length co32] 28 (0, 0)) (by (with_reducible repeat (first | refine blk_drewN ?_ _ | refine blk_drew ?_ | refine blk_alloc ?_ _)); refine blk_far ?_ NB364_396.out _; (with_reducible repeat (first | refine blk_drewN ?_ _ | refine blk_drew ?_ | refine blk_alloc ?_ _)); refine blk_far ?_ NB364_396.out _; (with_reducible repeat (first | refine blk_drewN ?_ _ | refine blk_drew ?_ | refine blk_alloc ?_ _)); refine blk_far ?_ NB364_396.out _; (with_reducible repeat (first | refine blk_drewN ?_ _ | refine blk_drew ?_ | refine blk_alloc ?_ _)); exact BK364.out) hb); have n8_ := Aside0.mk (blk_below (g := gb371) (o := .cells #[.int .i64 t365, .int .i64 t366, .slice Ao39 t367.length co39] 28 (0, 0)) (by (with_reducible repeat (first | refine blk_drewN ?_ _ | refine blk_drew ?_ | refine blk_alloc ?_ _)); refine blk_far ?_ NB371_396.out _; (with_reducible repeat (first | refine blk_drewN ?_ _ | refine blk_drew ?_ | refine blk_alloc ?_ _)); refine blk_far ?_ NB371_396.out _; (with_reducible repeat (first | refine blk_drewN ?_ _ | refine blk_drew ?_ | refine blk_alloc ?_ _)); refine blk_far ?_ NB371_396.out _; (with_reducible repeat (first | refine blk_drewN ?_ _ | refine blk_drew ?_ | refine blk_alloc ?_ _)); exact BK371.out) hb); have n9_ := Aside0.mk (blk_below (g := gb396) (o := .cells #[.int .i64 t390, .int .i64 t391, .slice Ao119 t392.length co119] 28 (0, 0)) (by (with_reducible repeat (first | refine blk_drewN ?_ _ | refine blk_drew ?_ | refine blk_alloc ?_ _)); refine blk_put (cs := #[.int .i64 t390, .int .i64 t391, .slice none 0 0]) ?_ 2 _ rfl; (with_reducible repeat (first | refine blk_drewN ?_ _ | refine blk_drew ?_ | refine blk_alloc ?_ _)); refine blk_put (cs := #[.int .i64 t390, .int .i64 0, .slice none 0 0]) ?_ 1 _ rfl; (with_reducible repeat (first | refine blk_drewN ?_ _ | refine blk_drew ?_ | refine blk_alloc ?_ _)); refine blk_put (cs := #[.int .i64 0, .int .i64 0, .slice none 0 0]) ?_ 0 _ rfl; (with_reducible repeat (first | refine blk_drewN ?_ _ | refine blk_drew ?_ | refine blk_alloc ?_ _)); exact BK396.out) hb); have n10_ := Aside0.mk (below_step (by repeat (first | (with_reducible first | exact HB.out | apply below_alloc | apply pw_below_drewN | apply below_drew1 | refine below_set ?_ GE345.out | refine below_set ?_ GE358.out | refine below_set ?_ GE364.out | refine below_set ?_ GE371.out | refine below_set ?_ GE396.out) | exact HB.out)) hb); clear HO_359002; clear HO_365002; clear HO_372002; clear HO389; clear HO394; clear BK345; clear BK358; clear BK364; clear BK371; clear BK396; clear HB; have HO_359002 := n0_; have HO_365002 := n1_; have HO_372002 := n2_; have HO389 := n3_; have HO394 := n4_; have BK345 := n5_; have BK358 := n6_; have BK364 := n7_; have BK371 := n8_; have BK396 := n9_; have HB := n10_; clear n0_ n1_ n2_ n3_ n4_ n5_ n6_ n7_ n8_ n9_ n10_; (try clear hb); (try clear hb2); (try clear hk); (try clear hi)))
             go_meet
             case rel => exact ⟨_, (true), (by first | rfl | (simp; done) | (simp [*]; done)), H', ⟨by have := HJ13.out; have := HJ62.out; first | omega | exact Nat.le_refl _⟩, ⟨by (try simp only [hl365002_62]); (with_reducible repeat (first | apply Kd.R_alloc | apply Kd.R_drewN | apply Kd.R_drew)); exact Kd.R_mono HO_359002.out (fun _ hk => ⟨hk.1.1.1, ⟨hk.1.1.2, hk.2⟩⟩)⟩, ⟨by (try simp only [hl365002_62]); (with_reducible repeat (first | apply Kd.R_alloc | apply Kd.R_drewN | apply Kd.R_drew)); exact Kd.R_mono HO_365002.out (fun _ hk => ⟨hk.1.1.1, ⟨hk.1.1.2, hk.2⟩⟩)⟩, ⟨by (try simp only [hl365002_62]); (with_reducible repeat (first | apply Kd.R_alloc | apply Kd.R_drewN | apply Kd.R_drew)); exact Kd.R_mono HO_372002.out (fun _ hk => ⟨hk.1.1.1, ⟨hk.1.1.2, hk.2⟩⟩)⟩, ⟨by (try simp only [hl365002_62]); (with_reducible repeat (first | apply Kd.R_alloc | apply Kd.R_drewN | apply Kd.R_drew)); exact Kd.R_mono HO394.out (fun _ hk => ⟨hk.1.1.1.2, ⟨hk.1.1.2, hk.1.2⟩⟩)⟩, ⟨by (try simp only [hl365002_62]); (with_reducible repeat (first | refine blk_drewN ?_ _ | refine blk_drew ?_ | refine blk_alloc ?_ _)); exact BK345.out⟩, ⟨by (try simp only [hl365002_62]); (with_reducible repeat (first | refine blk_drewN ?_ _ | refine blk_drew ?_ | refine blk_alloc ?_ _)); exact BK358.out⟩, ⟨by (try simp only [hl365002_62]); (with_reducible repeat (first | refine blk_drewN ?_ _ | refine blk_drew ?_ | refine blk_alloc ?_ _)); exact BK364.out⟩, ⟨by (try simp only [hl365002_62]); (with_reducible repeat (first | refine blk_drewN ?_ _ | refine blk_drew ?_ | refine blk_alloc ?_ _)); exact BK371.out⟩, ⟨by (try simp only [hl365002_62]); (with_reducible repeat (first | refine blk_drewN ?_ _ | refine blk_drew ?_ | refine blk_alloc ?_ _)); exact BK396.out⟩, ⟨by repeat (first | (with_reducible first | exact HB.out | apply below_alloc | apply pw_below_drewN | apply below_drew1 | refine below_set ?_ GE345.out | refine below_set ?_ GE358.out | refine below_set ?_ GE364.out | refine below_set ?_ GE371.out | refine below_set ?_ GE396.out) | exact HB.out)⟩⟩
           case rest =>
            clear HC99
            try clear c1
            try clear c2
            try clear p2
            try clear c3
            try clear c4
            try clear c5
            try clear c6
            try clear c6b0
            try clear c7
            try clear c8
            try clear c9
            try clear c10
            try clear c11
            try clear c12
            try clear c13
            try clear c15
            try clear c17
            try clear c20
            try clear c21
            try clear c22
            try clear c23
            try clear c29
            try clear c30
            try clear c35
            try clear c36
            try clear c37
            try clear c41
            try clear c42
            try clear c43
            try clear c44
            try clear c46
            try clear c47
            try clear c50
            try clear c51
            try clear c52
            try clear c54
            try clear c55
            try clear c58
            try clear c61
            try clear c68
            try clear c69
            try clear c70
            try clear c73
            try clear c73b0
            try clear c75
            try clear c76
            try clear c77
            try clear c78
            try clear c80
            try clear c81
            try clear c84
            try clear c85
            try clear c86
            try clear c88
            try clear c89
            try clear c92
            try clear c95
            try clear c95b0
            try clear c96
            try clear c96b0
            try clear c96b1
            try clear c100
            try clear c101
            try clear c102
            try clear c107
            try clear c108
            try clear c114
            try clear c115
            try clear c116
            try clear c117
            try clear c121
            try clear c122
            try clear c123
            try clear c124
            try clear c125
            try clear c127
            try clear c128
            try clear c129
            try clear c132
            try clear c133
            try clear c134
            try clear c135
            try clear c137
            try clear c138
            try clear c139
            try clear hcz103_0
            try clear hcz103_1
            try clear hcz103_2
            try clear hcz105_0
            try clear hcz105_1
            try clear hcz105_2
            try clear hcz109_0
            try clear hcz109_1
            try clear hcz109_2
            try clear hcz118_0
            try clear hcz118_1
            try clear hcz118_2
            try clear hcz126_0
            try clear hcz126_1
            try clear hcz126_2
            try clear hcz130_0
            try clear hcz130_1
            try clear hcz130_2
            try clear hcz136_0
            try clear hcz136_1
            try clear hcz136_2
            try clear hcz140_0
            try clear hcz140_1
            try clear hcz140_2
            try clear hcz16_0
            try clear hcz16_1
            try clear hcz16_2
            try clear hcz18_0
            try clear hcz18_1
            try clear hcz18_2
            try clear hcz24_0
            try clear hcz24_1
            try clear hcz24_2
            try clear hcz26_0
            try clear hcz26_1
            try clear hcz26_2
            try clear hcz31_0
            try clear hcz31_1
            try clear hcz31_2
            try clear hcz38_0
            try clear hcz38_1
            try clear hcz38_2
            try clear hcz45_0
            try clear hcz45_1
            try clear hcz45_2
            try clear hcz48_0
            try clear hcz48_1
            try clear hcz48_2
            try clear hcz53_0
            try clear hcz53_1
            try clear hcz53_2
            try clear hcz56_0
            try clear hcz56_1
            try clear hcz56_2
            try clear hcz71_0
            try clear hcz71_1
            try clear hcz71_2
            try clear hcz79_0
            try clear hcz79_1
            try clear hcz79_2
            try clear hcz82_0
            try clear hcz82_1
            try clear hcz82_2
            try clear hcz87_0
            try clear hcz87_1
            try clear hcz87_2
            try clear hcz8_0
            try clear hcz8_1
            try clear hcz8_2
            try clear hcz90_0
            try clear hcz90_1
            try clear hcz90_2
            try clear hfz103_0
            try clear hfz103_1
            try clear hfz103_2
            try clear hfz105_0
            try clear hfz105_1
            try clear hfz105_2
            try clear hfz109_0
            try clear hfz109_1
            try clear hfz109_2
            try clear hfz118_0
            try clear hfz118_1
            try clear hfz118_2
            try clear hfz126_0
            try clear hfz126_1
            try clear hfz126_2
            try clear hfz130_0
            try clear hfz130_1
            try clear hfz130_2
            try clear hfz136_0
            try clear hfz136_1
            try clear hfz136_2
            try clear hfz140_0
            try clear hfz140_1
            try clear hfz140_2
            try clear hfz16_0
            try clear hfz16_1
            try clear hfz16_2
            try clear hfz18_0
            try clear hfz18_1
            try clear hfz18_2
            try clear hfz24_0
            try clear hfz24_1
            try clear hfz24_2
            try clear hfz26_0
            try clear hfz26_1
            try clear hfz26_2
            try clear hfz31_0
            try clear hfz31_1
            try clear hfz31_2
            try clear hfz38_0
            try clear hfz38_1
            try clear hfz38_2
            try clear hfz45_0
            try clear hfz45_1
            try clear hfz45_2
            try clear hfz48_0
            try clear hfz48_1
            try clear hfz48_2
            try clear hfz53_0
            try clear hfz53_1
            try clear hfz53_2
            try clear hfz56_0
            try clear hfz56_1
            try clear hfz56_2
            try clear hfz71_0
            try clear hfz71_1
            try clear hfz71_2
            try clear hfz79_0
            try clear hfz79_1
            try clear hfz79_2
            try clear hfz82_0
            try clear hfz82_1
            try clear hfz82_2
            try clear hfz87_0
            try clear hfz87_1
            try clear hfz87_2
            try clear hfz8_0
            try clear hfz8_1
            try clear hfz8_2
            try clear hfz90_0
            try clear hfz90_1
            try clear hfz90_2
            try clear p2
            obtain ⟨kq, x102_98, rfl, HA, HJ98, HO_359002, HO_365002, HO_372002, HO_397002, BK345, BK358, BK364, BK371, BK396, HB⟩ := hcut
            have hl372002_98 := (Kd.R_reads' HO_372002.out).1
            rw [hl372002_98] at HO_372002
            (try simp only [hl372002_98])
            (try simp only [hl372002_98] at BK345)
            (try simp only [hl372002_98] at BK358)
            (try simp only [hl372002_98] at BK364)
            (try simp only [hl372002_98] at BK371)
            (try simp only [hl372002_98] at BK396)
            (try simp only [hl372002_98] at HO_359002)
            (try simp only [hl372002_98] at HO_365002)
            (try simp only [hl372002_98] at HO_397002)
            cases kq with
            | zero => exact absurd HA.out (by simp [laws_FnExactShiftPhoto.j2])
            | succ kj98 =>
             have H := HA.out
             clear HA
             simp only [laws_FnExactShiftPhoto.j2] at H
             by_cases c142 : x102_98 = true
             ·subst c142
              have H1 : (none) = some r := by rw [if_pos rfl] at H; exact H
              clear H
              have H := H1
              clear H1
              exact absurd H (by simp)
             ·replace c142 := Bool.eq_false_iff.mpr c142
              subst c142
              have H1 : ((laws_heldChart.f kj98 t365 t366 t383 1).bind fun t398 => (if t398 < 0 then (none) else (if t398 = t382 then (some true) else (none)))) = some r := by rw [if_neg (show ¬ (false = true) by decide)] at H; exact H
              clear H
              have H := H1
              clear H1
              replace H := Option.bind_eq_some_iff.mp H
              obtain ⟨t398, A1430, H⟩ := H
              replace H : (if t398 < 0 then (none) else (if t398 = t382 then (some true) else (none))) = some r := H
              have A143 := Aside0.mk A1430
              clear A1430
              by_cases c144 : t398 < 0
              ·rw [if_pos c144] at H
               exact absurd H (by simp)
              ·rw [if_neg c144] at H
               have c144b0 : decide (t398 < 0) = false := decide_eq_false c144
               clear c144
               by_cases c145 : t398 = t382
               ·rw [if_pos c145] at H
                have c145b0 : (t398 == t382) = true := beq_iff_eq.mpr c145
                have c145b1 : (t398 != t382) = false := bne_eq_false_iff_eq.mpr c145
                clear c145
                obtain rfl := Option.some.inj H
                have hnb146 := NB371_345.out
                have hnc146 := NB345_371.out
                have hnb147 := NB371_358.out
                have hnc147 := NB358_371.out
                have hnb148 := NB371_364.out
                have hnc148 := NB364_371.out
                have hnb149 := NB371_396.out
                have hnc149 := NB396_371.out
                have hcz150_0 : wc.cell? ⟨gb371, 0, none⟩ = some (.int .i64 t365) := (blk_cell BK371.out 0).trans rfl
                have hcz150_1 : wc.cell? ⟨gb371, 1, none⟩ = some (.int .i64 t366) := (blk_cell BK371.out 1).trans rfl
                have hcz150_2 : wc.cell? ⟨gb371, 2, none⟩ = some (.slice Ao39 t383.length co39) := (blk_cell BK371.out 2).trans rfl
                have hfz150_0 := blk_frozen BK371.out 0
                have hfz150_1 := blk_frozen BK371.out 1
                have hfz150_2 := blk_frozen BK371.out 2
                go_wp2_with (first | ((with_reducible refine gate_callee (f := 21) rfl ?_); refine goesL_ (some 105) rfl rfl Try.func21 (by kernel_rfl) rfl #[.agg #[.int .i64 t365, .int .i64 t366, .slice Ao39 t383.length co39], .int .i64 1] rfl (by (try simp only [List.map_toArray, List.map_cons, List.map_nil]); first | done | rfl | (simp only [List.length_drop, List.length_take]; rfl)) ?_; (with_reducible refine (laws_heldChart.calls kj98 t365 t366 _ _ t383 1 t398 _ ?side1 ?side2 A143.out).mono ?_); (case side1 => repeat (first | exact (Kd.R_reads' HO_372002.out).2.2 | (with_reducible refine Kd.C_alloc ?_ _) | (with_reducible refine Kd.C_drewN ?_ _) | (with_reducible refine Kd.C_drew ?_))); (case side2 => exact (Kd.R_reads' HO_372002.out).2.1); rintro e w151 ⟨rfl, hb⟩; refine ⟨_, rfl, ?_⟩; have n0_ := Aside0.mk (Kd.R_below (by (with_reducible repeat (first | apply Kd.R_alloc | apply Kd.R_drewN | apply Kd.R_drew)); exact HO_359002.out) hb); have n1_ := Aside0.mk (Kd.R_below (by (with_reducible repeat (first | apply Kd.R_alloc | apply Kd.R_drewN | apply Kd.R_drew)); exact HO_365002.out) hb); have n2_ := Aside0.mk (Kd.R_below (by (with_reducible repeat (first | apply Kd.R_alloc | apply Kd.R_drewN | apply Kd.R_drew)); exact HO_372002.out) hb); have n3_ := Aside0.mk (Kd.R_below (by (with_reducible repeat (first | apply Kd.R_alloc | apply Kd.R_drewN | apply Kd.R_drew)); exact HO_397002.out) hb); have n4_ := Aside0.mk (blk_below (g := gb345) (o := .cells #[.int .i64 a0_0, .int .i64 a0_1, .slice A0_2 l0_2.length c0_2] 24 (0, 0)) (by (with_reducible repeat (first | refine blk_drewN ?_ _ | refine blk_drew ?_ | refine blk_alloc ?_ _)); exact BK345.out) hb); have n5_ := Aside0.mk (blk_below (g := gb358) (o := .cells #[.int .i64 t352, .int .i64 t353, .slice Ao25 t354.length co25] 28 (0, 0)) (by (with_reducible repeat (first | refine blk_drewN ?_ _ | refine blk_drew ?_ | refine blk_alloc ?_ _)); exact BK358.out) hb); have n6_ := Aside0.mk (blk_below (g := gb364) (o := .cells #[.int .i64 t359, .int .i64 t360, .slice Ao32 t380.length co32] 28 (0, 0)) (by (with_reducible repeat (first | refine blk_drewN ?_ _ | refine blk_drew ?_ | refine blk_alloc ?_ _)); exact BK364.out) hb); have n7_ := Aside0.mk (blk_below (g := gb371) (o := .cells #[.int .i64 t365, .int .i64 t366, .slice Ao39 t383.length co39] 28 (0, 0)) (by (with_reducible repeat (first | refine blk_drewN ?_ _ | refine blk_drew ?_ | refine blk_alloc ?_ _)); exact BK371.out) hb); have n8_ := Aside0.mk (blk_below (g := gb396) (o := .cells #[.int .i64 t390, .int .i64 t391, .slice Ao119 t392.length co119] 28 (0, 0)) (by (with_reducible repeat (first | refine blk_drewN ?_ _ | refine blk_drew ?_ | refine blk_alloc ?_ _)); exact BK396.out) hb); have n9_ := Aside0.mk (below_step (by repeat (first | (with_reducible first | exact HB.out | apply below_alloc | apply pw_below_drewN | apply below_drew1 | refine below_set ?_ GE345.out | refine below_set ?_ GE358.out | refine below_set ?_ GE364.out | refine below_set ?_ GE371.out | refine below_set ?_ GE396.out) | exact HB.out)) hb); clear HO_359002; clear HO_365002; clear HO_372002; clear HO_397002; clear BK345; clear BK358; clear BK364; clear BK371; clear BK396; clear HB; have HO_359002 := n0_; have HO_365002 := n1_; have HO_372002 := n2_; have HO_397002 := n3_; have BK345 := n4_; have BK358 := n5_; have BK364 := n6_; have BK371 := n7_; have BK396 := n8_; have HB := n9_; clear n0_ n1_ n2_ n3_ n4_ n5_ n6_ n7_ n8_ n9_; (try clear hb); (try clear hb2); (try clear hk); (try clear hi)))
                go_ret
                exact ⟨by first | rfl | (simp [errW_none, errW_some] <;> rfl) | (simp [*, errW_none, errW_some] <;> rfl), by repeat (first | (with_reducible first | exact HB.out | apply below_alloc | apply pw_below_drewN | apply below_drew1 | refine below_set ?_ GE345.out | refine below_set ?_ GE358.out | refine below_set ?_ GE364.out | refine below_set ?_ GE371.out | refine below_set ?_ GE396.out) | exact HB.out)⟩
               ·rw [if_neg c145] at H
                exact absurd H (by simp)
          ·rw [if_neg c96] at H
           exact absurd H (by simp)
     ·replace c61 := Bool.eq_false_iff.mpr c61
      subst c61
      have H1 : (none) = some r := by rw [if_neg (show ¬ (false = true) by decide)] at H; exact H
      clear H
      have H := H1
      clear H1
      exact absurd H (by simp)

end Go.Proofs.Ytcjalfgnnabghaa.H
