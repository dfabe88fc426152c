-- by wip/pack.py of this repo
import Derived.Test.YtffgmmfkiecheaaZ00Hx0
import Derived.Test.YtffgmmfkiecheaaZ00Hx1
import Derived.Test.YtffgmmfkiecheaaZ00Hx6
import Derived.Test.YtffgmmfkiecheaaZ00Hx7
import Derived.Test.YtffgmmfkiecheaaZ00WApart
import Derived.Test.YtffgmmfkiecheaaZ00WKept
import Derived.Test.YtffgmmfkiecheaaZ00WLast
import Derived.Test.YtffgmmfkiecheaaZ00WMore
import Derived.Test.YtffgmmfkiecheaaZ00WWords
import Derived.Test.YtffgmmfkiecheaaZ00Short
namespace Go.Proofs.Ytffgmmfkiecheaa.H
open Go.RowKit Go.Proofs.YtffgmmfkiecheaaW.PrintWords Go.Proofs.YtffgmmfkiecheaaW.PrintLast Go.Proofs.YtffgmmfkiecheaaW.PrintMore
attribute [local go_sem] max2_int min2_int max_two min_two max_three min_three max_four min_four
set_option maxHeartbeats 8000000
set_option maxRecDepth 100000
set_option linter.unusedVariables false
set_option linter.unusedSimpArgs false
def laws_toRates.f (a0_0 : Int) (a0_1 : Int) (a0_2 : Int) (a0_3 : Int) (a0_4 : Int) : Option (Int × Int × Int × Int × Int) := some (a0_0, a0_1, a0_2, a0_3, a0_4)
theorem laws_toRates.calls (a0_0 : Int) (a0_1 : Int) (a0_2 : Int) (a0_3 : Int) (a0_4 : Int) (r1 : Int) (r2 : Int) (r3 : Int) (r4 : Int) (r5 : Int) (w : World) (h : laws_toRates.f a0_0 a0_1 a0_2 a0_3 a0_4 = some (r1, r2, r3, r4, r5)) :
  Calls Try.prog 8 #[.agg #[.int .i64 a0_0, .int .i64 a0_1, .int .i64 a0_2, .int .i64 a0_3, .int .i64 a0_4]] w fun e w' => e = .returned (.agg #[.int .i64 r1, .int .i64 r2, .int .i64 r3, .int .i64 r4, .int .i64 r5]) ∧ Below w.heap.size w w' := by
 have hu23 := Try.underlying23
 have hu29 := Try.underlying29
 have HB := Aside0.mk (Below.refl w.heap.size w)
 have H : (some (a0_0, a0_1, a0_2, a0_3, a0_4)) = some (r1, r2, r3, r4, r5) := h
 clear h
 simp only [Option.some.injEq, Prod.mk.injEq] at H
 obtain ⟨rfl, rfl, rfl, rfl, rfl⟩ := H
 go_enter Try.func8, Try.ntmps8
 go_wp2_with (first | ((with_reducible refine gate_dst (N := 1) rfl ?_); refine bxE 1 #[.int .i64 a0_0, .int .i64 a0_1, .int .i64 a0_2, .int .i64 a0_3, .int .i64 a0_4] 23 ?_; intro gb196 hg w2 hbox hb; have BK196 := Aside0.mk (hbox); have GW196 := gwS hg Z0; have GE196 := gwS hg Z0; replace HB := hbS Z0 hb; clear hb hbox hg) | ((with_reducible refine gate_dst (N := 2) rfl ?_); refine bxE 2 #[.int .i64 0, .int .i64 0, .int .i64 0, .int .i64 0, .int .i64 0] 29 ?_; intro gb197 hg w3 hbox hb; have BK197 := Aside0.mk (hbox); have GW197 := gwS hg Z52; have GE197 := gwS hg Z52; replace HB := hbS Z52 hb; have NB196_197 := nbL hg BK196; have NB197_196 := nbG hg BK196; replace BK196 := bkB BK196 hb; clear hb hbox hg) | ((with_reducible refine gate_dst (N := 3) rfl ?_); refine bxE 3 #[.int .i64 0, .int .i64 0, .int .i64 0, .int .i64 0, .int .i64 0] 29 ?_; intro gb198 hg w4 hbox hb; have BK198 := Aside0.mk (hbox); have GW198 := gwS hg Z39; have GE198 := gwS hg Z39; replace HB := hbS Z39 hb; have NB196_198 := nbL hg BK196; have NB198_196 := nbG hg BK196; replace BK196 := bkB BK196 hb; have NB197_198 := nbL hg BK197; have NB198_197 := nbG hg BK197; replace BK197 := bkB BK197 hb; clear hb hbox hg; have hnb5 := NB196_197.out; have hnc5 := NB197_196.out; have hnb6 := NB196_198.out; have hnc6 := NB198_196.out; obtain ⟨hcz7_0, hcz7_1, hcz7_2, hcz7_3, hcz7_4⟩ := bz5 BK196; obtain ⟨hfz7_0, hfz7_1, hfz7_2, hfz7_3, hfz7_4⟩ := fz5 BK196; have hnb8 := NB198_197.out; have hnc8 := NB197_198.out; obtain ⟨hcz9_0, hcz9_1, hcz9_2, hcz9_3, hcz9_4⟩ := bz5 BK198; obtain ⟨hfz9_0, hfz9_1, hfz9_2, hfz9_3, hfz9_4⟩ := fz5 BK198; obtain ⟨hcz10_0, hcz10_1, hcz10_2, hcz10_3, hcz10_4⟩ := bz5 BK197; obtain ⟨hfz10_0, hfz10_1, hfz10_2, hfz10_3, hfz10_4⟩ := fz5 BK197))
 refine bodyPost_ret (results_cell_row rfl _ _ gb197 29 #[.int .i64 a0_0, .int .i64 a0_1, .int .i64 a0_2, .int .i64 a0_3, .int .i64 a0_4] (0, 0) _ rfl (by (with_reducible repeat (first | refine blk_drewN ?_ _ | refine blk_drew ?_ | refine blk_alloc ?_ _)); refine blk_put (cs := #[.int .i64 a0_0, .int .i64 a0_1, .int .i64 a0_2, .int .i64 a0_3, .int .i64 0]) ?_ 4 _ rfl; (with_reducible repeat (first | refine blk_drewN ?_ _ | refine blk_drew ?_ | refine blk_alloc ?_ _)); refine blk_put (cs := #[.int .i64 a0_0, .int .i64 a0_1, .int .i64 a0_2, .int .i64 0, .int .i64 0]) ?_ 3 _ rfl; (with_reducible repeat (first | refine blk_drewN ?_ _ | refine blk_drew ?_ | refine blk_alloc ?_ _)); refine blk_put (cs := #[.int .i64 a0_0, .int .i64 a0_1, .int .i64 0, .int .i64 0, .int .i64 0]) ?_ 2 _ rfl; (with_reducible repeat (first | refine blk_drewN ?_ _ | refine blk_drew ?_ | refine blk_alloc ?_ _)); refine blk_put (cs := #[.int .i64 a0_0, .int .i64 0, .int .i64 0, .int .i64 0, .int .i64 0]) ?_ 1 _ rfl; (with_reducible repeat (first | refine blk_drewN ?_ _ | refine blk_drew ?_ | refine blk_alloc ?_ _)); refine blk_put (cs := #[.int .i64 0, .int .i64 0, .int .i64 0, .int .i64 0, .int .i64 0]) ?_ 0 _ rfl; (with_reducible repeat (first | refine blk_drewN ?_ _ | refine blk_drew ?_ | refine blk_alloc ?_ _)); refine blk_far ?_ NB197_198.out _; (with_reducible repeat (first | refine blk_drewN ?_ _ | refine blk_drew ?_ | refine blk_alloc ?_ _)); refine blk_far ?_ NB197_198.out _; (with_reducible repeat (first | refine blk_drewN ?_ _ | refine blk_drew ?_ | refine blk_alloc ?_ _)); refine blk_far ?_ NB197_198.out _; (with_reducible repeat (first | refine blk_drewN ?_ _ | refine blk_drew ?_ | refine blk_alloc ?_ _)); refine blk_far ?_ NB197_198.out _; (with_reducible repeat (first | refine blk_drewN ?_ _ | refine blk_drew ?_ | refine blk_alloc ?_ _)); refine blk_far ?_ NB197_198.out _; (with_reducible repeat (first | refine blk_drewN ?_ _ | refine blk_drew ?_ | refine blk_alloc ?_ _)); exact BK197.out) Try.underlying29 rfl Z5) rfl ?_
 exact ⟨Z4, by repeat (first | (with_reducible first | exact HB.out | apply below_alloc | apply pw_below_drewN | apply below_drew1 | refine below_set ?_ GE196.out | refine below_set ?_ GE197.out | refine below_set ?_ GE198.out) | exact HB.out)⟩
mutual
def laws_FnExactPayRoll.j0 : Nat → List (S65) → List Int → List Int → Bool → List (S48) → List Int → List Int → Bool → Bool → Int → Int → Int → Int → Int → Option (Bool)
 | 0, _, _, _, _, _, _, _, _, _, _, _, _, _, _ => none
 | k + 1, x1, x6, x7, x8, x9, x10, x11, x12, x57, x279000, x279001, x279002, x279003, x279004 => if x57 = true then (none) else ((laws_toWorkSheetS.f k x1).bind fun t312 => ((laws_eqWorkSheetS.f k x9 t312).bind fun t315 => (if t315 = true then ((laws_markWorkSheetS.f k x9 1).bind fun bt316 => (if bt316.1 < 0 then (laws_FnExactPayRoll.j1 k x1 x6 x7 x8 x10 x11 true x279000 x279001 x279002 x279003 x279004) else ((laws_eqIntS.f k x10 x6).bind fun t318 => (if t318 = true then ((laws_eqIntS.f k x11 x7).bind fun t319 => (if t319 = true then (laws_FnExactPayRoll.j1 k x1 x6 x7 x8 x10 x11 (x12 != x8) x279000 x279001 x279002 x279003 x279004) else (laws_FnExactPayRoll.j1 k x1 x6 x7 x8 x10 x11 true x279000 x279001 x279002 x279003 x279004))) else (laws_FnExactPayRoll.j1 k x1 x6 x7 x8 x10 x11 true x279000 x279001 x279002 x279003 x279004))))) else (none))))
def laws_FnExactPayRoll.j1 : Nat → List (S65) → List Int → List Int → Bool → List Int → List Int → Bool → Int → Int → Int → Int → Int → Option (Bool)
 | 0, _, _, _, _, _, _, _, _, _, _, _, _ => none
 | k + 1, x1, x6, x7, x8, x10, x11, x84, x279000, x279001, x279002, x279003, x279004 => if x84 = true then (none) else ((laws_markIntS.f k x10 1).bind fun bt320 => ((laws_markIntS.f k x11 bt320.1).bind fun bt322 => ((laws_heldIntS.f k bt320.2 1).bind fun t324 => (if t324 < 0 then (none) else ((laws_heldIntS.f k bt322.2 t324).bind fun t325 => (if t325 < 0 then (none) else (if t325 = bt322.1 then ((laws_toRates.f x279000 x279001 x279002 x279003 x279004).bind fun bt326 => ((laws_toWorkSheetS.f k x1).bind fun t331 => ((impl_PayRoll.f k bt326.1 bt326.2.1 bt326.2.2.1 bt326.2.2.2.1 bt326.2.2.2.2 t331).bind fun bt334 => ((laws_eqIntS.f k bt334.1 x6).bind fun t341 => (if t341 = true then ((laws_eqIntS.f k bt334.2.1 x7).bind fun t342 => (if t342 = true then (laws_FnExactPayRoll.j2 k bt320.2 bt322.2 bt322.1 (bt334.2.2 != x8)) else (laws_FnExactPayRoll.j2 k bt320.2 bt322.2 bt322.1 true))) else (laws_FnExactPayRoll.j2 k bt320.2 bt322.2 bt322.1 true)))))) else (none))))))))
def laws_FnExactPayRoll.j2 : Nat → List Int → List Int → Int → Bool → Option (Bool)
 | 0, _, _, _, _ => none
 | k + 1, x10, x11, x14, x127 => if x127 = true then (none) else ((laws_heldIntS.f k x10 1).bind fun t343 => (if t343 < 0 then (none) else ((laws_heldIntS.f k x11 t343).bind fun t344 => (if t344 < 0 then (none) else (if t344 = x14 then (some true) else (none))))))
end
def laws_FnExactPayRoll.f (k : Nat) (a0_0 : Int) (a0_1 : Int) (a0_2 : Int) (a0_3 : Int) (a0_4 : Int) (l1 : List (S65)) : Option (Bool) := (laws_szWorkSheetS.f l1 1048576).bind fun t279 => (if t279 < 0 then (some true) else ((laws_toRates.f a0_0 a0_1 a0_2 a0_3 a0_4).bind fun bt280 => ((laws_toWorkSheetS.f k l1).bind fun t285 => ((spec_PayRoll.f k bt280.1 bt280.2.1 bt280.2.2.1 bt280.2.2.2.1 bt280.2.2.2.2 t285).bind fun bt288 => ((laws_toWorkSheetS.f k l1).bind fun t295 => ((laws_toRates.f a0_0 a0_1 a0_2 a0_3 a0_4).bind fun bt298 => ((impl_PayRoll.f k bt298.1 bt298.2.1 bt298.2.2.1 bt298.2.2.2.1 bt298.2.2.2.2 t295).bind fun bt303 => ((laws_eqIntS.f k bt303.1 bt288.1).bind fun t310 => (if t310 = true then ((laws_eqIntS.f k bt303.2.1 bt288.2.1).bind fun t311 => (if t311 = true then (laws_FnExactPayRoll.j0 k l1 bt288.1 bt288.2.1 bt288.2.2 t295 bt303.1 bt303.2.1 bt303.2.2 (bt303.2.2 != bt288.2.2) a0_0 a0_1 a0_2 a0_3 a0_4) else (laws_FnExactPayRoll.j0 k l1 bt288.1 bt288.2.1 bt288.2.2 t295 bt303.1 bt303.2.1 bt303.2.2 true a0_0 a0_1 a0_2 a0_3 a0_4))) else (laws_FnExactPayRoll.j0 k l1 bt288.1 bt288.2.1 bt288.2.2 t295 bt303.1 bt303.2.1 bt303.2.2 true a0_0 a0_1 a0_2 a0_3 a0_4))))))))))
theorem laws_FnExactPayRoll.calls (k : Nat) (a0_0 : Int) (a0_1 : Int) (a0_2 : Int) (a0_3 : Int) (a0_4 : Int) (A1 : Option Addr) (c1 : Nat) (l1 : List (S65)) (r : Bool) (w : World) (hr1 : Kd.C k65 w A1 l1.length l1) (hc1 : l1.length ≤ c1) (h : laws_FnExactPayRoll.f k a0_0 a0_1 a0_2 a0_3 a0_4 l1 = some r) :
  Calls Try.prog 3 #[.agg #[.int .i64 a0_0, .int .i64 a0_1, .int .i64 a0_2, .int .i64 a0_3, .int .i64 a0_4], .slice A1 l1.length c1] w fun e w' => e = .returned (.bool r) ∧ Below w.heap.size w w' := by
 have hu23 := Try.underlying23
 have HR1 := Aside0.mk hr1
 have HC1 := Aside0.mk hc1
 clear hr1 hc1
 have HB := Aside0.mk (Below.refl w.heap.size w)
 have H : ((laws_szWorkSheetS.f l1 1048576).bind fun t279 => (if t279 < 0 then (some true) else ((laws_toRates.f a0_0 a0_1 a0_2 a0_3 a0_4).bind fun bt280 => ((laws_toWorkSheetS.f k l1).bind fun t285 => ((spec_PayRoll.f k bt280.1 bt280.2.1 bt280.2.2.1 bt280.2.2.2.1 bt280.2.2.2.2 t285).bind fun bt288 => ((laws_toWorkSheetS.f k l1).bind fun t295 => ((laws_toRates.f a0_0 a0_1 a0_2 a0_3 a0_4).bind fun bt298 => ((impl_PayRoll.f k bt298.1 bt298.2.1 bt298.2.2.1 bt298.2.2.2.1 bt298.2.2.2.2 t295).bind fun bt303 => ((laws_eqIntS.f k bt303.1 bt288.1).bind fun t310 => (if t310 = true then ((laws_eqIntS.f k bt303.2.1 bt288.2.1).bind fun t311 => (if t311 = true then (laws_FnExactPayRoll.j0 k l1 bt288.1 bt288.2.1 bt288.2.2 t295 bt303.1 bt303.2.1 bt303.2.2 (bt303.2.2 != bt288.2.2) a0_0 a0_1 a0_2 a0_3 a0_4) else (laws_FnExactPayRoll.j0 k l1 bt288.1 bt288.2.1 bt288.2.2 t295 bt303.1 bt303.2.1 bt303.2.2 true a0_0 a0_1 a0_2 a0_3 a0_4))) else (laws_FnExactPayRoll.j0 k l1 bt288.1 bt288.2.1 bt288.2.2 t295 bt303.1 bt303.2.1 bt303.2.2 true a0_0 a0_1 a0_2 a0_3 a0_4))))))))))) = some r := h
 clear h
 replace H := Option.bind_eq_some_iff.mp H
 obtain ⟨t279, A30, H⟩ := H
 replace H : (if t279 < 0 then (some true) else ((laws_toRates.f a0_0 a0_1 a0_2 a0_3 a0_4).bind fun bt280 => ((laws_toWorkSheetS.f k l1).bind fun t285 => ((spec_PayRoll.f k bt280.1 bt280.2.1 bt280.2.2.1 bt280.2.2.2.1 bt280.2.2.2.2 t285).bind fun bt288 => ((laws_toWorkSheetS.f k l1).bind fun t295 => ((laws_toRates.f a0_0 a0_1 a0_2 a0_3 a0_4).bind fun bt298 => ((impl_PayRoll.f k bt298.1 bt298.2.1 bt298.2.2.1 bt298.2.2.2.1 bt298.2.2.2.2 t295).bind fun bt303 => ((laws_eqIntS.f k bt303.1 bt288.1).bind fun t310 => (if t310 = true then ((laws_eqIntS.f k bt303.2.1 bt288.2.1).bind fun t311 => (if t311 = true then (laws_FnExactPayRoll.j0 k l1 bt288.1 bt288.2.1 bt288.2.2 t295 bt303.1 bt303.2.1 bt303.2.2 (bt303.2.2 != bt288.2.2) a0_0 a0_1 a0_2 a0_3 a0_4) else (laws_FnExactPayRoll.j0 k l1 bt288.1 bt288.2.1 bt288.2.2 t295 bt303.1 bt303.2.1 bt303.2.2 true a0_0 a0_1 a0_2 a0_3 a0_4))) else (laws_FnExactPayRoll.j0 k l1 bt288.1 bt288.2.1 bt288.2.2 t295 bt303.1 bt303.2.1 bt303.2.2 true a0_0 a0_1 a0_2 a0_3 a0_4)))))))))) = some r := H
 have A3 := Aside0.mk A30
 clear A30
 by_cases c4 : t279 < 0
 ·rw [if_pos c4] at H
  have c4b0 : decide (t279 < 0) = true := decide_eq_true c4
  clear c4
  obtain rfl := Option.some.inj H
  go_enter Try.func3, Try.ntmps3
  go_wp2_with (first | ((with_reducible refine gate_dst (N := 2) rfl ?_); refine bxE 2 #[.int .i64 a0_0, .int .i64 a0_1, .int .i64 a0_2, .int .i64 a0_3, .int .i64 a0_4] 23 ?_; intro gb278 hg w5 hbox hb; have BK278 := Aside0.mk (hbox); have GW278 := gwS hg Z0; have GE278 := gwS hg Z0; replace HB := hbS Z0 hb; clear hb hbox hg) | ((with_reducible refine gate_callee (f := 6) rfl ?_); refine glE (some 21) Try.func6 #[.slice A1 l1.length c1, .int .i64 1048576] ?_; (with_reducible refine (laws_szWorkSheetS.calls _ _ l1 1048576 t279 _ ?side1 ?side2 A3.out).mono ?_); (case side1 => exact Z9); (case side2 => exact HC1.out); rintro e w' ⟨rfl, ⟨nd, rfl⟩⟩; refine ⟨_, rfl, ?_⟩))
  go_ret
  exact ⟨Z4, Z2⟩
 ·rw [if_neg c4] at H
  have c4b0 : decide (t279 < 0) = false := decide_eq_false c4
  clear c4
  replace H := Option.bind_eq_some_iff.mp H
  obtain ⟨⟨t280, t281, t282, t283, t284⟩, A60, H⟩ := H
  replace H : ((laws_toWorkSheetS.f k l1).bind fun t285 => ((spec_PayRoll.f k t280 t281 t282 t283 t284 t285).bind fun bt288 => ((laws_toWorkSheetS.f k l1).bind fun t295 => ((laws_toRates.f a0_0 a0_1 a0_2 a0_3 a0_4).bind fun bt298 => ((impl_PayRoll.f k bt298.1 bt298.2.1 bt298.2.2.1 bt298.2.2.2.1 bt298.2.2.2.2 t295).bind fun bt303 => ((laws_eqIntS.f k bt303.1 bt288.1).bind fun t310 => (if t310 = true then ((laws_eqIntS.f k bt303.2.1 bt288.2.1).bind fun t311 => (if t311 = true then (laws_FnExactPayRoll.j0 k l1 bt288.1 bt288.2.1 bt288.2.2 t295 bt303.1 bt303.2.1 bt303.2.2 (bt303.2.2 != bt288.2.2) a0_0 a0_1 a0_2 a0_3 a0_4) else (laws_FnExactPayRoll.j0 k l1 bt288.1 bt288.2.1 bt288.2.2 t295 bt303.1 bt303.2.1 bt303.2.2 true a0_0 a0_1 a0_2 a0_3 a0_4))) else (laws_FnExactPayRoll.j0 k l1 bt288.1 bt288.2.1 bt288.2.2 t295 bt303.1 bt303.2.1 bt303.2.2 true a0_0 a0_1 a0_2 a0_3 a0_4)))))))) = some r := H
  have A6 := Aside0.mk A60
  clear A60
  replace H := Option.bind_eq_some_iff.mp H
  obtain ⟨t285, A70, H⟩ := H
  replace H : ((spec_PayRoll.f k t280 t281 t282 t283 t284 t285).bind fun bt288 => ((laws_toWorkSheetS.f k l1).bind fun t295 => ((laws_toRates.f a0_0 a0_1 a0_2 a0_3 a0_4).bind fun bt298 => ((impl_PayRoll.f k bt298.1 bt298.2.1 bt298.2.2.1 bt298.2.2.2.1 bt298.2.2.2.2 t295).bind fun bt303 => ((laws_eqIntS.f k bt303.1 bt288.1).bind fun t310 => (if t310 = true then ((laws_eqIntS.f k bt303.2.1 bt288.2.1).bind fun t311 => (if t311 = true then (laws_FnExactPayRoll.j0 k l1 bt288.1 bt288.2.1 bt288.2.2 t295 bt303.1 bt303.2.1 bt303.2.2 (bt303.2.2 != bt288.2.2) a0_0 a0_1 a0_2 a0_3 a0_4) else (laws_FnExactPayRoll.j0 k l1 bt288.1 bt288.2.1 bt288.2.2 t295 bt303.1 bt303.2.1 bt303.2.2 true a0_0 a0_1 a0_2 a0_3 a0_4))) else (laws_FnExactPayRoll.j0 k l1 bt288.1 bt288.2.1 bt288.2.2 t295 bt303.1 bt303.2.1 bt303.2.2 true a0_0 a0_1 a0_2 a0_3 a0_4))))))) = some r := H
  have A7 := Aside0.mk A70
  clear A70
  replace H := Option.bind_eq_some_iff.mp H
  obtain ⟨⟨t288, t291, t294⟩, A80, H⟩ := H
  replace H : ((laws_toWorkSheetS.f k l1).bind fun t295 => ((laws_toRates.f a0_0 a0_1 a0_2 a0_3 a0_4).bind fun bt298 => ((impl_PayRoll.f k bt298.1 bt298.2.1 bt298.2.2.1 bt298.2.2.2.1 bt298.2.2.2.2 t295).bind fun bt303 => ((laws_eqIntS.f k bt303.1 t288).bind fun t310 => (if t310 = true then ((laws_eqIntS.f k bt303.2.1 t291).bind fun t311 => (if t311 = true then (laws_FnExactPayRoll.j0 k l1 t288 t291 t294 t295 bt303.1 bt303.2.1 bt303.2.2 (bt303.2.2 != t294) a0_0 a0_1 a0_2 a0_3 a0_4) else (laws_FnExactPayRoll.j0 k l1 t288 t291 t294 t295 bt303.1 bt303.2.1 bt303.2.2 true a0_0 a0_1 a0_2 a0_3 a0_4))) else (laws_FnExactPayRoll.j0 k l1 t288 t291 t294 t295 bt303.1 bt303.2.1 bt303.2.2 true a0_0 a0_1 a0_2 a0_3 a0_4)))))) = some r := H
  have A8 := Aside0.mk A80
  clear A80
  replace H := Option.bind_eq_some_iff.mp H
  obtain ⟨t295, A90, H⟩ := H
  replace H : ((laws_toRates.f a0_0 a0_1 a0_2 a0_3 a0_4).bind fun bt298 => ((impl_PayRoll.f k bt298.1 bt298.2.1 bt298.2.2.1 bt298.2.2.2.1 bt298.2.2.2.2 t295).bind fun bt303 => ((laws_eqIntS.f k bt303.1 t288).bind fun t310 => (if t310 = true then ((laws_eqIntS.f k bt303.2.1 t291).bind fun t311 => (if t311 = true then (laws_FnExactPayRoll.j0 k l1 t288 t291 t294 t295 bt303.1 bt303.2.1 bt303.2.2 (bt303.2.2 != t294) a0_0 a0_1 a0_2 a0_3 a0_4) else (laws_FnExactPayRoll.j0 k l1 t288 t291 t294 t295 bt303.1 bt303.2.1 bt303.2.2 true a0_0 a0_1 a0_2 a0_3 a0_4))) else (laws_FnExactPayRoll.j0 k l1 t288 t291 t294 t295 bt303.1 bt303.2.1 bt303.2.2 true a0_0 a0_1 a0_2 a0_3 a0_4))))) = some r := H
  have A9 := Aside0.mk A90
  clear A90
  replace H := Option.bind_eq_some_iff.mp H
  obtain ⟨⟨t298, t299, t300, t301, t302⟩, A100, H⟩ := H
  replace H : ((impl_PayRoll.f k t298 t299 t300 t301 t302 t295).bind fun bt303 => ((laws_eqIntS.f k bt303.1 t288).bind fun t310 => (if t310 = true then ((laws_eqIntS.f k bt303.2.1 t291).bind fun t311 => (if t311 = true then (laws_FnExactPayRoll.j0 k l1 t288 t291 t294 t295 bt303.1 bt303.2.1 bt303.2.2 (bt303.2.2 != t294) a0_0 a0_1 a0_2 a0_3 a0_4) else (laws_FnExactPayRoll.j0 k l1 t288 t291 t294 t295 bt303.1 bt303.2.1 bt303.2.2 true a0_0 a0_1 a0_2 a0_3 a0_4))) else (laws_FnExactPayRoll.j0 k l1 t288 t291 t294 t295 bt303.1 bt303.2.1 bt303.2.2 true a0_0 a0_1 a0_2 a0_3 a0_4)))) = some r := H
  have A10 := Aside0.mk A100
  clear A100
  replace H := Option.bind_eq_some_iff.mp H
  obtain ⟨⟨t303, t306, t309⟩, A110, H⟩ := H
  replace H : ((laws_eqIntS.f k t303 t288).bind fun t310 => (if t310 = true then ((laws_eqIntS.f k t306 t291).bind fun t311 => (if t311 = true then (laws_FnExactPayRoll.j0 k l1 t288 t291 t294 t295 t303 t306 t309 (t309 != t294) a0_0 a0_1 a0_2 a0_3 a0_4) else (laws_FnExactPayRoll.j0 k l1 t288 t291 t294 t295 t303 t306 t309 true a0_0 a0_1 a0_2 a0_3 a0_4))) else (laws_FnExactPayRoll.j0 k l1 t288 t291 t294 t295 t303 t306 t309 true a0_0 a0_1 a0_2 a0_3 a0_4))) = some r := H
  have A11 := Aside0.mk A110
  clear A110
  have HC12 := Aside0.mk H
  clear H
  go_enter Try.func3, Try.ntmps3
  go_upto_region 8 with (first | ((with_reducible refine gate_dst (N := 2) rfl ?_); refine bxE 2 #[.int .i64 a0_0, .int .i64 a0_1, .int .i64 a0_2, .int .i64 a0_3, .int .i64 a0_4] 23 ?_; intro gb278 hg w13 hbox hb; have BK278 := Aside0.mk (hbox); have GW278 := gwS hg Z0; have GE278 := gwS hg Z0; replace HB := hbS Z0 hb; clear hb hbox hg) | ((with_reducible refine gate_callee (f := 6) rfl ?_); refine glE (some 21) Try.func6 #[.slice A1 l1.length c1, .int .i64 1048576] ?_; (with_reducible refine (laws_szWorkSheetS.calls _ _ l1 1048576 t279 _ ?side1 ?side2 A3.out).mono ?_); (case side1 => exact Z9); (case side2 => exact HC1.out); rintro e w' ⟨rfl, ⟨nd, rfl⟩⟩; refine ⟨_, rfl, ?_⟩; obtain ⟨hcz14_0, hcz14_1, hcz14_2, hcz14_3, hcz14_4⟩ := bz5 BK278; obtain ⟨hfz14_0, hfz14_1, hfz14_2, hfz14_3, hfz14_4⟩ := fz5 BK278) | ((with_reducible refine gate_callee (f := 8) rfl ?_); refine glE (some 26) Try.func8 #[.agg #[.int .i64 a0_0, .int .i64 a0_1, .int .i64 a0_2, .int .i64 a0_3, .int .i64 a0_4]] ?_; (with_reducible refine (laws_toRates.calls a0_0 a0_1 a0_2 a0_3 a0_4 t280 t281 t282 t283 t284 _ A6.out).mono ?_); rintro e w15 ⟨rfl, hb⟩; refine ⟨_, rfl, ?_⟩; replace BK278 := bkB BK278 hb; replace HB := hbS Z2 hb; (try clear hb)) | ((with_reducible refine gate_callee (f := 9) rfl ?_); refine glE (some 28) Try.func9 #[.slice A1 l1.length c1] ?_; (with_reducible refine (laws_toWorkSheetS.calls k _ _ l1 t285 _ ?side1 ?side2 A7.out).mono ?_); (case side1 => exact Z9); (case side2 => exact HC1.out); rintro e w16 ⟨v286, rfl, ho0, hb⟩; refine ⟨_, rfl, ?_⟩; have HO287 := Aside0.mk (Kd.R_lower ho0 (below_size Z2)); replace BK278 := bkB BK278 hb; replace HB := hbS Z2 hb; (try clear hb); (try clear ho0); obtain ⟨Ao17, co17, eo17⟩ := Kd.R_slice HO287.out; subst eo17) | ((with_reducible refine gate_callee (f := 7) rfl ?_); refine glE (some 29) Try.func7 #[.agg #[.int .i64 t280, .int .i64 t281, .int .i64 t282, .int .i64 t283, .int .i64 t284], .slice Ao17 t285.length co17] ?_; (with_reducible refine (spec_PayRoll.calls k t280 t281 t282 t283 t284 _ _ t285 t288 t291 t294 _ ?side1 ?side2 A8.out).mono ?_); (case side1 => exact (by repeat (first | exact (Kd.R_reads' HO287.out).2.2 | (with_reducible refine Kd.C_alloc ?_ _) | (with_reducible refine Kd.C_drewN ?_ _) | (with_reducible refine Kd.C_drew ?_)))); (case side2 => exact (Kd.R_reads' HO287.out).2.1); rintro e w18 ⟨v289, v292, rfl, ho0, ho1, hb⟩; refine ⟨_, rfl, ?_⟩; replace HO287 := roB HO287 hb; have HO290 := Aside0.mk (Kd.R_lower ho0 (below_size Z2)); have HO293 := Aside0.mk (Kd.R_lower ho1 (below_size Z2)); replace BK278 := bkB BK278 hb; replace HB := hbS Z2 hb; (try clear hb); (try clear ho0); (try clear ho1)) | ((with_reducible refine gate_callee (f := 9) rfl ?_); refine glE (some 34) Try.func9 #[.slice A1 l1.length c1] ?_; (with_reducible refine (laws_toWorkSheetS.calls k _ _ l1 t295 _ ?side1 ?side2 A9.out).mono ?_); (case side1 => exact Z9); (case side2 => exact HC1.out); rintro e w19 ⟨v296, rfl, ho0, hb⟩; refine ⟨_, rfl, ?_⟩; replace HO290 := roB HO290 hb; replace HO293 := roB HO293 hb; have HO297 := Aside0.mk (Kd.R_lower (Kd.R_new' ho0 (Kd.R_lt Z84)) (below_size Z2)); replace HO287 := Aside0.mk (Kd.R_elder' Z84 (Kd.R_base ho0) hb); replace BK278 := bkB BK278 hb; replace HB := hbS Z2 hb; (try clear hb); (try clear ho0); obtain ⟨hcz20_0, hcz20_1, hcz20_2, hcz20_3, hcz20_4⟩ := bz5 BK278; obtain ⟨hfz20_0, hfz20_1, hfz20_2, hfz20_3, hfz20_4⟩ := fz5 BK278) | ((with_reducible refine gate_callee (f := 8) rfl ?_); refine glE (some 37) Try.func8 #[.agg #[.int .i64 a0_0, .int .i64 a0_1, .int .i64 a0_2, .int .i64 a0_3, .int .i64 a0_4]] ?_; (with_reducible refine (laws_toRates.calls a0_0 a0_1 a0_2 a0_3 a0_4 t298 t299 t300 t301 t302 _ A10.out).mono ?_); rintro e w21 ⟨rfl, hb⟩; refine ⟨_, rfl, ?_⟩; replace HO287 := roB HO287 hb; replace HO290 := roB HO290 hb; replace HO293 := roB HO293 hb; replace HO297 := roB HO297 hb; replace BK278 := bkB BK278 hb; replace HB := hbS Z2 hb; (try clear hb); obtain ⟨Ao22, co22, eo22⟩ := Kd.R_slice HO297.out; subst eo22) | ((with_reducible refine gate_callee (f := 10) rfl ?_); refine glE (some 39) Try.func10 #[.agg #[.int .i64 t298, .int .i64 t299, .int .i64 t300, .int .i64 t301, .int .i64 t302], .slice Ao22 t295.length co22] ?_; (with_reducible refine (impl_PayRoll.calls k t298 t299 t300 t301 t302 _ _ t295 t303 t306 t309 _ ?side1 ?side2 A11.out).mono ?_); (case side1 => exact (by repeat (first | exact (Kd.R_reads' HO297.out).2.2 | (with_reducible refine Kd.C_alloc ?_ _) | (with_reducible refine Kd.C_drewN ?_ _) | (with_reducible refine Kd.C_drew ?_)))); (case side2 => exact (Kd.R_reads' HO297.out).2.1); rintro e w23 ⟨v304, v307, rfl, ho0, ho1, hb⟩; refine ⟨_, rfl, ?_⟩; replace HO287 := roB HO287 hb; replace HO297 := roB HO297 hb; have HO305 := Aside0.mk (Kd.R_lower (Kd.R_new' (Kd.R_new' ho0 (Kd.R_lt Z71)) (Kd.R_lt Z72)) (below_size Z2)); have HO308 := Aside0.mk (Kd.R_lower (Kd.R_new' (Kd.R_new' ho1 (Kd.R_lt Z71)) (Kd.R_lt Z72)) (below_size Z2)); replace HO290 := Aside0.mk (Kd.R_mono (Kd.R_told (Kd.R_told (Kd.R_old Z71 hb) (Kd.R_base ho0)) (Kd.R_base ho1)) (fun _ h_ => h_.1)); replace HO293 := Aside0.mk (Kd.R_mono (Kd.R_told (Kd.R_told (Kd.R_old Z72 hb) (Kd.R_base ho0)) (Kd.R_base ho1)) (fun _ h_ => h_.1)); replace BK278 := bkB BK278 hb; replace HB := hbS Z2 hb; (try clear hb); (try clear ho0); (try clear ho1)))
  (try simp only [Act.put, List.setIfInBounds_toArray, List.set_cons_zero, List.set_cons_succ])
  go_cut [57] (fun v57 wc => ∃ (kq : Nat) (x57_11 : Bool), v57 = .bool x57_11 ∧ Aside0 (laws_FnExactPayRoll.j0 kq l1 t288 t291 t294 t295 t303 t306 t309 x57_11 a0_0 a0_1 a0_2 a0_3 a0_4 = some r) ∧ Aside0 (kq ≤ k) ∧ Aside0 (Kd.R (Kd.int .i64) 3 wc w.heap.size (fun k_ => some k_ ≠ (v292 : Value).ownBlock ∧ some k_ ≠ (v304 : Value).ownBlock ∧ some k_ ≠ (v307 : Value).ownBlock) v289 t288) ∧ Aside0 (Kd.R (Kd.int .i64) 3 wc w.heap.size (fun k_ => some k_ ≠ (v289 : Value).ownBlock ∧ some k_ ≠ (v304 : Value).ownBlock ∧ some k_ ≠ (v307 : Value).ownBlock) v292 t291) ∧ Aside0 (Kd.R k48 48 wc w.heap.size (fun _ => True) (.slice Ao22 t295.length co22) t295) ∧ Aside0 (Kd.R (Kd.int .i64) 3 wc w.heap.size (fun k_ => some k_ ≠ (v289 : Value).ownBlock ∧ some k_ ≠ (v292 : Value).ownBlock ∧ some k_ ≠ (v307 : Value).ownBlock) v304 t303) ∧ Aside0 (Kd.R (Kd.int .i64) 3 wc w.heap.size (fun k_ => some k_ ≠ (v289 : Value).ownBlock ∧ some k_ ≠ (v292 : Value).ownBlock ∧ some k_ ≠ (v304 : Value).ownBlock) v307 t306) ∧ Aside0 (wc.heap[gb278]? = some (.cells #[.int .i64 a0_0, .int .i64 a0_1, .int .i64 a0_2, .int .i64 a0_3, .int .i64 a0_4] 23 (0, 0))) ∧ Aside0 (Below w.heap.size w wc))
  case first =>
   have H := HC12.out
   clear HC12
   replace H := Option.bind_eq_some_iff.mp H
   obtain ⟨t310, A240, H⟩ := H
   replace H : (if t310 = true then ((laws_eqIntS.f k t306 t291).bind fun t311 => (if t311 = true then (laws_FnExactPayRoll.j0 k l1 t288 t291 t294 t295 t303 t306 t309 (t309 != t294) a0_0 a0_1 a0_2 a0_3 a0_4) else (laws_FnExactPayRoll.j0 k l1 t288 t291 t294 t295 t303 t306 t309 true a0_0 a0_1 a0_2 a0_3 a0_4))) else (laws_FnExactPayRoll.j0 k l1 t288 t291 t294 t295 t303 t306 t309 true a0_0 a0_1 a0_2 a0_3 a0_4)) = some r := H
   have A24 := Aside0.mk A240
   clear A240
   by_cases c25 : t310 = true
   ·subst c25
    have H1 : ((laws_eqIntS.f k t306 t291).bind fun t311 => (if t311 = true then (laws_FnExactPayRoll.j0 k l1 t288 t291 t294 t295 t303 t306 t309 (t309 != t294) a0_0 a0_1 a0_2 a0_3 a0_4) else (laws_FnExactPayRoll.j0 k l1 t288 t291 t294 t295 t303 t306 t309 true a0_0 a0_1 a0_2 a0_3 a0_4))) = some r := by rw [if_pos rfl] at H; exact H
    clear H
    have H := H1
    clear H1
    replace H := Option.bind_eq_some_iff.mp H
    obtain ⟨t311, A260, H⟩ := H
    replace H : (if t311 = true then (laws_FnExactPayRoll.j0 k l1 t288 t291 t294 t295 t303 t306 t309 (t309 != t294) a0_0 a0_1 a0_2 a0_3 a0_4) else (laws_FnExactPayRoll.j0 k l1 t288 t291 t294 t295 t303 t306 t309 true a0_0 a0_1 a0_2 a0_3 a0_4)) = some r := H
    have A26 := Aside0.mk A260
    clear A260
    by_cases c27 : t311 = true
    ·subst c27
     have H1 : (laws_FnExactPayRoll.j0 k l1 t288 t291 t294 t295 t303 t306 t309 (t309 != t294) a0_0 a0_1 a0_2 a0_3 a0_4) = some r := by rw [if_pos rfl] at H; exact H
     clear H
     have H := H1
     clear H1
     have H' := Aside0.mk H
     clear H
     obtain ⟨Ao28, co28, eo28⟩ := Kd.R_slice HO305.out
     subst eo28
     obtain ⟨Ao29, co29, eo29⟩ := Kd.R_slice HO290.out
     subst eo29
     go_wp2_with (first | ((with_reducible refine gate_callee (f := 11) rfl ?_); refine glE (some 45) Try.func11 #[.slice Ao28 t303.length co28, .slice Ao29 t288.length co29] ?_; (with_reducible refine (laws_eqIntS.calls k _ _ t303 _ _ t288 true _ ?side1 ?side2 ?side3 ?side4 A24.out).mono ?_); (case side1 => exact Z46); (case side2 => exact (Kd.R_reads' HO305.out).2.1); (case side3 => exact Z47); (case side4 => exact (Kd.R_reads' HO290.out).2.1); rintro e w' ⟨rfl, ⟨nd, rfl⟩⟩; refine ⟨_, rfl, ?_⟩; obtain ⟨Ao30, co30, eo30⟩ := Kd.R_slice HO308.out; subst eo30; obtain ⟨Ao31, co31, eo31⟩ := Kd.R_slice HO293.out; subst eo31) | (go_at_call 11; (with_reducible refine (laws_eqIntS.calls k _ _ t306 _ _ t291 true _ ?side1 ?side2 ?side3 ?side4 A26.out).mono ?_); (case side1 => exact Z66); (case side2 => exact (Kd.R_reads' HO308.out).2.1); (case side3 => exact Z67); (case side4 => exact (Kd.R_reads' HO293.out).2.1); rintro e w' ⟨rfl, ⟨nd, rfl⟩⟩))
     go_meet
     case rel => exact ⟨_, ((t309 != t294)), Z6, H', ⟨Z57⟩, ⟨Z53⟩, ⟨Z54⟩, ⟨Z61⟩, ⟨Z55⟩, ⟨Z56⟩, ⟨Z14⟩, ⟨Z2⟩⟩
    ·replace c27 := Bool.eq_false_iff.mpr c27
     subst c27
     have H1 : (laws_FnExactPayRoll.j0 k l1 t288 t291 t294 t295 t303 t306 t309 true a0_0 a0_1 a0_2 a0_3 a0_4) = some r := by rw [if_neg (show ¬ (false = true) by decide)] at H; exact H
     clear H
     have H := H1
     clear H1
     have H' := Aside0.mk H
     clear H
     obtain ⟨Ao32, co32, eo32⟩ := Kd.R_slice HO305.out
     subst eo32
     obtain ⟨Ao33, co33, eo33⟩ := Kd.R_slice HO290.out
     subst eo33
     go_wp2_with (first | ((with_reducible refine gate_callee (f := 11) rfl ?_); refine glE (some 45) Try.func11 #[.slice Ao32 t303.length co32, .slice Ao33 t288.length co33] ?_; (with_reducible refine (laws_eqIntS.calls k _ _ t303 _ _ t288 true _ ?side1 ?side2 ?side3 ?side4 A24.out).mono ?_); (case side1 => exact Z46); (case side2 => exact (Kd.R_reads' HO305.out).2.1); (case side3 => exact Z47); (case side4 => exact (Kd.R_reads' HO290.out).2.1); rintro e w' ⟨rfl, ⟨nd, rfl⟩⟩; refine ⟨_, rfl, ?_⟩; obtain ⟨Ao34, co34, eo34⟩ := Kd.R_slice HO308.out; subst eo34; obtain ⟨Ao35, co35, eo35⟩ := Kd.R_slice HO293.out; subst eo35) | (go_at_call 11; (with_reducible refine (laws_eqIntS.calls k _ _ t306 _ _ t291 false _ ?side1 ?side2 ?side3 ?side4 A26.out).mono ?_); (case side1 => exact Z66); (case side2 => exact (Kd.R_reads' HO308.out).2.1); (case side3 => exact Z67); (case side4 => exact (Kd.R_reads' HO293.out).2.1); rintro e w' ⟨rfl, ⟨nd, rfl⟩⟩))
     go_meet
     case rel => exact ⟨_, (true), Z6, H', ⟨Z57⟩, ⟨Z53⟩, ⟨Z54⟩, ⟨Z61⟩, ⟨Z55⟩, ⟨Z56⟩, ⟨Z14⟩, ⟨Z2⟩⟩
   ·replace c25 := Bool.eq_false_iff.mpr c25
    subst c25
    have H1 : (laws_FnExactPayRoll.j0 k l1 t288 t291 t294 t295 t303 t306 t309 true a0_0 a0_1 a0_2 a0_3 a0_4) = some r := by rw [if_neg (show ¬ (false = true) by decide)] at H; exact H
    clear H
    have H := H1
    clear H1
    have H' := Aside0.mk H
    clear H
    obtain ⟨Ao36, co36, eo36⟩ := Kd.R_slice HO305.out
    subst eo36
    obtain ⟨Ao37, co37, eo37⟩ := Kd.R_slice HO290.out
    subst eo37
    go_wp2_with (first | ((with_reducible refine gate_callee (f := 11) rfl ?_); refine glE (some 45) Try.func11 #[.slice Ao36 t303.length co36, .slice Ao37 t288.length co37] ?_; (with_reducible refine (laws_eqIntS.calls k _ _ t303 _ _ t288 false _ ?side1 ?side2 ?side3 ?side4 A24.out).mono ?_); (case side1 => exact Z46); (case side2 => exact (Kd.R_reads' HO305.out).2.1); (case side3 => exact Z47); (case side4 => exact (Kd.R_reads' HO290.out).2.1); rintro e w' ⟨rfl, ⟨nd, rfl⟩⟩; refine ⟨_, rfl, ?_⟩))
    go_meet
    case rel => exact ⟨_, (true), Z6, H', ⟨Z57⟩, ⟨Z53⟩, ⟨Z54⟩, ⟨Z61⟩, ⟨Z55⟩, ⟨Z56⟩, ⟨Z14⟩, ⟨Z2⟩⟩
  case rest =>
   clear HC12
   try clear c1
   try clear c2
   try clear p2
   try clear c3
   try clear c4
   try clear c4b0
   try clear c6
   try clear c7
   try clear c8
   try clear c9
   try clear c10
   try clear c11
   try clear c25
   try clear c27
   try clear hcz14_0
   try clear hcz14_1
   try clear hcz14_2
   try clear hcz14_3
   try clear hcz14_4
   try clear hcz20_0
   try clear hcz20_1
   try clear hcz20_2
   try clear hcz20_3
   try clear hcz20_4
   try clear hfz14_0
   try clear hfz14_1
   try clear hfz14_2
   try clear hfz14_3
   try clear hfz14_4
   try clear hfz20_0
   try clear hfz20_1
   try clear hfz20_2
   try clear hfz20_3
   try clear hfz20_4
   obtain ⟨kq, x57_11, rfl, HA, HJ11, HO_6, HO_7, HO_9, HO_10, HO_11, BK278, HB⟩ := hcut
   cases kq with
   | zero => exact absurd HA.out (by simp [laws_FnExactPayRoll.j0])
   | succ kj11 =>
    have H := HA.out
    clear HA
    simp only [laws_FnExactPayRoll.j0] at H
    by_cases c38 : x57_11 = true
    ·subst c38
     have H1 : (none) = some r := by rw [if_pos rfl] at H; exact H
     clear H
     have H := H1
     clear H1
     exact absurd H (by simp)
    ·replace c38 := Bool.eq_false_iff.mpr c38
     subst c38
     have H1 : ((laws_toWorkSheetS.f kj11 l1).bind fun t312 => ((laws_eqWorkSheetS.f kj11 t295 t312).bind fun t315 => (if t315 = true then ((laws_markWorkSheetS.f kj11 t295 1).bind fun bt316 => (if bt316.1 < 0 then (laws_FnExactPayRoll.j1 kj11 l1 t288 t291 t294 t303 t306 true a0_0 a0_1 a0_2 a0_3 a0_4) else ((laws_eqIntS.f kj11 t303 t288).bind fun t318 => (if t318 = true then ((laws_eqIntS.f kj11 t306 t291).bind fun t319 => (if t319 = true then (laws_FnExactPayRoll.j1 kj11 l1 t288 t291 t294 t303 t306 (t309 != t294) a0_0 a0_1 a0_2 a0_3 a0_4) else (laws_FnExactPayRoll.j1 kj11 l1 t288 t291 t294 t303 t306 true a0_0 a0_1 a0_2 a0_3 a0_4))) else (laws_FnExactPayRoll.j1 kj11 l1 t288 t291 t294 t303 t306 true a0_0 a0_1 a0_2 a0_3 a0_4))))) else (none)))) = some r := by rw [if_neg (show ¬ (false = true) by decide)] at H; exact H
     clear H
     have H := H1
     clear H1
     replace H := Option.bind_eq_some_iff.mp H
     obtain ⟨t312, A390, H⟩ := H
     replace H : ((laws_eqWorkSheetS.f kj11 t295 t312).bind fun t315 => (if t315 = true then ((laws_markWorkSheetS.f kj11 t295 1).bind fun bt316 => (if bt316.1 < 0 then (laws_FnExactPayRoll.j1 kj11 l1 t288 t291 t294 t303 t306 true a0_0 a0_1 a0_2 a0_3 a0_4) else ((laws_eqIntS.f kj11 t303 t288).bind fun t318 => (if t318 = true then ((laws_eqIntS.f kj11 t306 t291).bind fun t319 => (if t319 = true then (laws_FnExactPayRoll.j1 kj11 l1 t288 t291 t294 t303 t306 (t309 != t294) a0_0 a0_1 a0_2 a0_3 a0_4) else (laws_FnExactPayRoll.j1 kj11 l1 t288 t291 t294 t303 t306 true a0_0 a0_1 a0_2 a0_3 a0_4))) else (laws_FnExactPayRoll.j1 kj11 l1 t288 t291 t294 t303 t306 true a0_0 a0_1 a0_2 a0_3 a0_4))))) else (none))) = some r := H
     have A39 := Aside0.mk A390
     clear A390
     replace H := Option.bind_eq_some_iff.mp H
     obtain ⟨t315, A400, H⟩ := H
     replace H : (if t315 = true then ((laws_markWorkSheetS.f kj11 t295 1).bind fun bt316 => (if bt316.1 < 0 then (laws_FnExactPayRoll.j1 kj11 l1 t288 t291 t294 t303 t306 true a0_0 a0_1 a0_2 a0_3 a0_4) else ((laws_eqIntS.f kj11 t303 t288).bind fun t318 => (if t318 = true then ((laws_eqIntS.f kj11 t306 t291).bind fun t319 => (if t319 = true then (laws_FnExactPayRoll.j1 kj11 l1 t288 t291 t294 t303 t306 (t309 != t294) a0_0 a0_1 a0_2 a0_3 a0_4) else (laws_FnExactPayRoll.j1 kj11 l1 t288 t291 t294 t303 t306 true a0_0 a0_1 a0_2 a0_3 a0_4))) else (laws_FnExactPayRoll.j1 kj11 l1 t288 t291 t294 t303 t306 true a0_0 a0_1 a0_2 a0_3 a0_4))))) else (none)) = some r := H
     have A40 := Aside0.mk A400
     clear A400
     by_cases c41 : t315 = true
     ·subst c41
      have H1 : ((laws_markWorkSheetS.f kj11 t295 1).bind fun bt316 => (if bt316.1 < 0 then (laws_FnExactPayRoll.j1 kj11 l1 t288 t291 t294 t303 t306 true a0_0 a0_1 a0_2 a0_3 a0_4) else ((laws_eqIntS.f kj11 t303 t288).bind fun t318 => (if t318 = true then ((laws_eqIntS.f kj11 t306 t291).bind fun t319 => (if t319 = true then (laws_FnExactPayRoll.j1 kj11 l1 t288 t291 t294 t303 t306 (t309 != t294) a0_0 a0_1 a0_2 a0_3 a0_4) else (laws_FnExactPayRoll.j1 kj11 l1 t288 t291 t294 t303 t306 true a0_0 a0_1 a0_2 a0_3 a0_4))) else (laws_FnExactPayRoll.j1 kj11 l1 t288 t291 t294 t303 t306 true a0_0 a0_1 a0_2 a0_3 a0_4))))) = some r := by rw [if_pos rfl] at H; exact H
      clear H
      have H := H1
      clear H1
      replace H := Option.bind_eq_some_iff.mp H
      obtain ⟨⟨t316, t317⟩, A420, H⟩ := H
      replace H : (if t316 < 0 then (laws_FnExactPayRoll.j1 kj11 l1 t288 t291 t294 t303 t306 true a0_0 a0_1 a0_2 a0_3 a0_4) else ((laws_eqIntS.f kj11 t303 t288).bind fun t318 => (if t318 = true then ((laws_eqIntS.f kj11 t306 t291).bind fun t319 => (if t319 = true then (laws_FnExactPayRoll.j1 kj11 l1 t288 t291 t294 t303 t306 (t309 != t294) a0_0 a0_1 a0_2 a0_3 a0_4) else (laws_FnExactPayRoll.j1 kj11 l1 t288 t291 t294 t303 t306 true a0_0 a0_1 a0_2 a0_3 a0_4))) else (laws_FnExactPayRoll.j1 kj11 l1 t288 t291 t294 t303 t306 true a0_0 a0_1 a0_2 a0_3 a0_4)))) = some r := H
      have A42 := Aside0.mk A420
      clear A420
      have HC43 := Aside0.mk H
      clear H
      go_upto_region 14 with (first | ((with_reducible refine gate_callee (f := 9) rfl ?_); refine glE (some 60) Try.func9 #[.slice A1 l1.length c1] ?_; (with_reducible refine (laws_toWorkSheetS.calls kj11 _ _ l1 t312 _ ?side1 ?side2 A39.out).mono ?_); (case side1 => exact Z9); (case side2 => exact HC1.out); rintro e w44 ⟨v313, rfl, ho0, hb⟩; refine ⟨_, rfl, ?_⟩; replace HO_6 := roB HO_6 hb; replace HO_7 := roB HO_7 hb; replace HO_10 := roB HO_10 hb; replace HO_11 := roB HO_11 hb; have HO314 := Aside0.mk (Kd.R_lower (Kd.R_new' ho0 (Kd.R_lt Z85)) (below_size Z2)); replace HO_9 := Aside0.mk (Kd.R_elder' Z85 (Kd.R_base ho0) hb); replace BK278 := bkB BK278 hb; replace HB := hbS Z2 hb; (try clear hb); (try clear ho0); obtain ⟨Ao45, co45, eo45⟩ := Kd.R_slice HO314.out; subst eo45) | ((with_reducible refine gate_callee (f := 12) rfl ?_); refine glE (some 61) Try.func12 #[.slice Ao22 t295.length co22, .slice Ao45 t312.length co45] ?_; (with_reducible refine (laws_eqWorkSheetS.calls kj11 _ _ t295 _ _ t312 true _ ?side1 ?side2 ?side3 ?side4 A40.out).mono ?_); (case side1 => exact (by repeat (first | exact (Kd.R_reads' HO_9.out).2.2 | (with_reducible refine Kd.C_alloc ?_ _) | (with_reducible refine Kd.C_drewN ?_ _) | (with_reducible refine Kd.C_drew ?_)))); (case side2 => exact (Kd.R_reads' HO_9.out).2.1); (case side3 => exact (by repeat (first | exact (Kd.R_reads' HO314.out).2.2 | (with_reducible refine Kd.C_alloc ?_ _) | (with_reducible refine Kd.C_drewN ?_ _) | (with_reducible refine Kd.C_drew ?_)))); (case side4 => exact (Kd.R_reads' HO314.out).2.1); rintro e w46 ⟨rfl, hb⟩; refine ⟨_, rfl, ?_⟩; replace HO_6 := roB HO_6 hb; replace HO_7 := roB HO_7 hb; replace HO_9 := roB HO_9 hb; replace HO_10 := roB HO_10 hb; replace HO_11 := roB HO_11 hb; replace HO314 := roB HO314 hb; replace BK278 := bkB BK278 hb; replace HB := hbS Z2 hb; (try clear hb)) | ((with_reducible refine gate_callee (f := 13) rfl ?_); refine glE (some 65) Try.func13 #[.slice Ao22 t295.length co22, .int .i64 1] ?_; (with_reducible refine (laws_markWorkSheetS.calls kj11 (fun k_ => some k_ = (.slice Ao22 t295.length co22 : Value).ownBlock) (.slice Ao22 t295.length co22) t295 1 t316 t317 w _ ?side1 ?side2 A42.out).mono ?_); (case side1 => exact Z2); (case side2 => exact Kd.R_tight rfl HO_9.out); rintro e w47 ⟨rfl, hy0, hb, hkp⟩; refine ⟨_, rfl, ?_⟩; replace HO_6 := Aside0.mk (Kd.R_mono (ok' := fun k_ => some k_ ≠ (v292 : Value).ownBlock ∧ some k_ ≠ (v304 : Value).ownBlock ∧ some k_ ≠ (v307 : Value).ownBlock) (Kd.R_keptB ((Kd.R_apart' HO_6.out (Kd.R_typed HO_9.out) (by decide))) hkp (fun k_ hk_ hs_ => (hk_.2) hs_)) (fun k_ hk_ => ⟨hk_.1.1.1, hk_.1.1.2.1, hk_.1.1.2.2⟩)); replace HO_7 := Aside0.mk (Kd.R_mono (ok' := fun k_ => some k_ ≠ (v289 : Value).ownBlock ∧ some k_ ≠ (v304 : Value).ownBlock ∧ some k_ ≠ (v307 : Value).ownBlock) (Kd.R_keptB ((Kd.R_apart' HO_7.out (Kd.R_typed HO_9.out) (by decide))) hkp (fun k_ hk_ hs_ => (hk_.2) hs_)) (fun k_ hk_ => ⟨hk_.1.1.1, hk_.1.1.2.1, hk_.1.1.2.2⟩)); replace HO_10 := Aside0.mk (Kd.R_mono (ok' := fun k_ => some k_ ≠ (v289 : Value).ownBlock ∧ some k_ ≠ (v292 : Value).ownBlock ∧ some k_ ≠ (v307 : Value).ownBlock) (Kd.R_keptB ((Kd.R_apart' HO_10.out (Kd.R_typed HO_9.out) (by decide))) hkp (fun k_ hk_ hs_ => (hk_.2) hs_)) (fun k_ hk_ => ⟨hk_.1.1.1, hk_.1.1.2.1, hk_.1.1.2.2⟩)); replace HO_11 := Aside0.mk (Kd.R_mono (ok' := fun k_ => some k_ ≠ (v289 : Value).ownBlock ∧ some k_ ≠ (v292 : Value).ownBlock ∧ some k_ ≠ (v304 : Value).ownBlock) (Kd.R_keptB ((Kd.R_apart' HO_11.out (Kd.R_typed HO_9.out) (by decide))) hkp (fun k_ hk_ hs_ => (hk_.2) hs_)) (fun k_ hk_ => ⟨hk_.1.1.1, hk_.1.1.2.1, hk_.1.1.2.2⟩)); replace BK278 := Aside0.mk (blk_kept Z14 hkp (fun hs_ => (fun e_ => (Kd.R_ne HO_9.out BK278.out (by decide)) e_) hs_)); replace HO_9 := Aside0.mk (Kd.R_reok rfl hy0 (fun k_ e_ => HO_9.out.1 k_ e_)); replace HO314 := Aside0.mk (Kd.R_mono (ok' := fun k_ => some k_ ≠ (.slice Ao22 t295.length co22 : Value).ownBlock) (Kd.R_keptB (HO314.out) hkp (fun k_ hk_ hs_ => (hk_.2) hs_)) (fun k_ hk_ => hk_.1.2)); replace HB := Aside0.mk (hb); (try clear hb); (try clear hkp); (try clear hy0)))
      (try simp only [Act.put, List.setIfInBounds_toArray, List.set_cons_zero, List.set_cons_succ])
      go_cut [84] (fun v84 wc => ∃ (kq : Nat) (x84_42 : Bool), v84 = .bool x84_42 ∧ Aside0 (laws_FnExactPayRoll.j1 kq l1 t288 t291 t294 t303 t306 x84_42 a0_0 a0_1 a0_2 a0_3 a0_4 = some r) ∧ Aside0 (kq ≤ kj11) ∧ Aside0 (Kd.R (Kd.int .i64) 3 wc w.heap.size (fun k_ => some k_ ≠ (v292 : Value).ownBlock ∧ some k_ ≠ (v304 : Value).ownBlock ∧ some k_ ≠ (v307 : Value).ownBlock) v289 t288) ∧ Aside0 (Kd.R (Kd.int .i64) 3 wc w.heap.size (fun k_ => some k_ ≠ (v289 : Value).ownBlock ∧ some k_ ≠ (v304 : Value).ownBlock ∧ some k_ ≠ (v307 : Value).ownBlock) v292 t291) ∧ Aside0 (Kd.R (Kd.int .i64) 3 wc w.heap.size (fun k_ => some k_ ≠ (v289 : Value).ownBlock ∧ some k_ ≠ (v292 : Value).ownBlock ∧ some k_ ≠ (v307 : Value).ownBlock) v304 t303) ∧ Aside0 (Kd.R (Kd.int .i64) 3 wc w.heap.size (fun k_ => some k_ ≠ (v289 : Value).ownBlock ∧ some k_ ≠ (v292 : Value).ownBlock ∧ some k_ ≠ (v304 : Value).ownBlock) v307 t306) ∧ Aside0 (wc.heap[gb278]? = some (.cells #[.int .i64 a0_0, .int .i64 a0_1, .int .i64 a0_2, .int .i64 a0_3, .int .i64 a0_4] 23 (0, 0))) ∧ Aside0 (Below w.heap.size w wc))
      case first =>
       have H := HC43.out
       clear HC43
       by_cases c48 : t316 < 0
       ·rw [if_pos c48] at H
        have c48b0 : decide (t316 < 0) = true := decide_eq_true c48
        clear c48
        (first | rw [c48b0] | (simp only [i64_w, i32_w]; rw [c48b0]) | skip)
        have H' := Aside0.mk H
        clear H
        go_wp2
        go_meet
        case rel => exact ⟨_, (true), Z6, H', ⟨Z81⟩, ⟨Z35⟩, ⟨Z12⟩, ⟨Z32⟩, ⟨Z33⟩, ⟨Z14⟩, ⟨Z2⟩⟩
       ·rw [if_neg c48] at H
        have c48b0 : decide (t316 < 0) = false := decide_eq_false c48
        clear c48
        (first | rw [c48b0] | (simp only [i64_w, i32_w]; rw [c48b0]) | skip)
        replace H := Option.bind_eq_some_iff.mp H
        obtain ⟨t318, A490, H⟩ := H
        replace H : (if t318 = true then ((laws_eqIntS.f kj11 t306 t291).bind fun t319 => (if t319 = true then (laws_FnExactPayRoll.j1 kj11 l1 t288 t291 t294 t303 t306 (t309 != t294) a0_0 a0_1 a0_2 a0_3 a0_4) else (laws_FnExactPayRoll.j1 kj11 l1 t288 t291 t294 t303 t306 true a0_0 a0_1 a0_2 a0_3 a0_4))) else (laws_FnExactPayRoll.j1 kj11 l1 t288 t291 t294 t303 t306 true a0_0 a0_1 a0_2 a0_3 a0_4)) = some r := H
        have A49 := Aside0.mk A490
        clear A490
        by_cases c50 : t318 = true
        ·subst c50
         have H1 : ((laws_eqIntS.f kj11 t306 t291).bind fun t319 => (if t319 = true then (laws_FnExactPayRoll.j1 kj11 l1 t288 t291 t294 t303 t306 (t309 != t294) a0_0 a0_1 a0_2 a0_3 a0_4) else (laws_FnExactPayRoll.j1 kj11 l1 t288 t291 t294 t303 t306 true a0_0 a0_1 a0_2 a0_3 a0_4))) = some r := by rw [if_pos rfl] at H; exact H
         clear H
         have H := H1
         clear H1
         replace H := Option.bind_eq_some_iff.mp H
         obtain ⟨t319, A510, H⟩ := H
         replace H : (if t319 = true then (laws_FnExactPayRoll.j1 kj11 l1 t288 t291 t294 t303 t306 (t309 != t294) a0_0 a0_1 a0_2 a0_3 a0_4) else (laws_FnExactPayRoll.j1 kj11 l1 t288 t291 t294 t303 t306 true a0_0 a0_1 a0_2 a0_3 a0_4)) = some r := H
         have A51 := Aside0.mk A510
         clear A510
         by_cases c52 : t319 = true
         ·subst c52
          have H1 : (laws_FnExactPayRoll.j1 kj11 l1 t288 t291 t294 t303 t306 (t309 != t294) a0_0 a0_1 a0_2 a0_3 a0_4) = some r := by rw [if_pos rfl] at H; exact H
          clear H
          have H := H1
          clear H1
          have H' := Aside0.mk H
          clear H
          obtain ⟨Ao53, co53, eo53⟩ := Kd.R_slice HO_10.out
          subst eo53
          obtain ⟨Ao54, co54, eo54⟩ := Kd.R_slice HO_6.out
          subst eo54
          go_wp2_with (first | (go_at_call 11; (with_reducible refine (laws_eqIntS.calls kj11 _ _ t303 _ _ t288 true _ ?side1 ?side2 ?side3 ?side4 A49.out).mono ?_); (case side1 => exact Z27); (case side2 => exact (Kd.R_reads' HO_10.out).2.1); (case side3 => exact Z20); (case side4 => exact (Kd.R_reads' HO_6.out).2.1); rintro e w' ⟨rfl, ⟨nd, rfl⟩⟩; obtain ⟨Ao55, co55, eo55⟩ := Kd.R_slice HO_11.out; subst eo55; obtain ⟨Ao56, co56, eo56⟩ := Kd.R_slice HO_7.out; subst eo56) | (go_at_call 11; (with_reducible refine (laws_eqIntS.calls kj11 _ _ t306 _ _ t291 true _ ?side1 ?side2 ?side3 ?side4 A51.out).mono ?_); (case side1 => exact Z36); (case side2 => exact (Kd.R_reads' HO_11.out).2.1); (case side3 => exact Z37); (case side4 => exact (Kd.R_reads' HO_7.out).2.1); rintro e w' ⟨rfl, ⟨nd, rfl⟩⟩))
          go_meet
          case rel => exact ⟨_, ((t309 != t294)), Z6, H', ⟨Z81⟩, ⟨Z35⟩, ⟨Z12⟩, ⟨Z32⟩, ⟨Z33⟩, ⟨Z14⟩, ⟨Z2⟩⟩
         ·replace c52 := Bool.eq_false_iff.mpr c52
          subst c52
          have H1 : (laws_FnExactPayRoll.j1 kj11 l1 t288 t291 t294 t303 t306 true a0_0 a0_1 a0_2 a0_3 a0_4) = some r := by rw [if_neg (show ¬ (false = true) by decide)] at H; exact H
          clear H
          have H := H1
          clear H1
          have H' := Aside0.mk H
          clear H
          obtain ⟨Ao57, co57, eo57⟩ := Kd.R_slice HO_10.out
          subst eo57
          obtain ⟨Ao58, co58, eo58⟩ := Kd.R_slice HO_6.out
          subst eo58
          go_wp2_with (first | (go_at_call 11; (with_reducible refine (laws_eqIntS.calls kj11 _ _ t303 _ _ t288 true _ ?side1 ?side2 ?side3 ?side4 A49.out).mono ?_); (case side1 => exact Z27); (case side2 => exact (Kd.R_reads' HO_10.out).2.1); (case side3 => exact Z20); (case side4 => exact (Kd.R_reads' HO_6.out).2.1); rintro e w' ⟨rfl, ⟨nd, rfl⟩⟩; obtain ⟨Ao59, co59, eo59⟩ := Kd.R_slice HO_11.out; subst eo59; obtain ⟨Ao60, co60, eo60⟩ := Kd.R_slice HO_7.out; subst eo60) | (go_at_call 11; (with_reducible refine (laws_eqIntS.calls kj11 _ _ t306 _ _ t291 false _ ?side1 ?side2 ?side3 ?side4 A51.out).mono ?_); (case side1 => exact Z36); (case side2 => exact (Kd.R_reads' HO_11.out).2.1); (case side3 => exact Z37); (case side4 => exact (Kd.R_reads' HO_7.out).2.1); rintro e w' ⟨rfl, ⟨nd, rfl⟩⟩))
          go_meet
          case rel => exact ⟨_, (true), Z6, H', ⟨Z81⟩, ⟨Z35⟩, ⟨Z12⟩, ⟨Z32⟩, ⟨Z33⟩, ⟨Z14⟩, ⟨Z2⟩⟩
        ·replace c50 := Bool.eq_false_iff.mpr c50
         subst c50
         have H1 : (laws_FnExactPayRoll.j1 kj11 l1 t288 t291 t294 t303 t306 true a0_0 a0_1 a0_2 a0_3 a0_4) = some r := by rw [if_neg (show ¬ (false = true) by decide)] at H; exact H
         clear H
         have H := H1
         clear H1
         have H' := Aside0.mk H
         clear H
         obtain ⟨Ao61, co61, eo61⟩ := Kd.R_slice HO_10.out
         subst eo61
         obtain ⟨Ao62, co62, eo62⟩ := Kd.R_slice HO_6.out
         subst eo62
         go_wp2_with (first | (go_at_call 11; (with_reducible refine (laws_eqIntS.calls kj11 _ _ t303 _ _ t288 false _ ?side1 ?side2 ?side3 ?side4 A49.out).mono ?_); (case side1 => exact Z27); (case side2 => exact (Kd.R_reads' HO_10.out).2.1); (case side3 => exact Z20); (case side4 => exact (Kd.R_reads' HO_6.out).2.1); rintro e w' ⟨rfl, ⟨nd, rfl⟩⟩))
         go_meet
         case rel => exact ⟨_, (true), Z6, H', ⟨Z81⟩, ⟨Z35⟩, ⟨Z12⟩, ⟨Z32⟩, ⟨Z33⟩, ⟨Z14⟩, ⟨Z2⟩⟩
      case rest =>
       clear HC43
       try clear c1
       try clear c2
       try clear p2
       try clear c3
       try clear c4
       try clear c4b0
       try clear c5
       try clear c6
       try clear c7
       try clear c8
       try clear c9
       try clear c10
       try clear c11
       try clear c12
       try clear c13
       try clear c25
       try clear c27
       try clear c38
       try clear c41
       try clear c48
       try clear c48b0
       try clear c50
       try clear c52
       try clear hcz14_0
       try clear hcz14_1
       try clear hcz14_2
       try clear hcz14_3
       try clear hcz14_4
       try clear hcz20_0
       try clear hcz20_1
       try clear hcz20_2
       try clear hcz20_3
       try clear hcz20_4
       try clear hfz14_0
       try clear hfz14_1
       try clear hfz14_2
       try clear hfz14_3
       try clear hfz14_4
       try clear hfz20_0
       try clear hfz20_1
       try clear hfz20_2
       try clear hfz20_3
       try clear hfz20_4
       try clear p2
       obtain ⟨kq, x84_42, rfl, HA, HJ42, HO_6, HO_7, HO_10, HO_11, BK278, HB⟩ := hcut
       cases kq with
       | zero => exact absurd HA.out (by simp [laws_FnExactPayRoll.j1])
       | succ kj42 =>
        have H := HA.out
        clear HA
        simp only [laws_FnExactPayRoll.j1] at H
        by_cases c63 : x84_42 = true
        ·subst c63
         have H1 : (none) = some r := by rw [if_pos rfl] at H; exact H
         clear H
         have H := H1
         clear H1
         exact absurd H (by simp)
        ·replace c63 := Bool.eq_false_iff.mpr c63
         subst c63
         have H1 : ((laws_markIntS.f kj42 t303 1).bind fun bt320 => ((laws_markIntS.f kj42 t306 bt320.1).bind fun bt322 => ((laws_heldIntS.f kj42 bt320.2 1).bind fun t324 => (if t324 < 0 then (none) else ((laws_heldIntS.f kj42 bt322.2 t324).bind fun t325 => (if t325 < 0 then (none) else (if t325 = bt322.1 then ((laws_toRates.f a0_0 a0_1 a0_2 a0_3 a0_4).bind fun bt326 => ((laws_toWorkSheetS.f kj42 l1).bind fun t331 => ((impl_PayRoll.f kj42 bt326.1 bt326.2.1 bt326.2.2.1 bt326.2.2.2.1 bt326.2.2.2.2 t331).bind fun bt334 => ((laws_eqIntS.f kj42 bt334.1 t288).bind fun t341 => (if t341 = true then ((laws_eqIntS.f kj42 bt334.2.1 t291).bind fun t342 => (if t342 = true then (laws_FnExactPayRoll.j2 kj42 bt320.2 bt322.2 bt322.1 (bt334.2.2 != t294)) else (laws_FnExactPayRoll.j2 kj42 bt320.2 bt322.2 bt322.1 true))) else (laws_FnExactPayRoll.j2 kj42 bt320.2 bt322.2 bt322.1 true)))))) else (none)))))))) = some r := by rw [if_neg (show ¬ (false = true) by decide)] at H; exact H
         clear H
         have H := H1
         clear H1
         replace H := Option.bind_eq_some_iff.mp H
         obtain ⟨⟨t320, t321⟩, A640, H⟩ := H
         replace H : ((laws_markIntS.f kj42 t306 t320).bind fun bt322 => ((laws_heldIntS.f kj42 t321 1).bind fun t324 => (if t324 < 0 then (none) else ((laws_heldIntS.f kj42 bt322.2 t324).bind fun t325 => (if t325 < 0 then (none) else (if t325 = bt322.1 then ((laws_toRates.f a0_0 a0_1 a0_2 a0_3 a0_4).bind fun bt326 => ((laws_toWorkSheetS.f kj42 l1).bind fun t331 => ((impl_PayRoll.f kj42 bt326.1 bt326.2.1 bt326.2.2.1 bt326.2.2.2.1 bt326.2.2.2.2 t331).bind fun bt334 => ((laws_eqIntS.f kj42 bt334.1 t288).bind fun t341 => (if t341 = true then ((laws_eqIntS.f kj42 bt334.2.1 t291).bind fun t342 => (if t342 = true then (laws_FnExactPayRoll.j2 kj42 t321 bt322.2 bt322.1 (bt334.2.2 != t294)) else (laws_FnExactPayRoll.j2 kj42 t321 bt322.2 bt322.1 true))) else (laws_FnExactPayRoll.j2 kj42 t321 bt322.2 bt322.1 true)))))) else (none))))))) = some r := H
         have A64 := Aside0.mk A640
         clear A640
         replace H := Option.bind_eq_some_iff.mp H
         obtain ⟨⟨t322, t323⟩, A650, H⟩ := H
         replace H : ((laws_heldIntS.f kj42 t321 1).bind fun t324 => (if t324 < 0 then (none) else ((laws_heldIntS.f kj42 t323 t324).bind fun t325 => (if t325 < 0 then (none) else (if t325 = t322 then ((laws_toRates.f a0_0 a0_1 a0_2 a0_3 a0_4).bind fun bt326 => ((laws_toWorkSheetS.f kj42 l1).bind fun t331 => ((impl_PayRoll.f kj42 bt326.1 bt326.2.1 bt326.2.2.1 bt326.2.2.2.1 bt326.2.2.2.2 t331).bind fun bt334 => ((laws_eqIntS.f kj42 bt334.1 t288).bind fun t341 => (if t341 = true then ((laws_eqIntS.f kj42 bt334.2.1 t291).bind fun t342 => (if t342 = true then (laws_FnExactPayRoll.j2 kj42 t321 t323 t322 (bt334.2.2 != t294)) else (laws_FnExactPayRoll.j2 kj42 t321 t323 t322 true))) else (laws_FnExactPayRoll.j2 kj42 t321 t323 t322 true)))))) else (none)))))) = some r := H
         have A65 := Aside0.mk A650
         clear A650
         replace H := Option.bind_eq_some_iff.mp H
         obtain ⟨t324, A660, H⟩ := H
         replace H : (if t324 < 0 then (none) else ((laws_heldIntS.f kj42 t323 t324).bind fun t325 => (if t325 < 0 then (none) else (if t325 = t322 then ((laws_toRates.f a0_0 a0_1 a0_2 a0_3 a0_4).bind fun bt326 => ((laws_toWorkSheetS.f kj42 l1).bind fun t331 => ((impl_PayRoll.f kj42 bt326.1 bt326.2.1 bt326.2.2.1 bt326.2.2.2.1 bt326.2.2.2.2 t331).bind fun bt334 => ((laws_eqIntS.f kj42 bt334.1 t288).bind fun t341 => (if t341 = true then ((laws_eqIntS.f kj42 bt334.2.1 t291).bind fun t342 => (if t342 = true then (laws_FnExactPayRoll.j2 kj42 t321 t323 t322 (bt334.2.2 != t294)) else (laws_FnExactPayRoll.j2 kj42 t321 t323 t322 true))) else (laws_FnExactPayRoll.j2 kj42 t321 t323 t322 true)))))) else (none))))) = some r := H
         have A66 := Aside0.mk A660
         clear A660
         by_cases c67 : t324 < 0
         ·rw [if_pos c67] at H
          exact absurd H (by simp)
         ·rw [if_neg c67] at H
          have c67b0 : decide (t324 < 0) = false := decide_eq_false c67
          clear c67
          replace H := Option.bind_eq_some_iff.mp H
          obtain ⟨t325, A680, H⟩ := H
          replace H : (if t325 < 0 then (none) else (if t325 = t322 then ((laws_toRates.f a0_0 a0_1 a0_2 a0_3 a0_4).bind fun bt326 => ((laws_toWorkSheetS.f kj42 l1).bind fun t331 => ((impl_PayRoll.f kj42 bt326.1 bt326.2.1 bt326.2.2.1 bt326.2.2.2.1 bt326.2.2.2.2 t331).bind fun bt334 => ((laws_eqIntS.f kj42 bt334.1 t288).bind fun t341 => (if t341 = true then ((laws_eqIntS.f kj42 bt334.2.1 t291).bind fun t342 => (if t342 = true then (laws_FnExactPayRoll.j2 kj42 t321 t323 t322 (bt334.2.2 != t294)) else (laws_FnExactPayRoll.j2 kj42 t321 t323 t322 true))) else (laws_FnExactPayRoll.j2 kj42 t321 t323 t322 true)))))) else (none))) = some r := H
          have A68 := Aside0.mk A680
          clear A680
          by_cases c69 : t325 < 0
          ·rw [if_pos c69] at H
           exact absurd H (by simp)
          ·rw [if_neg c69] at H
           have c69b0 : decide (t325 < 0) = false := decide_eq_false c69
           clear c69
           by_cases c70 : t325 = t322
           ·rw [if_pos c70] at H
            have c70b0 : (t325 == t322) = true := beq_iff_eq.mpr c70
            have c70b1 : (t325 != t322) = false := bne_eq_false_iff_eq.mpr c70
            clear c70
            replace H := Option.bind_eq_some_iff.mp H
            obtain ⟨⟨t326, t327, t328, t329, t330⟩, A710, H⟩ := H
            replace H : ((laws_toWorkSheetS.f kj42 l1).bind fun t331 => ((impl_PayRoll.f kj42 t326 t327 t328 t329 t330 t331).bind fun bt334 => ((laws_eqIntS.f kj42 bt334.1 t288).bind fun t341 => (if t341 = true then ((laws_eqIntS.f kj42 bt334.2.1 t291).bind fun t342 => (if t342 = true then (laws_FnExactPayRoll.j2 kj42 t321 t323 t322 (bt334.2.2 != t294)) else (laws_FnExactPayRoll.j2 kj42 t321 t323 t322 true))) else (laws_FnExactPayRoll.j2 kj42 t321 t323 t322 true))))) = some r := H
            have A71 := Aside0.mk A710
            clear A710
            replace H := Option.bind_eq_some_iff.mp H
            obtain ⟨t331, A720, H⟩ := H
            replace H : ((impl_PayRoll.f kj42 t326 t327 t328 t329 t330 t331).bind fun bt334 => ((laws_eqIntS.f kj42 bt334.1 t288).bind fun t341 => (if t341 = true then ((laws_eqIntS.f kj42 bt334.2.1 t291).bind fun t342 => (if t342 = true then (laws_FnExactPayRoll.j2 kj42 t321 t323 t322 (bt334.2.2 != t294)) else (laws_FnExactPayRoll.j2 kj42 t321 t323 t322 true))) else (laws_FnExactPayRoll.j2 kj42 t321 t323 t322 true)))) = some r := H
            have A72 := Aside0.mk A720
            clear A720
            replace H := Option.bind_eq_some_iff.mp H
            obtain ⟨⟨t334, t337, t340⟩, A730, H⟩ := H
            replace H : ((laws_eqIntS.f kj42 t334 t288).bind fun t341 => (if t341 = true then ((laws_eqIntS.f kj42 t337 t291).bind fun t342 => (if t342 = true then (laws_FnExactPayRoll.j2 kj42 t321 t323 t322 (t340 != t294)) else (laws_FnExactPayRoll.j2 kj42 t321 t323 t322 true))) else (laws_FnExactPayRoll.j2 kj42 t321 t323 t322 true))) = some r := H
            have A73 := Aside0.mk A730
            clear A730
            have HC74 := Aside0.mk H
            clear H
            obtain ⟨Ao75, co75, eo75⟩ := Kd.R_slice HO_10.out
            subst eo75
            go_upto_region 29 with (first | ((with_reducible refine gate_callee (f := 14) rfl ?_); refine glE (some 87) Try.func14 #[.slice Ao75 t303.length co75, .int .i64 1] ?_; (with_reducible refine (laws_markIntS.calls kj42 (fun k_ => some k_ = (.slice Ao75 t303.length co75 : Value).ownBlock) (.slice Ao75 t303.length co75) t303 1 t320 t321 w _ ?side1 ?side2 A64.out).mono ?_); (case side1 => exact Z2); (case side2 => exact Kd.R_tight rfl HO_10.out); rintro e w76 ⟨rfl, hy0, hb, hkp⟩; refine ⟨_, rfl, ?_⟩; replace HO_6 := Aside0.mk (Kd.R_mono (ok' := fun k_ => some k_ ≠ (v292 : Value).ownBlock ∧ some k_ ≠ (.slice Ao75 t303.length co75 : Value).ownBlock ∧ some k_ ≠ (v307 : Value).ownBlock) (Kd.R_keptB (HO_6.out) hkp (fun k_ hk_ hs_ => (hk_.2.1) hs_)) (fun k_ hk_ => ⟨hk_.1.1, hk_.1.2.1, hk_.1.2.2⟩)); replace HO_7 := Aside0.mk (Kd.R_mono (ok' := fun k_ => some k_ ≠ (v289 : Value).ownBlock ∧ some k_ ≠ (.slice Ao75 t303.length co75 : Value).ownBlock ∧ some k_ ≠ (v307 : Value).ownBlock) (Kd.R_keptB (HO_7.out) hkp (fun k_ hk_ hs_ => (hk_.2.1) hs_)) (fun k_ hk_ => ⟨hk_.1.1, hk_.1.2.1, hk_.1.2.2⟩)); replace HO_11 := Aside0.mk (Kd.R_mono (ok' := fun k_ => some k_ ≠ (v289 : Value).ownBlock ∧ some k_ ≠ (v292 : Value).ownBlock ∧ some k_ ≠ (.slice Ao75 t303.length co75 : Value).ownBlock) (Kd.R_keptB (HO_11.out) hkp (fun k_ hk_ hs_ => (hk_.2.2) hs_)) (fun k_ hk_ => ⟨hk_.1.1, hk_.1.2.1, hk_.1.2.2⟩)); replace BK278 := Aside0.mk (blk_kept Z14 hkp (fun hs_ => (fun e_ => (Kd.R_ne HO_10.out BK278.out (by decide)) e_) hs_)); replace HO_10 := Aside0.mk (Kd.R_reok rfl hy0 (fun k_ e_ => HO_10.out.1 k_ e_)); replace HB := Aside0.mk (hb); (try clear hb); (try clear hkp); (try clear hy0); obtain ⟨Ao77, co77, eo77⟩ := Kd.R_slice HO_11.out; subst eo77) | ((with_reducible refine gate_callee (f := 14) rfl ?_); refine glE (some 90) Try.func14 #[.slice Ao77 t306.length co77, .int .i64 t320] ?_; (with_reducible refine (laws_markIntS.calls kj42 (fun k_ => some k_ = (.slice Ao77 t306.length co77 : Value).ownBlock) (.slice Ao77 t306.length co77) t306 t320 t322 t323 w _ ?side1 ?side2 A65.out).mono ?_); (case side1 => exact Z2); (case side2 => exact Kd.R_tight rfl HO_11.out); rintro e w78 ⟨rfl, hy0, hb, hkp⟩; refine ⟨_, rfl, ?_⟩; replace HO_6 := Aside0.mk (Kd.R_mono (ok' := fun k_ => some k_ ≠ (v292 : Value).ownBlock ∧ some k_ ≠ (.slice Ao75 t303.length co75 : Value).ownBlock ∧ some k_ ≠ (.slice Ao77 t306.length co77 : Value).ownBlock) (Kd.R_keptB (HO_6.out) hkp (fun k_ hk_ hs_ => (hk_.2.2) hs_)) (fun k_ hk_ => ⟨hk_.1.1, hk_.1.2.1, hk_.1.2.2⟩)); replace HO_7 := Aside0.mk (Kd.R_mono (ok' := fun k_ => some k_ ≠ (v289 : Value).ownBlock ∧ some k_ ≠ (.slice Ao75 t303.length co75 : Value).ownBlock ∧ some k_ ≠ (.slice Ao77 t306.length co77 : Value).ownBlock) (Kd.R_keptB (HO_7.out) hkp (fun k_ hk_ hs_ => (hk_.2.2) hs_)) (fun k_ hk_ => ⟨hk_.1.1, hk_.1.2.1, hk_.1.2.2⟩)); replace HO_10 := Aside0.mk (Kd.R_mono (ok' := fun k_ => some k_ ≠ (v289 : Value).ownBlock ∧ some k_ ≠ (v292 : Value).ownBlock ∧ some k_ ≠ (.slice Ao77 t306.length co77 : Value).ownBlock) (Kd.R_keptB (HO_10.out) hkp (fun k_ hk_ hs_ => (hk_.2.2) hs_)) (fun k_ hk_ => ⟨hk_.1.1, hk_.1.2.1, hk_.1.2.2⟩)); replace BK278 := Aside0.mk (blk_kept Z14 hkp (fun hs_ => (fun e_ => (Kd.R_ne HO_11.out BK278.out (by decide)) e_) hs_)); replace HO_11 := Aside0.mk (Kd.R_reok rfl hy0 (fun k_ e_ => HO_11.out.1 k_ e_)); replace HB := Aside0.mk (hb); (try clear hb); (try clear hkp); (try clear hy0)) | ((with_reducible refine gate_callee (f := 15) rfl ?_); refine goesL_ (some 93) rfl rfl Try.func15 Z5 rfl #[.slice Ao75 t321.length co75, .int .i64 1] rfl (by (try simp only [List.map_toArray, List.map_cons, List.map_nil]); first | done | (rw [show t321.length = t303.length from (Kd.R_reads' HO_10.out).1.symm] <;> rfl) | rfl | (simp only [List.length_drop, List.length_take]; rfl)) ?_; (with_reducible refine (laws_heldIntS.calls kj42 _ _ t321 1 t324 _ ?side1 ?side2 A66.out).mono ?_); (case side1 => exact Z27); (case side2 => exact (by rw [show t321.length = t303.length from (Kd.R_reads' HO_10.out).1.symm]; exact (Kd.R_reads' HO_10.out).2.1)); rintro e w' ⟨rfl, ⟨nd, rfl⟩⟩; refine ⟨_, rfl, ?_⟩) | ((with_reducible refine gate_callee (f := 15) rfl ?_); refine goesL_ (some 98) rfl rfl Try.func15 Z5 rfl #[.slice Ao77 t323.length co77, .int .i64 t324] rfl (by (try simp only [List.map_toArray, List.map_cons, List.map_nil]); first | done | (rw [show t323.length = t306.length from (Kd.R_reads' HO_11.out).1.symm] <;> rfl) | rfl | (simp only [List.length_drop, List.length_take]; rfl)) ?_; (with_reducible refine (laws_heldIntS.calls kj42 _ _ t323 t324 t325 _ ?side1 ?side2 A68.out).mono ?_); (case side1 => exact Z36); (case side2 => exact (by rw [show t323.length = t306.length from (Kd.R_reads' HO_11.out).1.symm]; exact (Kd.R_reads' HO_11.out).2.1)); rintro e w' ⟨rfl, ⟨nd, rfl⟩⟩; refine ⟨_, rfl, ?_⟩; obtain ⟨hcz79_0, hcz79_1, hcz79_2, hcz79_3, hcz79_4⟩ := bz5 BK278; obtain ⟨hfz79_0, hfz79_1, hfz79_2, hfz79_3, hfz79_4⟩ := fz5 BK278) | ((with_reducible refine gate_callee (f := 8) rfl ?_); refine glE (some 106) Try.func8 #[.agg #[.int .i64 a0_0, .int .i64 a0_1, .int .i64 a0_2, .int .i64 a0_3, .int .i64 a0_4]] ?_; (with_reducible refine (laws_toRates.calls a0_0 a0_1 a0_2 a0_3 a0_4 t326 t327 t328 t329 t330 _ A71.out).mono ?_); rintro e w80 ⟨rfl, hb⟩; refine ⟨_, rfl, ?_⟩; replace HO_6 := roB HO_6 hb; replace HO_7 := roB HO_7 hb; replace HO_10 := roB HO_10 hb; replace HO_11 := roB HO_11 hb; replace BK278 := bkB BK278 hb; replace HB := hbS Z2 hb; (try clear hb)) | ((with_reducible refine gate_callee (f := 9) rfl ?_); refine glE (some 108) Try.func9 #[.slice A1 l1.length c1] ?_; (with_reducible refine (laws_toWorkSheetS.calls kj42 _ _ l1 t331 _ ?side1 ?side2 A72.out).mono ?_); (case side1 => exact Z9); (case side2 => exact HC1.out); rintro e w81 ⟨v332, rfl, ho0, hb⟩; refine ⟨_, rfl, ?_⟩; replace HO_6 := roB HO_6 hb; replace HO_7 := roB HO_7 hb; replace HO_10 := roB HO_10 hb; replace HO_11 := roB HO_11 hb; have HO333 := Aside0.mk (Kd.R_lower ho0 (below_size Z2)); replace BK278 := bkB BK278 hb; replace HB := hbS Z2 hb; (try clear hb); (try clear ho0); obtain ⟨Ao82, co82, eo82⟩ := Kd.R_slice HO333.out; subst eo82) | ((with_reducible refine gate_callee (f := 10) rfl ?_); refine glE (some 109) Try.func10 #[.agg #[.int .i64 t326, .int .i64 t327, .int .i64 t328, .int .i64 t329, .int .i64 t330], .slice Ao82 t331.length co82] ?_; (with_reducible refine (impl_PayRoll.calls kj42 t326 t327 t328 t329 t330 _ _ t331 t334 t337 t340 _ ?side1 ?side2 A73.out).mono ?_); (case side1 => exact (by repeat (first | exact (Kd.R_reads' HO333.out).2.2 | (with_reducible refine Kd.C_alloc ?_ _) | (with_reducible refine Kd.C_drewN ?_ _) | (with_reducible refine Kd.C_drew ?_)))); (case side2 => exact (Kd.R_reads' HO333.out).2.1); rintro e w83 ⟨v335, v338, rfl, ho0, ho1, hb⟩; refine ⟨_, rfl, ?_⟩; replace HO333 := roB HO333 hb; have HO336 := Aside0.mk (Kd.R_lower (Kd.R_new' (Kd.R_new' (Kd.R_new' (Kd.R_new' ho0 (Kd.R_lt Z35)) (Kd.R_lt Z12)) (Kd.R_lt Z32)) (Kd.R_lt Z33)) (below_size Z2)); have HO339 := Aside0.mk (Kd.R_lower (Kd.R_new' (Kd.R_new' (Kd.R_new' (Kd.R_new' ho1 (Kd.R_lt Z35)) (Kd.R_lt Z12)) (Kd.R_lt Z32)) (Kd.R_lt Z33)) (below_size Z2)); replace HO_6 := Aside0.mk (Kd.R_mono (Kd.R_told (Kd.R_told (Kd.R_old Z35 hb) (Kd.R_base ho0)) (Kd.R_base ho1)) (fun _ h_ => h_.1)); replace HO_7 := Aside0.mk (Kd.R_mono (Kd.R_told (Kd.R_told (Kd.R_old Z12 hb) (Kd.R_base ho0)) (Kd.R_base ho1)) (fun _ h_ => h_.1)); replace HO_10 := Aside0.mk (Kd.R_mono (Kd.R_told (Kd.R_told (Kd.R_old Z32 hb) (Kd.R_base ho0)) (Kd.R_base ho1)) (fun _ h_ => h_.1)); replace HO_11 := Aside0.mk (Kd.R_mono (Kd.R_told (Kd.R_told (Kd.R_old Z33 hb) (Kd.R_base ho0)) (Kd.R_base ho1)) (fun _ h_ => h_.1)); replace BK278 := bkB BK278 hb; replace HB := hbS Z2 hb; (try clear hb); (try clear ho0); (try clear ho1)))
            (try simp only [Act.put, List.setIfInBounds_toArray, List.set_cons_zero, List.set_cons_succ])
            go_cut [127] (fun v127 wc => ∃ (kq : Nat) (x127_73 : Bool), v127 = .bool x127_73 ∧ Aside0 (laws_FnExactPayRoll.j2 kq t321 t323 t322 x127_73 = some r) ∧ Aside0 (kq ≤ kj42) ∧ Aside0 (Kd.R (Kd.int .i64) 3 wc w.heap.size (fun k_ => some k_ ≠ ((.slice Ao77 t306.length co77) : Value).ownBlock) (.slice Ao75 t303.length co75) t321) ∧ Aside0 (Kd.R (Kd.int .i64) 3 wc w.heap.size (fun k_ => some k_ ≠ ((.slice Ao75 t303.length co75) : Value).ownBlock) (.slice Ao77 t306.length co77) t323) ∧ Aside0 (wc.heap[gb278]? = some (.cells #[.int .i64 a0_0, .int .i64 a0_1, .int .i64 a0_2, .int .i64 a0_3, .int .i64 a0_4] 23 (0, 0))) ∧ Aside0 (Below w.heap.size w wc))
            case first =>
             have H := HC74.out
             clear HC74
             replace H := Option.bind_eq_some_iff.mp H
             obtain ⟨t341, A840, H⟩ := H
             replace H : (if t341 = true then ((laws_eqIntS.f kj42 t337 t291).bind fun t342 => (if t342 = true then (laws_FnExactPayRoll.j2 kj42 t321 t323 t322 (t340 != t294)) else (laws_FnExactPayRoll.j2 kj42 t321 t323 t322 true))) else (laws_FnExactPayRoll.j2 kj42 t321 t323 t322 true)) = some r := H
             have A84 := Aside0.mk A840
             clear A840
             by_cases c85 : t341 = true
             ·subst c85
              have H1 : ((laws_eqIntS.f kj42 t337 t291).bind fun t342 => (if t342 = true then (laws_FnExactPayRoll.j2 kj42 t321 t323 t322 (t340 != t294)) else (laws_FnExactPayRoll.j2 kj42 t321 t323 t322 true))) = some r := by rw [if_pos rfl] at H; exact H
              clear H
              have H := H1
              clear H1
              replace H := Option.bind_eq_some_iff.mp H
              obtain ⟨t342, A860, H⟩ := H
              replace H : (if t342 = true then (laws_FnExactPayRoll.j2 kj42 t321 t323 t322 (t340 != t294)) else (laws_FnExactPayRoll.j2 kj42 t321 t323 t322 true)) = some r := H
              have A86 := Aside0.mk A860
              clear A860
              by_cases c87 : t342 = true
              ·subst c87
               have H1 : (laws_FnExactPayRoll.j2 kj42 t321 t323 t322 (t340 != t294)) = some r := by rw [if_pos rfl] at H; exact H
               clear H
               have H := H1
               clear H1
               have H' := Aside0.mk H
               clear H
               obtain ⟨Ao88, co88, eo88⟩ := Kd.R_slice HO336.out
               subst eo88
               obtain ⟨Ao89, co89, eo89⟩ := Kd.R_slice HO_6.out
               subst eo89
               go_wp2_with (first | ((with_reducible refine gate_callee (f := 11) rfl ?_); refine glE (some 115) Try.func11 #[.slice Ao88 t334.length co88, .slice Ao89 t288.length co89] ?_; (with_reducible refine (laws_eqIntS.calls kj42 _ _ t334 _ _ t288 true _ ?side1 ?side2 ?side3 ?side4 A84.out).mono ?_); (case side1 => exact Z48); (case side2 => exact (Kd.R_reads' HO336.out).2.1); (case side3 => exact Z20); (case side4 => exact (Kd.R_reads' HO_6.out).2.1); rintro e w' ⟨rfl, ⟨nd, rfl⟩⟩; refine ⟨_, rfl, ?_⟩; obtain ⟨Ao90, co90, eo90⟩ := Kd.R_slice HO339.out; subst eo90; obtain ⟨Ao91, co91, eo91⟩ := Kd.R_slice HO_7.out; subst eo91) | (go_at_call 11; (with_reducible refine (laws_eqIntS.calls kj42 _ _ t337 _ _ t291 true _ ?side1 ?side2 ?side3 ?side4 A86.out).mono ?_); (case side1 => exact Z68); (case side2 => exact (Kd.R_reads' HO339.out).2.1); (case side3 => exact Z37); (case side4 => exact (Kd.R_reads' HO_7.out).2.1); rintro e w' ⟨rfl, ⟨nd, rfl⟩⟩))
               go_meet
               case rel => exact ⟨_, ((t340 != t294)), Z6, H', ⟨Z80⟩, ⟨Z58⟩, ⟨Z59⟩, ⟨Z14⟩, ⟨Z2⟩⟩
              ·replace c87 := Bool.eq_false_iff.mpr c87
               subst c87
               have H1 : (laws_FnExactPayRoll.j2 kj42 t321 t323 t322 true) = some r := by rw [if_neg (show ¬ (false = true) by decide)] at H; exact H
               clear H
               have H := H1
               clear H1
               have H' := Aside0.mk H
               clear H
               obtain ⟨Ao92, co92, eo92⟩ := Kd.R_slice HO336.out
               subst eo92
               obtain ⟨Ao93, co93, eo93⟩ := Kd.R_slice HO_6.out
               subst eo93
               go_wp2_with (first | ((with_reducible refine gate_callee (f := 11) rfl ?_); refine glE (some 115) Try.func11 #[.slice Ao92 t334.length co92, .slice Ao93 t288.length co93] ?_; (with_reducible refine (laws_eqIntS.calls kj42 _ _ t334 _ _ t288 true _ ?side1 ?side2 ?side3 ?side4 A84.out).mono ?_); (case side1 => exact Z48); (case side2 => exact (Kd.R_reads' HO336.out).2.1); (case side3 => exact Z20); (case side4 => exact (Kd.R_reads' HO_6.out).2.1); rintro e w' ⟨rfl, ⟨nd, rfl⟩⟩; refine ⟨_, rfl, ?_⟩; obtain ⟨Ao94, co94, eo94⟩ := Kd.R_slice HO339.out; subst eo94; obtain ⟨Ao95, co95, eo95⟩ := Kd.R_slice HO_7.out; subst eo95) | (go_at_call 11; (with_reducible refine (laws_eqIntS.calls kj42 _ _ t337 _ _ t291 false _ ?side1 ?side2 ?side3 ?side4 A86.out).mono ?_); (case side1 => exact Z68); (case side2 => exact (Kd.R_reads' HO339.out).2.1); (case side3 => exact Z37); (case side4 => exact (Kd.R_reads' HO_7.out).2.1); rintro e w' ⟨rfl, ⟨nd, rfl⟩⟩))
               go_meet
               case rel => exact ⟨_, (true), Z6, H', ⟨Z80⟩, ⟨Z58⟩, ⟨Z59⟩, ⟨Z14⟩, ⟨Z2⟩⟩
             ·replace c85 := Bool.eq_false_iff.mpr c85
              subst c85
              have H1 : (laws_FnExactPayRoll.j2 kj42 t321 t323 t322 true) = some r := by rw [if_neg (show ¬ (false = true) by decide)] at H; exact H
              clear H
              have H := H1
              clear H1
              have H' := Aside0.mk H
              clear H
              obtain ⟨Ao96, co96, eo96⟩ := Kd.R_slice HO336.out
              subst eo96
              obtain ⟨Ao97, co97, eo97⟩ := Kd.R_slice HO_6.out
              subst eo97
              go_wp2_with (first | ((with_reducible refine gate_callee (f := 11) rfl ?_); refine glE (some 115) Try.func11 #[.slice Ao96 t334.length co96, .slice Ao97 t288.length co97] ?_; (with_reducible refine (laws_eqIntS.calls kj42 _ _ t334 _ _ t288 false _ ?side1 ?side2 ?side3 ?side4 A84.out).mono ?_); (case side1 => exact Z48); (case side2 => exact (Kd.R_reads' HO336.out).2.1); (case side3 => exact Z20); (case side4 => exact (Kd.R_reads' HO_6.out).2.1); rintro e w' ⟨rfl, ⟨nd, rfl⟩⟩; refine ⟨_, rfl, ?_⟩))
              go_meet
              case rel => exact ⟨_, (true), Z6, H', ⟨Z80⟩, ⟨Z58⟩, ⟨Z59⟩, ⟨Z14⟩, ⟨Z2⟩⟩
            case rest =>
             clear HC74
             try clear c1
             try clear c2
             try clear p2
             try clear c3
             try clear c4
             try clear c4b0
             try clear c5
             try clear c6
             try clear c7
             try clear c8
             try clear c9
             try clear c10
             try clear c11
             try clear c12
             try clear c13
             try clear c14
             try clear c15
             try clear c25
             try clear c27
             try clear c38
             try clear c41
             try clear c48
             try clear c48b0
             try clear c50
             try clear c52
             try clear c63
             try clear c67
             try clear c67b0
             try clear c69
             try clear c69b0
             try clear c70
             try clear c70b0
             try clear c70b1
             try clear c85
             try clear c87
             try clear hcz14_0
             try clear hcz14_1
             try clear hcz14_2
             try clear hcz14_3
             try clear hcz14_4
             try clear hcz20_0
             try clear hcz20_1
             try clear hcz20_2
             try clear hcz20_3
             try clear hcz20_4
             try clear hcz79_0
             try clear hcz79_1
             try clear hcz79_2
             try clear hcz79_3
             try clear hcz79_4
             try clear hfz14_0
             try clear hfz14_1
             try clear hfz14_2
             try clear hfz14_3
             try clear hfz14_4
             try clear hfz20_0
             try clear hfz20_1
             try clear hfz20_2
             try clear hfz20_3
             try clear hfz20_4
             try clear hfz79_0
             try clear hfz79_1
             try clear hfz79_2
             try clear hfz79_3
             try clear hfz79_4
             try clear p2
             obtain ⟨kq, x127_73, rfl, HA, HJ73, HO_10, HO_11, BK278, HB⟩ := hcut
             have hl10_73 := (Kd.R_reads' HO_10.out).1
             rw [hl10_73] at HO_10
             (try simp only [hl10_73])
             (try simp only [hl10_73] at BK278)
             (try simp only [hl10_73] at HO_11)
             have hl11_73 := (Kd.R_reads' HO_11.out).1
             rw [hl11_73] at HO_11
             (try simp only [hl11_73])
             (try simp only [hl11_73] at BK278)
             (try simp only [hl11_73] at HO_10)
             cases kq with
             | zero => exact absurd HA.out (by simp [laws_FnExactPayRoll.j2])
             | succ kj73 =>
              have H := HA.out
              clear HA
              simp only [laws_FnExactPayRoll.j2] at H
              by_cases c98 : x127_73 = true
              ·subst c98
               have H1 : (none) = some r := by rw [if_pos rfl] at H; exact H
               clear H
               have H := H1
               clear H1
               exact absurd H (by simp)
              ·replace c98 := Bool.eq_false_iff.mpr c98
               subst c98
               have H1 : ((laws_heldIntS.f kj73 t321 1).bind fun t343 => (if t343 < 0 then (none) else ((laws_heldIntS.f kj73 t323 t343).bind fun t344 => (if t344 < 0 then (none) else (if t344 = t322 then (some true) else (none)))))) = some r := by rw [if_neg (show ¬ (false = true) by decide)] at H; exact H
               clear H
               have H := H1
               clear H1
               replace H := Option.bind_eq_some_iff.mp H
               obtain ⟨t343, A990, H⟩ := H
               replace H : (if t343 < 0 then (none) else ((laws_heldIntS.f kj73 t323 t343).bind fun t344 => (if t344 < 0 then (none) else (if t344 = t322 then (some true) else (none))))) = some r := H
               have A99 := Aside0.mk A990
               clear A990
               by_cases c100 : t343 < 0
               ·rw [if_pos c100] at H
                exact absurd H (by simp)
               ·rw [if_neg c100] at H
                have c100b0 : decide (t343 < 0) = false := decide_eq_false c100
                clear c100
                replace H := Option.bind_eq_some_iff.mp H
                obtain ⟨t344, A1010, H⟩ := H
                replace H : (if t344 < 0 then (none) else (if t344 = t322 then (some true) else (none))) = some r := H
                have A101 := Aside0.mk A1010
                clear A1010
                by_cases c102 : t344 < 0
                ·rw [if_pos c102] at H
                 exact absurd H (by simp)
                ·rw [if_neg c102] at H
                 have c102b0 : decide (t344 < 0) = false := decide_eq_false c102
                 clear c102
                 by_cases c103 : t344 = t322
                 ·rw [if_pos c103] at H
                  have c103b0 : (t344 == t322) = true := beq_iff_eq.mpr c103
                  have c103b1 : (t344 != t322) = false := bne_eq_false_iff_eq.mpr c103
                  clear c103
                  obtain rfl := Option.some.inj H
                  go_wp2_with (first | ((with_reducible refine gate_callee (f := 15) rfl ?_); refine glE (some 130) Try.func15 #[.slice Ao75 t321.length co75, .int .i64 1] ?_; (with_reducible refine (laws_heldIntS.calls kj73 _ _ t321 1 t343 _ ?side1 ?side2 A99.out).mono ?_); (case side1 => exact Z27); (case side2 => exact (Kd.R_reads' HO_10.out).2.1); rintro e w' ⟨rfl, ⟨nd, rfl⟩⟩; refine ⟨_, rfl, ?_⟩) | ((with_reducible refine gate_callee (f := 15) rfl ?_); refine glE (some 135) Try.func15 #[.slice Ao77 t323.length co77, .int .i64 t343] ?_; (with_reducible refine (laws_heldIntS.calls kj73 _ _ t323 t343 t344 _ ?side1 ?side2 A101.out).mono ?_); (case side1 => exact Z36); (case side2 => exact (Kd.R_reads' HO_11.out).2.1); rintro e w' ⟨rfl, ⟨nd, rfl⟩⟩; refine ⟨_, rfl, ?_⟩))
                  go_ret
                  exact ⟨Z4, Z2⟩
                 ·rw [if_neg c103] at H
                  exact absurd H (by simp)
           ·rw [if_neg c70] at H
            exact absurd H (by simp)
     ·replace c41 := Bool.eq_false_iff.mpr c41
      subst c41
      have H1 : (none) = some r := by rw [if_neg (show ¬ (false = true) by decide)] at H; exact H
      clear H
      have H := H1
      clear H1
      exact absurd H (by simp)
end Go.Proofs.Ytffgmmfkiecheaa.H
