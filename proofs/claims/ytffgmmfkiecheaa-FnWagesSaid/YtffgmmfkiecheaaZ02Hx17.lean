-- by wip/pack.py of this repo
import Derived.Test.YtffgmmfkiecheaaZ02Hx0
import Derived.Test.YtffgmmfkiecheaaZ02Hx4
import Derived.Test.YtffgmmfkiecheaaZ02Hx6
import Derived.Test.YtffgmmfkiecheaaZ02Hx7
import Derived.Test.YtffgmmfkiecheaaZ02Hx10
import Derived.Test.YtffgmmfkiecheaaZ02Hx14
import Derived.Test.YtffgmmfkiecheaaZ02Hx15
import Derived.Test.YtffgmmfkiecheaaZ02Hx16
import Derived.Test.YtffgmmfkiecheaaZ02WLast
import Derived.Test.YtffgmmfkiecheaaZ02WMore
import Derived.Test.YtffgmmfkiecheaaZ02WTab
import Derived.Test.YtffgmmfkiecheaaZ02WWords
import Derived.Test.YtffgmmfkiecheaaZ02Short
namespace Go.Proofs.Ytffgmmfkiecheaa.H
open Go.RowKit Go.Proofs.YtffgmmfkiecheaaW.PrintWords Go.Proofs.YtffgmmfkiecheaaW.PrintLast Go.Proofs.YtffgmmfkiecheaaW.PrintMore
attribute [local go_sem] max2_int min2_int max_two min_two max_three min_three max_four min_four
set_option maxHeartbeats 80000000
set_option maxRecDepth 100000
set_option linter.unusedVariables false
set_option linter.unusedSimpArgs false
mutual
def laws_FnWages.j0 : Nat → List Int → List (S48) → List Int → List Int → Bool → Bool → Int → Int → Int → Int → Int → Option (Bool)
 | 0, _, _, _, _, _, _, _, _, _, _, _ => none
 | k + 1, x0, x4, x5, x6, x7, x75, x749000, x749001, x749002, x749003, x749004 => if x75 = true then (none) else (laws_FnWages.l0 k x0 x4 x5 x6 x7 0 0 x749000 x749001 x749002 x749003 x749004)
def laws_FnWages.l0 : Nat → List Int → List (S48) → List Int → List Int → Bool → Int → Int → Int → Int → Int → Int → Int → Option (Bool)
 | 0, _, _, _, _, _, _, _, _, _, _, _, _ => none
 | k + 1, x0, x4, x5, x6, x7, x11, x12, x749000, x749001, x749002, x749003, x749004 => if x12 < (x4.length : Int) then (laws_FnWages.j2 k x0 x4 x5 x6 x7 x11 x12 x7 x749000 x749001 x749002 x749003 x749004) else (laws_FnWages.j2 k x0 x4 x5 x6 x7 x11 x12 false x749000 x749001 x749002 x749003 x749004)
def laws_FnWages.j2 : Nat → List Int → List (S48) → List Int → List Int → Bool → Int → Int → Bool → Int → Int → Int → Int → Int → Option (Bool)
 | 0, _, _, _, _, _, _, _, _, _, _, _, _, _ => none
 | k + 1, x0, x4, x5, x6, x7, x11, x12, x82, x749000, x749001, x749002, x749003, x749004 => if x82 = true then (if 0 ≤ x12 then (if x12 < (x4.length : Int) then ((impl_WageOf.f x749000 x749001 x749002 x749003 x749004 ((rd_T48 x4 x12).f0) ((rd_T48 x4 x12).f1) ((rd_T48 x4 x12).f2) ((rd_T48 x4 x12).f3) ((rd_T48 x4 x12).f4)).bind fun bt766 => (if bt766.2 = true then (if bt766.1 < x749002 then (none) else ((laws_rHas.f k x5 ((rd_T48 x4 x12).f0)).bind fun t769 => (if t769 = true then (laws_FnWages.l0 k x0 x4 x5 x6 x7 (wrap64 (x11 + bt766.1)) (wrap64 (x12 + 1)) x749000 x749001 x749002 x749003 x749004) else (none)))) else (none))) else (none)) else (none)) else (if x7 = true then ((laws_rSum.f k x6).bind fun t770 => (laws_FnWages.j3 k x0 (t770 != x11))) else (laws_FnWages.j3 k x0 false))
def laws_FnWages.j3 : Nat → List Int → Bool → Option (Bool)
 | 0, _, _ => none
 | k + 1, x0, x121 => if x121 = true then (none) else ((spec_DrawKnotsForWage.f x0).bind fun bt771 => ((impl_KnotsForWage.f k bt771.1 bt771.2.1 bt771.2.2.1 bt771.2.2.2.1 bt771.2.2.2.2.1 bt771.2.2.2.2.2).bind fun bt778 => ((spec_KnotsForWage.f k bt771.1 bt771.2.1 bt771.2.2.1 bt771.2.2.2.1 bt771.2.2.2.2.1 bt771.2.2.2.2.2).bind fun bt780 => (if bt778.1 = bt780.1 then (laws_FnWages.j4 k x0 bt771.2.2.2.2.2 bt778.1 bt778.2 (bt778.2 != bt780.2) bt771.1 bt771.2.1 bt771.2.2.1 bt771.2.2.2.1 bt771.2.2.2.2.1) else (laws_FnWages.j4 k x0 bt771.2.2.2.2.2 bt778.1 bt778.2 true bt771.1 bt771.2.1 bt771.2.2.1 bt771.2.2.2.1 bt771.2.2.2.2.1)))))
def laws_FnWages.j4 : Nat → List Int → Int → Int → Bool → Bool → Int → Int → Int → Int → Int → Option (Bool)
 | 0, _, _, _, _, _, _, _, _, _, _ => none
 | k + 1, x0, x16, x17, x18, x146, x778000, x778001, x778002, x778003, x778004 => if x146 = true then (none) else (if x18 = true then ((impl_WageOf.f x778000 x778001 x778002 x778003 x778004 1 0 x17 0 0).bind fun bt782 => (if bt782.2 = true then (laws_FnWages.j5 k x0 x16 x17 (decide (bt782.1 < x16)) x778000 x778001 x778002 x778003 x778004) else (laws_FnWages.j5 k x0 x16 x17 true x778000 x778001 x778002 x778003 x778004))) else (laws_FnWages.j6 k x0))
def laws_FnWages.j6 : Nat → List Int → Option (Bool)
 | 0, _ => none
 | k + 1, x0 => (spec_DrawWagesBetween.f k x0).bind fun bt786 => ((impl_WagesBetween.f k bt786.1 bt786.2.1 bt786.2.2.1 bt786.2.2.2.1 bt786.2.2.2.2.1 bt786.2.2.2.2.2.1 bt786.2.2.2.2.2.2.1 bt786.2.2.2.2.2.2.2.1 bt786.2.2.2.2.2.2.2.2).bind fun bt798 => ((spec_WagesBetween.f k bt786.1 bt786.2.1 bt786.2.2.1 bt786.2.2.2.1 bt786.2.2.2.2.1 bt786.2.2.2.2.2.1 bt786.2.2.2.2.2.2.1 bt786.2.2.2.2.2.2.2.1 bt786.2.2.2.2.2.2.2.2).bind fun bt800 => (if bt798.1 = bt800.1 then (if (bt798.2 != bt800.2) = true then (laws_FnWages.j7 k x0 true) else (laws_FnWages.j7 k x0 (decide (bt798.1 < 0)))) else (laws_FnWages.j7 k x0 true))))
def laws_FnWages.j7 : Nat → List Int → Bool → Option (Bool)
 | 0, _, _ => none
 | k + 1, x0, x213 => if x213 = true then (none) else ((spec_DrawWageOf.f x0).bind fun bt802 => ((impl_WageOf.f bt802.1 bt802.2.1 bt802.2.2.1 bt802.2.2.2.1 bt802.2.2.2.2.1 bt802.2.2.2.2.2.1 bt802.2.2.2.2.2.2.1 bt802.2.2.2.2.2.2.2.1 bt802.2.2.2.2.2.2.2.2.1 bt802.2.2.2.2.2.2.2.2.2).bind fun bt814 => ((spec_WageOf.f bt802.1 bt802.2.1 bt802.2.2.1 bt802.2.2.2.1 bt802.2.2.2.2.1 bt802.2.2.2.2.2.1 bt802.2.2.2.2.2.2.1 bt802.2.2.2.2.2.2.2.1 bt802.2.2.2.2.2.2.2.2.1 bt802.2.2.2.2.2.2.2.2.2).bind fun bt816 => (if bt814.1 = bt816.1 then (if (bt814.2 == bt816.2) = true then ((impl_AreRates.f bt802.1 bt802.2.1 bt802.2.2.1 bt802.2.2.2.1 bt802.2.2.2.2.1).bind fun t818 => (if t818 = true then ((impl_IsWorkSheet.f bt802.2.2.2.2.2.1 bt802.2.2.2.2.2.2.1 bt802.2.2.2.2.2.2.2.1 bt802.2.2.2.2.2.2.2.2.1 bt802.2.2.2.2.2.2.2.2.2).bind fun t819 => (some (bt814.2 == t819))) else (some (bt814.2 == false)))) else (none)) else (none)))))
def laws_FnWages.j5 : Nat → List Int → Int → Int → Bool → Int → Int → Int → Int → Int → Option (Bool)
 | 0, _, _, _, _, _, _, _, _, _ => none
 | k + 1, x0, x16, x17, x161, x778000, x778001, x778002, x778003, x778004 => if x161 = true then (none) else ((impl_WageOf.f x778000 x778001 x778002 x778003 x778004 1 0 (wrap64 (x17 - 1)) 0 0).bind fun bt784 => (if bt784.2 = true then (if bt784.1 ≥ x16 then (none) else (laws_FnWages.j6 k x0)) else (laws_FnWages.j6 k x0)))
end
def laws_FnWages.f (k : Nat) (l0 : List Int) : Option (Bool) := (laws_rBig.f l0).bind fun t739 => (if t739 = true then (some true) else ((spec_DrawPayRoll.f k l0).bind fun bt740 => ((impl_PayRoll.f k bt740.1 bt740.2.1 bt740.2.2.1 bt740.2.2.2.1 bt740.2.2.2.2.1 bt740.2.2.2.2.2).bind fun bt749 => ((spec_PayRoll.f k bt740.1 bt740.2.1 bt740.2.2.1 bt740.2.2.2.1 bt740.2.2.2.2.1 bt740.2.2.2.2.2).bind fun bt756 => (if (bt749.2.2 != bt756.2.2) = true then (laws_FnWages.j0 k l0 bt740.2.2.2.2.2 bt749.1 bt749.2.1 bt749.2.2 true bt740.1 bt740.2.1 bt740.2.2.1 bt740.2.2.2.1 bt740.2.2.2.2.1) else ((laws_rInts.f k bt749.1 bt756.1).bind fun t763 => (if t763 = true then ((laws_rInts.f k bt749.2.1 bt756.2.1).bind fun t764 => (laws_FnWages.j0 k l0 bt740.2.2.2.2.2 bt749.1 bt749.2.1 bt749.2.2 (!t764) bt740.1 bt740.2.1 bt740.2.2.1 bt740.2.2.2.1 bt740.2.2.2.2.1)) else (laws_FnWages.j0 k l0 bt740.2.2.2.2.2 bt749.1 bt749.2.1 bt749.2.2 true bt740.1 bt740.2.1 bt740.2.2.1 bt740.2.2.2.1 bt740.2.2.2.2.1))))))))
def laws_FnWages.T12 : Bool × List (List Nat × List Nat) := (true, [([], []), ([], []), ([], []), ([1, 2], [1, 2]), ([3], [3]), ([0, 4], [0, 4]), ([5], [5]), ([6], [6]), ([6], [6]), ([7, 5, 0, 1, 2, 3, 4, 5, 6, 7], [7]), ([8, 9, 0, 1, 2, 3, 4, 5, 6, 7, 8, 9], [8])])
def laws_FnWages.B12 : List Nat := [0, 0, 0, 6, 14, 31, 63, 127, 127, 255, 1023]
theorem laws_FnWages.tab12 : rtab .any (opsOf Try.f5 12) = laws_FnWages.T12 := by kernel_rfl
theorem laws_FnWages.bits12 : waitsOk laws_FnWages.T12.2 laws_FnWages.B12 = true := by kernel_rfl
theorem laws_FnWages.calls (k : Nat) (A0 : Option Addr) (c0 : Nat) (l0 : List Int) (r : Bool) (w : World) (M0 : Kd.C (Kd.int .u8) w A0 l0.length l0) (M1 : l0.length ≤ c0) (h : laws_FnWages.f k l0 = some r) :
  Calls Try.prog 5 #[.slice A0 l0.length c0] w fun e w' => e = .returned (.bool r) ∧ Below w.heap.size w w' := by
 have hu29 := Try.underlying29; have hu48 := Try.underlying48; have Hs := Aside0.mk M0; have Ht := Aside0.mk M1; clear M0 M1; have HB := aM (Below.refl w.heap.size w); have H : ((laws_rBig.f l0).bind fun Gv => (if Gv = true then (some true) else ((spec_DrawPayRoll.f k l0).bind fun Aa => ((impl_PayRoll.f k Aa.1 Aa.2.1 Aa.2.2.1 Aa.2.2.2.1 Aa.2.2.2.2.1 Aa.2.2.2.2.2).bind fun Ac => ((spec_PayRoll.f k Aa.1 Aa.2.1 Aa.2.2.1 Aa.2.2.2.1 Aa.2.2.2.2.1 Aa.2.2.2.2.2).bind fun Bd => (if (Ac.2.2 != Bd.2.2) = true then (laws_FnWages.j0 k l0 Aa.2.2.2.2.2 Ac.1 Ac.2.1 Ac.2.2 true Aa.1 Aa.2.1 Aa.2.2.1 Aa.2.2.2.1 Aa.2.2.2.2.1) else ((laws_rInts.f k Ac.1 Bd.1).bind fun C4 => (if C4 = true then ((laws_rInts.f k Ac.2.1 Bd.2.1).bind fun Cn => (laws_FnWages.j0 k l0 Aa.2.2.2.2.2 Ac.1 Ac.2.1 Ac.2.2 (!Cn) Aa.1 Aa.2.1 Aa.2.2.1 Aa.2.2.2.1 Aa.2.2.2.2.1)) else (laws_FnWages.j0 k l0 Aa.2.2.2.2.2 Ac.1 Ac.2.1 Ac.2.2 true Aa.1 Aa.2.1 Aa.2.2.1 Aa.2.2.2.1 Aa.2.2.2.2.1))))))))) = some r := h; clear h; replace H := Option.bind_eq_some_iff.mp H; obtain ⟨Gv, M2, H⟩ := H; replace H : (if Gv = true then (some true) else ((spec_DrawPayRoll.f k l0).bind fun Aa => ((impl_PayRoll.f k Aa.1 Aa.2.1 Aa.2.2.1 Aa.2.2.2.1 Aa.2.2.2.2.1 Aa.2.2.2.2.2).bind fun Ac => ((spec_PayRoll.f k Aa.1 Aa.2.1 Aa.2.2.1 Aa.2.2.2.1 Aa.2.2.2.2.1 Aa.2.2.2.2.2).bind fun Bd => (if (Ac.2.2 != Bd.2.2) = true then (laws_FnWages.j0 k l0 Aa.2.2.2.2.2 Ac.1 Ac.2.1 Ac.2.2 true Aa.1 Aa.2.1 Aa.2.2.1 Aa.2.2.2.1 Aa.2.2.2.2.1) else ((laws_rInts.f k Ac.1 Bd.1).bind fun C4 => (if C4 = true then ((laws_rInts.f k Ac.2.1 Bd.2.1).bind fun Cn => (laws_FnWages.j0 k l0 Aa.2.2.2.2.2 Ac.1 Ac.2.1 Ac.2.2 (!Cn) Aa.1 Aa.2.1 Aa.2.2.1 Aa.2.2.2.1 Aa.2.2.2.2.1)) else (laws_FnWages.j0 k l0 Aa.2.2.2.2.2 Ac.1 Ac.2.1 Ac.2.2 true Aa.1 Aa.2.1 Aa.2.2.1 Aa.2.2.2.1 Aa.2.2.2.2.1)))))))) = some r := H; have A2 := Aside0.mk M2; clear M2
 by_cases c3 : Gv = true
 ·subst c3
  have H1 : (some true) = some r := by rw [if_pos rfl] at H; exact H
  clear H; have H := H1; clear H1; obtain rfl := Option.some.inj H
  go_enter Try.func5, Try.ntmps5
  go_wp2_with (first | ((with_reducible refine gate_callee (f := 18) rfl ?_); refine glE (some 41) Try.func18 #[.slice A0 l0.length c0] ?_; (with_reducible refine (laws_rBig.calls _ _ l0 true _ ?side1 ?side2 A2.out).mono ?_); (case side1 => exact Z112); (case side2 => exact Ht.out); rintro e w' ⟨rfl, ⟨nd, rfl⟩⟩; refine ⟨_, rfl, ?_⟩))
  go_ret
  exact ⟨Z20, Z1⟩
 ·replace c3 := Bool.eq_false_iff.mpr c3
  subst c3
  have H1 : ((spec_DrawPayRoll.f k l0).bind fun Aa => ((impl_PayRoll.f k Aa.1 Aa.2.1 Aa.2.2.1 Aa.2.2.2.1 Aa.2.2.2.2.1 Aa.2.2.2.2.2).bind fun Ac => ((spec_PayRoll.f k Aa.1 Aa.2.1 Aa.2.2.1 Aa.2.2.2.1 Aa.2.2.2.2.1 Aa.2.2.2.2.2).bind fun Bd => (if (Ac.2.2 != Bd.2.2) = true then (laws_FnWages.j0 k l0 Aa.2.2.2.2.2 Ac.1 Ac.2.1 Ac.2.2 true Aa.1 Aa.2.1 Aa.2.2.1 Aa.2.2.2.1 Aa.2.2.2.2.1) else ((laws_rInts.f k Ac.1 Bd.1).bind fun C4 => (if C4 = true then ((laws_rInts.f k Ac.2.1 Bd.2.1).bind fun Cn => (laws_FnWages.j0 k l0 Aa.2.2.2.2.2 Ac.1 Ac.2.1 Ac.2.2 (!Cn) Aa.1 Aa.2.1 Aa.2.2.1 Aa.2.2.2.1 Aa.2.2.2.2.1)) else (laws_FnWages.j0 k l0 Aa.2.2.2.2.2 Ac.1 Ac.2.1 Ac.2.2 true Aa.1 Aa.2.1 Aa.2.2.1 Aa.2.2.2.1 Aa.2.2.2.2.1))))))) = some r := by rw [if_neg (show ¬ (false = true) by decide)] at H; exact H
  clear H; have H := H1; clear H1; replace H := Option.bind_eq_some_iff.mp H; obtain ⟨⟨Ak, Al, Ag, Am, An, Ad⟩, M3, H⟩ := H; replace H : ((impl_PayRoll.f k Ak Al Ag Am An Ad).bind fun Ac => ((spec_PayRoll.f k Ak Al Ag Am An Ad).bind fun Bd => (if (Ac.2.2 != Bd.2.2) = true then (laws_FnWages.j0 k l0 Ad Ac.1 Ac.2.1 Ac.2.2 true Ak Al Ag Am An) else ((laws_rInts.f k Ac.1 Bd.1).bind fun C4 => (if C4 = true then ((laws_rInts.f k Ac.2.1 Bd.2.1).bind fun Cn => (laws_FnWages.j0 k l0 Ad Ac.1 Ac.2.1 Ac.2.2 (!Cn) Ak Al Ag Am An)) else (laws_FnWages.j0 k l0 Ad Ac.1 Ac.2.1 Ac.2.2 true Ak Al Ag Am An)))))) = some r := H; have A4 := Aside0.mk M3; clear M3; replace H := Option.bind_eq_some_iff.mp H; obtain ⟨⟨Ba, Bb, Ay⟩, M4, H⟩ := H; replace H : ((spec_PayRoll.f k Ak Al Ag Am An Ad).bind fun Bd => (if (Ay != Bd.2.2) = true then (laws_FnWages.j0 k l0 Ad Ba Bb Ay true Ak Al Ag Am An) else ((laws_rInts.f k Ba Bd.1).bind fun C4 => (if C4 = true then ((laws_rInts.f k Bb Bd.2.1).bind fun Cn => (laws_FnWages.j0 k l0 Ad Ba Bb Ay (!Cn) Ak Al Ag Am An)) else (laws_FnWages.j0 k l0 Ad Ba Bb Ay true Ak Al Ag Am An))))) = some r := H; have A5 := Aside0.mk M4; clear M4; replace H := Option.bind_eq_some_iff.mp H; obtain ⟨⟨Gw, Gk, Eo⟩, M5, H⟩ := H; replace H : (if (Ay != Eo) = true then (laws_FnWages.j0 k l0 Ad Ba Bb Ay true Ak Al Ag Am An) else ((laws_rInts.f k Ba Gw).bind fun C4 => (if C4 = true then ((laws_rInts.f k Bb Gk).bind fun Cn => (laws_FnWages.j0 k l0 Ad Ba Bb Ay (!Cn) Ak Al Ag Am An)) else (laws_FnWages.j0 k l0 Ad Ba Bb Ay true Ak Al Ag Am An)))) = some r := H; have A6 := Aside0.mk M5; clear M5; have Mg := Aside0.mk H; clear H
  go_enter Try.func5, Try.ntmps5
  go_upto_region 6 with (first | ((with_reducible refine gate_callee (f := 18) rfl ?_); refine glE (some 41) Try.func18 #[.slice A0 l0.length c0] ?_; (with_reducible refine (laws_rBig.calls _ _ l0 false _ ?side1 ?side2 A2.out).mono ?_); (case side1 => exact Z112); (case side2 => exact Ht.out); rintro e w' ⟨rfl, ⟨nd, rfl⟩⟩; refine ⟨_, rfl, ?_⟩) | ((with_reducible refine gate_callee (f := 19) rfl ?_); refine glE (some 44) Try.func19 #[.slice A0 l0.length c0] ?_; (with_reducible refine (spec_DrawPayRoll.calls k _ _ l0 Ak Al Ag Am An Ad _ ?side1 ?side2 A4.out).mono ?_); (case side1 => exact Z112); (case side2 => exact Ht.out); rintro e w8 ⟨Nl, rfl, Ga, hb⟩; refine ⟨_, rfl, ?_⟩; have Bq := aM (Kd.R_lower Ga (below_size Z1)); replace HB := hbS Z1 hb; (try clear hb); (try clear Ga)) | ((with_reducible refine gate_dst (N := 3) rfl ?_); refine bxE 3 #[.int .i64 0, .int .i64 0, .int .i64 0, .int .i64 0, .int .i64 0] 29 ?_; intro Bf hg w9 hbox hb; replace Bq := roB Bq hb; have Ae := aM (hbox); have M6 := gwS hg Z1; have Bl := gwS hg Z1; replace HB := hbS Z1 hb; clear hb hbox hg; obtain ⟨Br, Bs, Bt, Bu, Bv⟩ := bz5 Ae; obtain ⟨Bw, Bx, Bz, B0, B5⟩ := fz5 Ae; obtain ⟨Gl, Gb, Mh⟩ := Kd.R_slice Bq.out; subst Mh) | ((with_reducible refine gate_callee (f := 10) rfl ?_); refine glE (some 50) Try.func10 #[.agg #[.int .i64 Ak, .int .i64 Al, .int .i64 Ag, .int .i64 Am, .int .i64 An], .slice Gl Ad.length Gb] ?_; (with_reducible refine (impl_PayRoll.calls k Ak Al Ag Am An _ _ Ad Ba Bb Ay _ ?side1 ?side2 A5.out).mono ?_); (case side1 => refine (Kd.R_reads' (e := 48) (base := w.heap.size) (ok := fun k_ => True) (n := Ad.length) (c := Gb) ?_).2.2; exact (by (with_reducible repeat (first | apply Kd.R_alloc | apply Kd.R_drewN | apply Kd.R_drew)); exact (Kd.R_mono (Kd.R_far (p := ⟨Bf, 4, none⟩) (Kd.R_far (p := ⟨Bf, 3, none⟩) (Kd.R_far (p := ⟨Bf, 2, none⟩) (Kd.R_far (p := ⟨Bf, 1, none⟩) (Kd.R_far (p := ⟨Bf, 0, none⟩) (Kd.R_types Bq.out Ae.out (by decide)) (fun _ hk => hk.2) (.int .i64 Ak)) (fun _ hk => hk.2) (.int .i64 Al)) (fun _ hk => hk.2) (.int .i64 Ag)) (fun _ hk => hk.2) (.int .i64 Am)) (fun _ hk => hk.2) (.int .i64 An)) (fun _ h_ => h_.1)))); (case side2 => exact (Kd.R_reads' Bq.out).2.1); rintro e O1 ⟨Gc, Gd, rfl, Ga, Hu, hb⟩; refine ⟨_, rfl, ?_⟩; replace Bq := aM (Kd.R_below (by (with_reducible repeat (first | apply Kd.R_alloc | apply Kd.R_drewN | apply Kd.R_drew)); exact (Kd.R_mono (Kd.R_far (p := ⟨Bf, 4, none⟩) (Kd.R_far (p := ⟨Bf, 3, none⟩) (Kd.R_far (p := ⟨Bf, 2, none⟩) (Kd.R_far (p := ⟨Bf, 1, none⟩) (Kd.R_far (p := ⟨Bf, 0, none⟩) (Kd.R_types Bq.out Ae.out (by decide)) (fun _ hk => hk.2) (.int .i64 Ak)) (fun _ hk => hk.2) (.int .i64 Al)) (fun _ hk => hk.2) (.int .i64 Ag)) (fun _ hk => hk.2) (.int .i64 Am)) (fun _ hk => hk.2) (.int .i64 An)) (fun _ h_ => h_.1))) hb); have Ck := aM (Kd.R_lower Ga (below_size Z42)); have C0 := aM (Kd.R_lower Hu (below_size Z42)); replace Ae := aM (blk_below (g := Bf) (o := .cells #[.int .i64 Ak, .int .i64 Al, .int .i64 Ag, .int .i64 Am, .int .i64 An] 29 (0, 0)) (by (with_reducible repeat (first | refine blk_drewN ?_ _ | refine blk_drew ?_ | refine blk_alloc ?_ _)); refine blk_put (cs := #[.int .i64 Ak, .int .i64 Al, .int .i64 Ag, .int .i64 Am, .int .i64 0]) ?_ 4 _ rfl; (with_reducible repeat (first | refine blk_drewN ?_ _ | refine blk_drew ?_ | refine blk_alloc ?_ _)); refine blk_put (cs := #[.int .i64 Ak, .int .i64 Al, .int .i64 Ag, .int .i64 0, .int .i64 0]) ?_ 3 _ rfl; (with_reducible repeat (first | refine blk_drewN ?_ _ | refine blk_drew ?_ | refine blk_alloc ?_ _)); refine blk_put (cs := #[.int .i64 Ak, .int .i64 Al, .int .i64 0, .int .i64 0, .int .i64 0]) ?_ 2 _ rfl; (with_reducible repeat (first | refine blk_drewN ?_ _ | refine blk_drew ?_ | refine blk_alloc ?_ _)); refine blk_put (cs := #[.int .i64 Ak, .int .i64 0, .int .i64 0, .int .i64 0, .int .i64 0]) ?_ 1 _ rfl; (with_reducible repeat (first | refine blk_drewN ?_ _ | refine blk_drew ?_ | refine blk_alloc ?_ _)); refine blk_put (cs := #[.int .i64 0, .int .i64 0, .int .i64 0, .int .i64 0, .int .i64 0]) ?_ 0 _ rfl; (with_reducible repeat (first | refine blk_drewN ?_ _ | refine blk_drew ?_ | refine blk_alloc ?_ _)); exact Ae.out) hb); replace HB := hbS Z42 hb; (try clear hb); (try clear Ga); (try clear Hu); obtain ⟨B7, B9, Ca, Cb, Cc⟩ := bz5 Ae; obtain ⟨Cd, Ce, Cf, Cg, Ch⟩ := fz5 Ae) | ((with_reducible refine gate_callee (f := 7) rfl ?_); refine glE (some 57) Try.func7 #[.agg #[.int .i64 Ak, .int .i64 Al, .int .i64 Ag, .int .i64 Am, .int .i64 An], .slice Gl Ad.length Gb] ?_; (with_reducible refine (spec_PayRoll.calls k Ak Al Ag Am An _ _ Ad Gw Gk Eo _ ?side1 ?side2 A6.out).mono ?_); (case side1 => exact (by repeat (first | exact (Kd.R_reads' Bq.out).2.2 | (with_reducible refine Kd.C_alloc ?_ _) | (with_reducible refine Kd.C_drewN ?_ _) | (with_reducible refine Kd.C_drew ?_)))); (case side2 => exact (Kd.R_reads' Bq.out).2.1); rintro e O2 ⟨Nm, Nn, rfl, Ga, Hu, hb⟩; refine ⟨_, rfl, ?_⟩; replace Bq := roB Bq hb; have Et := aM (Kd.R_lower (Kd.R_new' (Kd.R_new' Ga (Kd.R_lt Z133)) (Kd.R_lt Z134)) (below_size Z42)); have Gm := aM (Kd.R_lower (Kd.R_new' (Kd.R_new' Hu (Kd.R_lt Z133)) (Kd.R_lt Z134)) (below_size Z42)); replace Ck := aM (Kd.R_mono (Kd.R_told (Kd.R_told (Kd.R_old Z133 hb) (Kd.R_base Ga)) (Kd.R_base Hu)) (fun _ h_ => h_.1)); replace C0 := aM (Kd.R_mono (Kd.R_told (Kd.R_told (Kd.R_old Z134 hb) (Kd.R_base Ga)) (Kd.R_base Hu)) (fun _ h_ => h_.1)); replace Ae := bkB Ae hb; replace HB := hbS Z42 hb; (try clear hb); (try clear Ga); (try clear Hu)))
  (try simp only [Act.put, List.setIfInBounds_toArray, List.set_cons_zero, List.set_cons_succ])
  go_cut [75] (fun No wc => ∃ (kq : Nat) (Fp : Bool), No = .bool Fp ∧ Aside0 (laws_FnWages.j0 kq l0 Ad Ba Bb Ay Fp Ak Al Ag Am An = some r) ∧ Aside0 (kq ≤ k) ∧ Aside0 (Kd.R k48 48 wc w.heap.size (fun _ => True) (.slice Gl Ad.length Gb) Ad) ∧ Aside0 (Kd.R (Kd.int .i64) 3 wc w.heap.size (fun k_ => nV k_ Gd) Gc Ba) ∧ Aside0 (Kd.R (Kd.int .i64) 3 wc w.heap.size (fun k_ => nV k_ Gc) Gd Bb) ∧ Aside0 (wc.heap[Bf]? = some (.cells #[.int .i64 Ak, .int .i64 Al, .int .i64 Ag, .int .i64 Am, .int .i64 An] 29 (0, 0))) ∧ Aside0 (Below w.heap.size w wc))
  case first => as_aux_lemma =>
   have H := Mg.out; clear Mg
   by_cases Eu : (Ay != Eo) = true
   ·rw [if_pos Eu] at H
    have c15b0 : (Ay != Eo) = true := Eu
    (try (have c15b1 : decide (Ay = Eo) = false := Z163))
    (try (have c15b2 : (Ay == Eo) = false := Z163))
    (try (have c15b3 : ¬ (Ay = Eo) := Z163))
    clear Eu
    (first | rw [c15b0] | (simp only [i64_w, i32_w]; rw [c15b0]) | skip)
    have H' := Aside0.mk H; clear H
    go_wp2
    go_meet
    case rel => exact ⟨_, (true), Z30, H', ⟨Z99⟩, ⟨Z135⟩, ⟨Z119⟩, ⟨Z120⟩, ⟨Z89⟩, ⟨Z42⟩⟩
   ·rw [if_neg Eu] at H
    have c15b0 : (Ay != Eo) = false := by simpa using Eu
    (try (have c15b1 : decide (Ay = Eo) = true := Z163))
    (try (have c15b2 : (Ay == Eo) = true := Z163))
    clear Eu
    (first | rw [c15b0] | (simp only [i64_w, i32_w]; rw [c15b0]) | skip)
    replace H := Option.bind_eq_some_iff.mp H; obtain ⟨C4, Ii, H⟩ := H; replace H : (if C4 = true then ((laws_rInts.f k Bb Gk).bind fun Cn => (laws_FnWages.j0 k l0 Ad Ba Bb Ay (!Cn) Ak Al Ag Am An)) else (laws_FnWages.j0 k l0 Ad Ba Bb Ay true Ak Al Ag Am An)) = some r := H; have M7 := Aside0.mk Ii; clear Ii
    by_cases Gh : C4 = true
    ·subst Gh
     have H1 : ((laws_rInts.f k Bb Gk).bind fun Cn => (laws_FnWages.j0 k l0 Ad Ba Bb Ay (!Cn) Ak Al Ag Am An)) = some r := by rw [if_pos rfl] at H; exact H
     clear H; have H := H1; clear H1; replace H := Option.bind_eq_some_iff.mp H; obtain ⟨Cn, Ij, H⟩ := H; replace H : (laws_FnWages.j0 k l0 Ad Ba Bb Ay (!Cn) Ak Al Ag Am An) = some r := H; have Np := Aside0.mk Ij; clear Ij; have H' := Aside0.mk H; clear H; obtain ⟨Nq, Nr, Mi⟩ := Kd.R_slice Ck.out; subst Mi; obtain ⟨Ns, Nt, Mj⟩ := Kd.R_slice Et.out; subst Mj
     go_wp2_with (first | (go_at_call 20; (with_reducible refine (laws_rInts.calls k _ _ Ba _ _ Gw true _ ?side1 ?side2 ?side3 ?side4 M7.out).mono ?_); (case side1 => exact Z126); (case side2 => exact (Kd.R_reads' Ck.out).2.1); (case side3 => exact Z127); (case side4 => exact (Kd.R_reads' Et.out).2.1); rintro e w' ⟨rfl, ⟨nd, rfl⟩⟩; obtain ⟨Nu, Nv, Mk⟩ := Kd.R_slice C0.out; subst Mk; obtain ⟨Nw, Nx, Ml⟩ := Kd.R_slice Gm.out; subst Ml) | (go_at_call 20; (with_reducible refine (laws_rInts.calls k _ _ Bb _ _ Gk Cn _ ?side1 ?side2 ?side3 ?side4 Np.out).mono ?_); (case side1 => exact (by repeat (first | exact (Kd.R_reads' C0.out).2.2 | (with_reducible refine Kd.C_alloc ?_ _) | (with_reducible refine Kd.C_drewN ?_ _) | (with_reducible refine Kd.C_drew ?_)))); (case side2 => exact (Kd.R_reads' C0.out).2.1); (case side3 => exact (by repeat (first | exact (Kd.R_reads' Gm.out).2.2 | (with_reducible refine Kd.C_alloc ?_ _) | (with_reducible refine Kd.C_drewN ?_ _) | (with_reducible refine Kd.C_drew ?_)))); (case side4 => exact (Kd.R_reads' Gm.out).2.1); rintro e w' ⟨rfl, ⟨nd, rfl⟩⟩))
     go_meet
     case rel => exact ⟨_, (!Cn), Z30, H', ⟨Z99⟩, ⟨Z135⟩, ⟨Z119⟩, ⟨Z120⟩, ⟨Z89⟩, ⟨Z42⟩⟩
    ·replace Gh := Bool.eq_false_iff.mpr Gh
     subst Gh
     have H1 : (laws_FnWages.j0 k l0 Ad Ba Bb Ay true Ak Al Ag Am An) = some r := by rw [if_neg (show ¬ (false = true) by decide)] at H; exact H
     clear H; have H := H1; clear H1; have H' := Aside0.mk H; clear H; obtain ⟨Ny, Nz, Mm⟩ := Kd.R_slice Ck.out; subst Mm; obtain ⟨N0, N1, Mn⟩ := Kd.R_slice Et.out; subst Mn
     go_wp2_with (first | (go_at_call 20; (with_reducible refine (laws_rInts.calls k _ _ Ba _ _ Gw false _ ?side1 ?side2 ?side3 ?side4 M7.out).mono ?_); (case side1 => exact Z126); (case side2 => exact (Kd.R_reads' Ck.out).2.1); (case side3 => exact Z127); (case side4 => exact (Kd.R_reads' Et.out).2.1); rintro e w' ⟨rfl, ⟨nd, rfl⟩⟩))
     go_meet
     case rel => exact ⟨_, (true), Z30, H', ⟨Z99⟩, ⟨Z135⟩, ⟨Z119⟩, ⟨Z120⟩, ⟨Z89⟩, ⟨Z42⟩⟩
  case rest =>
   clear Mg; (try clear c1); (try clear p2); (try clear c3); (try clear c5); (try clear c7); (try clear Hv); (try clear Eu); (try clear c15b0); (try clear c15b1); (try clear c15b2); (try clear Gh); (try clear Hw); (try clear Hx); (try clear Br); (try clear Bs); (try clear Bt); (try clear Bu); (try clear Bv); (try clear B7); (try clear B9); (try clear Ca); (try clear Cb); (try clear Cc); (try clear Bw); (try clear Bx); (try clear Bz); (try clear B0); (try clear B5); (try clear Cd); (try clear Ce); (try clear Cf); (try clear Cg); (try clear Ch); obtain ⟨kq, Fp, rfl, HA, HJ6, Dq, C5, C6, Ae, HB⟩ := hcut; cases kq with
   | zero => exact absurd HA.out (by simp [laws_FnWages.j0])
   | succ Mo =>
    have H := HA.out; clear HA
    simp only [laws_FnWages.j0] at H
    by_cases Gn : Fp = true
    ·subst Gn
     have H1 : (none) = some r := by rw [if_pos rfl] at H; exact H
     clear H; have H := H1; clear H1; exact absurd H (by simp)
    ·replace Gn := Bool.eq_false_iff.mpr Gn
     subst Gn
     have H1 : (laws_FnWages.l0 Mo l0 Ad Ba Bb Ay 0 0 Ak Al Ag Am An) = some r := by rw [if_neg (show ¬ (false = true) by decide)] at H; exact H
     clear H; have H := H1; clear H1; have H' := Aside0.mk H; clear H
     go_wp2
     go_loopg [11, 12] Mo (fun kq N2 N3 w' => ∃ (Ci : Int) (Ab : Int), N2 = .int .i64 Ci ∧ N3 = .int .i64 Ab ∧ Aside0 (laws_FnWages.l0 kq l0 Ad Ba Bb Ay Ci Ab Ak Al Ag Am An = some r) ∧ Aside0 (kq ≤ Mo) ∧ Aside0 (Kd.R k48 48 w' w.heap.size (fun _ => True) (.slice Gl Ad.length Gb) Ad) ∧ Aside0 (Kd.R (Kd.int .i64) 3 w' w.heap.size (fun k_ => nV k_ Gd) Gc Ba) ∧ Aside0 (Kd.R (Kd.int .i64) 3 w' w.heap.size (fun k_ => nV k_ Gc) Gd Bb) ∧ Aside0 (w'.heap[Bf]? = some (.cells #[.int .i64 Ak, .int .i64 Al, .int .i64 Ag, .int .i64 Am, .int .i64 An] 29 (0, 0))) ∧ Aside0 (Below w.heap.size w w'))
     case atStart => exact ⟨(0), (0), Z30, Z30, H', ⟨Nat.le_refl _⟩, ⟨Z116⟩, ⟨Z117⟩, ⟨Z118⟩, ⟨Z89⟩, ⟨Z42⟩⟩
     case round =>
      clear H'; (try clear c1); (try clear c2); (try clear p2); (try clear c3); (try clear c5); (try clear c7); (try clear Hv); (try clear Eu); (try clear c15b0); (try clear c15b1); (try clear c15b2); (try clear Gh); (try clear Hw); (try clear Hx); (try clear Gn); (try clear Br); (try clear Bs); (try clear Bt); (try clear Bu); (try clear Bv); (try clear B7); (try clear B9); (try clear Ca); (try clear Cb); (try clear Cc); (try clear Bw); (try clear Bx); (try clear Bz); (try clear B0); (try clear B5); (try clear Cd); (try clear Ce); (try clear Cf); (try clear Cg); (try clear Ch); (try clear p2); obtain ⟨Ci, Ab, rfl, rfl, HA, HK2, Dq, C5, C6, Ae, HB⟩ := hrel; cases gk with
      | zero => exact absurd HA.out (by simp [laws_FnWages.l0])
      | succ k2 =>
       have H := HA.out; clear HA
       simp only [laws_FnWages.l0] at H
       have Hy := Aside0.mk H; clear H
       go_upto_region 10 with (fail)
       go_cut [82] (fun N4 wc => ∃ (kq : Nat) (Ew : Bool), N4 = .bool Ew ∧ Aside0 (laws_FnWages.j2 kq l0 Ad Ba Bb Ay Ci Ab Ew Ak Al Ag Am An = some r) ∧ Aside0 (kq ≤ k2) ∧ Aside0 (Kd.R k48 48 wc w.heap.size (fun _ => True) (.slice Gl Ad.length Gb) Ad) ∧ Aside0 (Kd.R (Kd.int .i64) 3 wc w.heap.size (fun k_ => nV k_ Gd) Gc Ba) ∧ Aside0 (Kd.R (Kd.int .i64) 3 wc w.heap.size (fun k_ => nV k_ Gc) Gd Bb) ∧ Aside0 (wc.heap[Bf]? = some (.cells #[.int .i64 Ak, .int .i64 Al, .int .i64 Ag, .int .i64 Am, .int .i64 An] 29 (0, 0))) ∧ Aside0 (Below w.heap.size w wc))
       case first => as_aux_lemma =>
        have H := Hy.out; clear Hy
        by_cases Gi : Ab < (Ad.length : Int)
        ·rw [if_pos Gi] at H
         have c27b0 : decide (Ab < (Ad.length : Int)) = true := decide_eq_true Gi; clear Gi
         (first | rw [c27b0] | (simp only [i64_w, i32_w]; rw [c27b0]) | skip)
         have H' := Aside0.mk H; clear H
         go_wp2
         go_meet
         case rel => exact ⟨_, (Ay), Z30, H', ⟨Z156⟩, ⟨Z116⟩, ⟨Z117⟩, ⟨Z118⟩, ⟨Z89⟩, ⟨Z42⟩⟩
        ·rw [if_neg Gi] at H
         have c27b0 : decide (Ab < (Ad.length : Int)) = false := decide_eq_false Gi; clear Gi
         (first | rw [c27b0] | (simp only [i64_w, i32_w]; rw [c27b0]) | skip)
         have H' := Aside0.mk H; clear H
         go_wp2
         go_meet
         case rel => exact ⟨_, (false), Z30, H', ⟨Z156⟩, ⟨Z116⟩, ⟨Z117⟩, ⟨Z118⟩, ⟨Z89⟩, ⟨Z42⟩⟩
       case rest =>
        clear Hy; (try clear c1); (try clear c2); (try clear p2); (try clear c3); (try clear c5); (try clear c7); (try clear Hv); (try clear Eu); (try clear c15b0); (try clear c15b1); (try clear c15b2); (try clear Gh); (try clear Hw); (try clear Hx); (try clear Gn); (try clear Gi); (try clear c27b0); (try clear Br); (try clear Bs); (try clear Bt); (try clear Bu); (try clear Bv); (try clear B7); (try clear B9); (try clear Ca); (try clear Cb); (try clear Cc); (try clear Bw); (try clear Bx); (try clear Bz); (try clear B0); (try clear B5); (try clear Cd); (try clear Ce); (try clear Cf); (try clear Cg); (try clear Ch); (try clear p2); obtain ⟨kq, Ew, rfl, HA, HJ25, Dq, C5, C6, Ae, HB⟩ := hcut; cases kq with
        | zero => exact absurd HA.out (by simp [laws_FnWages.j2])
        | succ Co =>
         have H := HA.out; clear HA
         simp only [laws_FnWages.j2] at H
         by_cases Gx : Ew = true
         ·subst Gx
          have H1 : (if 0 ≤ Ab then (if Ab < (Ad.length : Int) then ((impl_WageOf.f Ak Al Ag Am An ((rd_T48 Ad Ab).f0) ((rd_T48 Ad Ab).f1) ((rd_T48 Ad Ab).f2) ((rd_T48 Ad Ab).f3) ((rd_T48 Ad Ab).f4)).bind fun Gp => (if Gp.2 = true then (if Gp.1 < Ag then (none) else ((laws_rHas.f Co Ba ((rd_T48 Ad Ab).f0)).bind fun E8 => (if E8 = true then (laws_FnWages.l0 Co l0 Ad Ba Bb Ay (wrap64 (Ci + Gp.1)) (wrap64 (Ab + 1)) Ak Al Ag Am An) else (none)))) else (none))) else (none)) else (none)) = some r := by rw [if_pos rfl] at H; exact H
          clear H; have H := H1; clear H1
          by_cases Gy : 0 ≤ Ab
          ·rw [if_pos Gy] at H
           have c29b0 : decide (0 ≤ Ab) = true := decide_eq_true Gy; clear Gy
           by_cases Gz : Ab < (Ad.length : Int)
           ·rw [if_pos Gz] at H
            have c30b0 : decide (Ab < (Ad.length : Int)) = true := decide_eq_true Gz; clear Gz; replace H := Option.bind_eq_some_iff.mp H; obtain ⟨⟨Ep, Ik⟩, Il, H⟩ := H; replace H : (if Ik = true then (if Ep < Ag then (none) else ((laws_rHas.f Co Ba ((rd_T48 Ad Ab).f0)).bind fun E8 => (if E8 = true then (laws_FnWages.l0 Co l0 Ad Ba Bb Ay (wrap64 (Ci + Ep)) (wrap64 (Ab + 1)) Ak Al Ag Am An) else (none)))) else (none)) = some r := H; have N5 := Aside0.mk Il; clear Il
            by_cases G0 : Ik = true
            ·subst G0
             have H1 : (if Ep < Ag then (none) else ((laws_rHas.f Co Ba ((rd_T48 Ad Ab).f0)).bind fun E8 => (if E8 = true then (laws_FnWages.l0 Co l0 Ad Ba Bb Ay (wrap64 (Ci + Ep)) (wrap64 (Ab + 1)) Ak Al Ag Am An) else (none)))) = some r := by rw [if_pos rfl] at H; exact H
             clear H; have H := H1; clear H1
             by_cases G1 : Ep < Ag
             ·rw [if_pos G1] at H
              exact absurd H (by simp)
             ·rw [if_neg G1] at H
              have c33b0 : decide (Ep < Ag) = false := decide_eq_false G1; clear G1; replace H := Option.bind_eq_some_iff.mp H; obtain ⟨E8, Im, H⟩ := H; replace H : (if E8 = true then (laws_FnWages.l0 Co l0 Ad Ba Bb Ay (wrap64 (Ci + Ep)) (wrap64 (Ab + 1)) Ak Al Ag Am An) else (none)) = some r := H; have N6 := Aside0.mk Im; clear Im
              by_cases G2 : E8 = true
              ·subst G2
               have H1 : (laws_FnWages.l0 Co l0 Ad Ba Bb Ay (wrap64 (Ci + Ep)) (wrap64 (Ab + 1)) Ak Al Ag Am An) = some r := by rw [if_pos rfl] at H; exact H
               clear H; have H := H1; clear H1; have H' := Aside0.mk H; clear H
               try go_wp2
               replace Dq := aM (Kd.R_drew Dq.out); replace C5 := aM (Kd.R_drew C5.out); replace C6 := aM (Kd.R_drew C6.out); replace Ae := aM (blk_drew Ae.out); replace HB := aM (below_drew1 HB.out); have E9 : 0 ≤ (Ab : Int) := of_decide_eq_true Z21; have Fa : Ab < (Ad.length : Int) := of_decide_eq_true Z21; obtain ⟨ad765, e765, Cp, Cq, Cr, Cs, Ct⟩ := at_T48 (Kd.R_reads' Dq.out).2.2 Ab E9 Fa; cases e765; replace E9 := eq_true E9; replace Fa := eq_true Fa; refine start_ (n := 11) (S := fun w' => w'.cell? ⟨Bf, 0, none⟩ = some (.int .i64 Ak) ∧ w'.cell? ⟨Bf, 1, none⟩ = some (.int .i64 Al) ∧ w'.cell? ⟨Bf, 2, none⟩ = some (.int .i64 Ag) ∧ w'.cell? ⟨Bf, 3, none⟩ = some (.int .i64 Am) ∧ w'.cell? ⟨Bf, 4, none⟩ = some (.int .i64 An) ∧ w'.cell? (ad765.add ((Ab).toNat * 5)) = some (.int .i64 ((rd_T48 Ad Ab).f0)) ∧ w'.cell? ⟨(ad765.add ((Ab).toNat * 5)).block, (ad765.add ((Ab).toNat * 5)).off + 1, none⟩ = some (.int .i64 ((rd_T48 Ad Ab).f1)) ∧ w'.cell? ⟨(ad765.add ((Ab).toNat * 5)).block, (ad765.add ((Ab).toNat * 5)).off + 2, none⟩ = some (.int .i64 ((rd_T48 Ad Ab).f2)) ∧ w'.cell? ⟨(ad765.add ((Ab).toNat * 5)).block, (ad765.add ((Ab).toNat * 5)).off + 3, none⟩ = some (.int .i64 ((rd_T48 Ad Ab).f3)) ∧ w'.cell? ⟨(ad765.add ((Ab).toNat * 5)).block, (ad765.add ((Ab).toNat * 5)).off + 4, none⟩ = some (.int .i64 ((rd_T48 Ad Ab).f4))) (ds := []) #[false, false, false, false, false, false, false, false, false, false, false] Z26 rfl rfl ⟨(blk_cell Ae.out 0).trans rfl, (blk_cell Ae.out 1).trans rfl, (blk_cell Ae.out 2).trans rfl, (blk_cell Ae.out 3).trans rfl, (blk_cell Ae.out 4).trans rfl, Cp, Cq, Cr, Cs, Ct⟩ (fun hHeld => ?_); refine with_tabW laws_FnWages.tab12 laws_FnWages.bits12 (fun HT_ HW_ => ?_)
               generalize wc.drew = O3 at Dq C5 C6 Ae HB Cp Cq Cr Cs Ct hHeld ⊢
               refine puR 1 87 #[false, true, false, false, false, false, false, false, false, false, false] HT_ rfl rfl ?_; refine puR 2 88 #[false, true, true, false, false, false, false, false, false, false, false] HT_ rfl rfl ?_; refine puR 3 89 #[false, true, true, true, false, false, false, false, false, false, false] HT_ rfl rfl ?_; refine taR 0 86 #[true, true, true, true, false, false, false, false, false, false, false] HT_ HW_ hHeld rfl rfl ?_; refine taR 4 90 #[true, true, true, true, true, false, false, false, false, false, false] HT_ HW_ hHeld rfl rfl ?_; refine one_ (i := 5) (N := some 91) #[true, true, true, true, true, true, false, false, false, false, false] rfl rfl (one_of HT_.out Z26) (by decide) (fun K hK => ?_); refine goes_ Try.func21 Z26 rfl #[.agg #[.int .i64 Ak, .int .i64 Al, .int .i64 Ag, .int .i64 Am, .int .i64 An], .agg #[.int .i64 ((rd_T48 Ad Ab).f0), .int .i64 ((rd_T48 Ad Ab).f1), .int .i64 ((rd_T48 Ad Ab).f2), .int .i64 ((rd_T48 Ad Ab).f3), .int .i64 ((rd_T48 Ad Ab).f4)]] (by rfl) rfl rfl Z35 ?_; (with_reducible refine (impl_WageOf.calls Ak Al Ag Am An ((rd_T48 Ad Ab).f0) ((rd_T48 Ad Ab).f1) ((rd_T48 Ad Ab).f2) ((rd_T48 Ad Ab).f3) ((rd_T48 Ad Ab).f4) Ep true _ N5.out).mono ?_); rintro e O4 ⟨rfl, hb⟩; have HS5_ := (hb.cell (World.block_lt_of_cell? _ _ (hHeld.2.2.2.2.2.1))).trans (hHeld.2.2.2.2.2.1); have HS6_ := (hb.cell (World.block_lt_of_cell? _ _ (hHeld.2.2.2.2.2.2.1))).trans (hHeld.2.2.2.2.2.2.1); have HS7_ := (hb.cell (World.block_lt_of_cell? _ _ (hHeld.2.2.2.2.2.2.2.1))).trans (hHeld.2.2.2.2.2.2.2.1); have HS8_ := (hb.cell (World.block_lt_of_cell? _ _ (hHeld.2.2.2.2.2.2.2.2.1))).trans (hHeld.2.2.2.2.2.2.2.2.1); have HS9_ := (hb.cell (World.block_lt_of_cell? _ _ (hHeld.2.2.2.2.2.2.2.2.2))).trans (hHeld.2.2.2.2.2.2.2.2.2); refine ⟨_, rfl, ?_⟩; replace Dq := roB Dq hb; replace C5 := roB C5 hb; replace C6 := roB C6 hb; replace Ae := bkB Ae hb; replace HB := hbS Z42 hb; (try clear hb); (try clear hb2); (try clear hk); (try clear hi); refine hK.out _ _ (by exact ⟨(blk_cell Ae.out 0).trans rfl, (blk_cell Ae.out 1).trans rfl, (blk_cell Ae.out 2).trans rfl, (blk_cell Ae.out 3).trans rfl, (blk_cell Ae.out 4).trans rfl, HS5_, HS6_, HS7_, HS8_, HS9_⟩) (fun hHeld => ?_); clear hK K; refine noR 91 ?_; refine puR 6 85 #[true, true, true, true, true, true, true, false, false, false, false] HT_ rfl rfl ?_; refine puR 7 92 #[true, true, true, true, true, true, true, true, false, false, false] HT_ rfl rfl ?_; refine puR 8 93 #[true, true, true, true, true, true, true, true, true, false, false] HT_ rfl rfl ?_; refine puR 9 13 #[true, true, true, true, true, true, true, true, true, true, false] HT_ rfl rfl ?_; refine puR 10 14 #[true, true, true, true, true, true, true, true, true, true, true] HT_ rfl rfl ?_; refine done_ (done_of HT_.out Z26) ?_; obtain ⟨C7, C8, C9, Da, Db⟩ := bz5 Ae; obtain ⟨Dc, Dd, De, Df, Dg⟩ := fz5 Ae; have Fb : 0 ≤ (Ab : Int) := of_decide_eq_true Z21; have Fc : Ab < (Ad.length : Int) := of_decide_eq_true Z21; obtain ⟨ad768, e768, Dh, Di, Dj, Dk, Dl⟩ := at_T48 (Kd.R_reads' Dq.out).2.2 Ab Fb Fc; obtain rfl : ad765 = ad768 := (by injection e768); replace Fb := eq_true Fb; replace Fc := eq_true Fc; obtain ⟨N7, N8, Mp⟩ := Kd.R_slice C5.out; subst Mp
               try go_wp2_with (first | (go_at_call 22; (with_reducible refine (laws_rHas.calls Co _ _ Ba ((rd_T48 Ad Ab).f0) true _ ?side1 ?side2 N6.out).mono ?_); (case side1 => exact (by repeat (first | exact (Kd.R_reads' C5.out).2.2 | (with_reducible refine Kd.C_alloc ?_ _) | (with_reducible refine Kd.C_drewN ?_ _) | (with_reducible refine Kd.C_drew ?_)))); (case side2 => exact (Kd.R_reads' C5.out).2.1); rintro e w' ⟨rfl, ⟨nd, rfl⟩⟩))
               go_roundg Co
               case measure => have := HJ6.out; have := HK2.out; have := HJ25.out; omega
               case rel => exact ⟨(wrap64 (Ci + Ep)), (wrap64 (Ab + 1)), Z30, Z30, H', ⟨by have := HJ6.out; have := HK2.out; have := HJ25.out; omega⟩, ⟨Z116⟩, ⟨Z117⟩, ⟨Z118⟩, ⟨Z89⟩, ⟨Z42⟩⟩
              ·replace G2 := Bool.eq_false_iff.mpr G2
               subst G2
               have H1 : (none) = some r := by rw [if_neg (show ¬ (false = true) by decide)] at H; exact H
               clear H; have H := H1; clear H1; exact absurd H (by simp)
            ·replace G0 := Bool.eq_false_iff.mpr G0
             subst G0
             have H1 : (none) = some r := by rw [if_neg (show ¬ (false = true) by decide)] at H; exact H
             clear H; have H := H1; clear H1; exact absurd H (by simp)
           ·rw [if_neg Gz] at H
            exact absurd H (by simp)
          ·rw [if_neg Gy] at H
           exact absurd H (by simp)
         ·replace Gx := Bool.eq_false_iff.mpr Gx
          subst Gx
          have H1 : (if Ay = true then ((laws_rSum.f Co Bb).bind fun Fj => (laws_FnWages.j3 Co l0 (Fj != Ci))) else (laws_FnWages.j3 Co l0 false)) = some r := by rw [if_neg (show ¬ (false = true) by decide)] at H; exact H
          clear H; have H := H1; clear H1; have Hz := Aside0.mk H; clear H
          go_upto_region 16 with (fail)
          go_cut [121] (fun Mq wc => ∃ (kq : Nat) (Dw : Bool), Mq = .bool Dw ∧ Aside0 (laws_FnWages.j3 kq l0 Dw = some r) ∧ Aside0 (kq ≤ Co) ∧ Aside0 (Below w.heap.size w wc))
          case first => as_aux_lemma =>
           have H := Hz.out; clear Hz
           by_cases G3 : Ay = true
           ·subst G3
            have H1 : ((laws_rSum.f Co Bb).bind fun Fj => (laws_FnWages.j3 Co l0 (Fj != Ci))) = some r := by rw [if_pos rfl] at H; exact H
            clear H; have H := H1; clear H1; replace H := Option.bind_eq_some_iff.mp H; obtain ⟨Fj, Io, H⟩ := H; replace H : (laws_FnWages.j3 Co l0 (Fj != Ci)) = some r := H; have N9 := Aside0.mk Io; clear Io; have H' := Aside0.mk H; clear H; obtain ⟨Oa, Ob, Mr⟩ := Kd.R_slice C6.out; subst Mr
            go_wp2_with (first | (go_at_call 23; (with_reducible refine (laws_rSum.calls Co _ _ Bb Fj _ ?side1 ?side2 N9.out).mono ?_); (case side1 => exact (by repeat (first | exact (Kd.R_reads' C6.out).2.2 | (with_reducible refine Kd.C_alloc ?_ _) | (with_reducible refine Kd.C_drewN ?_ _) | (with_reducible refine Kd.C_drew ?_)))); (case side2 => exact (Kd.R_reads' C6.out).2.1); rintro e w' ⟨rfl, ⟨nd, rfl⟩⟩))
            go_meet
            case rel => exact ⟨_, ((Fj != Ci)), Z30, H', ⟨Z154⟩, ⟨Z42⟩⟩
           ·replace G3 := Bool.eq_false_iff.mpr G3
            subst G3
            have H1 : (laws_FnWages.j3 Co l0 false) = some r := by rw [if_neg (show ¬ (false = true) by decide)] at H; exact H
            clear H; have H := H1; clear H1; have H' := Aside0.mk H; clear H
            go_wp2
            go_meet
            case rel => exact ⟨_, (false), Z30, H', ⟨Z154⟩, ⟨Z42⟩⟩
          case rest =>
           clear Hz; (try clear c1); (try clear c2); (try clear p2); (try clear c3); (try clear c4); (try clear c5); (try clear p6); (try clear c7); (try clear p7); (try clear q7); (try clear Ls); (try clear Hv); (try clear Eu); (try clear c15b0); (try clear c15b1); (try clear c15b2); (try clear Gh); (try clear Hw); (try clear Hx); (try clear Lt); (try clear Gn); (try clear Gi); (try clear c27b0); (try clear Gx); (try clear Gy); (try clear c29b0); (try clear Gz); (try clear c30b0); (try clear G0); (try clear G1); (try clear c33b0); (try clear G2); (try clear G3); (try clear Br); (try clear Bs); (try clear Bt); (try clear Bu); (try clear Bv); (try clear B7); (try clear B9); (try clear Ca); (try clear Cb); (try clear Cc); (try clear C7); (try clear C8); (try clear C9); (try clear Da); (try clear Db); (try clear Bw); (try clear Bx); (try clear Bz); (try clear B0); (try clear B5); (try clear Cd); (try clear Ce); (try clear Cf); (try clear Cg); (try clear Ch); (try clear Dc); (try clear Dd); (try clear De); (try clear Df); (try clear Dg); (try clear Cp); (try clear Cq); (try clear Cr); (try clear Cs); (try clear Ct); (try clear Dh); (try clear Di); (try clear Dj); (try clear Dk); (try clear Dl); (try clear p2); (try clear E9); (try clear Fb); (try clear Fa); (try clear Fc); obtain ⟨kq, Dw, rfl, HA, HJ39, HB⟩ := hcut; cases kq with
           | zero => exact absurd HA.out (by simp [laws_FnWages.j3])
           | succ Cy =>
            have H := HA.out; clear HA
            simp only [laws_FnWages.j3] at H
            by_cases Hp : Dw = true
            ·subst Hp
             have H1 : (none) = some r := by rw [if_pos rfl] at H; exact H
             clear H; have H := H1; clear H1; exact absurd H (by simp)
            ·replace Hp := Bool.eq_false_iff.mpr Hp
             subst Hp
             have H1 : ((spec_DrawKnotsForWage.f l0).bind fun Aw => ((impl_KnotsForWage.f Cy Aw.1 Aw.2.1 Aw.2.2.1 Aw.2.2.2.1 Aw.2.2.2.2.1 Aw.2.2.2.2.2).bind fun Cl => ((spec_KnotsForWage.f Cy Aw.1 Aw.2.1 Aw.2.2.1 Aw.2.2.2.1 Aw.2.2.2.2.1 Aw.2.2.2.2.2).bind fun Ds => (if Cl.1 = Ds.1 then (laws_FnWages.j4 Cy l0 Aw.2.2.2.2.2 Cl.1 Cl.2 (Cl.2 != Ds.2) Aw.1 Aw.2.1 Aw.2.2.1 Aw.2.2.2.1 Aw.2.2.2.2.1) else (laws_FnWages.j4 Cy l0 Aw.2.2.2.2.2 Cl.1 Cl.2 true Aw.1 Aw.2.1 Aw.2.2.1 Aw.2.2.2.1 Aw.2.2.2.2.1))))) = some r := by rw [if_neg (show ¬ (false = true) by decide)] at H; exact H
             clear H; have H := H1; clear H1; replace H := Option.bind_eq_some_iff.mp H; obtain ⟨⟨Ao, Aq, Ar, Av, Ax, Az⟩, Ip, H⟩ := H; replace H : ((impl_KnotsForWage.f Cy Ao Aq Ar Av Ax Az).bind fun Cl => ((spec_KnotsForWage.f Cy Ao Aq Ar Av Ax Az).bind fun Ds => (if Cl.1 = Ds.1 then (laws_FnWages.j4 Cy l0 Az Cl.1 Cl.2 (Cl.2 != Ds.2) Ao Aq Ar Av Ax) else (laws_FnWages.j4 Cy l0 Az Cl.1 Cl.2 true Ao Aq Ar Av Ax)))) = some r := H; have Oc := Aside0.mk Ip; clear Ip; replace H := Option.bind_eq_some_iff.mp H; obtain ⟨⟨Bc, Ek⟩, Iq, H⟩ := H; replace H : ((spec_KnotsForWage.f Cy Ao Aq Ar Av Ax Az).bind fun Ds => (if Bc = Ds.1 then (laws_FnWages.j4 Cy l0 Az Bc Ek (Ek != Ds.2) Ao Aq Ar Av Ax) else (laws_FnWages.j4 Cy l0 Az Bc Ek true Ao Aq Ar Av Ax))) = some r := H; have Od := Aside0.mk Iq; clear Iq; replace H := Option.bind_eq_some_iff.mp H; obtain ⟨⟨Fk, H0⟩, Ir, H⟩ := H; replace H : (if Bc = Fk then (laws_FnWages.j4 Cy l0 Az Bc Ek (Ek != H0) Ao Aq Ar Av Ax) else (laws_FnWages.j4 Cy l0 Az Bc Ek true Ao Aq Ar Av Ax)) = some r := H; have Oe := Aside0.mk Ir; clear Ir; have H3 := Aside0.mk H; clear H
             go_upto_region 21 with (first | ((with_reducible refine gate_callee (f := 24) rfl ?_); refine glE (some 124) Try.func24 #[.slice A0 l0.length c0] ?_; (with_reducible refine (spec_DrawKnotsForWage.calls _ _ l0 Ao Aq Ar Av Ax Az _ ?side1 ?side2 Oc.out).mono ?_); (case side1 => exact Z96); (case side2 => exact Ht.out); rintro e O5 ⟨rfl, hb⟩; refine ⟨_, rfl, ?_⟩; replace HB := hbS Z1 hb; (try clear hb)) | ((with_reducible refine gate_dst (N := 15) rfl ?_); refine bxE 15 #[.int .i64 0, .int .i64 0, .int .i64 0, .int .i64 0, .int .i64 0] 29 ?_; intro Gq hg O6 hbox hb; have Ap := aM (hbox); have M8 := gwS hg Z1; have Cu := gwS hg Z1; replace HB := hbS Z1 hb; clear hb hbox hg; obtain ⟨Dx, Dy, Dz, D0, D1⟩ := bz5 Ap; obtain ⟨D2, D3, D4, D5, D6⟩ := fz5 Ap) | ((with_reducible refine gate_callee (f := 25) rfl ?_); refine glE (some 130) Try.func25 #[.agg #[.int .i64 Ao, .int .i64 Aq, .int .i64 Ar, .int .i64 Av, .int .i64 Ax], .int .i64 Az] ?_; (with_reducible refine (impl_KnotsForWage.calls Cy Ao Aq Ar Av Ax Az Bc Ek _ Od.out).mono ?_); rintro e O7 ⟨rfl, hb⟩; refine ⟨_, rfl, ?_⟩; replace Ap := aM (blk_below (g := Gq) (o := .cells #[.int .i64 Ao, .int .i64 Aq, .int .i64 Ar, .int .i64 Av, .int .i64 Ax] 29 (0, 0)) (by (with_reducible repeat (first | refine blk_drewN ?_ _ | refine blk_drew ?_ | refine blk_alloc ?_ _)); refine blk_put (cs := #[.int .i64 Ao, .int .i64 Aq, .int .i64 Ar, .int .i64 Av, .int .i64 0]) ?_ 4 _ rfl; (with_reducible repeat (first | refine blk_drewN ?_ _ | refine blk_drew ?_ | refine blk_alloc ?_ _)); refine blk_put (cs := #[.int .i64 Ao, .int .i64 Aq, .int .i64 Ar, .int .i64 0, .int .i64 0]) ?_ 3 _ rfl; (with_reducible repeat (first | refine blk_drewN ?_ _ | refine blk_drew ?_ | refine blk_alloc ?_ _)); refine blk_put (cs := #[.int .i64 Ao, .int .i64 Aq, .int .i64 0, .int .i64 0, .int .i64 0]) ?_ 2 _ rfl; (with_reducible repeat (first | refine blk_drewN ?_ _ | refine blk_drew ?_ | refine blk_alloc ?_ _)); refine blk_put (cs := #[.int .i64 Ao, .int .i64 0, .int .i64 0, .int .i64 0, .int .i64 0]) ?_ 1 _ rfl; (with_reducible repeat (first | refine blk_drewN ?_ _ | refine blk_drew ?_ | refine blk_alloc ?_ _)); refine blk_put (cs := #[.int .i64 0, .int .i64 0, .int .i64 0, .int .i64 0, .int .i64 0]) ?_ 0 _ rfl; (with_reducible repeat (first | refine blk_drewN ?_ _ | refine blk_drew ?_ | refine blk_alloc ?_ _)); exact Ap.out) hb); replace HB := hbS Z52 hb; (try clear hb); obtain ⟨D7, D8, D9, Ea, Eb⟩ := bz5 Ap; obtain ⟨Ec, Ed, Ee, Ef, Eg⟩ := fz5 Ap) | ((with_reducible refine gate_callee (f := 26) rfl ?_); refine glE (some 136) Try.func26 #[.agg #[.int .i64 Ao, .int .i64 Aq, .int .i64 Ar, .int .i64 Av, .int .i64 Ax], .int .i64 Az] ?_; (with_reducible refine (spec_KnotsForWage.calls Cy Ao Aq Ar Av Ax Az Fk H0 _ Oe.out).mono ?_); rintro e O8 ⟨rfl, hb⟩; refine ⟨_, rfl, ?_⟩; replace Ap := bkB Ap hb; replace HB := hbS Z52 hb; (try clear hb)))
             (try simp only [Act.put, List.setIfInBounds_toArray, List.set_cons_zero, List.set_cons_succ])
             go_cut [146] (fun Ms wc => ∃ (kq : Nat) (Eh : Bool), Ms = .bool Eh ∧ Aside0 (laws_FnWages.j4 kq l0 Az Bc Ek Eh Ao Aq Ar Av Ax = some r) ∧ Aside0 (kq ≤ Cy) ∧ Aside0 (wc.heap[Gq]? = some (.cells #[.int .i64 Ao, .int .i64 Aq, .int .i64 Ar, .int .i64 Av, .int .i64 Ax] 29 (0, 0))) ∧ Aside0 (Below w.heap.size w wc))
             case first => as_aux_lemma =>
              have H := H3.out; clear H3
              by_cases Gr : Bc = Fk
              ·rw [if_pos Gr] at H
               have c55b0 : (Bc == Fk) = true := beq_iff_eq.mpr Gr; have c55b1 : (Bc != Fk) = false := bne_eq_false_iff_eq.mpr Gr; clear Gr
               (first | rw [c55b0] | (simp only [i64_w, i32_w]; rw [c55b0]) | skip)
               have H' := Aside0.mk H; clear H
               go_wp2
               go_meet
               case rel => exact ⟨_, ((Ek != H0)), Z30, H', ⟨Z145⟩, ⟨Z113⟩, ⟨Z52⟩⟩
              ·rw [if_neg Gr] at H
               have c55b0 : (Bc == Fk) = false := beq_eq_false_iff_ne.mpr Gr; have c55b1 : (Bc != Fk) = true := bne_iff_ne.mpr Gr
               (first | rw [c55b0] | (simp only [i64_w, i32_w]; rw [c55b0]) | skip)
               have H' := Aside0.mk H; clear H
               go_wp2
               go_meet
               case rel => exact ⟨_, (true), Z30, H', ⟨Z145⟩, ⟨Z113⟩, ⟨Z52⟩⟩
             case rest =>
              clear H3; (try clear c1); (try clear c2); (try clear p2); (try clear c3); (try clear c4); (try clear c5); (try clear p6); (try clear c7); (try clear p7); (try clear q7); (try clear Ls); (try clear Hv); (try clear Eu); (try clear c15b0); (try clear c15b1); (try clear c15b2); (try clear Gh); (try clear Hw); (try clear Hx); (try clear Lt); (try clear Mt); (try clear Gn); (try clear Mu); (try clear Gi); (try clear c27b0); (try clear Gx); (try clear Gy); (try clear c29b0); (try clear Gz); (try clear c30b0); (try clear G0); (try clear G1); (try clear c33b0); (try clear G2); (try clear G3); (try clear Hp); (try clear Gr); (try clear c55b0); (try clear c55b1); (try clear Br); (try clear Bs); (try clear Bt); (try clear Bu); (try clear Bv); (try clear B7); (try clear B9); (try clear Ca); (try clear Cb); (try clear Cc); (try clear C7); (try clear C8); (try clear C9); (try clear Da); (try clear Db); (try clear Dx); (try clear Dy); (try clear Dz); (try clear D0); (try clear D1); (try clear D7); (try clear D8); (try clear D9); (try clear Ea); (try clear Eb); (try clear Bw); (try clear Bx); (try clear Bz); (try clear B0); (try clear B5); (try clear Cd); (try clear Ce); (try clear Cf); (try clear Cg); (try clear Ch); (try clear Dc); (try clear Dd); (try clear De); (try clear Df); (try clear Dg); (try clear D2); (try clear D3); (try clear D4); (try clear D5); (try clear D6); (try clear Ec); (try clear Ed); (try clear Ee); (try clear Ef); (try clear Eg); (try clear Cp); (try clear Cq); (try clear Cr); (try clear Cs); (try clear Ct); (try clear Dh); (try clear Di); (try clear Dj); (try clear Dk); (try clear Dl); (try clear p2); (try clear p6); (try clear p7); (try clear E9); (try clear Fb); (try clear q7); (try clear Fa); (try clear Fc); obtain ⟨kq, Eh, rfl, HA, HJ47, Ap, HB⟩ := hcut; cases kq with
              | zero => exact absurd HA.out (by simp [laws_FnWages.j4])
              | succ Du =>
               have H := HA.out; clear HA
               simp only [laws_FnWages.j4] at H
               by_cases H4 : Eh = true
               ·subst H4
                have H1 : (none) = some r := by rw [if_pos rfl] at H; exact H
                clear H; have H := H1; clear H1; exact absurd H (by simp)
               ·replace H4 := Bool.eq_false_iff.mpr H4
                subst H4
                have H1 : (if Ek = true then ((impl_WageOf.f Ao Aq Ar Av Ax 1 0 Bc 0 0).bind fun Fd => (if Fd.2 = true then (laws_FnWages.j5 Du l0 Az Bc (decide (Fd.1 < Az)) Ao Aq Ar Av Ax) else (laws_FnWages.j5 Du l0 Az Bc true Ao Aq Ar Av Ax))) else (laws_FnWages.j6 Du l0)) = some r := by rw [if_neg (show ¬ (false = true) by decide)] at H; exact H
                clear H; have H := H1; clear H1; have H5 := Aside0.mk H; clear H
                go_upto_if 147 with (fail)
                go_cut [] (fun wc => ∃ (kq : Nat), Aside0 (laws_FnWages.j6 kq l0 = some r) ∧ Aside0 (kq ≤ Du) ∧ Aside0 (Below w.heap.size w wc))
                case first => as_aux_lemma =>
                 have H := H5.out; clear H5
                 by_cases H6 : Ek = true
                 ·subst H6
                  have H1 : ((impl_WageOf.f Ao Aq Ar Av Ax 1 0 Bc 0 0).bind fun Fd => (if Fd.2 = true then (laws_FnWages.j5 Du l0 Az Bc (decide (Fd.1 < Az)) Ao Aq Ar Av Ax) else (laws_FnWages.j5 Du l0 Az Bc true Ao Aq Ar Av Ax))) = some r := by rw [if_pos rfl] at H; exact H
                  clear H; have H := H1; clear H1; replace H := Option.bind_eq_some_iff.mp H; obtain ⟨⟨G4, H7⟩, Iu, H⟩ := H; replace H : (if H7 = true then (laws_FnWages.j5 Du l0 Az Bc (decide (G4 < Az)) Ao Aq Ar Av Ax) else (laws_FnWages.j5 Du l0 Az Bc true Ao Aq Ar Av Ax)) = some r := H; have Of := Aside0.mk Iu; clear Iu; have H8 := Aside0.mk H; clear H; obtain ⟨Ex, Ey, Ez, E0, E1⟩ := bz5 Ap; obtain ⟨E2, E3, E4, E5, E6⟩ := fz5 Ap
                  go_upto_region 25 with (first | ((with_reducible refine gate_callee (f := 21) rfl ?_); refine glE (some 152) Try.func21 #[.agg #[.int .i64 Ao, .int .i64 Aq, .int .i64 Ar, .int .i64 Av, .int .i64 Ax], .agg #[.int .i64 1, .int .i64 0, .int .i64 Bc, .int .i64 0, .int .i64 0]] ?_; (with_reducible refine (impl_WageOf.calls Ao Aq Ar Av Ax 1 0 Bc 0 0 G4 H7 _ Of.out).mono ?_); rintro e O9 ⟨rfl, hb⟩; refine ⟨_, rfl, ?_⟩; replace Ap := bkB Ap hb; replace HB := hbS Z52 hb; (try clear hb)))
                  (try simp only [Act.put, List.setIfInBounds_toArray, List.set_cons_zero, List.set_cons_succ])
                  go_cut [161] (fun Mv wc => ∃ (kq : Nat) (Ei : Bool), Mv = .bool Ei ∧ Aside0 (laws_FnWages.j5 kq l0 Az Bc Ei Ao Aq Ar Av Ax = some r) ∧ Aside0 (kq ≤ Du) ∧ Aside0 (wc.heap[Gq]? = some (.cells #[.int .i64 Ao, .int .i64 Aq, .int .i64 Ar, .int .i64 Av, .int .i64 Ax] 29 (0, 0))) ∧ Aside0 (Below w.heap.size w wc))
                  case first => as_aux_lemma =>
                   have H := H8.out; clear H8
                   by_cases H9 : H7 = true
                   ·subst H9
                    have H1 : (laws_FnWages.j5 Du l0 Az Bc (decide (G4 < Az)) Ao Aq Ar Av Ax) = some r := by rw [if_pos rfl] at H; exact H
                    clear H; have H := H1; clear H1; have H' := Aside0.mk H; clear H
                    go_wp2
                    go_meet
                    case rel => exact ⟨_, (decide (G4 < Az)), Z30, H', ⟨Z125⟩, ⟨Z113⟩, ⟨Z52⟩⟩
                   ·replace H9 := Bool.eq_false_iff.mpr H9
                    subst H9
                    have H1 : (laws_FnWages.j5 Du l0 Az Bc true Ao Aq Ar Av Ax) = some r := by rw [if_neg (show ¬ (false = true) by decide)] at H; exact H
                    clear H; have H := H1; clear H1; have H' := Aside0.mk H; clear H
                    go_wp2
                    go_meet
                    case rel => exact ⟨_, (true), Z30, H', ⟨Z125⟩, ⟨Z113⟩, ⟨Z52⟩⟩
                  case rest =>
                   clear H8; (try clear c1); (try clear c2); (try clear p2); (try clear c3); (try clear c4); (try clear c5); (try clear c6); (try clear p6); (try clear c7); (try clear p7); (try clear q7); (try clear Ls); (try clear Hv); (try clear Eu); (try clear c15b0); (try clear c15b1); (try clear c15b2); (try clear Gh); (try clear Hw); (try clear Hx); (try clear Lt); (try clear Mt); (try clear Gn); (try clear Mu); (try clear Gi); (try clear c27b0); (try clear Gx); (try clear Gy); (try clear c29b0); (try clear Gz); (try clear c30b0); (try clear G0); (try clear G1); (try clear c33b0); (try clear G2); (try clear G3); (try clear Hp); (try clear Gr); (try clear c55b0); (try clear c55b1); (try clear H4); (try clear H6); (try clear H9); (try clear Br); (try clear Bs); (try clear Bt); (try clear Bu); (try clear Bv); (try clear B7); (try clear B9); (try clear Ca); (try clear Cb); (try clear Cc); (try clear C7); (try clear C8); (try clear C9); (try clear Da); (try clear Db); (try clear Dx); (try clear Dy); (try clear Dz); (try clear D0); (try clear D1); (try clear D7); (try clear D8); (try clear D9); (try clear Ea); (try clear Eb); (try clear Ex); (try clear Ey); (try clear Ez); (try clear E0); (try clear E1); (try clear Bw); (try clear Bx); (try clear Bz); (try clear B0); (try clear B5); (try clear Cd); (try clear Ce); (try clear Cf); (try clear Cg); (try clear Ch); (try clear Dc); (try clear Dd); (try clear De); (try clear Df); (try clear Dg); (try clear D2); (try clear D3); (try clear D4); (try clear D5); (try clear D6); (try clear Ec); (try clear Ed); (try clear Ee); (try clear Ef); (try clear Eg); (try clear E2); (try clear E3); (try clear E4); (try clear E5); (try clear E6); (try clear Cp); (try clear Cq); (try clear Cr); (try clear Cs); (try clear Ct); (try clear Dh); (try clear Di); (try clear Dj); (try clear Dk); (try clear Dl); (try clear p2); (try clear p6); (try clear p7); (try clear E9); (try clear Fb); (try clear q7); (try clear Fa); (try clear Fc); obtain ⟨kq, Ei, rfl, HA, HJ59, Ap, HB⟩ := hcut; cases kq with
                   | zero => exact absurd HA.out (by simp [laws_FnWages.j5])
                   | succ Ge =>
                    have H := HA.out; clear HA
                    simp only [laws_FnWages.j5] at H
                    by_cases Ic : Ei = true
                    ·subst Ic
                     have H1 : (none) = some r := by rw [if_pos rfl] at H; exact H
                     clear H; have H := H1; clear H1; exact absurd H (by simp)
                    ·replace Ic := Bool.eq_false_iff.mpr Ic
                     subst Ic
                     have H1 : ((impl_WageOf.f Ao Aq Ar Av Ax 1 0 (wrap64 (Bc - 1)) 0 0).bind fun Hq => (if Hq.2 = true then (if Hq.1 ≥ Az then (none) else (laws_FnWages.j6 Ge l0)) else (laws_FnWages.j6 Ge l0))) = some r := by rw [if_neg (show ¬ (false = true) by decide)] at H; exact H
                     clear H; have H := H1; clear H1; replace H := Option.bind_eq_some_iff.mp H; obtain ⟨⟨Gf, Iv⟩, Iw, H⟩ := H; replace H : (if Iv = true then (if Gf ≥ Az then (none) else (laws_FnWages.j6 Ge l0)) else (laws_FnWages.j6 Ge l0)) = some r := H; have M9 := Aside0.mk Iw; clear Iw
                     by_cases Ie : Iv = true
                     ·subst Ie
                      have H1 : (if Gf ≥ Az then (none) else (laws_FnWages.j6 Ge l0)) = some r := by rw [if_pos rfl] at H; exact H
                      clear H; have H := H1; clear H1
                      by_cases Ig : Gf ≥ Az
                      ·rw [if_pos Ig] at H
                       exact absurd H (by simp)
                      ·rw [if_neg Ig] at H
                       have c67b0 : decide (Az ≤ Gf) = false := decide_eq_false Ig; clear Ig; have H' := Aside0.mk H; clear H; obtain ⟨Fq, Fr, Fs, Ft, Fu⟩ := bz5 Ap; obtain ⟨Fv, Fw, Fx, Fy, Fz⟩ := fz5 Ap
                       go_wp2_with (first | ((with_reducible refine gate_callee (f := 21) rfl ?_); refine glE (some 167) Try.func21 #[.agg #[.int .i64 Ao, .int .i64 Aq, .int .i64 Ar, .int .i64 Av, .int .i64 Ax], .agg #[.int .i64 1, .int .i64 0, .int .i64 (wrap64 (Bc - 1)), .int .i64 0, .int .i64 0]] ?_; (with_reducible refine (impl_WageOf.calls Ao Aq Ar Av Ax 1 0 (wrap64 (Bc - 1)) 0 0 Gf true _ M9.out).mono ?_); rintro e Pa ⟨rfl, hb⟩; refine ⟨_, rfl, ?_⟩; replace Ap := bkB Ap hb; replace HB := hbS Z52 hb; (try clear hb)))
                       go_meet
                       case rel => exact ⟨_, H', ⟨Z137⟩, ⟨Z52⟩⟩
                     ·replace Ie := Bool.eq_false_iff.mpr Ie
                      subst Ie
                      have H1 : (laws_FnWages.j6 Ge l0) = some r := by rw [if_neg (show ¬ (false = true) by decide)] at H; exact H
                      clear H; have H := H1; clear H1; have H' := Aside0.mk H; clear H; obtain ⟨F0, F1, F2, F3, F4⟩ := bz5 Ap; obtain ⟨F5, F6, F7, F8, F9⟩ := fz5 Ap
                      go_wp2_with (first | ((with_reducible refine gate_callee (f := 21) rfl ?_); refine glE (some 167) Try.func21 #[.agg #[.int .i64 Ao, .int .i64 Aq, .int .i64 Ar, .int .i64 Av, .int .i64 Ax], .agg #[.int .i64 1, .int .i64 0, .int .i64 (wrap64 (Bc - 1)), .int .i64 0, .int .i64 0]] ?_; (with_reducible refine (impl_WageOf.calls Ao Aq Ar Av Ax 1 0 (wrap64 (Bc - 1)) 0 0 Gf false _ M9.out).mono ?_); rintro e Pb ⟨rfl, hb⟩; refine ⟨_, rfl, ?_⟩; replace Ap := bkB Ap hb; replace HB := hbS Z52 hb; (try clear hb)))
                      go_meet
                      case rel => exact ⟨_, H', ⟨Z137⟩, ⟨Z52⟩⟩
                 ·replace H6 := Bool.eq_false_iff.mpr H6
                  subst H6
                  have H1 : (laws_FnWages.j6 Du l0) = some r := by rw [if_neg (show ¬ (false = true) by decide)] at H; exact H
                  clear H; have H := H1; clear H1; have H' := Aside0.mk H; clear H
                  go_wp2
                  go_meet
                  case rel => exact ⟨_, H', ⟨Z125⟩, ⟨Z52⟩⟩
                case rest =>
                 clear H5; (try clear c1); (try clear c2); (try clear p2); (try clear c3); (try clear c4); (try clear c5); (try clear c6); (try clear p6); (try clear c7); (try clear p7); (try clear q7); (try clear Ls); (try clear Hv); (try clear Eu); (try clear c15b0); (try clear c15b1); (try clear c15b2); (try clear Gh); (try clear Hw); (try clear Hx); (try clear Lt); (try clear Mt); (try clear Gn); (try clear Mu); (try clear Gi); (try clear c27b0); (try clear Gx); (try clear Gy); (try clear c29b0); (try clear Gz); (try clear c30b0); (try clear G0); (try clear G1); (try clear c33b0); (try clear G2); (try clear G3); (try clear Hp); (try clear Gr); (try clear c55b0); (try clear c55b1); (try clear H4); (try clear H6); (try clear H9); (try clear Ic); (try clear Na); (try clear Ie); (try clear Ig); (try clear c67b0); (try clear Br); (try clear Bs); (try clear Bt); (try clear Bu); (try clear Bv); (try clear B7); (try clear B9); (try clear Ca); (try clear Cb); (try clear Cc); (try clear C7); (try clear C8); (try clear C9); (try clear Da); (try clear Db); (try clear Dx); (try clear Dy); (try clear Dz); (try clear D0); (try clear D1); (try clear D7); (try clear D8); (try clear D9); (try clear Ea); (try clear Eb); (try clear Ex); (try clear Ey); (try clear Ez); (try clear E0); (try clear E1); (try clear Fq); (try clear Fr); (try clear Fs); (try clear Ft); (try clear Fu); (try clear F0); (try clear F1); (try clear F2); (try clear F3); (try clear F4); (try clear Bw); (try clear Bx); (try clear Bz); (try clear B0); (try clear B5); (try clear Cd); (try clear Ce); (try clear Cf); (try clear Cg); (try clear Ch); (try clear Dc); (try clear Dd); (try clear De); (try clear Df); (try clear Dg); (try clear D2); (try clear D3); (try clear D4); (try clear D5); (try clear D6); (try clear Ec); (try clear Ed); (try clear Ee); (try clear Ef); (try clear Eg); (try clear E2); (try clear E3); (try clear E4); (try clear E5); (try clear E6); (try clear Fv); (try clear Fw); (try clear Fx); (try clear Fy); (try clear Fz); (try clear F5); (try clear F6); (try clear F7); (try clear F8); (try clear F9); (try clear Cp); (try clear Cq); (try clear Cr); (try clear Cs); (try clear Ct); (try clear Dh); (try clear Di); (try clear Dj); (try clear Dk); (try clear Dl); (try clear p2); (try clear p6); (try clear p7); (try clear E9); (try clear Fb); (try clear q7); (try clear Fa); (try clear Fc); obtain ⟨kq, HA, HJ56, HB⟩ := hcut; cases kq with
                 | zero => exact absurd HA.out (by simp [laws_FnWages.j6])
                 | succ Cz =>
                  have H := HA.out; clear HA
                  simp only [laws_FnWages.j6] at H
                  replace H := Option.bind_eq_some_iff.mp H; obtain ⟨⟨C3, Dm, Dr, Dv, El, E7, Fe, Ff, Fg⟩, Ix, H⟩ := H; replace H : ((impl_WagesBetween.f Cz C3 Dm Dr Dv El E7 Fe Ff Fg).bind fun Gs => ((spec_WagesBetween.f Cz C3 Dm Dr Dv El E7 Fe Ff Fg).bind fun Fh => (if Gs.1 = Fh.1 then (if (Gs.2 != Fh.2) = true then (laws_FnWages.j7 Cz l0 true) else (laws_FnWages.j7 Cz l0 (decide (Gs.1 < 0)))) else (laws_FnWages.j7 Cz l0 true)))) = some r := H; have Og := Aside0.mk Ix; clear Ix; replace H := Option.bind_eq_some_iff.mp H; obtain ⟨⟨Em, En⟩, Iy, H⟩ := H; replace H : ((spec_WagesBetween.f Cz C3 Dm Dr Dv El E7 Fe Ff Fg).bind fun Fh => (if Em = Fh.1 then (if (En != Fh.2) = true then (laws_FnWages.j7 Cz l0 true) else (laws_FnWages.j7 Cz l0 (decide (Em < 0)))) else (laws_FnWages.j7 Cz l0 true))) = some r := H; have Oh := Aside0.mk Iy; clear Iy; replace H := Option.bind_eq_some_iff.mp H; obtain ⟨⟨Fl, Er⟩, Iz, H⟩ := H; replace H : (if Em = Fl then (if (En != Er) = true then (laws_FnWages.j7 Cz l0 true) else (laws_FnWages.j7 Cz l0 (decide (Em < 0)))) else (laws_FnWages.j7 Cz l0 true)) = some r := H; have Oi := Aside0.mk Iz; clear Iz; have Ia := Aside0.mk H; clear H
                  go_upto_region 33 with (first | ((with_reducible refine gate_callee (f := 27) rfl ?_); refine glE (some 178) Try.func27 #[.slice A0 l0.length c0] ?_; (with_reducible refine (spec_DrawWagesBetween.calls Cz _ _ l0 C3 Dm Dr Dv El E7 Fe Ff Fg _ ?side1 ?side2 Og.out).mono ?_); (case side1 => exact Z96); (case side2 => exact Ht.out); rintro e Pc ⟨Oj, rfl, Ga, hb⟩; refine ⟨_, rfl, ?_⟩; have Cv := aM (Kd.R_lower Ga (below_size Z1)); replace HB := hbS Z1 hb; (try clear hb); (try clear Ga)) | ((with_reducible refine gate_dst (N := 25) rfl ?_); refine bxE 25 #[.int .i64 0, .int .i64 0, .int .i64 0, .int .i64 0, .int .i64 0] 29 ?_; intro Cw hg Pd hbox hb; replace Cv := roB Cv hb; have C1 := aM (hbox); have Nb := gwS hg Z1; have Fi := gwS hg Z1; replace HB := hbS Z1 hb; clear hb hbox hg; obtain ⟨G5, G6, G7, G8, G9⟩ := bz5 C1; obtain ⟨Ha, Hb, Hc, Hd, He⟩ := fz5 C1; obtain ⟨I0, Ib, Mw⟩ := Kd.R_slice Cv.out; subst Mw) | ((with_reducible refine gate_callee (f := 28) rfl ?_); refine glE (some 190) Try.func28 #[.agg #[.int .i64 C3, .int .i64 Dm, .int .i64 Dr, .int .i64 Dv, .int .i64 El], .slice I0 E7.length Ib, .int .i64 Fe, .int .i64 Ff, .int .i64 Fg] ?_; (with_reducible refine (impl_WagesBetween.calls Cz C3 Dm Dr Dv El _ _ E7 Fe Ff Fg Em En _ ?side1 ?side2 Oh.out).mono ?_); (case side1 => refine (Kd.R_reads' (e := 48) (base := w.heap.size) (ok := fun k_ => True) (n := E7.length) (c := Ib) ?_).2.2; exact (by (with_reducible repeat (first | apply Kd.R_alloc | apply Kd.R_drewN | apply Kd.R_drew)); exact (Kd.R_mono (Kd.R_far (p := ⟨Cw, 4, none⟩) (Kd.R_far (p := ⟨Cw, 3, none⟩) (Kd.R_far (p := ⟨Cw, 2, none⟩) (Kd.R_far (p := ⟨Cw, 1, none⟩) (Kd.R_far (p := ⟨Cw, 0, none⟩) (Kd.R_types Cv.out C1.out (by decide)) (fun _ hk => hk.2) (.int .i64 C3)) (fun _ hk => hk.2) (.int .i64 Dm)) (fun _ hk => hk.2) (.int .i64 Dr)) (fun _ hk => hk.2) (.int .i64 Dv)) (fun _ hk => hk.2) (.int .i64 El)) (fun _ h_ => h_.1)))); (case side2 => exact (Kd.R_reads' Cv.out).2.1); rintro e Pe ⟨rfl, hb⟩; refine ⟨_, rfl, ?_⟩; replace Cv := aM (Kd.R_below (by (with_reducible repeat (first | apply Kd.R_alloc | apply Kd.R_drewN | apply Kd.R_drew)); exact (Kd.R_mono (Kd.R_far (p := ⟨Cw, 4, none⟩) (Kd.R_far (p := ⟨Cw, 3, none⟩) (Kd.R_far (p := ⟨Cw, 2, none⟩) (Kd.R_far (p := ⟨Cw, 1, none⟩) (Kd.R_far (p := ⟨Cw, 0, none⟩) (Kd.R_types Cv.out C1.out (by decide)) (fun _ hk => hk.2) (.int .i64 C3)) (fun _ hk => hk.2) (.int .i64 Dm)) (fun _ hk => hk.2) (.int .i64 Dr)) (fun _ hk => hk.2) (.int .i64 Dv)) (fun _ hk => hk.2) (.int .i64 El)) (fun _ h_ => h_.1))) hb); replace C1 := aM (blk_below (g := Cw) (o := .cells #[.int .i64 C3, .int .i64 Dm, .int .i64 Dr, .int .i64 Dv, .int .i64 El] 29 (0, 0)) (by (with_reducible repeat (first | refine blk_drewN ?_ _ | refine blk_drew ?_ | refine blk_alloc ?_ _)); refine blk_put (cs := #[.int .i64 C3, .int .i64 Dm, .int .i64 Dr, .int .i64 Dv, .int .i64 0]) ?_ 4 _ rfl; (with_reducible repeat (first | refine blk_drewN ?_ _ | refine blk_drew ?_ | refine blk_alloc ?_ _)); refine blk_put (cs := #[.int .i64 C3, .int .i64 Dm, .int .i64 Dr, .int .i64 0, .int .i64 0]) ?_ 3 _ rfl; (with_reducible repeat (first | refine blk_drewN ?_ _ | refine blk_drew ?_ | refine blk_alloc ?_ _)); refine blk_put (cs := #[.int .i64 C3, .int .i64 Dm, .int .i64 0, .int .i64 0, .int .i64 0]) ?_ 2 _ rfl; (with_reducible repeat (first | refine blk_drewN ?_ _ | refine blk_drew ?_ | refine blk_alloc ?_ _)); refine blk_put (cs := #[.int .i64 C3, .int .i64 0, .int .i64 0, .int .i64 0, .int .i64 0]) ?_ 1 _ rfl; (with_reducible repeat (first | refine blk_drewN ?_ _ | refine blk_drew ?_ | refine blk_alloc ?_ _)); refine blk_put (cs := #[.int .i64 0, .int .i64 0, .int .i64 0, .int .i64 0, .int .i64 0]) ?_ 0 _ rfl; (with_reducible repeat (first | refine blk_drewN ?_ _ | refine blk_drew ?_ | refine blk_alloc ?_ _)); exact C1.out) hb); replace HB := hbS Z88 hb; (try clear hb); obtain ⟨Hf, Hg, Hh, Hi, Hj⟩ := bz5 C1; obtain ⟨Hk, Hl, Hm, Hn, Ho⟩ := fz5 C1) | ((with_reducible refine gate_callee (f := 29) rfl ?_); refine glE (some 199) Try.func29 #[.agg #[.int .i64 C3, .int .i64 Dm, .int .i64 Dr, .int .i64 Dv, .int .i64 El], .slice I0 E7.length Ib, .int .i64 Fe, .int .i64 Ff, .int .i64 Fg] ?_; (with_reducible refine (spec_WagesBetween.calls Cz C3 Dm Dr Dv El _ _ E7 Fe Ff Fg Fl Er _ ?side1 ?side2 Oi.out).mono ?_); (case side1 => exact (by repeat (first | exact (Kd.R_reads' Cv.out).2.2 | (with_reducible refine Kd.C_alloc ?_ _) | (with_reducible refine Kd.C_drewN ?_ _) | (with_reducible refine Kd.C_drew ?_)))); (case side2 => exact (Kd.R_reads' Cv.out).2.1); rintro e Pf ⟨rfl, hb⟩; refine ⟨_, rfl, ?_⟩; replace Cv := roB Cv hb; replace C1 := bkB C1 hb; replace HB := hbS Z88 hb; (try clear hb)))
                  (try simp only [Act.put, List.setIfInBounds_toArray, List.set_cons_zero, List.set_cons_succ])
                  go_cut [213] (fun Mx wc => ∃ (kq : Nat) (Ej : Bool), Mx = .bool Ej ∧ Aside0 (laws_FnWages.j7 kq l0 Ej = some r) ∧ Aside0 (kq ≤ Cz) ∧ Aside0 (Below w.heap.size w wc))
                  case first => as_aux_lemma =>
                   have H := Ia.out; clear Ia
                   by_cases Hr : Em = Fl
                   ·rw [if_pos Hr] at H
                    have c83b0 : (Em == Fl) = true := beq_iff_eq.mpr Hr; have c83b1 : (Em != Fl) = false := bne_eq_false_iff_eq.mpr Hr; clear Hr
                    (first | rw [c83b0] | (simp only [i64_w, i32_w]; rw [c83b0]) | skip)
                    by_cases Gj : (En != Er) = true
                    ·rw [if_pos Gj] at H
                     have c84b0 : (En != Er) = true := Gj
                     (try (have c84b1 : decide (En = Er) = false := Z164))
                     (try (have c84b2 : (En == Er) = false := Z164))
                     (try (have c84b3 : ¬ (En = Er) := Z164))
                     clear Gj; have H' := Aside0.mk H; clear H
                     go_wp2
                     go_meet
                     case rel => exact ⟨_, (true), Z30, H', ⟨Z114⟩, ⟨Z88⟩⟩
                    ·rw [if_neg Gj] at H
                     have c84b0 : (En != Er) = false := by simpa using Gj
                     (try (have c84b1 : decide (En = Er) = true := Z164))
                     (try (have c84b2 : (En == Er) = true := Z164))
                     clear Gj; have H' := Aside0.mk H; clear H
                     go_wp2
                     go_meet
                     case rel => exact ⟨_, (decide (Em < 0)), Z30, H', ⟨Z114⟩, ⟨Z88⟩⟩
                   ·rw [if_neg Hr] at H
                    have c83b0 : (Em == Fl) = false := beq_eq_false_iff_ne.mpr Hr; have c83b1 : (Em != Fl) = true := bne_iff_ne.mpr Hr
                    (first | rw [c83b0] | (simp only [i64_w, i32_w]; rw [c83b0]) | skip)
                    have H' := Aside0.mk H; clear H
                    go_wp2
                    go_meet
                    case rel => exact ⟨_, (true), Z30, H', ⟨Z114⟩, ⟨Z88⟩⟩
                  case rest =>
                   clear Ia; (try clear c1); (try clear c2); (try clear p2); (try clear c3); (try clear c4); (try clear c5); (try clear c6); (try clear p6); (try clear c7); (try clear p7); (try clear q7); (try clear Ls); (try clear c8); (try clear Hv); (try clear Eu); (try clear c15b0); (try clear c15b1); (try clear c15b2); (try clear Gh); (try clear Hw); (try clear Hx); (try clear Lt); (try clear Mt); (try clear Gn); (try clear Mu); (try clear Gi); (try clear c27b0); (try clear Gx); (try clear Gy); (try clear c29b0); (try clear Gz); (try clear c30b0); (try clear G0); (try clear G1); (try clear c33b0); (try clear G2); (try clear G3); (try clear Hp); (try clear Gr); (try clear c55b0); (try clear c55b1); (try clear H4); (try clear H6); (try clear H9); (try clear Ic); (try clear Na); (try clear Ie); (try clear Ig); (try clear c67b0); (try clear Pg); (try clear Ph); (try clear Ok); (try clear Hr); (try clear c83b0); (try clear c83b1); (try clear Gj); (try clear c84b0); (try clear c84b1); (try clear c84b2); (try clear Br); (try clear Bs); (try clear Bt); (try clear Bu); (try clear Bv); (try clear B7); (try clear B9); (try clear Ca); (try clear Cb); (try clear Cc); (try clear C7); (try clear C8); (try clear C9); (try clear Da); (try clear Db); (try clear Dx); (try clear Dy); (try clear Dz); (try clear D0); (try clear D1); (try clear D7); (try clear D8); (try clear D9); (try clear Ea); (try clear Eb); (try clear Ex); (try clear Ey); (try clear Ez); (try clear E0); (try clear E1); (try clear Fq); (try clear Fr); (try clear Fs); (try clear Ft); (try clear Fu); (try clear F0); (try clear F1); (try clear F2); (try clear F3); (try clear F4); (try clear G5); (try clear G6); (try clear G7); (try clear G8); (try clear G9); (try clear Hf); (try clear Hg); (try clear Hh); (try clear Hi); (try clear Hj); (try clear Bw); (try clear Bx); (try clear Bz); (try clear B0); (try clear B5); (try clear Cd); (try clear Ce); (try clear Cf); (try clear Cg); (try clear Ch); (try clear Dc); (try clear Dd); (try clear De); (try clear Df); (try clear Dg); (try clear D2); (try clear D3); (try clear D4); (try clear D5); (try clear D6); (try clear Ec); (try clear Ed); (try clear Ee); (try clear Ef); (try clear Eg); (try clear E2); (try clear E3); (try clear E4); (try clear E5); (try clear E6); (try clear Fv); (try clear Fw); (try clear Fx); (try clear Fy); (try clear Fz); (try clear F5); (try clear F6); (try clear F7); (try clear F8); (try clear F9); (try clear Ha); (try clear Hb); (try clear Hc); (try clear Hd); (try clear He); (try clear Hk); (try clear Hl); (try clear Hm); (try clear Hn); (try clear Ho); (try clear Cp); (try clear Cq); (try clear Cr); (try clear Cs); (try clear Ct); (try clear Dh); (try clear Di); (try clear Dj); (try clear Dk); (try clear Dl); (try clear p2); (try clear p6); (try clear Na); (try clear p7); (try clear E9); (try clear Fb); (try clear q7); (try clear Fa); (try clear Fc); obtain ⟨kq, Ej, rfl, HA, HJ74, HB⟩ := hcut; cases kq with
                   | zero => exact absurd HA.out (by simp [laws_FnWages.j7])
                   | succ Ol =>
                    have H := HA.out; clear HA
                    simp only [laws_FnWages.j7] at H
                    by_cases Lu : Ej = true
                    ·subst Lu
                     have H1 : (none) = some r := by rw [if_pos rfl] at H; exact H
                     clear H; have H := H1; clear H1; exact absurd H (by simp)
                    ·replace Lu := Bool.eq_false_iff.mpr Lu
                     subst Lu
                     have H1 : ((spec_DrawWageOf.f l0).bind fun Aj => ((impl_WageOf.f Aj.1 Aj.2.1 Aj.2.2.1 Aj.2.2.2.1 Aj.2.2.2.2.1 Aj.2.2.2.2.2.1 Aj.2.2.2.2.2.2.1 Aj.2.2.2.2.2.2.2.1 Aj.2.2.2.2.2.2.2.2.1 Aj.2.2.2.2.2.2.2.2.2).bind fun Dn => ((spec_WageOf.f Aj.1 Aj.2.1 Aj.2.2.1 Aj.2.2.2.1 Aj.2.2.2.2.1 Aj.2.2.2.2.2.1 Aj.2.2.2.2.2.2.1 Aj.2.2.2.2.2.2.2.1 Aj.2.2.2.2.2.2.2.2.1 Aj.2.2.2.2.2.2.2.2.2).bind fun Dt => (if Dn.1 = Dt.1 then (if (Dn.2 == Dt.2) = true then ((impl_AreRates.f Aj.1 Aj.2.1 Aj.2.2.1 Aj.2.2.2.1 Aj.2.2.2.2.1).bind fun Es => (if Es = true then ((impl_IsWorkSheet.f Aj.2.2.2.2.2.1 Aj.2.2.2.2.2.2.1 Aj.2.2.2.2.2.2.2.1 Aj.2.2.2.2.2.2.2.2.1 Aj.2.2.2.2.2.2.2.2.2).bind fun Dp => (some (Dn.2 == Dp))) else (some (Dn.2 == false)))) else (none)) else (none))))) = some r := by rw [if_neg (show ¬ (false = true) by decide)] at H; exact H
                     clear H; have H := H1; clear H1; replace H := Option.bind_eq_some_iff.mp H; obtain ⟨⟨Bh, Bj, Bn, Bp, Cm, Bg, Bi, Bk, Bo, Cj⟩, I1, H⟩ := H; replace H : ((impl_WageOf.f Bh Bj Bn Bp Cm Bg Bi Bk Bo Cj).bind fun Dn => ((spec_WageOf.f Bh Bj Bn Bp Cm Bg Bi Bk Bo Cj).bind fun Dt => (if Dn.1 = Dt.1 then (if (Dn.2 == Dt.2) = true then ((impl_AreRates.f Bh Bj Bn Bp Cm).bind fun Es => (if Es = true then ((impl_IsWorkSheet.f Bg Bi Bk Bo Cj).bind fun Dp => (some (Dn.2 == Dp))) else (some (Dn.2 == false)))) else (none)) else (none)))) = some r := H; have Nc := Aside0.mk I1; clear I1; replace H := Option.bind_eq_some_iff.mp H; obtain ⟨⟨Fm, Cx⟩, I2, H⟩ := H; replace H : ((spec_WageOf.f Bh Bj Bn Bp Cm Bg Bi Bk Bo Cj).bind fun Dt => (if Fm = Dt.1 then (if (Cx == Dt.2) = true then ((impl_AreRates.f Bh Bj Bn Bp Cm).bind fun Es => (if Es = true then ((impl_IsWorkSheet.f Bg Bi Bk Bo Cj).bind fun Dp => (some (Cx == Dp))) else (some (Cx == false)))) else (none)) else (none))) = some r := H; have Nd := Aside0.mk I2; clear I2; replace H := Option.bind_eq_some_iff.mp H; obtain ⟨⟨Gg, Fo⟩, I3, H⟩ := H; replace H : (if Fm = Gg then (if (Cx == Fo) = true then ((impl_AreRates.f Bh Bj Bn Bp Cm).bind fun Es => (if Es = true then ((impl_IsWorkSheet.f Bg Bi Bk Bo Cj).bind fun Dp => (some (Cx == Dp))) else (some (Cx == false)))) else (none)) else (none)) = some r := H; have Nf := Aside0.mk I3; clear I3
                     by_cases I4 : Fm = Gg
                     ·rw [if_pos I4] at H
                      have c89b0 : (Fm == Gg) = true := beq_iff_eq.mpr I4; have c89b1 : (Fm != Gg) = false := bne_eq_false_iff_eq.mpr I4; clear I4
                      by_cases Ih : (Cx == Fo) = true
                      ·rw [if_pos Ih] at H
                       have c90b0 : (Cx == Fo) = true := Ih
                       (try (have c90b1 : decide (Cx = Fo) = true := by simpa using Ih))
                       (try (have c90b2 : (Cx == Fo) = true := by simpa using Ih))
                       clear Ih; replace H := Option.bind_eq_some_iff.mp H; obtain ⟨Es, I5, H⟩ := H; replace H : (if Es = true then ((impl_IsWorkSheet.f Bg Bi Bk Bo Cj).bind fun Dp => (some (Cx == Dp))) else (some (Cx == false))) = some r := H; have Ng := Aside0.mk I5; clear I5
                       by_cases Lv : Es = true
                       ·subst Lv
                        have H1 : ((impl_IsWorkSheet.f Bg Bi Bk Bo Cj).bind fun Dp => (some (Cx == Dp))) = some r := by rw [if_pos rfl] at H; exact H
                        clear H; have H := H1; clear H1; replace H := Option.bind_eq_some_iff.mp H; obtain ⟨Dp, I6, H⟩ := H; replace H : (some (Cx == Dp)) = some r := H; have Om := Aside0.mk I6; clear I6; obtain rfl := Option.some.inj H
                        go_wp2_with (first | ((with_reducible refine gate_callee (f := 30) rfl ?_); refine glE (some 216) Try.func30 #[.slice A0 l0.length c0] ?_; (with_reducible refine (spec_DrawWageOf.calls _ _ l0 Bh Bj Bn Bp Cm Bg Bi Bk Bo Cj _ ?side1 ?side2 Nc.out).mono ?_); (case side1 => exact Z96); (case side2 => exact Ht.out); rintro e Pi ⟨rfl, hb⟩; refine ⟨_, rfl, ?_⟩; replace HB := hbS Z1 hb; (try clear hb)) | ((with_reducible refine gate_dst (N := 34) rfl ?_); refine bxE 34 #[.int .i64 0, .int .i64 0, .int .i64 0, .int .i64 0, .int .i64 0] 29 ?_; intro Gt hg Pj hbox hb; have Af := aM (hbox); have I7 := gwS hg Z1; have Bm := gwS hg Z1; replace HB := hbS Z1 hb; clear hb hbox hg) | ((with_reducible refine gate_dst (N := 35) rfl ?_); refine bxE 35 #[.int .i64 0, .int .i64 0, .int .i64 0, .int .i64 0, .int .i64 0] 48 ?_; intro Gu hg Pk hbox hb; have Au := aM (hbox); have I8 := gwS hg Z75; have C2 := gwS hg Z75; replace HB := hbS Z75 hb; have Ah := nbL hg Af; have Ai := nbG hg Af; replace Af := bkB Af hb; clear hb hbox hg; have Nh := Ah.out; have Nk := Ai.out; obtain ⟨Lw, Lx, Ly, Lz, L0⟩ := bz5 Af; obtain ⟨L1, L2, L3, L4, L5⟩ := fz5 Af; obtain ⟨L6, L7, L8, L9, Ma⟩ := bz5 Au; obtain ⟨Mb, Mc, Md, Me, Mf⟩ := fz5 Au) | ((with_reducible refine gate_callee (f := 21) rfl ?_); refine glE (some 222) Try.func21 #[.agg #[.int .i64 Bh, .int .i64 Bj, .int .i64 Bn, .int .i64 Bp, .int .i64 Cm], .agg #[.int .i64 Bg, .int .i64 Bi, .int .i64 Bk, .int .i64 Bo, .int .i64 Cj]] ?_; (with_reducible refine (impl_WageOf.calls Bh Bj Bn Bp Cm Bg Bi Bk Bo Cj Fm Cx _ Nd.out).mono ?_); rintro e Oo ⟨rfl, hb⟩; refine ⟨_, rfl, ?_⟩; replace Af := aM (blk_below (g := Gt) (o := .cells #[.int .i64 Bh, .int .i64 Bj, .int .i64 Bn, .int .i64 Bp, .int .i64 Cm] 29 (0, 0)) Z38 hb); replace Au := aM (blk_below (g := Gu) (o := .cells #[.int .i64 Bg, .int .i64 Bi, .int .i64 Bk, .int .i64 Bo, .int .i64 Cj] 48 (0, 0)) Z39 hb); replace HB := hbS Z57 hb; (try clear hb); obtain ⟨I9, Ja, Jb, Jc, Jd⟩ := bz5 Af; obtain ⟨Je, Jf, Jg, Jh, Ji⟩ := fz5 Af; obtain ⟨Jj, Jk, Jl, Jm, Jn⟩ := bz5 Au; obtain ⟨Jo, Jp, Jq, Jr, Js⟩ := fz5 Au) | ((with_reducible refine gate_callee (f := 31) rfl ?_); refine glE (some 228) Try.func31 #[.agg #[.int .i64 Bh, .int .i64 Bj, .int .i64 Bn, .int .i64 Bp, .int .i64 Cm], .agg #[.int .i64 Bg, .int .i64 Bi, .int .i64 Bk, .int .i64 Bo, .int .i64 Cj]] ?_; (with_reducible refine (spec_WageOf.calls Bh Bj Bn Bp Cm Bg Bi Bk Bo Cj Gg Fo _ Nf.out).mono ?_); rintro e Oq ⟨rfl, hb⟩; refine ⟨_, rfl, ?_⟩; replace Af := bkB Af hb; replace Au := bkB Au hb; replace HB := hbS Z57 hb; (try clear hb); obtain ⟨Jt, Ju, Jv, Jw, Jx⟩ := bz5 Af; obtain ⟨Jy, Jz, J0, J1, J2⟩ := fz5 Af) | (go_at_call 32; (with_reducible refine (impl_AreRates.calls Bh Bj Bn Bp Cm true _ Ng.out).mono ?_); rintro e Ot ⟨rfl, hb⟩; replace Af := bkB Af hb; replace Au := bkB Au hb; replace HB := hbS Z57 hb; (try clear hb); obtain ⟨J3, J4, J5, J6, J7⟩ := bz5 Au; obtain ⟨J8, J9, Ka, Kb, Kc⟩ := fz5 Au) | (go_at_call 33; (with_reducible refine (impl_IsWorkSheet.calls Bg Bi Bk Bo Cj Dp _ Om.out).mono ?_); rintro e Ou ⟨rfl, hb⟩; replace Af := bkB Af hb; replace Au := bkB Au hb; replace HB := hbS Z57 hb; (try clear hb)))
                        go_ret
                        exact ⟨Z20, Z57⟩
                       ·replace Lv := Bool.eq_false_iff.mpr Lv
                        subst Lv
                        have H1 : (some (Cx == false)) = some r := by rw [if_neg (show ¬ (false = true) by decide)] at H; exact H
                        clear H; have H := H1; clear H1; obtain rfl := Option.some.inj H
                        go_wp2_with (first | ((with_reducible refine gate_callee (f := 30) rfl ?_); refine glE (some 216) Try.func30 #[.slice A0 l0.length c0] ?_; (with_reducible refine (spec_DrawWageOf.calls _ _ l0 Bh Bj Bn Bp Cm Bg Bi Bk Bo Cj _ ?side1 ?side2 Nc.out).mono ?_); (case side1 => exact Z96); (case side2 => exact Ht.out); rintro e Ov ⟨rfl, hb⟩; refine ⟨_, rfl, ?_⟩; replace HB := hbS Z1 hb; (try clear hb)) | ((with_reducible refine gate_dst (N := 34) rfl ?_); refine bxE 34 #[.int .i64 0, .int .i64 0, .int .i64 0, .int .i64 0, .int .i64 0] 29 ?_; intro Gt hg Ow hbox hb; have Af := aM (hbox); have I7 := gwS hg Z1; have Bm := gwS hg Z1; replace HB := hbS Z1 hb; clear hb hbox hg) | ((with_reducible refine gate_dst (N := 35) rfl ?_); refine bxE 35 #[.int .i64 0, .int .i64 0, .int .i64 0, .int .i64 0, .int .i64 0] 48 ?_; intro Gu hg Ox hbox hb; have Au := aM (hbox); have I8 := gwS hg Z75; have C2 := gwS hg Z75; replace HB := hbS Z75 hb; have Ah := nbL hg Af; have Ai := nbG hg Af; replace Af := bkB Af hb; clear hb hbox hg; have My := Ah.out; have Mz := Ai.out; obtain ⟨Ke, Kf, Kg, Kh, Ki⟩ := bz5 Af; obtain ⟨Kj, Kk, Kl, Km, Kn⟩ := fz5 Af; obtain ⟨Ko, Kp, Kq, Kr, Ks⟩ := bz5 Au; obtain ⟨Kt, Ku, Kv, Kw, Kx⟩ := fz5 Au) | ((with_reducible refine gate_callee (f := 21) rfl ?_); refine glE (some 222) Try.func21 #[.agg #[.int .i64 Bh, .int .i64 Bj, .int .i64 Bn, .int .i64 Bp, .int .i64 Cm], .agg #[.int .i64 Bg, .int .i64 Bi, .int .i64 Bk, .int .i64 Bo, .int .i64 Cj]] ?_; (with_reducible refine (impl_WageOf.calls Bh Bj Bn Bp Cm Bg Bi Bk Bo Cj Fm Cx _ Nd.out).mono ?_); rintro e Oy ⟨rfl, hb⟩; refine ⟨_, rfl, ?_⟩; replace Af := aM (blk_below (g := Gt) (o := .cells #[.int .i64 Bh, .int .i64 Bj, .int .i64 Bn, .int .i64 Bp, .int .i64 Cm] 29 (0, 0)) Z38 hb); replace Au := aM (blk_below (g := Gu) (o := .cells #[.int .i64 Bg, .int .i64 Bi, .int .i64 Bk, .int .i64 Bo, .int .i64 Cj] 48 (0, 0)) Z39 hb); replace HB := hbS Z57 hb; (try clear hb); obtain ⟨Ky, Kz, K0, K1, K2⟩ := bz5 Af; obtain ⟨K3, K4, K5, K6, K7⟩ := fz5 Af; obtain ⟨K8, K9, La, Lb, Lc⟩ := bz5 Au; obtain ⟨Ld, Le, Lf, Lg, Lh⟩ := fz5 Au) | ((with_reducible refine gate_callee (f := 31) rfl ?_); refine glE (some 228) Try.func31 #[.agg #[.int .i64 Bh, .int .i64 Bj, .int .i64 Bn, .int .i64 Bp, .int .i64 Cm], .agg #[.int .i64 Bg, .int .i64 Bi, .int .i64 Bk, .int .i64 Bo, .int .i64 Cj]] ?_; (with_reducible refine (spec_WageOf.calls Bh Bj Bn Bp Cm Bg Bi Bk Bo Cj Gg Fo _ Nf.out).mono ?_); rintro e Oz ⟨rfl, hb⟩; refine ⟨_, rfl, ?_⟩; replace Af := bkB Af hb; replace Au := bkB Au hb; replace HB := hbS Z57 hb; (try clear hb); obtain ⟨Li, Lj, Lk, Ll, Lm⟩ := bz5 Af; obtain ⟨Ln, Lo, Lp, Lq, Lr⟩ := fz5 Af) | (go_at_call 32; (with_reducible refine (impl_AreRates.calls Bh Bj Bn Bp Cm false _ Ng.out).mono ?_); rintro e O0 ⟨rfl, hb⟩; replace Af := bkB Af hb; replace Au := bkB Au hb; replace HB := hbS Z57 hb; (try clear hb)))
                        go_ret
                        exact ⟨Z20, Z57⟩
                      ·rw [if_neg Ih] at H
                       exact absurd H (by simp)
                     ·rw [if_neg I4] at H
                      exact absurd H (by simp)
end Go.Proofs.Ytffgmmfkiecheaa.H
