-- by wip/pack.py of this repo
import Derived.Test.YthalifhbjioaeaaDoorZ10Hx0
import Derived.Test.YthalifhbjioaeaaDoorZ10Hx3
import Derived.Test.YthalifhbjioaeaaDoorZ10Hx4
import Derived.Test.YthalifhbjioaeaaDoorZ10Hx21
import Derived.Test.YthalifhbjioaeaaDoorZ10Hx30
import Derived.Test.YthalifhbjioaeaaDoorZ10Hx32
import Derived.Test.YthalifhbjioaeaaDoorZ10Hx34
import Derived.Test.YthalifhbjioaeaaDoorZ10Hx36
import Derived.Test.YthalifhbjioaeaaDoorZ10Hx37
import Derived.Test.YthalifhbjioaeaaDoorZ10WGuard
import Derived.Test.YthalifhbjioaeaaDoorZ10WLast
import Derived.Test.YthalifhbjioaeaaDoorZ10WMore
import Derived.Test.YthalifhbjioaeaaDoorZ10WTab
import Derived.Test.YthalifhbjioaeaaDoorZ10WWords
import Derived.Test.YthalifhbjioaeaaDoorZ10Short
namespace Go.Proofs.YthalifhbjioaeaaDoor.H
open Go.RowKit Go.Proofs.YthalifhbjioaeaaDoorW.PrintWords Go.Proofs.YthalifhbjioaeaaDoorW.PrintLast Go.Proofs.YthalifhbjioaeaaDoorW.PrintMore
attribute [local go_sem] max2_int min2_int max_two min_two max_three min_three max_four min_four
set_option maxHeartbeats 80000000
set_option maxRecDepth 100000
set_option linter.unusedVariables false
set_option linter.unusedSimpArgs false
mutual
def laws_FnSkills.j0 : Nat → List Int → List (S26) → Int → List Int → Bool → Bool → Option (Bool)
 | 0, _, _, _, _, _, _ => none
 | k + 1, x0, x3, x4, x5, x6, x56 => if x56 = true then (none) else (if x6 = true then (laws_FnSkills.l0 k x0 x3 x4 x5 x6 0 0) else (laws_FnSkills.j4 k x0 x3 x4 x5 x6))
def laws_FnSkills.j4 : Nat → List Int → List (S26) → Int → List Int → Bool → Option (Bool)
 | 0, _, _, _, _, _ => none
 | k + 1, x0, x3, x4, x5, x6 => (impl_WithSkills.f k x3 x4).bind fun bt879 => ((spec_WithSkills.f k x3 x4).bind fun bt883 => (if (bt879.2 != bt883.2) = true then (laws_FnSkills.j5 k x0 true) else ((laws_rInts.f k bt879.1 bt883.1).bind fun t887 => (if t887 = true then (if x6 = true then (if (bt879.1.length : Int) > 0 then (laws_FnSkills.j5 k x0 ((x5.length : Int) != 1)) else (laws_FnSkills.j5 k x0 false)) else (laws_FnSkills.j5 k x0 false)) else (laws_FnSkills.j5 k x0 true)))))
def laws_FnSkills.j5 : Nat → List Int → Bool → Option (Bool)
 | 0, _, _ => none
 | k + 1, x0, x159 => if x159 = true then (none) else ((spec_DrawTeachSkill.f k x0).bind fun bt888 => ((impl_TeachSkill.f bt888.1 bt888.2.1 bt888.2.2.1 bt888.2.2.2).bind fun bt894 => ((spec_TeachSkill.f k bt888.1 bt888.2.1 bt888.2.2.1 bt888.2.2.2).bind fun bt898 => (if (bt894.2 != bt898.2) = true then (laws_FnSkills.j6 k x0 bt888.2.1 bt888.2.2.1 bt888.2.2.2 bt894.1 bt894.2 true) else ((laws_rWeavers.f k bt894.1 bt898.1).bind fun t902 => (laws_FnSkills.j6 k x0 bt888.2.1 bt888.2.2.1 bt888.2.2.2 bt894.1 bt894.2 (!t902)))))))
def laws_FnSkills.j6 : Nat → List Int → Int → Int → Int → List (S26) → Bool → Bool → Option (Bool)
 | 0, _, _, _, _, _, _, _ => none
 | k + 1, x0, x19, x20, x21, x22, x23, x191 => if x191 = true then (none) else (if x23 = true then ((impl_WithSkills.f k x22 x21).bind fun bt903 => (if bt903.2 = true then ((laws_rHas.f k bt903.1 x20).bind fun t907 => (if t907 = true then ((laws_rHas.f k bt903.1 x19).bind fun t908 => (laws_FnSkills.j7 k x0 (!t908))) else (laws_FnSkills.j7 k x0 true))) else (laws_FnSkills.j7 k x0 true))) else ((spec_DrawIsWeaver.f x0).bind fun bt917 => ((impl_IsWeaver.f bt917.1 bt917.2.1 bt917.2.2.1 bt917.2.2.2.1 bt917.2.2.2.2).bind fun t923 => ((spec_IsWeaver.f k bt917.1 bt917.2.1 bt917.2.2.1 bt917.2.2.2.1 bt917.2.2.2.2).bind fun t924 => (some (t923 == t924))))))
def laws_FnSkills.j7 : Nat → List Int → Bool → Option (Bool)
 | 0, _, _ => none
 | k + 1, x0, x212 => if x212 = true then (none) else ((spec_DrawIsWeaver.f x0).bind fun bt909 => ((impl_IsWeaver.f bt909.1 bt909.2.1 bt909.2.2.1 bt909.2.2.2.1 bt909.2.2.2.2).bind fun t915 => ((spec_IsWeaver.f k bt909.1 bt909.2.1 bt909.2.2.1 bt909.2.2.2.1 bt909.2.2.2.2).bind fun t916 => (some (t915 == t916)))))
def laws_FnSkills.l0 : Nat → List Int → List (S26) → Int → List Int → Bool → Int → Int → Option (Bool)
 | 0, _, _, _, _, _, _, _ => none
 | k + 1, x0, x3, x4, x5, x6, x9, x10 => if x10 < (x3.length : Int) then (if 0 ≤ x10 then ((laws_rHas.f k x5 ((rd_T26 x3 x10).f0)).bind fun t872 => (if t872 = true then (laws_FnSkills.l0 k x0 x3 x4 x5 x6 (Go.bits .or .i64 x9 ((rd_T26 x3 x10).f2)) (wrap64 (x10 + 1))) else (laws_FnSkills.l0 k x0 x3 x4 x5 x6 x9 (wrap64 (x10 + 1))))) else (none)) else (laws_FnSkills.l1 k x0 x3 x4 x5 x6 x9 0)
def laws_FnSkills.l1 : Nat → List Int → List (S26) → Int → List Int → Bool → Int → Int → Option (Bool)
 | 0, _, _, _, _, _, _, _ => none
 | k + 1, x0, x3, x4, x5, x6, x9, x11 => if x11 < (x5.length : Int) then (laws_FnSkills.l2 k x0 x3 x4 x5 x6 x9 x11 0 0) else (if (Go.bits .and .i64 x9 x4) = x4 then (laws_FnSkills.j4 k x0 x3 x4 x5 x6) else (none))
def laws_FnSkills.l2 : Nat → List Int → List (S26) → Int → List Int → Bool → Int → Int → Int → Int → Option (Bool)
 | 0, _, _, _, _, _, _, _, _, _ => none
 | k + 1, x0, x3, x4, x5, x6, x9, x11, x12, x13 => if x13 < (x3.length : Int) then (if 0 ≤ x13 then ((laws_rHas.f k x5 ((rd_T26 x3 x13).f0)).bind fun t875 => (if t875 = true then (if 0 ≤ x11 then (if x11 < (x5.length : Int) then (if ((rd_T26 x3 x13).f0) = (rd x5 x11) then (laws_FnSkills.l2 k x0 x3 x4 x5 x6 x9 x11 x12 (wrap64 (x13 + 1))) else (laws_FnSkills.l2 k x0 x3 x4 x5 x6 x9 x11 (Go.bits .or .i64 x12 ((rd_T26 x3 x13).f2)) (wrap64 (x13 + 1)))) else (none)) else (none)) else (laws_FnSkills.l2 k x0 x3 x4 x5 x6 x9 x11 x12 (wrap64 (x13 + 1))))) else (none)) else (if (Go.bits .and .i64 x12 x4) = x4 then (none) else (laws_FnSkills.l1 k x0 x3 x4 x5 x6 x9 (wrap64 (x11 + 1))))
end
def laws_FnSkills.f (k : Nat) (l0 : List Int) : Option (Bool) := (laws_rBig.f l0).bind fun t857 => (if t857 = true then (some true) else ((spec_DrawFewestFor.f k l0).bind fun bt858 => ((impl_FewestFor.f k bt858.1 bt858.2).bind fun bt862 => ((spec_FewestFor.f k bt858.1 bt858.2).bind fun bt866 => (if (bt862.2 != bt866.2) = true then (laws_FnSkills.j0 k l0 bt858.1 bt858.2 bt862.1 bt862.2 true) else ((laws_rInts.f k bt862.1 bt866.1).bind fun t870 => (laws_FnSkills.j0 k l0 bt858.1 bt858.2 bt862.1 bt862.2 (!t870))))))))
def laws_FnSkills.T22 : Bool × List (List Nat × List Nat) := (true, [([], []), ([], []), ([], []), ([1, 2], [1, 2]), ([3], [3]), ([4], [4]), ([0, 5], [0, 5]), ([6, 6], [6]), ([7], [7]), ([7], [7]), ([8, 9, 7], [7, 8, 9]), ([10, 7], [7, 10]), ([11, 7], [7, 11]), ([7], [7]), ([7], [7]), ([13, 14, 7], [7, 13, 14]), ([15, 7], [7, 15]), ([12, 16, 7], [7, 12, 16]), ([7, 17], [7, 17])])
def laws_FnSkills.B22 : List Nat := [0, 0, 0, 6, 14, 30, 63, 127, 255, 255, 1023, 2047, 4095, 255, 255, 24831, 57599, 131071, 262143]
theorem laws_FnSkills.tab22 : rtab .any (opsOf Tryd.f13 22) = laws_FnSkills.T22 := by kernel_rfl
theorem laws_FnSkills.bits22 : waitsOk laws_FnSkills.T22.2 laws_FnSkills.B22 = true := by kernel_rfl
theorem laws_FnSkills.calls (k : Nat) (A0 : Option Addr) (c0 : Nat) (l0 : List Int) (r : Bool) (w : World) (Hl : Kd.C (Kd.int .u8) w A0 l0.length l0) (Hm : l0.length ≤ c0) (h : laws_FnSkills.f k l0 = some r) :
  Calls Tryd.prog 13 #[.slice A0 l0.length c0] w fun e w' => e = .returned (.bool r) ∧ Below w.heap.size w w' := by
 have hu26 := Tryd.underlying26; have Eu := Aside0.mk Hl; have Ew := Aside0.mk Hm; clear Hl Hm; have HB := aM (Below.refl w.heap.size w); have H : ((laws_rBig.f l0).bind fun D3 => (if D3 = true then (some true) else ((spec_DrawFewestFor.f k l0).bind fun Am => ((impl_FewestFor.f k Am.1 Am.2).bind fun Ai => ((spec_FewestFor.f k Am.1 Am.2).bind fun Bl => (if (Ai.2 != Bl.2) = true then (laws_FnSkills.j0 k l0 Am.1 Am.2 Ai.1 Ai.2 true) else ((laws_rInts.f k Ai.1 Bl.1).bind fun B7 => (laws_FnSkills.j0 k l0 Am.1 Am.2 Ai.1 Ai.2 (!B7))))))))) = some r := h; clear h; replace H := Option.bind_eq_some_iff.mp H; obtain ⟨D3, Hn, H⟩ := H; replace H : (if D3 = true then (some true) else ((spec_DrawFewestFor.f k l0).bind fun Am => ((impl_FewestFor.f k Am.1 Am.2).bind fun Ai => ((spec_FewestFor.f k Am.1 Am.2).bind fun Bl => (if (Ai.2 != Bl.2) = true then (laws_FnSkills.j0 k l0 Am.1 Am.2 Ai.1 Ai.2 true) else ((laws_rInts.f k Ai.1 Bl.1).bind fun B7 => (laws_FnSkills.j0 k l0 Am.1 Am.2 Ai.1 Ai.2 (!B7)))))))) = some r := H; have A2 := Aside0.mk Hn; clear Hn
 by_cases c3 : D3 = true
 ·subst c3
  have H1 : (some true) = some r := by rw [if_pos rfl] at H; exact H
  clear H; have H := H1; clear H1; obtain rfl := Option.some.inj H
  go_enter Tryd.func13, Tryd.ntmps13
  go_wp2_with (first | ((with_reducible refine gate_callee (f := 45) rfl ?_); refine glE (some 30) Tryd.func45 #[.slice A0 l0.length c0] ?_; (with_reducible refine (laws_rBig.calls _ _ l0 true _ ?side1 ?side2 A2.out).mono ?_); (case side1 => exact Z65); (case side2 => exact Ew.out); rintro e w' ⟨rfl, ⟨nd, rfl⟩⟩; refine ⟨_, rfl, ?_⟩))
  go_ret
  exact ⟨Z14, Z0⟩
 ·replace c3 := Bool.eq_false_iff.mpr c3
  subst c3
  have H1 : ((spec_DrawFewestFor.f k l0).bind fun Am => ((impl_FewestFor.f k Am.1 Am.2).bind fun Ai => ((spec_FewestFor.f k Am.1 Am.2).bind fun Bl => (if (Ai.2 != Bl.2) = true then (laws_FnSkills.j0 k l0 Am.1 Am.2 Ai.1 Ai.2 true) else ((laws_rInts.f k Ai.1 Bl.1).bind fun B7 => (laws_FnSkills.j0 k l0 Am.1 Am.2 Ai.1 Ai.2 (!B7))))))) = some r := by rw [if_neg (show ¬ (false = true) by decide)] at H; exact H
  clear H; have H := H1; clear H1; replace H := Option.bind_eq_some_iff.mp H; obtain ⟨⟨Ab, Af⟩, F6, H⟩ := H; replace H : ((impl_FewestFor.f k Ab Af).bind fun Ai => ((spec_FewestFor.f k Ab Af).bind fun Bl => (if (Ai.2 != Bl.2) = true then (laws_FnSkills.j0 k l0 Ab Af Ai.1 Ai.2 true) else ((laws_rInts.f k Ai.1 Bl.1).bind fun B7 => (laws_FnSkills.j0 k l0 Ab Af Ai.1 Ai.2 (!B7)))))) = some r := H; have A4 := Aside0.mk F6; clear F6; replace H := Option.bind_eq_some_iff.mp H; obtain ⟨⟨Ac, Az⟩, Ho, H⟩ := H; replace H : ((spec_FewestFor.f k Ab Af).bind fun Bl => (if (Az != Bl.2) = true then (laws_FnSkills.j0 k l0 Ab Af Ac Az true) else ((laws_rInts.f k Ac Bl.1).bind fun B7 => (laws_FnSkills.j0 k l0 Ab Af Ac Az (!B7))))) = some r := H; have A5 := Aside0.mk Ho; clear Ho; replace H := Option.bind_eq_some_iff.mp H; obtain ⟨⟨Ei, Cy⟩, F7, H⟩ := H; replace H : (if (Az != Cy) = true then (laws_FnSkills.j0 k l0 Ab Af Ac Az true) else ((laws_rInts.f k Ac Ei).bind fun B7 => (laws_FnSkills.j0 k l0 Ab Af Ac Az (!B7)))) = some r := H; have A6 := Aside0.mk F7; clear F7; have Gl := Aside0.mk H; clear H
  go_enter Tryd.func13, Tryd.ntmps13
  go_upto_region 6 with (first | ((with_reducible refine gate_callee (f := 45) rfl ?_); refine glE (some 30) Tryd.func45 #[.slice A0 l0.length c0] ?_; (with_reducible refine (laws_rBig.calls _ _ l0 false _ ?side1 ?side2 A2.out).mono ?_); (case side1 => exact Z65); (case side2 => exact Ew.out); rintro e w' ⟨rfl, ⟨nd, rfl⟩⟩; refine ⟨_, rfl, ?_⟩) | ((with_reducible refine gate_callee (f := 46) rfl ?_); refine glE (some 33) Tryd.func46 #[.slice A0 l0.length c0] ?_; (with_reducible refine (spec_DrawFewestFor.calls k _ _ l0 Ab Af _ ?side1 ?side2 A4.out).mono ?_); (case side1 => exact Z65); (case side2 => exact Ew.out); rintro e w8 ⟨Hw, rfl, B1, hb⟩; refine ⟨_, rfl, ?_⟩; have Bv := aM (Kd.R_lower B1 (below_size Z0)); replace HB := hbS Z0 hb; (try clear hb); (try clear B1); obtain ⟨D4, D5, Hx⟩ := Kd.R_slice Bv.out; subst Hx) | ((with_reducible refine gate_callee (f := 44) rfl ?_); refine glE (some 39) Tryd.func44 #[.slice D4 Ab.length D5, .int .i64 Af] ?_; (with_reducible refine (impl_FewestFor.calls k _ _ Ab Af Ac Az _ ?side1 ?side2 A5.out).mono ?_); (case side1 => exact Z83); (case side2 => exact (Kd.R_reads' Bv.out).2.1); rintro e Jw ⟨D6, rfl, B1, hb⟩; refine ⟨_, rfl, ?_⟩; replace Bv := roB Bv hb; have Cf := aM (Kd.R_lower B1 (below_size Z0)); replace HB := hbS Z0 hb; (try clear hb); (try clear B1)) | ((with_reducible refine gate_callee (f := 43) rfl ?_); refine glE (some 45) Tryd.func43 #[.slice D4 Ab.length D5, .int .i64 Af] ?_; (with_reducible refine (spec_FewestFor.calls k _ _ Ab Af Ei Cy _ ?side1 ?side2 A6.out).mono ?_); (case side1 => exact Z83); (case side2 => exact (Kd.R_reads' Bv.out).2.1); rintro e Jx ⟨Hy, rfl, B1, hb⟩; refine ⟨_, rfl, ?_⟩; replace Bv := roB Bv hb; have Dv := aM (Kd.R_lower (Kd.R_new' B1 (Kd.R_lt Z101)) (below_size Z0)); replace Cf := aM (Kd.R_elder' Z101 (Kd.R_base B1) hb); replace HB := hbS Z0 hb; (try clear hb); (try clear B1)))
  (try simp only [Act.put, List.setIfInBounds_toArray, List.set_cons_zero, List.set_cons_succ])
  go_cut [56] (fun Hz wc => ∃ (kq : Nat) (Di : Bool), Hz = .bool Di ∧ Aside0 (laws_FnSkills.j0 kq l0 Ab Af Ac Az Di = some r) ∧ Aside0 (kq ≤ k) ∧ Aside0 (Kd.R k26 26 wc w.heap.size (fun _ => True) (.slice D4 Ab.length D5) Ab) ∧ Aside0 (Kd.R (Kd.int .i64) 3 wc w.heap.size (fun _ => True) D6 Ac) ∧ Aside0 (Below w.heap.size w wc))
  case first => as_aux_lemma =>
   have H := Gl.out; clear Gl
   by_cases De : (Az != Cy) = true
   ·rw [if_pos De] at H
    have c12b0 : (Az != Cy) = true := De
    (try (have c12b1 : decide (Az = Cy) = false := Z112))
    (try (have c12b2 : (Az == Cy) = false := Z112))
    (try (have c12b3 : ¬ (Az = Cy) := Z112))
    clear De
    (first | rw [c12b0] | (simp only [i64_w, i32_w]; rw [c12b0]) | skip)
    have H' := Aside0.mk H; clear H
    go_wp2
    go_meet
    case rel => exact ⟨_, (true), Z15, H', ⟨Z69⟩, ⟨Z102⟩, ⟨Z92⟩, ⟨Z0⟩⟩
   ·rw [if_neg De] at H
    have c12b0 : (Az != Cy) = false := by simpa using De
    (try (have c12b1 : decide (Az = Cy) = true := Z112))
    (try (have c12b2 : (Az == Cy) = true := Z112))
    clear De
    (first | rw [c12b0] | (simp only [i64_w, i32_w]; rw [c12b0]) | skip)
    replace H := Option.bind_eq_some_iff.mp H; obtain ⟨B7, E0, H⟩ := H; replace H : (laws_FnSkills.j0 k l0 Ab Af Ac Az (!B7)) = some r := H; have H0 := Aside0.mk E0; clear E0; have H' := Aside0.mk H; clear H; obtain ⟨H4, H5, Gm⟩ := Kd.R_slice Cf.out; subst Gm; obtain ⟨H6, H7, Gn⟩ := Kd.R_slice Dv.out; subst Gn
    go_wp2_with (first | (go_at_call 47; (with_reducible refine (laws_rInts.calls k _ _ Ac _ _ Ei B7 _ ?side1 ?side2 ?side3 ?side4 H0.out).mono ?_); (case side1 => exact (by repeat (first | exact (Kd.R_reads' Cf.out).2.2 | (with_reducible refine Kd.C_alloc ?_ _) | (with_reducible refine Kd.C_drewN ?_ _) | (with_reducible refine Kd.C_drew ?_)))); (case side2 => exact (Kd.R_reads' Cf.out).2.1); (case side3 => exact (by repeat (first | exact (Kd.R_reads' Dv.out).2.2 | (with_reducible refine Kd.C_alloc ?_ _) | (with_reducible refine Kd.C_drewN ?_ _) | (with_reducible refine Kd.C_drew ?_)))); (case side4 => exact (Kd.R_reads' Dv.out).2.1); rintro e w' ⟨rfl, ⟨nd, rfl⟩⟩))
    go_meet
    case rel => exact ⟨_, (!B7), Z15, H', ⟨Z69⟩, ⟨Z102⟩, ⟨Z92⟩, ⟨Z0⟩⟩
  case rest => as_aux_lemma =>
   clear Gl; (try clear c1); (try clear p2); (try clear c3); (try clear c4); (try clear De); (try clear c12b0); (try clear c12b1); (try clear c12b2); (try clear Gp); obtain ⟨kq, Di, rfl, HA, HJ6, Aj, Ag, HB⟩ := hcut; cases kq with
   | zero => exact absurd HA.out (by simp [laws_FnSkills.j0])
   | succ Ej =>
    have H := HA.out; clear HA
    simp only [laws_FnSkills.j0] at H
    by_cases Ek : Di = true
    ·subst Ek
     have H1 : (none) = some r := by rw [if_pos rfl] at H; exact H
     clear H; have H := H1; clear H1; exact absurd H (by simp)
    ·replace Ek := Bool.eq_false_iff.mpr Ek
     subst Ek
     have H1 : (if Az = true then (laws_FnSkills.l0 Ej l0 Ab Af Ac Az 0 0) else (laws_FnSkills.j4 Ej l0 Ab Af Ac Az)) = some r := by rw [if_neg (show ¬ (false = true) by decide)] at H; exact H
     clear H; have H := H1; clear H1; have El := Aside0.mk H; clear H
     go_upto_if 57 with (fail)
     go_cut [] (fun wc => ∃ (kq : Nat), Aside0 (laws_FnSkills.j4 kq l0 Ab Af Ac Az = some r) ∧ Aside0 (kq ≤ Ej) ∧ Aside0 (Kd.R k26 26 wc w.heap.size (fun _ => True) (.slice D4 Ab.length D5) Ab) ∧ Aside0 (Kd.R (Kd.int .i64) 3 wc w.heap.size (fun _ => True) D6 Ac) ∧ Aside0 (Below w.heap.size w wc))
     case first => as_aux_lemma =>
      have H := El.out; clear El
      by_cases Dw : Az = true
      ·subst Dw
       have H1 : (laws_FnSkills.l0 Ej l0 Ab Af Ac true 0 0) = some r := by rw [if_pos rfl] at H; exact H
       clear H; have H := H1; clear H1; have H' := Aside0.mk H; clear H
       go_wp2
       go_loopg [9, 10] Ej (fun kq v9 H8 w' => ∃ (Bo : Int) (Ah : Int), v9 = .int .i64 Bo ∧ H8 = .int .i64 Ah ∧ Aside0 (laws_FnSkills.l0 kq l0 Ab Af Ac true Bo Ah = some r) ∧ Aside0 (kq ≤ Ej) ∧ Aside0 (Kd.R k26 26 w' w.heap.size (fun _ => True) (.slice D4 Ab.length D5) Ab) ∧ Aside0 (Kd.R (Kd.int .i64) 3 w' w.heap.size (fun _ => True) D6 Ac) ∧ Aside0 (Below w.heap.size w w'))
       case atStart => exact ⟨(0), (0), Z15, Z15, H', ⟨Nat.le_refl _⟩, ⟨Z35⟩, ⟨Z12⟩, ⟨Z0⟩⟩
       case round =>
        clear H'; (try clear c1); (try clear p2); (try clear c3); (try clear c4); (try clear De); (try clear c12b0); (try clear c12b1); (try clear c12b2); (try clear Gp); (try clear Ek); (try clear Dw); (try clear p2); obtain ⟨Bo, Ah, rfl, rfl, HA, HK2, Aj, Ag, HB⟩ := hrel; cases gk with
        | zero => exact absurd HA.out (by simp [laws_FnSkills.l0])
        | succ k2 =>
         have H := HA.out; clear HA
         simp only [laws_FnSkills.l0] at H
         by_cases Eb : Ah < (Ab.length : Int)
         ·rw [if_pos Eb] at H
          have c19b0 : decide (Ah < (Ab.length : Int)) = true := decide_eq_true Eb; clear Eb
          (first | rw [c19b0] | (simp only [i64_w, i32_w]; rw [c19b0]) | skip)
          by_cases Ex : 0 ≤ Ah
          ·rw [if_pos Ex] at H
           have c20b0 : decide (0 ≤ Ah) = true := decide_eq_true Ex; clear Ex; replace H := Option.bind_eq_some_iff.mp H; obtain ⟨E2, E3, H⟩ := H; replace H : (if E2 = true then (laws_FnSkills.l0 k2 l0 Ab Af Ac true (Go.bits .or .i64 Bo ((rd_T26 Ab Ah).f2)) (wrap64 (Ah + 1))) else (laws_FnSkills.l0 k2 l0 Ab Af Ac true Bo (wrap64 (Ah + 1)))) = some r := H; have Hp := Aside0.mk E3; clear E3
           by_cases Ey : E2 = true
           ·subst Ey
            have H1 : (laws_FnSkills.l0 k2 l0 Ab Af Ac true (Go.bits .or .i64 Bo ((rd_T26 Ab Ah).f2)) (wrap64 (Ah + 1))) = some r := by rw [if_pos rfl] at H; exact H
            clear H; have H := H1; clear H1; have H' := Aside0.mk H; clear H; have C4 : 0 ≤ (Ah : Int) := of_decide_eq_true Z10; have C5 : Ah < (Ab.length : Int) := of_decide_eq_true Z10; obtain ⟨ad871, e871, C6, C7, C8, C9, Da⟩ := at_T26 (Kd.R_reads' Aj.out).2.2 Ah C4 C5; cases e871; replace C4 := eq_true C4; replace C5 := eq_true C5; obtain ⟨Gq, Gr, Gs⟩ := Kd.R_slice Ag.out; subst Gs
            go_wp2_with (first | ((with_reducible refine gate_callee (f := 48) rfl ?_); refine glE (some 70) Tryd.func48 #[.slice Gq Ac.length Gr, .int .i64 ((rd_T26 Ab Ah).f0)] ?_; (with_reducible refine (laws_rHas.calls k2 _ _ Ac ((rd_T26 Ab Ah).f0) true _ ?side1 ?side2 Hp.out).mono ?_); (case side1 => exact Z25); (case side2 => exact (Kd.R_reads' Ag.out).2.1); rintro e w' ⟨rfl, ⟨nd, rfl⟩⟩; refine ⟨_, rfl, ?_⟩; have Dx : 0 ≤ (Ah : Int) := of_decide_eq_true Z10; have Dy : Ah < (Ab.length : Int) := of_decide_eq_true Z10; obtain ⟨ad873, e873, Dj, Dk, Dl, Dm, Dn⟩ := at_T26 (Kd.R_reads' Aj.out).2.2 Ah Dx Dy; obtain rfl : ad871 = ad873 := (by injection e873); replace Dx := eq_true Dx; replace Dy := eq_true Dy))
            go_roundg k2
            case measure => have := HJ6.out; have := HK2.out; omega
            case rel => exact ⟨(Go.bits .or .i64 Bo ((rd_T26 Ab Ah).f2)), (wrap64 (Ah + 1)), Z15, Z15, H', ⟨by have := HJ6.out; have := HK2.out; omega⟩, ⟨Z35⟩, ⟨Z12⟩, ⟨Z0⟩⟩
           ·replace Ey := Bool.eq_false_iff.mpr Ey
            subst Ey
            have H1 : (laws_FnSkills.l0 k2 l0 Ab Af Ac true Bo (wrap64 (Ah + 1))) = some r := by rw [if_neg (show ¬ (false = true) by decide)] at H; exact H
            clear H; have H := H1; clear H1; have H' := Aside0.mk H; clear H; have C4 : 0 ≤ (Ah : Int) := of_decide_eq_true Z10; have C5 : Ah < (Ab.length : Int) := of_decide_eq_true Z10; obtain ⟨ad871, e871, C6, C7, C8, C9, Da⟩ := at_T26 (Kd.R_reads' Aj.out).2.2 Ah C4 C5; cases e871; replace C4 := eq_true C4; replace C5 := eq_true C5; obtain ⟨Gt, Gu, Gv⟩ := Kd.R_slice Ag.out; subst Gv
            go_wp2_with (first | ((with_reducible refine gate_callee (f := 48) rfl ?_); refine glE (some 70) Tryd.func48 #[.slice Gt Ac.length Gu, .int .i64 ((rd_T26 Ab Ah).f0)] ?_; (with_reducible refine (laws_rHas.calls k2 _ _ Ac ((rd_T26 Ab Ah).f0) false _ ?side1 ?side2 Hp.out).mono ?_); (case side1 => exact Z25); (case side2 => exact (Kd.R_reads' Ag.out).2.1); rintro e w' ⟨rfl, ⟨nd, rfl⟩⟩; refine ⟨_, rfl, ?_⟩))
            go_roundg k2
            case measure => have := HJ6.out; have := HK2.out; omega
            case rel => exact ⟨(Bo), (wrap64 (Ah + 1)), Z15, Z15, H', ⟨by have := HJ6.out; have := HK2.out; omega⟩, ⟨Z35⟩, ⟨Z12⟩, ⟨Z0⟩⟩
          ·rw [if_neg Ex] at H
           exact absurd H (by simp)
         ·rw [if_neg Eb] at H
          have c19b0 : decide (Ah < (Ab.length : Int)) = false := decide_eq_false Eb; clear Eb
          (first | rw [c19b0] | (simp only [i64_w, i32_w]; rw [c19b0]) | skip)
          have H' := Aside0.mk H; clear H
          go_wp2
          go_loopg [11] k2 (fun kq H9 w' => ∃ (Ad : Int), H9 = .int .i64 Ad ∧ Aside0 (laws_FnSkills.l1 kq l0 Ab Af Ac true Bo Ad = some r) ∧ Aside0 (kq ≤ k2) ∧ Aside0 (Kd.R k26 26 w' w.heap.size (fun _ => True) (.slice D4 Ab.length D5) Ab) ∧ Aside0 (Kd.R (Kd.int .i64) 3 w' w.heap.size (fun _ => True) D6 Ac) ∧ Aside0 (Below w.heap.size w w'))
          case atStart => exact ⟨(0), Z15, H', ⟨Nat.le_refl _⟩, ⟨Z35⟩, ⟨Z12⟩, ⟨Z0⟩⟩
          case round =>
           clear H'; (try clear c1); (try clear c2); (try clear p2); (try clear c3); (try clear c4); (try clear p6); (try clear p8); (try clear q8); (try clear E4); (try clear De); (try clear c12b0); (try clear c12b1); (try clear c12b2); (try clear Gp); (try clear Ek); (try clear Dw); (try clear Eb); (try clear c19b0); (try clear Ex); (try clear c20b0); (try clear Ey); (try clear C6); (try clear C7); (try clear C8); (try clear C9); (try clear Da); (try clear Dj); (try clear Dk); (try clear Dl); (try clear Dm); (try clear Dn); (try clear p2); (try clear C4); (try clear Dx); (try clear C5); (try clear Dy); obtain ⟨Ad, rfl, HA, HK3, Aj, Ag, HB⟩ := hrel; cases gk with
           | zero => exact absurd HA.out (by simp [laws_FnSkills.l1])
           | succ k3 =>
            have H := HA.out; clear HA
            simp only [laws_FnSkills.l1] at H
            by_cases Dz : Ad < (Ac.length : Int)
            ·rw [if_pos Dz] at H
             have c25b0 : decide (Ad < (Ac.length : Int)) = true := decide_eq_true Dz; clear Dz; have H' := Aside0.mk H; clear H; obtain ⟨E5, D7, Gw⟩ := Kd.R_slice Ag.out; subst Gw
             go_wp2
             go_loopg [12, 13] k3 (fun kq Ia Ib w' => ∃ (Bh : Int) (Aa : Int), Ia = .int .i64 Bh ∧ Ib = .int .i64 Aa ∧ Aside0 (laws_FnSkills.l2 kq l0 Ab Af Ac true Bo Ad Bh Aa = some r) ∧ Aside0 (kq ≤ k3) ∧ Aside0 (Kd.R k26 26 w' w.heap.size (fun _ => True) (.slice D4 Ab.length D5) Ab) ∧ Aside0 (Kd.R (Kd.int .i64) 3 w' w.heap.size (fun _ => True) (.slice E5 Ac.length D7) Ac) ∧ Aside0 (Below w.heap.size w w'))
             case atStart => exact ⟨(0), (0), Z15, Z15, H', ⟨Nat.le_refl _⟩, ⟨Z35⟩, ⟨Z12⟩, ⟨Z0⟩⟩
             case round =>
              clear H'; (try clear c1); (try clear c2); (try clear p2); (try clear c3); (try clear c4); (try clear p6); (try clear p8); (try clear q8); (try clear E4); (try clear De); (try clear c12b0); (try clear c12b1); (try clear c12b2); (try clear Gp); (try clear Ek); (try clear Dw); (try clear Eb); (try clear c19b0); (try clear Ex); (try clear c20b0); (try clear Ey); (try clear Dz); (try clear c25b0); (try clear C6); (try clear C7); (try clear C8); (try clear C9); (try clear Da); (try clear Dj); (try clear Dk); (try clear Dl); (try clear Dm); (try clear Dn); (try clear p2); (try clear p6); (try clear p8); (try clear C4); (try clear Dx); (try clear q8); (try clear C5); (try clear Dy); obtain ⟨Bh, Aa, rfl, rfl, HA, HK4, Aj, Ag, HB⟩ := hrel; cases gk with
              | zero => exact absurd HA.out (by simp [laws_FnSkills.l2])
              | succ k4 =>
               have H := HA.out; clear HA
               simp only [laws_FnSkills.l2] at H
               by_cases D2 : Aa < (Ab.length : Int)
               ·rw [if_pos D2] at H
                have c27b0 : decide (Aa < (Ab.length : Int)) = true := decide_eq_true D2; clear D2
                by_cases Ec : 0 ≤ Aa
                ·rw [if_pos Ec] at H
                 have c28b0 : decide (0 ≤ Aa) = true := decide_eq_true Ec; clear Ec; replace H := Option.bind_eq_some_iff.mp H; obtain ⟨E6, E7, H⟩ := H; replace H : (if E6 = true then (if 0 ≤ Ad then (if Ad < (Ac.length : Int) then (if ((rd_T26 Ab Aa).f0) = (rd Ac Ad) then (laws_FnSkills.l2 k4 l0 Ab Af Ac true Bo Ad Bh (wrap64 (Aa + 1))) else (laws_FnSkills.l2 k4 l0 Ab Af Ac true Bo Ad (Go.bits .or .i64 Bh ((rd_T26 Ab Aa).f2)) (wrap64 (Aa + 1)))) else (none)) else (none)) else (laws_FnSkills.l2 k4 l0 Ab Af Ac true Bo Ad Bh (wrap64 (Aa + 1)))) = some r := H; have Gx := Aside0.mk E7; clear E7
                 by_cases Ed : E6 = true
                 ·subst Ed
                  have H1 : (if 0 ≤ Ad then (if Ad < (Ac.length : Int) then (if ((rd_T26 Ab Aa).f0) = (rd Ac Ad) then (laws_FnSkills.l2 k4 l0 Ab Af Ac true Bo Ad Bh (wrap64 (Aa + 1))) else (laws_FnSkills.l2 k4 l0 Ab Af Ac true Bo Ad (Go.bits .or .i64 Bh ((rd_T26 Ab Aa).f2)) (wrap64 (Aa + 1)))) else (none)) else (none)) = some r := by rw [if_pos rfl] at H; exact H
                  clear H; have H := H1; clear H1
                  by_cases Ee : 0 ≤ Ad
                  ·rw [if_pos Ee] at H
                   have c31b0 : decide (0 ≤ Ad) = true := decide_eq_true Ee; clear Ee
                   by_cases Ef : Ad < (Ac.length : Int)
                   ·rw [if_pos Ef] at H
                    have c32b0 : decide (Ad < (Ac.length : Int)) = true := decide_eq_true Ef; clear Ef
                    by_cases D0 : ((rd_T26 Ab Aa).f0) = (rd Ac Ad)
                    ·rw [if_pos D0] at H
                     have c33b0 : (((rd_T26 Ab Aa).f0) == (rd Ac Ad)) = true := beq_iff_eq.mpr D0; have c33b1 : (((rd_T26 Ab Aa).f0) != (rd Ac Ad)) = false := bne_eq_false_iff_eq.mpr D0; clear D0; have H' := Aside0.mk H; clear H
                     try go_wp2
                     replace Aj := aM (Kd.R_drew Aj.out); replace Ag := aM (Kd.R_drew Ag.out); replace HB := aM (below_drew1 HB.out); have B8 : 0 ≤ (Aa : Int) := of_decide_eq_true Z10; have B9 : Aa < (Ab.length : Int) := of_decide_eq_true Z10; obtain ⟨ad874, e874, Aq, Ar, Au, Av, Aw⟩ := at_T26 (Kd.R_reads' Aj.out).2.2 Aa B8 B9; cases e874; replace B8 := eq_true B8; replace B9 := eq_true B9; have Cr : 0 ≤ (Aa : Int) := of_decide_eq_true Z10; have Cs : Aa < (Ab.length : Int) := of_decide_eq_true Z10; obtain ⟨ad876, e876, Ba, Bb, Bc, Bd, Bf⟩ := at_T26 (Kd.R_reads' Aj.out).2.2 Aa Cr Cs; obtain rfl : ad874 = ad876 := (by injection e876); replace Cr := eq_true Cr; replace Cs := eq_true Cs; have Ct : 0 ≤ (Ad : Int) := of_decide_eq_true Z10; have Cu : Ad < (Ac.length : Int) := of_decide_eq_true Z10; obtain ⟨ad877, e877, Bg⟩ := Kd.at_int (Kd.R_reads' Ag.out).2.2 Ad Ct Cu; cases e877; replace Ct := eq_true Ct; replace Cu := eq_true Cu; refine start_ (n := 19) (S := fun w' => w'.cell? (ad874.add ((Aa).toNat * 5)) = some (.int .i64 ((rd_T26 Ab Aa).f0)) ∧ w'.cell? ⟨(ad874.add ((Aa).toNat * 5)).block, (ad874.add ((Aa).toNat * 5)).off + 1, none⟩ = some (.string ((rd_T26 Ab Aa).f1)) ∧ w'.cell? ⟨(ad874.add ((Aa).toNat * 5)).block, (ad874.add ((Aa).toNat * 5)).off + 2, none⟩ = some (.int .i64 ((rd_T26 Ab Aa).f2)) ∧ w'.cell? ⟨(ad874.add ((Aa).toNat * 5)).block, (ad874.add ((Aa).toNat * 5)).off + 3, none⟩ = some (.int .i64 ((rd_T26 Ab Aa).f3)) ∧ w'.cell? ⟨(ad874.add ((Aa).toNat * 5)).block, (ad874.add ((Aa).toNat * 5)).off + 4, none⟩ = some (.int .i64 ((rd_T26 Ab Aa).f4)) ∧ w'.cell? (ad874.add ((Aa).toNat * 5)) = some (.int .i64 ((rd_T26 Ab Aa).f0)) ∧ w'.cell? ⟨(ad874.add ((Aa).toNat * 5)).block, (ad874.add ((Aa).toNat * 5)).off + 1, none⟩ = some (.string ((rd_T26 Ab Aa).f1)) ∧ w'.cell? ⟨(ad874.add ((Aa).toNat * 5)).block, (ad874.add ((Aa).toNat * 5)).off + 2, none⟩ = some (.int .i64 ((rd_T26 Ab Aa).f2)) ∧ w'.cell? ⟨(ad874.add ((Aa).toNat * 5)).block, (ad874.add ((Aa).toNat * 5)).off + 3, none⟩ = some (.int .i64 ((rd_T26 Ab Aa).f3)) ∧ w'.cell? ⟨(ad874.add ((Aa).toNat * 5)).block, (ad874.add ((Aa).toNat * 5)).off + 4, none⟩ = some (.int .i64 ((rd_T26 Ab Aa).f4)) ∧ w'.cell? (ad877.add (Ad).toNat) = some (.int .i64 (rd Ac Ad))) (ds := []) #[false, false, false, false, false, false, false, false, false, false, false, false, false, false, false, false, false, false, false] Z32 rfl rfl ⟨Aq, Ar, Au, Av, Aw, Ba, Bb, Bc, Bd, Bf, Bg⟩ (fun hHeld => ?_); refine with_tabW laws_FnSkills.tab22 laws_FnSkills.bits22 (fun HT_ HW_ => ?_)
                     generalize wr.drew = Jy at Aj Ag HB Aq Ar Au Av Aw Ba Bb Bc Bd Bf Bg hHeld ⊢
                     refine puR 0 90 #[true, false, false, false, false, false, false, false, false, false, false, false, false, false, false, false, false, false, false] HT_ rfl rfl ?_; refine puR 1 91 #[true, true, false, false, false, false, false, false, false, false, false, false, false, false, false, false, false, false, false] HT_ rfl rfl ?_; refine puR 2 92 #[true, true, true, false, false, false, false, false, false, false, false, false, false, false, false, false, false, false, false] HT_ rfl rfl ?_; refine puR 3 93 #[true, true, true, true, false, false, false, false, false, false, false, false, false, false, false, false, false, false, false] HT_ rfl rfl ?_; refine puR 4 94 #[true, true, true, true, true, false, false, false, false, false, false, false, false, false, false, false, false, false, false] HT_ rfl rfl ?_; refine taR 5 95 #[true, true, true, true, true, true, false, false, false, false, false, false, false, false, false, false, false, false, false] HT_ HW_ hHeld rfl rfl ?_; refine one_ (i := 6) (N := some 96) #[true, true, true, true, true, true, true, false, false, false, false, false, false, false, false, false, false, false, false] rfl rfl (one_of HT_.out Z32) (by decide) (fun K hK => ?_); refine goes_ Tryd.func48 Z32 rfl #[.slice (some ad877) Ac.length D7, .int .i64 ((rd_T26 Ab Aa).f0)] (by rfl) rfl rfl Z29 ?_; (with_reducible refine (laws_rHas.calls k4 _ _ Ac ((rd_T26 Ab Aa).f0) true _ ?side1 ?side2 Gx.out).mono ?_); (case side1 => exact Z25); (case side2 => exact (Kd.R_reads' Ag.out).2.1); rintro e w' ⟨rfl, ⟨nd, rfl⟩⟩; refine ⟨_, rfl, ?_⟩; refine hK.out _ _ Z68 (fun hHeld => ?_); clear hK K; refine noR 96 ?_; refine puR 7 97 #[true, true, true, true, true, true, true, true, false, false, false, false, false, false, false, false, false, false, false] HT_ rfl rfl ?_; refine puR 8 98 #[true, true, true, true, true, true, true, true, true, false, false, false, false, false, false, false, false, false, false] HT_ rfl rfl ?_; refine puR 9 99 #[true, true, true, true, true, true, true, true, true, true, false, false, false, false, false, false, false, false, false] HT_ rfl rfl ?_; refine puR 10 100 #[true, true, true, true, true, true, true, true, true, true, true, false, false, false, false, false, false, false, false] HT_ rfl rfl ?_; refine puR 11 101 #[true, true, true, true, true, true, true, true, true, true, true, true, false, false, false, false, false, false, false] HT_ rfl rfl ?_; refine puR 13 103 #[true, true, true, true, true, true, true, true, true, true, true, true, false, true, false, false, false, false, false] HT_ rfl rfl ?_; refine puR 14 104 #[true, true, true, true, true, true, true, true, true, true, true, true, false, true, true, false, false, false, false] HT_ rfl rfl ?_; refine puR 15 105 #[true, true, true, true, true, true, true, true, true, true, true, true, false, true, true, true, false, false, false] HT_ rfl rfl ?_; refine taR 12 102 #[true, true, true, true, true, true, true, true, true, true, true, true, true, true, true, true, false, false, false] HT_ HW_ hHeld rfl rfl ?_; refine taR 16 106 #[true, true, true, true, true, true, true, true, true, true, true, true, true, true, true, true, true, false, false] HT_ HW_ hHeld rfl rfl ?_; refine puR 17 107 #[true, true, true, true, true, true, true, true, true, true, true, true, true, true, true, true, true, true, false] HT_ rfl rfl ?_; refine puR 18 108 #[true, true, true, true, true, true, true, true, true, true, true, true, true, true, true, true, true, true, true] HT_ rfl rfl ?_; refine done_ (done_of HT_.out Z32) ?_
                     try go_wp2
                     go_roundg k4
                     case measure => have := HJ6.out; have := HK2.out; have := HK3.out; have := HK4.out; omega
                     case rel => exact ⟨(Bh), (wrap64 (Aa + 1)), Z15, Z15, H', ⟨Z91⟩, ⟨Z35⟩, ⟨Z12⟩, ⟨Z0⟩⟩
                    ·rw [if_neg D0] at H
                     have c33b0 : (((rd_T26 Ab Aa).f0) == (rd Ac Ad)) = false := beq_eq_false_iff_ne.mpr D0; have c33b1 : (((rd_T26 Ab Aa).f0) != (rd Ac Ad)) = true := bne_iff_ne.mpr D0; have H' := Aside0.mk H; clear H
                     try go_wp2
                     replace Aj := aM (Kd.R_drew Aj.out); replace Ag := aM (Kd.R_drew Ag.out); replace HB := aM (below_drew1 HB.out); have B8 : 0 ≤ (Aa : Int) := of_decide_eq_true Z10; have B9 : Aa < (Ab.length : Int) := of_decide_eq_true Z10; obtain ⟨ad874, e874, Aq, Ar, Au, Av, Aw⟩ := at_T26 (Kd.R_reads' Aj.out).2.2 Aa B8 B9; cases e874; replace B8 := eq_true B8; replace B9 := eq_true B9; have Cr : 0 ≤ (Aa : Int) := of_decide_eq_true Z10; have Cs : Aa < (Ab.length : Int) := of_decide_eq_true Z10; obtain ⟨ad876, e876, Ba, Bb, Bc, Bd, Bf⟩ := at_T26 (Kd.R_reads' Aj.out).2.2 Aa Cr Cs; obtain rfl : ad874 = ad876 := (by injection e876); replace Cr := eq_true Cr; replace Cs := eq_true Cs; have Ct : 0 ≤ (Ad : Int) := of_decide_eq_true Z10; have Cu : Ad < (Ac.length : Int) := of_decide_eq_true Z10; obtain ⟨ad877, e877, Bg⟩ := Kd.at_int (Kd.R_reads' Ag.out).2.2 Ad Ct Cu; cases e877; replace Ct := eq_true Ct; replace Cu := eq_true Cu; refine start_ (n := 19) (S := fun w' => w'.cell? (ad874.add ((Aa).toNat * 5)) = some (.int .i64 ((rd_T26 Ab Aa).f0)) ∧ w'.cell? ⟨(ad874.add ((Aa).toNat * 5)).block, (ad874.add ((Aa).toNat * 5)).off + 1, none⟩ = some (.string ((rd_T26 Ab Aa).f1)) ∧ w'.cell? ⟨(ad874.add ((Aa).toNat * 5)).block, (ad874.add ((Aa).toNat * 5)).off + 2, none⟩ = some (.int .i64 ((rd_T26 Ab Aa).f2)) ∧ w'.cell? ⟨(ad874.add ((Aa).toNat * 5)).block, (ad874.add ((Aa).toNat * 5)).off + 3, none⟩ = some (.int .i64 ((rd_T26 Ab Aa).f3)) ∧ w'.cell? ⟨(ad874.add ((Aa).toNat * 5)).block, (ad874.add ((Aa).toNat * 5)).off + 4, none⟩ = some (.int .i64 ((rd_T26 Ab Aa).f4)) ∧ w'.cell? (ad874.add ((Aa).toNat * 5)) = some (.int .i64 ((rd_T26 Ab Aa).f0)) ∧ w'.cell? ⟨(ad874.add ((Aa).toNat * 5)).block, (ad874.add ((Aa).toNat * 5)).off + 1, none⟩ = some (.string ((rd_T26 Ab Aa).f1)) ∧ w'.cell? ⟨(ad874.add ((Aa).toNat * 5)).block, (ad874.add ((Aa).toNat * 5)).off + 2, none⟩ = some (.int .i64 ((rd_T26 Ab Aa).f2)) ∧ w'.cell? ⟨(ad874.add ((Aa).toNat * 5)).block, (ad874.add ((Aa).toNat * 5)).off + 3, none⟩ = some (.int .i64 ((rd_T26 Ab Aa).f3)) ∧ w'.cell? ⟨(ad874.add ((Aa).toNat * 5)).block, (ad874.add ((Aa).toNat * 5)).off + 4, none⟩ = some (.int .i64 ((rd_T26 Ab Aa).f4)) ∧ w'.cell? (ad877.add (Ad).toNat) = some (.int .i64 (rd Ac Ad))) (ds := []) #[false, false, false, false, false, false, false, false, false, false, false, false, false, false, false, false, false, false, false] Z32 rfl rfl ⟨Aq, Ar, Au, Av, Aw, Ba, Bb, Bc, Bd, Bf, Bg⟩ (fun hHeld => ?_); refine with_tabW laws_FnSkills.tab22 laws_FnSkills.bits22 (fun HT_ HW_ => ?_)
                     generalize wr.drew = Jz at Aj Ag HB Aq Ar Au Av Aw Ba Bb Bc Bd Bf Bg hHeld ⊢
                     refine puR 0 90 #[true, false, false, false, false, false, false, false, false, false, false, false, false, false, false, false, false, false, false] HT_ rfl rfl ?_; refine puR 1 91 #[true, true, false, false, false, false, false, false, false, false, false, false, false, false, false, false, false, false, false] HT_ rfl rfl ?_; refine puR 2 92 #[true, true, true, false, false, false, false, false, false, false, false, false, false, false, false, false, false, false, false] HT_ rfl rfl ?_; refine puR 3 93 #[true, true, true, true, false, false, false, false, false, false, false, false, false, false, false, false, false, false, false] HT_ rfl rfl ?_; refine puR 4 94 #[true, true, true, true, true, false, false, false, false, false, false, false, false, false, false, false, false, false, false] HT_ rfl rfl ?_; refine taR 5 95 #[true, true, true, true, true, true, false, false, false, false, false, false, false, false, false, false, false, false, false] HT_ HW_ hHeld rfl rfl ?_; refine one_ (i := 6) (N := some 96) #[true, true, true, true, true, true, true, false, false, false, false, false, false, false, false, false, false, false, false] rfl rfl (one_of HT_.out Z32) (by decide) (fun K hK => ?_); refine goes_ Tryd.func48 Z32 rfl #[.slice (some ad877) Ac.length D7, .int .i64 ((rd_T26 Ab Aa).f0)] (by rfl) rfl rfl Z29 ?_; (with_reducible refine (laws_rHas.calls k4 _ _ Ac ((rd_T26 Ab Aa).f0) true _ ?side1 ?side2 Gx.out).mono ?_); (case side1 => exact Z25); (case side2 => exact (Kd.R_reads' Ag.out).2.1); rintro e w' ⟨rfl, ⟨nd, rfl⟩⟩; refine ⟨_, rfl, ?_⟩; refine hK.out _ _ Z68 (fun hHeld => ?_); clear hK K; refine noR 96 ?_; refine puR 7 97 #[true, true, true, true, true, true, true, true, false, false, false, false, false, false, false, false, false, false, false] HT_ rfl rfl ?_; refine puR 8 98 #[true, true, true, true, true, true, true, true, true, false, false, false, false, false, false, false, false, false, false] HT_ rfl rfl ?_; refine puR 9 99 #[true, true, true, true, true, true, true, true, true, true, false, false, false, false, false, false, false, false, false] HT_ rfl rfl ?_; refine puR 10 100 #[true, true, true, true, true, true, true, true, true, true, true, false, false, false, false, false, false, false, false] HT_ rfl rfl ?_; refine puR 11 101 #[true, true, true, true, true, true, true, true, true, true, true, true, false, false, false, false, false, false, false] HT_ rfl rfl ?_; refine puR 13 103 #[true, true, true, true, true, true, true, true, true, true, true, true, false, true, false, false, false, false, false] HT_ rfl rfl ?_; refine puR 14 104 #[true, true, true, true, true, true, true, true, true, true, true, true, false, true, true, false, false, false, false] HT_ rfl rfl ?_; refine puR 15 105 #[true, true, true, true, true, true, true, true, true, true, true, true, false, true, true, true, false, false, false] HT_ rfl rfl ?_; refine taR 12 102 #[true, true, true, true, true, true, true, true, true, true, true, true, true, true, true, true, false, false, false] HT_ HW_ hHeld rfl rfl ?_; refine taR 16 106 #[true, true, true, true, true, true, true, true, true, true, true, true, true, true, true, true, true, false, false] HT_ HW_ hHeld rfl rfl ?_; refine puR 17 107 #[true, true, true, true, true, true, true, true, true, true, true, true, true, true, true, true, true, true, false] HT_ rfl rfl ?_; refine puR 18 108 #[true, true, true, true, true, true, true, true, true, true, true, true, true, true, true, true, true, true, true] HT_ rfl rfl ?_; refine done_ (done_of HT_.out Z32) ?_; have Df : 0 ≤ (Aa : Int) := of_decide_eq_true Z10; have Dg : Aa < (Ab.length : Int) := of_decide_eq_true Z10; obtain ⟨ad878, e878, Cj, Ck, Cl, Cm, Cn⟩ := at_T26 (Kd.R_reads' Aj.out).2.2 Aa Df Dg; obtain rfl : ad874 = ad878 := (by injection e878); replace Df := eq_true Df; replace Dg := eq_true Dg
                     try go_wp2
                     go_roundg k4
                     case measure => have := HJ6.out; have := HK2.out; have := HK3.out; have := HK4.out; omega
                     case rel => exact ⟨(Go.bits .or .i64 Bh ((rd_T26 Ab Aa).f2)), (wrap64 (Aa + 1)), Z15, Z15, H', ⟨Z91⟩, ⟨Z35⟩, ⟨Z12⟩, ⟨Z0⟩⟩
                   ·rw [if_neg Ef] at H
                    exact absurd H (by simp)
                  ·rw [if_neg Ee] at H
                   exact absurd H (by simp)
                 ·replace Ed := Bool.eq_false_iff.mpr Ed
                  subst Ed
                  have H1 : (laws_FnSkills.l2 k4 l0 Ab Af Ac true Bo Ad Bh (wrap64 (Aa + 1))) = some r := by rw [if_neg (show ¬ (false = true) by decide)] at H; exact H
                  clear H; have H := H1; clear H1; have H' := Aside0.mk H; clear H
                  try go_wp2
                  replace Aj := aM (Kd.R_drew Aj.out); replace Ag := aM (Kd.R_drew Ag.out); replace HB := aM (below_drew1 HB.out); have B8 : 0 ≤ (Aa : Int) := of_decide_eq_true Z10; have B9 : Aa < (Ab.length : Int) := of_decide_eq_true Z10; obtain ⟨ad874, e874, Aq, Ar, Au, Av, Aw⟩ := at_T26 (Kd.R_reads' Aj.out).2.2 Aa B8 B9; cases e874; replace B8 := eq_true B8; replace B9 := eq_true B9; refine start_ (n := 19) (S := fun w' => w'.cell? (ad874.add ((Aa).toNat * 5)) = some (.int .i64 ((rd_T26 Ab Aa).f0)) ∧ w'.cell? ⟨(ad874.add ((Aa).toNat * 5)).block, (ad874.add ((Aa).toNat * 5)).off + 1, none⟩ = some (.string ((rd_T26 Ab Aa).f1)) ∧ w'.cell? ⟨(ad874.add ((Aa).toNat * 5)).block, (ad874.add ((Aa).toNat * 5)).off + 2, none⟩ = some (.int .i64 ((rd_T26 Ab Aa).f2)) ∧ w'.cell? ⟨(ad874.add ((Aa).toNat * 5)).block, (ad874.add ((Aa).toNat * 5)).off + 3, none⟩ = some (.int .i64 ((rd_T26 Ab Aa).f3)) ∧ w'.cell? ⟨(ad874.add ((Aa).toNat * 5)).block, (ad874.add ((Aa).toNat * 5)).off + 4, none⟩ = some (.int .i64 ((rd_T26 Ab Aa).f4))) (ds := []) #[false, false, false, false, false, false, false, false, false, false, false, false, false, false, false, false, false, false, false] Z32 rfl rfl ⟨Aq, Ar, Au, Av, Aw⟩ (fun hHeld => ?_); refine with_tabW laws_FnSkills.tab22 laws_FnSkills.bits22 (fun HT_ HW_ => ?_)
                  generalize wr.drew = J0 at Aj Ag HB Aq Ar Au Av Aw hHeld ⊢
                  refine puR 0 90 #[true, false, false, false, false, false, false, false, false, false, false, false, false, false, false, false, false, false, false] HT_ rfl rfl ?_; refine puR 1 91 #[true, true, false, false, false, false, false, false, false, false, false, false, false, false, false, false, false, false, false] HT_ rfl rfl ?_; refine puR 2 92 #[true, true, true, false, false, false, false, false, false, false, false, false, false, false, false, false, false, false, false] HT_ rfl rfl ?_; refine puR 3 93 #[true, true, true, true, false, false, false, false, false, false, false, false, false, false, false, false, false, false, false] HT_ rfl rfl ?_; refine puR 4 94 #[true, true, true, true, true, false, false, false, false, false, false, false, false, false, false, false, false, false, false] HT_ rfl rfl ?_; refine taR 5 95 #[true, true, true, true, true, true, false, false, false, false, false, false, false, false, false, false, false, false, false] HT_ HW_ hHeld rfl rfl ?_; refine one_ (i := 6) (N := some 96) #[true, true, true, true, true, true, true, false, false, false, false, false, false, false, false, false, false, false, false] rfl rfl (one_of HT_.out Z32) (by decide) (fun K hK => ?_); refine goes_ Tryd.func48 Z32 rfl #[.slice E5 Ac.length D7, .int .i64 ((rd_T26 Ab Aa).f0)] (by rfl) rfl rfl Z29 ?_; (with_reducible refine (laws_rHas.calls k4 _ _ Ac ((rd_T26 Ab Aa).f0) false _ ?side1 ?side2 Gx.out).mono ?_); (case side1 => exact Z25); (case side2 => exact (Kd.R_reads' Ag.out).2.1); rintro e w' ⟨rfl, ⟨nd, rfl⟩⟩; refine ⟨_, rfl, ?_⟩; refine hK.out _ _ (by exact ⟨hHeld.1, hHeld.2.1, hHeld.2.2.1, hHeld.2.2.2.1, hHeld.2.2.2.2⟩) (fun hHeld => ?_); clear hK K; refine noR 96 ?_; refine puR 7 97 #[true, true, true, true, true, true, true, true, false, false, false, false, false, false, false, false, false, false, false] HT_ rfl rfl ?_; refine pure_ (i := 8) (N := some 98) (v := undef) (a' := ?_) #[true, true, true, true, true, true, true, true, true, false, false, false, false, false, false, false, false, false, false] rfl rfl (any_of HT_.out Z32) (fun _ _ _ h => h) (Or.inr ⟨by rfl, rfl⟩) ?_ ?_
                  rotate_left
                  ·exact Z11
                  refine pure_ (i := 9) (N := some 99) (v := undef) (a' := ?_) #[true, true, true, true, true, true, true, true, true, true, false, false, false, false, false, false, false, false, false] rfl rfl (any_of HT_.out Z32) (fun _ _ _ h => h) (Or.inr ⟨by rfl, rfl⟩) ?_ ?_
                  rotate_left
                  ·exact Z11
                  refine pure_ (i := 10) (N := some 100) (v := undef) (a' := ?_) #[true, true, true, true, true, true, true, true, true, true, true, false, false, false, false, false, false, false, false] rfl rfl (any_of HT_.out Z32) (fun _ _ _ h => h) (Or.inr ⟨by rfl, rfl⟩) ?_ ?_
                  rotate_left
                  ·exact Z11
                  refine pure_ (i := 11) (N := some 101) (v := undef) (a' := ?_) #[true, true, true, true, true, true, true, true, true, true, true, true, false, false, false, false, false, false, false] rfl rfl (any_of HT_.out Z32) (fun _ _ _ h => h) (Or.inr ⟨by rfl, rfl⟩) ?_ ?_
                  rotate_left
                  ·exact Z11
                  refine pure_ (i := 12) (N := some 102) (v := undef) (a' := ?_) #[true, true, true, true, true, true, true, true, true, true, true, true, true, false, false, false, false, false, false] rfl rfl (any_of HT_.out Z32) (fun _ _ _ h => h) (Or.inr ⟨by rfl, rfl⟩) ?_ ?_
                  rotate_left
                  ·exact Z11
                  refine pure_ (i := 13) (N := some 103) (v := undef) (a' := ?_) #[true, true, true, true, true, true, true, true, true, true, true, true, true, true, false, false, false, false, false] rfl rfl (any_of HT_.out Z32) (fun _ _ _ h => h) (Or.inr ⟨by rfl, rfl⟩) ?_ ?_
                  rotate_left
                  ·exact Z11
                  refine pure_ (i := 14) (N := some 104) (v := undef) (a' := ?_) #[true, true, true, true, true, true, true, true, true, true, true, true, true, true, true, false, false, false, false] rfl rfl (any_of HT_.out Z32) (fun _ _ _ h => h) (Or.inr ⟨by rfl, rfl⟩) ?_ ?_
                  rotate_left
                  ·exact Z11
                  refine pure_ (i := 15) (N := some 105) (v := undef) (a' := ?_) #[true, true, true, true, true, true, true, true, true, true, true, true, true, true, true, true, false, false, false] rfl rfl (any_of HT_.out Z32) (fun _ _ _ h => h) (Or.inr ⟨by rfl, rfl⟩) ?_ ?_
                  rotate_left
                  ·exact Z11
                  refine pure_ (i := 16) (N := some 106) (v := undef) (a' := ?_) #[true, true, true, true, true, true, true, true, true, true, true, true, true, true, true, true, true, false, false] rfl rfl (any_of HT_.out Z32) (fun _ _ _ h => h) (Or.inr ⟨by rfl, rfl⟩) ?_ ?_
                  rotate_left
                  ·exact Z11
                  refine pure_ (i := 17) (N := some 107) (v := undef) (a' := ?_) #[true, true, true, true, true, true, true, true, true, true, true, true, true, true, true, true, true, true, false] rfl rfl (any_of HT_.out Z32) (fun _ _ _ h => h) (Or.inr ⟨by rfl, rfl⟩) ?_ ?_
                  rotate_left
                  ·exact Z11
                  refine puR 18 108 #[true, true, true, true, true, true, true, true, true, true, true, true, true, true, true, true, true, true, true] HT_ rfl rfl ?_; refine done_ (done_of HT_.out Z32) ?_
                  try go_wp2
                  go_roundg k4
                  case measure => have := HJ6.out; have := HK2.out; have := HK3.out; have := HK4.out; omega
                  case rel => exact ⟨(Bh), (wrap64 (Aa + 1)), Z15, Z15, H', ⟨Z91⟩, ⟨Z35⟩, ⟨Z12⟩, ⟨Z0⟩⟩
                ·rw [if_neg Ec] at H
                 exact absurd H (by simp)
               ·rw [if_neg D2] at H
                have c27b0 : decide (Aa < (Ab.length : Int)) = false := decide_eq_false D2; clear D2
                by_cases Eg : (Go.bits .and .i64 Bh Af) = Af
                ·rw [if_pos Eg] at H
                 exact absurd H (by simp)
                ·rw [if_neg Eg] at H
                 have c37b0 : ((Go.bits .and .i64 Bh Af) == Af) = false := beq_eq_false_iff_ne.mpr Eg; have c37b1 : ((Go.bits .and .i64 Bh Af) != Af) = true := bne_iff_ne.mpr Eg; have H' := Aside0.mk H; clear H
                 go_wp2
                 go_roundg k4
                 case measure => have := HJ6.out; have := HK2.out; have := HK3.out; have := HK4.out; omega
                 case rel => exact ⟨(wrap64 (Ad + 1)), Z15, H', ⟨Z91⟩, ⟨Z35⟩, ⟨Z12⟩, ⟨Z0⟩⟩
            ·rw [if_neg Dz] at H
             have c25b0 : decide (Ad < (Ac.length : Int)) = false := decide_eq_false Dz; clear Dz
             by_cases D8 : (Go.bits .and .i64 Bo Af) = Af
             ·rw [if_pos D8] at H
              have c38b0 : ((Go.bits .and .i64 Bo Af) == Af) = true := beq_iff_eq.mpr D8; have c38b1 : ((Go.bits .and .i64 Bo Af) != Af) = false := bne_eq_false_iff_eq.mpr D8; clear D8; have H' := Aside0.mk H; clear H; obtain ⟨Ic, Ie, Gy⟩ := Kd.R_slice Ag.out; subst Gy
              go_wp2
              go_meet
              case rel => exact ⟨_, H', ⟨by have := HJ6.out; have := HK2.out; have := HK3.out; first | omega | exact Nat.le_refl _⟩, ⟨Z35⟩, ⟨Z12⟩, ⟨Z0⟩⟩
             ·rw [if_neg D8] at H
              exact absurd H (by simp)
      ·replace Dw := Bool.eq_false_iff.mpr Dw
       subst Dw
       have H1 : (laws_FnSkills.j4 Ej l0 Ab Af Ac false) = some r := by rw [if_neg (show ¬ (false = true) by decide)] at H; exact H
       clear H; have H := H1; clear H1; have H' := Aside0.mk H; clear H
       go_wp2
       go_meet
       case rel => exact ⟨_, H', ⟨by have := HJ6.out; first | omega | exact Nat.le_refl _⟩, ⟨Z35⟩, ⟨Z12⟩, ⟨Z0⟩⟩
     case rest => as_aux_lemma =>
      clear El; (try clear c1); (try clear c2); (try clear p2); (try clear c3); (try clear c4); (try clear p6); (try clear p8); (try clear q8); (try clear E4); (try clear Dw); (try clear Dz); (try clear c25b0); (try clear D2); (try clear c27b0); (try clear Ec); (try clear Ed); (try clear Ee); (try clear Ef); (try clear D0); (try clear c33b0); (try clear c33b1); (try clear Eg); (try clear c37b0); (try clear c37b1); (try clear D8); (try clear c38b0); (try clear c38b1); (try clear Aq); (try clear Ar); (try clear Au); (try clear Av); (try clear Aw); (try clear Ba); (try clear Bb); (try clear Bc); (try clear Bd); (try clear Bf); (try clear Bg); (try clear Cj); (try clear Ck); (try clear Cl); (try clear Cm); (try clear Cn); (try clear B8); (try clear Cr); (try clear Ct); (try clear Df); (try clear B9); (try clear Cs); (try clear Cu); (try clear Dg); obtain ⟨kq, HA, HJ16, Aj, Ag, HB⟩ := hcut; cases kq with
      | zero => exact absurd HA.out (by simp [laws_FnSkills.j4])
      | succ Ax =>
       have H := HA.out; clear HA
       simp only [laws_FnSkills.j4] at H
       replace H := Option.bind_eq_some_iff.mp H; obtain ⟨⟨Bw, Cv⟩, E8, H⟩ := H; replace H : ((spec_WithSkills.f Ax Ab Af).bind fun Eh => (if (Cv != Eh.2) = true then (laws_FnSkills.j5 Ax l0 true) else ((laws_rInts.f Ax Bw Eh.1).bind fun Ds => (if Ds = true then (if Az = true then (if (Bw.length : Int) > 0 then (laws_FnSkills.j5 Ax l0 ((Ac.length : Int) != 1)) else (laws_FnSkills.j5 Ax l0 false)) else (laws_FnSkills.j5 Ax l0 false)) else (laws_FnSkills.j5 Ax l0 true))))) = some r := H; have F6 := Aside0.mk E8; clear E8; replace H := Option.bind_eq_some_iff.mp H; obtain ⟨⟨Dt, Cz⟩, E9, H⟩ := H; replace H : (if (Cv != Cz) = true then (laws_FnSkills.j5 Ax l0 true) else ((laws_rInts.f Ax Bw Dt).bind fun Ds => (if Ds = true then (if Az = true then (if (Bw.length : Int) > 0 then (laws_FnSkills.j5 Ax l0 ((Ac.length : Int) != 1)) else (laws_FnSkills.j5 Ax l0 false)) else (laws_FnSkills.j5 Ax l0 false)) else (laws_FnSkills.j5 Ax l0 true)))) = some r := H; have Ig := Aside0.mk E9; clear E9; have Em := Aside0.mk H; clear H
       go_upto_region 30 with (first | ((with_reducible refine gate_callee (f := 35) rfl ?_); refine glE (some 129) Tryd.func35 #[.slice D4 Ab.length D5, .int .i64 Af] ?_; (with_reducible refine (impl_WithSkills.calls Ax _ _ Ab Af Bw Cv _ ?side1 ?side2 F6.out).mono ?_); (case side1 => exact Z84); (case side2 => exact (Kd.R_reads' Aj.out).2.1); rintro e J1 ⟨Ih, rfl, B1, hb⟩; refine ⟨_, rfl, ?_⟩; replace Aj := roB Aj hb; have Bi := aM (Kd.R_lower (Kd.R_new' B1 (Kd.R_lt Z12)) (below_size Z0)); replace Ag := aM (Kd.R_elder' Z12 (Kd.R_base B1) hb); replace HB := hbS Z0 hb; (try clear hb); (try clear B1)) | ((with_reducible refine gate_callee (f := 34) rfl ?_); refine glE (some 135) Tryd.func34 #[.slice D4 Ab.length D5, .int .i64 Af] ?_; (with_reducible refine (spec_WithSkills.calls Ax _ _ Ab Af Dt Cz _ ?side1 ?side2 Ig.out).mono ?_); (case side1 => exact Z84); (case side2 => exact (Kd.R_reads' Aj.out).2.1); rintro e J2 ⟨Ii, rfl, B1, hb⟩; refine ⟨_, rfl, ?_⟩; replace Aj := roB Aj hb; have Bt := aM (Kd.R_lower (Kd.R_new' (Kd.R_new' B1 (Kd.R_lt Z12)) (Kd.R_lt Z103)) (below_size Z0)); replace Ag := aM (Kd.R_elder' Z12 (Kd.R_base B1) hb); replace Bi := aM (Kd.R_elder' Z103 (Kd.R_base B1) hb); replace HB := hbS Z0 hb; (try clear hb); (try clear B1)))
       (try simp only [Act.put, List.setIfInBounds_toArray, List.set_cons_zero, List.set_cons_succ])
       go_cut [159] (fun Gz wc => ∃ (kq : Nat) (Co : Bool), Gz = .bool Co ∧ Aside0 (laws_FnSkills.j5 kq l0 Co = some r) ∧ Aside0 (kq ≤ Ax) ∧ Aside0 (Below w.heap.size w wc))
       case first => as_aux_lemma =>
        have H := Em.out; clear Em
        by_cases Dp : (Cv != Cz) = true
        ·rw [if_pos Dp] at H
         have c45b0 : (Cv != Cz) = true := Dp
         (try (have c45b1 : decide (Cv = Cz) = false := Z113))
         (try (have c45b2 : (Cv == Cz) = false := Z113))
         (try (have c45b3 : ¬ (Cv = Cz) := Z113))
         clear Dp
         (first | rw [c45b0] | (simp only [i64_w, i32_w]; rw [c45b0]) | skip)
         have H' := Aside0.mk H; clear H
         go_wp2
         go_meet
         case rel => exact ⟨_, (true), Z15, H', ⟨Z76⟩, ⟨Z0⟩⟩
        ·rw [if_neg Dp] at H
         have c45b0 : (Cv != Cz) = false := by simpa using Dp
         (try (have c45b1 : decide (Cv = Cz) = true := Z113))
         (try (have c45b2 : (Cv == Cz) = true := Z113))
         clear Dp
         (first | rw [c45b0] | (simp only [i64_w, i32_w]; rw [c45b0]) | skip)
         replace H := Option.bind_eq_some_iff.mp H; obtain ⟨Ds, Fa, H⟩ := H; replace H : (if Ds = true then (if Az = true then (if (Bw.length : Int) > 0 then (laws_FnSkills.j5 Ax l0 ((Ac.length : Int) != 1)) else (laws_FnSkills.j5 Ax l0 false)) else (laws_FnSkills.j5 Ax l0 false)) else (laws_FnSkills.j5 Ax l0 true)) = some r := H; have F8 := Aside0.mk Fa; clear Fa
         by_cases En : Ds = true
         ·subst En
          have H1 : (if Az = true then (if (Bw.length : Int) > 0 then (laws_FnSkills.j5 Ax l0 ((Ac.length : Int) != 1)) else (laws_FnSkills.j5 Ax l0 false)) else (laws_FnSkills.j5 Ax l0 false)) = some r := by rw [if_pos rfl] at H; exact H
          clear H; have H := H1; clear H1
          by_cases Eo : Az = true
          ·subst Eo
           have H1 : (if (Bw.length : Int) > 0 then (laws_FnSkills.j5 Ax l0 ((Ac.length : Int) != 1)) else (laws_FnSkills.j5 Ax l0 false)) = some r := by rw [if_pos rfl] at H; exact H
           clear H; have H := H1; clear H1
           by_cases D9 : (Bw.length : Int) > 0
           ·rw [if_pos D9] at H
            have c49b0 : decide (0 < (Bw.length : Int)) = true := decide_eq_true D9; have c49b1 : decide (0 < Bw.length) = true := decide_eq_true (by omega); clear D9; have H' := Aside0.mk H; clear H; obtain ⟨Ij, Ik, G0⟩ := Kd.R_slice Bi.out; subst G0; obtain ⟨Il, Im, G1⟩ := Kd.R_slice Bt.out; subst G1
            go_wp2_with (first | (go_at_call 47; (with_reducible refine (laws_rInts.calls Ax _ _ Bw _ _ Dt true _ ?side1 ?side2 ?side3 ?side4 F8.out).mono ?_); (case side1 => exact Z54); (case side2 => exact (Kd.R_reads' Bi.out).2.1); (case side3 => exact Z55); (case side4 => exact (Kd.R_reads' Bt.out).2.1); rintro e w' ⟨rfl, ⟨nd, rfl⟩⟩; obtain ⟨Io, Ip, G2⟩ := Kd.R_slice Ag.out; subst G2))
            go_meet
            case rel => exact ⟨_, (((Ac.length : Int) != 1)), Z15, H', ⟨Z76⟩, ⟨Z0⟩⟩
           ·rw [if_neg D9] at H
            have c49b0 : decide (0 < (Bw.length : Int)) = false := decide_eq_false D9; have c49b1 : decide (0 < Bw.length) = false := decide_eq_false (by omega); clear D9; have H' := Aside0.mk H; clear H; obtain ⟨Iq, Ir, G3⟩ := Kd.R_slice Bi.out; subst G3; obtain ⟨Iu, Iv, G4⟩ := Kd.R_slice Bt.out; subst G4
            go_wp2_with (first | (go_at_call 47; (with_reducible refine (laws_rInts.calls Ax _ _ Bw _ _ Dt true _ ?side1 ?side2 ?side3 ?side4 F8.out).mono ?_); (case side1 => exact Z54); (case side2 => exact (Kd.R_reads' Bi.out).2.1); (case side3 => exact Z55); (case side4 => exact (Kd.R_reads' Bt.out).2.1); rintro e w' ⟨rfl, ⟨nd, rfl⟩⟩))
            go_meet
            case rel => exact ⟨_, (false), Z15, H', ⟨Z76⟩, ⟨Z0⟩⟩
          ·replace Eo := Bool.eq_false_iff.mpr Eo
           subst Eo
           have H1 : (laws_FnSkills.j5 Ax l0 false) = some r := by rw [if_neg (show ¬ (false = true) by decide)] at H; exact H
           clear H; have H := H1; clear H1; have H' := Aside0.mk H; clear H; obtain ⟨Iw, Ix, G5⟩ := Kd.R_slice Bi.out; subst G5; obtain ⟨Iy, Iz, G6⟩ := Kd.R_slice Bt.out; subst G6
           go_wp2_with (first | (go_at_call 47; (with_reducible refine (laws_rInts.calls Ax _ _ Bw _ _ Dt true _ ?side1 ?side2 ?side3 ?side4 F8.out).mono ?_); (case side1 => exact Z54); (case side2 => exact (Kd.R_reads' Bi.out).2.1); (case side3 => exact Z55); (case side4 => exact (Kd.R_reads' Bt.out).2.1); rintro e w' ⟨rfl, ⟨nd, rfl⟩⟩))
           go_meet
           case rel => exact ⟨_, (false), Z15, H', ⟨Z76⟩, ⟨Z0⟩⟩
         ·replace En := Bool.eq_false_iff.mpr En
          subst En
          have H1 : (laws_FnSkills.j5 Ax l0 true) = some r := by rw [if_neg (show ¬ (false = true) by decide)] at H; exact H
          clear H; have H := H1; clear H1; have H' := Aside0.mk H; clear H; obtain ⟨I0, I1, G7⟩ := Kd.R_slice Bi.out; subst G7; obtain ⟨I2, I3, G8⟩ := Kd.R_slice Bt.out; subst G8
          go_wp2_with (first | (go_at_call 47; (with_reducible refine (laws_rInts.calls Ax _ _ Bw _ _ Dt false _ ?side1 ?side2 ?side3 ?side4 F8.out).mono ?_); (case side1 => exact Z54); (case side2 => exact (Kd.R_reads' Bi.out).2.1); (case side3 => exact Z55); (case side4 => exact (Kd.R_reads' Bt.out).2.1); rintro e w' ⟨rfl, ⟨nd, rfl⟩⟩))
          go_meet
          case rel => exact ⟨_, (true), Z15, H', ⟨Z76⟩, ⟨Z0⟩⟩
       case rest => as_aux_lemma =>
        clear Em; (try clear c1); (try clear c2); (try clear p2); (try clear c3); (try clear c4); (try clear p6); (try clear p8); (try clear q8); (try clear E4); (try clear Dw); (try clear Dz); (try clear c25b0); (try clear D2); (try clear c27b0); (try clear Ec); (try clear Ed); (try clear Ee); (try clear Ef); (try clear D0); (try clear c33b0); (try clear c33b1); (try clear Hq); (try clear Hr); (try clear Eg); (try clear c37b0); (try clear c37b1); (try clear D8); (try clear c38b0); (try clear c38b1); (try clear Dp); (try clear c45b0); (try clear c45b1); (try clear c45b2); (try clear En); (try clear Eo); (try clear D9); (try clear c49b0); (try clear c49b1); (try clear Aq); (try clear Ar); (try clear Au); (try clear Av); (try clear Aw); (try clear Ba); (try clear Bb); (try clear Bc); (try clear Bd); (try clear Bf); (try clear Bg); (try clear Cj); (try clear Ck); (try clear Cl); (try clear Cm); (try clear Cn); (try clear p2); (try clear p6); (try clear p8); (try clear B8); (try clear Cr); (try clear Ct); (try clear Df); (try clear q8); (try clear B9); (try clear Cs); (try clear Cu); (try clear Dg); obtain ⟨kq, Co, rfl, HA, HJ41, HB⟩ := hcut; cases kq with
        | zero => exact absurd HA.out (by simp [laws_FnSkills.j5])
        | succ Bn =>
         have H := HA.out; clear HA
         simp only [laws_FnSkills.j5] at H
         by_cases Ez : Co = true
         ·subst Ez
          have H1 : (none) = some r := by rw [if_pos rfl] at H; exact H
          clear H; have H := H1; clear H1; exact absurd H (by simp)
         ·replace Ez := Bool.eq_false_iff.mpr Ez
          subst Ez
          have H1 : ((spec_DrawTeachSkill.f Bn l0).bind fun Bm => ((impl_TeachSkill.f Bm.1 Bm.2.1 Bm.2.2.1 Bm.2.2.2).bind fun Bp => ((spec_TeachSkill.f Bn Bm.1 Bm.2.1 Bm.2.2.1 Bm.2.2.2).bind fun Cg => (if (Bp.2 != Cg.2) = true then (laws_FnSkills.j6 Bn l0 Bm.2.1 Bm.2.2.1 Bm.2.2.2 Bp.1 Bp.2 true) else ((laws_rWeavers.f Bn Bp.1 Cg.1).bind fun Cw => (laws_FnSkills.j6 Bn l0 Bm.2.1 Bm.2.2.1 Bm.2.2.2 Bp.1 Bp.2 (!Cw))))))) = some r := by rw [if_neg (show ¬ (false = true) by decide)] at H; exact H
          clear H; have H := H1; clear H1; replace H := Option.bind_eq_some_iff.mp H; obtain ⟨⟨Dc, Bj, Bk, Bq⟩, Fb, H⟩ := H; replace H : ((impl_TeachSkill.f Dc Bj Bk Bq).bind fun Bp => ((spec_TeachSkill.f Bn Dc Bj Bk Bq).bind fun Cg => (if (Bp.2 != Cg.2) = true then (laws_FnSkills.j6 Bn l0 Bj Bk Bq Bp.1 Bp.2 true) else ((laws_rWeavers.f Bn Bp.1 Cg.1).bind fun Cw => (laws_FnSkills.j6 Bn l0 Bj Bk Bq Bp.1 Bp.2 (!Cw)))))) = some r := H; have F7 := Aside0.mk Fb; clear Fb; replace H := Option.bind_eq_some_iff.mp H; obtain ⟨⟨B2, Br⟩, Fc, H⟩ := H; replace H : ((spec_TeachSkill.f Bn Dc Bj Bk Bq).bind fun Cg => (if (Br != Cg.2) = true then (laws_FnSkills.j6 Bn l0 Bj Bk Bq B2 Br true) else ((laws_rWeavers.f Bn B2 Cg.1).bind fun Cw => (laws_FnSkills.j6 Bn l0 Bj Bk Bq B2 Br (!Cw))))) = some r := H; have I4 := Aside0.mk Fc; clear Fc; replace H := Option.bind_eq_some_iff.mp H; obtain ⟨⟨Ep, C0⟩, Fd, H⟩ := H; replace H : (if (Br != C0) = true then (laws_FnSkills.j6 Bn l0 Bj Bk Bq B2 Br true) else ((laws_rWeavers.f Bn B2 Ep).bind fun Cw => (laws_FnSkills.j6 Bn l0 Bj Bk Bq B2 Br (!Cw)))) = some r := H; have I5 := Aside0.mk Fd; clear Fd; have Er := Aside0.mk H; clear H
          go_upto_region 35 with (first | ((with_reducible refine gate_callee (f := 49) rfl ?_); refine glE (some 162) Tryd.func49 #[.slice A0 l0.length c0] ?_; (with_reducible refine (spec_DrawTeachSkill.calls Bn _ _ l0 Dc Bj Bk Bq _ ?side1 ?side2 F7.out).mono ?_); (case side1 => exact Z62); (case side2 => exact Ew.out); rintro e J3 ⟨I6, rfl, B1, hb⟩; refine ⟨_, rfl, ?_⟩; have Bx := aM (Kd.R_lower B1 (below_size Z0)); replace HB := hbS Z0 hb; (try clear hb); (try clear B1); obtain ⟨Fe, Ff, G9⟩ := Kd.R_slice Bx.out; subst G9) | ((with_reducible refine gate_callee (f := 42) rfl ?_); refine glE (some 172) Tryd.func42 #[.slice Fe Dc.length Ff, .int .i64 Bj, .int .i64 Bk, .int .i64 Bq] ?_; (with_reducible refine (impl_TeachSkill.calls _ _ Dc Bj Bk Bq B2 Br _ ?side1 ?side2 I4.out).mono ?_); (case side1 => exact Z85); (case side2 => exact (Kd.R_reads' Bx.out).2.1); rintro e J4 ⟨Fg, rfl, B1, hb⟩; refine ⟨_, rfl, ?_⟩; have Ch := aM (Kd.R_lower (Kd.R_new' B1 (Kd.R_lt Z72)) (below_size Z0)); replace Bx := aM (Kd.R_elder' Z72 (Kd.R_base B1) hb); replace HB := hbS Z0 hb; (try clear hb); (try clear B1)) | ((with_reducible refine gate_callee (f := 41) rfl ?_); refine glE (some 180) Tryd.func41 #[.slice Fe Dc.length Ff, .int .i64 Bj, .int .i64 Bk, .int .i64 Bq] ?_; (with_reducible refine (spec_TeachSkill.calls Bn _ _ Dc Bj Bk Bq Ep C0 _ ?side1 ?side2 I5.out).mono ?_); (case side1 => exact Z85); (case side2 => exact (Kd.R_reads' Bx.out).2.1); rintro e J5 ⟨I7, rfl, B1, hb⟩; refine ⟨_, rfl, ?_⟩; have D1 := aM (Kd.R_lower (Kd.R_new' (Kd.R_new' B1 (Kd.R_lt Z72)) (Kd.R_lt Z104)) (below_size Z0)); replace Bx := aM (Kd.R_elder' Z72 (Kd.R_base B1) hb); replace Ch := aM (Kd.R_elder' Z104 (Kd.R_base B1) hb); replace HB := hbS Z0 hb; (try clear hb); (try clear B1)))
          (try simp only [Act.put, List.setIfInBounds_toArray, List.set_cons_zero, List.set_cons_succ])
          go_cut [191] (fun Ha wc => ∃ (kq : Nat) (Cp : Bool), Ha = .bool Cp ∧ Aside0 (laws_FnSkills.j6 kq l0 Bj Bk Bq B2 Br Cp = some r) ∧ Aside0 (kq ≤ Bn) ∧ Aside0 (Kd.R k26 26 wc w.heap.size (fun _ => True) Fg B2) ∧ Aside0 (Below w.heap.size w wc))
          case first => as_aux_lemma =>
           have H := Er.out; clear Er
           by_cases Du : (Br != C0) = true
           ·rw [if_pos Du] at H
            have c68b0 : (Br != C0) = true := Du
            (try (have c68b1 : decide (Br = C0) = false := Z114))
            (try (have c68b2 : (Br == C0) = false := Z114))
            (try (have c68b3 : ¬ (Br = C0) := Z114))
            clear Du
            (first | rw [c68b0] | (simp only [i64_w, i32_w]; rw [c68b0]) | skip)
            have H' := Aside0.mk H; clear H
            go_wp2
            go_meet
            case rel => exact ⟨_, (true), Z15, H', ⟨Z107⟩, ⟨Z93⟩, ⟨Z0⟩⟩
           ·rw [if_neg Du] at H
            have c68b0 : (Br != C0) = false := by simpa using Du
            (try (have c68b1 : decide (Br = C0) = true := Z114))
            (try (have c68b2 : (Br == C0) = true := Z114))
            clear Du
            (first | rw [c68b0] | (simp only [i64_w, i32_w]; rw [c68b0]) | skip)
            replace H := Option.bind_eq_some_iff.mp H; obtain ⟨Cw, Fh, H⟩ := H; replace H : (laws_FnSkills.j6 Bn l0 Bj Bk Bq B2 Br (!Cw)) = some r := H; have I8 := Aside0.mk Fh; clear Fh; have H' := Aside0.mk H; clear H; obtain ⟨I9, Ja, Hb⟩ := Kd.R_slice Ch.out; subst Hb; obtain ⟨Jb, Jc, Hc⟩ := Kd.R_slice D1.out; subst Hc
            go_wp2_with (first | (go_at_call 50; (with_reducible refine (laws_rWeavers.calls Bn _ _ B2 _ _ Ep Cw _ ?side1 ?side2 ?side3 ?side4 I8.out).mono ?_); (case side1 => exact (by repeat (first | exact (Kd.R_reads' Ch.out).2.2 | (with_reducible refine Kd.C_alloc ?_ _) | (with_reducible refine Kd.C_drewN ?_ _) | (with_reducible refine Kd.C_drew ?_)))); (case side2 => exact (Kd.R_reads' Ch.out).2.1); (case side3 => exact (by repeat (first | exact (Kd.R_reads' D1.out).2.2 | (with_reducible refine Kd.C_alloc ?_ _) | (with_reducible refine Kd.C_drewN ?_ _) | (with_reducible refine Kd.C_drew ?_)))); (case side4 => exact (Kd.R_reads' D1.out).2.1); rintro e w' ⟨rfl, ⟨nd, rfl⟩⟩))
            go_meet
            case rel => exact ⟨_, (!Cw), Z15, H', ⟨Z107⟩, ⟨Z93⟩, ⟨Z0⟩⟩
          case rest => as_aux_lemma =>
           clear Er; (try clear c1); (try clear c2); (try clear p2); (try clear c3); (try clear c4); (try clear c5); (try clear c6); (try clear p6); (try clear p8); (try clear q8); (try clear E4); (try clear Dw); (try clear Dz); (try clear c25b0); (try clear D2); (try clear c27b0); (try clear Ec); (try clear Ed); (try clear Ee); (try clear Ef); (try clear D0); (try clear c33b0); (try clear c33b1); (try clear Hq); (try clear Hr); (try clear Eg); (try clear c37b0); (try clear c37b1); (try clear D8); (try clear c38b0); (try clear c38b1); (try clear Jd); (try clear Je); (try clear Dp); (try clear c45b0); (try clear c45b1); (try clear c45b2); (try clear En); (try clear Eo); (try clear D9); (try clear c49b0); (try clear c49b1); (try clear Ez); (try clear Hs); (try clear Du); (try clear c68b0); (try clear c68b1); (try clear c68b2); (try clear Aq); (try clear Ar); (try clear Au); (try clear Av); (try clear Aw); (try clear Ba); (try clear Bb); (try clear Bc); (try clear Bd); (try clear Bf); (try clear Bg); (try clear Cj); (try clear Ck); (try clear Cl); (try clear Cm); (try clear Cn); (try clear p2); (try clear p6); (try clear p8); (try clear B8); (try clear Cr); (try clear Ct); (try clear Df); (try clear q8); (try clear B9); (try clear Cs); (try clear Cu); (try clear Dg); obtain ⟨kq, Cp, rfl, HA, HJ62, Ay, HB⟩ := hcut; cases kq with
           | zero => exact absurd HA.out (by simp [laws_FnSkills.j6])
           | succ An =>
            have H := HA.out; clear HA
            simp only [laws_FnSkills.j6] at H
            by_cases Fi : Cp = true
            ·subst Fi
             have H1 : (none) = some r := by rw [if_pos rfl] at H; exact H
             clear H; have H := H1; clear H1; exact absurd H (by simp)
            ·replace Fi := Bool.eq_false_iff.mpr Fi
             subst Fi
             have H1 : (if Br = true then ((impl_WithSkills.f An B2 Bq).bind fun Cx => (if Cx.2 = true then ((laws_rHas.f An Cx.1 Bk).bind fun C1 => (if C1 = true then ((laws_rHas.f An Cx.1 Bj).bind fun Ca => (laws_FnSkills.j7 An l0 (!Ca))) else (laws_FnSkills.j7 An l0 true))) else (laws_FnSkills.j7 An l0 true))) else ((spec_DrawIsWeaver.f l0).bind fun Ao => ((impl_IsWeaver.f Ao.1 Ao.2.1 Ao.2.2.1 Ao.2.2.2.1 Ao.2.2.2.2).bind fun Db => ((spec_IsWeaver.f An Ao.1 Ao.2.1 Ao.2.2.1 Ao.2.2.2.1 Ao.2.2.2.2).bind fun C2 => (some (Db == C2)))))) = some r := by rw [if_neg (show ¬ (false = true) by decide)] at H; exact H
             clear H; have H := H1; clear H1
             by_cases Fj : Br = true
             ·subst Fj
              have H1 : ((impl_WithSkills.f An B2 Bq).bind fun Cx => (if Cx.2 = true then ((laws_rHas.f An Cx.1 Bk).bind fun C1 => (if C1 = true then ((laws_rHas.f An Cx.1 Bj).bind fun Ca => (laws_FnSkills.j7 An l0 (!Ca))) else (laws_FnSkills.j7 An l0 true))) else (laws_FnSkills.j7 An l0 true))) = some r := by rw [if_pos rfl] at H; exact H
              clear H; have H := H1; clear H1; replace H := Option.bind_eq_some_iff.mp H; obtain ⟨⟨C3, Es⟩, Fk, H⟩ := H; replace H : (if Es = true then ((laws_rHas.f An C3 Bk).bind fun C1 => (if C1 = true then ((laws_rHas.f An C3 Bj).bind fun Ca => (laws_FnSkills.j7 An l0 (!Ca))) else (laws_FnSkills.j7 An l0 true))) else (laws_FnSkills.j7 An l0 true)) = some r := H; have Jf := Aside0.mk Fk; clear Fk; have Et := Aside0.mk H; clear H; obtain ⟨Hd, He, Hf⟩ := Kd.R_slice Ay.out; subst Hf
              go_upto_region 39 with (first | ((with_reducible refine gate_callee (f := 35) rfl ?_); refine glE (some 196) Tryd.func35 #[.slice Hd B2.length He, .int .i64 Bq] ?_; (with_reducible refine (impl_WithSkills.calls An _ _ B2 Bq C3 Es _ ?side1 ?side2 Jf.out).mono ?_); (case side1 => exact (by repeat (first | exact (Kd.R_reads' Ay.out).2.2 | (with_reducible refine Kd.C_alloc ?_ _) | (with_reducible refine Kd.C_drewN ?_ _) | (with_reducible refine Kd.C_drew ?_)))); (case side2 => exact (Kd.R_reads' Ay.out).2.1); rintro e J6 ⟨Jg, rfl, B1, hb⟩; refine ⟨_, rfl, ?_⟩; replace Ay := roB Ay hb; have Ci := aM (Kd.R_lower B1 (below_size Z0)); replace HB := hbS Z0 hb; (try clear hb); (try clear B1)))
              (try simp only [Act.put, List.setIfInBounds_toArray, List.set_cons_zero, List.set_cons_succ])
              go_cut [212] (fun Hg wc => ∃ (kq : Nat) (Cq : Bool), Hg = .bool Cq ∧ Aside0 (laws_FnSkills.j7 kq l0 Cq = some r) ∧ Aside0 (kq ≤ An) ∧ Aside0 (Below w.heap.size w wc))
              case first => as_aux_lemma =>
               have H := Et.out; clear Et
               by_cases Fl : Es = true
               ·subst Fl
                have H1 : ((laws_rHas.f An C3 Bk).bind fun C1 => (if C1 = true then ((laws_rHas.f An C3 Bj).bind fun Ca => (laws_FnSkills.j7 An l0 (!Ca))) else (laws_FnSkills.j7 An l0 true))) = some r := by rw [if_pos rfl] at H; exact H
                clear H; have H := H1; clear H1; replace H := Option.bind_eq_some_iff.mp H; obtain ⟨C1, Fm, H⟩ := H; replace H : (if C1 = true then ((laws_rHas.f An C3 Bj).bind fun Ca => (laws_FnSkills.j7 An l0 (!Ca))) else (laws_FnSkills.j7 An l0 true)) = some r := H; have Ht := Aside0.mk Fm; clear Fm
                by_cases Fo : C1 = true
                ·subst Fo
                 have H1 : ((laws_rHas.f An C3 Bj).bind fun Ca => (laws_FnSkills.j7 An l0 (!Ca))) = some r := by rw [if_pos rfl] at H; exact H
                 clear H; have H := H1; clear H1; replace H := Option.bind_eq_some_iff.mp H; obtain ⟨Ca, Fp, H⟩ := H; replace H : (laws_FnSkills.j7 An l0 (!Ca)) = some r := H; have Jh := Aside0.mk Fp; clear Fp; have H' := Aside0.mk H; clear H; obtain ⟨Ji, Jj, Hh⟩ := Kd.R_slice Ci.out; subst Hh
                 go_wp2_with (first | (go_at_call 48; (with_reducible refine (laws_rHas.calls An _ _ C3 Bk true _ ?side1 ?side2 Ht.out).mono ?_); (case side1 => exact Z53); (case side2 => exact (Kd.R_reads' Ci.out).2.1); rintro e w' ⟨rfl, ⟨nd, rfl⟩⟩) | (go_at_call 48; (with_reducible refine (laws_rHas.calls An _ _ C3 Bj Ca _ ?side1 ?side2 Jh.out).mono ?_); (case side1 => exact Z53); (case side2 => exact (Kd.R_reads' Ci.out).2.1); rintro e w' ⟨rfl, ⟨nd, rfl⟩⟩))
                 go_meet
                 case rel => exact ⟨_, (!Ca), Z15, H', ⟨Z90⟩, ⟨Z0⟩⟩
                ·replace Fo := Bool.eq_false_iff.mpr Fo
                 subst Fo
                 have H1 : (laws_FnSkills.j7 An l0 true) = some r := by rw [if_neg (show ¬ (false = true) by decide)] at H; exact H
                 clear H; have H := H1; clear H1; have H' := Aside0.mk H; clear H; obtain ⟨Jk, Jl, Hi⟩ := Kd.R_slice Ci.out; subst Hi
                 go_wp2_with (first | (go_at_call 48; (with_reducible refine (laws_rHas.calls An _ _ C3 Bk false _ ?side1 ?side2 Ht.out).mono ?_); (case side1 => exact Z53); (case side2 => exact (Kd.R_reads' Ci.out).2.1); rintro e w' ⟨rfl, ⟨nd, rfl⟩⟩))
                 go_meet
                 case rel => exact ⟨_, (true), Z15, H', ⟨Z90⟩, ⟨Z0⟩⟩
               ·replace Fl := Bool.eq_false_iff.mpr Fl
                subst Fl
                have H1 : (laws_FnSkills.j7 An l0 true) = some r := by rw [if_neg (show ¬ (false = true) by decide)] at H; exact H
                clear H; have H := H1; clear H1; have H' := Aside0.mk H; clear H
                go_wp2
                go_meet
                case rel => exact ⟨_, (true), Z15, H', ⟨Z90⟩, ⟨Z0⟩⟩
              case rest => as_aux_lemma =>
               clear Et; (try clear c1); (try clear c2); (try clear p2); (try clear c3); (try clear c4); (try clear c5); (try clear c6); (try clear p6); (try clear c7); (try clear c8); (try clear p8); (try clear q8); (try clear E4); (try clear Dw); (try clear Dz); (try clear c25b0); (try clear D2); (try clear c27b0); (try clear Ec); (try clear Ed); (try clear Ee); (try clear Ef); (try clear D0); (try clear c33b0); (try clear c33b1); (try clear Hq); (try clear Hr); (try clear Eg); (try clear c37b0); (try clear c37b1); (try clear D8); (try clear c38b0); (try clear c38b1); (try clear Jd); (try clear Je); (try clear Dp); (try clear c45b0); (try clear c45b1); (try clear c45b2); (try clear En); (try clear Eo); (try clear D9); (try clear c49b0); (try clear c49b1); (try clear Ez); (try clear Hs); (try clear Du); (try clear c68b0); (try clear c68b1); (try clear c68b2); (try clear Fi); (try clear Fj); (try clear Fl); (try clear Fo); (try clear Aq); (try clear Ar); (try clear Au); (try clear Av); (try clear Aw); (try clear Ba); (try clear Bb); (try clear Bc); (try clear Bd); (try clear Bf); (try clear Bg); (try clear Cj); (try clear Ck); (try clear Cl); (try clear Cm); (try clear Cn); (try clear p2); (try clear p6); (try clear Hs); (try clear p8); (try clear B8); (try clear Cr); (try clear Ct); (try clear Df); (try clear q8); (try clear B9); (try clear Cs); (try clear Cu); (try clear Dg); obtain ⟨kq, Cq, rfl, HA, HJ74, HB⟩ := hcut; cases kq with
               | zero => exact absurd HA.out (by simp [laws_FnSkills.j7])
               | succ Ea =>
                have H := HA.out; clear HA
                simp only [laws_FnSkills.j7] at H
                by_cases F9 : Cq = true
                ·subst F9
                 have H1 : (none) = some r := by rw [if_pos rfl] at H; exact H
                 clear H; have H := H1; clear H1; exact absurd H (by simp)
                ·replace F9 := Bool.eq_false_iff.mpr F9
                 subst F9
                 have H1 : ((spec_DrawIsWeaver.f l0).bind fun B6 => ((impl_IsWeaver.f B6.1 B6.2.1 B6.2.2.1 B6.2.2.2.1 B6.2.2.2.2).bind fun Dh => ((spec_IsWeaver.f Ea B6.1 B6.2.1 B6.2.2.1 B6.2.2.2.1 B6.2.2.2.2).bind fun Dd => (some (Dh == Dd))))) = some r := by rw [if_neg (show ¬ (false = true) by decide)] at H; exact H
                 clear H; have H := H1; clear H1; replace H := Option.bind_eq_some_iff.mp H; obtain ⟨⟨Bz, B3, Cb, Cd, Ce⟩, Fq, H⟩ := H; replace H : ((impl_IsWeaver.f Bz B3 Cb Cd Ce).bind fun Dh => ((spec_IsWeaver.f Ea Bz B3 Cb Cd Ce).bind fun Dd => (some (Dh == Dd)))) = some r := H; have Jm := Aside0.mk Fq; clear Fq; replace H := Option.bind_eq_some_iff.mp H; obtain ⟨Dh, Fr, H⟩ := H; replace H : ((spec_IsWeaver.f Ea Bz B3 Cb Cd Ce).bind fun Dd => (some (Dh == Dd))) = some r := H; have Jn := Aside0.mk Fr; clear Fr; replace H := Option.bind_eq_some_iff.mp H; obtain ⟨Dd, Fs, H⟩ := H; replace H : (some (Dh == Dd)) = some r := H; have Jo := Aside0.mk Fs; clear Fs; obtain rfl := Option.some.inj H
                 try go_wp2_with (first | ((with_reducible refine gate_callee (f := 51) rfl ?_); refine glE (some 214) Tryd.func51 #[.slice A0 l0.length c0] ?_; (with_reducible refine (spec_DrawIsWeaver.calls _ _ l0 Bz B3 Cb Cd Ce _ ?side1 ?side2 Jm.out).mono ?_); (case side1 => exact Z62); (case side2 => exact Ew.out); rintro e J7 ⟨rfl, hb⟩; refine ⟨_, rfl, ?_⟩; replace HB := hbS Z0 hb; (try clear hb)) | ((with_reducible refine gate_dst (N := 28) rfl ?_); (try (refine gate_guard (by rfl) ?_; dsimp only)); refine bxE 28 #[.int .i64 0, .string (⟨#[]⟩ : ByteArray), .int .i64 0, .int .i64 0, .int .i64 0] 26 ?_; intro Ap hg Hj hbox hb; have Ak := aM (hbox); have Hu := gwS hg Z0; have Dq := gwS hg Z0; replace HB := hbS Z0 hb; clear hb hbox hg; obtain ⟨Ga, Gb, Gc, Gd, Ge⟩ := bz5 Ak; obtain ⟨Gf, Gg, Gh, Gi, Gj⟩ := fz5 Ak))
                 have n0_ : Aside0 ((((((Hj.setCell ⟨Ap, 0, none⟩ (.int .i64 Bz)).setCell ⟨Ap, 1, none⟩ (.string B3)).setCell ⟨Ap, 2, none⟩ (.int .i64 Cb)).setCell ⟨Ap, 3, none⟩ (.int .i64 Cd)).setCell ⟨Ap, 4, none⟩ (.int .i64 Ce)).heap[Ap]? = some (.cells #[.int .i64 Bz, .string B3, .int .i64 Cb, .int .i64 Cd, .int .i64 Ce] 26 (0, 0))) := ⟨by (with_reducible repeat (first | refine blk_drewN ?_ _ | refine blk_drew ?_ | refine blk_alloc ?_ _)); refine blk_put (cs := #[.int .i64 Bz, .string B3, .int .i64 Cb, .int .i64 Cd, .int .i64 0]) ?_ 4 _ rfl; (with_reducible repeat (first | refine blk_drewN ?_ _ | refine blk_drew ?_ | refine blk_alloc ?_ _)); refine blk_put (cs := #[.int .i64 Bz, .string B3, .int .i64 Cb, .int .i64 0, .int .i64 0]) ?_ 3 _ rfl; (with_reducible repeat (first | refine blk_drewN ?_ _ | refine blk_drew ?_ | refine blk_alloc ?_ _)); refine blk_put (cs := #[.int .i64 Bz, .string B3, .int .i64 0, .int .i64 0, .int .i64 0]) ?_ 2 _ rfl; (with_reducible repeat (first | refine blk_drewN ?_ _ | refine blk_drew ?_ | refine blk_alloc ?_ _)); refine blk_put (cs := #[.int .i64 Bz, .string (⟨#[]⟩ : ByteArray), .int .i64 0, .int .i64 0, .int .i64 0]) ?_ 1 _ rfl; (with_reducible repeat (first | refine blk_drewN ?_ _ | refine blk_drew ?_ | refine blk_alloc ?_ _)); refine blk_put (cs := #[.int .i64 0, .string (⟨#[]⟩ : ByteArray), .int .i64 0, .int .i64 0, .int .i64 0]) ?_ 0 _ rfl; (with_reducible repeat (first | refine blk_drewN ?_ _ | refine blk_drew ?_ | refine blk_alloc ?_ _)); exact Ak.out⟩; have n1_ : Aside0 (Below w.heap.size w (((((Hj.setCell ⟨Ap, 0, none⟩ (.int .i64 Bz)).setCell ⟨Ap, 1, none⟩ (.string B3)).setCell ⟨Ap, 2, none⟩ (.int .i64 Cb)).setCell ⟨Ap, 3, none⟩ (.int .i64 Cd)).setCell ⟨Ap, 4, none⟩ (.int .i64 Ce))) := ⟨Z57⟩; (try clear Ak); (try clear HB)
                 generalize (((((Hj.setCell ⟨Ap, 0, none⟩ (.int .i64 Bz)).setCell ⟨Ap, 1, none⟩ (.string B3)).setCell ⟨Ap, 2, none⟩ (.int .i64 Cb)).setCell ⟨Ap, 3, none⟩ (.int .i64 Cd)).setCell ⟨Ap, 4, none⟩ (.int .i64 Ce)) = Jp at n0_ n1_ ⊢
                 have Ak := n0_; have HB := n1_; clear n0_ n1_; replace Ak := aM (blk_drew Ak.out); replace HB := aM (below_drew1 HB.out); refine start_ (n := 6) (S := fun w' => w'.cell? ⟨Ap, 0, none⟩ = some (.int .i64 Bz) ∧ w'.cell? ⟨Ap, 1, none⟩ = some (.string B3) ∧ w'.cell? ⟨Ap, 2, none⟩ = some (.int .i64 Cb) ∧ w'.cell? ⟨Ap, 3, none⟩ = some (.int .i64 Cd) ∧ w'.cell? ⟨Ap, 4, none⟩ = some (.int .i64 Ce)) (ds := []) #[false, false, false, false, false, false] Z32 rfl rfl ⟨(blk_cell Ak.out 0).trans rfl, (blk_cell Ak.out 1).trans rfl, (blk_cell Ak.out 2).trans rfl, (blk_cell Ak.out 3).trans rfl, (blk_cell Ak.out 4).trans rfl⟩ (fun hHeld => ?_)
                 generalize Jp.drew = J8 at Ak HB hHeld ⊢
                 refine taK 0 215 #[true, false, false, false, false, false] hHeld rfl rfl ?_; refine taK 2 217 #[true, false, true, false, false, false] hHeld rfl rfl ?_; refine one_ (i := 1) (N := some 216) #[true, true, true, false, false, false] rfl rfl Z32 (by decide) (fun K hK => ?_); refine goes_ Tryd.func18 Z32 rfl #[.agg #[.int .i64 Bz, .string B3, .int .i64 Cb, .int .i64 Cd, .int .i64 Ce]] (by rfl) rfl rfl Z29 ?_; (with_reducible refine (impl_IsWeaver.calls Bz B3 Cb Cd Ce Dh _ Jn.out).mono ?_); rintro e J9 ⟨rfl, hb⟩; refine ⟨_, rfl, ?_⟩; replace Ak := bkB Ak hb; replace HB := hbS Z57 hb; (try clear hb); (try clear hb2); (try clear hk); (try clear hi); refine hK.out _ _ Z88 (fun hHeld => ?_); clear hK K; refine noR 216 ?_; refine one_ (i := 3) (N := some 218) #[true, true, true, true, false, false] rfl rfl Z32 (by decide) (fun K hK => ?_); refine goes_ Tryd.func16 Z32 rfl #[.agg #[.int .i64 Bz, .string B3, .int .i64 Cb, .int .i64 Cd, .int .i64 Ce]] (by rfl) rfl rfl Z29 ?_; (with_reducible refine (spec_IsWeaver.calls Ea Bz B3 Cb Cd Ce Dd _ Jo.out).mono ?_); rintro e Ka ⟨rfl, hb⟩; refine ⟨_, rfl, ?_⟩; replace Ak := bkB Ak hb; replace HB := hbS Z57 hb; (try clear hb); (try clear hb2); (try clear hk); (try clear hi); refine hK.out _ _ Z88 (fun hHeld => ?_); clear hK K; refine noR 218 ?_; refine puK 4 219 #[true, true, true, true, true, false] rfl rfl ?_; refine puK 5 2 #[true, true, true, true, true, true] rfl rfl ?_; refine done_ Z32 ?_
                 try go_wp2
                 go_ret
                 exact ⟨Z14, Z57⟩
             ·replace Fj := Bool.eq_false_iff.mpr Fj
              subst Fj
              have H1 : ((spec_DrawIsWeaver.f l0).bind fun Ao => ((impl_IsWeaver.f Ao.1 Ao.2.1 Ao.2.2.1 Ao.2.2.2.1 Ao.2.2.2.2).bind fun Db => ((spec_IsWeaver.f An Ao.1 Ao.2.1 Ao.2.2.1 Ao.2.2.2.1 Ao.2.2.2.2).bind fun C2 => (some (Db == C2))))) = some r := by rw [if_neg (show ¬ (false = true) by decide)] at H; exact H
              clear H; have H := H1; clear H1; replace H := Option.bind_eq_some_iff.mp H; obtain ⟨⟨Bs, Bu, B0, B4, Cc⟩, Ft, H⟩ := H; replace H : ((impl_IsWeaver.f Bs Bu B0 B4 Cc).bind fun Db => ((spec_IsWeaver.f An Bs Bu B0 B4 Cc).bind fun C2 => (some (Db == C2)))) = some r := H; have Jq := Aside0.mk Ft; clear Ft; replace H := Option.bind_eq_some_iff.mp H; obtain ⟨Db, Fu, H⟩ := H; replace H : ((spec_IsWeaver.f An Bs Bu B0 B4 Cc).bind fun C2 => (some (Db == C2))) = some r := H; have Jr := Aside0.mk Fu; clear Fu; replace H := Option.bind_eq_some_iff.mp H; obtain ⟨C2, Fv, H⟩ := H; replace H : (some (Db == C2)) = some r := H; have Js := Aside0.mk Fv; clear Fv; obtain rfl := Option.some.inj H
              try go_wp2_with (first | ((with_reducible refine gate_callee (f := 51) rfl ?_); refine glE (some 214) Tryd.func51 #[.slice A0 l0.length c0] ?_; (with_reducible refine (spec_DrawIsWeaver.calls _ _ l0 Bs Bu B0 B4 Cc _ ?side1 ?side2 Jq.out).mono ?_); (case side1 => exact Z62); (case side2 => exact Ew.out); rintro e Kb ⟨rfl, hb⟩; refine ⟨_, rfl, ?_⟩; replace Ay := roB Ay hb; replace HB := hbS Z0 hb; (try clear hb)) | ((with_reducible refine gate_dst (N := 28) rfl ?_); (try (refine gate_guard (by rfl) ?_; dsimp only)); refine bxE 28 #[.int .i64 0, .string (⟨#[]⟩ : ByteArray), .int .i64 0, .int .i64 0, .int .i64 0] 26 ?_; intro Ae hg Gk hbox hb; replace Ay := aM (Kd.R_below (Kd.R_elderB Z97 Ae (Nat.le_of_eq hg.symm)) hb); have Al := aM (hbox); have Hv := gwS hg Z0; have Dr := gwS hg Z0; replace HB := hbS Z0 hb; clear hb hbox hg; obtain ⟨Fw, Fx, Fy, Fz, F0⟩ := bz5 Al; obtain ⟨F1, F2, F3, F4, F5⟩ := fz5 Al))
              have n0_ : Aside0 (Kd.R k26 26 (((((Gk.setCell ⟨Ae, 0, none⟩ (.int .i64 Bs)).setCell ⟨Ae, 1, none⟩ (.string Bu)).setCell ⟨Ae, 2, none⟩ (.int .i64 B0)).setCell ⟨Ae, 3, none⟩ (.int .i64 B4)).setCell ⟨Ae, 4, none⟩ (.int .i64 Cc)) w.heap.size (fun k_ => k_ ≠ Ae) Fg B2) := ⟨by (with_reducible repeat (first | apply Kd.R_alloc | apply Kd.R_drewN | apply Kd.R_drew)); exact Kd.R_mono (Kd.R_far (p := ⟨Ae, 4, none⟩) (Kd.R_far (p := ⟨Ae, 3, none⟩) (Kd.R_far (p := ⟨Ae, 2, none⟩) (Kd.R_far (p := ⟨Ae, 1, none⟩) (Kd.R_far (p := ⟨Ae, 0, none⟩) (Kd.R_mono Ay.out (fun k_ hk => (⟨hk, hk.2⟩ : _ ∧ k_ ≠ Ae))) (fun _ hk => hk.2) (.int .i64 Bs)) (fun _ hk => hk.2) (.string Bu)) (fun _ hk => hk.2) (.int .i64 B0)) (fun _ hk => hk.2) (.int .i64 B4)) (fun _ hk => hk.2) (.int .i64 Cc)) (fun _ hk => hk.1.2)⟩; have n1_ : Aside0 ((((((Gk.setCell ⟨Ae, 0, none⟩ (.int .i64 Bs)).setCell ⟨Ae, 1, none⟩ (.string Bu)).setCell ⟨Ae, 2, none⟩ (.int .i64 B0)).setCell ⟨Ae, 3, none⟩ (.int .i64 B4)).setCell ⟨Ae, 4, none⟩ (.int .i64 Cc)).heap[Ae]? = some (.cells #[.int .i64 Bs, .string Bu, .int .i64 B0, .int .i64 B4, .int .i64 Cc] 26 (0, 0))) := ⟨by (with_reducible repeat (first | refine blk_drewN ?_ _ | refine blk_drew ?_ | refine blk_alloc ?_ _)); refine blk_put (cs := #[.int .i64 Bs, .string Bu, .int .i64 B0, .int .i64 B4, .int .i64 0]) ?_ 4 _ rfl; (with_reducible repeat (first | refine blk_drewN ?_ _ | refine blk_drew ?_ | refine blk_alloc ?_ _)); refine blk_put (cs := #[.int .i64 Bs, .string Bu, .int .i64 B0, .int .i64 0, .int .i64 0]) ?_ 3 _ rfl; (with_reducible repeat (first | refine blk_drewN ?_ _ | refine blk_drew ?_ | refine blk_alloc ?_ _)); refine blk_put (cs := #[.int .i64 Bs, .string Bu, .int .i64 0, .int .i64 0, .int .i64 0]) ?_ 2 _ rfl; (with_reducible repeat (first | refine blk_drewN ?_ _ | refine blk_drew ?_ | refine blk_alloc ?_ _)); refine blk_put (cs := #[.int .i64 Bs, .string (⟨#[]⟩ : ByteArray), .int .i64 0, .int .i64 0, .int .i64 0]) ?_ 1 _ rfl; (with_reducible repeat (first | refine blk_drewN ?_ _ | refine blk_drew ?_ | refine blk_alloc ?_ _)); refine blk_put (cs := #[.int .i64 0, .string (⟨#[]⟩ : ByteArray), .int .i64 0, .int .i64 0, .int .i64 0]) ?_ 0 _ rfl; (with_reducible repeat (first | refine blk_drewN ?_ _ | refine blk_drew ?_ | refine blk_alloc ?_ _)); exact Al.out⟩; have n2_ : Aside0 (Below w.heap.size w (((((Gk.setCell ⟨Ae, 0, none⟩ (.int .i64 Bs)).setCell ⟨Ae, 1, none⟩ (.string Bu)).setCell ⟨Ae, 2, none⟩ (.int .i64 B0)).setCell ⟨Ae, 3, none⟩ (.int .i64 B4)).setCell ⟨Ae, 4, none⟩ (.int .i64 Cc))) := ⟨Z58⟩; (try clear Ay); (try clear Al); (try clear HB)
              generalize (((((Gk.setCell ⟨Ae, 0, none⟩ (.int .i64 Bs)).setCell ⟨Ae, 1, none⟩ (.string Bu)).setCell ⟨Ae, 2, none⟩ (.int .i64 B0)).setCell ⟨Ae, 3, none⟩ (.int .i64 B4)).setCell ⟨Ae, 4, none⟩ (.int .i64 Cc)) = Hk at n0_ n1_ n2_ ⊢
              have Ay := n0_; have Al := n1_; have HB := n2_; clear n0_ n1_ n2_; replace Ay := aM (Kd.R_drew Ay.out); replace Al := aM (blk_drew Al.out); replace HB := aM (below_drew1 HB.out); refine start_ (n := 6) (S := fun w' => w'.cell? ⟨Ae, 0, none⟩ = some (.int .i64 Bs) ∧ w'.cell? ⟨Ae, 1, none⟩ = some (.string Bu) ∧ w'.cell? ⟨Ae, 2, none⟩ = some (.int .i64 B0) ∧ w'.cell? ⟨Ae, 3, none⟩ = some (.int .i64 B4) ∧ w'.cell? ⟨Ae, 4, none⟩ = some (.int .i64 Cc)) (ds := []) #[false, false, false, false, false, false] Z32 rfl rfl ⟨(blk_cell Al.out 0).trans rfl, (blk_cell Al.out 1).trans rfl, (blk_cell Al.out 2).trans rfl, (blk_cell Al.out 3).trans rfl, (blk_cell Al.out 4).trans rfl⟩ (fun hHeld => ?_)
              generalize Hk.drew = Jt at Ay Al HB hHeld ⊢
              refine taK 0 215 #[true, false, false, false, false, false] hHeld rfl rfl ?_; refine taK 2 217 #[true, false, true, false, false, false] hHeld rfl rfl ?_; refine one_ (i := 1) (N := some 216) #[true, true, true, false, false, false] rfl rfl Z32 (by decide) (fun K hK => ?_); refine goes_ Tryd.func18 Z32 rfl #[.agg #[.int .i64 Bs, .string Bu, .int .i64 B0, .int .i64 B4, .int .i64 Cc]] (by rfl) rfl rfl Z29 ?_; (with_reducible refine (impl_IsWeaver.calls Bs Bu B0 B4 Cc Db _ Jr.out).mono ?_); rintro e Ju ⟨rfl, hb⟩; refine ⟨_, rfl, ?_⟩; replace Ay := roB Ay hb; replace Al := bkB Al hb; replace HB := hbS Z58 hb; (try clear hb); (try clear hb2); (try clear hk); (try clear hi); refine hK.out _ _ Z89 (fun hHeld => ?_); clear hK K; refine noR 216 ?_; refine one_ (i := 3) (N := some 218) #[true, true, true, true, false, false] rfl rfl Z32 (by decide) (fun K hK => ?_); refine goes_ Tryd.func16 Z32 rfl #[.agg #[.int .i64 Bs, .string Bu, .int .i64 B0, .int .i64 B4, .int .i64 Cc]] (by rfl) rfl rfl Z29 ?_; (with_reducible refine (spec_IsWeaver.calls An Bs Bu B0 B4 Cc C2 _ Js.out).mono ?_); rintro e Jv ⟨rfl, hb⟩; refine ⟨_, rfl, ?_⟩; replace Ay := roB Ay hb; replace Al := bkB Al hb; replace HB := hbS Z58 hb; (try clear hb); (try clear hb2); (try clear hk); (try clear hi); refine hK.out _ _ Z89 (fun hHeld => ?_); clear hK K; refine noR 218 ?_; refine puK 4 219 #[true, true, true, true, true, false] rfl rfl ?_; refine puK 5 2 #[true, true, true, true, true, true] rfl rfl ?_; refine done_ Z32 ?_
              try go_wp2
              go_ret
              exact ⟨Z14, Z58⟩
end Go.Proofs.YthalifhbjioaeaaDoor.H
