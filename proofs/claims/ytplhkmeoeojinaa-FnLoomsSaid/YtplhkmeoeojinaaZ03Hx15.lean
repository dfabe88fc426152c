-- by wip/pack.py of this repo
import Derived.Test.YtplhkmeoeojinaaZ03Hx0
import Derived.Test.YtplhkmeoeojinaaZ03Hx10
import Derived.Test.YtplhkmeoeojinaaZ03Hx11
import Derived.Test.YtplhkmeoeojinaaZ03Hx12
import Derived.Test.YtplhkmeoeojinaaZ03Hx13
import Derived.Test.YtplhkmeoeojinaaZ03Hx14
import Derived.Test.YtplhkmeoeojinaaZ03WLast
import Derived.Test.YtplhkmeoeojinaaZ03WMore
import Derived.Test.YtplhkmeoeojinaaZ03WWords
import Derived.Test.YtplhkmeoeojinaaZ03Short
namespace Go.Proofs.Ytplhkmeoeojinaa.H
open Go.RowKit Go.Proofs.YtplhkmeoeojinaaW.PrintWords Go.Proofs.YtplhkmeoeojinaaW.PrintLast Go.Proofs.YtplhkmeoeojinaaW.PrintMore
attribute [local go_sem] max2_int min2_int max_two min_two max_three min_three max_four min_four
set_option maxHeartbeats 80000000
set_option maxRecDepth 100000
set_option linter.unusedVariables false
set_option linter.unusedSimpArgs false
mutual
def laws_FnLooms.j0 : Nat → List Int → List (S56) → Int → Int → List (S56) → Int → Bool → Bool → Option (Bool)
 | 0, _, _, _, _, _, _, _, _ => none
 | k + 1, x0, x3, x4, x5, x6, x7, x8, x74 => if x74 = true then (none) else (if x8 = true then ((impl_DaysLeft.f x3 x4).bind fun bt705 => (if bt705.2 = true then (if x7 > bt705.1 then (none) else (if x7 > x5 then (none) else (if x7 < x5 then (if x7 = bt705.1 then ((impl_AreLooms.f x6).bind fun t707 => (if t707 = true then (laws_FnLooms.j1 k x0) else (none))) else (none)) else ((impl_AreLooms.f x6).bind fun t708 => (if t708 = true then (laws_FnLooms.j1 k x0) else (none)))))) else (none))) else (laws_FnLooms.j1 k x0))
def laws_FnLooms.j1 : Nat → List Int → Option (Bool)
 | 0, _ => none
 | k + 1, x0 => (spec_DrawCutOff.f k x0).bind fun bt709 => ((impl_CutOff.f bt709.1 bt709.2).bind fun bt713 => ((spec_CutOff.f k bt709.1 bt709.2).bind fun bt718 => (if (bt713.2.2 != bt718.2.2) = true then (laws_FnLooms.j2 k x0 bt709.1 bt709.2 bt713.1 bt713.2.1 bt713.2.2 true) else (if bt713.2.1 = bt718.2.1 then ((laws_rLooms.f k bt713.1 bt718.1).bind fun t723 => (laws_FnLooms.j2 k x0 bt709.1 bt709.2 bt713.1 bt713.2.1 bt713.2.2 (!t723))) else (laws_FnLooms.j2 k x0 bt709.1 bt709.2 bt713.1 bt713.2.1 bt713.2.2 true)))))
def laws_FnLooms.j2 : Nat → List Int → List (S56) → Int → List (S56) → Int → Bool → Bool → Option (Bool)
 | 0, _, _, _, _, _, _, _ => none
 | k + 1, x0, x14, x15, x16, x17, x18, x141 => if x141 = true then (none) else (laws_FnLooms.l0 k x0 x14 x15 x16 x17 x18 0)
def laws_FnLooms.l0 : Nat → List Int → List (S56) → Int → List (S56) → Int → Bool → Int → Option (Bool)
 | 0, _, _, _, _, _, _, _ => none
 | k + 1, x0, x14, x15, x16, x17, x18, x22 => if x22 < (x14.length : Int) then (laws_FnLooms.j4 k x0 x14 x15 x16 x17 x18 x22 x18) else (laws_FnLooms.j4 k x0 x14 x15 x16 x17 x18 x22 false)
def laws_FnLooms.j4 : Nat → List Int → List (S56) → Int → List (S56) → Int → Bool → Int → Bool → Option (Bool)
 | 0, _, _, _, _, _, _, _, _ => none
 | k + 1, x0, x14, x15, x16, x17, x18, x22, x148 => if x148 = true then (if 0 ≤ x22 then (if x22 < (x14.length : Int) then (if ((rd_T56 x14 x22).f0) = x15 then (laws_FnLooms.j5 k x0 x14 x15 x16 x17 x18 x22 (((rd_T56 x14 x22).f4) == 1)) else (laws_FnLooms.j5 k x0 x14 x15 x16 x17 x18 x22 false)) else (none)) else (none)) else ((spec_DrawBeginCarpet.f k x0).bind fun bt732 => ((impl_BeginCarpet.f bt732.1 bt732.2).bind fun bt736 => ((spec_BeginCarpet.f k bt732.1 bt732.2).bind fun bt740 => (if (bt736.2 != bt740.2) = true then (laws_FnLooms.j6 k x0 true) else ((laws_rLooms.f k bt736.1 bt740.1).bind fun t744 => (laws_FnLooms.j6 k x0 (!t744)))))))
def laws_FnLooms.j5 : Nat → List Int → List (S56) → Int → List (S56) → Int → Bool → Int → Bool → Option (Bool)
 | 0, _, _, _, _, _, _, _, _ => none
 | k + 1, x0, x14, x15, x16, x17, x18, x22, x165 => if x165 = true then (if 0 ≤ x22 then (if x22 < (x14.length : Int) then ((impl_WarpLoom.f x16 x15 x17 ((rd_T56 x14 x22).f3)).bind fun bt727 => (if bt727.2 = true then ((laws_rLooms.f k bt727.1 x14).bind fun t731 => (if t731 = true then (laws_FnLooms.l0 k x0 x14 x15 x16 x17 x18 (wrap64 (x22 + 1))) else (none))) else (none))) else (none)) else (none)) else (laws_FnLooms.l0 k x0 x14 x15 x16 x17 x18 (wrap64 (x22 + 1)))
def laws_FnLooms.j6 : Nat → List Int → Bool → Option (Bool)
 | 0, _, _ => none
 | k + 1, x0, x211 => if x211 = true then (none) else ((spec_DrawDaysLeft.f k x0).bind fun bt745 => ((impl_DaysLeft.f bt745.1 bt745.2).bind fun bt749 => ((spec_DaysLeft.f k bt745.1 bt745.2).bind fun bt751 => (if bt749.1 = bt751.1 then (if (bt749.2 == bt751.2) = true then (some (decide (bt749.1 ≥ 0))) else (none)) else (none)))))
end
def laws_FnLooms.f (k : Nat) (l0 : List Int) : Option (Bool) := (laws_rBig.f l0).bind fun t688 => (if t688 = true then (some true) else ((spec_DrawWeaveDays.f k l0).bind fun bt689 => ((impl_WeaveDays.f k bt689.1 bt689.2.1 bt689.2.2).bind fun bt694 => ((spec_WeaveDays.f k bt689.1 bt689.2.1 bt689.2.2).bind fun bt699 => (if (bt694.2.2 != bt699.2.2) = true then (laws_FnLooms.j0 k l0 bt689.1 bt689.2.1 bt689.2.2 bt694.1 bt694.2.1 bt694.2.2 true) else (if bt694.2.1 = bt699.2.1 then ((laws_rLooms.f k bt694.1 bt699.1).bind fun t704 => (laws_FnLooms.j0 k l0 bt689.1 bt689.2.1 bt689.2.2 bt694.1 bt694.2.1 bt694.2.2 (!t704))) else (laws_FnLooms.j0 k l0 bt689.1 bt689.2.1 bt689.2.2 bt694.1 bt694.2.1 bt694.2.2 true)))))))
theorem laws_FnLooms.calls (k : Nat) (A0 : Option Addr) (c0 : Nat) (l0 : List Int) (r : Bool) (w : World) (F4 : Kd.C (Kd.int .u8) w A0 l0.length l0) (F5 : l0.length ≤ c0) (h : laws_FnLooms.f k l0 = some r) :
  Calls Try.prog 6 #[.slice A0 l0.length c0] w fun e w' => e = .returned (.bool r) ∧ Below w.heap.size w w' := by
 have D7 := Aside0.mk F4; have D8 := Aside0.mk F5; clear F4 F5; have HB := aM (Below.refl w.heap.size w); have H : ((laws_rBig.f l0).bind fun Dj => (if Dj = true then (some true) else ((spec_DrawWeaveDays.f k l0).bind fun Ac => ((impl_WeaveDays.f k Ac.1 Ac.2.1 Ac.2.2).bind fun Ab => ((spec_WeaveDays.f k Ac.1 Ac.2.1 Ac.2.2).bind fun Am => (if (Ab.2.2 != Am.2.2) = true then (laws_FnLooms.j0 k l0 Ac.1 Ac.2.1 Ac.2.2 Ab.1 Ab.2.1 Ab.2.2 true) else (if Ab.2.1 = Am.2.1 then ((laws_rLooms.f k Ab.1 Am.1).bind fun Ba => (laws_FnLooms.j0 k l0 Ac.1 Ac.2.1 Ac.2.2 Ab.1 Ab.2.1 Ab.2.2 (!Ba))) else (laws_FnLooms.j0 k l0 Ac.1 Ac.2.1 Ac.2.2 Ab.1 Ab.2.1 Ab.2.2 true)))))))) = some r := h; clear h; replace H := Option.bind_eq_some_iff.mp H; obtain ⟨Dj, Ef, H⟩ := H; replace H : (if Dj = true then (some true) else ((spec_DrawWeaveDays.f k l0).bind fun Ac => ((impl_WeaveDays.f k Ac.1 Ac.2.1 Ac.2.2).bind fun Ab => ((spec_WeaveDays.f k Ac.1 Ac.2.1 Ac.2.2).bind fun Am => (if (Ab.2.2 != Am.2.2) = true then (laws_FnLooms.j0 k l0 Ac.1 Ac.2.1 Ac.2.2 Ab.1 Ab.2.1 Ab.2.2 true) else (if Ab.2.1 = Am.2.1 then ((laws_rLooms.f k Ab.1 Am.1).bind fun Ba => (laws_FnLooms.j0 k l0 Ac.1 Ac.2.1 Ac.2.2 Ab.1 Ab.2.1 Ab.2.2 (!Ba))) else (laws_FnLooms.j0 k l0 Ac.1 Ac.2.1 Ac.2.2 Ab.1 Ab.2.1 Ab.2.2 true))))))) = some r := H; have A2 := Aside0.mk Ef; clear Ef
 by_cases c3 : Dj = true
 ·subst c3
  have H1 : (some true) = some r := by rw [if_pos rfl] at H; exact H
  clear H; have H := H1; clear H1; obtain rfl := Option.some.inj H
  go_enter Try.func6, Try.ntmps6
  go_wp2_with (first | ((with_reducible refine gate_callee (f := 24) rfl ?_); refine glE (some 38) Try.func24 #[.slice A0 l0.length c0] ?_; (with_reducible refine (laws_rBig.calls _ _ l0 true _ ?side1 ?side2 A2.out).mono ?_); (case side1 => exact Z59); (case side2 => exact D8.out); rintro e w' ⟨rfl, ⟨nd, rfl⟩⟩; refine ⟨_, rfl, ?_⟩))
  go_ret
  exact ⟨Z7, Z0⟩
 ·replace c3 := Bool.eq_false_iff.mpr c3
  subst c3
  have H1 : ((spec_DrawWeaveDays.f k l0).bind fun Ac => ((impl_WeaveDays.f k Ac.1 Ac.2.1 Ac.2.2).bind fun Ab => ((spec_WeaveDays.f k Ac.1 Ac.2.1 Ac.2.2).bind fun Am => (if (Ab.2.2 != Am.2.2) = true then (laws_FnLooms.j0 k l0 Ac.1 Ac.2.1 Ac.2.2 Ab.1 Ab.2.1 Ab.2.2 true) else (if Ab.2.1 = Am.2.1 then ((laws_rLooms.f k Ab.1 Am.1).bind fun Ba => (laws_FnLooms.j0 k l0 Ac.1 Ac.2.1 Ac.2.2 Ab.1 Ab.2.1 Ab.2.2 (!Ba))) else (laws_FnLooms.j0 k l0 Ac.1 Ac.2.1 Ac.2.2 Ab.1 Ab.2.1 Ab.2.2 true)))))) = some r := by rw [if_neg (show ¬ (false = true) by decide)] at H; exact H
  clear H; have H := H1; clear H1; replace H := Option.bind_eq_some_iff.mp H; obtain ⟨⟨An, Ao, Ai⟩, F6, H⟩ := H; replace H : ((impl_WeaveDays.f k An Ao Ai).bind fun Ab => ((spec_WeaveDays.f k An Ao Ai).bind fun Am => (if (Ab.2.2 != Am.2.2) = true then (laws_FnLooms.j0 k l0 An Ao Ai Ab.1 Ab.2.1 Ab.2.2 true) else (if Ab.2.1 = Am.2.1 then ((laws_rLooms.f k Ab.1 Am.1).bind fun Ba => (laws_FnLooms.j0 k l0 An Ao Ai Ab.1 Ab.2.1 Ab.2.2 (!Ba))) else (laws_FnLooms.j0 k l0 An Ao Ai Ab.1 Ab.2.1 Ab.2.2 true))))) = some r := H; have A4 := Aside0.mk F6; clear F6; replace H := Option.bind_eq_some_iff.mp H; obtain ⟨⟨Ar, Af, Aw⟩, F7, H⟩ := H; replace H : ((spec_WeaveDays.f k An Ao Ai).bind fun Am => (if (Aw != Am.2.2) = true then (laws_FnLooms.j0 k l0 An Ao Ai Ar Af Aw true) else (if Af = Am.2.1 then ((laws_rLooms.f k Ar Am.1).bind fun Ba => (laws_FnLooms.j0 k l0 An Ao Ai Ar Af Aw (!Ba))) else (laws_FnLooms.j0 k l0 An Ao Ai Ar Af Aw true)))) = some r := H; have A5 := Aside0.mk F7; clear F7; replace H := Option.bind_eq_some_iff.mp H; obtain ⟨⟨Dy, Cm, Bu⟩, Ff, H⟩ := H; replace H : (if (Aw != Bu) = true then (laws_FnLooms.j0 k l0 An Ao Ai Ar Af Aw true) else (if Af = Cm then ((laws_rLooms.f k Ar Dy).bind fun Ba => (laws_FnLooms.j0 k l0 An Ao Ai Ar Af Aw (!Ba))) else (laws_FnLooms.j0 k l0 An Ao Ai Ar Af Aw true))) = some r := H; have A6 := Aside0.mk Ff; clear Ff; have Fj := Aside0.mk H; clear H
  go_enter Try.func6, Try.ntmps6
  go_upto_region 6 with (first | ((with_reducible refine gate_callee (f := 24) rfl ?_); refine glE (some 38) Try.func24 #[.slice A0 l0.length c0] ?_; (with_reducible refine (laws_rBig.calls _ _ l0 false _ ?side1 ?side2 A2.out).mono ?_); (case side1 => exact Z59); (case side2 => exact D8.out); rintro e w' ⟨rfl, ⟨nd, rfl⟩⟩; refine ⟨_, rfl, ?_⟩) | ((with_reducible refine gate_callee (f := 25) rfl ?_); refine glE (some 41) Try.func25 #[.slice A0 l0.length c0] ?_; (with_reducible refine (spec_DrawWeaveDays.calls k _ _ l0 An Ao Ai _ ?side1 ?side2 A4.out).mono ?_); (case side1 => exact Z59); (case side2 => exact D8.out); rintro e w8 ⟨F8, rfl, Ap, hb⟩; refine ⟨_, rfl, ?_⟩; have Au := aM (Kd.R_lower Ap (below_size Z0)); replace HB := hbS Z0 hb; (try clear hb); (try clear Ap); obtain ⟨D9, Ea, F9⟩ := Kd.R_slice Au.out; subst F9) | ((with_reducible refine gate_callee (f := 26) rfl ?_); refine glE (some 49) Try.func26 #[.slice D9 An.length Ea, .int .i64 Ao, .int .i64 Ai] ?_; (with_reducible refine (impl_WeaveDays.calls k _ _ An Ao Ai Ar Af Aw _ ?side1 ?side2 A5.out).mono ?_); (case side1 => exact Z72); (case side2 => exact (Kd.R_reads' Au.out).2.1); rintro e Hk ⟨Eg, rfl, Ap, hb⟩; refine ⟨_, rfl, ?_⟩; have Bb := aM (Kd.R_lower (Kd.R_new' Ap (Kd.R_lt Z63)) (below_size Z0)); replace Au := aM (Kd.R_elder' Z63 (Kd.R_base Ap) hb); replace HB := hbS Z0 hb; (try clear hb); (try clear Ap)) | ((with_reducible refine gate_callee (f := 27) rfl ?_); refine glE (some 57) Try.func27 #[.slice D9 An.length Ea, .int .i64 Ao, .int .i64 Ai] ?_; (with_reducible refine (spec_WeaveDays.calls k _ _ An Ao Ai Dy Cm Bu _ ?side1 ?side2 A6.out).mono ?_); (case side1 => exact Z72); (case side2 => exact (Kd.R_reads' Au.out).2.1); rintro e Hl ⟨Ga, rfl, Ap, hb⟩; refine ⟨_, rfl, ?_⟩; have C4 := aM (Kd.R_lower (Kd.R_new' (Kd.R_new' Ap (Kd.R_lt Z63)) (Kd.R_lt Z81)) (below_size Z0)); replace Au := aM (Kd.R_elder' Z63 (Kd.R_base Ap) hb); replace Bb := aM (Kd.R_elder' Z81 (Kd.R_base Ap) hb); replace HB := hbS Z0 hb; (try clear hb); (try clear Ap)))
  (try simp only [Act.put, List.setIfInBounds_toArray, List.set_cons_zero, List.set_cons_succ])
  go_cut [74] (fun Gb wc => ∃ (kq : Nat) (Cq : Bool), Gb = .bool Cq ∧ Aside0 (laws_FnLooms.j0 kq l0 An Ao Ai Ar Af Aw Cq = some r) ∧ Aside0 (kq ≤ k) ∧ Aside0 (Kd.R k56 56 wc w.heap.size (fun k_ => nV k_ Eg) (.slice D9 An.length Ea) An) ∧ Aside0 (Kd.R k56 56 wc w.heap.size (fun k_ => nS k_ D9 An.length Ea) Eg Ar) ∧ Aside0 (Below w.heap.size w wc))
  case first => as_aux_lemma =>
   have H := Fj.out; clear Fj
   by_cases Cc : (Aw != Bu) = true
   ·rw [if_pos Cc] at H
    have c12b0 : (Aw != Bu) = true := Cc
    (try (have c12b1 : decide (Aw = Bu) = false := Z106))
    (try (have c12b2 : (Aw == Bu) = false := Z106))
    (try (have c12b3 : ¬ (Aw = Bu) := Z106))
    clear Cc
    (first | rw [c12b0] | (simp only [i64_w, i32_w]; rw [c12b0]) | skip)
    have H' := Aside0.mk H; clear H
    go_wp2
    go_meet
    case rel => exact ⟨_, (true), Z10, H', ⟨Z48⟩, ⟨Z65⟩, ⟨Z66⟩, ⟨Z0⟩⟩
   ·rw [if_neg Cc] at H
    have c12b0 : (Aw != Bu) = false := by simpa using Cc
    (try (have c12b1 : decide (Aw = Bu) = true := Z106))
    (try (have c12b2 : (Aw == Bu) = true := Z106))
    clear Cc
    (first | rw [c12b0] | (simp only [i64_w, i32_w]; rw [c12b0]) | skip)
    by_cases Cr : Af = Cm
    ·rw [if_pos Cr] at H
     have c13b0 : (Af == Cm) = true := beq_iff_eq.mpr Cr; have c13b1 : (Af != Cm) = false := bne_eq_false_iff_eq.mpr Cr; clear Cr; replace H := Option.bind_eq_some_iff.mp H; obtain ⟨Ba, Eh, H⟩ := H; replace H : (laws_FnLooms.j0 k l0 An Ao Ai Ar Af Aw (!Ba)) = some r := H; have Gc := Aside0.mk Eh; clear Eh; have H' := Aside0.mk H; clear H; obtain ⟨Gd, Ge, Fk⟩ := Kd.R_slice Bb.out; subst Fk; obtain ⟨Gf, Gg, Fl⟩ := Kd.R_slice C4.out; subst Fl
     go_wp2_with (first | (go_at_call 28; (with_reducible refine (laws_rLooms.calls k _ _ Ar _ _ Dy Ba _ ?side1 ?side2 ?side3 ?side4 Gc.out).mono ?_); (case side1 => exact (by repeat (first | exact (Kd.R_reads' Bb.out).2.2 | (with_reducible refine Kd.C_alloc ?_ _) | (with_reducible refine Kd.C_drewN ?_ _) | (with_reducible refine Kd.C_drew ?_)))); (case side2 => exact (Kd.R_reads' Bb.out).2.1); (case side3 => exact (by repeat (first | exact (Kd.R_reads' C4.out).2.2 | (with_reducible refine Kd.C_alloc ?_ _) | (with_reducible refine Kd.C_drewN ?_ _) | (with_reducible refine Kd.C_drew ?_)))); (case side4 => exact (Kd.R_reads' C4.out).2.1); rintro e w' ⟨rfl, ⟨nd, rfl⟩⟩))
     go_meet
     case rel => exact ⟨_, (!Ba), Z10, H', ⟨Z48⟩, ⟨Z65⟩, ⟨Z66⟩, ⟨Z0⟩⟩
    ·rw [if_neg Cr] at H
     have c13b0 : (Af == Cm) = false := beq_eq_false_iff_ne.mpr Cr; have c13b1 : (Af != Cm) = true := bne_iff_ne.mpr Cr; have H' := Aside0.mk H; clear H
     go_wp2
     go_meet
     case rel => exact ⟨_, (true), Z10, H', ⟨Z48⟩, ⟨Z65⟩, ⟨Z66⟩, ⟨Z0⟩⟩
  case rest => as_aux_lemma =>
   clear Fj; (try clear c1); (try clear c2); (try clear p2); (try clear c3); (try clear c6); (try clear Cc); (try clear c12b0); (try clear c12b1); (try clear c12b2); (try clear Cr); (try clear c13b0); (try clear c13b1); obtain ⟨kq, Cq, rfl, HA, HJ6, Bi, Bc, HB⟩ := hcut; cases kq with
   | zero => exact absurd HA.out (by simp [laws_FnLooms.j0])
   | succ Cn =>
    have H := HA.out; clear HA
    simp only [laws_FnLooms.j0] at H
    by_cases Dc : Cq = true
    ·subst Dc
     have H1 : (none) = some r := by rw [if_pos rfl] at H; exact H
     clear H; have H := H1; clear H1; exact absurd H (by simp)
    ·replace Dc := Bool.eq_false_iff.mpr Dc
     subst Dc
     have H1 : (if Aw = true then ((impl_DaysLeft.f An Ao).bind fun Bo => (if Bo.2 = true then (if Af > Bo.1 then (none) else (if Af > Ai then (none) else (if Af < Ai then (if Af = Bo.1 then ((impl_AreLooms.f Ar).bind fun Bv => (if Bv = true then (laws_FnLooms.j1 Cn l0) else (none))) else (none)) else ((impl_AreLooms.f Ar).bind fun Bw => (if Bw = true then (laws_FnLooms.j1 Cn l0) else (none)))))) else (none))) else (laws_FnLooms.j1 Cn l0)) = some r := by rw [if_neg (show ¬ (false = true) by decide)] at H; exact H
     clear H; have H := H1; clear H1; have Dz := Aside0.mk H; clear H
     go_upto_if 75 with (fail)
     go_cut [] (fun wc => ∃ (kq : Nat), Aside0 (laws_FnLooms.j1 kq l0 = some r) ∧ Aside0 (kq ≤ Cn) ∧ Aside0 (Below w.heap.size w wc))
     case first => as_aux_lemma =>
      have H := Dz.out; clear Dz
      by_cases Dd : Aw = true
      ·subst Dd
       have H1 : ((impl_DaysLeft.f An Ao).bind fun Bo => (if Bo.2 = true then (if Af > Bo.1 then (none) else (if Af > Ai then (none) else (if Af < Ai then (if Af = Bo.1 then ((impl_AreLooms.f Ar).bind fun Bv => (if Bv = true then (laws_FnLooms.j1 Cn l0) else (none))) else (none)) else ((impl_AreLooms.f Ar).bind fun Bw => (if Bw = true then (laws_FnLooms.j1 Cn l0) else (none)))))) else (none))) = some r := by rw [if_pos rfl] at H; exact H
       clear H; have H := H1; clear H1; replace H := Option.bind_eq_some_iff.mp H; obtain ⟨⟨Bp, Ei⟩, Ej, H⟩ := H; replace H : (if Ei = true then (if Af > Bp then (none) else (if Af > Ai then (none) else (if Af < Ai then (if Af = Bp then ((impl_AreLooms.f Ar).bind fun Bv => (if Bv = true then (laws_FnLooms.j1 Cn l0) else (none))) else (none)) else ((impl_AreLooms.f Ar).bind fun Bw => (if Bw = true then (laws_FnLooms.j1 Cn l0) else (none)))))) else (none)) = some r := H; have Ef := Aside0.mk Ej; clear Ej
       by_cases De : Ei = true
       ·subst De
        have H1 : (if Af > Bp then (none) else (if Af > Ai then (none) else (if Af < Ai then (if Af = Bp then ((impl_AreLooms.f Ar).bind fun Bv => (if Bv = true then (laws_FnLooms.j1 Cn l0) else (none))) else (none)) else ((impl_AreLooms.f Ar).bind fun Bw => (if Bw = true then (laws_FnLooms.j1 Cn l0) else (none)))))) = some r := by rw [if_pos rfl] at H; exact H
        clear H; have H := H1; clear H1
        by_cases Df : Af > Bp
        ·rw [if_pos Df] at H
         exact absurd H (by simp)
        ·rw [if_neg Df] at H
         have c22b0 : decide (Bp < Af) = false := decide_eq_false Df; clear Df
         (first | rw [c22b0] | (simp only [i64_w, i32_w]; rw [c22b0]) | skip)
         by_cases Dg : Af > Ai
         ·rw [if_pos Dg] at H
          exact absurd H (by simp)
         ·rw [if_neg Dg] at H
          have c23b0 : decide (Ai < Af) = false := decide_eq_false Dg; clear Dg
          by_cases C1 : Af < Ai
          ·rw [if_pos C1] at H
           have c24b0 : decide (Af < Ai) = true := decide_eq_true C1; clear C1
           by_cases C5 : Af = Bp
           ·rw [if_pos C5] at H
            have c25b0 : (Af == Bp) = true := beq_iff_eq.mpr C5; have c25b1 : (Af != Bp) = false := bne_eq_false_iff_eq.mpr C5; clear C5; replace H := Option.bind_eq_some_iff.mp H; obtain ⟨Bv, Ek, H⟩ := H; replace H : (if Bv = true then (laws_FnLooms.j1 Cn l0) else (none)) = some r := H; have Gh := Aside0.mk Ek; clear Ek
            by_cases Dh : Bv = true
            ·subst Dh
             have H1 : (laws_FnLooms.j1 Cn l0) = some r := by rw [if_pos rfl] at H; exact H
             clear H; have H := H1; clear H1; have H' := Aside0.mk H; clear H
             go_wp2_with (first | ((with_reducible refine gate_callee (f := 29) rfl ?_); refine glE (some 79) Try.func29 #[.slice D9 An.length Ea, .int .i64 Ao] ?_; (with_reducible refine (impl_DaysLeft.calls _ _ An Ao Bp true _ ?side1 ?side2 Ef.out).mono ?_); (case side1 => exact Z73); (case side2 => exact (Kd.R_reads' Bi.out).2.1); rintro e Hm ⟨rfl, hb⟩; refine ⟨_, rfl, ?_⟩; replace Bi := roB Bi hb; replace Bc := roB Bc hb; replace HB := hbS Z0 hb; (try clear hb); obtain ⟨Gi, Gj, Fm⟩ := Kd.R_slice Bc.out; subst Fm) | (go_at_call 30; (with_reducible refine (impl_AreLooms.calls _ _ Ar true _ ?side1 ?side2 Gh.out).mono ?_); (case side1 => exact Z74); (case side2 => exact (Kd.R_reads' Bc.out).2.1); rintro e Hn ⟨rfl, hb⟩; replace Bi := roB Bi hb; replace Bc := roB Bc hb; replace HB := hbS Z0 hb; (try clear hb)))
             go_meet
             case rel => exact ⟨_, H', ⟨Z97⟩, ⟨Z0⟩⟩
            ·replace Dh := Bool.eq_false_iff.mpr Dh
             subst Dh
             have H1 : (none) = some r := by rw [if_neg (show ¬ (false = true) by decide)] at H; exact H
             clear H; have H := H1; clear H1; exact absurd H (by simp)
           ·rw [if_neg C5] at H
            exact absurd H (by simp)
          ·rw [if_neg C1] at H
           have c24b0 : decide (Af < Ai) = false := decide_eq_false C1; clear C1; replace H := Option.bind_eq_some_iff.mp H; obtain ⟨Bw, El, H⟩ := H; replace H : (if Bw = true then (laws_FnLooms.j1 Cn l0) else (none)) = some r := H; have Gk := Aside0.mk El; clear El
           by_cases Di : Bw = true
           ·subst Di
            have H1 : (laws_FnLooms.j1 Cn l0) = some r := by rw [if_pos rfl] at H; exact H
            clear H; have H := H1; clear H1; have H' := Aside0.mk H; clear H
            go_wp2_with (first | ((with_reducible refine gate_callee (f := 29) rfl ?_); refine glE (some 79) Try.func29 #[.slice D9 An.length Ea, .int .i64 Ao] ?_; (with_reducible refine (impl_DaysLeft.calls _ _ An Ao Bp true _ ?side1 ?side2 Ef.out).mono ?_); (case side1 => exact Z73); (case side2 => exact (Kd.R_reads' Bi.out).2.1); rintro e Ho ⟨rfl, hb⟩; refine ⟨_, rfl, ?_⟩; replace Bi := roB Bi hb; replace Bc := roB Bc hb; replace HB := hbS Z0 hb; (try clear hb); obtain ⟨Gl, Gm, Fo⟩ := Kd.R_slice Bc.out; subst Fo) | (go_at_call 30; (with_reducible refine (impl_AreLooms.calls _ _ Ar true _ ?side1 ?side2 Gk.out).mono ?_); (case side1 => exact Z74); (case side2 => exact (Kd.R_reads' Bc.out).2.1); rintro e Hp ⟨rfl, hb⟩; replace Bi := roB Bi hb; replace Bc := roB Bc hb; replace HB := hbS Z0 hb; (try clear hb)))
            go_meet
            case rel => exact ⟨_, H', ⟨Z97⟩, ⟨Z0⟩⟩
           ·replace Di := Bool.eq_false_iff.mpr Di
            subst Di
            have H1 : (none) = some r := by rw [if_neg (show ¬ (false = true) by decide)] at H; exact H
            clear H; have H := H1; clear H1; exact absurd H (by simp)
       ·replace De := Bool.eq_false_iff.mpr De
        subst De
        have H1 : (none) = some r := by rw [if_neg (show ¬ (false = true) by decide)] at H; exact H
        clear H; have H := H1; clear H1; exact absurd H (by simp)
      ·replace Dd := Bool.eq_false_iff.mpr Dd
       subst Dd
       have H1 : (laws_FnLooms.j1 Cn l0) = some r := by rw [if_neg (show ¬ (false = true) by decide)] at H; exact H
       clear H; have H := H1; clear H1; have H' := Aside0.mk H; clear H
       go_wp2
       go_meet
       case rel => exact ⟨_, H', ⟨Z97⟩, ⟨Z0⟩⟩
     case rest => as_aux_lemma =>
      clear Dz; (try clear c1); (try clear c2); (try clear p2); (try clear c3); (try clear c6); (try clear Cc); (try clear c12b0); (try clear c12b1); (try clear c12b2); (try clear Cr); (try clear c13b0); (try clear c13b1); (try clear Dc); (try clear Dd); (try clear De); (try clear Df); (try clear c22b0); (try clear Dg); (try clear c23b0); (try clear C1); (try clear c24b0); (try clear C5); (try clear c25b0); (try clear c25b1); (try clear Em); (try clear Dh); (try clear En); (try clear Di); (try clear p2); obtain ⟨kq, HA, HJ17, HB⟩ := hcut; cases kq with
      | zero => exact absurd HA.out (by simp [laws_FnLooms.j1])
      | succ Ax =>
       have H := HA.out; clear HA
       simp only [laws_FnLooms.j1] at H
       replace H := Option.bind_eq_some_iff.mp H; obtain ⟨⟨Ad, Ag⟩, Eo, H⟩ := H; replace H : ((impl_CutOff.f Ad Ag).bind fun Ay => ((spec_CutOff.f Ax Ad Ag).bind fun Bq => (if (Ay.2.2 != Bq.2.2) = true then (laws_FnLooms.j2 Ax l0 Ad Ag Ay.1 Ay.2.1 Ay.2.2 true) else (if Ay.2.1 = Bq.2.1 then ((laws_rLooms.f Ax Ay.1 Bq.1).bind fun B3 => (laws_FnLooms.j2 Ax l0 Ad Ag Ay.1 Ay.2.1 Ay.2.2 (!B3))) else (laws_FnLooms.j2 Ax l0 Ad Ag Ay.1 Ay.2.1 Ay.2.2 true))))) = some r := H; have Gn := Aside0.mk Eo; clear Eo; replace H := Option.bind_eq_some_iff.mp H; obtain ⟨⟨Ak, Al, Aj⟩, Ep, H⟩ := H; replace H : ((spec_CutOff.f Ax Ad Ag).bind fun Bq => (if (Aj != Bq.2.2) = true then (laws_FnLooms.j2 Ax l0 Ad Ag Ak Al Aj true) else (if Al = Bq.2.1 then ((laws_rLooms.f Ax Ak Bq.1).bind fun B3 => (laws_FnLooms.j2 Ax l0 Ad Ag Ak Al Aj (!B3))) else (laws_FnLooms.j2 Ax l0 Ad Ag Ak Al Aj true)))) = some r := H; have Gp := Aside0.mk Ep; clear Ep; replace H := Option.bind_eq_some_iff.mp H; obtain ⟨⟨D0, Co, Bx⟩, Er, H⟩ := H; replace H : (if (Aj != Bx) = true then (laws_FnLooms.j2 Ax l0 Ad Ag Ak Al Aj true) else (if Al = Co then ((laws_rLooms.f Ax Ak D0).bind fun B3 => (laws_FnLooms.j2 Ax l0 Ad Ag Ak Al Aj (!B3))) else (laws_FnLooms.j2 Ax l0 Ad Ag Ak Al Aj true))) = some r := H; have Gq := Aside0.mk Er; clear Er; have D1 := Aside0.mk H; clear H
       go_upto_region 15 with (first | ((with_reducible refine gate_callee (f := 31) rfl ?_); refine glE (some 111) Try.func31 #[.slice A0 l0.length c0] ?_; (with_reducible refine (spec_DrawCutOff.calls Ax _ _ l0 Ad Ag _ ?side1 ?side2 Gn.out).mono ?_); (case side1 => exact Z54); (case side2 => exact D8.out); rintro e Hq ⟨Gr, rfl, Ap, hb⟩; refine ⟨_, rfl, ?_⟩; have Av := aM (Kd.R_lower Ap (below_size Z0)); replace HB := hbS Z0 hb; (try clear hb); (try clear Ap); obtain ⟨Bz, B0, Fp⟩ := Kd.R_slice Av.out; subst Fp) | ((with_reducible refine gate_callee (f := 32) rfl ?_); refine glE (some 117) Try.func32 #[.slice Bz Ad.length B0, .int .i64 Ag] ?_; (with_reducible refine (impl_CutOff.calls _ _ Ad Ag Ak Al Aj _ ?side1 ?side2 Gp.out).mono ?_); (case side1 => exact Z75); (case side2 => exact (Kd.R_reads' Av.out).2.1); rintro e Hr ⟨Cd, rfl, Ap, hb⟩; refine ⟨_, rfl, ?_⟩; have Bd := aM (Kd.R_lower (Kd.R_new' Ap (Kd.R_lt Z64)) (below_size Z0)); replace Av := aM (Kd.R_elder' Z64 (Kd.R_base Ap) hb); replace HB := hbS Z0 hb; (try clear hb); (try clear Ap)) | ((with_reducible refine gate_callee (f := 33) rfl ?_); refine glE (some 124) Try.func33 #[.slice Bz Ad.length B0, .int .i64 Ag] ?_; (with_reducible refine (spec_CutOff.calls Ax _ _ Ad Ag D0 Co Bx _ ?side1 ?side2 Gq.out).mono ?_); (case side1 => exact Z75); (case side2 => exact (Kd.R_reads' Av.out).2.1); rintro e Hs ⟨Gs, rfl, Ap, hb⟩; refine ⟨_, rfl, ?_⟩; have C6 := aM (Kd.R_lower (Kd.R_new' (Kd.R_new' Ap (Kd.R_lt Z64)) (Kd.R_lt Z93)) (below_size Z0)); replace Av := aM (Kd.R_elder' Z64 (Kd.R_base Ap) hb); replace Bd := aM (Kd.R_elder' Z93 (Kd.R_base Ap) hb); replace HB := hbS Z0 hb; (try clear hb); (try clear Ap)))
       (try simp only [Act.put, List.setIfInBounds_toArray, List.set_cons_zero, List.set_cons_succ])
       go_cut [141] (fun Fq wc => ∃ (kq : Nat) (Bk : Bool), Fq = .bool Bk ∧ Aside0 (laws_FnLooms.j2 kq l0 Ad Ag Ak Al Aj Bk = some r) ∧ Aside0 (kq ≤ Ax) ∧ Aside0 (Kd.R k56 56 wc w.heap.size (fun k_ => nV k_ Cd) (.slice Bz Ad.length B0) Ad) ∧ Aside0 (Kd.R k56 56 wc w.heap.size (fun k_ => nS k_ Bz Ad.length B0) Cd Ak) ∧ Aside0 (Below w.heap.size w wc))
       case first => as_aux_lemma =>
        have H := D1.out; clear D1
        by_cases Cl : (Aj != Bx) = true
        ·rw [if_pos Cl] at H
         have c44b0 : (Aj != Bx) = true := Cl
         (try (have c44b1 : decide (Aj = Bx) = false := Z107))
         (try (have c44b2 : (Aj == Bx) = false := Z107))
         (try (have c44b3 : ¬ (Aj = Bx) := Z107))
         clear Cl
         (first | rw [c44b0] | (simp only [i64_w, i32_w]; rw [c44b0]) | skip)
         have H' := Aside0.mk H; clear H
         go_wp2
         go_meet
         case rel => exact ⟨_, (true), Z10, H', ⟨Z88⟩, ⟨Z67⟩, ⟨Z68⟩, ⟨Z0⟩⟩
        ·rw [if_neg Cl] at H
         have c44b0 : (Aj != Bx) = false := by simpa using Cl
         (try (have c44b1 : decide (Aj = Bx) = true := Z107))
         (try (have c44b2 : (Aj == Bx) = true := Z107))
         clear Cl
         (first | rw [c44b0] | (simp only [i64_w, i32_w]; rw [c44b0]) | skip)
         by_cases C2 : Al = Co
         ·rw [if_pos C2] at H
          have c45b0 : (Al == Co) = true := beq_iff_eq.mpr C2; have c45b1 : (Al != Co) = false := bne_eq_false_iff_eq.mpr C2; clear C2; replace H := Option.bind_eq_some_iff.mp H; obtain ⟨B3, Es, H⟩ := H; replace H : (laws_FnLooms.j2 Ax l0 Ad Ag Ak Al Aj (!B3)) = some r := H; have Gt := Aside0.mk Es; clear Es; have H' := Aside0.mk H; clear H; obtain ⟨Gu, Gv, Fr⟩ := Kd.R_slice Bd.out; subst Fr; obtain ⟨Gw, Gx, Fs⟩ := Kd.R_slice C6.out; subst Fs
          go_wp2_with (first | (go_at_call 28; (with_reducible refine (laws_rLooms.calls Ax _ _ Ak _ _ D0 B3 _ ?side1 ?side2 ?side3 ?side4 Gt.out).mono ?_); (case side1 => exact (by repeat (first | exact (Kd.R_reads' Bd.out).2.2 | (with_reducible refine Kd.C_alloc ?_ _) | (with_reducible refine Kd.C_drewN ?_ _) | (with_reducible refine Kd.C_drew ?_)))); (case side2 => exact (Kd.R_reads' Bd.out).2.1); (case side3 => exact (by repeat (first | exact (Kd.R_reads' C6.out).2.2 | (with_reducible refine Kd.C_alloc ?_ _) | (with_reducible refine Kd.C_drewN ?_ _) | (with_reducible refine Kd.C_drew ?_)))); (case side4 => exact (Kd.R_reads' C6.out).2.1); rintro e w' ⟨rfl, ⟨nd, rfl⟩⟩))
          go_meet
          case rel => exact ⟨_, (!B3), Z10, H', ⟨Z88⟩, ⟨Z67⟩, ⟨Z68⟩, ⟨Z0⟩⟩
         ·rw [if_neg C2] at H
          have c45b0 : (Al == Co) = false := beq_eq_false_iff_ne.mpr C2; have c45b1 : (Al != Co) = true := bne_iff_ne.mpr C2; have H' := Aside0.mk H; clear H
          go_wp2
          go_meet
          case rel => exact ⟨_, (true), Z10, H', ⟨Z88⟩, ⟨Z67⟩, ⟨Z68⟩, ⟨Z0⟩⟩
       case rest => as_aux_lemma =>
        clear D1; (try clear c1); (try clear c2); (try clear p2); (try clear c3); (try clear c4); (try clear c6); (try clear Cc); (try clear c12b0); (try clear c12b1); (try clear c12b2); (try clear Cr); (try clear c13b0); (try clear c13b1); (try clear Dc); (try clear Dd); (try clear De); (try clear Df); (try clear c22b0); (try clear Dg); (try clear c23b0); (try clear C1); (try clear c24b0); (try clear C5); (try clear c25b0); (try clear c25b1); (try clear Em); (try clear Dh); (try clear En); (try clear Fg); (try clear Di); (try clear Fh); (try clear Cl); (try clear c44b0); (try clear c44b1); (try clear c44b2); (try clear C2); (try clear c45b0); (try clear c45b1); (try clear p2); obtain ⟨kq, Bk, rfl, HA, HJ38, Ae, Ah, HB⟩ := hcut; cases kq with
        | zero => exact absurd HA.out (by simp [laws_FnLooms.j2])
        | succ D2 =>
         have H := HA.out; clear HA
         simp only [laws_FnLooms.j2] at H
         by_cases Dw : Bk = true
         ·subst Dw
          have H1 : (none) = some r := by rw [if_pos rfl] at H; exact H
          clear H; have H := H1; clear H1; exact absurd H (by simp)
         ·replace Dw := Bool.eq_false_iff.mpr Dw
          subst Dw
          have H1 : (laws_FnLooms.l0 D2 l0 Ad Ag Ak Al Aj 0) = some r := by rw [if_neg (show ¬ (false = true) by decide)] at H; exact H
          clear H; have H := H1; clear H1; have H' := Aside0.mk H; clear H
          go_wp2
          go_loopg [22] D2 (fun kq Gy w' => ∃ (Aa : Int), Gy = .int .i64 Aa ∧ Aside0 (laws_FnLooms.l0 kq l0 Ad Ag Ak Al Aj Aa = some r) ∧ Aside0 (kq ≤ D2) ∧ Aside0 (Kd.R k56 56 w' w.heap.size (fun k_ => nV k_ Cd) (.slice Bz Ad.length B0) Ad) ∧ Aside0 (Kd.R k56 56 w' w.heap.size (fun k_ => nS k_ Bz Ad.length B0) Cd Ak) ∧ Aside0 (Below w.heap.size w w'))
          case atStart => exact ⟨(0), Z10, H', ⟨Nat.le_refl _⟩, ⟨Z21⟩, ⟨Z28⟩, ⟨Z0⟩⟩
          case round =>
           clear H'; (try clear c1); (try clear c2); (try clear p2); (try clear c3); (try clear c4); (try clear c6); (try clear Cc); (try clear c12b0); (try clear c12b1); (try clear c12b2); (try clear Cr); (try clear c13b0); (try clear c13b1); (try clear Dc); (try clear Dd); (try clear De); (try clear Df); (try clear c22b0); (try clear Dg); (try clear c23b0); (try clear C1); (try clear c24b0); (try clear C5); (try clear c25b0); (try clear c25b1); (try clear Em); (try clear Dh); (try clear En); (try clear Fg); (try clear Di); (try clear Fh); (try clear Cl); (try clear c44b0); (try clear c44b1); (try clear c44b2); (try clear C2); (try clear c45b0); (try clear c45b1); (try clear Dw); (try clear p2); obtain ⟨Aa, rfl, HA, HK4, Ae, Ah, HB⟩ := hrel; cases gk with
           | zero => exact absurd HA.out (by simp [laws_FnLooms.l0])
           | succ k4 =>
            have H := HA.out; clear HA
            simp only [laws_FnLooms.l0] at H
            have D3 := Aside0.mk H; clear H
            go_upto_region 18 with (fail)
            go_cut [148] (fun Ft wc => ∃ (kq : Nat) (Bl : Bool), Ft = .bool Bl ∧ Aside0 (laws_FnLooms.j4 kq l0 Ad Ag Ak Al Aj Aa Bl = some r) ∧ Aside0 (kq ≤ k4) ∧ Aside0 (Kd.R k56 56 wc w.heap.size (fun k_ => nV k_ Cd) (.slice Bz Ad.length B0) Ad) ∧ Aside0 (Kd.R k56 56 wc w.heap.size (fun k_ => nS k_ Bz Ad.length B0) Cd Ak) ∧ Aside0 (Below w.heap.size w wc))
            case first => as_aux_lemma =>
             have H := D3.out; clear D3
             by_cases Dk : Aa < (Ad.length : Int)
             ·rw [if_pos Dk] at H
              have c51b0 : decide (Aa < (Ad.length : Int)) = true := decide_eq_true Dk; clear Dk
              (first | rw [c51b0] | (simp only [i64_w, i32_w]; rw [c51b0]) | skip)
              have H' := Aside0.mk H; clear H
              go_wp2
              go_meet
              case rel => exact ⟨_, (Aj), Z10, H', ⟨Z89⟩, ⟨Z21⟩, ⟨Z28⟩, ⟨Z0⟩⟩
             ·rw [if_neg Dk] at H
              have c51b0 : decide (Aa < (Ad.length : Int)) = false := decide_eq_false Dk; clear Dk
              (first | rw [c51b0] | (simp only [i64_w, i32_w]; rw [c51b0]) | skip)
              have H' := Aside0.mk H; clear H
              go_wp2
              go_meet
              case rel => exact ⟨_, (false), Z10, H', ⟨Z89⟩, ⟨Z21⟩, ⟨Z28⟩, ⟨Z0⟩⟩
            case rest => as_aux_lemma =>
             clear D3; (try clear c1); (try clear c2); (try clear p2); (try clear c3); (try clear c4); (try clear c5); (try clear c6); (try clear Cc); (try clear c12b0); (try clear c12b1); (try clear c12b2); (try clear Cr); (try clear c13b0); (try clear c13b1); (try clear Dc); (try clear Dd); (try clear De); (try clear Df); (try clear c22b0); (try clear Dg); (try clear c23b0); (try clear C1); (try clear c24b0); (try clear C5); (try clear c25b0); (try clear c25b1); (try clear Em); (try clear Dh); (try clear En); (try clear Fg); (try clear Di); (try clear Fh); (try clear Cl); (try clear c44b0); (try clear c44b1); (try clear c44b2); (try clear C2); (try clear c45b0); (try clear c45b1); (try clear Dw); (try clear Dk); (try clear c51b0); (try clear p2); obtain ⟨kq, Bl, rfl, HA, HJ49, Ae, Ah, HB⟩ := hcut; cases kq with
             | zero => exact absurd HA.out (by simp [laws_FnLooms.j4])
             | succ Aq =>
              have H := HA.out; clear HA
              simp only [laws_FnLooms.j4] at H
              by_cases Eb : Bl = true
              ·subst Eb
               have H1 : (if 0 ≤ Aa then (if Aa < (Ad.length : Int) then (if ((rd_T56 Ad Aa).f0) = Ag then (laws_FnLooms.j5 Aq l0 Ad Ag Ak Al Aj Aa (((rd_T56 Ad Aa).f4) == 1)) else (laws_FnLooms.j5 Aq l0 Ad Ag Ak Al Aj Aa false)) else (none)) else (none)) = some r := by rw [if_pos rfl] at H; exact H
               clear H; have H := H1; clear H1; have D4 := Aside0.mk H; clear H
               go_upto_region 20 with (fail)
               go_cut [165] (fun Fu wc => ∃ (kq : Nat) (Bm : Bool), Fu = .bool Bm ∧ Aside0 (laws_FnLooms.j5 kq l0 Ad Ag Ak Al Aj Aa Bm = some r) ∧ Aside0 (kq ≤ Aq) ∧ Aside0 (Kd.R k56 56 wc w.heap.size (fun k_ => nV k_ Cd) (.slice Bz Ad.length B0) Ad) ∧ Aside0 (Kd.R k56 56 wc w.heap.size (fun k_ => nS k_ Bz Ad.length B0) Cd Ak) ∧ Aside0 (Below w.heap.size w wc))
               case first => as_aux_lemma =>
                have H := D4.out; clear D4
                by_cases Ec : 0 ≤ Aa
                ·rw [if_pos Ec] at H
                 have c54b0 : decide (0 ≤ Aa) = true := decide_eq_true Ec; clear Ec
                 (first | rw [c54b0] | (simp only [i64_w, i32_w]; rw [c54b0]) | skip)
                 by_cases Ed : Aa < (Ad.length : Int)
                 ·rw [if_pos Ed] at H
                  have c55b0 : decide (Aa < (Ad.length : Int)) = true := decide_eq_true Ed; clear Ed
                  by_cases Dl : ((rd_T56 Ad Aa).f0) = Ag
                  ·rw [if_pos Dl] at H
                   have c56b0 : (((rd_T56 Ad Aa).f0) == Ag) = true := beq_iff_eq.mpr Dl; have c56b1 : (((rd_T56 Ad Aa).f0) != Ag) = false := bne_eq_false_iff_eq.mpr Dl; clear Dl; have H' := Aside0.mk H; clear H; have B5 : 0 ≤ (Aa : Int) := of_decide_eq_true Z5; have B6 : Aa < (Ad.length : Int) := of_decide_eq_true Z5; obtain ⟨ad724, e724, B7, B8, B9, Ca, Cb⟩ := at_T56 (Kd.R_reads' Ae.out).2.2 Aa B5 B6; cases e724; replace B5 := eq_true B5; replace B6 := eq_true B6; have C7 : 0 ≤ (Aa : Int) := of_decide_eq_true Z5; have C8 : Aa < (Ad.length : Int) := of_decide_eq_true Z5; obtain ⟨ad725, e725, Cs, Ct, Cu, Cv, Cw⟩ := at_T56 (Kd.R_reads' Ae.out).2.2 Aa C7 C8; obtain rfl : ad724 = ad725 := (by injection e725); replace C7 := eq_true C7; replace C8 := eq_true C8
                   go_wp2
                   go_meet
                   case rel => exact ⟨_, ((((rd_T56 Ad Aa).f4) == 1)), Z10, H', ⟨Z56⟩, ⟨Z21⟩, ⟨Z28⟩, ⟨Z0⟩⟩
                  ·rw [if_neg Dl] at H
                   have c56b0 : (((rd_T56 Ad Aa).f0) == Ag) = false := beq_eq_false_iff_ne.mpr Dl; have c56b1 : (((rd_T56 Ad Aa).f0) != Ag) = true := bne_iff_ne.mpr Dl; have H' := Aside0.mk H; clear H; have B5 : 0 ≤ (Aa : Int) := of_decide_eq_true Z5; have B6 : Aa < (Ad.length : Int) := of_decide_eq_true Z5; obtain ⟨ad724, e724, B7, B8, B9, Ca, Cb⟩ := at_T56 (Kd.R_reads' Ae.out).2.2 Aa B5 B6; cases e724; replace B5 := eq_true B5; replace B6 := eq_true B6
                   go_wp2
                   go_meet
                   case rel => exact ⟨_, (false), Z10, H', ⟨Z56⟩, ⟨Z21⟩, ⟨Z28⟩, ⟨Z0⟩⟩
                 ·rw [if_neg Ed] at H
                  exact absurd H (by simp)
                ·rw [if_neg Ec] at H
                 exact absurd H (by simp)
               case rest => as_aux_lemma =>
                clear D4; (try clear c1); (try clear c2); (try clear p2); (try clear c3); (try clear c4); (try clear c5); (try clear c6); (try clear p7); (try clear q7); (try clear Gz); (try clear Cc); (try clear c12b0); (try clear c12b1); (try clear c12b2); (try clear Cr); (try clear c13b0); (try clear c13b1); (try clear Dc); (try clear Dd); (try clear De); (try clear Df); (try clear c22b0); (try clear Dg); (try clear c23b0); (try clear C1); (try clear c24b0); (try clear C5); (try clear c25b0); (try clear c25b1); (try clear Em); (try clear Dh); (try clear En); (try clear Fg); (try clear Di); (try clear Fh); (try clear Cl); (try clear c44b0); (try clear c44b1); (try clear c44b2); (try clear C2); (try clear c45b0); (try clear c45b1); (try clear Dw); (try clear Dk); (try clear c51b0); (try clear Eb); (try clear Ec); (try clear c54b0); (try clear Ed); (try clear c55b0); (try clear Dl); (try clear c56b0); (try clear c56b1); (try clear B7); (try clear B8); (try clear B9); (try clear Ca); (try clear Cb); (try clear Cs); (try clear Ct); (try clear Cu); (try clear Cv); (try clear Cw); (try clear p2); (try clear B5); (try clear C7); (try clear B6); (try clear C8); obtain ⟨kq, Bm, rfl, HA, HJ52, Ae, Ah, HB⟩ := hcut; cases kq with
                | zero => exact absurd HA.out (by simp [laws_FnLooms.j5])
                | succ Bj =>
                 have H := HA.out; clear HA
                 simp only [laws_FnLooms.j5] at H
                 by_cases Et : Bm = true
                 ·subst Et
                  have H1 : (if 0 ≤ Aa then (if Aa < (Ad.length : Int) then ((impl_WarpLoom.f Ak Ag Al ((rd_T56 Ad Aa).f3)).bind fun Dx => (if Dx.2 = true then ((laws_rLooms.f Bj Dx.1 Ad).bind fun Ce => (if Ce = true then (laws_FnLooms.l0 Bj l0 Ad Ag Ak Al Aj (wrap64 (Aa + 1))) else (none))) else (none))) else (none)) else (none)) = some r := by rw [if_pos rfl] at H; exact H
                  clear H; have H := H1; clear H1
                  by_cases Eu : 0 ≤ Aa
                  ·rw [if_pos Eu] at H
                   have c58b0 : decide (0 ≤ Aa) = true := decide_eq_true Eu; clear Eu
                   by_cases Ew : Aa < (Ad.length : Int)
                   ·rw [if_pos Ew] at H
                    have c59b0 : decide (Aa < (Ad.length : Int)) = true := decide_eq_true Ew; clear Ew; replace H := Option.bind_eq_some_iff.mp H; obtain ⟨⟨Dm, Ex⟩, Ey, H⟩ := H; replace H : (if Ex = true then ((laws_rLooms.f Bj Dm Ad).bind fun Ce => (if Ce = true then (laws_FnLooms.l0 Bj l0 Ad Ag Ak Al Aj (wrap64 (Aa + 1))) else (none))) else (none)) = some r := H; have Ff := Aside0.mk Ey; clear Ey
                    by_cases Ez : Ex = true
                    ·subst Ez
                     have H1 : ((laws_rLooms.f Bj Dm Ad).bind fun Ce => (if Ce = true then (laws_FnLooms.l0 Bj l0 Ad Ag Ak Al Aj (wrap64 (Aa + 1))) else (none))) = some r := by rw [if_pos rfl] at H; exact H
                     clear H; have H := H1; clear H1; replace H := Option.bind_eq_some_iff.mp H; obtain ⟨Ce, E0, H⟩ := H; replace H : (if Ce = true then (laws_FnLooms.l0 Bj l0 Ad Ag Ak Al Aj (wrap64 (Aa + 1))) else (none)) = some r := H; have G0 := Aside0.mk E0; clear E0
                     by_cases E2 : Ce = true
                     ·subst E2
                      have H1 : (laws_FnLooms.l0 Bj l0 Ad Ag Ak Al Aj (wrap64 (Aa + 1))) = some r := by rw [if_pos rfl] at H; exact H
                      clear H; have H := H1; clear H1; have H' := Aside0.mk H; clear H; have Dn : 0 ≤ (Aa : Int) := of_decide_eq_true Z5; have Dp : Aa < (Ad.length : Int) := of_decide_eq_true Z5; obtain ⟨ad726, e726, Dq, Dr, Ds, Dt, Du⟩ := at_T56 (Kd.R_reads' Ae.out).2.2 Aa Dn Dp; cases e726; replace Dn := eq_true Dn; replace Dp := eq_true Dp; obtain ⟨Fv, Fw, Fx⟩ := Kd.R_slice Ah.out; subst Fx
                      go_wp2_with (first | ((with_reducible refine gate_callee (f := 34) rfl ?_); refine glE (some 175) Try.func34 #[.slice Fv Ak.length Fw, .int .i64 Ag, .int .i64 Al, .int .i64 ((rd_T56 Ad Aa).f3)] ?_; (with_reducible refine (impl_WarpLoom.calls _ _ Ak Ag Al ((rd_T56 Ad Aa).f3) Dm true _ ?side1 ?side2 Ff.out).mono ?_); (case side1 => exact (by repeat (first | exact (Kd.R_reads' Ah.out).2.2 | (with_reducible refine Kd.C_alloc ?_ _) | (with_reducible refine Kd.C_drewN ?_ _) | (with_reducible refine Kd.C_drew ?_)))); (case side2 => exact (Kd.R_reads' Ah.out).2.1); rintro e Ht ⟨G1, rfl, Ap, hb⟩; refine ⟨_, rfl, ?_⟩; have C9 := aM (Kd.R_lower (Kd.R_new' (Kd.R_new' Ap (Kd.R_lt Z21)) (Kd.R_lt Z28)) (below_size Z0)); replace Ae := aM (Kd.R_elder' Z21 (Kd.R_base Ap) hb); replace Ah := aM (Kd.R_elder' Z28 (Kd.R_base Ap) hb); replace HB := hbS Z0 hb; (try clear hb); (try clear Ap); obtain ⟨G2, G3, Fy⟩ := Kd.R_slice C9.out; subst Fy) | (go_at_call 28; (with_reducible refine (laws_rLooms.calls Bj _ _ Dm _ _ Ad true _ ?side1 ?side2 ?side3 ?side4 G0.out).mono ?_); (case side1 => exact (by repeat (first | exact (Kd.R_reads' C9.out).2.2 | (with_reducible refine Kd.C_alloc ?_ _) | (with_reducible refine Kd.C_drewN ?_ _) | (with_reducible refine Kd.C_drew ?_)))); (case side2 => exact (Kd.R_reads' C9.out).2.1); (case side3 => exact (by repeat (first | exact (Kd.R_reads' Ae.out).2.2 | (with_reducible refine Kd.C_alloc ?_ _) | (with_reducible refine Kd.C_drewN ?_ _) | (with_reducible refine Kd.C_drew ?_)))); (case side4 => exact (Kd.R_reads' Ae.out).2.1); rintro e w' ⟨rfl, ⟨nd, rfl⟩⟩))
                      go_roundg Bj
                      case measure => have := HJ6.out; have := HJ17.out; have := HJ38.out; have := HK4.out; have := HJ49.out; have := HJ52.out; omega
                      case rel => exact ⟨(wrap64 (Aa + 1)), Z10, H', ⟨Z87⟩, ⟨by (with_reducible repeat (first | apply Kd.R_alloc | apply Kd.R_drewN | apply Kd.R_drew)); exact Kd.R_mono Ae.out (fun _ hk => hk.1)⟩, ⟨by (with_reducible repeat (first | apply Kd.R_alloc | apply Kd.R_drewN | apply Kd.R_drew)); exact Kd.R_mono Ah.out (fun _ hk => hk.1)⟩, ⟨Z0⟩⟩
                     ·replace E2 := Bool.eq_false_iff.mpr E2
                      subst E2
                      have H1 : (none) = some r := by rw [if_neg (show ¬ (false = true) by decide)] at H; exact H
                      clear H; have H := H1; clear H1; exact absurd H (by simp)
                    ·replace Ez := Bool.eq_false_iff.mpr Ez
                     subst Ez
                     have H1 : (none) = some r := by rw [if_neg (show ¬ (false = true) by decide)] at H; exact H
                     clear H; have H := H1; clear H1; exact absurd H (by simp)
                   ·rw [if_neg Ew] at H
                    exact absurd H (by simp)
                  ·rw [if_neg Eu] at H
                   exact absurd H (by simp)
                 ·replace Et := Bool.eq_false_iff.mpr Et
                  subst Et
                  have H1 : (laws_FnLooms.l0 Bj l0 Ad Ag Ak Al Aj (wrap64 (Aa + 1))) = some r := by rw [if_neg (show ¬ (false = true) by decide)] at H; exact H
                  clear H; have H := H1; clear H1; have H' := Aside0.mk H; clear H
                  go_wp2
                  go_roundg Bj
                  case measure => have := HJ6.out; have := HJ17.out; have := HJ38.out; have := HK4.out; have := HJ49.out; have := HJ52.out; omega
                  case rel => exact ⟨(wrap64 (Aa + 1)), Z10, H', ⟨Z87⟩, ⟨Z21⟩, ⟨Z28⟩, ⟨Z0⟩⟩
              ·replace Eb := Bool.eq_false_iff.mpr Eb
               subst Eb
               have H1 : ((spec_DrawBeginCarpet.f Aq l0).bind fun Cx => ((impl_BeginCarpet.f Cx.1 Cx.2).bind fun Cf => ((spec_BeginCarpet.f Aq Cx.1 Cx.2).bind fun Bg => (if (Cf.2 != Bg.2) = true then (laws_FnLooms.j6 Aq l0 true) else ((laws_rLooms.f Aq Cf.1 Bg.1).bind fun Br => (laws_FnLooms.j6 Aq l0 (!Br))))))) = some r := by rw [if_neg (show ¬ (false = true) by decide)] at H; exact H
               clear H; have H := H1; clear H1; replace H := Option.bind_eq_some_iff.mp H; obtain ⟨⟨Cg, Ch⟩, E3, H⟩ := H; replace H : ((impl_BeginCarpet.f Cg Ch).bind fun Cf => ((spec_BeginCarpet.f Aq Cg Ch).bind fun Bg => (if (Cf.2 != Bg.2) = true then (laws_FnLooms.j6 Aq l0 true) else ((laws_rLooms.f Aq Cf.1 Bg.1).bind fun Br => (laws_FnLooms.j6 Aq l0 (!Br)))))) = some r := H; have G4 := Aside0.mk E3; clear E3; replace H := Option.bind_eq_some_iff.mp H; obtain ⟨⟨Dv, Bs⟩, E4, H⟩ := H; replace H : ((spec_BeginCarpet.f Aq Cg Ch).bind fun Bg => (if (Bs != Bg.2) = true then (laws_FnLooms.j6 Aq l0 true) else ((laws_rLooms.f Aq Dv Bg.1).bind fun Br => (laws_FnLooms.j6 Aq l0 (!Br))))) = some r := H; have G5 := Aside0.mk E4; clear E4; replace H := Option.bind_eq_some_iff.mp H; obtain ⟨⟨D5, B1⟩, E5, H⟩ := H; replace H : (if (Bs != B1) = true then (laws_FnLooms.j6 Aq l0 true) else ((laws_rLooms.f Aq Dv D5).bind fun Br => (laws_FnLooms.j6 Aq l0 (!Br)))) = some r := H; have G6 := Aside0.mk E5; clear E5; have D6 := Aside0.mk H; clear H
               go_upto_region 27 with (first | ((with_reducible refine gate_callee (f := 35) rfl ?_); refine glE (some 188) Try.func35 #[.slice A0 l0.length c0] ?_; (with_reducible refine (spec_DrawBeginCarpet.calls Aq _ _ l0 Cg Ch _ ?side1 ?side2 G4.out).mono ?_); (case side1 => exact Z54); (case side2 => exact D8.out); rintro e Hu ⟨G7, rfl, Ap, hb⟩; refine ⟨_, rfl, ?_⟩; have Az := aM (Kd.R_lower (Kd.R_new' (Kd.R_new' Ap (Kd.R_lt Z21)) (Kd.R_lt Z28)) (below_size Z0)); replace Ae := aM (Kd.R_elder' Z21 (Kd.R_base Ap) hb); replace Ah := aM (Kd.R_elder' Z28 (Kd.R_base Ap) hb); replace HB := hbS Z0 hb; (try clear hb); (try clear Ap); obtain ⟨E6, E7, Fz⟩ := Kd.R_slice Az.out; subst Fz) | ((with_reducible refine gate_callee (f := 36) rfl ?_); refine glE (some 194) Try.func36 #[.slice E6 Cg.length E7, .int .i64 Ch] ?_; (with_reducible refine (impl_BeginCarpet.calls _ _ Cg Ch Dv Bs _ ?side1 ?side2 G5.out).mono ?_); (case side1 => exact Z76); (case side2 => exact (Kd.R_reads' Az.out).2.1); rintro e Hv ⟨G8, rfl, Ap, hb⟩; refine ⟨_, rfl, ?_⟩; have B2 := aM (Kd.R_lower (Kd.R_new' (Kd.R_new' (Kd.R_new' Ap (Kd.R_lt Z21)) (Kd.R_lt Z28)) (Kd.R_lt Z55)) (below_size Z0)); replace Ae := aM (Kd.R_elder' Z21 (Kd.R_base Ap) hb); replace Ah := aM (Kd.R_elder' Z28 (Kd.R_base Ap) hb); replace Az := aM (Kd.R_elder' Z55 (Kd.R_base Ap) hb); replace HB := hbS Z0 hb; (try clear hb); (try clear Ap)) | ((with_reducible refine gate_callee (f := 37) rfl ?_); refine glE (some 200) Try.func37 #[.slice E6 Cg.length E7, .int .i64 Ch] ?_; (with_reducible refine (spec_BeginCarpet.calls Aq _ _ Cg Ch D5 B1 _ ?side1 ?side2 G6.out).mono ?_); (case side1 => exact Z76); (case side2 => exact (Kd.R_reads' Az.out).2.1); rintro e Hw ⟨G9, rfl, Ap, hb⟩; refine ⟨_, rfl, ?_⟩; have Da := aM (Kd.R_lower (Kd.R_new' (Kd.R_new' (Kd.R_new' (Kd.R_new' Ap (Kd.R_lt Z21)) (Kd.R_lt Z28)) (Kd.R_lt Z55)) (Kd.R_lt Z94)) (below_size Z0)); replace Ae := aM (Kd.R_elder' Z21 (Kd.R_base Ap) hb); replace Ah := aM (Kd.R_elder' Z28 (Kd.R_base Ap) hb); replace Az := aM (Kd.R_elder' Z55 (Kd.R_base Ap) hb); replace B2 := aM (Kd.R_elder' Z94 (Kd.R_base Ap) hb); replace HB := hbS Z0 hb; (try clear hb); (try clear Ap)))
               (try simp only [Act.put, List.setIfInBounds_toArray, List.set_cons_zero, List.set_cons_succ])
               go_cut [211] (fun F0 wc => ∃ (kq : Nat) (Bn : Bool), F0 = .bool Bn ∧ Aside0 (laws_FnLooms.j6 kq l0 Bn = some r) ∧ Aside0 (kq ≤ Aq) ∧ Aside0 (Below w.heap.size w wc))
               case first => as_aux_lemma =>
                have H := D6.out; clear D6
                by_cases C3 : (Bs != B1) = true
                ·rw [if_pos C3] at H
                 have c75b0 : (Bs != B1) = true := C3
                 (try (have c75b1 : decide (Bs = B1) = false := Z108))
                 (try (have c75b2 : (Bs == B1) = false := Z108))
                 (try (have c75b3 : ¬ (Bs = B1) := Z108))
                 clear C3
                 (first | rw [c75b0] | (simp only [i64_w, i32_w]; rw [c75b0]) | skip)
                 have H' := Aside0.mk H; clear H
                 go_wp2
                 go_meet
                 case rel => exact ⟨_, (true), Z10, H', ⟨Z56⟩, ⟨Z0⟩⟩
                ·rw [if_neg C3] at H
                 have c75b0 : (Bs != B1) = false := by simpa using C3
                 (try (have c75b1 : decide (Bs = B1) = true := Z108))
                 (try (have c75b2 : (Bs == B1) = true := Z108))
                 clear C3
                 (first | rw [c75b0] | (simp only [i64_w, i32_w]; rw [c75b0]) | skip)
                 replace H := Option.bind_eq_some_iff.mp H; obtain ⟨Br, E8, H⟩ := H; replace H : (laws_FnLooms.j6 Aq l0 (!Br)) = some r := H; have Ha := Aside0.mk E8; clear E8; have H' := Aside0.mk H; clear H; obtain ⟨Hb, Hc, F1⟩ := Kd.R_slice B2.out; subst F1; obtain ⟨Hd, He, F2⟩ := Kd.R_slice Da.out; subst F2
                 go_wp2_with (first | (go_at_call 28; (with_reducible refine (laws_rLooms.calls Aq _ _ Dv _ _ D5 Br _ ?side1 ?side2 ?side3 ?side4 Ha.out).mono ?_); (case side1 => exact (by repeat (first | exact (Kd.R_reads' B2.out).2.2 | (with_reducible refine Kd.C_alloc ?_ _) | (with_reducible refine Kd.C_drewN ?_ _) | (with_reducible refine Kd.C_drew ?_)))); (case side2 => exact (Kd.R_reads' B2.out).2.1); (case side3 => exact (by repeat (first | exact (Kd.R_reads' Da.out).2.2 | (with_reducible refine Kd.C_alloc ?_ _) | (with_reducible refine Kd.C_drewN ?_ _) | (with_reducible refine Kd.C_drew ?_)))); (case side4 => exact (Kd.R_reads' Da.out).2.1); rintro e w' ⟨rfl, ⟨nd, rfl⟩⟩))
                 go_meet
                 case rel => exact ⟨_, (!Br), Z10, H', ⟨Z56⟩, ⟨Z0⟩⟩
               case rest => as_aux_lemma =>
                clear D6; (try clear c1); (try clear c2); (try clear p2); (try clear c3); (try clear c4); (try clear c5); (try clear c6); (try clear p6); (try clear c7); (try clear p7); (try clear q7); (try clear Gz); (try clear Cc); (try clear c12b0); (try clear c12b1); (try clear c12b2); (try clear Cr); (try clear c13b0); (try clear c13b1); (try clear Dc); (try clear Dd); (try clear De); (try clear Df); (try clear c22b0); (try clear Dg); (try clear c23b0); (try clear C1); (try clear c24b0); (try clear C5); (try clear c25b0); (try clear c25b1); (try clear Em); (try clear Dh); (try clear En); (try clear Fg); (try clear Di); (try clear Fh); (try clear Hx); (try clear Hy); (try clear Hz); (try clear H0); (try clear Cl); (try clear c44b0); (try clear c44b1); (try clear c44b2); (try clear C2); (try clear c45b0); (try clear c45b1); (try clear Dw); (try clear Dk); (try clear c51b0); (try clear Eb); (try clear Ec); (try clear c54b0); (try clear Ed); (try clear c55b0); (try clear Dl); (try clear c56b0); (try clear c56b1); (try clear Et); (try clear Eu); (try clear c58b0); (try clear Ew); (try clear c59b0); (try clear Ez); (try clear E2); (try clear H4); (try clear H5); (try clear H6); (try clear Hf); (try clear C3); (try clear c75b0); (try clear c75b1); (try clear c75b2); (try clear B7); (try clear B8); (try clear B9); (try clear Ca); (try clear Cb); (try clear Cs); (try clear Ct); (try clear Cu); (try clear Cv); (try clear Cw); (try clear Dq); (try clear Dr); (try clear Ds); (try clear Dt); (try clear Du); (try clear p2); (try clear p7); (try clear B5); (try clear C7); (try clear Dn); (try clear q7); (try clear B6); (try clear C8); (try clear Dp); obtain ⟨kq, Bn, rfl, HA, HJ69, HB⟩ := hcut; cases kq with
                | zero => exact absurd HA.out (by simp [laws_FnLooms.j6])
                | succ Cz =>
                 have H := HA.out; clear HA
                 simp only [laws_FnLooms.j6] at H
                 by_cases Fi : Bn = true
                 ·subst Fi
                  have H1 : (none) = some r := by rw [if_pos rfl] at H; exact H
                  clear H; have H := H1; clear H1; exact absurd H (by simp)
                 ·replace Fi := Bool.eq_false_iff.mpr Fi
                  subst Fi
                  have H1 : ((spec_DrawDaysLeft.f Cz l0).bind fun Cy => ((impl_DaysLeft.f Cy.1 Cy.2).bind fun Bt => ((spec_DaysLeft.f Cz Cy.1 Cy.2).bind fun Bh => (if Bt.1 = Bh.1 then (if (Bt.2 == Bh.2) = true then (some (decide (Bt.1 ≥ 0))) else (none)) else (none))))) = some r := by rw [if_neg (show ¬ (false = true) by decide)] at H; exact H
                  clear H; have H := H1; clear H1; replace H := Option.bind_eq_some_iff.mp H; obtain ⟨⟨Ci, Cj⟩, E9, H⟩ := H; replace H : ((impl_DaysLeft.f Ci Cj).bind fun Bt => ((spec_DaysLeft.f Cz Ci Cj).bind fun Bh => (if Bt.1 = Bh.1 then (if (Bt.2 == Bh.2) = true then (some (decide (Bt.1 ≥ 0))) else (none)) else (none)))) = some r := H; have Hg := Aside0.mk E9; clear E9; replace H := Option.bind_eq_some_iff.mp H; obtain ⟨⟨Ck, Cp⟩, Fa, H⟩ := H; replace H : ((spec_DaysLeft.f Cz Ci Cj).bind fun Bh => (if Ck = Bh.1 then (if (Cp == Bh.2) = true then (some (decide (Ck ≥ 0))) else (none)) else (none))) = some r := H; have Hh := Aside0.mk Fa; clear Fa; replace H := Option.bind_eq_some_iff.mp H; obtain ⟨⟨Db, C0⟩, Fb, H⟩ := H; replace H : (if Ck = Db then (if (Cp == C0) = true then (some (decide (Ck ≥ 0))) else (none)) else (none)) = some r := H; have Hi := Aside0.mk Fb; clear Fb
                  by_cases Fc : Ck = Db
                  ·rw [if_pos Fc] at H
                   have c83b0 : (Ck == Db) = true := beq_iff_eq.mpr Fc; have c83b1 : (Ck != Db) = false := bne_eq_false_iff_eq.mpr Fc; clear Fc
                   by_cases Ee : (Cp == C0) = true
                   ·rw [if_pos Ee] at H
                    have c84b0 : (Cp == C0) = true := Ee
                    (try (have c84b1 : decide (Cp = C0) = true := by simpa using Ee))
                    (try (have c84b2 : (Cp == C0) = true := by simpa using Ee))
                    clear Ee; obtain rfl := Option.some.inj H
                    go_wp2_with (first | ((with_reducible refine gate_callee (f := 38) rfl ?_); refine glE (some 214) Try.func38 #[.slice A0 l0.length c0] ?_; (with_reducible refine (spec_DrawDaysLeft.calls Cz _ _ l0 Ci Cj _ ?side1 ?side2 Hg.out).mono ?_); (case side1 => exact Z54); (case side2 => exact D8.out); rintro e H7 ⟨Hj, rfl, Ap, hb⟩; refine ⟨_, rfl, ?_⟩; have Bf := aM (Kd.R_lower Ap (below_size Z0)); replace HB := hbS Z0 hb; (try clear hb); (try clear Ap); obtain ⟨Fd, Fe, F3⟩ := Kd.R_slice Bf.out; subst F3) | ((with_reducible refine gate_callee (f := 29) rfl ?_); refine glE (some 220) Try.func29 #[.slice Fd Ci.length Fe, .int .i64 Cj] ?_; (with_reducible refine (impl_DaysLeft.calls _ _ Ci Cj Ck Cp _ ?side1 ?side2 Hh.out).mono ?_); (case side1 => exact Z77); (case side2 => exact (Kd.R_reads' Bf.out).2.1); rintro e H8 ⟨rfl, hb⟩; refine ⟨_, rfl, ?_⟩; replace Bf := roB Bf hb; replace HB := hbS Z0 hb; (try clear hb)) | ((with_reducible refine gate_callee (f := 39) rfl ?_); refine glE (some 226) Try.func39 #[.slice Fd Ci.length Fe, .int .i64 Cj] ?_; (with_reducible refine (spec_DaysLeft.calls Cz _ _ Ci Cj Db C0 _ ?side1 ?side2 Hi.out).mono ?_); (case side1 => exact Z77); (case side2 => exact (Kd.R_reads' Bf.out).2.1); rintro e H9 ⟨rfl, hb⟩; refine ⟨_, rfl, ?_⟩; replace Bf := roB Bf hb; replace HB := hbS Z0 hb; (try clear hb)))
                    go_ret
                    exact ⟨Z7, Z0⟩
                   ·rw [if_neg Ee] at H
                    exact absurd H (by simp)
                  ·rw [if_neg Fc] at H
                   exact absurd H (by simp)
end Go.Proofs.Ytplhkmeoeojinaa.H
