-- by wip/pack.py of this repo
import Derived.Test.YtplhkmeoeojinaaZ03Hx0
import Derived.Test.YtplhkmeoeojinaaZ03Hx11
import Derived.Test.YtplhkmeoeojinaaZ03WApart
import Derived.Test.YtplhkmeoeojinaaZ03WLast
import Derived.Test.YtplhkmeoeojinaaZ03WMore
import Derived.Test.YtplhkmeoeojinaaZ03WN
import Derived.Test.YtplhkmeoeojinaaZ03WWords
import Derived.Test.YtplhkmeoeojinaaZ03Short
namespace Go.Proofs.Ytplhkmeoeojinaa.H
open Go.RowKit Go.Proofs.YtplhkmeoeojinaaW.PrintWords Go.Proofs.YtplhkmeoeojinaaW.PrintLast Go.Proofs.YtplhkmeoeojinaaW.PrintMore
attribute [local go_sem] max2_int min2_int max_two min_two max_three min_three max_four min_four
set_option maxHeartbeats 8000000
set_option maxRecDepth 100000
set_option linter.unusedVariables false
set_option linter.unusedSimpArgs false
def impl_WarpLoom.f (l0 : List (S56)) (a1 : Int) (a2 : Int) (a3 : Int) : Option ((List (S56)) × Bool) := (impl_findLoom.f l0 a1).bind fun t642 => (if t642 < 0 then (some (([] : List (S56)), false)) else (if 0 ≤ t642 then (if t642 < (l0.length : Int) then (if ((rd_T56 l0 t642).f4) = 0 then ((impl_withLoom.f l0 t642 ((rd_T56 l0 t642).f0) ((rd_T56 l0 t642).f1) a2 a3 1).bind fun bt646 => (some (bt646.1, bt646.2))) else (some (([] : List (S56)), false))) else (none)) else (none)))
theorem impl_WarpLoom.calls (A0 : Option Addr) (c0 : Nat) (l0 : List (S56)) (a1 : Int) (a2 : Int) (a3 : Int) (r1 : List (S56)) (r2 : Bool) (w : World) (Az : Kd.C k56 w A0 l0.length l0) (Ba : l0.length ≤ c0) (h : impl_WarpLoom.f l0 a1 a2 a3 = some (r1, r2)) :
  Calls Try.prog 34 #[.slice A0 l0.length c0, .int .i64 a1, .int .i64 a2, .int .i64 a3] w fun e w' => ∃ v0_ : Value, e = .returned (.tuple #[v0_, .bool r2]) ∧ Kd.R k56 56 w' w.heap.size (fun _ => True) v0_ r1 ∧ Below w.heap.size w w' := by
 have hu56 := Try.underlying56; have Ao := Aside0.mk Az; have Ay := Aside0.mk Ba; clear Az Ba; have HB := aM (Below.refl w.heap.size w); have H : ((impl_findLoom.f l0 a1).bind fun Aa => (if Aa < 0 then (some (([] : List (S56)), false)) else (if 0 ≤ Aa then (if Aa < (l0.length : Int) then (if ((rd_T56 l0 Aa).f4) = 0 then ((impl_withLoom.f l0 Aa ((rd_T56 l0 Aa).f0) ((rd_T56 l0 Aa).f1) a2 a3 1).bind fun Al => (some (Al.1, Al.2))) else (some (([] : List (S56)), false))) else (none)) else (none)))) = some (r1, r2) := h; clear h; replace H := Option.bind_eq_some_iff.mp H; obtain ⟨Aa, Bb, H⟩ := H; replace H : (if Aa < 0 then (some (([] : List (S56)), false)) else (if 0 ≤ Aa then (if Aa < (l0.length : Int) then (if ((rd_T56 l0 Aa).f4) = 0 then ((impl_withLoom.f l0 Aa ((rd_T56 l0 Aa).f0) ((rd_T56 l0 Aa).f1) a2 a3 1).bind fun Al => (some (Al.1, Al.2))) else (some (([] : List (S56)), false))) else (none)) else (none))) = some (r1, r2) := H; have A5 := Aside0.mk Bb; clear Bb
 by_cases c6 : Aa < 0
 ·rw [if_pos c6] at H
  have c6b0 : decide (Aa < 0) = true := decide_eq_true c6; clear c6
  simp only [Option.some.injEq, Prod.mk.injEq] at H
  obtain ⟨rfl, rfl⟩ := H
  go_enter Try.func34, Try.ntmps34
  go_wp2_with (first | ((with_reducible refine gate_callee (f := 67) rfl ?_); refine glE (some 14) Try.func67 #[.slice A0 l0.length c0, .int .i64 a1] ?_; (with_reducible refine (impl_findLoom.calls _ _ l0 a1 Aa _ ?side1 ?side2 A5.out).mono ?_); (case side1 => exact Z38); (case side2 => exact Ay.out); rintro e w7 ⟨rfl, hb⟩; refine ⟨_, rfl, ?_⟩; replace HB := hbS Z0 hb; (try clear hb)))
  go_ret2
  exact ⟨_, Z7, Z31, Z0⟩
 ·rw [if_neg c6] at H
  have c6b0 : decide (Aa < 0) = false := decide_eq_false c6; clear c6
  by_cases c8 : 0 ≤ Aa
  ·rw [if_pos c8] at H
   have c8b0 : decide (0 ≤ Aa) = true := decide_eq_true c8; clear c8
   by_cases c9 : Aa < (l0.length : Int)
   ·rw [if_pos c9] at H
    have c9b0 : decide (Aa < (l0.length : Int)) = true := decide_eq_true c9; clear c9
    by_cases Ap : ((rd_T56 l0 Aa).f4) = 0
    ·rw [if_pos Ap] at H
     have c10b0 : (((rd_T56 l0 Aa).f4) == 0) = true := beq_iff_eq.mpr Ap; have c10b1 : (((rd_T56 l0 Aa).f4) != 0) = false := bne_eq_false_iff_eq.mpr Ap; clear Ap; replace H := Option.bind_eq_some_iff.mp H; obtain ⟨⟨Au, Av⟩, Aw, H⟩ := H; replace H : (some (Au, Av)) = some (r1, r2) := H; have Bd := Aside0.mk Aw; clear Aw
     simp only [Option.some.injEq, Prod.mk.injEq] at H
     obtain ⟨rfl, rfl⟩ := H
     go_enter Try.func34, Try.ntmps34
     go_wp2_with (first | ((with_reducible refine gate_callee (f := 67) rfl ?_); refine glE (some 14) Try.func67 #[.slice A0 l0.length c0, .int .i64 a1] ?_; (with_reducible refine (impl_findLoom.calls _ _ l0 a1 Aa _ ?side1 ?side2 A5.out).mono ?_); (case side1 => exact Z38); (case side2 => exact Ay.out); rintro e Bg ⟨rfl, hb⟩; refine ⟨_, rfl, ?_⟩; replace HB := hbS Z0 hb; (try clear hb); have Am : 0 ≤ (Aa : Int) := of_decide_eq_true Z5; have An : Aa < (l0.length : Int) := of_decide_eq_true Z5; obtain ⟨ad643, e643, Ab, Ac, Ad, Ae, Af⟩ := at_T56 Ao.out Aa Am An; cases e643; replace Ab := (HB.out.cell (World.block_lt_of_cell? w _ Ab)).trans Ab; replace Ac := (HB.out.cell (World.block_lt_of_cell? w _ Ac)).trans Ac; replace Ad := (HB.out.cell (World.block_lt_of_cell? w _ Ad)).trans Ad; replace Ae := (HB.out.cell (World.block_lt_of_cell? w _ Ae)).trans Ae; replace Af := (HB.out.cell (World.block_lt_of_cell? w _ Af)).trans Af; replace Am := eq_true Am; replace An := eq_true An; have Aq : 0 ≤ (Aa : Int) := of_decide_eq_true Z5; have Ar : Aa < (l0.length : Int) := of_decide_eq_true Z5; obtain ⟨ad644, e644, Ag, Ah, Ai, Aj, Ak⟩ := at_T56 Ao.out Aa Aq Ar; obtain rfl : ad643 = ad644 := (by injection e644); replace Ag := (HB.out.cell (World.block_lt_of_cell? w _ Ag)).trans Ag; replace Ah := (HB.out.cell (World.block_lt_of_cell? w _ Ah)).trans Ah; replace Ai := (HB.out.cell (World.block_lt_of_cell? w _ Ai)).trans Ai; replace Aj := (HB.out.cell (World.block_lt_of_cell? w _ Aj)).trans Aj; replace Ak := (HB.out.cell (World.block_lt_of_cell? w _ Ak)).trans Ak; replace Aq := eq_true Aq; replace Ar := eq_true Ar) | ((with_reducible refine gate_callee (f := 70) rfl ?_); refine glE (some 37) Try.func70 #[.slice (some ad643) l0.length c0, .int .i64 Aa, .agg #[.int .i64 ((rd_T56 l0 Aa).f0), .int .i64 ((rd_T56 l0 Aa).f1), .int .i64 a2, .int .i64 a3, .int .i64 1]] ?_; (with_reducible refine (impl_withLoom.calls _ _ l0 Aa ((rd_T56 l0 Aa).f0) ((rd_T56 l0 Aa).f1) a2 a3 1 Au Av _ ?side1 ?side2 Bd.out).mono ?_); (case side1 => exact Kd.C_below Ao.out Z18); (case side2 => exact Ay.out); rintro e Bh ⟨Bf, rfl, Bc, hb⟩; refine ⟨_, rfl, ?_⟩; have n0_ := aM (Kd.R_lower Bc (below_size Z18)); have n2_ := aM (below_step Z18 hb); clear HB; have Ax := n0_; have HB := n2_; clear n0_ n2_; (try clear hb); (try clear Bc)))
     go_ret2
     exact ⟨_, Z7, by (with_reducible repeat (first | apply Kd.R_alloc | apply Kd.R_drewN | apply Kd.R_drew)); exact Kd.R_mono Ax.out (fun _ hk => trivial), Z18⟩
    ·rw [if_neg Ap] at H
     have c10b0 : (((rd_T56 l0 Aa).f4) == 0) = false := beq_eq_false_iff_ne.mpr Ap; have c10b1 : (((rd_T56 l0 Aa).f4) != 0) = true := bne_iff_ne.mpr Ap
     simp only [Option.some.injEq, Prod.mk.injEq] at H
     obtain ⟨rfl, rfl⟩ := H
     go_enter Try.func34, Try.ntmps34
     go_wp2_with (first | ((with_reducible refine gate_callee (f := 67) rfl ?_); refine glE (some 14) Try.func67 #[.slice A0 l0.length c0, .int .i64 a1] ?_; (with_reducible refine (impl_findLoom.calls _ _ l0 a1 Aa _ ?side1 ?side2 A5.out).mono ?_); (case side1 => exact Z38); (case side2 => exact Ay.out); rintro e Bi ⟨rfl, hb⟩; refine ⟨_, rfl, ?_⟩; replace HB := hbS Z0 hb; (try clear hb); have Am : 0 ≤ (Aa : Int) := of_decide_eq_true Z5; have An : Aa < (l0.length : Int) := of_decide_eq_true Z5; obtain ⟨ad643, e643, Ab, Ac, Ad, Ae, Af⟩ := at_T56 Ao.out Aa Am An; cases e643; replace Ab := (HB.out.cell (World.block_lt_of_cell? w _ Ab)).trans Ab; replace Ac := (HB.out.cell (World.block_lt_of_cell? w _ Ac)).trans Ac; replace Ad := (HB.out.cell (World.block_lt_of_cell? w _ Ad)).trans Ad; replace Ae := (HB.out.cell (World.block_lt_of_cell? w _ Ae)).trans Ae; replace Af := (HB.out.cell (World.block_lt_of_cell? w _ Af)).trans Af; replace Am := eq_true Am; replace An := eq_true An))
     go_ret2
     exact ⟨_, Z7, Z31, Z0⟩
   ·rw [if_neg c9] at H
    exact absurd H (by simp)
  ·rw [if_neg c8] at H
   exact absurd H (by simp)
end Go.Proofs.Ytplhkmeoeojinaa.H
