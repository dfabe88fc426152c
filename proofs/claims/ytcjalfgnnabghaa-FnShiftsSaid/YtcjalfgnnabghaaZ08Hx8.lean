-- by wip/pack.py of this repo
import Derived.Test.YtcjalfgnnabghaaZ08Hx0
import Derived.Test.YtcjalfgnnabghaaZ08WLast
import Derived.Test.YtcjalfgnnabghaaZ08WWords
import Derived.Test.YtcjalfgnnabghaaZ08Short
namespace Go.Proofs.Ytcjalfgnnabghaa.H
open Go.RowKit Go.Proofs.YtcjalfgnnabghaaW.PrintWords Go.Proofs.YtcjalfgnnabghaaW.PrintLast
set_option maxHeartbeats 8000000
set_option maxRecDepth 100000
set_option linter.unusedVariables false
set_option linter.unusedSimpArgs false
def impl_Chart_at.f (a0_0 : Int) (a0_1 : Int) (l0_2 : List Int) (a1 : Int) (a2 : Int) : Option (Int) := if 0 ≤ (wrap64 ((wrap64 (a1 * a0_0)) + a2)) then (if (wrap64 ((wrap64 (a1 * a0_0)) + a2)) < (l0_2.length : Int) then (some (rd l0_2 (wrap64 ((wrap64 (a1 * a0_0)) + a2)))) else (none)) else (none)
theorem impl_Chart_at.calls (Ac : Int) (Ag : Int) (Ah : Option Addr) (Ai : Nat) (Aa : List Int) (a1 : Int) (a2 : Int) (r : Int) (w : World) (Ad : Kd.C (Kd.int .i64) w Ah Aa.length Aa) (Ae : Aa.length ≤ Ai) (h : impl_Chart_at.f Ac Ag Aa a1 a2 = some r) :
  Calls Try.prog 62 #[.agg #[.int .i64 Ac, .int .i64 Ag, .slice Ah Aa.length Ai], .int .i64 a1, .int .i64 a2] w fun e w' => e = .returned (.int .i64 r) ∧ Below w.heap.size w w' := by
 have hu28 := Try.underlying28; have Al := Aside0.mk Ad; have Aw := Aside0.mk Ae; clear Ad Ae; have HB := aM (Below.refl w.heap.size w); have H : (if 0 ≤ (wrap64 ((wrap64 (a1 * Ac)) + a2)) then (if (wrap64 ((wrap64 (a1 * Ac)) + a2)) < (Aa.length : Int) then (some (rd Aa (wrap64 ((wrap64 (a1 * Ac)) + a2)))) else (none)) else (none)) = some r := h; clear h; obtain ⟨ji4, hji4⟩ : ∃ j_ : Int, (wrap64 ((wrap64 (a1 * Ac)) + a2)) = j_ := ⟨_, rfl⟩
 replace H : (if 0 ≤ (ji4) then (if (ji4) < (Aa.length : Int) then (some (rd Aa (ji4))) else (none)) else (none)) = some r := by first | (rw [hji4] at H; exact H) | (simp only [hji4] at H ⊢; exact H)
 have hji4w : (IntKind.i64.wrap ((wrap64 (a1 * Ac)) + a2)) = ji4 := (i64_w _).trans hji4
 by_cases c5 : 0 ≤ (ji4)
 ·rw [if_pos c5] at H
  have c5b0 : decide (0 ≤ (ji4)) = true := decide_eq_true c5; clear c5
  by_cases c6 : (ji4) < (Aa.length : Int)
  ·rw [if_pos c6] at H
   have c6b0 : decide ((ji4) < (Aa.length : Int)) = true := decide_eq_true c6; clear c6; obtain rfl := Option.some.inj H
   go_enter Try.func62, Try.ntmps62
   go_wp2_with (first | ((with_reducible refine gate_dst (N := 3) rfl ?_); refine bxE 3 #[.int .i64 Ac, .int .i64 Ag, .slice Ah Aa.length Ai] 28 ?_; intro Ax hg w7 hbox hb; have Af := aM (hbox); have Ay := gwS hg Z0; have Am := gwS hg Z0; replace HB := hbS Z0 hb; clear hb hbox hg; obtain ⟨An, Ap, Aq⟩ := bz3 Af; obtain ⟨Ar, Au, Av⟩ := fz3 Af; have Aj : 0 ≤ ((ji4) : Int) := of_decide_eq_true Z58; have Ak : (ji4) < (Aa.length : Int) := of_decide_eq_true Z58; obtain ⟨ad165, e165, Ab⟩ := Kd.at_int Al.out (ji4) Aj Ak; cases e165; replace Ab := (HB.out.cell (World.block_lt_of_cell? w _ Ab)).trans Ab; replace Aj := eq_true Aj; replace Ak := eq_true Ak))
   go_ret
   exact ⟨Z209, Z97⟩
  ·rw [if_neg c6] at H
   exact absurd H (by simp)
 ·rw [if_neg c5] at H
  exact absurd H (by simp)
end Go.Proofs.Ytcjalfgnnabghaa.H
