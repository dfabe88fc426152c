-- by wip/pack.py of this repo
import Derived.Test.YtcjalfgnnabghaaZ01Hx0
import Derived.Test.YtcjalfgnnabghaaZ01Hx16
import Derived.Test.YtcjalfgnnabghaaZ01WLast
import Derived.Test.YtcjalfgnnabghaaZ01WMore
import Derived.Test.YtcjalfgnnabghaaZ01WWords
import Derived.Test.YtcjalfgnnabghaaZ01Short
namespace Go.Proofs.Ytcjalfgnnabghaa.H
open Go.RowKit Go.Proofs.YtcjalfgnnabghaaW.PrintWords Go.Proofs.YtcjalfgnnabghaaW.PrintLast Go.Proofs.YtcjalfgnnabghaaW.PrintMore
attribute [local go_sem] max2_int min2_int max_two min_two max_three min_three max_four min_four
set_option maxHeartbeats 8000000
set_option maxRecDepth 100000
set_option linter.unusedVariables false
set_option linter.unusedSimpArgs false
def laws_heldChart.f (k : Nat) (a0_0 : Int) (a0_1 : Int) (l0_2 : List Int) (a1 : Int) : Option (Int) := (laws_heldIntS.f k l0_2 a1).bind fun t273 => (if t273 < 0 then (some (-1)) else (some t273))
theorem laws_heldChart.calls (k : Nat) (Ag : Int) (Ah : Int) (Ad : Option Addr) (Ae : Nat) (Aa : List Int) (a1 : Int) (r : Int) (w : World) (Ai : Kd.C (Kd.int .i64) w Ad Aa.length Aa) (Aj : Aa.length ≤ Ae) (h : laws_heldChart.f k Ag Ah Aa a1 = some r) :
  Calls Try.prog 21 #[.agg #[.int .i64 Ag, .int .i64 Ah, .slice Ad Aa.length Ae], .int .i64 a1] w fun e w' => e = .returned (.int .i64 r) ∧ Below w.heap.size w w' := by
 have hu28 := Try.underlying28; have Ak := Aside0.mk Ai; have Al := Aside0.mk Aj; clear Ai Aj; have HB := aM (Below.refl w.heap.size w); have H : ((laws_heldIntS.f k Aa a1).bind fun Ab => (if Ab < 0 then (some (-1)) else (some Ab))) = some r := h; clear h; replace H := Option.bind_eq_some_iff.mp H; obtain ⟨Ab, Bb, H⟩ := H; replace H : (if Ab < 0 then (some (-1)) else (some Ab)) = some r := H; have A3 := Aside0.mk Bb; clear Bb
 by_cases c4 : Ab < 0
 ·rw [if_pos c4] at H
  have c4b0 : decide (Ab < 0) = true := decide_eq_true c4; clear c4; obtain rfl := Option.some.inj H
  go_enter Try.func21, Try.ntmps21
  go_wp2_with (first | ((with_reducible refine gate_dst (N := 2) rfl ?_); refine bxE 2 #[.int .i64 Ag, .int .i64 Ah, .slice Ad Aa.length Ae] 28 ?_; intro Am hg w5 hbox hb; have Ac := aM (hbox); have An := gwS hg Z1; have Af := gwS hg Z1; replace HB := hbS Z1 hb; clear hb hbox hg; obtain ⟨Ap, Aq, Ar⟩ := bz3 Ac; obtain ⟨Au, Av, Aw⟩ := fz3 Ac) | ((with_reducible refine gate_callee (f := 28) rfl ?_); refine glE (some 8) Try.func28 #[.slice Ad Aa.length Ae, .int .i64 a1] ?_; (with_reducible refine (laws_heldIntS.calls k _ _ Aa a1 Ab _ ?side1 ?side2 A3.out).mono ?_); (case side1 => exact Z67); (case side2 => exact Al.out); rintro e w' ⟨rfl, ⟨nd, rfl⟩⟩; refine ⟨_, rfl, ?_⟩))
  go_ret
  exact ⟨Z12, Z72⟩
 ·rw [if_neg c4] at H
  have c4b0 : decide (Ab < 0) = false := decide_eq_false c4; clear c4; obtain rfl := Option.some.inj H
  go_enter Try.func21, Try.ntmps21
  go_wp2_with (first | ((with_reducible refine gate_dst (N := 2) rfl ?_); refine bxE 2 #[.int .i64 Ag, .int .i64 Ah, .slice Ad Aa.length Ae] 28 ?_; intro Am hg w7 hbox hb; have Ac := aM (hbox); have An := gwS hg Z1; have Af := gwS hg Z1; replace HB := hbS Z1 hb; clear hb hbox hg; obtain ⟨Ax, Ay, Az⟩ := bz3 Ac; obtain ⟨A6, A8, Ba⟩ := fz3 Ac) | ((with_reducible refine gate_callee (f := 28) rfl ?_); refine glE (some 8) Try.func28 #[.slice Ad Aa.length Ae, .int .i64 a1] ?_; (with_reducible refine (laws_heldIntS.calls k _ _ Aa a1 Ab _ ?side1 ?side2 A3.out).mono ?_); (case side1 => exact Z67); (case side2 => exact Al.out); rintro e w' ⟨rfl, ⟨nd, rfl⟩⟩; refine ⟨_, rfl, ?_⟩))
  go_ret
  exact ⟨Z12, Z72⟩
end Go.Proofs.Ytcjalfgnnabghaa.H
