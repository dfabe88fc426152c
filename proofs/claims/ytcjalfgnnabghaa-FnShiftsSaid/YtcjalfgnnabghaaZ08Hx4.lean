-- by wip/pack.py of this repo
import Derived.Test.YtcjalfgnnabghaaZ08Hx0
import Derived.Test.YtcjalfgnnabghaaZ08Hx2
import Derived.Test.YtcjalfgnnabghaaZ08WLast
import Derived.Test.YtcjalfgnnabghaaZ08WMore
import Derived.Test.YtcjalfgnnabghaaZ08WWords
import Derived.Test.YtcjalfgnnabghaaZ08Short
namespace Go.Proofs.Ytcjalfgnnabghaa.H
open Go.RowKit Go.Proofs.YtcjalfgnnabghaaW.PrintWords Go.Proofs.YtcjalfgnnabghaaW.PrintLast Go.Proofs.YtcjalfgnnabghaaW.PrintMore
attribute [local go_sem] max2_int min2_int max_two min_two max_three min_three max_four min_four
set_option maxHeartbeats 8000000
set_option maxRecDepth 100000
set_option linter.unusedVariables false
set_option linter.unusedSimpArgs false
def spec_l2Within.f (k : Nat) (a0_0 : Int) (a0_1 : Int) (l0_2 : List Int) (a1 : Int) (a2 : Int) : Option (Bool) := (spec_l2Good.f k a0_0 a0_1 l0_2).bind fun t117 => (if t117 = true then ((spec_l1In.f a1 0 (wrap64 (a0_1 - 1))).bind fun t118 => (if t118 = true then ((spec_l1In.f a2 0 (wrap64 (a0_0 - 1))).bind fun t119 => (some t119)) else (some false))) else (some false))
theorem spec_l2Within.calls (k : Nat) (Ab : Int) (Ac : Int) (Ag : Option Addr) (Ah : Nat) (Ad : List Int) (a1 : Int) (a2 : Int) (r : Bool) (w : World) (Am : Kd.C (Kd.int .i64) w Ag Ad.length Ad) (An : Ad.length ≤ Ah) (h : spec_l2Within.f k Ab Ac Ad a1 a2 = some r) :
  Calls Try.prog 64 #[.agg #[.int .i64 Ab, .int .i64 Ac, .slice Ag Ad.length Ah], .int .i64 a1, .int .i64 a2] w fun e w' => e = .returned (.bool r) ∧ Below w.heap.size w w' := by
 have hu28 := Try.underlying28; have Aj := Aside0.mk Am; have Ak := Aside0.mk An; clear Am An; have HB := aM (Below.refl w.heap.size w); have H : ((spec_l2Good.f k Ab Ac Ad).bind fun Al => (if Al = true then ((spec_l1In.f a1 0 (wrap64 (Ac - 1))).bind fun Ai => (if Ai = true then ((spec_l1In.f a2 0 (wrap64 (Ab - 1))).bind fun Af => (some Af)) else (some false))) else (some false))) = some r := h; clear h; replace H := Option.bind_eq_some_iff.mp H; obtain ⟨Al, Bz, H⟩ := H; replace H : (if Al = true then ((spec_l1In.f a1 0 (wrap64 (Ac - 1))).bind fun Ai => (if Ai = true then ((spec_l1In.f a2 0 (wrap64 (Ab - 1))).bind fun Af => (some Af)) else (some false))) else (some false)) = some r := H; have A4 := Aside0.mk Bz; clear Bz
 by_cases c5 : Al = true
 ·subst c5
  have H1 : ((spec_l1In.f a1 0 (wrap64 (Ac - 1))).bind fun Ai => (if Ai = true then ((spec_l1In.f a2 0 (wrap64 (Ab - 1))).bind fun Af => (some Af)) else (some false))) = some r := by rw [if_pos rfl] at H; exact H
  clear H; have H := H1; clear H1; replace H := Option.bind_eq_some_iff.mp H; obtain ⟨Ai, B0, H⟩ := H; replace H : (if Ai = true then ((spec_l1In.f a2 0 (wrap64 (Ab - 1))).bind fun Af => (some Af)) else (some false)) = some r := H; have A6 := Aside0.mk B0; clear B0
  by_cases c7 : Ai = true
  ·subst c7
   have H1 : ((spec_l1In.f a2 0 (wrap64 (Ab - 1))).bind fun Af => (some Af)) = some r := by rw [if_pos rfl] at H; exact H
   clear H; have H := H1; clear H1; replace H := Option.bind_eq_some_iff.mp H; obtain ⟨Af, B6, H⟩ := H; replace H : (some Af) = some r := H; have A8 := Aside0.mk B6; clear B6; obtain rfl := Option.some.inj H
   go_enter Try.func64, Try.ntmps64
   go_wp2_with (first | ((with_reducible refine gate_dst (N := 3) rfl ?_); refine bxE 3 #[.int .i64 Ab, .int .i64 Ac, .slice Ag Ad.length Ah] 28 ?_; intro Ap hg w9 hbox hb; have Aa := aM (hbox); have Aq := gwS hg Z0; have Ae := gwS hg Z0; replace HB := hbS Z0 hb; clear hb hbox hg; obtain ⟨Ar, Au, Av⟩ := bz3 Aa; obtain ⟨Aw, Ax, Ay⟩ := fz3 Aa) | ((with_reducible refine gate_callee (f := 71) rfl ?_); refine glE (some 8) Try.func71 #[.agg #[.int .i64 Ab, .int .i64 Ac, .slice Ag Ad.length Ah]] ?_; (with_reducible refine (spec_l2Good.calls k Ab Ac _ _ Ad true _ ?side1 ?side2 A4.out).mono ?_); (case side1 => exact Z166); (case side2 => exact Ak.out); rintro e B9 ⟨rfl, hb⟩; refine ⟨_, rfl, ?_⟩; replace Aa := bkB Aa hb; replace HB := hbS Z68 hb; (try clear hb); obtain ⟨Az, Ba, Bb⟩ := bz3 Aa; obtain ⟨Bc, Bd, Bf⟩ := fz3 Aa) | (go_at_call 72; (with_reducible refine (spec_l1In.calls a1 0 (wrap64 (Ac - 1)) true _ A6.out).mono ?_); rintro e w' ⟨rfl, ⟨nd, rfl⟩⟩) | (go_at_call 72; (with_reducible refine (spec_l1In.calls a2 0 (wrap64 (Ab - 1)) Af _ A8.out).mono ?_); rintro e w' ⟨rfl, ⟨nd, rfl⟩⟩))
   go_ret
   exact ⟨Z9, Z68⟩
  ·replace c7 := Bool.eq_false_iff.mpr c7
   subst c7
   have H1 : (some false) = some r := by rw [if_neg (show ¬ (false = true) by decide)] at H; exact H
   clear H; have H := H1; clear H1; obtain rfl := Option.some.inj H
   go_enter Try.func64, Try.ntmps64
   go_wp2_with (first | ((with_reducible refine gate_dst (N := 3) rfl ?_); refine bxE 3 #[.int .i64 Ab, .int .i64 Ac, .slice Ag Ad.length Ah] 28 ?_; intro Ap hg Ca hbox hb; have Aa := aM (hbox); have Aq := gwS hg Z0; have Ae := gwS hg Z0; replace HB := hbS Z0 hb; clear hb hbox hg; obtain ⟨Bg, Bh, Bi⟩ := bz3 Aa; obtain ⟨Bj, Bk, Bl⟩ := fz3 Aa) | ((with_reducible refine gate_callee (f := 71) rfl ?_); refine glE (some 8) Try.func71 #[.agg #[.int .i64 Ab, .int .i64 Ac, .slice Ag Ad.length Ah]] ?_; (with_reducible refine (spec_l2Good.calls k Ab Ac _ _ Ad true _ ?side1 ?side2 A4.out).mono ?_); (case side1 => exact Z166); (case side2 => exact Ak.out); rintro e Cb ⟨rfl, hb⟩; refine ⟨_, rfl, ?_⟩; replace Aa := bkB Aa hb; replace HB := hbS Z68 hb; (try clear hb); obtain ⟨Bm, Bn, Bo⟩ := bz3 Aa; obtain ⟨Bp, Bq, Br⟩ := fz3 Aa) | (go_at_call 72; (with_reducible refine (spec_l1In.calls a1 0 (wrap64 (Ac - 1)) false _ A6.out).mono ?_); rintro e w' ⟨rfl, ⟨nd, rfl⟩⟩))
   go_ret
   exact ⟨Z9, Z68⟩
 ·replace c5 := Bool.eq_false_iff.mpr c5
  subst c5
  have H1 : (some false) = some r := by rw [if_neg (show ¬ (false = true) by decide)] at H; exact H
  clear H; have H := H1; clear H1; obtain rfl := Option.some.inj H
  go_enter Try.func64, Try.ntmps64
  go_wp2_with (first | ((with_reducible refine gate_dst (N := 3) rfl ?_); refine bxE 3 #[.int .i64 Ab, .int .i64 Ac, .slice Ag Ad.length Ah] 28 ?_; intro Ap hg Cc hbox hb; have Aa := aM (hbox); have Aq := gwS hg Z0; have Ae := gwS hg Z0; replace HB := hbS Z0 hb; clear hb hbox hg; obtain ⟨Bs, Bt, Bu⟩ := bz3 Aa; obtain ⟨Bv, Bw, Bx⟩ := fz3 Aa) | ((with_reducible refine gate_callee (f := 71) rfl ?_); refine glE (some 8) Try.func71 #[.agg #[.int .i64 Ab, .int .i64 Ac, .slice Ag Ad.length Ah]] ?_; (with_reducible refine (spec_l2Good.calls k Ab Ac _ _ Ad false _ ?side1 ?side2 A4.out).mono ?_); (case side1 => exact Z166); (case side2 => exact Ak.out); rintro e Cd ⟨rfl, hb⟩; refine ⟨_, rfl, ?_⟩; replace Aa := bkB Aa hb; replace HB := hbS Z68 hb; (try clear hb)))
  go_ret
  exact ⟨Z9, Z68⟩
def spec_l2At.f (a0_0 : Int) (a0_1 : Int) (l0_2 : List Int) (a1 : Int) (a2 : Int) : Option (Int) := if 0 ≤ (wrap64 ((wrap64 (a1 * a0_0)) + a2)) then (if (wrap64 ((wrap64 (a1 * a0_0)) + a2)) < (l0_2.length : Int) then (some (rd l0_2 (wrap64 ((wrap64 (a1 * a0_0)) + a2)))) else (none)) else (none)
theorem spec_l2At.calls (Ac : Int) (Ag : Int) (Ah : Option Addr) (Ai : Nat) (Aa : List Int) (a1 : Int) (a2 : Int) (r : Int) (w : World) (Ad : Kd.C (Kd.int .i64) w Ah Aa.length Aa) (Ae : Aa.length ≤ Ai) (h : spec_l2At.f Ac Ag Aa a1 a2 = some r) :
  Calls Try.prog 65 #[.agg #[.int .i64 Ac, .int .i64 Ag, .slice Ah Aa.length Ai], .int .i64 a1, .int .i64 a2] w fun e w' => e = .returned (.int .i64 r) ∧ Below w.heap.size w w' := by
 have hu28 := Try.underlying28; have Al := Aside0.mk Ad; have Aw := Aside0.mk Ae; clear Ad Ae; have HB := aM (Below.refl w.heap.size w); have H : (if 0 ≤ (wrap64 ((wrap64 (a1 * Ac)) + a2)) then (if (wrap64 ((wrap64 (a1 * Ac)) + a2)) < (Aa.length : Int) then (some (rd Aa (wrap64 ((wrap64 (a1 * Ac)) + a2)))) else (none)) else (none)) = some r := h; clear h; obtain ⟨ji4, hji4⟩ : ∃ j_ : Int, (wrap64 ((wrap64 (a1 * Ac)) + a2)) = j_ := ⟨_, rfl⟩
 replace H : (if 0 ≤ (ji4) then (if (ji4) < (Aa.length : Int) then (some (rd Aa (ji4))) else (none)) else (none)) = some r := by first | (rw [hji4] at H; exact H) | (simp only [hji4] at H ⊢; exact H)
 have hji4w : (IntKind.i64.wrap ((wrap64 (a1 * Ac)) + a2)) = ji4 := (i64_w _).trans hji4
 by_cases c5 : 0 ≤ (ji4)
 ·rw [if_pos c5] at H
  have c5b0 : decide (0 ≤ (ji4)) = true := decide_eq_true c5; clear c5
  by_cases c6 : (ji4) < (Aa.length : Int)
  ·rw [if_pos c6] at H
   have c6b0 : decide ((ji4) < (Aa.length : Int)) = true := decide_eq_true c6; clear c6; obtain rfl := Option.some.inj H
   go_enter Try.func65, Try.ntmps65
   go_wp2_with (first | ((with_reducible refine gate_dst (N := 3) rfl ?_); refine bxE 3 #[.int .i64 Ac, .int .i64 Ag, .slice Ah Aa.length Ai] 28 ?_; intro Ax hg w7 hbox hb; have Af := aM (hbox); have Ay := gwS hg Z0; have Am := gwS hg Z0; replace HB := hbS Z0 hb; clear hb hbox hg; obtain ⟨An, Ap, Aq⟩ := bz3 Af; obtain ⟨Ar, Au, Av⟩ := fz3 Af; have Aj : 0 ≤ ((ji4) : Int) := of_decide_eq_true Z58; have Ak : (ji4) < (Aa.length : Int) := of_decide_eq_true Z58; obtain ⟨ad121, e121, Ab⟩ := Kd.at_int Al.out (ji4) Aj Ak; cases e121; replace Ab := (HB.out.cell (World.block_lt_of_cell? w _ Ab)).trans Ab; replace Aj := eq_true Aj; replace Ak := eq_true Ak))
   go_ret
   exact ⟨Z209, Z97⟩
  ·rw [if_neg c6] at H
   exact absurd H (by simp)
 ·rw [if_neg c5] at H
  exact absurd H (by simp)
def impl_Chart_hasPlace.f (a0_0 : Int) (a0_1 : Int) (l0_2 : List Int) (a1 : Int) (a2 : Int) : Option (Bool) := (impl_in.f a1 0 (wrap64 (a0_1 - 1))).bind fun t167 => (if t167 = true then ((impl_in.f a2 0 (wrap64 (a0_0 - 1))).bind fun t168 => (some t168)) else (some false))
theorem impl_Chart_hasPlace.calls (Ab : Int) (Aa : Int) (Ag : Option Addr) (Ah : Nat) (Ae : List Int) (a1 : Int) (a2 : Int) (r : Bool) (w : World) (Aj : Kd.C (Kd.int .i64) w Ag Ae.length Ae) (Ak : Ae.length ≤ Ah) (h : impl_Chart_hasPlace.f Ab Aa Ae a1 a2 = some r) :
  Calls Try.prog 70 #[.agg #[.int .i64 Ab, .int .i64 Aa, .slice Ag Ae.length Ah], .int .i64 a1, .int .i64 a2] w fun e w' => e = .returned (.bool r) ∧ Below w.heap.size w w' := by
 have hu28 := Try.underlying28; have Bc := Aside0.mk Aj; have Bd := Aside0.mk Ak; clear Aj Ak; have HB := aM (Below.refl w.heap.size w); have H : ((impl_in.f a1 0 (wrap64 (Aa - 1))).bind fun Ai => (if Ai = true then ((impl_in.f a2 0 (wrap64 (Ab - 1))).bind fun Ac => (some Ac)) else (some false))) = some r := h; clear h; replace H := Option.bind_eq_some_iff.mp H; obtain ⟨Ai, Bf, H⟩ := H; replace H : (if Ai = true then ((impl_in.f a2 0 (wrap64 (Ab - 1))).bind fun Ac => (some Ac)) else (some false)) = some r := H; have A4 := Aside0.mk Bf; clear Bf
 by_cases c5 : Ai = true
 ·subst c5
  have H1 : ((impl_in.f a2 0 (wrap64 (Ab - 1))).bind fun Ac => (some Ac)) = some r := by rw [if_pos rfl] at H; exact H
  clear H; have H := H1; clear H1; replace H := Option.bind_eq_some_iff.mp H; obtain ⟨Ac, Bg, H⟩ := H; replace H : (some Ac) = some r := H; have A6 := Aside0.mk Bg; clear Bg; obtain rfl := Option.some.inj H
  go_enter Try.func70, Try.ntmps70
  go_wp2_with (first | ((with_reducible refine gate_dst (N := 3) rfl ?_); refine bxE 3 #[.int .i64 Ab, .int .i64 Aa, .slice Ag Ae.length Ah] 28 ?_; intro Al hg w7 hbox hb; have Ad := aM (hbox); have Am := gwS hg Z0; have Af := gwS hg Z0; replace HB := hbS Z0 hb; clear hb hbox hg; obtain ⟨Aw, Ax, Ay⟩ := bz3 Ad; obtain ⟨Az, Ba, Bb⟩ := fz3 Ad) | ((with_reducible refine gate_callee (f := 73) rfl ?_); refine glE (some 11) Try.func73 #[.int .i64 a1, .int .i64 0, .int .i64 (wrap64 (Aa - 1))] ?_; (with_reducible refine (impl_in.calls a1 0 (wrap64 (Aa - 1)) true _ A4.out).mono ?_); rintro e w' ⟨rfl, ⟨nd, rfl⟩⟩; refine ⟨_, rfl, ?_⟩) | (go_at_call 73; (with_reducible refine (impl_in.calls a2 0 (wrap64 (Ab - 1)) Ac _ A6.out).mono ?_); rintro e w' ⟨rfl, ⟨nd, rfl⟩⟩))
  go_ret
  exact ⟨Z9, Z133⟩
 ·replace c5 := Bool.eq_false_iff.mpr c5
  subst c5
  have H1 : (some false) = some r := by rw [if_neg (show ¬ (false = true) by decide)] at H; exact H
  clear H; have H := H1; clear H1; obtain rfl := Option.some.inj H
  go_enter Try.func70, Try.ntmps70
  go_wp2_with (first | ((with_reducible refine gate_dst (N := 3) rfl ?_); refine bxE 3 #[.int .i64 Ab, .int .i64 Aa, .slice Ag Ae.length Ah] 28 ?_; intro Al hg w9 hbox hb; have Ad := aM (hbox); have Am := gwS hg Z0; have Af := gwS hg Z0; replace HB := hbS Z0 hb; clear hb hbox hg; obtain ⟨An, Ap, Aq⟩ := bz3 Ad; obtain ⟨Ar, Au, Av⟩ := fz3 Ad) | ((with_reducible refine gate_callee (f := 73) rfl ?_); refine glE (some 11) Try.func73 #[.int .i64 a1, .int .i64 0, .int .i64 (wrap64 (Aa - 1))] ?_; (with_reducible refine (impl_in.calls a1 0 (wrap64 (Aa - 1)) false _ A4.out).mono ?_); rintro e w' ⟨rfl, ⟨nd, rfl⟩⟩; refine ⟨_, rfl, ?_⟩))
  go_ret
  exact ⟨Z9, Z133⟩
end Go.Proofs.Ytcjalfgnnabghaa.H
