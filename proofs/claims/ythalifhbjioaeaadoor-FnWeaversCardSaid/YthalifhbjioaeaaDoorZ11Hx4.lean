-- by wip/pack.py of this repo
import Derived.Test.YthalifhbjioaeaaDoorZ11Hx0
import Derived.Test.YthalifhbjioaeaaDoorZ11Hx2
import Derived.Test.YthalifhbjioaeaaDoorZ11Hx3
import Derived.Test.YthalifhbjioaeaaDoorZ11WApart
import Derived.Test.YthalifhbjioaeaaDoorZ11WLast
import Derived.Test.YthalifhbjioaeaaDoorZ11WMore
import Derived.Test.YthalifhbjioaeaaDoorZ11WN
import Derived.Test.YthalifhbjioaeaaDoorZ11WWords
import Derived.Test.YthalifhbjioaeaaDoorZ11Short
namespace Go.Proofs.YthalifhbjioaeaaDoor.H
open Go.RowKit Go.Proofs.YthalifhbjioaeaaDoorW.PrintWords Go.Proofs.YthalifhbjioaeaaDoorW.PrintLast Go.Proofs.YthalifhbjioaeaaDoorW.PrintMore
attribute [local go_sem] max2_int min2_int max_two min_two max_three min_three max_four min_four
set_option maxHeartbeats 8000000
set_option maxRecDepth 100000
set_option linter.unusedVariables false
set_option linter.unusedSimpArgs false
def spec_l11Loom.f (a0 : Int) : Option (Bool) := (spec_l1In.f a0 1 99).bind fun t134 => (some t134)
theorem spec_l11Loom.calls (a0 : Int) (r : Bool) (w : World) (h : spec_l11Loom.f a0 = some r) :
  Calls Tryd.prog 68 #[.int .i64 a0] w fun e w' => e = .returned (.bool r) ∧ Drawn0 w w' := by
 have H : ((spec_l1In.f a0 1 99).bind fun Aa => (some Aa)) = some r := h; clear h; replace H := Option.bind_eq_some_iff.mp H; obtain ⟨Aa, Ab, H⟩ := H; replace H : (some Aa) = some r := H; have A2 := Aside0.mk Ab; clear Ab; obtain rfl := Option.some.inj H
 go_enter Tryd.func68, Tryd.ntmps68
 go_wp2_with (first | ((with_reducible refine gate_callee (f := 71) rfl ?_); refine glE (some 4) Tryd.func71 #[.int .i64 a0, .int .i64 1, .int .i64 99] ?_; (with_reducible refine (spec_l1In.calls a0 1 99 Aa _ A2.out).mono ?_); rintro e w' ⟨rfl, ⟨nd, rfl⟩⟩; refine ⟨_, rfl, ?_⟩))
 go_ret
 exact ⟨Z15, Z26⟩
def spec_l11Knots.l0 : Nat → List (S26) → Int → Int → Int → Option (Int)
 | 0, _, _, _, _ => none
 | k + 1, x0, x1, x5, x6 => if x6 < (x0.length : Int) then (if 0 ≤ x6 then (if ((rd_T26 x0 x6).f4) = x1 then (if (Go.bits .and .i64 ((rd_T26 x0 x6).f2) 1) = 0 then (spec_l11Knots.l0 k x0 x1 x5 (wrap64 (x6 + 1))) else (spec_l11Knots.l0 k x0 x1 (wrap64 (x5 + ((rd_T26 x0 x6).f3))) (wrap64 (x6 + 1)))) else (spec_l11Knots.l0 k x0 x1 x5 (wrap64 (x6 + 1)))) else (none)) else (some x5)
def spec_l11Knots.f (k : Nat) (l0 : List (S26)) (a1 : Int) : Option (Int) := spec_l11Knots.l0 k l0 a1 0 0
theorem spec_l11Knots.calls (k : Nat) (A0 : Option Addr) (c0 : Nat) (l0 : List (S26)) (a1 : Int) (r : Int) (w : World) (Ba : Kd.C k26 w A0 l0.length l0) (Bb : l0.length ≤ c0) (h : spec_l11Knots.f k l0 a1 = some r) :
  Calls Tryd.prog 69 #[.slice A0 l0.length c0, .int .i64 a1] w fun e w' => e = .returned (.int .i64 r) ∧ Drawn0 w w' := by
 have Au := Aside0.mk Ba; have Bc := Aside0.mk Bb; clear Ba Bb; have H : (spec_l11Knots.l0 k l0 a1 0 0) = some r := h; clear h; have H' := Aside0.mk H; clear H
 go_enter Tryd.func69, Tryd.ntmps69
 go_wp2
 go_loopg [5, 6] k (fun kq v5 v6 w' => ∃ (Ak : Int) (Aa : Int), v5 = .int .i64 Ak ∧ v6 = .int .i64 Aa ∧ Aside0 (spec_l11Knots.l0 kq l0 a1 Ak Aa = some r) ∧ Aside0 (kq ≤ k) ∧ Drawn0 w w')
 case atStart => exact ⟨(0), (0), Z15, Z15, H', ⟨Nat.le_refl _⟩, Z26⟩
 case round =>
  clear H'; (try clear p2); obtain ⟨Ak, Aa, rfl, rfl, HA, HK1, ⟨m1, rfl⟩⟩ := hrel; cases gk with
  | zero => exact absurd HA.out (by simp [spec_l11Knots.l0])
  | succ k1 =>
   have H := HA.out; clear HA
   simp only [spec_l11Knots.l0] at H
   by_cases c3 : Aa < (l0.length : Int)
   ·rw [if_pos c3] at H
    have c3b0 : decide (Aa < (l0.length : Int)) = true := decide_eq_true c3; clear c3
    by_cases c4 : 0 ≤ Aa
    ·rw [if_pos c4] at H
     have c4b0 : decide (0 ≤ Aa) = true := decide_eq_true c4; clear c4
     by_cases c5 : ((rd_T26 l0 Aa).f4) = a1
     ·rw [if_pos c5] at H
      have c5b0 : (((rd_T26 l0 Aa).f4) == a1) = true := beq_iff_eq.mpr c5; have c5b1 : (((rd_T26 l0 Aa).f4) != a1) = false := bne_eq_false_iff_eq.mpr c5; clear c5
      by_cases c6 : (Go.bits .and .i64 ((rd_T26 l0 Aa).f2) 1) = 0
      ·rw [if_pos c6] at H
       have c6b0 : ((Go.bits .and .i64 ((rd_T26 l0 Aa).f2) 1) == 0) = true := beq_iff_eq.mpr c6; have c6b1 : ((Go.bits .and .i64 ((rd_T26 l0 Aa).f2) 1) != 0) = false := bne_eq_false_iff_eq.mpr c6; clear c6; have H' := Aside0.mk H; clear H; have Ab : 0 ≤ (Aa : Int) := of_decide_eq_true Z11; have Ac : Aa < (l0.length : Int) := of_decide_eq_true Z11; obtain ⟨ad135, e135, Af, Ag, Ah, Ai, Aj⟩ := at_T26 Au.out Aa Ab Ac; cases e135; replace Ab := eq_true Ab; replace Ac := eq_true Ac; have Ad : 0 ≤ (Aa : Int) := of_decide_eq_true Z11; have Ae : Aa < (l0.length : Int) := of_decide_eq_true Z11; obtain ⟨ad136, e136, Al, Am, An, Ao, Ap⟩ := at_T26 Au.out Aa Ad Ae; obtain rfl : ad135 = ad136 := (by injection e136); replace Ad := eq_true Ad; replace Ae := eq_true Ae
       go_wp2
       go_roundg k1
       case measure => have := HK1.out; omega
       case rel => exact ⟨(Ak), (wrap64 (Aa + 1)), Z15, Z15, H', ⟨Z50⟩, Z26⟩
      ·rw [if_neg c6] at H
       have c6b0 : ((Go.bits .and .i64 ((rd_T26 l0 Aa).f2) 1) == 0) = false := beq_eq_false_iff_ne.mpr c6; have c6b1 : ((Go.bits .and .i64 ((rd_T26 l0 Aa).f2) 1) != 0) = true := bne_iff_ne.mpr c6; have H' := Aside0.mk H; clear H; have Ab : 0 ≤ (Aa : Int) := of_decide_eq_true Z11; have Ac : Aa < (l0.length : Int) := of_decide_eq_true Z11; obtain ⟨ad135, e135, Af, Ag, Ah, Ai, Aj⟩ := at_T26 Au.out Aa Ab Ac; cases e135; replace Ab := eq_true Ab; replace Ac := eq_true Ac; have Ad : 0 ≤ (Aa : Int) := of_decide_eq_true Z11; have Ae : Aa < (l0.length : Int) := of_decide_eq_true Z11; obtain ⟨ad136, e136, Al, Am, An, Ao, Ap⟩ := at_T26 Au.out Aa Ad Ae; obtain rfl : ad135 = ad136 := (by injection e136); replace Ad := eq_true Ad; replace Ae := eq_true Ae; have Aq : 0 ≤ (Aa : Int) := of_decide_eq_true Z11; have Ar : Aa < (l0.length : Int) := of_decide_eq_true Z11; obtain ⟨ad137, e137, Av, Aw, Ax, Ay, Az⟩ := at_T26 Au.out Aa Aq Ar; obtain rfl : ad135 = ad137 := (by injection e137); replace Aq := eq_true Aq; replace Ar := eq_true Ar
       go_wp2
       go_roundg k1
       case measure => have := HK1.out; omega
       case rel => exact ⟨(wrap64 (Ak + ((rd_T26 l0 Aa).f3))), (wrap64 (Aa + 1)), Z15, Z15, H', ⟨Z50⟩, Z26⟩
     ·rw [if_neg c5] at H
      have c5b0 : (((rd_T26 l0 Aa).f4) == a1) = false := beq_eq_false_iff_ne.mpr c5; have c5b1 : (((rd_T26 l0 Aa).f4) != a1) = true := bne_iff_ne.mpr c5; have H' := Aside0.mk H; clear H; have Ab : 0 ≤ (Aa : Int) := of_decide_eq_true Z11; have Ac : Aa < (l0.length : Int) := of_decide_eq_true Z11; obtain ⟨ad135, e135, Af, Ag, Ah, Ai, Aj⟩ := at_T26 Au.out Aa Ab Ac; cases e135; replace Ab := eq_true Ab; replace Ac := eq_true Ac
      go_wp2
      go_roundg k1
      case measure => have := HK1.out; omega
      case rel => exact ⟨(Ak), (wrap64 (Aa + 1)), Z15, Z15, H', ⟨Z50⟩, Z26⟩
    ·rw [if_neg c4] at H
     exact absurd H (by simp)
   ·rw [if_neg c3] at H
    have c3b0 : decide (Aa < (l0.length : Int)) = false := decide_eq_false c3; clear c3; obtain rfl := Option.some.inj H
    go_wp2
    go_ret
    exact ⟨Z15, Z26⟩
def spec_DaysForKnots.j0 : Nat → List (S26) → Int → Int → Bool → Option (Int × Bool)
 | 0, _, _, _, _ => none
 | k + 1, x0, x1, x2, x21 => if x21 = true then (some (0, false)) else ((spec_l11Knots.f k x0 x1).bind fun t141 => (if t141 = 0 then (some (0, (x2 == 0))) else (some (wrap64 (Int.tdiv (wrap64 ((wrap64 (x2 + t141)) - 1)) t141), true))))
def spec_DaysForKnots.f (k : Nat) (l0 : List (S26)) (a1 : Int) (a2 : Int) : Option (Int × Bool) := (spec_l11Good.f k l0).bind fun t138 => (if t138 = true then ((spec_l11Loom.f a1).bind fun t139 => (if t139 = true then ((spec_l1In.f a2 0 10000000).bind fun t140 => (spec_DaysForKnots.j0 k l0 a1 a2 (!t140))) else (spec_DaysForKnots.j0 k l0 a1 a2 true))) else (spec_DaysForKnots.j0 k l0 a1 a2 true))
theorem spec_DaysForKnots.calls (k : Nat) (A0 : Option Addr) (c0 : Nat) (l0 : List (S26)) (a1 : Int) (a2 : Int) (r1 : Int) (r2 : Bool) (w : World) (Am : Kd.C k26 w A0 l0.length l0) (An : l0.length ≤ c0) (h : spec_DaysForKnots.f k l0 a1 a2 = some (r1, r2)) :
  Calls Tryd.prog 26 #[.slice A0 l0.length c0, .int .i64 a1, .int .i64 a2] w fun e w' => e = .returned (.tuple #[.int .i64 r1, .bool r2]) ∧ Below w.heap.size w w' := by
 have Ag := Aside0.mk Am; have Ah := Aside0.mk An; clear Am An; have HB := aM (Below.refl w.heap.size w); have H : ((spec_l11Good.f k l0).bind fun Ae => (if Ae = true then ((spec_l11Loom.f a1).bind fun Ac => (if Ac = true then ((spec_l1In.f a2 0 10000000).bind fun Ab => (spec_DaysForKnots.j0 k l0 a1 a2 (!Ab))) else (spec_DaysForKnots.j0 k l0 a1 a2 true))) else (spec_DaysForKnots.j0 k l0 a1 a2 true))) = some (r1, r2) := h; clear h; have Ak := Aside0.mk H; clear H
 go_enter Tryd.func26, Tryd.ntmps26
 go_upto_region 1 with (fail)
 go_cut [21] (fun Au wc => ∃ (kq : Nat) (Ad : Bool), Au = .bool Ad ∧ Aside0 (spec_DaysForKnots.j0 kq l0 a1 a2 Ad = some (r1, r2)) ∧ Aside0 (kq ≤ k) ∧ Aside0 (Below w.heap.size w wc))
 case first =>
  have H := Ak.out; clear Ak; replace H := Option.bind_eq_some_iff.mp H; obtain ⟨Ae, Ao, H⟩ := H; replace H : (if Ae = true then ((spec_l11Loom.f a1).bind fun Ac => (if Ac = true then ((spec_l1In.f a2 0 10000000).bind fun Ab => (spec_DaysForKnots.j0 k l0 a1 a2 (!Ab))) else (spec_DaysForKnots.j0 k l0 a1 a2 true))) else (spec_DaysForKnots.j0 k l0 a1 a2 true)) = some (r1, r2) := H; have A5 := Aside0.mk Ao; clear Ao
  by_cases c6 : Ae = true
  ·subst c6
   have H1 : ((spec_l11Loom.f a1).bind fun Ac => (if Ac = true then ((spec_l1In.f a2 0 10000000).bind fun Ab => (spec_DaysForKnots.j0 k l0 a1 a2 (!Ab))) else (spec_DaysForKnots.j0 k l0 a1 a2 true))) = some (r1, r2) := by rw [if_pos rfl] at H; exact H
   clear H; have H := H1; clear H1; replace H := Option.bind_eq_some_iff.mp H; obtain ⟨Ac, Ap, H⟩ := H; replace H : (if Ac = true then ((spec_l1In.f a2 0 10000000).bind fun Ab => (spec_DaysForKnots.j0 k l0 a1 a2 (!Ab))) else (spec_DaysForKnots.j0 k l0 a1 a2 true)) = some (r1, r2) := H; have A7 := Aside0.mk Ap; clear Ap
   by_cases c8 : Ac = true
   ·subst c8
    have H1 : ((spec_l1In.f a2 0 10000000).bind fun Ab => (spec_DaysForKnots.j0 k l0 a1 a2 (!Ab))) = some (r1, r2) := by rw [if_pos rfl] at H; exact H
    clear H; have H := H1; clear H1; replace H := Option.bind_eq_some_iff.mp H; obtain ⟨Ab, Aq, H⟩ := H; replace H : (spec_DaysForKnots.j0 k l0 a1 a2 (!Ab)) = some (r1, r2) := H; have A9 := Aside0.mk Aq; clear Aq; have H' := Aside0.mk H; clear H
    go_wp2_with (first | ((with_reducible refine gate_callee (f := 61) rfl ?_); refine glE (some 10) Tryd.func61 #[.slice A0 l0.length c0] ?_; (with_reducible refine (spec_l11Good.calls k _ _ l0 true _ ?side1 ?side2 A5.out).mono ?_); (case side1 => exact Z44); (case side2 => exact Ah.out); rintro e Av ⟨rfl, hb⟩; refine ⟨_, rfl, ?_⟩; replace HB := hbS Z0 hb; (try clear hb)) | (go_at_call 68; (with_reducible refine (spec_l11Loom.calls a1 true _ A7.out).mono ?_); rintro e w' ⟨rfl, ⟨nd, rfl⟩⟩) | (go_at_call 71; (with_reducible refine (spec_l1In.calls a2 0 10000000 Ab _ A9.out).mono ?_); rintro e w' ⟨rfl, ⟨nd, rfl⟩⟩))
    go_meet
    case rel => exact ⟨_, (!Ab), Z15, H', ⟨Z73⟩, ⟨Z0⟩⟩
   ·replace c8 := Bool.eq_false_iff.mpr c8
    subst c8
    have H1 : (spec_DaysForKnots.j0 k l0 a1 a2 true) = some (r1, r2) := by rw [if_neg (show ¬ (false = true) by decide)] at H; exact H
    clear H; have H := H1; clear H1; have H' := Aside0.mk H; clear H
    go_wp2_with (first | ((with_reducible refine gate_callee (f := 61) rfl ?_); refine glE (some 10) Tryd.func61 #[.slice A0 l0.length c0] ?_; (with_reducible refine (spec_l11Good.calls k _ _ l0 true _ ?side1 ?side2 A5.out).mono ?_); (case side1 => exact Z44); (case side2 => exact Ah.out); rintro e Aw ⟨rfl, hb⟩; refine ⟨_, rfl, ?_⟩; replace HB := hbS Z0 hb; (try clear hb)) | (go_at_call 68; (with_reducible refine (spec_l11Loom.calls a1 false _ A7.out).mono ?_); rintro e w' ⟨rfl, ⟨nd, rfl⟩⟩))
    go_meet
    case rel => exact ⟨_, (true), Z15, H', ⟨Z73⟩, ⟨Z0⟩⟩
  ·replace c6 := Bool.eq_false_iff.mpr c6
   subst c6
   have H1 : (spec_DaysForKnots.j0 k l0 a1 a2 true) = some (r1, r2) := by rw [if_neg (show ¬ (false = true) by decide)] at H; exact H
   clear H; have H := H1; clear H1; have H' := Aside0.mk H; clear H
   go_wp2_with (first | ((with_reducible refine gate_callee (f := 61) rfl ?_); refine glE (some 10) Tryd.func61 #[.slice A0 l0.length c0] ?_; (with_reducible refine (spec_l11Good.calls k _ _ l0 false _ ?side1 ?side2 A5.out).mono ?_); (case side1 => exact Z44); (case side2 => exact Ah.out); rintro e Ax ⟨rfl, hb⟩; refine ⟨_, rfl, ?_⟩; replace HB := hbS Z0 hb; (try clear hb)))
   go_meet
   case rel => exact ⟨_, (true), Z15, H', ⟨Z73⟩, ⟨Z0⟩⟩
 case rest =>
  clear Ak; (try clear c2); (try clear p2); (try clear c6); (try clear c8); obtain ⟨kq, Ad, rfl, HA, HJ3, HB⟩ := hcut; cases kq with
  | zero => exact absurd HA.out (by simp [spec_DaysForKnots.j0])
  | succ Al =>
   have H := HA.out; clear HA
   simp only [spec_DaysForKnots.j0] at H
   by_cases Aj : Ad = true
   ·subst Aj
    have H1 : (some (0, false)) = some (r1, r2) := by rw [if_pos rfl] at H; exact H
    clear H; have H := H1; clear H1
    simp only [Option.some.injEq, Prod.mk.injEq] at H
    obtain ⟨rfl, rfl⟩ := H
    go_wp2
    go_ret2
    exact ⟨Z13, Z0⟩
   ·replace Aj := Bool.eq_false_iff.mpr Aj
    subst Aj
    have H1 : ((spec_l11Knots.f Al l0 a1).bind fun Aa => (if Aa = 0 then (some (0, (a2 == 0))) else (some (wrap64 (Int.tdiv (wrap64 ((wrap64 (a2 + Aa)) - 1)) Aa), true)))) = some (r1, r2) := by rw [if_neg (show ¬ (false = true) by decide)] at H; exact H
    clear H; have H := H1; clear H1; replace H := Option.bind_eq_some_iff.mp H; obtain ⟨Aa, Ai, H⟩ := H; replace H : (if Aa = 0 then (some (0, (a2 == 0))) else (some (wrap64 (Int.tdiv (wrap64 ((wrap64 (a2 + Aa)) - 1)) Aa), true))) = some (r1, r2) := H; have Ar := Aside0.mk Ai; clear Ai
    by_cases Af : Aa = 0
    ·rw [if_pos Af] at H
     have c15b0 : (Aa == 0) = true := beq_iff_eq.mpr Af; have c15b1 : (Aa != 0) = false := bne_eq_false_iff_eq.mpr Af; clear Af
     simp only [Option.some.injEq, Prod.mk.injEq] at H
     obtain ⟨rfl, rfl⟩ := H
     go_wp2_with (first | ((with_reducible refine gate_callee (f := 69) rfl ?_); refine glE (some 24) Tryd.func69 #[.slice A0 l0.length c0, .int .i64 a1] ?_; (with_reducible refine (spec_l11Knots.calls Al _ _ l0 a1 Aa _ ?side1 ?side2 Ar.out).mono ?_); (case side1 => exact Z44); (case side2 => exact Ah.out); rintro e w' ⟨rfl, ⟨nd, rfl⟩⟩; refine ⟨_, rfl, ?_⟩))
     go_ret2
     exact ⟨Z13, Z0⟩
    ·rw [if_neg Af] at H
     have c15b0 : (Aa == 0) = false := beq_eq_false_iff_ne.mpr Af; have c15b1 : (Aa != 0) = true := bne_iff_ne.mpr Af
     simp only [Option.some.injEq, Prod.mk.injEq] at H
     obtain ⟨rfl, rfl⟩ := H
     go_wp2_with (first | ((with_reducible refine gate_callee (f := 69) rfl ?_); refine glE (some 24) Tryd.func69 #[.slice A0 l0.length c0, .int .i64 a1] ?_; (with_reducible refine (spec_l11Knots.calls Al _ _ l0 a1 Aa _ ?side1 ?side2 Ar.out).mono ?_); (case side1 => exact Z44); (case side2 => exact Ah.out); rintro e w' ⟨rfl, ⟨nd, rfl⟩⟩; refine ⟨_, rfl, ?_⟩))
     go_ret2
     exact ⟨Z13, Z0⟩
def impl_ceilDiv.f (a0 : Int) (a1 : Int) : Option (Int) := if a1 = 0 then (none) else (some (wrap64 (Int.tdiv (wrap64 ((wrap64 (a0 + a1)) - 1)) a1)))
theorem impl_ceilDiv.calls (a0 : Int) (a1 : Int) (r : Int) (w : World) (h : impl_ceilDiv.f a0 a1 = some r) :
  Calls Tryd.prog 72 #[.int .i64 a0, .int .i64 a1] w fun e w' => e = .returned (.int .i64 r) ∧ Drawn0 w w' := by
 have H : (if a1 = 0 then (none) else (some (wrap64 (Int.tdiv (wrap64 ((wrap64 (a0 + a1)) - 1)) a1)))) = some r := h; clear h
 by_cases c3 : a1 = 0
 ·rw [if_pos c3] at H
  exact absurd H (by simp)
 ·rw [if_neg c3] at H
  have c3b0 : (a1 == 0) = false := beq_eq_false_iff_ne.mpr c3; have c3b1 : (a1 != 0) = true := bne_iff_ne.mpr c3; obtain rfl := Option.some.inj H
  go_enter Tryd.func72, Tryd.ntmps72
  go_wp2
  go_ret
  exact ⟨Z15, Z26⟩
def impl_DaysForKnots.j0 : Nat → List (S26) → Int → Int → Bool → Option (Int × Bool)
 | 0, _, _, _, _ => none
 | k + 1, x0, x1, x2, x21 => if x21 = true then (some (0, false)) else ((impl_knotsADay.f k x0 x1).bind fun t145 => (if x2 = 0 then (some (0, (x2 == 0))) else (if t145 = 0 then (some (0, (x2 == 0))) else ((impl_ceilDiv.f x2 t145).bind fun t146 => (some (t146, true))))))
def impl_DaysForKnots.f (k : Nat) (l0 : List (S26)) (a1 : Int) (a2 : Int) : Option (Int × Bool) := (impl_AreWeavers.f l0).bind fun t142 => (if t142 = true then ((impl_isId.f a1).bind fun t143 => (if t143 = true then ((impl_in.f a2 0 10000000).bind fun t144 => (impl_DaysForKnots.j0 k l0 a1 a2 (!t144))) else (impl_DaysForKnots.j0 k l0 a1 a2 true))) else (impl_DaysForKnots.j0 k l0 a1 a2 true))
theorem impl_DaysForKnots.calls (k : Nat) (A0 : Option Addr) (c0 : Nat) (l0 : List (S26)) (a1 : Int) (a2 : Int) (r1 : Int) (r2 : Bool) (w : World) (Aq : Kd.C k26 w A0 l0.length l0) (Ar : l0.length ≤ c0) (h : impl_DaysForKnots.f k l0 a1 a2 = some (r1, r2)) :
  Calls Tryd.prog 27 #[.slice A0 l0.length c0, .int .i64 a1, .int .i64 a2] w fun e w' => e = .returned (.tuple #[.int .i64 r1, .bool r2]) ∧ Below w.heap.size w w' := by
 have Ai := Aside0.mk Aq; have Aj := Aside0.mk Ar; clear Aq Ar; have HB := aM (Below.refl w.heap.size w); have H : ((impl_AreWeavers.f l0).bind fun Af => (if Af = true then ((impl_isId.f a1).bind fun Ac => (if Ac = true then ((impl_in.f a2 0 10000000).bind fun Ab => (impl_DaysForKnots.j0 k l0 a1 a2 (!Ab))) else (impl_DaysForKnots.j0 k l0 a1 a2 true))) else (impl_DaysForKnots.j0 k l0 a1 a2 true))) = some (r1, r2) := h; clear h; have Ao := Aside0.mk H; clear H
 go_enter Tryd.func27, Tryd.ntmps27
 go_upto_region 1 with (fail)
 go_cut [21] (fun Ax wc => ∃ (kq : Nat) (Ad : Bool), Ax = .bool Ad ∧ Aside0 (impl_DaysForKnots.j0 kq l0 a1 a2 Ad = some (r1, r2)) ∧ Aside0 (kq ≤ k) ∧ Aside0 (Below w.heap.size w wc))
 case first =>
  have H := Ao.out; clear Ao; replace H := Option.bind_eq_some_iff.mp H; obtain ⟨Af, Au, H⟩ := H; replace H : (if Af = true then ((impl_isId.f a1).bind fun Ac => (if Ac = true then ((impl_in.f a2 0 10000000).bind fun Ab => (impl_DaysForKnots.j0 k l0 a1 a2 (!Ab))) else (impl_DaysForKnots.j0 k l0 a1 a2 true))) else (impl_DaysForKnots.j0 k l0 a1 a2 true)) = some (r1, r2) := H; have A5 := Aside0.mk Au; clear Au
  by_cases c6 : Af = true
  ·subst c6
   have H1 : ((impl_isId.f a1).bind fun Ac => (if Ac = true then ((impl_in.f a2 0 10000000).bind fun Ab => (impl_DaysForKnots.j0 k l0 a1 a2 (!Ab))) else (impl_DaysForKnots.j0 k l0 a1 a2 true))) = some (r1, r2) := by rw [if_pos rfl] at H; exact H
   clear H; have H := H1; clear H1; replace H := Option.bind_eq_some_iff.mp H; obtain ⟨Ac, Av, H⟩ := H; replace H : (if Ac = true then ((impl_in.f a2 0 10000000).bind fun Ab => (impl_DaysForKnots.j0 k l0 a1 a2 (!Ab))) else (impl_DaysForKnots.j0 k l0 a1 a2 true)) = some (r1, r2) := H; have A7 := Aside0.mk Av; clear Av
   by_cases c8 : Ac = true
   ·subst c8
    have H1 : ((impl_in.f a2 0 10000000).bind fun Ab => (impl_DaysForKnots.j0 k l0 a1 a2 (!Ab))) = some (r1, r2) := by rw [if_pos rfl] at H; exact H
    clear H; have H := H1; clear H1; replace H := Option.bind_eq_some_iff.mp H; obtain ⟨Ab, Aw, H⟩ := H; replace H : (impl_DaysForKnots.j0 k l0 a1 a2 (!Ab)) = some (r1, r2) := H; have A9 := Aside0.mk Aw; clear Aw; have H' := Aside0.mk H; clear H
    go_wp2_with (first | ((with_reducible refine gate_callee (f := 22) rfl ?_); refine glE (some 10) Tryd.func22 #[.slice A0 l0.length c0] ?_; (with_reducible refine (impl_AreWeavers.calls _ _ l0 true _ ?side1 ?side2 A5.out).mono ?_); (case side1 => exact Z37); (case side2 => exact Aj.out); rintro e Az ⟨rfl, hb⟩; refine ⟨_, rfl, ?_⟩; replace HB := hbS Z0 hb; (try clear hb)) | (go_at_call 57; (with_reducible refine (impl_isId.calls a1 true _ A7.out).mono ?_); rintro e w' ⟨rfl, ⟨nd, rfl⟩⟩) | (go_at_call 60; (with_reducible refine (impl_in.calls a2 0 10000000 Ab _ A9.out).mono ?_); rintro e w' ⟨rfl, ⟨nd, rfl⟩⟩))
    go_meet
    case rel => exact ⟨_, (!Ab), Z15, H', ⟨Z73⟩, ⟨Z0⟩⟩
   ·replace c8 := Bool.eq_false_iff.mpr c8
    subst c8
    have H1 : (impl_DaysForKnots.j0 k l0 a1 a2 true) = some (r1, r2) := by rw [if_neg (show ¬ (false = true) by decide)] at H; exact H
    clear H; have H := H1; clear H1; have H' := Aside0.mk H; clear H
    go_wp2_with (first | ((with_reducible refine gate_callee (f := 22) rfl ?_); refine glE (some 10) Tryd.func22 #[.slice A0 l0.length c0] ?_; (with_reducible refine (impl_AreWeavers.calls _ _ l0 true _ ?side1 ?side2 A5.out).mono ?_); (case side1 => exact Z37); (case side2 => exact Aj.out); rintro e Ba ⟨rfl, hb⟩; refine ⟨_, rfl, ?_⟩; replace HB := hbS Z0 hb; (try clear hb)) | (go_at_call 57; (with_reducible refine (impl_isId.calls a1 false _ A7.out).mono ?_); rintro e w' ⟨rfl, ⟨nd, rfl⟩⟩))
    go_meet
    case rel => exact ⟨_, (true), Z15, H', ⟨Z73⟩, ⟨Z0⟩⟩
  ·replace c6 := Bool.eq_false_iff.mpr c6
   subst c6
   have H1 : (impl_DaysForKnots.j0 k l0 a1 a2 true) = some (r1, r2) := by rw [if_neg (show ¬ (false = true) by decide)] at H; exact H
   clear H; have H := H1; clear H1; have H' := Aside0.mk H; clear H
   go_wp2_with (first | ((with_reducible refine gate_callee (f := 22) rfl ?_); refine glE (some 10) Tryd.func22 #[.slice A0 l0.length c0] ?_; (with_reducible refine (impl_AreWeavers.calls _ _ l0 false _ ?side1 ?side2 A5.out).mono ?_); (case side1 => exact Z37); (case side2 => exact Aj.out); rintro e Bb ⟨rfl, hb⟩; refine ⟨_, rfl, ?_⟩; replace HB := hbS Z0 hb; (try clear hb)))
   go_meet
   case rel => exact ⟨_, (true), Z15, H', ⟨Z73⟩, ⟨Z0⟩⟩
 case rest =>
  clear Ao; (try clear c2); (try clear p2); (try clear c6); (try clear c8); obtain ⟨kq, Ad, rfl, HA, HJ3, HB⟩ := hcut; cases kq with
  | zero => exact absurd HA.out (by simp [impl_DaysForKnots.j0])
  | succ Am =>
   have H := HA.out; clear HA
   simp only [impl_DaysForKnots.j0] at H
   by_cases An : Ad = true
   ·subst An
    have H1 : (some (0, false)) = some (r1, r2) := by rw [if_pos rfl] at H; exact H
    clear H; have H := H1; clear H1
    simp only [Option.some.injEq, Prod.mk.injEq] at H
    obtain ⟨rfl, rfl⟩ := H
    go_wp2
    go_ret2
    exact ⟨Z13, Z0⟩
   ·replace An := Bool.eq_false_iff.mpr An
    subst An
    have H1 : ((impl_knotsADay.f Am l0 a1).bind fun Aa => (if a2 = 0 then (some (0, (a2 == 0))) else (if Aa = 0 then (some (0, (a2 == 0))) else ((impl_ceilDiv.f a2 Aa).bind fun Ae => (some (Ae, true)))))) = some (r1, r2) := by rw [if_neg (show ¬ (false = true) by decide)] at H; exact H
    clear H; have H := H1; clear H1; replace H := Option.bind_eq_some_iff.mp H; obtain ⟨Aa, Ak, H⟩ := H; replace H : (if a2 = 0 then (some (0, (a2 == 0))) else (if Aa = 0 then (some (0, (a2 == 0))) else ((impl_ceilDiv.f a2 Aa).bind fun Ae => (some (Ae, true))))) = some (r1, r2) := H; have Ap := Aside0.mk Ak; clear Ak
    by_cases Ag : a2 = 0
    ·rw [if_pos Ag] at H
     have c15b0 : (a2 == 0) = true := beq_iff_eq.mpr Ag; have c15b1 : (a2 != 0) = false := bne_eq_false_iff_eq.mpr Ag; clear Ag
     simp only [Option.some.injEq, Prod.mk.injEq] at H
     obtain ⟨rfl, rfl⟩ := H
     go_wp2_with (first | ((with_reducible refine gate_callee (f := 70) rfl ?_); refine glE (some 24) Tryd.func70 #[.slice A0 l0.length c0, .int .i64 a1] ?_; (with_reducible refine (impl_knotsADay.calls Am _ _ l0 a1 Aa _ ?side1 ?side2 Ap.out).mono ?_); (case side1 => exact Z37); (case side2 => exact Aj.out); rintro e Bc ⟨rfl, hb⟩; refine ⟨_, rfl, ?_⟩; replace HB := hbS Z0 hb; (try clear hb)))
     go_ret2
     exact ⟨Z13, Z0⟩
    ·rw [if_neg Ag] at H
     have c15b0 : (a2 == 0) = false := beq_eq_false_iff_ne.mpr Ag; have c15b1 : (a2 != 0) = true := bne_iff_ne.mpr Ag
     by_cases Ah : Aa = 0
     ·rw [if_pos Ah] at H
      have c17b0 : (Aa == 0) = true := beq_iff_eq.mpr Ah; have c17b1 : (Aa != 0) = false := bne_eq_false_iff_eq.mpr Ah; clear Ah
      simp only [Option.some.injEq, Prod.mk.injEq] at H
      obtain ⟨rfl, rfl⟩ := H
      go_wp2_with (first | ((with_reducible refine gate_callee (f := 70) rfl ?_); refine glE (some 24) Tryd.func70 #[.slice A0 l0.length c0, .int .i64 a1] ?_; (with_reducible refine (impl_knotsADay.calls Am _ _ l0 a1 Aa _ ?side1 ?side2 Ap.out).mono ?_); (case side1 => exact Z37); (case side2 => exact Aj.out); rintro e Bd ⟨rfl, hb⟩; refine ⟨_, rfl, ?_⟩; replace HB := hbS Z0 hb; (try clear hb)))
      go_ret2
      exact ⟨Z13, Z0⟩
     ·rw [if_neg Ah] at H
      have c17b0 : (Aa == 0) = false := beq_eq_false_iff_ne.mpr Ah; have c17b1 : (Aa != 0) = true := bne_iff_ne.mpr Ah; replace H := Option.bind_eq_some_iff.mp H; obtain ⟨Ae, Al, H⟩ := H; replace H : (some (Ae, true)) = some (r1, r2) := H; have Ay := Aside0.mk Al; clear Al
      simp only [Option.some.injEq, Prod.mk.injEq] at H
      obtain ⟨rfl, rfl⟩ := H
      go_wp2_with (first | ((with_reducible refine gate_callee (f := 70) rfl ?_); refine glE (some 24) Tryd.func70 #[.slice A0 l0.length c0, .int .i64 a1] ?_; (with_reducible refine (impl_knotsADay.calls Am _ _ l0 a1 Aa _ ?side1 ?side2 Ap.out).mono ?_); (case side1 => exact Z37); (case side2 => exact Aj.out); rintro e Bf ⟨rfl, hb⟩; refine ⟨_, rfl, ?_⟩; replace HB := hbS Z0 hb; (try clear hb)) | ((with_reducible refine gate_callee (f := 72) rfl ?_); refine glE (some 35) Tryd.func72 #[.int .i64 a2, .int .i64 Aa] ?_; (with_reducible refine (impl_ceilDiv.calls a2 Aa Ae _ Ay.out).mono ?_); rintro e w' ⟨rfl, ⟨nd, rfl⟩⟩; refine ⟨_, rfl, ?_⟩))
      go_ret2
      exact ⟨Z13, Z0⟩
def spec_LoomsUsed.l0 : Nat → List (S26) → List Int → List Int → Int → Option (List Int × List Int × Bool)
 | 0, _, _, _, _ => none
 | k + 1, x0, x5, x6, x7 => if x7 ≤ 99 then ((spec_l11Seats.f k x0 x7).bind fun t154 => (if t154 > 0 then (if x5.length < 17592186044416 then (if x6.length < 17592186044416 then (spec_LoomsUsed.l0 k x0 (x5 ++ [x7]) (x6 ++ [t154]) (wrap64 (x7 + 1))) else (none)) else (none)) else (spec_LoomsUsed.l0 k x0 x5 x6 (wrap64 (x7 + 1))))) else (some (x5, x6, true))
def spec_LoomsUsed.f (k : Nat) (l0 : List (S26)) : Option (List Int × List Int × Bool) := (some (([] : List Int) : List Int)).bind fun y147 => ((some (([] : List Int) : List Int)).bind fun y150 => ((spec_l11Good.f k l0).bind fun t153 => (if t153 = true then (spec_LoomsUsed.l0 k l0 y147 y150 1) else (some (y147, y150, false)))))
theorem spec_LoomsUsed.calls (k : Nat) (A0 : Option Addr) (c0 : Nat) (l0 : List (S26)) (r1 : List Int) (r2 : List Int) (r3 : Bool) (w : World) (Bn : Kd.C k26 w A0 l0.length l0) (Bo : l0.length ≤ c0) (h : spec_LoomsUsed.f k l0 = some (r1, r2, r3)) :
  Calls Tryd.prog 28 #[.slice A0 l0.length c0] w fun e w' => ∃ v0_ v1_ : Value, e = .returned (.tuple #[v0_, v1_, .bool r3]) ∧ Kd.R (Kd.int .i64) 3 w' w.heap.size (fun k_ => nV k_ v1_) v0_ r1 ∧ Kd.R (Kd.int .i64) 3 w' w.heap.size (fun k_ => nV k_ v0_) v1_ r2 ∧ Below w.heap.size w w' := by
 have Bg := Aside0.mk Bn; have Bh := Aside0.mk Bo; clear Bn Bo; have HB := aM (Below.refl w.heap.size w); have H : ((some (([] : List Int) : List Int)).bind fun Ad => ((some (([] : List Int) : List Int)).bind fun Ac => ((spec_l11Good.f k l0).bind fun Ai => (if Ai = true then (spec_LoomsUsed.l0 k l0 Ad Ac 1) else (some (Ad, Ac, false)))))) = some (r1, r2, r3) := h; clear h; obtain ⟨Ad, Aj⟩ : ∃ y_ : List Int, y_ = (([] : List Int)) := ⟨_, rfl⟩
 replace H : ((some (([] : List Int) : List Int)).bind fun Ac => ((spec_l11Good.f k l0).bind fun Ai => (if Ai = true then (spec_LoomsUsed.l0 k l0 Ad Ac 1) else (some (Ad, Ac, false))))) = some (r1, r2, r3) := by first | (rw [Aj]; with_reducible exact H) | (have H2_ := (Option.bind_some _ _).symm.trans H; rw [Aj]; with_reducible exact H2_) | (have H2_ := (Option.bind_some _ _).symm.trans H; with_reducible exact H2_) | with_reducible exact H | (rw [Aj]; exact H) | exact H
 have Ao := Aside0.mk Aj; clear Aj; obtain ⟨Ac, Ak⟩ : ∃ y_ : List Int, y_ = (([] : List Int)) := ⟨_, rfl⟩
 replace H : ((spec_l11Good.f k l0).bind fun Ai => (if Ai = true then (spec_LoomsUsed.l0 k l0 Ad Ac 1) else (some (Ad, Ac, false)))) = some (r1, r2, r3) := by first | (rw [Ak]; with_reducible exact H) | (have H2_ := (Option.bind_some _ _).symm.trans H; rw [Ak]; with_reducible exact H2_) | (have H2_ := (Option.bind_some _ _).symm.trans H; with_reducible exact H2_) | with_reducible exact H | (rw [Ak]; exact H) | exact H
 have Ap := Aside0.mk Ak; clear Ak; replace H := Option.bind_eq_some_iff.mp H; obtain ⟨Ai, Bp, H⟩ := H; replace H : (if Ai = true then (spec_LoomsUsed.l0 k l0 Ad Ac 1) else (some (Ad, Ac, false))) = some (r1, r2, r3) := H; have A2 := Aside0.mk Bp; clear Bp
 by_cases c3 : Ai = true
 ·subst c3
  have H1 : (spec_LoomsUsed.l0 k l0 Ad Ac 1) = some (r1, r2, r3) := by rw [if_pos rfl] at H; exact H
  clear H; have H := H1; clear H1; have H' := Aside0.mk H; clear H
  go_enter Tryd.func28, Tryd.ntmps28
  go_wp2_with (first | ((with_reducible refine gate_dst (N := 9) rfl ?_); refine Kd.R_lit (Kd.int .i64) _ 3 ?hg (N := 9) ?hd (xs := ([] : List Int)) (inner := []) (ok := fun _ => True) (okp := fun _ => True) ?hr ?hp (fun _ hk => hk) trivial (Below.refl _ _) (Nat.le_refl _) (by simp) ?_; (case hd => rfl); (case hg => rfl); (case hr => first | (go_simp; done) | (go_simp; rfl)); (case hp => exact (Reps.none _ _)); intro Bk w4 Az hb hg_ hnew_; clear hg_ hnew_; (first | rw [← Ao.out] at Az | (simp only [Int.reduceToNat] at Az; rw [← Ao.out] at Az)); have Aa := aM (Kd.R_lower Az (below_size Z0)); replace HB := hbS Z0 hb; clear hb Az) | ((with_reducible refine gate_dst (N := 10) rfl ?_); refine Kd.R_lit (Kd.int .i64) _ 3 ?hg (N := 10) ?hd (xs := ([] : List Int)) (inner := []) (ok := fun _ => True) (okp := fun _ => True) ?hr ?hp (fun _ hk => hk) trivial (Below.refl _ _) (Nat.le_refl _) (by simp) ?_; (case hd => rfl); (case hg => rfl); (case hr => first | (go_simp; done) | (go_simp; rfl)); (case hp => exact (Reps.none _ _)); intro Bl w6 Ax hb hg_ hnew_; clear hg_ hnew_; (first | rw [← Ap.out] at Ax | (simp only [Int.reduceToNat] at Ax; rw [← Ap.out] at Ax)); have Af := aM (Kd.R_lower (Kd.R_new' Ax (Kd.R_lt Z45)) (below_size Z0)); replace Aa := aM (Kd.R_elder' Z45 (Kd.R_base Ax) hb); replace HB := hbS Z0 hb; clear hb Ax) | ((with_reducible refine gate_callee (f := 61) rfl ?_); refine glE (some 12) Tryd.func61 #[.slice A0 l0.length c0] ?_; (with_reducible refine (spec_l11Good.calls k _ _ l0 true _ ?side1 ?side2 A2.out).mono ?_); (case side1 => exact Z53); (case side2 => exact Bh.out); rintro e w8 ⟨rfl, hb⟩; refine ⟨_, rfl, ?_⟩; replace Aa := roB Aa hb; replace Af := roB Af hb; replace HB := hbS Z0 hb; (try clear hb)))
  go_loopg [5, 6, 7] k (fun kq v5 v6 v7 w' => ∃ (Ah : List Int) (Ae : List Int) (Ab : Int), v7 = .int .i64 Ab ∧ Aside0 (spec_LoomsUsed.l0 kq l0 Ah Ae Ab = some (r1, r2, r3)) ∧ Aside0 (kq ≤ k) ∧ Aside0 (Kd.R (Kd.int .i64) 3 w' w.heap.size (fun k_ => nV k_ v6) v5 Ah) ∧ Aside0 (Kd.R (Kd.int .i64) 3 w' w.heap.size (fun k_ => nV k_ v5) v6 Ae) ∧ Aside0 (Below w.heap.size w w'))
  case atStart => exact ⟨(Ad), (Ac), (1), Z15, H', ⟨Nat.le_refl _⟩, ⟨Z96⟩, ⟨Z97⟩, ⟨Z0⟩⟩
  case round =>
   clear H'; (try clear c2); (try clear p2); (try clear c3); (try clear c6); obtain ⟨Ah, Ae, Ab, rfl, HA, HK1, Av, An, HB⟩ := hrel; cases gk with
   | zero => exact absurd HA.out (by simp [spec_LoomsUsed.l0])
   | succ k1 =>
    have H := HA.out; clear HA
    simp only [spec_LoomsUsed.l0] at H
    by_cases c9 : Ab ≤ 99
    ·rw [if_pos c9] at H
     have c9b0 : decide (Ab ≤ 99) = true := decide_eq_true c9; clear c9; replace H := Option.bind_eq_some_iff.mp H; obtain ⟨Ag, Ba, H⟩ := H; replace H : (if Ag > 0 then (if Ah.length < 17592186044416 then (if Ae.length < 17592186044416 then (spec_LoomsUsed.l0 k1 l0 (Ah ++ [Ab]) (Ae ++ [Ag]) (wrap64 (Ab + 1))) else (none)) else (none)) else (spec_LoomsUsed.l0 k1 l0 Ah Ae (wrap64 (Ab + 1)))) = some (r1, r2, r3) := H; have Bq := Aside0.mk Ba; clear Ba
     by_cases Ay : Ag > 0
     ·rw [if_pos Ay] at H
      have c11b0 : decide (0 < Ag) = true := decide_eq_true Ay; clear Ay
      by_cases Bi : Ah.length < 17592186044416
      ·rw [if_pos Bi] at H
       have LMc12 := Aside0.mk Bi; clear Bi; obtain ⟨Aw, Al⟩ : ∃ y_ : List Int, y_ = (Ah ++ [Ab]) := ⟨_, rfl⟩
       replace H : (if Ae.length < 17592186044416 then (spec_LoomsUsed.l0 k1 l0 Aw (Ae ++ [Ag]) (wrap64 (Ab + 1))) else (none)) = some (r1, r2, r3) := by first | (rw [Al]; with_reducible exact H) | (have H2_ := (Option.bind_some _ _).symm.trans H; rw [Al]; with_reducible exact H2_) | (have H2_ := (Option.bind_some _ _).symm.trans H; with_reducible exact H2_) | with_reducible exact H | (rw [Al]; exact H) | exact H
       have Bb := Aside0.mk Al; clear Al
       by_cases Bj : Ae.length < 17592186044416
       ·rw [if_pos Bj] at H
        have LMc13 := Aside0.mk Bj; clear Bj; obtain ⟨Bc, Am⟩ : ∃ y_ : List Int, y_ = (Ae ++ [Ag]) := ⟨_, rfl⟩
        replace H : (spec_LoomsUsed.l0 k1 l0 Aw Bc (wrap64 (Ab + 1))) = some (r1, r2, r3) := by first | (rw [Am]; with_reducible exact H) | (have H2_ := (Option.bind_some _ _).symm.trans H; rw [Am]; with_reducible exact H2_) | (have H2_ := (Option.bind_some _ _).symm.trans H; with_reducible exact H2_) | with_reducible exact H | (rw [Am]; exact H) | exact H
        have Bd := Aside0.mk Am; clear Am; have H' := Aside0.mk H; clear H
        go_wp2_with (first | ((with_reducible refine gate_callee (f := 73) rfl ?_); refine glE (some 22) Tryd.func73 #[.slice A0 l0.length c0, .int .i64 Ab] ?_; (with_reducible refine (spec_l11Seats.calls k1 _ _ l0 Ab Ag _ ?side1 ?side2 Bq.out).mono ?_); (case side1 => exact Z53); (case side2 => exact Bh.out); rintro e w' ⟨rfl, ⟨nd, rfl⟩⟩; refine ⟨_, rfl, ?_⟩) | ((with_reducible refine gate_builtin (b := .append) (xs := #[.tmp 25, .tmp 27]) rfl ?_); at_builtin; refine Kd.R_append (Kd.int .i64) (w0 := w) w.heap.size rfl (.tmp 25) (.tmp 27) 41 3 (.int .i64 0) 8 rfl Tryd.underlying41 info3 rfl (by decide) (by omega) u5 Ah Ab [.int .i64 Ab] (fun k_ => nV k_ u6) (fun _ => False) rfl rfl ?aP (fun _ hk => hk.elim) ?aF ?aO ?aB ?aS ?aL ?_; (case aP => exact rfl); (case aB => exact Z0); (case aF => exact (fun k_ hk => Kd.fresh' (Kd.R_lt Z46) k_ hk)); (case aO => exact Z88); (case aS => exact (below_size Z0)); (case aL => have := LMc12.out; omega); intro Bm Bs ho hb hg hat; rw [← Bb.out] at ho; replace An := aM (Kd.R_after (ok := (fun _ => True)) (by (with_reducible repeat (first | apply Kd.R_alloc | apply Kd.R_drewN | apply Kd.R_drew)); exact Kd.R_mono An.out (fun _ hk => ⟨trivial, hk⟩)) hg hat); replace HB := aM (hb); have Aq := aM (ho); clear Av; clear ho hb hg hat) | ((with_reducible refine gate_builtin (b := .append) (xs := #[.tmp 29, .tmp 31]) rfl ?_); at_builtin; refine Kd.R_append (Kd.int .i64) (w0 := w) w.heap.size rfl (.tmp 29) (.tmp 31) 41 3 (.int .i64 0) 8 rfl Tryd.underlying41 info3 rfl (by decide) (by omega) u6 Ae Ag [.int .i64 Ag] (fun k_ => nV k_ Bm) (fun _ => False) rfl rfl ?aP (fun _ hk => hk.elim) ?aF ?aO ?aB ?aS ?aL ?_; (case aP => exact rfl); (case aB => exact Z0); (case aF => exact (fun k_ hk => Kd.fresh' (Kd.R_lt (by (with_reducible repeat (first | apply Kd.R_alloc | apply Kd.R_drewN | apply Kd.R_drew)); exact Aq.out)) k_ hk)); (case aO => exact Z61); (case aS => exact (below_size Z0)); (case aL => have := LMc13.out; omega); intro Br Bt ho hb hg hat; rw [← Bd.out] at ho; replace Aq := aM (Kd.R_after (ok := (fun _ => True)) (by (with_reducible repeat (first | apply Kd.R_alloc | apply Kd.R_drewN | apply Kd.R_drew)); exact Kd.R_mono Aq.out (fun _ hk => ⟨trivial, hk⟩)) hg hat); replace HB := aM (hb); have Bf := aM (ho); clear An; clear ho hb hg hat))
        go_roundg k1
        case measure => have := HK1.out; omega
        case rel => exact ⟨(Aw), (Bc), (wrap64 (Ab + 1)), Z15, H', ⟨Z50⟩, ⟨by (with_reducible repeat (first | apply Kd.R_alloc | apply Kd.R_drewN | apply Kd.R_drew)); exact Kd.R_mono Aq.out (fun _ hk => hk.2)⟩, ⟨Z68⟩, ⟨Z0⟩⟩
       ·rw [if_neg Bj] at H
        exact absurd H (by simp)
      ·rw [if_neg Bi] at H
       exact absurd H (by simp)
     ·rw [if_neg Ay] at H
      have c11b0 : decide (0 < Ag) = false := decide_eq_false Ay; clear Ay; have H' := Aside0.mk H; clear H
      go_wp2_with (first | ((with_reducible refine gate_callee (f := 73) rfl ?_); refine glE (some 22) Tryd.func73 #[.slice A0 l0.length c0, .int .i64 Ab] ?_; (with_reducible refine (spec_l11Seats.calls k1 _ _ l0 Ab Ag _ ?side1 ?side2 Bq.out).mono ?_); (case side1 => exact Z53); (case side2 => exact Bh.out); rintro e w' ⟨rfl, ⟨nd, rfl⟩⟩; refine ⟨_, rfl, ?_⟩))
      go_roundg k1
      case measure => have := HK1.out; omega
      case rel => exact ⟨(Ah), (Ae), (wrap64 (Ab + 1)), Z15, H', ⟨Z50⟩, ⟨Z88⟩, ⟨Z46⟩, ⟨Z0⟩⟩
    ·rw [if_neg c9] at H
     have c9b0 : decide (Ab ≤ 99) = false := decide_eq_false c9; clear c9
     simp only [Option.some.injEq, Prod.mk.injEq] at H
     obtain ⟨rfl, rfl, rfl⟩ := H
     go_wp2
     go_ret3
     exact ⟨_, _, Z13, Z88, Z46, Z0⟩
 ·replace c3 := Bool.eq_false_iff.mpr c3
  subst c3
  have H1 : (some (Ad, Ac, false)) = some (r1, r2, r3) := by rw [if_neg (show ¬ (false = true) by decide)] at H; exact H
  clear H; have H := H1; clear H1
  simp only [Option.some.injEq, Prod.mk.injEq] at H
  obtain ⟨rfl, rfl, rfl⟩ := H
  go_enter Tryd.func28, Tryd.ntmps28
  go_wp2_with (first | ((with_reducible refine gate_dst (N := 9) rfl ?_); refine Kd.R_lit (Kd.int .i64) _ 3 ?hg (N := 9) ?hd (xs := ([] : List Int)) (inner := []) (ok := fun _ => True) (okp := fun _ => True) ?hr ?hp (fun _ hk => hk) trivial (Below.refl _ _) (Nat.le_refl _) (by simp) ?_; (case hd => rfl); (case hg => rfl); (case hr => first | (go_simp; done) | (go_simp; rfl)); (case hp => exact (Reps.none _ _)); intro Bk Bu Au hb hg_ hnew_; clear hg_ hnew_; (first | rw [← Ao.out] at Au | (simp only [Int.reduceToNat] at Au; rw [← Ao.out] at Au)); have Aa := aM (Kd.R_lower Au (below_size Z0)); replace HB := hbS Z0 hb; clear hb Au) | ((with_reducible refine gate_dst (N := 10) rfl ?_); refine Kd.R_lit (Kd.int .i64) _ 3 ?hg (N := 10) ?hd (xs := ([] : List Int)) (inner := []) (ok := fun _ => True) (okp := fun _ => True) ?hr ?hp (fun _ hk => hk) trivial (Below.refl _ _) (Nat.le_refl _) (by simp) ?_; (case hd => rfl); (case hg => rfl); (case hr => first | (go_simp; done) | (go_simp; rfl)); (case hp => exact (Reps.none _ _)); intro Bl Bv Ar hb hg_ hnew_; clear hg_ hnew_; (first | rw [← Ap.out] at Ar | (simp only [Int.reduceToNat] at Ar; rw [← Ap.out] at Ar)); have Af := aM (Kd.R_lower (Kd.R_new' Ar (Kd.R_lt Z45)) (below_size Z0)); replace Aa := aM (Kd.R_elder' Z45 (Kd.R_base Ar) hb); replace HB := hbS Z0 hb; clear hb Ar) | ((with_reducible refine gate_callee (f := 61) rfl ?_); refine glE (some 12) Tryd.func61 #[.slice A0 l0.length c0] ?_; (with_reducible refine (spec_l11Good.calls k _ _ l0 false _ ?side1 ?side2 A2.out).mono ?_); (case side1 => exact Z53); (case side2 => exact Bh.out); rintro e Bw ⟨rfl, hb⟩; refine ⟨_, rfl, ?_⟩; replace Aa := roB Aa hb; replace Af := roB Af hb; replace HB := hbS Z0 hb; (try clear hb)))
  go_ret3
  exact ⟨_, _, Z13, Z96, Z97, Z0⟩
def impl_LoomsUsed.l0 : Nat → List (S26) → List Int → List Int → Int → Option (List Int × List Int × Bool)
 | 0, _, _, _, _ => none
 | k + 1, x0, x5, x6, x7 => if x7 ≤ 99 then ((impl_sitters.f k x0 x7).bind fun t168 => (if t168 > 0 then (if x5.length < 17592186044416 then (if x6.length < 17592186044416 then (impl_LoomsUsed.l0 k x0 (x5 ++ [x7]) (x6 ++ [t168]) (wrap64 (x7 + 1))) else (none)) else (none)) else (impl_LoomsUsed.l0 k x0 x5 x6 (wrap64 (x7 + 1))))) else (some (x5, x6, true))
def impl_LoomsUsed.f (k : Nat) (l0 : List (S26)) : Option (List Int × List Int × Bool) := (impl_AreWeavers.f l0).bind fun t161 => (if t161 = true then (impl_LoomsUsed.l0 k l0 (([] : List Int)) (([] : List Int)) 1) else (some (([] : List Int), ([] : List Int), false)))
theorem impl_LoomsUsed.calls (k : Nat) (A0 : Option Addr) (c0 : Nat) (l0 : List (S26)) (r1 : List Int) (r2 : List Int) (r3 : Bool) (w : World) (Bj : Kd.C k26 w A0 l0.length l0) (Bk : l0.length ≤ c0) (h : impl_LoomsUsed.f k l0 = some (r1, r2, r3)) :
  Calls Tryd.prog 29 #[.slice A0 l0.length c0] w fun e w' => ∃ v0_ v1_ : Value, e = .returned (.tuple #[v0_, v1_, .bool r3]) ∧ Kd.R (Kd.int .i64) 3 w' w.heap.size (fun k_ => nV k_ v1_) v0_ r1 ∧ Kd.R (Kd.int .i64) 3 w' w.heap.size (fun k_ => nV k_ v0_) v1_ r2 ∧ Below w.heap.size w w' := by
 have Bd := Aside0.mk Bj; have Bf := Aside0.mk Bk; clear Bj Bk; have HB := aM (Below.refl w.heap.size w); have H : ((impl_AreWeavers.f l0).bind fun Am => (if Am = true then (impl_LoomsUsed.l0 k l0 (([] : List Int)) (([] : List Int)) 1) else (some (([] : List Int), ([] : List Int), false)))) = some (r1, r2, r3) := h; clear h; replace H := Option.bind_eq_some_iff.mp H; obtain ⟨Am, Bl, H⟩ := H; replace H : (if Am = true then (impl_LoomsUsed.l0 k l0 (([] : List Int)) (([] : List Int)) 1) else (some (([] : List Int), ([] : List Int), false))) = some (r1, r2, r3) := H; have A2 := Aside0.mk Bl; clear Bl
 by_cases c3 : Am = true
 ·subst c3
  have H1 : (impl_LoomsUsed.l0 k l0 (([] : List Int)) (([] : List Int)) 1) = some (r1, r2, r3) := by rw [if_pos rfl] at H; exact H
  clear H; have H := H1; clear H1; obtain ⟨Ap, Af⟩ : ∃ y_ : List Int, y_ = (([] : List Int)) := ⟨_, rfl⟩
  replace H : (impl_LoomsUsed.l0 k l0 Ap (([] : List Int)) 1) = some (r1, r2, r3) := by first | (rw [Af]; with_reducible exact H) | (have H2_ := (Option.bind_some _ _).symm.trans H; rw [Af]; with_reducible exact H2_) | (have H2_ := (Option.bind_some _ _).symm.trans H; with_reducible exact H2_) | with_reducible exact H | (rw [Af]; exact H) | exact H
  have An := Aside0.mk Af; clear Af; obtain ⟨Av, Ag⟩ : ∃ y_ : List Int, y_ = (([] : List Int)) := ⟨_, rfl⟩
  replace H : (impl_LoomsUsed.l0 k l0 Ap Av 1) = some (r1, r2, r3) := by first | (rw [Ag]; with_reducible exact H) | (have H2_ := (Option.bind_some _ _).symm.trans H; rw [Ag]; with_reducible exact H2_) | (have H2_ := (Option.bind_some _ _).symm.trans H; with_reducible exact H2_) | with_reducible exact H | (rw [Ag]; exact H) | exact H
  have Ao := Aside0.mk Ag; clear Ag; have H' := Aside0.mk H; clear H
  go_enter Tryd.func29, Tryd.ntmps29
  go_wp2_with (first | ((with_reducible refine gate_callee (f := 22) rfl ?_); refine glE (some 10) Tryd.func22 #[.slice A0 l0.length c0] ?_; (with_reducible refine (impl_AreWeavers.calls _ _ l0 true _ ?side1 ?side2 A2.out).mono ?_); (case side1 => exact Z87); (case side2 => exact Bf.out); rintro e w4 ⟨rfl, hb⟩; refine ⟨_, rfl, ?_⟩; replace HB := hbS Z0 hb; (try clear hb)) | ((with_reducible refine gate_dst (N := 12) rfl ?_); refine Kd.R_lit (Kd.int .i64) _ 3 ?hg (N := 12) ?hd (xs := ([] : List Int)) (inner := []) (ok := fun _ => True) (okp := fun _ => True) ?hr ?hp (fun _ hk => hk) trivial (Below.refl _ _) (Nat.le_refl _) (by simp) ?_; (case hd => rfl); (case hg => rfl); (case hr => first | (go_simp; done) | (go_simp; rfl)); (case hp => exact (Reps.none _ _)); intro Bn w5 Aw hb hg_ hnew_; clear hg_ hnew_; (first | rw [← An.out] at Aw | (simp only [Int.reduceToNat] at Aw; rw [← An.out] at Aw)); have Ak := aM (Kd.R_lower Aw (below_size Z0)); replace HB := hbS Z0 hb; clear hb Aw) | ((with_reducible refine gate_dst (N := 13) rfl ?_); refine Kd.R_lit (Kd.int .i64) _ 3 ?hg (N := 13) ?hd (xs := ([] : List Int)) (inner := []) (ok := fun _ => True) (okp := fun _ => True) ?hr ?hp (fun _ hk => hk) trivial (Below.refl _ _) (Nat.le_refl _) (by simp) ?_; (case hd => rfl); (case hg => rfl); (case hr => first | (go_simp; done) | (go_simp; rfl)); (case hp => exact (Reps.none _ _)); intro Bo w7 Ar hb hg_ hnew_; clear hg_ hnew_; (first | rw [← Ao.out] at Ar | (simp only [Int.reduceToNat] at Ar; rw [← Ao.out] at Ar)); have Ax := aM (Kd.R_lower (Kd.R_new' Ar (Kd.R_lt Z20)) (below_size Z0)); replace Ak := aM (Kd.R_elder' Z20 (Kd.R_base Ar) hb); replace HB := hbS Z0 hb; clear hb Ar))
  go_loopg [5, 6, 7] k (fun kq v5 v6 v7 w' => ∃ (Ae : List Int) (Ab : List Int) (Aa : Int), v7 = .int .i64 Aa ∧ Aside0 (impl_LoomsUsed.l0 kq l0 Ae Ab Aa = some (r1, r2, r3)) ∧ Aside0 (kq ≤ k) ∧ Aside0 (Kd.R (Kd.int .i64) 3 w' w.heap.size (fun k_ => nV k_ v6) v5 Ae) ∧ Aside0 (Kd.R (Kd.int .i64) 3 w' w.heap.size (fun k_ => nV k_ v5) v6 Ab) ∧ Aside0 (Below w.heap.size w w'))
  case atStart => exact ⟨(Ap), (Av), (1), Z15, H', ⟨Nat.le_refl _⟩, ⟨by (with_reducible repeat (first | apply Kd.R_alloc | apply Kd.R_drewN | apply Kd.R_drew)); exact Kd.R_mono Ak.out (fun _ hk => hk.2)⟩, ⟨by (with_reducible repeat (first | apply Kd.R_alloc | apply Kd.R_drewN | apply Kd.R_drew)); exact Kd.R_mono Ax.out (fun _ hk => hk.2)⟩, ⟨Z0⟩⟩
  case round =>
   clear H'; (try clear c2); (try clear p2); (try clear c3); obtain ⟨Ae, Ab, Aa, rfl, HA, HK1, Ah, Ac, HB⟩ := hrel; cases gk with
   | zero => exact absurd HA.out (by simp [impl_LoomsUsed.l0])
   | succ k1 =>
    have H := HA.out; clear HA
    simp only [impl_LoomsUsed.l0] at H
    by_cases c9 : Aa ≤ 99
    ·rw [if_pos c9] at H
     have c9b0 : decide (Aa ≤ 99) = true := decide_eq_true c9; clear c9; replace H := Option.bind_eq_some_iff.mp H; obtain ⟨Ad, Ay, H⟩ := H; replace H : (if Ad > 0 then (if Ae.length < 17592186044416 then (if Ab.length < 17592186044416 then (impl_LoomsUsed.l0 k1 l0 (Ae ++ [Aa]) (Ab ++ [Ad]) (wrap64 (Aa + 1))) else (none)) else (none)) else (impl_LoomsUsed.l0 k1 l0 Ae Ab (wrap64 (Aa + 1)))) = some (r1, r2, r3) := H; have Bm := Aside0.mk Ay; clear Ay
     by_cases Au : Ad > 0
     ·rw [if_pos Au] at H
      have c11b0 : decide (0 < Ad) = true := decide_eq_true Au; clear Au
      by_cases Bg : Ae.length < 17592186044416
      ·rw [if_pos Bg] at H
       have LMc12 := Aside0.mk Bg; clear Bg; obtain ⟨Aq, Ai⟩ : ∃ y_ : List Int, y_ = (Ae ++ [Aa]) := ⟨_, rfl⟩
       replace H : (if Ab.length < 17592186044416 then (impl_LoomsUsed.l0 k1 l0 Aq (Ab ++ [Ad]) (wrap64 (Aa + 1))) else (none)) = some (r1, r2, r3) := by first | (rw [Ai]; with_reducible exact H) | (have H2_ := (Option.bind_some _ _).symm.trans H; rw [Ai]; with_reducible exact H2_) | (have H2_ := (Option.bind_some _ _).symm.trans H; with_reducible exact H2_) | with_reducible exact H | (rw [Ai]; exact H) | exact H
       have Az := Aside0.mk Ai; clear Ai
       by_cases Bh : Ab.length < 17592186044416
       ·rw [if_pos Bh] at H
        have LMc13 := Aside0.mk Bh; clear Bh; obtain ⟨Ba, Aj⟩ : ∃ y_ : List Int, y_ = (Ab ++ [Ad]) := ⟨_, rfl⟩
        replace H : (impl_LoomsUsed.l0 k1 l0 Aq Ba (wrap64 (Aa + 1))) = some (r1, r2, r3) := by first | (rw [Aj]; with_reducible exact H) | (have H2_ := (Option.bind_some _ _).symm.trans H; rw [Aj]; with_reducible exact H2_) | (have H2_ := (Option.bind_some _ _).symm.trans H; with_reducible exact H2_) | with_reducible exact H | (rw [Aj]; exact H) | exact H
        have Bb := Aside0.mk Aj; clear Aj; have H' := Aside0.mk H; clear H
        go_wp2_with (first | ((with_reducible refine gate_callee (f := 66) rfl ?_); refine glE (some 20) Tryd.func66 #[.slice A0 l0.length c0, .int .i64 Aa] ?_; (with_reducible refine (impl_sitters.calls k1 _ _ l0 Aa Ad _ ?side1 ?side2 Bm.out).mono ?_); (case side1 => exact Z74); (case side2 => exact Bf.out); rintro e Bq ⟨rfl, hb⟩; refine ⟨_, rfl, ?_⟩; replace Ah := roB Ah hb; replace Ac := roB Ac hb; replace HB := hbS Z0 hb; (try clear hb)) | ((with_reducible refine gate_builtin (b := .append) (xs := #[.tmp 23, .tmp 25]) rfl ?_); at_builtin; refine Kd.R_append (Kd.int .i64) (w0 := w) w.heap.size rfl (.tmp 23) (.tmp 25) 41 3 (.int .i64 0) 8 rfl Tryd.underlying41 info3 rfl (by decide) (by omega) u5 Ae Aa [.int .i64 Aa] (fun k_ => nV k_ u6) (fun _ => False) rfl rfl ?aP (fun _ hk => hk.elim) ?aF ?aO ?aB ?aS ?aL ?_; (case aP => exact rfl); (case aB => exact Z0); (case aF => exact (fun k_ hk => Kd.fresh' (Kd.R_lt Z55) k_ hk)); (case aO => exact Z89); (case aS => exact (below_size Z0)); (case aL => have := LMc12.out; omega); intro Bi Br ho hb hg hat; rw [← Az.out] at ho; replace Ac := aM (Kd.R_after (ok := (fun _ => True)) (by (with_reducible repeat (first | apply Kd.R_alloc | apply Kd.R_drewN | apply Kd.R_drew)); exact Kd.R_mono Ac.out (fun _ hk => ⟨trivial, hk⟩)) hg hat); replace HB := aM (hb); have Al := aM (ho); clear Ah; clear ho hb hg hat) | ((with_reducible refine gate_builtin (b := .append) (xs := #[.tmp 27, .tmp 29]) rfl ?_); at_builtin; refine Kd.R_append (Kd.int .i64) (w0 := w) w.heap.size rfl (.tmp 27) (.tmp 29) 41 3 (.int .i64 0) 8 rfl Tryd.underlying41 info3 rfl (by decide) (by omega) u6 Ab Ad [.int .i64 Ad] (fun k_ => nV k_ Bi) (fun _ => False) rfl rfl ?aP (fun _ hk => hk.elim) ?aF ?aO ?aB ?aS ?aL ?_; (case aP => exact rfl); (case aB => exact Z0); (case aF => exact (fun k_ hk => Kd.fresh' (Kd.R_lt Z49) k_ hk)); (case aO => exact (by (with_reducible repeat (first | apply Kd.R_alloc | apply Kd.R_drewN | apply Kd.R_drew)); exact Kd.R_mono Ac.out (fun _ hk => hk.2))); (case aS => exact (below_size Z0)); (case aL => have := LMc13.out; omega); intro Bp Bs ho hb hg hat; rw [← Bb.out] at ho; replace Al := aM (Kd.R_after (ok := (fun _ => True)) (by (with_reducible repeat (first | apply Kd.R_alloc | apply Kd.R_drewN | apply Kd.R_drew)); exact Kd.R_mono Al.out (fun _ hk => ⟨trivial, hk⟩)) hg hat); replace HB := aM (hb); have Bc := aM (ho); clear Ac; clear ho hb hg hat))
        go_roundg k1
        case measure => have := HK1.out; omega
        case rel => exact ⟨(Aq), (Ba), (wrap64 (Aa + 1)), Z15, H', ⟨Z50⟩, ⟨by (with_reducible repeat (first | apply Kd.R_alloc | apply Kd.R_drewN | apply Kd.R_drew)); exact Kd.R_mono Al.out (fun _ hk => hk.2)⟩, ⟨by (with_reducible repeat (first | apply Kd.R_alloc | apply Kd.R_drewN | apply Kd.R_drew)); exact Bc.out⟩, ⟨Z0⟩⟩
       ·rw [if_neg Bh] at H
        exact absurd H (by simp)
      ·rw [if_neg Bg] at H
       exact absurd H (by simp)
     ·rw [if_neg Au] at H
      have c11b0 : decide (0 < Ad) = false := decide_eq_false Au; clear Au; have H' := Aside0.mk H; clear H
      go_wp2_with (first | ((with_reducible refine gate_callee (f := 66) rfl ?_); refine glE (some 20) Tryd.func66 #[.slice A0 l0.length c0, .int .i64 Aa] ?_; (with_reducible refine (impl_sitters.calls k1 _ _ l0 Aa Ad _ ?side1 ?side2 Bm.out).mono ?_); (case side1 => exact Z74); (case side2 => exact Bf.out); rintro e Bt ⟨rfl, hb⟩; refine ⟨_, rfl, ?_⟩; replace Ah := roB Ah hb; replace Ac := roB Ac hb; replace HB := hbS Z0 hb; (try clear hb)))
      go_roundg k1
      case measure => have := HK1.out; omega
      case rel => exact ⟨(Ae), (Ab), (wrap64 (Aa + 1)), Z15, H', ⟨Z50⟩, ⟨Z89⟩, ⟨Z55⟩, ⟨Z0⟩⟩
    ·rw [if_neg c9] at H
     have c9b0 : decide (Aa ≤ 99) = false := decide_eq_false c9; clear c9
     simp only [Option.some.injEq, Prod.mk.injEq] at H
     obtain ⟨rfl, rfl, rfl⟩ := H
     go_wp2
     go_ret3
     exact ⟨_, _, Z13, Z89, Z55, Z0⟩
 ·replace c3 := Bool.eq_false_iff.mpr c3
  subst c3
  have H1 : (some (([] : List Int), ([] : List Int), false)) = some (r1, r2, r3) := by rw [if_neg (show ¬ (false = true) by decide)] at H; exact H
  clear H; have H := H1; clear H1
  simp only [Option.some.injEq, Prod.mk.injEq] at H
  obtain ⟨rfl, rfl, rfl⟩ := H
  go_enter Tryd.func29, Tryd.ntmps29
  go_wp2_with (first | ((with_reducible refine gate_callee (f := 22) rfl ?_); refine glE (some 10) Tryd.func22 #[.slice A0 l0.length c0] ?_; (with_reducible refine (impl_AreWeavers.calls _ _ l0 false _ ?side1 ?side2 A2.out).mono ?_); (case side1 => exact Z87); (case side2 => exact Bf.out); rintro e Bu ⟨rfl, hb⟩; refine ⟨_, rfl, ?_⟩; replace HB := hbS Z0 hb; (try clear hb)))
  go_ret3
  exact ⟨_, _, Z13, Z59, Z59, Z0⟩
def spec_FastestFree.l0 : Nat → List (S26) → Int → Int → Option (Int × Bool)
 | 0, _, _, _ => none
 | k + 1, x0, x4, x5 => if x5 < (x0.length : Int) then (if 0 ≤ x5 then (if ((rd_T26 x0 x5).f4) = 0 then (if (Go.bits .and .i64 ((rd_T26 x0 x5).f2) 1) = 0 then (spec_FastestFree.l0 k x0 x4 (wrap64 (x5 + 1))) else (if x4 < 0 then (spec_FastestFree.l0 k x0 x5 (wrap64 (x5 + 1))) else (if 0 ≤ x4 then (if x4 < (x0.length : Int) then (if ((rd_T26 x0 x5).f3) > ((rd_T26 x0 x4).f3) then (spec_FastestFree.l0 k x0 x5 (wrap64 (x5 + 1))) else (spec_FastestFree.l0 k x0 x4 (wrap64 (x5 + 1)))) else (none)) else (none)))) else (spec_FastestFree.l0 k x0 x4 (wrap64 (x5 + 1)))) else (none)) else (if x4 < 0 then (some (0, false)) else (if 0 ≤ x4 then (if x4 < (x0.length : Int) then (some ((rd_T26 x0 x4).f0, true)) else (none)) else (none)))
def spec_FastestFree.f (k : Nat) (l0 : List (S26)) : Option (Int × Bool) := (spec_l11Good.f k l0).bind fun t175 => (if t175 = true then (spec_FastestFree.l0 k l0 (-1) 0) else (some (0, false)))
theorem spec_FastestFree.gen_world {P : Program} {c : Code} {Q : _} {a : Act} {w : World} (R : World → Prop) (hR : R w) (h : ∀ W, R W → c.wp P Q a W) : c.wp P Q a w := h w hR
theorem spec_FastestFree.calls (k : Nat) (A0 : Option Addr) (c0 : Nat) (l0 : List (S26)) (r1 : Int) (r2 : Bool) (w : World) (C4 : Kd.C k26 w A0 l0.length l0) (C5 : l0.length ≤ c0) (h : spec_FastestFree.f k l0 = some (r1, r2)) :
  Calls Tryd.prog 36 #[.slice A0 l0.length c0] w fun e w' => e = .returned (.tuple #[.int .i64 r1, .bool r2]) ∧ Below w.heap.size w w' := by
 have hu26 := Tryd.underlying26; have Aw := Aside0.mk C4; have Cc := Aside0.mk C5; clear C4 C5; have HB := aM (Below.refl w.heap.size w); have H : ((spec_l11Good.f k l0).bind fun B3 => (if B3 = true then (spec_FastestFree.l0 k l0 (-1) 0) else (some (0, false)))) = some (r1, r2) := h; clear h; replace H := Option.bind_eq_some_iff.mp H; obtain ⟨B3, C6, H⟩ := H; replace H : (if B3 = true then (spec_FastestFree.l0 k l0 (-1) 0) else (some (0, false))) = some (r1, r2) := H; have A2 := Aside0.mk C6; clear C6
 by_cases c3 : B3 = true
 ·subst c3
  have H1 : (spec_FastestFree.l0 k l0 (-1) 0) = some (r1, r2) := by rw [if_pos rfl] at H; exact H
  clear H; have H := H1; clear H1; have H' := Aside0.mk H; clear H
  go_enter Tryd.func36, Tryd.ntmps36
  go_wp2_with (first | (go_at_call 61; (with_reducible refine (spec_l11Good.calls k _ _ l0 true _ ?side1 ?side2 A2.out).mono ?_); (case side1 => exact Z41); (case side2 => exact Cc.out); rintro e w4 ⟨rfl, hb⟩; replace HB := hbS Z0 hb; (try clear hb)))
  repeat (go_quiet (first | (go_at_call 61; (with_reducible refine (spec_l11Good.calls k _ _ l0 true _ ?side1 ?side2 A2.out).mono ?_); (case side1 => exact Z41); (case side2 => exact Cc.out); rintro e w4 ⟨rfl, hb⟩; replace HB := hbS Z0 hb; (try clear hb))); try go_wp2_with (first | (go_at_call 61; (with_reducible refine (spec_l11Good.calls k _ _ l0 true _ ?side1 ?side2 A2.out).mono ?_); (case side1 => exact Z41); (case side2 => exact Cc.out); rintro e w4 ⟨rfl, hb⟩; replace HB := hbS Z0 hb; (try clear hb))))
  go_loopg [4, 5] k (fun kq v4 v5 w' => ∃ (Aj : Int) (Aa : Int), v4 = .int .i64 Aj ∧ v5 = .int .i64 Aa ∧ Aside0 (spec_FastestFree.l0 kq l0 Aj Aa = some (r1, r2)) ∧ Aside0 (kq ≤ k) ∧ Aside0 (Below w.heap.size w w'))
  case atStart => exact ⟨((-1)), (0), Z15, Z15, H', ⟨Nat.le_refl _⟩, ⟨Z0⟩⟩
  case round =>
   clear H'; (try clear p2); (try clear c3); obtain ⟨Aj, Aa, rfl, rfl, HA, HK1, HB⟩ := hrel; cases gk with
   | zero => exact absurd HA.out (by simp [spec_FastestFree.l0])
   | succ k1 =>
    have H := HA.out; clear HA
    simp only [spec_FastestFree.l0] at H
    by_cases c5 : Aa < (l0.length : Int)
    ·rw [if_pos c5] at H
     have c5b0 : decide (Aa < (l0.length : Int)) = true := decide_eq_true c5; clear c5
     by_cases c6 : 0 ≤ Aa
     ·rw [if_pos c6] at H
      have c6b0 : decide (0 ≤ Aa) = true := decide_eq_true c6; clear c6
      by_cases c7 : ((rd_T26 l0 Aa).f4) = 0
      ·rw [if_pos c7] at H
       have c7b0 : (((rd_T26 l0 Aa).f4) == 0) = true := beq_iff_eq.mpr c7; have c7b1 : (((rd_T26 l0 Aa).f4) != 0) = false := bne_eq_false_iff_eq.mpr c7; clear c7
       by_cases c8 : (Go.bits .and .i64 ((rd_T26 l0 Aa).f2) 1) = 0
       ·rw [if_pos c8] at H
        have c8b0 : ((Go.bits .and .i64 ((rd_T26 l0 Aa).f2) 1) == 0) = true := beq_iff_eq.mpr c8; have c8b1 : ((Go.bits .and .i64 ((rd_T26 l0 Aa).f2) 1) != 0) = false := bne_eq_false_iff_eq.mpr c8; clear c8; have H' := Aside0.mk H; clear H; have Ak : 0 ≤ (Aa : Int) := of_decide_eq_true Z11; have Al : Aa < (l0.length : Int) := of_decide_eq_true Z11; obtain ⟨ad176, e176, Ac, Ad, Ae, Af, Ag⟩ := at_T26 Aw.out Aa Ak Al; cases e176; replace Ac := (HB.out.cell (World.block_lt_of_cell? w _ Ac)).trans Ac; replace Ad := (HB.out.cell (World.block_lt_of_cell? w _ Ad)).trans Ad; replace Ae := (HB.out.cell (World.block_lt_of_cell? w _ Ae)).trans Ae; replace Af := (HB.out.cell (World.block_lt_of_cell? w _ Af)).trans Af; replace Ag := (HB.out.cell (World.block_lt_of_cell? w _ Ag)).trans Ag; replace Ak := eq_true Ak; replace Al := eq_true Al
        go_wp2_with (first | ((with_reducible refine gate_dst (N := 6) rfl ?_); refine bxE 6 #[.int .i64 0, .string (⟨#[]⟩ : ByteArray), .int .i64 0, .int .i64 0, .int .i64 0] 26 ?_; intro Ai hg w9 hbox hb; have Ab := aM (hbox); have Am := gwS hg Z0; have Ah := gwS hg Z0; replace HB := hbS Z0 hb; clear hb hbox hg; obtain ⟨Ax, Ay, Az, Ba, Bb⟩ := bz5 Ab; obtain ⟨Bc, Bd, Bf, Bg, Bh⟩ := fz5 Ab))
        repeat (go_quiet (first | ((with_reducible refine gate_dst (N := 6) rfl ?_); refine bxE 6 #[.int .i64 0, .string (⟨#[]⟩ : ByteArray), .int .i64 0, .int .i64 0, .int .i64 0] 26 ?_; intro Ai hg w9 hbox hb; have Ab := aM (hbox); have Am := gwS hg Z0; have Ah := gwS hg Z0; replace HB := hbS Z0 hb; clear hb hbox hg; obtain ⟨Ax, Ay, Az, Ba, Bb⟩ := bz5 Ab; obtain ⟨Bc, Bd, Bf, Bg, Bh⟩ := fz5 Ab)); try go_wp2_with (first | ((with_reducible refine gate_dst (N := 6) rfl ?_); refine bxE 6 #[.int .i64 0, .string (⟨#[]⟩ : ByteArray), .int .i64 0, .int .i64 0, .int .i64 0] 26 ?_; intro Ai hg w9 hbox hb; have Ab := aM (hbox); have Am := gwS hg Z0; have Ah := gwS hg Z0; replace HB := hbS Z0 hb; clear hb hbox hg; obtain ⟨Ax, Ay, Az, Ba, Bb⟩ := bz5 Ab; obtain ⟨Bc, Bd, Bf, Bg, Bh⟩ := fz5 Ab)))
        go_roundg k1
        case measure => have := HK1.out; omega
        case rel => exact ⟨(Aj), (wrap64 (Aa + 1)), Z15, Z15, H', ⟨Z50⟩, ⟨Z48⟩⟩
       ·rw [if_neg c8] at H
        have c8b0 : ((Go.bits .and .i64 ((rd_T26 l0 Aa).f2) 1) == 0) = false := beq_eq_false_iff_ne.mpr c8; have c8b1 : ((Go.bits .and .i64 ((rd_T26 l0 Aa).f2) 1) != 0) = true := bne_iff_ne.mpr c8
        by_cases Cd : Aj < 0
        ·rw [if_pos Cd] at H
         have c11b0 : decide (Aj < 0) = true := decide_eq_true Cd; clear Cd; have H' := Aside0.mk H; clear H; have Ak : 0 ≤ (Aa : Int) := of_decide_eq_true Z11; have Al : Aa < (l0.length : Int) := of_decide_eq_true Z11; obtain ⟨ad176, e176, Ac, Ad, Ae, Af, Ag⟩ := at_T26 Aw.out Aa Ak Al; cases e176; replace Ac := (HB.out.cell (World.block_lt_of_cell? w _ Ac)).trans Ac; replace Ad := (HB.out.cell (World.block_lt_of_cell? w _ Ad)).trans Ad; replace Ae := (HB.out.cell (World.block_lt_of_cell? w _ Ae)).trans Ae; replace Af := (HB.out.cell (World.block_lt_of_cell? w _ Af)).trans Af; replace Ag := (HB.out.cell (World.block_lt_of_cell? w _ Ag)).trans Ag; replace Ak := eq_true Ak; replace Al := eq_true Al
         go_wp2_with (first | ((with_reducible refine gate_dst (N := 6) rfl ?_); refine bxE 6 #[.int .i64 0, .string (⟨#[]⟩ : ByteArray), .int .i64 0, .int .i64 0, .int .i64 0] 26 ?_; intro Ai hg C7 hbox hb; have Ab := aM (hbox); have Am := gwS hg Z0; have Ah := gwS hg Z0; replace HB := hbS Z0 hb; clear hb hbox hg; obtain ⟨Bi, Bj, Bk, Bl, Bm⟩ := bz5 Ab; obtain ⟨Bn, Bo, Bp, Bq, Br⟩ := fz5 Ab))
         repeat (go_quiet (first | ((with_reducible refine gate_dst (N := 6) rfl ?_); refine bxE 6 #[.int .i64 0, .string (⟨#[]⟩ : ByteArray), .int .i64 0, .int .i64 0, .int .i64 0] 26 ?_; intro Ai hg C7 hbox hb; have Ab := aM (hbox); have Am := gwS hg Z0; have Ah := gwS hg Z0; replace HB := hbS Z0 hb; clear hb hbox hg; obtain ⟨Bi, Bj, Bk, Bl, Bm⟩ := bz5 Ab; obtain ⟨Bn, Bo, Bp, Bq, Br⟩ := fz5 Ab)); try go_wp2_with (first | ((with_reducible refine gate_dst (N := 6) rfl ?_); refine bxE 6 #[.int .i64 0, .string (⟨#[]⟩ : ByteArray), .int .i64 0, .int .i64 0, .int .i64 0] 26 ?_; intro Ai hg C7 hbox hb; have Ab := aM (hbox); have Am := gwS hg Z0; have Ah := gwS hg Z0; replace HB := hbS Z0 hb; clear hb hbox hg; obtain ⟨Bi, Bj, Bk, Bl, Bm⟩ := bz5 Ab; obtain ⟨Bn, Bo, Bp, Bq, Br⟩ := fz5 Ab)))
         go_roundg k1
         case measure => have := HK1.out; omega
         case rel => exact ⟨(Aa), (wrap64 (Aa + 1)), Z15, Z15, H', ⟨Z50⟩, ⟨Z48⟩⟩
        ·rw [if_neg Cd] at H
         have c11b0 : decide (Aj < 0) = false := decide_eq_false Cd; clear Cd
         by_cases Cg : 0 ≤ Aj
         ·rw [if_pos Cg] at H
          have c14b0 : decide (0 ≤ Aj) = true := decide_eq_true Cg; clear Cg
          by_cases Ch : Aj < (l0.length : Int)
          ·rw [if_pos Ch] at H
           have c15b0 : decide (Aj < (l0.length : Int)) = true := decide_eq_true Ch; clear Ch
           by_cases Ce : ((rd_T26 l0 Aa).f3) > ((rd_T26 l0 Aj).f3)
           ·rw [if_pos Ce] at H
            have c16b0 : decide (((rd_T26 l0 Aj).f3) < ((rd_T26 l0 Aa).f3)) = true := decide_eq_true Ce; clear Ce; have H' := Aside0.mk H; clear H; have Ak : 0 ≤ (Aa : Int) := of_decide_eq_true Z11; have Al : Aa < (l0.length : Int) := of_decide_eq_true Z11; obtain ⟨ad176, e176, Ac, Ad, Ae, Af, Ag⟩ := at_T26 Aw.out Aa Ak Al; cases e176; replace Ac := (HB.out.cell (World.block_lt_of_cell? w _ Ac)).trans Ac; replace Ad := (HB.out.cell (World.block_lt_of_cell? w _ Ad)).trans Ad; replace Ae := (HB.out.cell (World.block_lt_of_cell? w _ Ae)).trans Ae; replace Af := (HB.out.cell (World.block_lt_of_cell? w _ Af)).trans Af; replace Ag := (HB.out.cell (World.block_lt_of_cell? w _ Ag)).trans Ag; replace Ak := eq_true Ak; replace Al := eq_true Al
            go_wp2_with (first | ((with_reducible refine gate_dst (N := 6) rfl ?_); refine bxE 6 #[.int .i64 0, .string (⟨#[]⟩ : ByteArray), .int .i64 0, .int .i64 0, .int .i64 0] 26 ?_; intro Ai hg Da hbox hb; have Ab := aM (hbox); have Am := gwS hg Z0; have Ah := gwS hg Z0; replace HB := hbS Z0 hb; clear hb hbox hg; obtain ⟨Ci, Cj, Ck, Cl, Cm⟩ := bz5 Ab; obtain ⟨Cn, Co, Cp, Cq, Cr⟩ := fz5 Ab))
            refine spec_FastestFree.gen_world (fun W_ => Below w.heap.size w W_ ∧ W_.heap[Ai]? = some (.cells #[.int .i64 ((rd_T26 l0 Aa).f0), .string ((rd_T26 l0 Aa).f1), .int .i64 ((rd_T26 l0 Aa).f2), .int .i64 ((rd_T26 l0 Aa).f3), .int .i64 ((rd_T26 l0 Aa).f4)] 26 (0, 0))) ⟨(below_set ((below_set ((below_set ((below_set ((below_set (HB.out) Ah.out)) Ah.out)) Ah.out)) Ah.out)) Ah.out), blk_put (blk_put (blk_put (blk_put (blk_put (Ab.out) 0 (.int .i64 ((rd_T26 l0 Aa).f0)) rfl) 1 (.string ((rd_T26 l0 Aa).f1)) rfl) 2 (.int .i64 ((rd_T26 l0 Aa).f2)) rfl) 3 (.int .i64 ((rd_T26 l0 Aa).f3)) rfl) 4 (.int .i64 ((rd_T26 l0 Aa).f4)) rfl⟩ ?_; rintro w17g ⟨hb_, hk_⟩; clear Ab HB; have HB := Aside0.mk hb_; have Ab := Aside0.mk hk_; clear hb_ hk_; have hcz_0 : w17g.cell? ⟨Ai, 0, none⟩ = some (.int .i64 ((rd_T26 l0 Aa).f0)) := (blk_cell Ab.out 0).trans rfl; have hcz_1 : w17g.cell? ⟨Ai, 1, none⟩ = some (.string ((rd_T26 l0 Aa).f1)) := (blk_cell Ab.out 1).trans rfl; have hcz_2 : w17g.cell? ⟨Ai, 2, none⟩ = some (.int .i64 ((rd_T26 l0 Aa).f2)) := (blk_cell Ab.out 2).trans rfl; have hcz_3 : w17g.cell? ⟨Ai, 3, none⟩ = some (.int .i64 ((rd_T26 l0 Aa).f3)) := (blk_cell Ab.out 3).trans rfl; have hcz_4 : w17g.cell? ⟨Ai, 4, none⟩ = some (.int .i64 ((rd_T26 l0 Aa).f4)) := (blk_cell Ab.out 4).trans rfl; have Au : 0 ≤ (Aj : Int) := of_decide_eq_true Z11; have Av : Aj < (l0.length : Int) := of_decide_eq_true Z11; obtain ⟨ad178, e178, B4, B6, B7, B8, B9⟩ := at_T26 (Kd.C_below Aw.out HB.out) Aj Au Av; obtain rfl := Option.some.inj e178; replace Au := eq_true Au; replace Av := eq_true Av
            go_quiet (fail)
            try go_wp2
            go_roundg k1
            case measure => have := HK1.out; omega
            case rel => exact ⟨(Aa), (wrap64 (Aa + 1)), Z15, Z15, H', ⟨Z50⟩, ⟨Z48⟩⟩
           ·rw [if_neg Ce] at H
            have c16b0 : decide (((rd_T26 l0 Aj).f3) < ((rd_T26 l0 Aa).f3)) = false := decide_eq_false Ce; clear Ce; have H' := Aside0.mk H; clear H; have Ak : 0 ≤ (Aa : Int) := of_decide_eq_true Z11; have Al : Aa < (l0.length : Int) := of_decide_eq_true Z11; obtain ⟨ad176, e176, Ac, Ad, Ae, Af, Ag⟩ := at_T26 Aw.out Aa Ak Al; cases e176; replace Ac := (HB.out.cell (World.block_lt_of_cell? w _ Ac)).trans Ac; replace Ad := (HB.out.cell (World.block_lt_of_cell? w _ Ad)).trans Ad; replace Ae := (HB.out.cell (World.block_lt_of_cell? w _ Ae)).trans Ae; replace Af := (HB.out.cell (World.block_lt_of_cell? w _ Af)).trans Af; replace Ag := (HB.out.cell (World.block_lt_of_cell? w _ Ag)).trans Ag; replace Ak := eq_true Ak; replace Al := eq_true Al
            go_wp2_with (first | ((with_reducible refine gate_dst (N := 6) rfl ?_); refine bxE 6 #[.int .i64 0, .string (⟨#[]⟩ : ByteArray), .int .i64 0, .int .i64 0, .int .i64 0] 26 ?_; intro Ai hg Db hbox hb; have Ab := aM (hbox); have Am := gwS hg Z0; have Ah := gwS hg Z0; replace HB := hbS Z0 hb; clear hb hbox hg; obtain ⟨Cs, Ct, Cu, Cv, Cw⟩ := bz5 Ab; obtain ⟨Cx, Cy, Cz, C0, C1⟩ := fz5 Ab))
            refine spec_FastestFree.gen_world (fun W_ => Below w.heap.size w W_ ∧ W_.heap[Ai]? = some (.cells #[.int .i64 ((rd_T26 l0 Aa).f0), .string ((rd_T26 l0 Aa).f1), .int .i64 ((rd_T26 l0 Aa).f2), .int .i64 ((rd_T26 l0 Aa).f3), .int .i64 ((rd_T26 l0 Aa).f4)] 26 (0, 0))) ⟨(below_set ((below_set ((below_set ((below_set ((below_set (HB.out) Ah.out)) Ah.out)) Ah.out)) Ah.out)) Ah.out), blk_put (blk_put (blk_put (blk_put (blk_put (Ab.out) 0 (.int .i64 ((rd_T26 l0 Aa).f0)) rfl) 1 (.string ((rd_T26 l0 Aa).f1)) rfl) 2 (.int .i64 ((rd_T26 l0 Aa).f2)) rfl) 3 (.int .i64 ((rd_T26 l0 Aa).f3)) rfl) 4 (.int .i64 ((rd_T26 l0 Aa).f4)) rfl⟩ ?_; rintro w19g ⟨hb_, hk_⟩; clear Ab HB; have HB := Aside0.mk hb_; have Ab := Aside0.mk hk_; clear hb_ hk_; have hcz_0 : w19g.cell? ⟨Ai, 0, none⟩ = some (.int .i64 ((rd_T26 l0 Aa).f0)) := (blk_cell Ab.out 0).trans rfl; have hcz_1 : w19g.cell? ⟨Ai, 1, none⟩ = some (.string ((rd_T26 l0 Aa).f1)) := (blk_cell Ab.out 1).trans rfl; have hcz_2 : w19g.cell? ⟨Ai, 2, none⟩ = some (.int .i64 ((rd_T26 l0 Aa).f2)) := (blk_cell Ab.out 2).trans rfl; have hcz_3 : w19g.cell? ⟨Ai, 3, none⟩ = some (.int .i64 ((rd_T26 l0 Aa).f3)) := (blk_cell Ab.out 3).trans rfl; have hcz_4 : w19g.cell? ⟨Ai, 4, none⟩ = some (.int .i64 ((rd_T26 l0 Aa).f4)) := (blk_cell Ab.out 4).trans rfl; have Au : 0 ≤ (Aj : Int) := of_decide_eq_true Z11; have Av : Aj < (l0.length : Int) := of_decide_eq_true Z11; obtain ⟨ad178, e178, B4, B6, B7, B8, B9⟩ := at_T26 (Kd.C_below Aw.out HB.out) Aj Au Av; obtain rfl := Option.some.inj e178; replace Au := eq_true Au; replace Av := eq_true Av
            go_quiet (fail)
            try go_wp2
            go_roundg k1
            case measure => have := HK1.out; omega
            case rel => exact ⟨(Aj), (wrap64 (Aa + 1)), Z15, Z15, H', ⟨Z50⟩, ⟨Z48⟩⟩
          ·rw [if_neg Ch] at H
           exact absurd H (by simp)
         ·rw [if_neg Cg] at H
          exact absurd H (by simp)
      ·rw [if_neg c7] at H
       have c7b0 : (((rd_T26 l0 Aa).f4) == 0) = false := beq_eq_false_iff_ne.mpr c7; have c7b1 : (((rd_T26 l0 Aa).f4) != 0) = true := bne_iff_ne.mpr c7; have H' := Aside0.mk H; clear H; have Ak : 0 ≤ (Aa : Int) := of_decide_eq_true Z11; have Al : Aa < (l0.length : Int) := of_decide_eq_true Z11; obtain ⟨ad176, e176, Ac, Ad, Ae, Af, Ag⟩ := at_T26 Aw.out Aa Ak Al; cases e176; replace Ac := (HB.out.cell (World.block_lt_of_cell? w _ Ac)).trans Ac; replace Ad := (HB.out.cell (World.block_lt_of_cell? w _ Ad)).trans Ad; replace Ae := (HB.out.cell (World.block_lt_of_cell? w _ Ae)).trans Ae; replace Af := (HB.out.cell (World.block_lt_of_cell? w _ Af)).trans Af; replace Ag := (HB.out.cell (World.block_lt_of_cell? w _ Ag)).trans Ag; replace Ak := eq_true Ak; replace Al := eq_true Al
       go_wp2_with (first | ((with_reducible refine gate_dst (N := 6) rfl ?_); refine bxE 6 #[.int .i64 0, .string (⟨#[]⟩ : ByteArray), .int .i64 0, .int .i64 0, .int .i64 0] 26 ?_; intro Ai hg C8 hbox hb; have Ab := aM (hbox); have Am := gwS hg Z0; have Ah := gwS hg Z0; replace HB := hbS Z0 hb; clear hb hbox hg; obtain ⟨Bs, Bt, Bu, Bv, Bw⟩ := bz5 Ab; obtain ⟨Bx, Bz, B0, B1, B2⟩ := fz5 Ab))
       repeat (go_quiet (first | ((with_reducible refine gate_dst (N := 6) rfl ?_); refine bxE 6 #[.int .i64 0, .string (⟨#[]⟩ : ByteArray), .int .i64 0, .int .i64 0, .int .i64 0] 26 ?_; intro Ai hg C8 hbox hb; have Ab := aM (hbox); have Am := gwS hg Z0; have Ah := gwS hg Z0; replace HB := hbS Z0 hb; clear hb hbox hg; obtain ⟨Bs, Bt, Bu, Bv, Bw⟩ := bz5 Ab; obtain ⟨Bx, Bz, B0, B1, B2⟩ := fz5 Ab)); try go_wp2_with (first | ((with_reducible refine gate_dst (N := 6) rfl ?_); refine bxE 6 #[.int .i64 0, .string (⟨#[]⟩ : ByteArray), .int .i64 0, .int .i64 0, .int .i64 0] 26 ?_; intro Ai hg C8 hbox hb; have Ab := aM (hbox); have Am := gwS hg Z0; have Ah := gwS hg Z0; replace HB := hbS Z0 hb; clear hb hbox hg; obtain ⟨Bs, Bt, Bu, Bv, Bw⟩ := bz5 Ab; obtain ⟨Bx, Bz, B0, B1, B2⟩ := fz5 Ab)))
       go_roundg k1
       case measure => have := HK1.out; omega
       case rel => exact ⟨(Aj), (wrap64 (Aa + 1)), Z15, Z15, H', ⟨Z50⟩, ⟨Z48⟩⟩
     ·rw [if_neg c6] at H
      exact absurd H (by simp)
    ·rw [if_neg c5] at H
     have c5b0 : decide (Aa < (l0.length : Int)) = false := decide_eq_false c5; clear c5
     by_cases Cf : Aj < 0
     ·rw [if_pos Cf] at H
      have c23b0 : decide (Aj < 0) = true := decide_eq_true Cf; clear Cf
      simp only [Option.some.injEq, Prod.mk.injEq] at H
      obtain ⟨rfl, rfl⟩ := H
      go_wp2
      repeat (go_quiet (fail); try go_wp2)
      go_ret2
      exact ⟨Z13, Z0⟩
     ·rw [if_neg Cf] at H
      have c23b0 : decide (Aj < 0) = false := decide_eq_false Cf; clear Cf
      by_cases C2 : 0 ≤ Aj
      ·rw [if_pos C2] at H
       have c24b0 : decide (0 ≤ Aj) = true := decide_eq_true C2; clear C2
       by_cases C3 : Aj < (l0.length : Int)
       ·rw [if_pos C3] at H
        have c25b0 : decide (Aj < (l0.length : Int)) = true := decide_eq_true C3; clear C3
        simp only [Option.some.injEq, Prod.mk.injEq] at H
        obtain ⟨rfl, rfl⟩ := H; have Ca : 0 ≤ (Aj : Int) := of_decide_eq_true Z11; have Cb : Aj < (l0.length : Int) := of_decide_eq_true Z11; obtain ⟨ad179, e179, An, Ao, Ap, Aq, Ar⟩ := at_T26 Aw.out Aj Ca Cb; cases e179; replace An := (HB.out.cell (World.block_lt_of_cell? w _ An)).trans An; replace Ao := (HB.out.cell (World.block_lt_of_cell? w _ Ao)).trans Ao; replace Ap := (HB.out.cell (World.block_lt_of_cell? w _ Ap)).trans Ap; replace Aq := (HB.out.cell (World.block_lt_of_cell? w _ Aq)).trans Aq; replace Ar := (HB.out.cell (World.block_lt_of_cell? w _ Ar)).trans Ar; replace Ca := eq_true Ca; replace Cb := eq_true Cb
        go_wp2
        repeat (go_quiet (fail); try go_wp2)
        go_ret2
        exact ⟨Z13, Z0⟩
       ·rw [if_neg C3] at H
        exact absurd H (by simp)
      ·rw [if_neg C2] at H
       exact absurd H (by simp)
 ·replace c3 := Bool.eq_false_iff.mpr c3
  subst c3
  have H1 : (some (0, false)) = some (r1, r2) := by rw [if_neg (show ¬ (false = true) by decide)] at H; exact H
  clear H; have H := H1; clear H1
  simp only [Option.some.injEq, Prod.mk.injEq] at H
  obtain ⟨rfl, rfl⟩ := H
  go_enter Tryd.func36, Tryd.ntmps36
  go_wp2_with (first | (go_at_call 61; (with_reducible refine (spec_l11Good.calls k _ _ l0 false _ ?side1 ?side2 A2.out).mono ?_); (case side1 => exact Z41); (case side2 => exact Cc.out); rintro e C9 ⟨rfl, hb⟩; replace HB := hbS Z0 hb; (try clear hb)))
  repeat (go_quiet (first | (go_at_call 61; (with_reducible refine (spec_l11Good.calls k _ _ l0 false _ ?side1 ?side2 A2.out).mono ?_); (case side1 => exact Z41); (case side2 => exact Cc.out); rintro e C9 ⟨rfl, hb⟩; replace HB := hbS Z0 hb; (try clear hb))); try go_wp2_with (first | (go_at_call 61; (with_reducible refine (spec_l11Good.calls k _ _ l0 false _ ?side1 ?side2 A2.out).mono ?_); (case side1 => exact Z41); (case side2 => exact Cc.out); rintro e C9 ⟨rfl, hb⟩; replace HB := hbS Z0 hb; (try clear hb))))
  go_ret2
  exact ⟨Z13, Z0⟩
def slices_Clone_wv.f (l0 : List (S26)) : Option (List (S26)) := if l0.length < 2932031007402 then some l0 else none
theorem slices_Clone_wv.calls (A0 : Option Addr) (c0 : Nat) (l0 : List (S26)) (r : List (S26)) (w : World) (Ab : Kd.C k26 w A0 l0.length l0) (Ae : l0.length ≤ c0) (h : slices_Clone_wv.f l0 = some r) :
  Calls Tryd.prog 78 #[.slice A0 l0.length c0] w fun e w' => ∃ v0_ : Value, e = .returned (v0_) ∧ Kd.R k26 26 w' w.heap.size (fun _ => True) v0_ r ∧ Below w.heap.size w w' := by
 unfold slices_Clone_wv.f at h
 by_cases hq : l0.length < 2932031007402
 case neg => rw [if_neg hq] at h; cases h
 rw [if_pos hq] at h; obtain rfl := Option.some.inj h; have HQ := Aside0.mk hq; clear h hq; cases A0 with
 | none =>
  have hn : l0 = [] := by
   cases l0 with
   | nil => rfl
   | cons x t => exact absurd (Ab.2.2 (by simp)) (by rintro ⟨ad, e, _⟩; cases e)
  subst hn
  have Ah : ∀ (w : World) (a : Option Addr) (n c n' c' : Nat), (binOp .eql 32 (.slice a n c) (.slice none n' c')).run Tryd.prog w = .ok (.bool a.isNone) w := fun w a n c n' c' => Lib.run_eql_slice_nil w _ _ a n c n' c' Tryd.underlying32
  clear Ab Ae
  go_enter Tryd.func78, Tryd.ntmps78
  go_wp2
  go_ret
  exact ⟨_, rfl, Kd.R_nil _ _ _ _ _, Below.refl _ _⟩
 | some ad =>
  have Ah : ∀ (w : World) (a : Option Addr) (n c n' c' : Nat), (binOp .eql 32 (.slice a n c) (.slice none n' c')).run Tryd.prog w = .ok (.bool a.isNone) w := fun w a n c n' c' => Lib.run_eql_slice_nil w _ _ a n c n' c' Tryd.underlying32
  have Ai := Aside0.mk Ab; clear Ab Ae; have HB := aM (Below.refl w.heap.size w); obtain ⟨y0, Ac⟩ : ∃ y_ : List (S26), y_ = [] := ⟨_, rfl⟩; have LMc := aM (show y0.length + l0.length < 2932031007402 by rw [Ac]; simpa using HQ.out); obtain ⟨y1, Ad⟩ : ∃ y_ : List (S26), y_ = (y0 ++ l0) := ⟨_, rfl⟩
  have e1 : y1 = l0 := by rw [Ad, Ac]; rfl
  have Af := Aside0.mk Ac; have Aj := Aside0.mk Ad; have E1 := Aside0.mk e1; clear Ac Ad e1
  go_enter Tryd.func78, Tryd.ntmps78
  go_wp2_with (first | ((with_reducible refine gate_dst (N := 5) rfl ?_); refine Kd.R_lit k26 _ 26 ?hg (N := 5) ?hd (xs := ([] : List (S26))) (inner := []) (ok := fun _ => True) (okp := fun _ => True) ?hr ?hp (fun _ hk => hk) trivial (Below.refl _ _) (Nat.le_refl _) (by simp) ?_; (case hd => rfl); (case hg => rfl); (case hr => first | (go_simp; done) | (go_simp; rfl)); (case hp => exact (Reps.none _ _)); intro v5 w3 Aa hb hg_ hnew_; clear hg_ hnew_; (first | rw [← Af.out] at Aa | (simp only [Int.reduceToNat] at Aa; rw [← Af.out] at Aa)); have Ag := aM (Kd.R_lower Aa (below_size Z0)); replace HB := hbS Z0 hb; clear hb Aa) | ((with_reducible refine gate_builtin (b := .append) (xs := #[.tmp 5, .tmp 6]) rfl ?_); at_builtin; refine Kd.R_append_rows k26 (w0 := w) w.heap.size rfl (.tmp 5) (.tmp 6) 32 26 (.agg #[(.int .i64 0), (.string ⟨#[]⟩), (.int .i64 0), (.int .i64 0), (.int .i64 0)]) 48 rfl Tryd.underlying32 info26 rfl (by decide) (by omega) v5 y0 l0 _ _ _ (fun _ => True) (fun _ => False) rfl rfl ?aO ?aR (fun _ _ h => h) (fun _ h => h.elim) ?aF ?aB ?aS ?aL ?_; (case aR => repeat (first | exact (Kd.C_below Ai.out HB.out) | (with_reducible refine Kd.C_alloc ?_ _) | (with_reducible refine Kd.C_drewN ?_ _) | (with_reducible refine Kd.C_drew ?_))); (case aB => exact Z0); (case aF => exact (fun _ _ => trivial)); (case aO => exact Z14); (case aS => exact (below_size Z0)); (case aL => have := LMc.out; omega); intro v7 w5 ho hb hg hat; rw [← Aj.out] at ho; replace HB := aM (hb); have Ak := aM (ho); clear Ag; clear ho hb hg hat))
  go_ret
  exact ⟨_, Z57, by rw [← E1.out]; (with_reducible repeat (first | apply Kd.R_alloc | apply Kd.R_drewN | apply Kd.R_drew)); exact Ak.out, Z0⟩
end Go.Proofs.YthalifhbjioaeaaDoor.H
