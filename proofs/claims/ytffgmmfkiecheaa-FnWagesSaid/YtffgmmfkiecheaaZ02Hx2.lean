-- by wip/pack.py of this repo
import Derived.Test.YtffgmmfkiecheaaZ02Hx0
import Derived.Test.YtffgmmfkiecheaaZ02WLast
import Derived.Test.YtffgmmfkiecheaaZ02WMore
import Derived.Test.YtffgmmfkiecheaaZ02WWords
import Derived.Test.YtffgmmfkiecheaaZ02Short
namespace Go.Proofs.Ytffgmmfkiecheaa.H
open Go.RowKit Go.Proofs.YtffgmmfkiecheaaW.PrintWords Go.Proofs.YtffgmmfkiecheaaW.PrintLast Go.Proofs.YtffgmmfkiecheaaW.PrintMore
attribute [local go_sem] max2_int min2_int max_two min_two max_three min_three max_four min_four
set_option maxHeartbeats 8000000
set_option maxRecDepth 100000
set_option linter.unusedVariables false
set_option linter.unusedSimpArgs false
def spec_l1In.f (a0 : Int) (a1 : Int) (a2 : Int) : Option (Bool) := if a0 ≥ a1 then (some (decide (a0 ≤ a2))) else (some false)
theorem spec_l1In.calls (a0 : Int) (a1 : Int) (a2 : Int) (r : Bool) (w : World) (h : spec_l1In.f a0 a1 a2 = some r) :
  Calls Try.prog 53 #[.int .i64 a0, .int .i64 a1, .int .i64 a2] w fun e w' => e = .returned (.bool r) ∧ Drawn0 w w' := by
 have H : (if a0 ≥ a1 then (some (decide (a0 ≤ a2))) else (some false)) = some r := h; clear h
 by_cases c4 : a0 ≥ a1
 ·rw [if_pos c4] at H
  have c4b0 : decide (a1 ≤ a0) = true := decide_eq_true c4; clear c4; obtain rfl := Option.some.inj H
  go_enter Try.func53, Try.ntmps53
  go_wp2
  go_ret
  exact ⟨Z30, Z58⟩
 ·rw [if_neg c4] at H
  have c4b0 : decide (a1 ≤ a0) = false := decide_eq_false c4; clear c4; obtain rfl := Option.some.inj H
  go_enter Try.func53, Try.ntmps53
  go_wp2
  go_ret
  exact ⟨Z30, Z58⟩
theorem spec_l1In.eq (a b c : Int) : spec_l1In.f a b c = some (rng a b c) := by
 unfold spec_l1In.f rng; by_cases h : b ≤ a <;> simp [h]
def spec_l2Day.f (a0 : Int) : Option (Bool) := (spec_l1In.f a0 0 4000).bind fun t108 => (some t108)
theorem spec_l2Day.calls (a0 : Int) (r : Bool) (w : World) (h : spec_l2Day.f a0 = some r) :
  Calls Try.prog 57 #[.int .i64 a0] w fun e w' => e = .returned (.bool r) ∧ Drawn0 w w' := by
 have H : ((spec_l1In.f a0 0 4000).bind fun Aa => (some Aa)) = some r := h; clear h; replace H := Option.bind_eq_some_iff.mp H; obtain ⟨Aa, Ab, H⟩ := H; replace H : (some Aa) = some r := H; have A2 := Aside0.mk Ab; clear Ab; obtain rfl := Option.some.inj H
 go_enter Try.func57, Try.ntmps57
 go_wp2_with (first | ((with_reducible refine gate_callee (f := 53) rfl ?_); refine glE (some 4) Try.func53 #[.int .i64 a0, .int .i64 0, .int .i64 4000] ?_; (with_reducible refine (spec_l1In.calls a0 0 4000 Aa _ A2.out).mono ?_); rintro e w' ⟨rfl, ⟨nd, rfl⟩⟩; refine ⟨_, rfl, ?_⟩))
 go_ret
 exact ⟨Z30, Z58⟩
def spec_l14One.f (a0_0 : Int) (a0_1 : Int) (a0_2 : Int) (a0_3 : Int) (a0_4 : Int) : Option (Bool) := (spec_l1In.f a0_0 1 99).bind fun t110 => (if t110 = true then ((spec_l2Day.f a0_1).bind fun t111 => (if t111 = true then ((spec_l1In.f a0_2 0 12000).bind fun t112 => (if t112 = true then ((spec_l1In.f a0_3 0 a0_2).bind fun t113 => (if t113 = true then ((spec_l1In.f a0_4 0 12).bind fun t114 => (some t114)) else (some false))) else (some false))) else (some false))) else (some false))
theorem spec_l14One.calls (Ad : Int) (Ah : Int) (Aa : Int) (Af : Int) (Ae : Int) (r : Bool) (w : World) (h : spec_l14One.f Ad Ah Aa Af Ae = some r) :
  Calls Try.prog 59 #[.agg #[.int .i64 Ad, .int .i64 Ah, .int .i64 Aa, .int .i64 Af, .int .i64 Ae]] w fun e w' => e = .returned (.bool r) ∧ Below w.heap.size w w' := by
 have hu48 := Try.underlying48; have HB := aM (Below.refl w.heap.size w); have H : ((spec_l1In.f Ad 1 99).bind fun An => (if An = true then ((spec_l2Day.f Ah).bind fun Ak => (if Ak = true then ((spec_l1In.f Aa 0 12000).bind fun Aj => (if Aj = true then ((spec_l1In.f Af 0 Aa).bind fun Ag => (if Ag = true then ((spec_l1In.f Ae 0 12).bind fun Ac => (some Ac)) else (some false))) else (some false))) else (some false))) else (some false))) = some r := h; clear h; replace H := Option.bind_eq_some_iff.mp H; obtain ⟨An, Cn, H⟩ := H; replace H : (if An = true then ((spec_l2Day.f Ah).bind fun Ak => (if Ak = true then ((spec_l1In.f Aa 0 12000).bind fun Aj => (if Aj = true then ((spec_l1In.f Af 0 Aa).bind fun Ag => (if Ag = true then ((spec_l1In.f Ae 0 12).bind fun Ac => (some Ac)) else (some false))) else (some false))) else (some false))) else (some false)) = some r := H; have A2 := Aside0.mk Cn; clear Cn
 by_cases c3 : An = true
 ·subst c3
  have H1 : ((spec_l2Day.f Ah).bind fun Ak => (if Ak = true then ((spec_l1In.f Aa 0 12000).bind fun Aj => (if Aj = true then ((spec_l1In.f Af 0 Aa).bind fun Ag => (if Ag = true then ((spec_l1In.f Ae 0 12).bind fun Ac => (some Ac)) else (some false))) else (some false))) else (some false))) = some r := by rw [if_pos rfl] at H; exact H
  clear H; have H := H1; clear H1; replace H := Option.bind_eq_some_iff.mp H; obtain ⟨Ak, Co, H⟩ := H; replace H : (if Ak = true then ((spec_l1In.f Aa 0 12000).bind fun Aj => (if Aj = true then ((spec_l1In.f Af 0 Aa).bind fun Ag => (if Ag = true then ((spec_l1In.f Ae 0 12).bind fun Ac => (some Ac)) else (some false))) else (some false))) else (some false)) = some r := H; have A4 := Aside0.mk Co; clear Co
  by_cases c5 : Ak = true
  ·subst c5
   have H1 : ((spec_l1In.f Aa 0 12000).bind fun Aj => (if Aj = true then ((spec_l1In.f Af 0 Aa).bind fun Ag => (if Ag = true then ((spec_l1In.f Ae 0 12).bind fun Ac => (some Ac)) else (some false))) else (some false))) = some r := by rw [if_pos rfl] at H; exact H
   clear H; have H := H1; clear H1; replace H := Option.bind_eq_some_iff.mp H; obtain ⟨Aj, Cp, H⟩ := H; replace H : (if Aj = true then ((spec_l1In.f Af 0 Aa).bind fun Ag => (if Ag = true then ((spec_l1In.f Ae 0 12).bind fun Ac => (some Ac)) else (some false))) else (some false)) = some r := H; have A6 := Aside0.mk Cp; clear Cp
   by_cases c7 : Aj = true
   ·subst c7
    have H1 : ((spec_l1In.f Af 0 Aa).bind fun Ag => (if Ag = true then ((spec_l1In.f Ae 0 12).bind fun Ac => (some Ac)) else (some false))) = some r := by rw [if_pos rfl] at H; exact H
    clear H; have H := H1; clear H1; replace H := Option.bind_eq_some_iff.mp H; obtain ⟨Ag, Cq, H⟩ := H; replace H : (if Ag = true then ((spec_l1In.f Ae 0 12).bind fun Ac => (some Ac)) else (some false)) = some r := H; have A8 := Aside0.mk Cq; clear Cq
    by_cases c9 : Ag = true
    ·subst c9
     have H1 : ((spec_l1In.f Ae 0 12).bind fun Ac => (some Ac)) = some r := by rw [if_pos rfl] at H; exact H
     clear H; have H := H1; clear H1; replace H := Option.bind_eq_some_iff.mp H; obtain ⟨Ac, Ao, H⟩ := H; replace H : (some Ac) = some r := H; have Cr := Aside0.mk Ao; clear Ao; obtain rfl := Option.some.inj H
     go_enter Try.func59, Try.ntmps59
     go_wp2_with (first | ((with_reducible refine gate_dst (N := 1) rfl ?_); refine bxE 1 #[.int .i64 Ad, .int .i64 Ah, .int .i64 Aa, .int .i64 Af, .int .i64 Ae] 48 ?_; intro Al hg Cs hbox hb; have Ab := aM (hbox); have Am := gwS hg Z1; have Ai := gwS hg Z1; replace HB := hbS Z1 hb; clear hb hbox hg; obtain ⟨Ap, Aq, Ar, Au, Av⟩ := bz5 Ab; obtain ⟨Aw, Ax, Ay, Az, Ba⟩ := fz5 Ab) | ((with_reducible refine gate_callee (f := 53) rfl ?_); refine glE (some 5) Try.func53 #[.int .i64 Ad, .int .i64 1, .int .i64 99] ?_; (with_reducible refine (spec_l1In.calls Ad 1 99 true _ A2.out).mono ?_); rintro e w' ⟨rfl, ⟨nd, rfl⟩⟩; refine ⟨_, rfl, ?_⟩) | (go_at_call 57; (with_reducible refine (spec_l2Day.calls Ah true _ A4.out).mono ?_); rintro e w' ⟨rfl, ⟨nd, rfl⟩⟩) | (go_at_call 53; (with_reducible refine (spec_l1In.calls Aa 0 12000 true _ A6.out).mono ?_); rintro e w' ⟨rfl, ⟨nd, rfl⟩⟩) | (go_at_call 53; (with_reducible refine (spec_l1In.calls Af 0 Aa true _ A8.out).mono ?_); rintro e w' ⟨rfl, ⟨nd, rfl⟩⟩) | (go_at_call 53; (with_reducible refine (spec_l1In.calls Ae 0 12 Ac _ Cr.out).mono ?_); rintro e w' ⟨rfl, ⟨nd, rfl⟩⟩))
     go_ret
     exact ⟨Z20, Z15⟩
    ·replace c9 := Bool.eq_false_iff.mpr c9
     subst c9
     have H1 : (some false) = some r := by rw [if_neg (show ¬ (false = true) by decide)] at H; exact H
     clear H; have H := H1; clear H1; obtain rfl := Option.some.inj H
     go_enter Try.func59, Try.ntmps59
     go_wp2_with (first | ((with_reducible refine gate_dst (N := 1) rfl ?_); refine bxE 1 #[.int .i64 Ad, .int .i64 Ah, .int .i64 Aa, .int .i64 Af, .int .i64 Ae] 48 ?_; intro Al hg Ct hbox hb; have Ab := aM (hbox); have Am := gwS hg Z1; have Ai := gwS hg Z1; replace HB := hbS Z1 hb; clear hb hbox hg; obtain ⟨Bb, Bc, Bd, Bf, Bg⟩ := bz5 Ab; obtain ⟨Bh, Bi, Bj, Bk, Bl⟩ := fz5 Ab) | ((with_reducible refine gate_callee (f := 53) rfl ?_); refine glE (some 5) Try.func53 #[.int .i64 Ad, .int .i64 1, .int .i64 99] ?_; (with_reducible refine (spec_l1In.calls Ad 1 99 true _ A2.out).mono ?_); rintro e w' ⟨rfl, ⟨nd, rfl⟩⟩; refine ⟨_, rfl, ?_⟩) | (go_at_call 57; (with_reducible refine (spec_l2Day.calls Ah true _ A4.out).mono ?_); rintro e w' ⟨rfl, ⟨nd, rfl⟩⟩) | (go_at_call 53; (with_reducible refine (spec_l1In.calls Aa 0 12000 true _ A6.out).mono ?_); rintro e w' ⟨rfl, ⟨nd, rfl⟩⟩) | (go_at_call 53; (with_reducible refine (spec_l1In.calls Af 0 Aa false _ A8.out).mono ?_); rintro e w' ⟨rfl, ⟨nd, rfl⟩⟩))
     go_ret
     exact ⟨Z20, Z15⟩
   ·replace c7 := Bool.eq_false_iff.mpr c7
    subst c7
    have H1 : (some false) = some r := by rw [if_neg (show ¬ (false = true) by decide)] at H; exact H
    clear H; have H := H1; clear H1; obtain rfl := Option.some.inj H
    go_enter Try.func59, Try.ntmps59
    go_wp2_with (first | ((with_reducible refine gate_dst (N := 1) rfl ?_); refine bxE 1 #[.int .i64 Ad, .int .i64 Ah, .int .i64 Aa, .int .i64 Af, .int .i64 Ae] 48 ?_; intro Al hg Cu hbox hb; have Ab := aM (hbox); have Am := gwS hg Z1; have Ai := gwS hg Z1; replace HB := hbS Z1 hb; clear hb hbox hg; obtain ⟨Bm, Bn, Bo, Bp, Bq⟩ := bz5 Ab; obtain ⟨Br, Bs, Bt, Bu, Bv⟩ := fz5 Ab) | ((with_reducible refine gate_callee (f := 53) rfl ?_); refine glE (some 5) Try.func53 #[.int .i64 Ad, .int .i64 1, .int .i64 99] ?_; (with_reducible refine (spec_l1In.calls Ad 1 99 true _ A2.out).mono ?_); rintro e w' ⟨rfl, ⟨nd, rfl⟩⟩; refine ⟨_, rfl, ?_⟩) | (go_at_call 57; (with_reducible refine (spec_l2Day.calls Ah true _ A4.out).mono ?_); rintro e w' ⟨rfl, ⟨nd, rfl⟩⟩) | (go_at_call 53; (with_reducible refine (spec_l1In.calls Aa 0 12000 false _ A6.out).mono ?_); rintro e w' ⟨rfl, ⟨nd, rfl⟩⟩))
    go_ret
    exact ⟨Z20, Z15⟩
  ·replace c5 := Bool.eq_false_iff.mpr c5
   subst c5
   have H1 : (some false) = some r := by rw [if_neg (show ¬ (false = true) by decide)] at H; exact H
   clear H; have H := H1; clear H1; obtain rfl := Option.some.inj H
   go_enter Try.func59, Try.ntmps59
   go_wp2_with (first | ((with_reducible refine gate_dst (N := 1) rfl ?_); refine bxE 1 #[.int .i64 Ad, .int .i64 Ah, .int .i64 Aa, .int .i64 Af, .int .i64 Ae] 48 ?_; intro Al hg Cv hbox hb; have Ab := aM (hbox); have Am := gwS hg Z1; have Ai := gwS hg Z1; replace HB := hbS Z1 hb; clear hb hbox hg; obtain ⟨Bw, Bx, Bz, B0, B5⟩ := bz5 Ab; obtain ⟨B7, B9, Ca, Cb, Cc⟩ := fz5 Ab) | ((with_reducible refine gate_callee (f := 53) rfl ?_); refine glE (some 5) Try.func53 #[.int .i64 Ad, .int .i64 1, .int .i64 99] ?_; (with_reducible refine (spec_l1In.calls Ad 1 99 true _ A2.out).mono ?_); rintro e w' ⟨rfl, ⟨nd, rfl⟩⟩; refine ⟨_, rfl, ?_⟩) | (go_at_call 57; (with_reducible refine (spec_l2Day.calls Ah false _ A4.out).mono ?_); rintro e w' ⟨rfl, ⟨nd, rfl⟩⟩))
   go_ret
   exact ⟨Z20, Z15⟩
 ·replace c3 := Bool.eq_false_iff.mpr c3
  subst c3
  have H1 : (some false) = some r := by rw [if_neg (show ¬ (false = true) by decide)] at H; exact H
  clear H; have H := H1; clear H1; obtain rfl := Option.some.inj H
  go_enter Try.func59, Try.ntmps59
  go_wp2_with (first | ((with_reducible refine gate_dst (N := 1) rfl ?_); refine bxE 1 #[.int .i64 Ad, .int .i64 Ah, .int .i64 Aa, .int .i64 Af, .int .i64 Ae] 48 ?_; intro Al hg Cw hbox hb; have Ab := aM (hbox); have Am := gwS hg Z1; have Ai := gwS hg Z1; replace HB := hbS Z1 hb; clear hb hbox hg; obtain ⟨Cd, Ce, Cf, Cg, Ch⟩ := bz5 Ab; obtain ⟨Ci, Cj, Ck, Cl, Cm⟩ := fz5 Ab) | ((with_reducible refine gate_callee (f := 53) rfl ?_); refine glE (some 5) Try.func53 #[.int .i64 Ad, .int .i64 1, .int .i64 99] ?_; (with_reducible refine (spec_l1In.calls Ad 1 99 false _ A2.out).mono ?_); rintro e w' ⟨rfl, ⟨nd, rfl⟩⟩; refine ⟨_, rfl, ?_⟩))
  go_ret
  exact ⟨Z20, Z15⟩
end Go.Proofs.Ytffgmmfkiecheaa.H
