-- by wip/pack.py of this repo
import Derived.Test.YtffgmmfkiecheaaZ00Hx0
import Derived.Test.YtffgmmfkiecheaaZ00WLast
import Derived.Test.YtffgmmfkiecheaaZ00WMore
import Derived.Test.YtffgmmfkiecheaaZ00WWords
import Derived.Test.YtffgmmfkiecheaaZ00Short
namespace Go.Proofs.Ytffgmmfkiecheaa.H
open Go.RowKit Go.Proofs.YtffgmmfkiecheaaW.PrintWords Go.Proofs.YtffgmmfkiecheaaW.PrintLast Go.Proofs.YtffgmmfkiecheaaW.PrintMore
attribute [local go_sem] max2_int min2_int max_two min_two max_three min_three max_four min_four
set_option maxHeartbeats 8000000
set_option maxRecDepth 100000
set_option linter.unusedVariables false
set_option linter.unusedSimpArgs false
def spec_l1In.f (a0 : Int) (a1 : Int) (a2 : Int) : Option (Bool) := if a0 ≥ a1 then (some (decide (a0 ≤ a2))) else (some false)
theorem spec_l1In.calls (a0 : Int) (a1 : Int) (a2 : Int) (r : Bool) (w : World) (h : spec_l1In.f a0 a1 a2 = some r) :
  Calls Try.prog 53 #[.int .i64 a0, .int .i64 a1, .int .i64 a2] w fun e w' => e = .returned (.bool r) ∧ Drawn0 w w' := by
 have H : (if a0 ≥ a1 then (some (decide (a0 ≤ a2))) else (some false)) = some r := h
 clear h
 by_cases c4 : a0 ≥ a1
 ·rw [if_pos c4] at H
  have c4b0 : decide (a1 ≤ a0) = true := decide_eq_true c4
  clear c4
  obtain rfl := Option.some.inj H
  go_enter Try.func53, Try.ntmps53
  go_wp2
  go_ret
  exact ⟨Z6, Z16⟩
 ·rw [if_neg c4] at H
  have c4b0 : decide (a1 ≤ a0) = false := decide_eq_false c4
  clear c4
  obtain rfl := Option.some.inj H
  go_enter Try.func53, Try.ntmps53
  go_wp2
  go_ret
  exact ⟨Z6, Z16⟩
theorem spec_l1In.eq (a b c : Int) : spec_l1In.f a b c = some (rng a b c) := by
 unfold spec_l1In.f rng; by_cases h : b ≤ a <;> simp [h]
def spec_l2Day.f (a0 : Int) : Option (Bool) := (spec_l1In.f a0 0 4000).bind fun t108 => (some t108)
theorem spec_l2Day.calls (a0 : Int) (r : Bool) (w : World) (h : spec_l2Day.f a0 = some r) :
  Calls Try.prog 57 #[.int .i64 a0] w fun e w' => e = .returned (.bool r) ∧ Drawn0 w w' := by
 have H : ((spec_l1In.f a0 0 4000).bind fun t108 => (some t108)) = some r := h
 clear h
 replace H := Option.bind_eq_some_iff.mp H
 obtain ⟨t108, A20, H⟩ := H
 replace H : (some t108) = some r := H
 have A2 := Aside0.mk A20
 clear A20
 obtain rfl := Option.some.inj H
 go_enter Try.func57, Try.ntmps57
 go_wp2_with (first | ((with_reducible refine gate_callee (f := 53) rfl ?_); refine glE (some 4) Try.func53 #[.int .i64 a0, .int .i64 0, .int .i64 4000] ?_; (with_reducible refine (spec_l1In.calls a0 0 4000 t108 _ A2.out).mono ?_); rintro e w' ⟨rfl, ⟨nd, rfl⟩⟩; refine ⟨_, rfl, ?_⟩))
 go_ret
 exact ⟨Z6, Z16⟩
def spec_l14One.f (a0_0 : Int) (a0_1 : Int) (a0_2 : Int) (a0_3 : Int) (a0_4 : Int) : Option (Bool) := (spec_l1In.f a0_0 1 99).bind fun t110 => (if t110 = true then ((spec_l2Day.f a0_1).bind fun t111 => (if t111 = true then ((spec_l1In.f a0_2 0 12000).bind fun t112 => (if t112 = true then ((spec_l1In.f a0_3 0 a0_2).bind fun t113 => (if t113 = true then ((spec_l1In.f a0_4 0 12).bind fun t114 => (some t114)) else (some false))) else (some false))) else (some false))) else (some false))
theorem spec_l14One.calls (a0_0 : Int) (a0_1 : Int) (a0_2 : Int) (a0_3 : Int) (a0_4 : Int) (r : Bool) (w : World) (h : spec_l14One.f a0_0 a0_1 a0_2 a0_3 a0_4 = some r) :
  Calls Try.prog 59 #[.agg #[.int .i64 a0_0, .int .i64 a0_1, .int .i64 a0_2, .int .i64 a0_3, .int .i64 a0_4]] w fun e w' => e = .returned (.bool r) ∧ Below w.heap.size w w' := by
 have hu48 := Try.underlying48
 have HB := Aside0.mk (Below.refl w.heap.size w)
 have H : ((spec_l1In.f a0_0 1 99).bind fun t110 => (if t110 = true then ((spec_l2Day.f a0_1).bind fun t111 => (if t111 = true then ((spec_l1In.f a0_2 0 12000).bind fun t112 => (if t112 = true then ((spec_l1In.f a0_3 0 a0_2).bind fun t113 => (if t113 = true then ((spec_l1In.f a0_4 0 12).bind fun t114 => (some t114)) else (some false))) else (some false))) else (some false))) else (some false))) = some r := h
 clear h
 replace H := Option.bind_eq_some_iff.mp H
 obtain ⟨t110, A20, H⟩ := H
 replace H : (if t110 = true then ((spec_l2Day.f a0_1).bind fun t111 => (if t111 = true then ((spec_l1In.f a0_2 0 12000).bind fun t112 => (if t112 = true then ((spec_l1In.f a0_3 0 a0_2).bind fun t113 => (if t113 = true then ((spec_l1In.f a0_4 0 12).bind fun t114 => (some t114)) else (some false))) else (some false))) else (some false))) else (some false)) = some r := H
 have A2 := Aside0.mk A20
 clear A20
 by_cases c3 : t110 = true
 ·subst c3
  have H1 : ((spec_l2Day.f a0_1).bind fun t111 => (if t111 = true then ((spec_l1In.f a0_2 0 12000).bind fun t112 => (if t112 = true then ((spec_l1In.f a0_3 0 a0_2).bind fun t113 => (if t113 = true then ((spec_l1In.f a0_4 0 12).bind fun t114 => (some t114)) else (some false))) else (some false))) else (some false))) = some r := by rw [if_pos rfl] at H; exact H
  clear H
  have H := H1
  clear H1
  replace H := Option.bind_eq_some_iff.mp H
  obtain ⟨t111, A40, H⟩ := H
  replace H : (if t111 = true then ((spec_l1In.f a0_2 0 12000).bind fun t112 => (if t112 = true then ((spec_l1In.f a0_3 0 a0_2).bind fun t113 => (if t113 = true then ((spec_l1In.f a0_4 0 12).bind fun t114 => (some t114)) else (some false))) else (some false))) else (some false)) = some r := H
  have A4 := Aside0.mk A40
  clear A40
  by_cases c5 : t111 = true
  ·subst c5
   have H1 : ((spec_l1In.f a0_2 0 12000).bind fun t112 => (if t112 = true then ((spec_l1In.f a0_3 0 a0_2).bind fun t113 => (if t113 = true then ((spec_l1In.f a0_4 0 12).bind fun t114 => (some t114)) else (some false))) else (some false))) = some r := by rw [if_pos rfl] at H; exact H
   clear H
   have H := H1
   clear H1
   replace H := Option.bind_eq_some_iff.mp H
   obtain ⟨t112, A60, H⟩ := H
   replace H : (if t112 = true then ((spec_l1In.f a0_3 0 a0_2).bind fun t113 => (if t113 = true then ((spec_l1In.f a0_4 0 12).bind fun t114 => (some t114)) else (some false))) else (some false)) = some r := H
   have A6 := Aside0.mk A60
   clear A60
   by_cases c7 : t112 = true
   ·subst c7
    have H1 : ((spec_l1In.f a0_3 0 a0_2).bind fun t113 => (if t113 = true then ((spec_l1In.f a0_4 0 12).bind fun t114 => (some t114)) else (some false))) = some r := by rw [if_pos rfl] at H; exact H
    clear H
    have H := H1
    clear H1
    replace H := Option.bind_eq_some_iff.mp H
    obtain ⟨t113, A80, H⟩ := H
    replace H : (if t113 = true then ((spec_l1In.f a0_4 0 12).bind fun t114 => (some t114)) else (some false)) = some r := H
    have A8 := Aside0.mk A80
    clear A80
    by_cases c9 : t113 = true
    ·subst c9
     have H1 : ((spec_l1In.f a0_4 0 12).bind fun t114 => (some t114)) = some r := by rw [if_pos rfl] at H; exact H
     clear H
     have H := H1
     clear H1
     replace H := Option.bind_eq_some_iff.mp H
     obtain ⟨t114, A100, H⟩ := H
     replace H : (some t114) = some r := H
     have A10 := Aside0.mk A100
     clear A100
     obtain rfl := Option.some.inj H
     go_enter Try.func59, Try.ntmps59
     go_wp2_with (first | ((with_reducible refine gate_dst (N := 1) rfl ?_); refine bxE 1 #[.int .i64 a0_0, .int .i64 a0_1, .int .i64 a0_2, .int .i64 a0_3, .int .i64 a0_4] 48 ?_; intro gb109 hg w11 hbox hb; have BK109 := Aside0.mk (hbox); have GW109 := gwS hg Z0; have GE109 := gwS hg Z0; replace HB := hbS Z0 hb; clear hb hbox hg; obtain ⟨hcz12_0, hcz12_1, hcz12_2, hcz12_3, hcz12_4⟩ := bz5 BK109; obtain ⟨hfz12_0, hfz12_1, hfz12_2, hfz12_3, hfz12_4⟩ := fz5 BK109) | ((with_reducible refine gate_callee (f := 53) rfl ?_); refine glE (some 5) Try.func53 #[.int .i64 a0_0, .int .i64 1, .int .i64 99] ?_; (with_reducible refine (spec_l1In.calls a0_0 1 99 true _ A2.out).mono ?_); rintro e w' ⟨rfl, ⟨nd, rfl⟩⟩; refine ⟨_, rfl, ?_⟩) | (go_at_call 57; (with_reducible refine (spec_l2Day.calls a0_1 true _ A4.out).mono ?_); rintro e w' ⟨rfl, ⟨nd, rfl⟩⟩) | (go_at_call 53; (with_reducible refine (spec_l1In.calls a0_2 0 12000 true _ A6.out).mono ?_); rintro e w' ⟨rfl, ⟨nd, rfl⟩⟩) | (go_at_call 53; (with_reducible refine (spec_l1In.calls a0_3 0 a0_2 true _ A8.out).mono ?_); rintro e w' ⟨rfl, ⟨nd, rfl⟩⟩) | (go_at_call 53; (with_reducible refine (spec_l1In.calls a0_4 0 12 t114 _ A10.out).mono ?_); rintro e w' ⟨rfl, ⟨nd, rfl⟩⟩))
     go_ret
     exact ⟨Z4, Z28⟩
    ·replace c9 := Bool.eq_false_iff.mpr c9
     subst c9
     have H1 : (some false) = some r := by rw [if_neg (show ¬ (false = true) by decide)] at H; exact H
     clear H
     have H := H1
     clear H1
     obtain rfl := Option.some.inj H
     go_enter Try.func59, Try.ntmps59
     go_wp2_with (first | ((with_reducible refine gate_dst (N := 1) rfl ?_); refine bxE 1 #[.int .i64 a0_0, .int .i64 a0_1, .int .i64 a0_2, .int .i64 a0_3, .int .i64 a0_4] 48 ?_; intro gb109 hg w13 hbox hb; have BK109 := Aside0.mk (hbox); have GW109 := gwS hg Z0; have GE109 := gwS hg Z0; replace HB := hbS Z0 hb; clear hb hbox hg; obtain ⟨hcz14_0, hcz14_1, hcz14_2, hcz14_3, hcz14_4⟩ := bz5 BK109; obtain ⟨hfz14_0, hfz14_1, hfz14_2, hfz14_3, hfz14_4⟩ := fz5 BK109) | ((with_reducible refine gate_callee (f := 53) rfl ?_); refine glE (some 5) Try.func53 #[.int .i64 a0_0, .int .i64 1, .int .i64 99] ?_; (with_reducible refine (spec_l1In.calls a0_0 1 99 true _ A2.out).mono ?_); rintro e w' ⟨rfl, ⟨nd, rfl⟩⟩; refine ⟨_, rfl, ?_⟩) | (go_at_call 57; (with_reducible refine (spec_l2Day.calls a0_1 true _ A4.out).mono ?_); rintro e w' ⟨rfl, ⟨nd, rfl⟩⟩) | (go_at_call 53; (with_reducible refine (spec_l1In.calls a0_2 0 12000 true _ A6.out).mono ?_); rintro e w' ⟨rfl, ⟨nd, rfl⟩⟩) | (go_at_call 53; (with_reducible refine (spec_l1In.calls a0_3 0 a0_2 false _ A8.out).mono ?_); rintro e w' ⟨rfl, ⟨nd, rfl⟩⟩))
     go_ret
     exact ⟨Z4, Z28⟩
   ·replace c7 := Bool.eq_false_iff.mpr c7
    subst c7
    have H1 : (some false) = some r := by rw [if_neg (show ¬ (false = true) by decide)] at H; exact H
    clear H
    have H := H1
    clear H1
    obtain rfl := Option.some.inj H
    go_enter Try.func59, Try.ntmps59
    go_wp2_with (first | ((with_reducible refine gate_dst (N := 1) rfl ?_); refine bxE 1 #[.int .i64 a0_0, .int .i64 a0_1, .int .i64 a0_2, .int .i64 a0_3, .int .i64 a0_4] 48 ?_; intro gb109 hg w15 hbox hb; have BK109 := Aside0.mk (hbox); have GW109 := gwS hg Z0; have GE109 := gwS hg Z0; replace HB := hbS Z0 hb; clear hb hbox hg; obtain ⟨hcz16_0, hcz16_1, hcz16_2, hcz16_3, hcz16_4⟩ := bz5 BK109; obtain ⟨hfz16_0, hfz16_1, hfz16_2, hfz16_3, hfz16_4⟩ := fz5 BK109) | ((with_reducible refine gate_callee (f := 53) rfl ?_); refine glE (some 5) Try.func53 #[.int .i64 a0_0, .int .i64 1, .int .i64 99] ?_; (with_reducible refine (spec_l1In.calls a0_0 1 99 true _ A2.out).mono ?_); rintro e w' ⟨rfl, ⟨nd, rfl⟩⟩; refine ⟨_, rfl, ?_⟩) | (go_at_call 57; (with_reducible refine (spec_l2Day.calls a0_1 true _ A4.out).mono ?_); rintro e w' ⟨rfl, ⟨nd, rfl⟩⟩) | (go_at_call 53; (with_reducible refine (spec_l1In.calls a0_2 0 12000 false _ A6.out).mono ?_); rintro e w' ⟨rfl, ⟨nd, rfl⟩⟩))
    go_ret
    exact ⟨Z4, Z28⟩
  ·replace c5 := Bool.eq_false_iff.mpr c5
   subst c5
   have H1 : (some false) = some r := by rw [if_neg (show ¬ (false = true) by decide)] at H; exact H
   clear H
   have H := H1
   clear H1
   obtain rfl := Option.some.inj H
   go_enter Try.func59, Try.ntmps59
   go_wp2_with (first | ((with_reducible refine gate_dst (N := 1) rfl ?_); refine bxE 1 #[.int .i64 a0_0, .int .i64 a0_1, .int .i64 a0_2, .int .i64 a0_3, .int .i64 a0_4] 48 ?_; intro gb109 hg w17 hbox hb; have BK109 := Aside0.mk (hbox); have GW109 := gwS hg Z0; have GE109 := gwS hg Z0; replace HB := hbS Z0 hb; clear hb hbox hg; obtain ⟨hcz18_0, hcz18_1, hcz18_2, hcz18_3, hcz18_4⟩ := bz5 BK109; obtain ⟨hfz18_0, hfz18_1, hfz18_2, hfz18_3, hfz18_4⟩ := fz5 BK109) | ((with_reducible refine gate_callee (f := 53) rfl ?_); refine glE (some 5) Try.func53 #[.int .i64 a0_0, .int .i64 1, .int .i64 99] ?_; (with_reducible refine (spec_l1In.calls a0_0 1 99 true _ A2.out).mono ?_); rintro e w' ⟨rfl, ⟨nd, rfl⟩⟩; refine ⟨_, rfl, ?_⟩) | (go_at_call 57; (with_reducible refine (spec_l2Day.calls a0_1 false _ A4.out).mono ?_); rintro e w' ⟨rfl, ⟨nd, rfl⟩⟩))
   go_ret
   exact ⟨Z4, Z28⟩
 ·replace c3 := Bool.eq_false_iff.mpr c3
  subst c3
  have H1 : (some false) = some r := by rw [if_neg (show ¬ (false = true) by decide)] at H; exact H
  clear H
  have H := H1
  clear H1
  obtain rfl := Option.some.inj H
  go_enter Try.func59, Try.ntmps59
  go_wp2_with (first | ((with_reducible refine gate_dst (N := 1) rfl ?_); refine bxE 1 #[.int .i64 a0_0, .int .i64 a0_1, .int .i64 a0_2, .int .i64 a0_3, .int .i64 a0_4] 48 ?_; intro gb109 hg w19 hbox hb; have BK109 := Aside0.mk (hbox); have GW109 := gwS hg Z0; have GE109 := gwS hg Z0; replace HB := hbS Z0 hb; clear hb hbox hg; obtain ⟨hcz20_0, hcz20_1, hcz20_2, hcz20_3, hcz20_4⟩ := bz5 BK109; obtain ⟨hfz20_0, hfz20_1, hfz20_2, hfz20_3, hfz20_4⟩ := fz5 BK109) | ((with_reducible refine gate_callee (f := 53) rfl ?_); refine glE (some 5) Try.func53 #[.int .i64 a0_0, .int .i64 1, .int .i64 99] ?_; (with_reducible refine (spec_l1In.calls a0_0 1 99 false _ A2.out).mono ?_); rintro e w' ⟨rfl, ⟨nd, rfl⟩⟩; refine ⟨_, rfl, ?_⟩))
  go_ret
  exact ⟨Z4, Z28⟩
end Go.Proofs.Ytffgmmfkiecheaa.H
