-- by wip/pack.py of this repo
import Derived.Test.YtnkecgldapagcaaZ07Hx0
import Derived.Test.YtnkecgldapagcaaZ07Hx2
import Derived.Test.YtnkecgldapagcaaZ07WLast
import Derived.Test.YtnkecgldapagcaaZ07WMore
import Derived.Test.YtnkecgldapagcaaZ07WWords
import Derived.Test.YtnkecgldapagcaaZ07Short
namespace Go.Proofs.Ytnkecgldapagcaa.H
open Go.RowKit Go.Proofs.YtnkecgldapagcaaW.PrintWords Go.Proofs.YtnkecgldapagcaaW.PrintLast Go.Proofs.YtnkecgldapagcaaW.PrintMore
attribute [local go_sem] max2_int min2_int max_two min_two max_three min_three max_four min_four
set_option maxHeartbeats 8000000
set_option maxRecDepth 100000
set_option linter.unusedVariables false
set_option linter.unusedSimpArgs false
def spec_l10Good.f (a0_0 : Int) (a0_1 : Int) (a0_2 : Int) (a0_3 : Int) : Option (Bool) := (spec_l1In.f a0_0 1 30).bind fun t111 => (if t111 = true then ((spec_l1In.f a0_1 1 40).bind fun t112 => (if t112 = true then ((spec_l1In.f a0_2 0 100).bind fun t113 => (if t113 = true then ((spec_l1In.f a0_3 1 1000).bind fun t114 => (some t114)) else (some false))) else (some false))) else (some false))
theorem spec_l10Good.calls (a0_0 : Int) (a0_1 : Int) (a0_2 : Int) (a0_3 : Int) (r : Bool) (w : World) (h : spec_l10Good.f a0_0 a0_1 a0_2 a0_3 = some r) :
  Calls Try.prog 48 #[.agg #[.int .i64 a0_0, .int .i64 a0_1, .int .i64 a0_2, .int .i64 a0_3]] w fun e w' => e = .returned (.bool r) ∧ Below w.heap.size w w' := by
 have hu32 := Try.underlying32
 have HB := Aside0.mk (Below.refl w.heap.size w)
 have H : ((spec_l1In.f a0_0 1 30).bind fun t111 => (if t111 = true then ((spec_l1In.f a0_1 1 40).bind fun t112 => (if t112 = true then ((spec_l1In.f a0_2 0 100).bind fun t113 => (if t113 = true then ((spec_l1In.f a0_3 1 1000).bind fun t114 => (some t114)) else (some false))) else (some false))) else (some false))) = some r := h
 clear h
 replace H := Option.bind_eq_some_iff.mp H
 obtain ⟨t111, A20, H⟩ := H
 replace H : (if t111 = true then ((spec_l1In.f a0_1 1 40).bind fun t112 => (if t112 = true then ((spec_l1In.f a0_2 0 100).bind fun t113 => (if t113 = true then ((spec_l1In.f a0_3 1 1000).bind fun t114 => (some t114)) else (some false))) else (some false))) else (some false)) = some r := H
 have A2 := Aside0.mk A20
 clear A20
 by_cases c3 : t111 = true
 ·subst c3
  have H1 : ((spec_l1In.f a0_1 1 40).bind fun t112 => (if t112 = true then ((spec_l1In.f a0_2 0 100).bind fun t113 => (if t113 = true then ((spec_l1In.f a0_3 1 1000).bind fun t114 => (some t114)) else (some false))) else (some false))) = some r := by rw [if_pos rfl] at H; exact H
  clear H
  have H := H1
  clear H1
  replace H := Option.bind_eq_some_iff.mp H
  obtain ⟨t112, A40, H⟩ := H
  replace H : (if t112 = true then ((spec_l1In.f a0_2 0 100).bind fun t113 => (if t113 = true then ((spec_l1In.f a0_3 1 1000).bind fun t114 => (some t114)) else (some false))) else (some false)) = some r := H
  have A4 := Aside0.mk A40
  clear A40
  by_cases c5 : t112 = true
  ·subst c5
   have H1 : ((spec_l1In.f a0_2 0 100).bind fun t113 => (if t113 = true then ((spec_l1In.f a0_3 1 1000).bind fun t114 => (some t114)) else (some false))) = some r := by rw [if_pos rfl] at H; exact H
   clear H
   have H := H1
   clear H1
   replace H := Option.bind_eq_some_iff.mp H
   obtain ⟨t113, A60, H⟩ := H
   replace H : (if t113 = true then ((spec_l1In.f a0_3 1 1000).bind fun t114 => (some t114)) else (some false)) = some r := H
   have A6 := Aside0.mk A60
   clear A60
   by_cases c7 : t113 = true
   ·subst c7
    have H1 : ((spec_l1In.f a0_3 1 1000).bind fun t114 => (some t114)) = some r := by rw [if_pos rfl] at H; exact H
    clear H
    have H := H1
    clear H1
    replace H := Option.bind_eq_some_iff.mp H
    obtain ⟨t114, A80, H⟩ := H
    replace H : (some t114) = some r := H
    have A8 := Aside0.mk A80
    clear A80
    obtain rfl := Option.some.inj H
    go_enter Try.func48, Try.ntmps48
    go_wp2_with (first | ((with_reducible refine gate_dst (N := 1) rfl ?_); refine bxE 1 #[.int .i64 a0_0, .int .i64 a0_1, .int .i64 a0_2, .int .i64 a0_3] 32 ?_; intro gb110 hg w9 hbox hb; have BK110 := Aside0.mk (hbox); have GW110 := gwS hg Z1; have GE110 := gwS hg Z1; replace HB := hbS Z1 hb; clear hb hbox hg; obtain ⟨hcz10_0, hcz10_1, hcz10_2, hcz10_3⟩ := bz4 BK110; obtain ⟨hfz10_0, hfz10_1, hfz10_2, hfz10_3⟩ := fz4 BK110) | ((with_reducible refine gate_callee (f := 68) rfl ?_); refine glE (some 5) Try.func68 #[.int .i64 a0_0, .int .i64 1, .int .i64 30] ?_; (with_reducible refine (spec_l1In.calls a0_0 1 30 true _ A2.out).mono ?_); rintro e w' ⟨rfl, ⟨nd, rfl⟩⟩; refine ⟨_, rfl, ?_⟩) | (go_at_call 68; (with_reducible refine (spec_l1In.calls a0_1 1 40 true _ A4.out).mono ?_); rintro e w' ⟨rfl, ⟨nd, rfl⟩⟩) | (go_at_call 68; (with_reducible refine (spec_l1In.calls a0_2 0 100 true _ A6.out).mono ?_); rintro e w' ⟨rfl, ⟨nd, rfl⟩⟩) | (go_at_call 68; (with_reducible refine (spec_l1In.calls a0_3 1 1000 t114 _ A8.out).mono ?_); rintro e w' ⟨rfl, ⟨nd, rfl⟩⟩))
    go_ret
    exact ⟨Z11, Z92⟩
   ·replace c7 := Bool.eq_false_iff.mpr c7
    subst c7
    have H1 : (some false) = some r := by rw [if_neg (show ¬ (false = true) by decide)] at H; exact H
    clear H
    have H := H1
    clear H1
    obtain rfl := Option.some.inj H
    go_enter Try.func48, Try.ntmps48
    go_wp2_with (first | ((with_reducible refine gate_dst (N := 1) rfl ?_); refine bxE 1 #[.int .i64 a0_0, .int .i64 a0_1, .int .i64 a0_2, .int .i64 a0_3] 32 ?_; intro gb110 hg w11 hbox hb; have BK110 := Aside0.mk (hbox); have GW110 := gwS hg Z1; have GE110 := gwS hg Z1; replace HB := hbS Z1 hb; clear hb hbox hg; obtain ⟨hcz12_0, hcz12_1, hcz12_2, hcz12_3⟩ := bz4 BK110; obtain ⟨hfz12_0, hfz12_1, hfz12_2, hfz12_3⟩ := fz4 BK110) | ((with_reducible refine gate_callee (f := 68) rfl ?_); refine glE (some 5) Try.func68 #[.int .i64 a0_0, .int .i64 1, .int .i64 30] ?_; (with_reducible refine (spec_l1In.calls a0_0 1 30 true _ A2.out).mono ?_); rintro e w' ⟨rfl, ⟨nd, rfl⟩⟩; refine ⟨_, rfl, ?_⟩) | (go_at_call 68; (with_reducible refine (spec_l1In.calls a0_1 1 40 true _ A4.out).mono ?_); rintro e w' ⟨rfl, ⟨nd, rfl⟩⟩) | (go_at_call 68; (with_reducible refine (spec_l1In.calls a0_2 0 100 false _ A6.out).mono ?_); rintro e w' ⟨rfl, ⟨nd, rfl⟩⟩))
    go_ret
    exact ⟨Z11, Z92⟩
  ·replace c5 := Bool.eq_false_iff.mpr c5
   subst c5
   have H1 : (some false) = some r := by rw [if_neg (show ¬ (false = true) by decide)] at H; exact H
   clear H
   have H := H1
   clear H1
   obtain rfl := Option.some.inj H
   go_enter Try.func48, Try.ntmps48
   go_wp2_with (first | ((with_reducible refine gate_dst (N := 1) rfl ?_); refine bxE 1 #[.int .i64 a0_0, .int .i64 a0_1, .int .i64 a0_2, .int .i64 a0_3] 32 ?_; intro gb110 hg w13 hbox hb; have BK110 := Aside0.mk (hbox); have GW110 := gwS hg Z1; have GE110 := gwS hg Z1; replace HB := hbS Z1 hb; clear hb hbox hg; obtain ⟨hcz14_0, hcz14_1, hcz14_2, hcz14_3⟩ := bz4 BK110; obtain ⟨hfz14_0, hfz14_1, hfz14_2, hfz14_3⟩ := fz4 BK110) | ((with_reducible refine gate_callee (f := 68) rfl ?_); refine glE (some 5) Try.func68 #[.int .i64 a0_0, .int .i64 1, .int .i64 30] ?_; (with_reducible refine (spec_l1In.calls a0_0 1 30 true _ A2.out).mono ?_); rintro e w' ⟨rfl, ⟨nd, rfl⟩⟩; refine ⟨_, rfl, ?_⟩) | (go_at_call 68; (with_reducible refine (spec_l1In.calls a0_1 1 40 false _ A4.out).mono ?_); rintro e w' ⟨rfl, ⟨nd, rfl⟩⟩))
   go_ret
   exact ⟨Z11, Z92⟩
 ·replace c3 := Bool.eq_false_iff.mpr c3
  subst c3
  have H1 : (some false) = some r := by rw [if_neg (show ¬ (false = true) by decide)] at H; exact H
  clear H
  have H := H1
  clear H1
  obtain rfl := Option.some.inj H
  go_enter Try.func48, Try.ntmps48
  go_wp2_with (first | ((with_reducible refine gate_dst (N := 1) rfl ?_); refine bxE 1 #[.int .i64 a0_0, .int .i64 a0_1, .int .i64 a0_2, .int .i64 a0_3] 32 ?_; intro gb110 hg w15 hbox hb; have BK110 := Aside0.mk (hbox); have GW110 := gwS hg Z1; have GE110 := gwS hg Z1; replace HB := hbS Z1 hb; clear hb hbox hg; obtain ⟨hcz16_0, hcz16_1, hcz16_2, hcz16_3⟩ := bz4 BK110; obtain ⟨hfz16_0, hfz16_1, hfz16_2, hfz16_3⟩ := fz4 BK110) | ((with_reducible refine gate_callee (f := 68) rfl ?_); refine glE (some 5) Try.func68 #[.int .i64 a0_0, .int .i64 1, .int .i64 30] ?_; (with_reducible refine (spec_l1In.calls a0_0 1 30 false _ A2.out).mono ?_); rintro e w' ⟨rfl, ⟨nd, rfl⟩⟩; refine ⟨_, rfl, ?_⟩))
  go_ret
  exact ⟨Z11, Z92⟩
def spec_l10For.f (a0_0 : Int) (a0_1 : Int) (a0_2 : Int) (a0_3 : Int) (a1 : Int) : Option (Int) := some (wrap64 (Int.tdiv (wrap64 ((wrap64 ((wrap64 (a1 * (wrap64 ((wrap64 (2 * a0_0)) + a0_1)))) * (wrap64 (100 + a0_2)))) + 99)) 100))
theorem spec_l10For.calls (a0_0 : Int) (a0_1 : Int) (a0_2 : Int) (a0_3 : Int) (a1 : Int) (r : Int) (w : World) (h : spec_l10For.f a0_0 a0_1 a0_2 a0_3 a1 = some r) :
  Calls Try.prog 50 #[.agg #[.int .i64 a0_0, .int .i64 a0_1, .int .i64 a0_2, .int .i64 a0_3], .int .i64 a1] w fun e w' => e = .returned (.int .i64 r) ∧ Below w.heap.size w w' := by
 have hu32 := Try.underlying32
 have HB := Aside0.mk (Below.refl w.heap.size w)
 have H : (some (wrap64 (Int.tdiv (wrap64 ((wrap64 ((wrap64 (a1 * (wrap64 ((wrap64 (2 * a0_0)) + a0_1)))) * (wrap64 (100 + a0_2)))) + 99)) 100))) = some r := h
 clear h
 obtain rfl := Option.some.inj H
 go_enter Try.func50, Try.ntmps50
 go_wp2_with (first | ((with_reducible refine gate_dst (N := 2) rfl ?_); refine bxE 2 #[.int .i64 a0_0, .int .i64 a0_1, .int .i64 a0_2, .int .i64 a0_3] 32 ?_; intro gb131 hg w3 hbox hb; have BK131 := Aside0.mk (hbox); have GW131 := gwS hg Z1; have GE131 := gwS hg Z1; replace HB := hbS Z1 hb; clear hb hbox hg; obtain ⟨hcz4_0, hcz4_1, hcz4_2, hcz4_3⟩ := bz4 BK131; obtain ⟨hfz4_0, hfz4_1, hfz4_2, hfz4_3⟩ := fz4 BK131))
 go_ret
 exact ⟨Z11, by repeat (first | (with_reducible first | exact HB.out | apply below_alloc | apply pw_below_drewN | apply below_drew1 | refine below_set ?_ GE131.out) | exact HB.out)⟩
def impl_IsYarn.f (a0_0 : Int) (a0_1 : Int) (a0_2 : Int) (a0_3 : Int) : Option (Bool) := (impl_in.f a0_0 1 30).bind fun t162 => (if t162 = true then ((impl_in.f a0_1 1 40).bind fun t163 => (if t163 = true then ((impl_in.f a0_2 0 100).bind fun t164 => (if t164 = true then ((impl_in.f a0_3 1 1000).bind fun t165 => (some t165)) else (some false))) else (some false))) else (some false))
theorem impl_IsYarn.calls (a0_0 : Int) (a0_1 : Int) (a0_2 : Int) (a0_3 : Int) (r : Bool) (w : World) (h : impl_IsYarn.f a0_0 a0_1 a0_2 a0_3 = some r) :
  Calls Try.prog 36 #[.agg #[.int .i64 a0_0, .int .i64 a0_1, .int .i64 a0_2, .int .i64 a0_3]] w fun e w' => e = .returned (.bool r) ∧ Below w.heap.size w w' := by
 have hu32 := Try.underlying32
 have HB := Aside0.mk (Below.refl w.heap.size w)
 have H : ((impl_in.f a0_0 1 30).bind fun t162 => (if t162 = true then ((impl_in.f a0_1 1 40).bind fun t163 => (if t163 = true then ((impl_in.f a0_2 0 100).bind fun t164 => (if t164 = true then ((impl_in.f a0_3 1 1000).bind fun t165 => (some t165)) else (some false))) else (some false))) else (some false))) = some r := h
 clear h
 replace H := Option.bind_eq_some_iff.mp H
 obtain ⟨t162, A20, H⟩ := H
 replace H : (if t162 = true then ((impl_in.f a0_1 1 40).bind fun t163 => (if t163 = true then ((impl_in.f a0_2 0 100).bind fun t164 => (if t164 = true then ((impl_in.f a0_3 1 1000).bind fun t165 => (some t165)) else (some false))) else (some false))) else (some false)) = some r := H
 have A2 := Aside0.mk A20
 clear A20
 by_cases c3 : t162 = true
 ·subst c3
  have H1 : ((impl_in.f a0_1 1 40).bind fun t163 => (if t163 = true then ((impl_in.f a0_2 0 100).bind fun t164 => (if t164 = true then ((impl_in.f a0_3 1 1000).bind fun t165 => (some t165)) else (some false))) else (some false))) = some r := by rw [if_pos rfl] at H; exact H
  clear H
  have H := H1
  clear H1
  replace H := Option.bind_eq_some_iff.mp H
  obtain ⟨t163, A40, H⟩ := H
  replace H : (if t163 = true then ((impl_in.f a0_2 0 100).bind fun t164 => (if t164 = true then ((impl_in.f a0_3 1 1000).bind fun t165 => (some t165)) else (some false))) else (some false)) = some r := H
  have A4 := Aside0.mk A40
  clear A40
  by_cases c5 : t163 = true
  ·subst c5
   have H1 : ((impl_in.f a0_2 0 100).bind fun t164 => (if t164 = true then ((impl_in.f a0_3 1 1000).bind fun t165 => (some t165)) else (some false))) = some r := by rw [if_pos rfl] at H; exact H
   clear H
   have H := H1
   clear H1
   replace H := Option.bind_eq_some_iff.mp H
   obtain ⟨t164, A60, H⟩ := H
   replace H : (if t164 = true then ((impl_in.f a0_3 1 1000).bind fun t165 => (some t165)) else (some false)) = some r := H
   have A6 := Aside0.mk A60
   clear A60
   by_cases c7 : t164 = true
   ·subst c7
    have H1 : ((impl_in.f a0_3 1 1000).bind fun t165 => (some t165)) = some r := by rw [if_pos rfl] at H; exact H
    clear H
    have H := H1
    clear H1
    replace H := Option.bind_eq_some_iff.mp H
    obtain ⟨t165, A80, H⟩ := H
    replace H : (some t165) = some r := H
    have A8 := Aside0.mk A80
    clear A80
    obtain rfl := Option.some.inj H
    go_enter Try.func36, Try.ntmps36
    go_wp2_with (first | ((with_reducible refine gate_dst (N := 1) rfl ?_); refine bxE 1 #[.int .i64 a0_0, .int .i64 a0_1, .int .i64 a0_2, .int .i64 a0_3] 32 ?_; intro gb161 hg w9 hbox hb; have BK161 := Aside0.mk (hbox); have GW161 := gwS hg Z1; have GE161 := gwS hg Z1; replace HB := hbS Z1 hb; clear hb hbox hg; obtain ⟨hcz10_0, hcz10_1, hcz10_2, hcz10_3⟩ := bz4 BK161; obtain ⟨hfz10_0, hfz10_1, hfz10_2, hfz10_3⟩ := fz4 BK161) | ((with_reducible refine gate_callee (f := 66) rfl ?_); refine glE (some 5) Try.func66 #[.int .i64 a0_0, .int .i64 1, .int .i64 30] ?_; (with_reducible refine (impl_in.calls a0_0 1 30 true _ A2.out).mono ?_); rintro e w' ⟨rfl, ⟨nd, rfl⟩⟩; refine ⟨_, rfl, ?_⟩) | (go_at_call 66; (with_reducible refine (impl_in.calls a0_1 1 40 true _ A4.out).mono ?_); rintro e w' ⟨rfl, ⟨nd, rfl⟩⟩) | (go_at_call 66; (with_reducible refine (impl_in.calls a0_2 0 100 true _ A6.out).mono ?_); rintro e w' ⟨rfl, ⟨nd, rfl⟩⟩) | (go_at_call 66; (with_reducible refine (impl_in.calls a0_3 1 1000 t165 _ A8.out).mono ?_); rintro e w' ⟨rfl, ⟨nd, rfl⟩⟩))
    go_ret
    exact ⟨Z11, Z93⟩
   ·replace c7 := Bool.eq_false_iff.mpr c7
    subst c7
    have H1 : (some false) = some r := by rw [if_neg (show ¬ (false = true) by decide)] at H; exact H
    clear H
    have H := H1
    clear H1
    obtain rfl := Option.some.inj H
    go_enter Try.func36, Try.ntmps36
    go_wp2_with (first | ((with_reducible refine gate_dst (N := 1) rfl ?_); refine bxE 1 #[.int .i64 a0_0, .int .i64 a0_1, .int .i64 a0_2, .int .i64 a0_3] 32 ?_; intro gb161 hg w11 hbox hb; have BK161 := Aside0.mk (hbox); have GW161 := gwS hg Z1; have GE161 := gwS hg Z1; replace HB := hbS Z1 hb; clear hb hbox hg; obtain ⟨hcz12_0, hcz12_1, hcz12_2, hcz12_3⟩ := bz4 BK161; obtain ⟨hfz12_0, hfz12_1, hfz12_2, hfz12_3⟩ := fz4 BK161) | ((with_reducible refine gate_callee (f := 66) rfl ?_); refine glE (some 5) Try.func66 #[.int .i64 a0_0, .int .i64 1, .int .i64 30] ?_; (with_reducible refine (impl_in.calls a0_0 1 30 true _ A2.out).mono ?_); rintro e w' ⟨rfl, ⟨nd, rfl⟩⟩; refine ⟨_, rfl, ?_⟩) | (go_at_call 66; (with_reducible refine (impl_in.calls a0_1 1 40 true _ A4.out).mono ?_); rintro e w' ⟨rfl, ⟨nd, rfl⟩⟩) | (go_at_call 66; (with_reducible refine (impl_in.calls a0_2 0 100 false _ A6.out).mono ?_); rintro e w' ⟨rfl, ⟨nd, rfl⟩⟩))
    go_ret
    exact ⟨Z11, Z93⟩
  ·replace c5 := Bool.eq_false_iff.mpr c5
   subst c5
   have H1 : (some false) = some r := by rw [if_neg (show ¬ (false = true) by decide)] at H; exact H
   clear H
   have H := H1
   clear H1
   obtain rfl := Option.some.inj H
   go_enter Try.func36, Try.ntmps36
   go_wp2_with (first | ((with_reducible refine gate_dst (N := 1) rfl ?_); refine bxE 1 #[.int .i64 a0_0, .int .i64 a0_1, .int .i64 a0_2, .int .i64 a0_3] 32 ?_; intro gb161 hg w13 hbox hb; have BK161 := Aside0.mk (hbox); have GW161 := gwS hg Z1; have GE161 := gwS hg Z1; replace HB := hbS Z1 hb; clear hb hbox hg; obtain ⟨hcz14_0, hcz14_1, hcz14_2, hcz14_3⟩ := bz4 BK161; obtain ⟨hfz14_0, hfz14_1, hfz14_2, hfz14_3⟩ := fz4 BK161) | ((with_reducible refine gate_callee (f := 66) rfl ?_); refine glE (some 5) Try.func66 #[.int .i64 a0_0, .int .i64 1, .int .i64 30] ?_; (with_reducible refine (impl_in.calls a0_0 1 30 true _ A2.out).mono ?_); rintro e w' ⟨rfl, ⟨nd, rfl⟩⟩; refine ⟨_, rfl, ?_⟩) | (go_at_call 66; (with_reducible refine (impl_in.calls a0_1 1 40 false _ A4.out).mono ?_); rintro e w' ⟨rfl, ⟨nd, rfl⟩⟩))
   go_ret
   exact ⟨Z11, Z93⟩
 ·replace c3 := Bool.eq_false_iff.mpr c3
  subst c3
  have H1 : (some false) = some r := by rw [if_neg (show ¬ (false = true) by decide)] at H; exact H
  clear H
  have H := H1
  clear H1
  obtain rfl := Option.some.inj H
  go_enter Try.func36, Try.ntmps36
  go_wp2_with (first | ((with_reducible refine gate_dst (N := 1) rfl ?_); refine bxE 1 #[.int .i64 a0_0, .int .i64 a0_1, .int .i64 a0_2, .int .i64 a0_3] 32 ?_; intro gb161 hg w15 hbox hb; have BK161 := Aside0.mk (hbox); have GW161 := gwS hg Z1; have GE161 := gwS hg Z1; replace HB := hbS Z1 hb; clear hb hbox hg; obtain ⟨hcz16_0, hcz16_1, hcz16_2, hcz16_3⟩ := bz4 BK161; obtain ⟨hfz16_0, hfz16_1, hfz16_2, hfz16_3⟩ := fz4 BK161) | ((with_reducible refine gate_callee (f := 66) rfl ?_); refine glE (some 5) Try.func66 #[.int .i64 a0_0, .int .i64 1, .int .i64 30] ?_; (with_reducible refine (impl_in.calls a0_0 1 30 false _ A2.out).mono ?_); rintro e w' ⟨rfl, ⟨nd, rfl⟩⟩; refine ⟨_, rfl, ?_⟩))
  go_ret
  exact ⟨Z11, Z93⟩
def impl_ceilDiv.f (a0 : Int) (a1 : Int) : Option (Int) := if a1 = 0 then (none) else (some (wrap64 (Int.tdiv (wrap64 ((wrap64 (a0 + a1)) - 1)) a1)))
theorem impl_ceilDiv.calls (a0 : Int) (a1 : Int) (r : Int) (w : World) (h : impl_ceilDiv.f a0 a1 = some r) :
  Calls Try.prog 53 #[.int .i64 a0, .int .i64 a1] w fun e w' => e = .returned (.int .i64 r) ∧ Drawn0 w w' := by
 have H : (if a1 = 0 then (none) else (some (wrap64 (Int.tdiv (wrap64 ((wrap64 (a0 + a1)) - 1)) a1)))) = some r := h
 clear h
 by_cases c3 : a1 = 0
 ·rw [if_pos c3] at H
  exact absurd H (by simp)
 ·rw [if_neg c3] at H
  have c3b0 : (a1 == 0) = false := beq_eq_false_iff_ne.mpr c3
  have c3b1 : (a1 != 0) = true := bne_iff_ne.mpr c3
  obtain rfl := Option.some.inj H
  go_enter Try.func53, Try.ntmps53
  go_wp2
  go_ret
  exact ⟨Z20, Z42⟩
def impl_Yarn_hundredths.f (a0_0 : Int) (a0_1 : Int) (a0_2 : Int) (a0_3 : Int) : Option (Int) := some (wrap64 ((wrap64 ((wrap64 (2 * a0_0)) + a0_1)) * (wrap64 (100 + a0_2))))
theorem impl_Yarn_hundredths.calls (a0_0 : Int) (a0_1 : Int) (a0_2 : Int) (a0_3 : Int) (r : Int) (w : World) (h : impl_Yarn_hundredths.f a0_0 a0_1 a0_2 a0_3 = some r) :
  Calls Try.prog 69 #[.agg #[.int .i64 a0_0, .int .i64 a0_1, .int .i64 a0_2, .int .i64 a0_3]] w fun e w' => e = .returned (.int .i64 r) ∧ Below w.heap.size w w' := by
 have hu32 := Try.underlying32
 have HB := Aside0.mk (Below.refl w.heap.size w)
 have H : (some (wrap64 ((wrap64 ((wrap64 (2 * a0_0)) + a0_1)) * (wrap64 (100 + a0_2))))) = some r := h
 clear h
 obtain rfl := Option.some.inj H
 go_enter Try.func69, Try.ntmps69
 go_wp2_with (first | ((with_reducible refine gate_dst (N := 1) rfl ?_); refine bxE 1 #[.int .i64 a0_0, .int .i64 a0_1, .int .i64 a0_2, .int .i64 a0_3] 32 ?_; intro gb179 hg w2 hbox hb; have BK179 := Aside0.mk (hbox); have GW179 := gwS hg Z1; have GE179 := gwS hg Z1; replace HB := hbS Z1 hb; clear hb hbox hg; obtain ⟨hcz3_0, hcz3_1, hcz3_2, hcz3_3⟩ := bz4 BK179; obtain ⟨hfz3_0, hfz3_1, hfz3_2, hfz3_3⟩ := fz4 BK179))
 go_ret
 exact ⟨Z11, by repeat (first | (with_reducible first | exact HB.out | apply below_alloc | apply pw_below_drewN | apply below_drew1 | refine below_set ?_ GE179.out) | exact HB.out)⟩
def impl_Yarn_yarn.f (a0_0 : Int) (a0_1 : Int) (a0_2 : Int) (a0_3 : Int) (a1 : Int) : Option (Int) := (impl_Yarn_hundredths.f a0_0 a0_1 a0_2 a0_3).bind fun t181 => ((impl_ceilDiv.f (wrap64 (a1 * t181)) 100).bind fun t182 => (some t182))
theorem impl_Yarn_yarn.calls (a0_0 : Int) (a0_1 : Int) (a0_2 : Int) (a0_3 : Int) (a1 : Int) (r : Int) (w : World) (h : impl_Yarn_yarn.f a0_0 a0_1 a0_2 a0_3 a1 = some r) :
  Calls Try.prog 67 #[.agg #[.int .i64 a0_0, .int .i64 a0_1, .int .i64 a0_2, .int .i64 a0_3], .int .i64 a1] w fun e w' => e = .returned (.int .i64 r) ∧ Below w.heap.size w w' := by
 have hu32 := Try.underlying32
 have HB := Aside0.mk (Below.refl w.heap.size w)
 have H : ((impl_Yarn_hundredths.f a0_0 a0_1 a0_2 a0_3).bind fun t181 => ((impl_ceilDiv.f (wrap64 (a1 * t181)) 100).bind fun t182 => (some t182))) = some r := h
 clear h
 replace H := Option.bind_eq_some_iff.mp H
 obtain ⟨t181, A30, H⟩ := H
 replace H : ((impl_ceilDiv.f (wrap64 (a1 * t181)) 100).bind fun t182 => (some t182)) = some r := H
 have A3 := Aside0.mk A30
 clear A30
 replace H := Option.bind_eq_some_iff.mp H
 obtain ⟨t182, A40, H⟩ := H
 replace H : (some t182) = some r := H
 have A4 := Aside0.mk A40
 clear A40
 obtain rfl := Option.some.inj H
 go_enter Try.func67, Try.ntmps67
 go_wp2_with (first | ((with_reducible refine gate_dst (N := 2) rfl ?_); refine bxE 2 #[.int .i64 a0_0, .int .i64 a0_1, .int .i64 a0_2, .int .i64 a0_3] 32 ?_; intro gb180 hg w5 hbox hb; have BK180 := Aside0.mk (hbox); have GW180 := gwS hg Z1; have GE180 := gwS hg Z1; replace HB := hbS Z1 hb; clear hb hbox hg; obtain ⟨hcz6_0, hcz6_1, hcz6_2, hcz6_3⟩ := bz4 BK180; obtain ⟨hfz6_0, hfz6_1, hfz6_2, hfz6_3⟩ := fz4 BK180) | ((with_reducible refine gate_callee (f := 69) rfl ?_); refine glE (some 7) Try.func69 #[.agg #[.int .i64 a0_0, .int .i64 a0_1, .int .i64 a0_2, .int .i64 a0_3]] ?_; (with_reducible refine (impl_Yarn_hundredths.calls a0_0 a0_1 a0_2 a0_3 t181 _ A3.out).mono ?_); rintro e w7 ⟨rfl, hb⟩; refine ⟨_, rfl, ?_⟩; replace BK180 := bkB BK180 hb; replace HB := hbS Z140 hb; (try clear hb)) | ((with_reducible refine gate_callee (f := 53) rfl ?_); refine glE (some 9) Try.func53 #[.int .i64 (wrap64 (a1 * t181)), .int .i64 100] ?_; (with_reducible refine (impl_ceilDiv.calls (wrap64 (a1 * t181)) 100 t182 _ A4.out).mono ?_); rintro e w' ⟨rfl, ⟨nd, rfl⟩⟩; refine ⟨_, rfl, ?_⟩))
 go_ret
 exact ⟨Z11, Z140⟩
def impl_Yarn_yarns.l0 : Nat → Int → List Int → Int → Int → Int → Int → Int → Int → Option (List Int)
 | 0, _, _, _, _, _, _, _, _ => none
 | k + 1, x2, x7, x13, x14, x184000, x184001, x184002, x184003 => if x14 < x13 then (if 0 ≤ x14 then (if x14 < (x7.length : Int) then ((impl_Yarn_yarn.f x184000 x184001 x184002 x184003 (wrap64 ((rd x7 x14) * x2))).bind fun t189 => (impl_Yarn_yarns.l0 k x2 (x7.set (x14 : Int).toNat t189) x13 (wrap64 (x14 + 1)) x184000 x184001 x184002 x184003)) else (none)) else (none)) else (some x7)
def impl_Yarn_yarns.f (k : Nat) (a0_0 : Int) (a0_1 : Int) (a0_2 : Int) (a0_3 : Int) (a1_0 : Int) (a1_1 : Int) (l1_2 : List Int) (a2 : Int) : Option (List Int) := (impl_Chart_colors.f k a1_0 a1_1 l1_2).bind fun t185 => (impl_Yarn_yarns.l0 k a2 t185 (t185.length : Int) 0 a0_0 a0_1 a0_2 a0_3)
theorem impl_Yarn_yarns.calls (k : Nat) (a0_0 : Int) (a0_1 : Int) (a0_2 : Int) (a0_3 : Int) (a1_0 : Int) (a1_1 : Int) (A1_2 : Option Addr) (c1_2 : Nat) (l1_2 : List Int) (a2 : Int) (r : List Int) (w : World) (hr1_2 : Kd.C (Kd.int .i64) w A1_2 l1_2.length l1_2) (hc1_2 : l1_2.length ≤ c1_2) (h : impl_Yarn_yarns.f k a0_0 a0_1 a0_2 a0_3 a1_0 a1_1 l1_2 a2 = some r) :
  Calls Try.prog 52 #[.agg #[.int .i64 a0_0, .int .i64 a0_1, .int .i64 a0_2, .int .i64 a0_3], .agg #[.int .i64 a1_0, .int .i64 a1_1, .slice A1_2 l1_2.length c1_2], .int .i64 a2] w fun e w' => ∃ v0_ : Value, e = .returned (v0_) ∧ Kd.R (Kd.int .i64) 3 w' w.heap.size (fun _ => True) v0_ r ∧ Below w.heap.size w w' := by
 have hu32 := Try.underlying32
 have hu30 := Try.underlying30
 have HR1_2 := Aside0.mk hr1_2
 have HC1_2 := Aside0.mk hc1_2
 clear hr1_2 hc1_2
 have HB := Aside0.mk (Below.refl w.heap.size w)
 have H : ((impl_Chart_colors.f k a1_0 a1_1 l1_2).bind fun t185 => (impl_Yarn_yarns.l0 k a2 t185 (t185.length : Int) 0 a0_0 a0_1 a0_2 a0_3)) = some r := h
 clear h
 replace H := Option.bind_eq_some_iff.mp H
 obtain ⟨t185, A40, H⟩ := H
 replace H : (impl_Yarn_yarns.l0 k a2 t185 (t185.length : Int) 0 a0_0 a0_1 a0_2 a0_3) = some r := H
 have A4 := Aside0.mk A40
 clear A40
 have H' := Aside0.mk H
 clear H
 go_enter Try.func52, Try.ntmps52
 go_wp2_with (first | ((with_reducible refine gate_dst (N := 3) rfl ?_); refine bxE 3 #[.int .i64 a0_0, .int .i64 a0_1, .int .i64 a0_2, .int .i64 a0_3] 32 ?_; intro gb183 hg w5 hbox hb; have BK183 := Aside0.mk (hbox); have GW183 := gwS hg Z1; have GE183 := gwS hg Z1; replace HB := hbS Z1 hb; clear hb hbox hg) | ((with_reducible refine gate_dst (N := 4) rfl ?_); refine bxE 4 #[.int .i64 a1_0, .int .i64 a1_1, .slice A1_2 l1_2.length c1_2] 30 ?_; intro gb184 hg w6 hbox hb; have BK184 := Aside0.mk (hbox); have GW184 := gwS hg Z109; have GE184 := gwS hg Z109; replace HB := hbS Z109 hb; have NB183_184 := nbL hg BK183; have NB184_183 := nbG hg BK183; replace BK183 := bkB BK183 hb; clear hb hbox hg; have hnb7 := NB184_183.out; have hnc7 := NB183_184.out; obtain ⟨hcz8_0, hcz8_1, hcz8_2⟩ := bz3 BK184; obtain ⟨hfz8_0, hfz8_1, hfz8_2⟩ := fz3 BK184) | ((with_reducible refine gate_callee (f := 57) rfl ?_); refine glE (some 11) Try.func57 #[.agg #[.int .i64 a1_0, .int .i64 a1_1, .slice A1_2 l1_2.length c1_2]] ?_; (with_reducible refine (impl_Chart_colors.calls k a1_0 a1_1 _ _ l1_2 t185 _ ?side1 ?side2 A4.out).mono ?_); (case side1 => exact (by repeat (first | exact (Kd.C_below HR1_2.out HB.out) | (with_reducible refine Kd.C_alloc ?_ _) | (with_reducible refine Kd.C_drewN ?_ _) | (with_reducible refine Kd.C_drew ?_)))); (case side2 => exact HC1_2.out); rintro e w9 ⟨v186, rfl, ho0, hb⟩; refine ⟨_, rfl, ?_⟩; have HO187 := Aside0.mk (Kd.R_lower ho0 (below_size Z60)); replace BK183 := bkB BK183 hb; replace BK184 := bkB BK184 hb; replace HB := hbS Z60 hb; (try clear hb); (try clear ho0); obtain ⟨Ao10, co10, eo10⟩ := Kd.R_slice HO187.out; subst eo10))
 go_loopg [14] k (fun kq v14 w' => ∃ (x7_1 : List Int) (x14_1 : Int), v14 = .int .i64 x14_1 ∧ Aside0 (impl_Yarn_yarns.l0 kq a2 x7_1 (t185.length : Int) x14_1 a0_0 a0_1 a0_2 a0_3 = some r) ∧ Aside0 (kq ≤ k) ∧ Aside0 (Kd.R (Kd.int .i64) 3 w' w.heap.size (fun _ => True) (.slice Ao10 t185.length co10) x7_1) ∧ Aside0 (w'.heap[gb183]? = some (.cells #[.int .i64 a0_0, .int .i64 a0_1, .int .i64 a0_2, .int .i64 a0_3] 32 (0, 0))) ∧ Aside0 (w'.heap[gb184]? = some (.cells #[.int .i64 a1_0, .int .i64 a1_1, (.slice A1_2 l1_2.length c1_2)] 30 (0, 0))) ∧ Aside0 (Below w.heap.size w w'))
 case atStart => exact ⟨(t185), (0), Z20, H', ⟨Nat.le_refl _⟩, ⟨by (with_reducible repeat (first | apply Kd.R_alloc | apply Kd.R_drewN | apply Kd.R_drew)); exact HO187.out⟩, ⟨Z158⟩, ⟨Z159⟩, ⟨Z60⟩⟩
 case round =>
  clear H'
  try clear c1
  try clear p2
  try clear c5
  try clear c7
  try clear hcz8_0
  try clear hcz8_1
  try clear hcz8_2
  try clear hfz8_0
  try clear hfz8_1
  try clear hfz8_2
  obtain ⟨x7_1, x14_1, rfl, HA, HK1, HO_7, BK183, BK184, HB⟩ := hrel
  have hl7_1 := (Kd.R_reads' HO_7.out).1
  rw [hl7_1] at HO_7
  (try simp only [hl7_1])
  (try simp only [hl7_1] at BK183)
  (try simp only [hl7_1] at BK184)
  cases gk with
  | zero => exact absurd HA.out (by simp [impl_Yarn_yarns.l0])
  | succ k1 =>
   have H := HA.out
   clear HA
   simp only [impl_Yarn_yarns.l0] at H
   by_cases c11 : x14_1 < (t185.length : Int)
   ·rw [if_pos c11] at H
    have c11b0 : decide (x14_1 < (t185.length : Int)) = true := decide_eq_true c11
    (try simp only [hl7_1] at c11b0)
    clear c11
    by_cases c12 : 0 ≤ x14_1
    ·rw [if_pos c12] at H
     have c12b0 : decide (0 ≤ x14_1) = true := decide_eq_true c12
     clear c12
     by_cases c13 : x14_1 < (x7_1.length : Int)
     ·rw [if_pos c13] at H
      have c13b0 : decide (x14_1 < (x7_1.length : Int)) = true := decide_eq_true c13
      (try simp only [hl7_1] at c13b0)
      clear c13
      replace H := Option.bind_eq_some_iff.mp H
      obtain ⟨t189, A140, H⟩ := H
      replace H : (impl_Yarn_yarns.l0 k1 a2 (x7_1.set (x14_1 : Int).toNat t189) (t185.length : Int) (wrap64 (x14_1 + 1)) a0_0 a0_1 a0_2 a0_3) = some r := H
      have A14 := Aside0.mk A140
      clear A140
      obtain ⟨y190, hy190⟩ : ∃ y_ : List Int, y_ = (x7_1.set (x14_1 : Int).toNat t189) := ⟨_, rfl⟩
      replace H : (impl_Yarn_yarns.l0 k1 a2 y190 (t185.length : Int) (wrap64 (x14_1 + 1)) a0_0 a0_1 a0_2 a0_3) = some r := by first | (rw [hy190]; with_reducible exact H) | (have H2_ := (Option.bind_some _ _).symm.trans H; rw [hy190]; with_reducible exact H2_) | (have H2_ := (Option.bind_some _ _).symm.trans H; with_reducible exact H2_) | with_reducible exact H | (rw [hy190]; exact H) | exact H
      have Ny190 := Aside0.mk hy190
      clear hy190
      have H' := Aside0.mk H
      clear H
      have p188 : 0 ≤ (x14_1 : Int) := of_decide_eq_true Z19
      have q188 : x14_1 < (x7_1.length : Int) := of_decide_eq_true Z19
      obtain ⟨ad188, e188, hx188_0⟩ := Kd.at_int (Kd.R_reads' HO_7.out).2.2 x14_1 p188 q188
      cases e188
      replace p188 := eq_true p188
      replace q188 := eq_true q188
      have hnb16 := NB183_184.out
      have hnc16 := NB184_183.out
      obtain ⟨hcz17_0, hcz17_1, hcz17_2, hcz17_3⟩ := bz4 BK183
      obtain ⟨hfz17_0, hfz17_1, hfz17_2, hfz17_3⟩ := fz4 BK183
      go_wp2_with (first | ((with_reducible refine gate_callee (f := 67) rfl ?_); refine glE (some 25) Try.func67 #[.agg #[.int .i64 a0_0, .int .i64 a0_1, .int .i64 a0_2, .int .i64 a0_3], .int .i64 (wrap64 ((rd x7_1 x14_1) * a2))] ?_; (with_reducible refine (impl_Yarn_yarn.calls a0_0 a0_1 a0_2 a0_3 (wrap64 ((rd x7_1 x14_1) * a2)) t189 _ A14.out).mono ?_); rintro e w18 ⟨rfl, hb⟩; refine ⟨_, rfl, ?_⟩; replace HO_7 := roB HO_7 hb; replace BK183 := bkB BK183 hb; replace BK184 := bkB BK184 hb; replace HB := hbS Z60 hb; (try clear hb); have p15 : 0 ≤ (x14_1 : Int) := of_decide_eq_true Z19; have q15 : (x14_1 : Int) < ((x7_1.length : Int) : Int) := of_decide_eq_true Z19; obtain ⟨go15, co15, eo15, gb15, gl15, cl15, HG15⟩ := Kd.R_form HO_7.out (by omega); (first | cases eo15 | (injection eo15 with ea_ en_ ec_; (first | subst ea_ | (injection ea_ with ea_; subst ea_)); subst ec_; clear en_)); have GB15 := Aside0.mk gb15; have GG15 := Aside0.mk HG15; clear gb15 gl15 HG15; (first | simp only [add_plain] at hx188_0 | skip); obtain ⟨hx15_0, hf15_0⟩ := Kd.R_celln 0 HO_7.out (x14_1 : Int) p15 q15; replace p15 := eq_true p15; replace q15 := eq_true q15; obtain ⟨hy19_, hz19_⟩ := Kd.R_celln 0 HO_7.out (x14_1 : Int) (of_decide_eq_true Z19) (of_decide_eq_true Z19); have HP19 := Kd.R_putg HO_7.out (x14_1 : Int) t189) | ((with_reducible refine gate_store (t := 3) (p := 26) rfl ?_); refine store_event (t := 3) (p := 26) (v := ?vo_w20) (w1 := (w18.setCell ⟨go15, (x14_1 : Int).toNat, none⟩ (.int .i64 t189))) ?hg ?ho ?hn ?hr ?_; (case ho => rfl); (case hg => rfl); (case hn => rfl); (case hr => first | (go_simp; done) | (go_simp; rfl)); intro w20 hw; have hg : w18.grownBy w20 (some go15) := (by rw [hw]; exact HP19.2); have hp_ : Kd.R (Kd.int .i64) 3 w20 w.heap.size (fun _ => True) (.slice (some ⟨go15, 0, none⟩) x7_1.length co10) y190 := (by rw [hw, Ny190.out]; exact HP19.1); clear HP19; replace BK183 := Aside0.mk (blk_grown (g := gb183) (o := .cells #[.int .i64 a0_0, .int .i64 a0_1, .int .i64 a0_2, .int .i64 a0_3] 32 (0, 0)) Z158 hg (Kd.R_ne HO_7.out BK183.out (by decide))); replace BK184 := Aside0.mk (blk_grown (g := gb184) (o := .cells #[.int .i64 a1_0, .int .i64 a1_1, .slice A1_2 l1_2.length c1_2] 30 (0, 0)) Z159 hg (Kd.R_ne HO_7.out BK184.out (by decide))); replace HO_7 := Aside0.mk (hp_); replace HB := Aside0.mk ((by rw [hw]; exact below_set (HB.out) GB15.out : Below w.heap.size w w20)); clear hg hw hp_))
      (try simp only [← hl7_1])
      go_roundg k1
      case measure => have := HK1.out; omega
      case rel => exact ⟨(y190), (wrap64 (x14_1 + 1)), Z20, H', ⟨Z126⟩, ⟨by (try simp only [hl7_1]); (with_reducible repeat (first | apply Kd.R_alloc | apply Kd.R_drewN | apply Kd.R_drew)); exact HO_7.out⟩, ⟨by (try simp only [hl7_1]); (with_reducible repeat (first | refine blk_drewN ?_ _ | refine blk_drew ?_ | refine blk_alloc ?_ _)); exact BK183.out⟩, ⟨by (try simp only [hl7_1]); (with_reducible repeat (first | refine blk_drewN ?_ _ | refine blk_drew ?_ | refine blk_alloc ?_ _)); exact BK184.out⟩, ⟨Z60⟩⟩
     ·rw [if_neg c13] at H
      exact absurd H (by simp)
    ·rw [if_neg c12] at H
     exact absurd H (by simp)
   ·rw [if_neg c11] at H
    have c11b0 : decide (x14_1 < (t185.length : Int)) = false := decide_eq_false c11
    (try simp only [hl7_1] at c11b0)
    clear c11
    obtain rfl := Option.some.inj H
    go_wp2
    go_ret
    exact ⟨_, Z11, Z170, Z60⟩
end Go.Proofs.Ytnkecgldapagcaa.H
