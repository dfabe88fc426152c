-- by wip/pack.py of this repo
import Derived.Test.YtnkecgldapagcaaZ07Hx0
import Derived.Test.YtnkecgldapagcaaZ07Hx2
import Derived.Test.YtnkecgldapagcaaZ07WLast
import Derived.Test.YtnkecgldapagcaaZ07WMore
import Derived.Test.YtnkecgldapagcaaZ07WWords
import Derived.Test.YtnkecgldapagcaaZ07Short
namespace Go.Proofs.Ytnkecgldapagcaa.H
open Go.RowKit Go.Proofs.YtnkecgldapagcaaW.PrintWords Go.Proofs.YtnkecgldapagcaaW.PrintLast Go.Proofs.YtnkecgldapagcaaW.PrintMore
attribute [local go_sem] max2_int min2_int max_two min_two max_three min_three max_four min_four
set_option maxHeartbeats 8000000
set_option maxRecDepth 100000
set_option linter.unusedVariables false
set_option linter.unusedSimpArgs false
def spec_HungriestColor.l0 : Nat → List Int → Int → Int → Option (Int × Bool)
 | 0, _, _, _ => none
 | k + 1, x4, x5, x6 => if x6 < (x4.length : Int) then (if 0 ≤ x6 then (if 0 ≤ x5 then (if x5 < (x4.length : Int) then (if (rd x4 x6) > (rd x4 x5) then (spec_HungriestColor.l0 k x4 x6 (wrap64 (x6 + 1))) else (spec_HungriestColor.l0 k x4 x5 (wrap64 (x6 + 1)))) else (none)) else (none)) else (none)) else (some (x5, true))
def spec_HungriestColor.f (k : Nat) (a0_0 : Int) (a0_1 : Int) (l0_2 : List Int) : Option (Int × Bool) := (spec_l2Good.f k a0_0 a0_1 l0_2).bind fun t520 => (if t520 = true then ((spec_l10Counts.f k a0_0 a0_1 l0_2).bind fun t521 => (spec_HungriestColor.l0 k t521 0 1)) else (some (0, false)))
theorem spec_HungriestColor.calls (k : Nat) (a0_0 : Int) (a0_1 : Int) (A0_2 : Option Addr) (c0_2 : Nat) (l0_2 : List Int) (r1 : Int) (r2 : Bool) (w : World) (hr0_2 : Kd.C (Kd.int .i64) w A0_2 l0_2.length l0_2) (hc0_2 : l0_2.length ≤ c0_2) (h : spec_HungriestColor.f k a0_0 a0_1 l0_2 = some (r1, r2)) :
  Calls Try.prog 28 #[.agg #[.int .i64 a0_0, .int .i64 a0_1, .slice A0_2 l0_2.length c0_2]] w fun e w' => e = .returned (.tuple #[.int .i64 r1, .bool r2]) ∧ Below w.heap.size w w' := by
 have hu30 := Try.underlying30
 have HR0_2 := Aside0.mk hr0_2
 have HC0_2 := Aside0.mk hc0_2
 clear hr0_2 hc0_2
 have HB := Aside0.mk (Below.refl w.heap.size w)
 have H : ((spec_l2Good.f k a0_0 a0_1 l0_2).bind fun t520 => (if t520 = true then ((spec_l10Counts.f k a0_0 a0_1 l0_2).bind fun t521 => (spec_HungriestColor.l0 k t521 0 1)) else (some (0, false)))) = some (r1, r2) := h
 clear h
 replace H := Option.bind_eq_some_iff.mp H
 obtain ⟨t520, A20, H⟩ := H
 replace H : (if t520 = true then ((spec_l10Counts.f k a0_0 a0_1 l0_2).bind fun t521 => (spec_HungriestColor.l0 k t521 0 1)) else (some (0, false))) = some (r1, r2) := H
 have A2 := Aside0.mk A20
 clear A20
 by_cases c3 : t520 = true
 ·subst c3
  have H1 : ((spec_l10Counts.f k a0_0 a0_1 l0_2).bind fun t521 => (spec_HungriestColor.l0 k t521 0 1)) = some (r1, r2) := by rw [if_pos rfl] at H; exact H
  clear H
  have H := H1
  clear H1
  replace H := Option.bind_eq_some_iff.mp H
  obtain ⟨t521, A40, H⟩ := H
  replace H : (spec_HungriestColor.l0 k t521 0 1) = some (r1, r2) := H
  have A4 := Aside0.mk A40
  clear A40
  have H' := Aside0.mk H
  clear H
  go_enter Try.func28, Try.ntmps28
  go_wp2_with (first | ((with_reducible refine gate_dst (N := 1) rfl ?_); refine bxE 1 #[.int .i64 a0_0, .int .i64 a0_1, .slice A0_2 l0_2.length c0_2] 30 ?_; intro gb519 hg w5 hbox hb; have BK519 := Aside0.mk (hbox); have GW519 := gwS hg Z1; have GE519 := gwS hg Z1; replace HB := hbS Z1 hb; clear hb hbox hg; obtain ⟨hcz6_0, hcz6_1, hcz6_2⟩ := bz3 BK519; obtain ⟨hfz6_0, hfz6_1, hfz6_2⟩ := fz3 BK519) | (go_at_call 47; (with_reducible refine (spec_l2Good.calls k a0_0 a0_1 _ _ l0_2 true _ ?side1 ?side2 A2.out).mono ?_); (case side1 => exact Z12); (case side2 => exact HC0_2.out); rintro e w7 ⟨rfl, hb⟩; replace BK519 := bkB BK519 hb; replace HB := hbS Z37 hb; (try clear hb); obtain ⟨hcz8_0, hcz8_1, hcz8_2⟩ := bz3 BK519; obtain ⟨hfz8_0, hfz8_1, hfz8_2⟩ := fz3 BK519) | (go_at_call 49; (with_reducible refine (spec_l10Counts.calls k a0_0 a0_1 _ _ l0_2 t521 _ ?side1 ?side2 A4.out).mono ?_); (case side1 => exact Z12); (case side2 => exact HC0_2.out); rintro e w9 ⟨v522, rfl, ho0, hb⟩; have HO523 := Aside0.mk (Kd.R_lower ho0 (below_size Z37)); replace BK519 := bkB BK519 hb; replace HB := hbS Z37 hb; (try clear hb); (try clear ho0)))
  repeat (go_quiet (first | ((with_reducible refine gate_dst (N := 1) rfl ?_); refine bxE 1 #[.int .i64 a0_0, .int .i64 a0_1, .slice A0_2 l0_2.length c0_2] 30 ?_; intro gb519 hg w5 hbox hb; have BK519 := Aside0.mk (hbox); have GW519 := gwS hg Z1; have GE519 := gwS hg Z1; replace HB := hbS Z1 hb; clear hb hbox hg; obtain ⟨hcz6_0, hcz6_1, hcz6_2⟩ := bz3 BK519; obtain ⟨hfz6_0, hfz6_1, hfz6_2⟩ := fz3 BK519) | (go_at_call 47; (with_reducible refine (spec_l2Good.calls k a0_0 a0_1 _ _ l0_2 true _ ?side1 ?side2 A2.out).mono ?_); (case side1 => exact Z12); (case side2 => exact HC0_2.out); rintro e w7 ⟨rfl, hb⟩; replace BK519 := bkB BK519 hb; replace HB := hbS Z37 hb; (try clear hb); obtain ⟨hcz8_0, hcz8_1, hcz8_2⟩ := bz3 BK519; obtain ⟨hfz8_0, hfz8_1, hfz8_2⟩ := fz3 BK519) | (go_at_call 49; (with_reducible refine (spec_l10Counts.calls k a0_0 a0_1 _ _ l0_2 t521 _ ?side1 ?side2 A4.out).mono ?_); (case side1 => exact Z12); (case side2 => exact HC0_2.out); rintro e w9 ⟨v522, rfl, ho0, hb⟩; have HO523 := Aside0.mk (Kd.R_lower ho0 (below_size Z37)); replace BK519 := bkB BK519 hb; replace HB := hbS Z37 hb; (try clear hb); (try clear ho0))); try go_wp2_with (first | ((with_reducible refine gate_dst (N := 1) rfl ?_); refine bxE 1 #[.int .i64 a0_0, .int .i64 a0_1, .slice A0_2 l0_2.length c0_2] 30 ?_; intro gb519 hg w5 hbox hb; have BK519 := Aside0.mk (hbox); have GW519 := gwS hg Z1; have GE519 := gwS hg Z1; replace HB := hbS Z1 hb; clear hb hbox hg; obtain ⟨hcz6_0, hcz6_1, hcz6_2⟩ := bz3 BK519; obtain ⟨hfz6_0, hfz6_1, hfz6_2⟩ := fz3 BK519) | (go_at_call 47; (with_reducible refine (spec_l2Good.calls k a0_0 a0_1 _ _ l0_2 true _ ?side1 ?side2 A2.out).mono ?_); (case side1 => exact Z12); (case side2 => exact HC0_2.out); rintro e w7 ⟨rfl, hb⟩; replace BK519 := bkB BK519 hb; replace HB := hbS Z37 hb; (try clear hb); obtain ⟨hcz8_0, hcz8_1, hcz8_2⟩ := bz3 BK519; obtain ⟨hfz8_0, hfz8_1, hfz8_2⟩ := fz3 BK519) | (go_at_call 49; (with_reducible refine (spec_l10Counts.calls k a0_0 a0_1 _ _ l0_2 t521 _ ?side1 ?side2 A4.out).mono ?_); (case side1 => exact Z12); (case side2 => exact HC0_2.out); rintro e w9 ⟨v522, rfl, ho0, hb⟩; have HO523 := Aside0.mk (Kd.R_lower ho0 (below_size Z37)); replace BK519 := bkB BK519 hb; replace HB := hbS Z37 hb; (try clear hb); (try clear ho0))))
  go_loopg [5, 6] k (fun kq v5 v6 w' => ∃ (x5_1 : Int) (x6_1 : Int), v5 = .int .i64 x5_1 ∧ v6 = .int .i64 x6_1 ∧ Aside0 (spec_HungriestColor.l0 kq t521 x5_1 x6_1 = some (r1, r2)) ∧ Aside0 (kq ≤ k) ∧ Aside0 (Kd.R (Kd.int .i64) 3 w' w.heap.size (fun _ => True) v522 t521) ∧ Aside0 (w'.heap[gb519]? = some (.cells #[.int .i64 a0_0, .int .i64 a0_1, (.slice A0_2 l0_2.length c0_2)] 30 (0, 0))) ∧ Aside0 (Below w.heap.size w w'))
  case atStart => exact ⟨(0), (1), Z20, Z20, H', ⟨Nat.le_refl _⟩, ⟨by (with_reducible repeat (first | apply Kd.R_alloc | apply Kd.R_drewN | apply Kd.R_drew)); exact HO523.out⟩, ⟨Z134⟩, ⟨Z37⟩⟩
  case round =>
   clear H'
   try clear c2
   try clear p2
   try clear c3
   try clear hcz6_0
   try clear hcz6_1
   try clear hcz6_2
   try clear hcz8_0
   try clear hcz8_1
   try clear hcz8_2
   try clear hfz6_0
   try clear hfz6_1
   try clear hfz6_2
   try clear hfz8_0
   try clear hfz8_1
   try clear hfz8_2
   obtain ⟨x5_1, x6_1, rfl, rfl, HA, HK1, HO_4, BK519, HB⟩ := hrel
   cases gk with
   | zero => exact absurd HA.out (by simp [spec_HungriestColor.l0])
   | succ k1 =>
    have H := HA.out
    clear HA
    simp only [spec_HungriestColor.l0] at H
    by_cases c10 : x6_1 < (t521.length : Int)
    ·rw [if_pos c10] at H
     have c10b0 : decide (x6_1 < (t521.length : Int)) = true := decide_eq_true c10
     clear c10
     by_cases c11 : 0 ≤ x6_1
     ·rw [if_pos c11] at H
      have c11b0 : decide (0 ≤ x6_1) = true := decide_eq_true c11
      clear c11
      by_cases c12 : 0 ≤ x5_1
      ·rw [if_pos c12] at H
       have c12b0 : decide (0 ≤ x5_1) = true := decide_eq_true c12
       clear c12
       by_cases c13 : x5_1 < (t521.length : Int)
       ·rw [if_pos c13] at H
        have c13b0 : decide (x5_1 < (t521.length : Int)) = true := decide_eq_true c13
        clear c13
        by_cases c14 : (rd t521 x6_1) > (rd t521 x5_1)
        ·rw [if_pos c14] at H
         have c14b0 : decide ((rd t521 x5_1) < (rd t521 x6_1)) = true := decide_eq_true c14
         clear c14
         have H' := Aside0.mk H
         clear H
         obtain ⟨Ao15, co15, eo15⟩ := Kd.R_slice HO_4.out
         subst eo15
         have p524 : 0 ≤ (x6_1 : Int) := of_decide_eq_true Z19
         have q524 : x6_1 < (t521.length : Int) := of_decide_eq_true Z19
         obtain ⟨ad524, e524, hx524_0⟩ := Kd.at_int (Kd.R_reads' HO_4.out).2.2 x6_1 p524 q524
         cases e524
         replace p524 := eq_true p524
         replace q524 := eq_true q524
         have p525 : 0 ≤ (x5_1 : Int) := of_decide_eq_true Z19
         have q525 : x5_1 < (t521.length : Int) := of_decide_eq_true Z19
         obtain ⟨ad525, e525, hx525_0⟩ := Kd.at_int (Kd.R_reads' HO_4.out).2.2 x5_1 p525 q525
         obtain rfl : ad524 = ad525 := (by injection e525)
         replace p525 := eq_true p525
         replace q525 := eq_true q525
         go_wp2
         repeat (go_quiet (fail); try go_wp2)
         go_roundg k1
         case measure => have := HK1.out; omega
         case rel => exact ⟨(x6_1), (wrap64 (x6_1 + 1)), Z20, Z20, H', ⟨Z126⟩, ⟨Z121⟩, ⟨Z134⟩, ⟨Z37⟩⟩
        ·rw [if_neg c14] at H
         have c14b0 : decide ((rd t521 x5_1) < (rd t521 x6_1)) = false := decide_eq_false c14
         clear c14
         have H' := Aside0.mk H
         clear H
         obtain ⟨Ao16, co16, eo16⟩ := Kd.R_slice HO_4.out
         subst eo16
         have p524 : 0 ≤ (x6_1 : Int) := of_decide_eq_true Z19
         have q524 : x6_1 < (t521.length : Int) := of_decide_eq_true Z19
         obtain ⟨ad524, e524, hx524_0⟩ := Kd.at_int (Kd.R_reads' HO_4.out).2.2 x6_1 p524 q524
         cases e524
         replace p524 := eq_true p524
         replace q524 := eq_true q524
         have p525 : 0 ≤ (x5_1 : Int) := of_decide_eq_true Z19
         have q525 : x5_1 < (t521.length : Int) := of_decide_eq_true Z19
         obtain ⟨ad525, e525, hx525_0⟩ := Kd.at_int (Kd.R_reads' HO_4.out).2.2 x5_1 p525 q525
         obtain rfl : ad524 = ad525 := (by injection e525)
         replace p525 := eq_true p525
         replace q525 := eq_true q525
         go_wp2
         repeat (go_quiet (fail); try go_wp2)
         go_roundg k1
         case measure => have := HK1.out; omega
         case rel => exact ⟨(x5_1), (wrap64 (x6_1 + 1)), Z20, Z20, H', ⟨Z126⟩, ⟨Z121⟩, ⟨Z134⟩, ⟨Z37⟩⟩
       ·rw [if_neg c13] at H
        exact absurd H (by simp)
      ·rw [if_neg c12] at H
       exact absurd H (by simp)
     ·rw [if_neg c11] at H
      exact absurd H (by simp)
    ·rw [if_neg c10] at H
     have c10b0 : decide (x6_1 < (t521.length : Int)) = false := decide_eq_false c10
     clear c10
     simp only [Option.some.injEq, Prod.mk.injEq] at H
     obtain ⟨rfl, rfl⟩ := H
     obtain ⟨Ao17, co17, eo17⟩ := Kd.R_slice HO_4.out
     subst eo17
     go_wp2
     repeat (go_quiet (fail); try go_wp2)
     go_ret2
     exact ⟨Z11, Z37⟩
 ·replace c3 := Bool.eq_false_iff.mpr c3
  subst c3
  have H1 : (some (0, false)) = some (r1, r2) := by rw [if_neg (show ¬ (false = true) by decide)] at H; exact H
  clear H
  have H := H1
  clear H1
  simp only [Option.some.injEq, Prod.mk.injEq] at H
  obtain ⟨rfl, rfl⟩ := H
  go_enter Try.func28, Try.ntmps28
  go_wp2_with (first | ((with_reducible refine gate_dst (N := 1) rfl ?_); refine bxE 1 #[.int .i64 a0_0, .int .i64 a0_1, .slice A0_2 l0_2.length c0_2] 30 ?_; intro gb519 hg w18 hbox hb; have BK519 := Aside0.mk (hbox); have GW519 := gwS hg Z1; have GE519 := gwS hg Z1; replace HB := hbS Z1 hb; clear hb hbox hg; obtain ⟨hcz19_0, hcz19_1, hcz19_2⟩ := bz3 BK519; obtain ⟨hfz19_0, hfz19_1, hfz19_2⟩ := fz3 BK519) | (go_at_call 47; (with_reducible refine (spec_l2Good.calls k a0_0 a0_1 _ _ l0_2 false _ ?side1 ?side2 A2.out).mono ?_); (case side1 => exact Z12); (case side2 => exact HC0_2.out); rintro e w20 ⟨rfl, hb⟩; replace BK519 := bkB BK519 hb; replace HB := hbS Z37 hb; (try clear hb)))
  repeat (go_quiet (first | ((with_reducible refine gate_dst (N := 1) rfl ?_); refine bxE 1 #[.int .i64 a0_0, .int .i64 a0_1, .slice A0_2 l0_2.length c0_2] 30 ?_; intro gb519 hg w18 hbox hb; have BK519 := Aside0.mk (hbox); have GW519 := gwS hg Z1; have GE519 := gwS hg Z1; replace HB := hbS Z1 hb; clear hb hbox hg; obtain ⟨hcz19_0, hcz19_1, hcz19_2⟩ := bz3 BK519; obtain ⟨hfz19_0, hfz19_1, hfz19_2⟩ := fz3 BK519) | (go_at_call 47; (with_reducible refine (spec_l2Good.calls k a0_0 a0_1 _ _ l0_2 false _ ?side1 ?side2 A2.out).mono ?_); (case side1 => exact Z12); (case side2 => exact HC0_2.out); rintro e w20 ⟨rfl, hb⟩; replace BK519 := bkB BK519 hb; replace HB := hbS Z37 hb; (try clear hb))); try go_wp2_with (first | ((with_reducible refine gate_dst (N := 1) rfl ?_); refine bxE 1 #[.int .i64 a0_0, .int .i64 a0_1, .slice A0_2 l0_2.length c0_2] 30 ?_; intro gb519 hg w18 hbox hb; have BK519 := Aside0.mk (hbox); have GW519 := gwS hg Z1; have GE519 := gwS hg Z1; replace HB := hbS Z1 hb; clear hb hbox hg; obtain ⟨hcz19_0, hcz19_1, hcz19_2⟩ := bz3 BK519; obtain ⟨hfz19_0, hfz19_1, hfz19_2⟩ := fz3 BK519) | (go_at_call 47; (with_reducible refine (spec_l2Good.calls k a0_0 a0_1 _ _ l0_2 false _ ?side1 ?side2 A2.out).mono ?_); (case side1 => exact Z12); (case side2 => exact HC0_2.out); rintro e w20 ⟨rfl, hb⟩; replace BK519 := bkB BK519 hb; replace HB := hbS Z37 hb; (try clear hb))))
  go_ret2
  exact ⟨Z11, Z37⟩
def slices_Index_int_int.l0 : Nat → List Int → Int → Int → Int → Option (Int)
 | 0, _, _, _, _ => none
 | k + 1, x0, x1, x7, x8 => if x8 < x7 then (if 0 ≤ x8 then (if x8 < (x0.length : Int) then (if x1 = (rd x0 x8) then (some x8) else (slices_Index_int_int.l0 k x0 x1 x7 (wrap64 (x8 + 1)))) else (none)) else (none)) else (some (-1))
def slices_Index_int_int.f (k : Nat) (l0 : List Int) (a1 : Int) : Option (Int) := slices_Index_int_int.l0 k l0 a1 (l0.length : Int) 0
theorem slices_Index_int_int.calls (k : Nat) (A0 : Option Addr) (c0 : Nat) (l0 : List Int) (a1 : Int) (r : Int) (w : World) (hr0 : Kd.C (Kd.int .i64) w A0 l0.length l0) (hc0 : l0.length ≤ c0) (h : slices_Index_int_int.f k l0 a1 = some r) :
  Calls Try.prog 58 #[.slice A0 l0.length c0, .int .i64 a1] w fun e w' => e = .returned (.int .i64 r) ∧ Drawn0 w w' := by
 have HR0 := Aside0.mk hr0
 have HC0 := Aside0.mk hc0
 clear hr0 hc0
 have H : (slices_Index_int_int.l0 k l0 a1 (l0.length : Int) 0) = some r := h
 clear h
 have H' := Aside0.mk H
 clear H
 go_enter Try.func58, Try.ntmps58
 go_wp2
 go_loopg [8] k (fun kq v8 w' => ∃ (x8_1 : Int), v8 = .int .i64 x8_1 ∧ Aside0 (slices_Index_int_int.l0 kq l0 a1 (l0.length : Int) x8_1 = some r) ∧ Aside0 (kq ≤ k) ∧ Drawn0 w w')
 case atStart => exact ⟨(0), Z20, H', ⟨Nat.le_refl _⟩, Z42⟩
 case round =>
  clear H'
  try clear p2
  obtain ⟨x8_1, rfl, HA, HK1, ⟨m1, rfl⟩⟩ := hrel
  cases gk with
  | zero => exact absurd HA.out (by simp [slices_Index_int_int.l0])
  | succ k1 =>
   have H := HA.out
   clear HA
   simp only [slices_Index_int_int.l0] at H
   by_cases c3 : x8_1 < (l0.length : Int)
   ·rw [if_pos c3] at H
    have c3b0 : decide (x8_1 < (l0.length : Int)) = true := decide_eq_true c3
    clear c3
    by_cases c4 : 0 ≤ x8_1
    ·rw [if_pos c4] at H
     have c4b0 : decide (0 ≤ x8_1) = true := decide_eq_true c4
     clear c4
     by_cases c5 : x8_1 < (l0.length : Int)
     ·rw [if_pos c5] at H
      have c5b0 : decide (x8_1 < (l0.length : Int)) = true := decide_eq_true c5
      clear c5
      by_cases c6 : a1 = (rd l0 x8_1)
      ·rw [if_pos c6] at H
       have c6b0 : (a1 == (rd l0 x8_1)) = true := beq_iff_eq.mpr c6
       have c6b1 : (a1 != (rd l0 x8_1)) = false := bne_eq_false_iff_eq.mpr c6
       clear c6
       obtain rfl := Option.some.inj H
       have p526 : 0 ≤ (x8_1 : Int) := of_decide_eq_true Z19
       have q526 : x8_1 < (l0.length : Int) := of_decide_eq_true Z19
       obtain ⟨ad526, e526, hx526_0⟩ := Kd.at_int HR0.out x8_1 p526 q526
       cases e526
       replace p526 := eq_true p526
       replace q526 := eq_true q526
       go_wp2
       go_ret
       exact ⟨Z20, Z42⟩
      ·rw [if_neg c6] at H
       have c6b0 : (a1 == (rd l0 x8_1)) = false := beq_eq_false_iff_ne.mpr c6
       have c6b1 : (a1 != (rd l0 x8_1)) = true := bne_iff_ne.mpr c6
       have H' := Aside0.mk H
       clear H
       have p526 : 0 ≤ (x8_1 : Int) := of_decide_eq_true Z19
       have q526 : x8_1 < (l0.length : Int) := of_decide_eq_true Z19
       obtain ⟨ad526, e526, hx526_0⟩ := Kd.at_int HR0.out x8_1 p526 q526
       cases e526
       replace p526 := eq_true p526
       replace q526 := eq_true q526
       go_wp2
       go_roundg k1
       case measure => have := HK1.out; omega
       case rel => exact ⟨(wrap64 (x8_1 + 1)), Z20, H', ⟨Z126⟩, Z42⟩
     ·rw [if_neg c5] at H
      exact absurd H (by simp)
    ·rw [if_neg c4] at H
     exact absurd H (by simp)
   ·rw [if_neg c3] at H
    have c3b0 : decide (x8_1 < (l0.length : Int)) = false := decide_eq_false c3
    clear c3
    obtain rfl := Option.some.inj H
    go_wp2
    go_ret
    exact ⟨Z20, Z42⟩
def slices_Max_int_int.l0 : Nat → List Int → Int → Int → Option (Int)
 | 0, _, _, _ => none
 | k + 1, x0, x3, x4 => if x4 < (x0.length : Int) then (if 0 ≤ x4 then (slices_Max_int_int.l0 k x0 (mx x3 (rd x0 x4)) (wrap64 (x4 + 1))) else (none)) else (some x3)
def slices_Max_int_int.f (k : Nat) (l0 : List Int) : Option (Int) := if (l0.length : Int) < 1 then (none) else (if 0 < (l0.length : Int) then (slices_Max_int_int.l0 k l0 (rd l0 0) 1) else (none))
theorem slices_Max_int_int.calls (k : Nat) (A0 : Option Addr) (c0 : Nat) (l0 : List Int) (r : Int) (w : World) (hr0 : Kd.C (Kd.int .i64) w A0 l0.length l0) (hc0 : l0.length ≤ c0) (h : slices_Max_int_int.f k l0 = some r) :
  Calls Try.prog 59 #[.slice A0 l0.length c0] w fun e w' => e = .returned (.int .i64 r) ∧ Below w.heap.size w w' := by
 have HR0 := Aside0.mk hr0
 have HC0 := Aside0.mk hc0
 clear hr0 hc0
 have HB := Aside0.mk (Below.refl w.heap.size w)
 have H : (if (l0.length : Int) < 1 then (none) else (if 0 < (l0.length : Int) then (slices_Max_int_int.l0 k l0 (rd l0 0) 1) else (none))) = some r := h
 clear h
 by_cases c2 : (l0.length : Int) < 1
 ·rw [if_pos c2] at H
  exact absurd H (by simp)
 ·rw [if_neg c2] at H
  have c2b0 : decide ((l0.length : Int) < 1) = false := decide_eq_false c2
  have c2b1 : decide (l0.length < 1) = false := decide_eq_false (by omega)
  clear c2
  by_cases c3 : 0 < (l0.length : Int)
  ·rw [if_pos c3] at H
   have c3b0 : decide (0 < (l0.length : Int)) = true := decide_eq_true c3
   have c3b1 : decide (0 < l0.length) = true := decide_eq_true (by omega)
   clear c3
   have H' := Aside0.mk H
   clear H
   have p527 : 0 ≤ (0 : Int) := (by omega)
   have q527 : 0 < (l0.length : Int) := of_decide_eq_true Z19
   obtain ⟨ad527, e527, hx527_0⟩ := Kd.at_int HR0.out 0 p527 q527
   cases e527
   have qi527 : (0 < l0.length) = True := eq_true (by omega)
   (try rw [show ((0 : Int)).toNat = 0 from rfl] at hx527_0)
   (try rw [Addr.add_zero'] at hx527_0)
   replace p527 := eq_true p527
   replace q527 := eq_true q527
   go_enter Try.func59, Try.ntmps59
   go_wp2
   go_loopg [3, 4] k (fun kq v3 v4 w' => ∃ (x3_1 : Int) (x4_1 : Int), v3 = .int .i64 x3_1 ∧ v4 = .int .i64 x4_1 ∧ Aside0 (slices_Max_int_int.l0 kq l0 x3_1 x4_1 = some r) ∧ Aside0 (kq ≤ k) ∧ Aside0 (Below w.heap.size w w'))
   case atStart => exact ⟨(rd l0 0), (1), Z20, Z20, H', ⟨Nat.le_refl _⟩, ⟨Z1⟩⟩
   case round =>
    clear H'
    try clear c2
    try clear c2b0
    try clear c2b1
    try clear p2
    try clear c3
    try clear c3b0
    try clear c3b1
    try clear hx527_0
    try clear p527
    try clear q527
    obtain ⟨x3_1, x4_1, rfl, rfl, HA, HK1, HB⟩ := hrel
    cases gk with
    | zero => exact absurd HA.out (by simp [slices_Max_int_int.l0])
    | succ k1 =>
     have H := HA.out
     clear HA
     simp only [slices_Max_int_int.l0] at H
     by_cases c4 : x4_1 < (l0.length : Int)
     ·rw [if_pos c4] at H
      have c4b0 : decide (x4_1 < (l0.length : Int)) = true := decide_eq_true c4
      clear c4
      by_cases c5 : 0 ≤ x4_1
      ·rw [if_pos c5] at H
       have c5b0 : decide (0 ≤ x4_1) = true := decide_eq_true c5
       clear c5
       obtain ⟨ji6, hji6⟩ : ∃ j_ : Int, (mx x3_1 (rd l0 x4_1)) = j_ := ⟨_, rfl⟩
       replace H : (slices_Max_int_int.l0 k1 l0 ji6 (wrap64 (x4_1 + 1))) = some r := by first | (rw [hji6] at H; exact H) | (simp only [hji6] at H ⊢; exact H)
       have hji6_ : (if x3_1 < (rd l0 x4_1) then (rd l0 x4_1) else x3_1) = ji6 := hji6
       have H' := Aside0.mk H
       clear H
       have p528 : 0 ≤ (x4_1 : Int) := of_decide_eq_true Z19
       have q528 : x4_1 < (l0.length : Int) := of_decide_eq_true Z19
       obtain ⟨ad528, e528, hx528_0⟩ := Kd.at_int HR0.out x4_1 p528 q528
       obtain rfl : ad527 = ad528 := (by injection e528)
       replace hx528_0 := (HB.out.cell (World.block_lt_of_cell? w _ hx528_0)).trans hx528_0
       replace p528 := eq_true p528
       replace q528 := eq_true q528
       go_wp2
       go_roundg k1
       case measure => have := HK1.out; omega
       case rel => exact ⟨(ji6), (wrap64 (x4_1 + 1)), (by first | rfl | (simp; done) | (simp only [← hji6] <;> (first | rfl | simp)) | (simp [*]; done)), Z20, H', ⟨Z126⟩, ⟨Z1⟩⟩
      ·rw [if_neg c5] at H
       exact absurd H (by simp)
     ·rw [if_neg c4] at H
      have c4b0 : decide (x4_1 < (l0.length : Int)) = false := decide_eq_false c4
      clear c4
      obtain rfl := Option.some.inj H
      go_wp2
      go_ret
      exact ⟨Z11, Z1⟩
  ·rw [if_neg c3] at H
   exact absurd H (by simp)
def impl_HungriestColor.f (k : Nat) (a0_0 : Int) (a0_1 : Int) (l0_2 : List Int) : Option (Int × Bool) := (impl_IsChart.f a0_0 a0_1 l0_2).bind fun t530 => (if t530 = true then ((impl_Chart_colors.f k a0_0 a0_1 l0_2).bind fun t531 => ((slices_Max_int_int.f k t531).bind fun t534 => ((slices_Index_int_int.f k t531 t534).bind fun t535 => (some (t535, true))))) else (some (0, false)))
theorem impl_HungriestColor.calls (k : Nat) (a0_0 : Int) (a0_1 : Int) (A0_2 : Option Addr) (c0_2 : Nat) (l0_2 : List Int) (r1 : Int) (r2 : Bool) (w : World) (hr0_2 : Kd.C (Kd.int .i64) w A0_2 l0_2.length l0_2) (hc0_2 : l0_2.length ≤ c0_2) (h : impl_HungriestColor.f k a0_0 a0_1 l0_2 = some (r1, r2)) :
  Calls Try.prog 29 #[.agg #[.int .i64 a0_0, .int .i64 a0_1, .slice A0_2 l0_2.length c0_2]] w fun e w' => e = .returned (.tuple #[.int .i64 r1, .bool r2]) ∧ Below w.heap.size w w' := by
 have hu30 := Try.underlying30
 have HR0_2 := Aside0.mk hr0_2
 have HC0_2 := Aside0.mk hc0_2
 clear hr0_2 hc0_2
 have HB := Aside0.mk (Below.refl w.heap.size w)
 have H : ((impl_IsChart.f a0_0 a0_1 l0_2).bind fun t530 => (if t530 = true then ((impl_Chart_colors.f k a0_0 a0_1 l0_2).bind fun t531 => ((slices_Max_int_int.f k t531).bind fun t534 => ((slices_Index_int_int.f k t531 t534).bind fun t535 => (some (t535, true))))) else (some (0, false)))) = some (r1, r2) := h
 clear h
 replace H := Option.bind_eq_some_iff.mp H
 obtain ⟨t530, A20, H⟩ := H
 replace H : (if t530 = true then ((impl_Chart_colors.f k a0_0 a0_1 l0_2).bind fun t531 => ((slices_Max_int_int.f k t531).bind fun t534 => ((slices_Index_int_int.f k t531 t534).bind fun t535 => (some (t535, true))))) else (some (0, false))) = some (r1, r2) := H
 have A2 := Aside0.mk A20
 clear A20
 by_cases c3 : t530 = true
 ·subst c3
  have H1 : ((impl_Chart_colors.f k a0_0 a0_1 l0_2).bind fun t531 => ((slices_Max_int_int.f k t531).bind fun t534 => ((slices_Index_int_int.f k t531 t534).bind fun t535 => (some (t535, true))))) = some (r1, r2) := by rw [if_pos rfl] at H; exact H
  clear H
  have H := H1
  clear H1
  replace H := Option.bind_eq_some_iff.mp H
  obtain ⟨t531, A40, H⟩ := H
  replace H : ((slices_Max_int_int.f k t531).bind fun t534 => ((slices_Index_int_int.f k t531 t534).bind fun t535 => (some (t535, true)))) = some (r1, r2) := H
  have A4 := Aside0.mk A40
  clear A40
  replace H := Option.bind_eq_some_iff.mp H
  obtain ⟨t534, A50, H⟩ := H
  replace H : ((slices_Index_int_int.f k t531 t534).bind fun t535 => (some (t535, true))) = some (r1, r2) := H
  have A5 := Aside0.mk A50
  clear A50
  replace H := Option.bind_eq_some_iff.mp H
  obtain ⟨t535, A60, H⟩ := H
  replace H : (some (t535, true)) = some (r1, r2) := H
  have A6 := Aside0.mk A60
  clear A60
  simp only [Option.some.injEq, Prod.mk.injEq] at H
  obtain ⟨rfl, rfl⟩ := H
  go_enter Try.func29, Try.ntmps29
  go_wp2_with (first | ((with_reducible refine gate_dst (N := 1) rfl ?_); refine bxE 1 #[.int .i64 a0_0, .int .i64 a0_1, .slice A0_2 l0_2.length c0_2] 30 ?_; intro gb529 hg w7 hbox hb; have BK529 := Aside0.mk (hbox); have GW529 := gwS hg Z1; have GE529 := gwS hg Z1; replace HB := hbS Z1 hb; clear hb hbox hg; obtain ⟨hcz8_0, hcz8_1, hcz8_2⟩ := bz3 BK529; obtain ⟨hfz8_0, hfz8_1, hfz8_2⟩ := fz3 BK529) | ((with_reducible refine gate_callee (f := 51) rfl ?_); refine glE (some 6) Try.func51 #[.agg #[.int .i64 a0_0, .int .i64 a0_1, .slice A0_2 l0_2.length c0_2]] ?_; (with_reducible refine (impl_IsChart.calls a0_0 a0_1 _ _ l0_2 true _ ?side1 ?side2 A2.out).mono ?_); (case side1 => exact Z12); (case side2 => exact HC0_2.out); rintro e w9 ⟨rfl, hb⟩; refine ⟨_, rfl, ?_⟩; replace BK529 := bkB BK529 hb; replace HB := hbS Z61 hb; (try clear hb); obtain ⟨hcz10_0, hcz10_1, hcz10_2⟩ := bz3 BK529; obtain ⟨hfz10_0, hfz10_1, hfz10_2⟩ := fz3 BK529) | ((with_reducible refine gate_callee (f := 57) rfl ?_); refine glE (some 9) Try.func57 #[.agg #[.int .i64 a0_0, .int .i64 a0_1, .slice A0_2 l0_2.length c0_2]] ?_; (with_reducible refine (impl_Chart_colors.calls k a0_0 a0_1 _ _ l0_2 t531 _ ?side1 ?side2 A4.out).mono ?_); (case side1 => exact Z12); (case side2 => exact HC0_2.out); rintro e w11 ⟨v532, rfl, ho0, hb⟩; refine ⟨_, rfl, ?_⟩; have HO533 := Aside0.mk (Kd.R_lower ho0 (below_size Z61)); replace BK529 := bkB BK529 hb; replace HB := hbS Z61 hb; (try clear hb); (try clear ho0); obtain ⟨Ao12, co12, eo12⟩ := Kd.R_slice HO533.out; subst eo12) | ((with_reducible refine gate_callee (f := 59) rfl ?_); refine glE (some 12) Try.func59 #[.slice Ao12 t531.length co12] ?_; (with_reducible refine (slices_Max_int_int.calls k _ _ t531 t534 _ ?side1 ?side2 A5.out).mono ?_); (case side1 => exact Z138); (case side2 => exact (Kd.R_reads' HO533.out).2.1); rintro e w13 ⟨rfl, hb⟩; refine ⟨_, rfl, ?_⟩; replace HO533 := roB HO533 hb; replace BK529 := bkB BK529 hb; replace HB := hbS Z61 hb; (try clear hb)) | ((with_reducible refine gate_callee (f := 58) rfl ?_); refine glE (some 13) Try.func58 #[.slice Ao12 t531.length co12, .int .i64 t534] ?_; (with_reducible refine (slices_Index_int_int.calls k _ _ t531 t534 t535 _ ?side1 ?side2 A6.out).mono ?_); (case side1 => exact Z138); (case side2 => exact (Kd.R_reads' HO533.out).2.1); rintro e w' ⟨rfl, ⟨nd, rfl⟩⟩; refine ⟨_, rfl, ?_⟩))
  go_ret2
  exact ⟨Z11, Z61⟩
 ·replace c3 := Bool.eq_false_iff.mpr c3
  subst c3
  have H1 : (some (0, false)) = some (r1, r2) := by rw [if_neg (show ¬ (false = true) by decide)] at H; exact H
  clear H
  have H := H1
  clear H1
  simp only [Option.some.injEq, Prod.mk.injEq] at H
  obtain ⟨rfl, rfl⟩ := H
  go_enter Try.func29, Try.ntmps29
  go_wp2_with (first | ((with_reducible refine gate_dst (N := 1) rfl ?_); refine bxE 1 #[.int .i64 a0_0, .int .i64 a0_1, .slice A0_2 l0_2.length c0_2] 30 ?_; intro gb529 hg w14 hbox hb; have BK529 := Aside0.mk (hbox); have GW529 := gwS hg Z1; have GE529 := gwS hg Z1; replace HB := hbS Z1 hb; clear hb hbox hg; obtain ⟨hcz15_0, hcz15_1, hcz15_2⟩ := bz3 BK529; obtain ⟨hfz15_0, hfz15_1, hfz15_2⟩ := fz3 BK529) | ((with_reducible refine gate_callee (f := 51) rfl ?_); refine glE (some 6) Try.func51 #[.agg #[.int .i64 a0_0, .int .i64 a0_1, .slice A0_2 l0_2.length c0_2]] ?_; (with_reducible refine (impl_IsChart.calls a0_0 a0_1 _ _ l0_2 false _ ?side1 ?side2 A2.out).mono ?_); (case side1 => exact Z12); (case side2 => exact HC0_2.out); rintro e w16 ⟨rfl, hb⟩; refine ⟨_, rfl, ?_⟩; replace BK529 := bkB BK529 hb; replace HB := hbS Z61 hb; (try clear hb)))
  go_ret2
  exact ⟨Z11, Z61⟩
end Go.Proofs.Ytnkecgldapagcaa.H
