-- by wip/pack.py of this repo
import Derived.Test.YtnkecgldapagcaaZ07Hx0
import Derived.Test.YtnkecgldapagcaaZ07WGuard
import Derived.Test.YtnkecgldapagcaaZ07WLast
import Derived.Test.YtnkecgldapagcaaZ07WMore
import Derived.Test.YtnkecgldapagcaaZ07WWords
import Derived.Test.YtnkecgldapagcaaZ07Short
namespace Go.Proofs.Ytnkecgldapagcaa.H
open Go.RowKit Go.Proofs.YtnkecgldapagcaaW.PrintWords Go.Proofs.YtnkecgldapagcaaW.PrintLast Go.Proofs.YtnkecgldapagcaaW.PrintMore
attribute [local go_sem] max2_int min2_int max_two min_two max_three min_three max_four min_four
set_option maxHeartbeats 8000000
set_option maxRecDepth 100000
set_option linter.unusedVariables false
set_option linter.unusedSimpArgs false
def spec_l1In.f (a0 : Int) (a1 : Int) (a2 : Int) : Option (Bool) := if a0 ≥ a1 then (some (decide (a0 ≤ a2))) else (some false)
theorem spec_l1In.calls (a0 : Int) (a1 : Int) (a2 : Int) (r : Bool) (w : World) (h : spec_l1In.f a0 a1 a2 = some r) :
  Calls Try.prog 68 #[.int .i64 a0, .int .i64 a1, .int .i64 a2] w fun e w' => e = .returned (.bool r) ∧ Drawn0 w w' := by
 have H : (if a0 ≥ a1 then (some (decide (a0 ≤ a2))) else (some false)) = some r := h
 clear h
 by_cases c4 : a0 ≥ a1
 ·rw [if_pos c4] at H
  have c4b0 : decide (a1 ≤ a0) = true := decide_eq_true c4
  clear c4
  obtain rfl := Option.some.inj H
  go_enter Try.func68, Try.ntmps68
  go_wp2
  go_ret
  exact ⟨Z20, Z42⟩
 ·rw [if_neg c4] at H
  have c4b0 : decide (a1 ≤ a0) = false := decide_eq_false c4
  clear c4
  obtain rfl := Option.some.inj H
  go_enter Try.func68, Try.ntmps68
  go_wp2
  go_ret
  exact ⟨Z20, Z42⟩
theorem spec_l1In.eq (a b c : Int) : spec_l1In.f a b c = some (rng a b c) := by
 unfold spec_l1In.f rng; by_cases h : b ≤ a <;> simp [h]
def spec_l2Color.f (a0 : Int) : Option (Bool) := (spec_l1In.f a0 0 5).bind fun t103 => (some t103)
theorem spec_l2Color.calls (a0 : Int) (r : Bool) (w : World) (h : spec_l2Color.f a0 = some r) :
  Calls Try.prog 60 #[.int .i64 a0] w fun e w' => e = .returned (.bool r) ∧ Drawn0 w w' := by
 have H : ((spec_l1In.f a0 0 5).bind fun t103 => (some t103)) = some r := h
 clear h
 replace H := Option.bind_eq_some_iff.mp H
 obtain ⟨t103, A20, H⟩ := H
 replace H : (some t103) = some r := H
 have A2 := Aside0.mk A20
 clear A20
 obtain rfl := Option.some.inj H
 go_enter Try.func60, Try.ntmps60
 go_wp2_with (first | ((with_reducible refine gate_callee (f := 68) rfl ?_); refine glE (some 4) Try.func68 #[.int .i64 a0, .int .i64 0, .int .i64 5] ?_; (with_reducible refine (spec_l1In.calls a0 0 5 t103 _ A2.out).mono ?_); rintro e w' ⟨rfl, ⟨nd, rfl⟩⟩; refine ⟨_, rfl, ?_⟩))
 go_ret
 exact ⟨Z20, Z42⟩
def spec_l2Side.f (a0 : Int) : Option (Bool) := (spec_l1In.f a0 1 8).bind fun t104 => (some t104)
theorem spec_l2Side.calls (a0 : Int) (r : Bool) (w : World) (h : spec_l2Side.f a0 = some r) :
  Calls Try.prog 75 #[.int .i64 a0] w fun e w' => e = .returned (.bool r) ∧ Drawn0 w w' := by
 have H : ((spec_l1In.f a0 1 8).bind fun t104 => (some t104)) = some r := h
 clear h
 replace H := Option.bind_eq_some_iff.mp H
 obtain ⟨t104, A20, H⟩ := H
 replace H : (some t104) = some r := H
 have A2 := Aside0.mk A20
 clear A20
 obtain rfl := Option.some.inj H
 go_enter Try.func75, Try.ntmps75
 go_wp2_with (first | ((with_reducible refine gate_callee (f := 68) rfl ?_); refine glE (some 4) Try.func68 #[.int .i64 a0, .int .i64 1, .int .i64 8] ?_; (with_reducible refine (spec_l1In.calls a0 1 8 t104 _ A2.out).mono ?_); rintro e w' ⟨rfl, ⟨nd, rfl⟩⟩; refine ⟨_, rfl, ?_⟩))
 go_ret
 exact ⟨Z20, Z42⟩
def spec_l2Good.l0 : Nat → Int → Int → Int → List Int → Option (Bool)
 | 0, _, _, _, _ => none
 | k + 1, x3, x106000, x106001, x106002 => if x3 < (x106002.length : Int) then (if 0 ≤ x3 then ((spec_l2Color.f (rd x106002 x3)).bind fun t107 => (if t107 = true then (spec_l2Good.l0 k (wrap64 (x3 + 1)) x106000 x106001 x106002) else (some false))) else (none)) else ((spec_l2Side.f x106000).bind fun t108 => (if t108 = true then ((spec_l2Side.f x106001).bind fun t109 => (if t109 = true then (some ((x106002.length : Int) == (wrap64 (x106000 * x106001)))) else (some false))) else (some false)))
def spec_l2Good.f (k : Nat) (a0_0 : Int) (a0_1 : Int) (l0_2 : List Int) : Option (Bool) := spec_l2Good.l0 k 0 a0_0 a0_1 l0_2
theorem spec_l2Good.calls (k : Nat) (a0_0 : Int) (a0_1 : Int) (A0_2 : Option Addr) (c0_2 : Nat) (l0_2 : List Int) (r : Bool) (w : World) (hr0_2 : Kd.C (Kd.int .i64) w A0_2 l0_2.length l0_2) (hc0_2 : l0_2.length ≤ c0_2) (h : spec_l2Good.f k a0_0 a0_1 l0_2 = some r) :
  Calls Try.prog 47 #[.agg #[.int .i64 a0_0, .int .i64 a0_1, .slice A0_2 l0_2.length c0_2]] w fun e w' => e = .returned (.bool r) ∧ Below w.heap.size w w' := by
 have hu30 := Try.underlying30
 have HR0_2 := Aside0.mk hr0_2
 have HC0_2 := Aside0.mk hc0_2
 clear hr0_2 hc0_2
 have HB := Aside0.mk (Below.refl w.heap.size w)
 have H : (spec_l2Good.l0 k 0 a0_0 a0_1 l0_2) = some r := h
 clear h
 have H' := Aside0.mk H
 clear H
 go_enter Try.func47, Try.ntmps47
 go_wp2_with (first | ((with_reducible refine gate_dst (N := 1) rfl ?_); (try (refine gate_guard (by rfl) ?_; dsimp only)); refine bxE 1 #[.int .i64 a0_0, .int .i64 a0_1, .slice A0_2 l0_2.length c0_2] 30 ?_; intro gb105 hg w2 hbox hb; have BK105 := Aside0.mk (hbox); have GW105 := gwS hg Z1; have GE105 := gwS hg Z1; replace HB := hbS Z1 hb; clear hb hbox hg))
 go_loopg [3] k (fun kq v3 w' => ∃ (x3_1 : Int), v3 = .int .i64 x3_1 ∧ Aside0 (spec_l2Good.l0 kq x3_1 a0_0 a0_1 l0_2 = some r) ∧ Aside0 (kq ≤ k) ∧ Aside0 (w'.heap[gb105]? = some (.cells #[.int .i64 a0_0, .int .i64 a0_1, (.slice A0_2 l0_2.length c0_2)] 30 (0, 0))) ∧ Aside0 (Below w.heap.size w w'))
 case atStart => exact ⟨(0), Z20, H', ⟨Nat.le_refl _⟩, ⟨Z157⟩, ⟨Z63⟩⟩
 case round =>
  clear H'
  try clear p2
  obtain ⟨x3_1, rfl, HA, HK1, BK105, HB⟩ := hrel
  cases gk with
  | zero => exact absurd HA.out (by simp [spec_l2Good.l0])
  | succ k1 =>
   have H := HA.out
   clear HA
   simp only [spec_l2Good.l0] at H
   by_cases c3 : x3_1 < (l0_2.length : Int)
   ·rw [if_pos c3] at H
    have c3b0 : decide (x3_1 < (l0_2.length : Int)) = true := decide_eq_true c3
    clear c3
    by_cases c4 : 0 ≤ x3_1
    ·rw [if_pos c4] at H
     have c4b0 : decide (0 ≤ x3_1) = true := decide_eq_true c4
     clear c4
     replace H := Option.bind_eq_some_iff.mp H
     obtain ⟨t107, A50, H⟩ := H
     replace H : (if t107 = true then (spec_l2Good.l0 k1 (wrap64 (x3_1 + 1)) a0_0 a0_1 l0_2) else (some false)) = some r := H
     have A5 := Aside0.mk A50
     clear A50
     by_cases c6 : t107 = true
     ·subst c6
      have H1 : (spec_l2Good.l0 k1 (wrap64 (x3_1 + 1)) a0_0 a0_1 l0_2) = some r := by rw [if_pos rfl] at H; exact H
      clear H
      have H := H1
      clear H1
      have H' := Aside0.mk H
      clear H
      obtain ⟨hcz7_0, hcz7_1, hcz7_2⟩ := bz3 BK105
      obtain ⟨hfz7_0, hfz7_1, hfz7_2⟩ := fz3 BK105
      have p106 : 0 ≤ (x3_1 : Int) := of_decide_eq_true Z19
      have q106 : x3_1 < (l0_2.length : Int) := of_decide_eq_true Z19
      obtain ⟨ad106, e106, hx106_0⟩ := Kd.at_int HR0_2.out x3_1 p106 q106
      cases e106
      replace hx106_0 := (HB.out.cell (World.block_lt_of_cell? w _ hx106_0)).trans hx106_0
      replace p106 := eq_true p106
      replace q106 := eq_true q106
      go_wp2_with (first | ((with_reducible refine gate_callee (f := 60) rfl ?_); refine glE (some 16) Try.func60 #[.int .i64 (rd l0_2 x3_1)] ?_; (with_reducible refine (spec_l2Color.calls (rd l0_2 x3_1) true _ A5.out).mono ?_); rintro e w' ⟨rfl, ⟨nd, rfl⟩⟩; refine ⟨_, rfl, ?_⟩))
      go_roundg k1
      case measure => have := HK1.out; omega
      case rel => exact ⟨(wrap64 (x3_1 + 1)), Z20, H', ⟨Z126⟩, ⟨Z157⟩, ⟨Z63⟩⟩
     ·replace c6 := Bool.eq_false_iff.mpr c6
      subst c6
      have H1 : (some false) = some r := by rw [if_neg (show ¬ (false = true) by decide)] at H; exact H
      clear H
      have H := H1
      clear H1
      obtain rfl := Option.some.inj H
      obtain ⟨hcz8_0, hcz8_1, hcz8_2⟩ := bz3 BK105
      obtain ⟨hfz8_0, hfz8_1, hfz8_2⟩ := fz3 BK105
      have p106 : 0 ≤ (x3_1 : Int) := of_decide_eq_true Z19
      have q106 : x3_1 < (l0_2.length : Int) := of_decide_eq_true Z19
      obtain ⟨ad106, e106, hx106_0⟩ := Kd.at_int HR0_2.out x3_1 p106 q106
      cases e106
      replace hx106_0 := (HB.out.cell (World.block_lt_of_cell? w _ hx106_0)).trans hx106_0
      replace p106 := eq_true p106
      replace q106 := eq_true q106
      go_wp2_with (first | ((with_reducible refine gate_callee (f := 60) rfl ?_); refine glE (some 16) Try.func60 #[.int .i64 (rd l0_2 x3_1)] ?_; (with_reducible refine (spec_l2Color.calls (rd l0_2 x3_1) false _ A5.out).mono ?_); rintro e w' ⟨rfl, ⟨nd, rfl⟩⟩; refine ⟨_, rfl, ?_⟩))
      go_ret
      exact ⟨Z11, Z63⟩
    ·rw [if_neg c4] at H
     exact absurd H (by simp)
   ·rw [if_neg c3] at H
    have c3b0 : decide (x3_1 < (l0_2.length : Int)) = false := decide_eq_false c3
    clear c3
    replace H := Option.bind_eq_some_iff.mp H
    obtain ⟨t108, A90, H⟩ := H
    replace H : (if t108 = true then ((spec_l2Side.f a0_1).bind fun t109 => (if t109 = true then (some ((l0_2.length : Int) == (wrap64 (a0_0 * a0_1)))) else (some false))) else (some false)) = some r := H
    have A9 := Aside0.mk A90
    clear A90
    by_cases c10 : t108 = true
    ·subst c10
     have H1 : ((spec_l2Side.f a0_1).bind fun t109 => (if t109 = true then (some ((l0_2.length : Int) == (wrap64 (a0_0 * a0_1)))) else (some false))) = some r := by rw [if_pos rfl] at H; exact H
     clear H
     have H := H1
     clear H1
     replace H := Option.bind_eq_some_iff.mp H
     obtain ⟨t109, A110, H⟩ := H
     replace H : (if t109 = true then (some ((l0_2.length : Int) == (wrap64 (a0_0 * a0_1)))) else (some false)) = some r := H
     have A11 := Aside0.mk A110
     clear A110
     by_cases c12 : t109 = true
     ·subst c12
      have H1 : (some ((l0_2.length : Int) == (wrap64 (a0_0 * a0_1)))) = some r := by rw [if_pos rfl] at H; exact H
      clear H
      have H := H1
      clear H1
      obtain rfl := Option.some.inj H
      obtain ⟨hcz13_0, hcz13_1, hcz13_2⟩ := bz3 BK105
      obtain ⟨hfz13_0, hfz13_1, hfz13_2⟩ := fz3 BK105
      go_wp2_with (first | ((with_reducible refine gate_callee (f := 75) rfl ?_); refine glE (some 20) Try.func75 #[.int .i64 a0_0] ?_; (with_reducible refine (spec_l2Side.calls a0_0 true _ A9.out).mono ?_); rintro e w' ⟨rfl, ⟨nd, rfl⟩⟩; refine ⟨_, rfl, ?_⟩) | (go_at_call 75; (with_reducible refine (spec_l2Side.calls a0_1 true _ A11.out).mono ?_); rintro e w' ⟨rfl, ⟨nd, rfl⟩⟩))
      go_ret
      exact ⟨Z11, Z63⟩
     ·replace c12 := Bool.eq_false_iff.mpr c12
      subst c12
      have H1 : (some false) = some r := by rw [if_neg (show ¬ (false = true) by decide)] at H; exact H
      clear H
      have H := H1
      clear H1
      obtain rfl := Option.some.inj H
      obtain ⟨hcz14_0, hcz14_1, hcz14_2⟩ := bz3 BK105
      obtain ⟨hfz14_0, hfz14_1, hfz14_2⟩ := fz3 BK105
      go_wp2_with (first | ((with_reducible refine gate_callee (f := 75) rfl ?_); refine glE (some 20) Try.func75 #[.int .i64 a0_0] ?_; (with_reducible refine (spec_l2Side.calls a0_0 true _ A9.out).mono ?_); rintro e w' ⟨rfl, ⟨nd, rfl⟩⟩; refine ⟨_, rfl, ?_⟩) | (go_at_call 75; (with_reducible refine (spec_l2Side.calls a0_1 false _ A11.out).mono ?_); rintro e w' ⟨rfl, ⟨nd, rfl⟩⟩))
      go_ret
      exact ⟨Z11, Z63⟩
    ·replace c10 := Bool.eq_false_iff.mpr c10
     subst c10
     have H1 : (some false) = some r := by rw [if_neg (show ¬ (false = true) by decide)] at H; exact H
     clear H
     have H := H1
     clear H1
     obtain rfl := Option.some.inj H
     obtain ⟨hcz15_0, hcz15_1, hcz15_2⟩ := bz3 BK105
     obtain ⟨hfz15_0, hfz15_1, hfz15_2⟩ := fz3 BK105
     go_wp2_with (first | ((with_reducible refine gate_callee (f := 75) rfl ?_); refine glE (some 20) Try.func75 #[.int .i64 a0_0] ?_; (with_reducible refine (spec_l2Side.calls a0_0 false _ A9.out).mono ?_); rintro e w' ⟨rfl, ⟨nd, rfl⟩⟩; refine ⟨_, rfl, ?_⟩))
     go_ret
     exact ⟨Z11, Z63⟩
def spec_CountColors.l0 : Nat → List Int → Int → Int → Int → List Int → Option (List Int × Bool)
 | 0, _, _, _, _, _ => none
 | k + 1, x4, x5, x116000, x116001, x116002 => if x5 < (x116002.length : Int) then (if 0 ≤ x5 then (if 0 ≤ (rd x116002 x5) then (if (rd x116002 x5) < (x4.length : Int) then (spec_CountColors.l0 k (x4.set ((rd x116002 x5) : Int).toNat (wrap64 ((rd x4 (rd x116002 x5)) + 1))) (wrap64 (x5 + 1)) x116000 x116001 x116002) else (none)) else (none)) else (none)) else (some (x4, true))
def spec_CountColors.f (k : Nat) (a0_0 : Int) (a0_1 : Int) (l0_2 : List Int) : Option (List Int × Bool) := (spec_l2Good.f k a0_0 a0_1 l0_2).bind fun t116 => (if t116 = true then (if 6 ≤ 35184372088832 then (spec_CountColors.l0 k (List.replicate 6 0) 0 a0_0 a0_1 l0_2) else (none)) else (some ((([] : List Int)), false)))
theorem spec_CountColors.calls (k : Nat) (a0_0 : Int) (a0_1 : Int) (A0_2 : Option Addr) (c0_2 : Nat) (l0_2 : List Int) (r1 : List Int) (r2 : Bool) (w : World) (hr0_2 : Kd.C (Kd.int .i64) w A0_2 l0_2.length l0_2) (hc0_2 : l0_2.length ≤ c0_2) (h : spec_CountColors.f k a0_0 a0_1 l0_2 = some (r1, r2)) :
  Calls Try.prog 76 #[.agg #[.int .i64 a0_0, .int .i64 a0_1, .slice A0_2 l0_2.length c0_2]] w fun e w' => ∃ v0_ : Value, e = .returned (.tuple #[v0_, .bool r2]) ∧ Kd.R (Kd.int .i64) 3 w' w.heap.size (fun _ => True) v0_ r1 ∧ Below w.heap.size w w' := by
 have hu30 := Try.underlying30
 have HR0_2 := Aside0.mk hr0_2
 have HC0_2 := Aside0.mk hc0_2
 clear hr0_2 hc0_2
 have HB := Aside0.mk (Below.refl w.heap.size w)
 have H : ((spec_l2Good.f k a0_0 a0_1 l0_2).bind fun t116 => (if t116 = true then (if 6 ≤ 35184372088832 then (spec_CountColors.l0 k (List.replicate 6 0) 0 a0_0 a0_1 l0_2) else (none)) else (some ((([] : List Int)), false)))) = some (r1, r2) := h
 clear h
 replace H := Option.bind_eq_some_iff.mp H
 obtain ⟨t116, A20, H⟩ := H
 replace H : (if t116 = true then (if 6 ≤ 35184372088832 then (spec_CountColors.l0 k (List.replicate 6 0) 0 a0_0 a0_1 l0_2) else (none)) else (some ((([] : List Int)), false))) = some (r1, r2) := H
 have A2 := Aside0.mk A20
 clear A20
 by_cases c3 : t116 = true
 ·subst c3
  have H1 : (if 6 ≤ 35184372088832 then (spec_CountColors.l0 k (List.replicate 6 0) 0 a0_0 a0_1 l0_2) else (none)) = some (r1, r2) := by rw [if_pos rfl] at H; exact H
  clear H
  have H := H1
  clear H1
  by_cases c4 : 6 ≤ 35184372088832
  ·rw [if_pos c4] at H
   have c4b0 := eq_true c4
   have c4b1 : decide (6 ≤ 35184372088832) = true := decide_eq_true c4
   clear c4
   obtain ⟨y120, hy120⟩ : ∃ y_ : List Int, y_ = (List.replicate 6 0) := ⟨_, rfl⟩
   replace H : (spec_CountColors.l0 k y120 0 a0_0 a0_1 l0_2) = some (r1, r2) := by first | (rw [hy120]; with_reducible exact H) | (have H2_ := (Option.bind_some _ _).symm.trans H; rw [hy120]; with_reducible exact H2_) | (have H2_ := (Option.bind_some _ _).symm.trans H; with_reducible exact H2_) | with_reducible exact H | (rw [hy120]; exact H) | exact H
   have Ny120 := Aside0.mk hy120
   clear hy120
   have H' := Aside0.mk H
   clear H
   go_enter Try.func76, Try.ntmps76
   go_wp2_with (first | ((with_reducible refine gate_dst (N := 1) rfl ?_); refine bxE 1 #[.int .i64 a0_0, .int .i64 a0_1, .slice A0_2 l0_2.length c0_2] 30 ?_; intro gb115 hg w5 hbox hb; have BK115 := Aside0.mk (hbox); have GW115 := gwS hg Z1; have GE115 := gwS hg Z1; replace HB := hbS Z1 hb; clear hb hbox hg; obtain ⟨hcz6_0, hcz6_1, hcz6_2⟩ := bz3 BK115; obtain ⟨hfz6_0, hfz6_1, hfz6_2⟩ := fz3 BK115) | ((with_reducible refine gate_callee (f := 47) rfl ?_); refine glE (some 8) Try.func47 #[.agg #[.int .i64 a0_0, .int .i64 a0_1, .slice A0_2 l0_2.length c0_2]] ?_; (with_reducible refine (spec_l2Good.calls k a0_0 a0_1 _ _ l0_2 true _ ?side1 ?side2 A2.out).mono ?_); (case side1 => exact Z12); (case side2 => exact HC0_2.out); rintro e w7 ⟨rfl, hb⟩; refine ⟨_, rfl, ?_⟩; replace BK115 := bkB BK115 hb; replace HB := hbS Z44 hb; (try clear hb)) | ((with_reducible refine gate_dst (N := 11) rfl ?_); refine Kd.R_make (Kd.int .i64) _ 3 rfl (N := 11) rfl 22 _ _ rfl 6 rfl rfl Try.underlying22 (.int .i64 0) 8 info3 rfl (by decide) (by omega) 0 (ok := fun _ => True) (okp := fun _ => True) rfl (fun _ hk => hk) trivial (by omega) (by omega) (Below.refl _ _) (Nat.le_refl _) ?_; intro v121 w8 ho9 hb hg_ hnew_; clear hg_ hnew_; (first | rw [← Ny120.out] at ho9 | (simp only [Int.reduceToNat] at ho9; rw [← Ny120.out] at ho9)); have HO122 := Aside0.mk (Kd.R_lower ho9 (below_size Z44)); replace BK115 := bkB BK115 hb; replace HB := hbS Z44 hb; clear hb ho9))
   go_loopg [5] k (fun kq v5 w' => ∃ (x4_1 : List Int) (x5_1 : Int), v5 = .int .i64 x5_1 ∧ Aside0 (spec_CountColors.l0 kq x4_1 x5_1 a0_0 a0_1 l0_2 = some (r1, r2)) ∧ Aside0 (kq ≤ k) ∧ Aside0 (Kd.R (Kd.int .i64) 3 w' w.heap.size (fun _ => True) v121 x4_1) ∧ Aside0 (w'.heap[gb115]? = some (.cells #[.int .i64 a0_0, .int .i64 a0_1, (.slice A0_2 l0_2.length c0_2)] 30 (0, 0))) ∧ Aside0 (Below w.heap.size w w'))
   case atStart => exact ⟨(y120), (0), Z20, H', ⟨Nat.le_refl _⟩, ⟨by (with_reducible repeat (first | apply Kd.R_alloc | apply Kd.R_drewN | apply Kd.R_drew)); exact HO122.out⟩, ⟨Z130⟩, ⟨Z44⟩⟩
   case round =>
    clear H'
    try clear p2
    try clear c3
    try clear c4
    try clear c4b0
    try clear c4b1
    try clear c7
    try clear hcz6_0
    try clear hcz6_1
    try clear hcz6_2
    try clear hfz6_0
    try clear hfz6_1
    try clear hfz6_2
    obtain ⟨x4_1, x5_1, rfl, HA, HK1, HO_4, BK115, HB⟩ := hrel
    cases gk with
    | zero => exact absurd HA.out (by simp [spec_CountColors.l0])
    | succ k1 =>
     have H := HA.out
     clear HA
     simp only [spec_CountColors.l0] at H
     by_cases c10 : x5_1 < (l0_2.length : Int)
     ·rw [if_pos c10] at H
      have c10b0 : decide (x5_1 < (l0_2.length : Int)) = true := decide_eq_true c10
      clear c10
      by_cases c11 : 0 ≤ x5_1
      ·rw [if_pos c11] at H
       have c11b0 : decide (0 ≤ x5_1) = true := decide_eq_true c11
       clear c11
       by_cases c12 : 0 ≤ (rd l0_2 x5_1)
       ·rw [if_pos c12] at H
        have c12b0 : decide (0 ≤ (rd l0_2 x5_1)) = true := decide_eq_true c12
        clear c12
        by_cases c13 : (rd l0_2 x5_1) < (x4_1.length : Int)
        ·rw [if_pos c13] at H
         have c13b0 : decide ((rd l0_2 x5_1) < (x4_1.length : Int)) = true := decide_eq_true c13
         clear c13
         obtain ⟨y125, hy125⟩ : ∃ y_ : List Int, y_ = (x4_1.set ((rd l0_2 x5_1) : Int).toNat (wrap64 ((rd x4_1 (rd l0_2 x5_1)) + 1))) := ⟨_, rfl⟩
         replace H : (spec_CountColors.l0 k1 y125 (wrap64 (x5_1 + 1)) a0_0 a0_1 l0_2) = some (r1, r2) := by first | (rw [hy125]; with_reducible exact H) | (have H2_ := (Option.bind_some _ _).symm.trans H; rw [hy125]; with_reducible exact H2_) | (have H2_ := (Option.bind_some _ _).symm.trans H; with_reducible exact H2_) | with_reducible exact H | (rw [hy125]; exact H) | exact H
         have Ny125 := Aside0.mk hy125
         clear hy125
         have H' := Aside0.mk H
         clear H
         obtain ⟨hcz15_0, hcz15_1, hcz15_2⟩ := bz3 BK115
         obtain ⟨hfz15_0, hfz15_1, hfz15_2⟩ := fz3 BK115
         have p123 : 0 ≤ (x5_1 : Int) := of_decide_eq_true Z19
         have q123 : x5_1 < (l0_2.length : Int) := of_decide_eq_true Z19
         obtain ⟨ad123, e123, hx123_0⟩ := Kd.at_int HR0_2.out x5_1 p123 q123
         cases e123
         replace hx123_0 := (HB.out.cell (World.block_lt_of_cell? w _ hx123_0)).trans hx123_0
         replace p123 := eq_true p123
         replace q123 := eq_true q123
         obtain ⟨Ao16, co16, eo16⟩ := Kd.R_slice HO_4.out
         subst eo16
         have p124 : 0 ≤ ((rd l0_2 x5_1) : Int) := of_decide_eq_true Z19
         have q124 : (rd l0_2 x5_1) < (x4_1.length : Int) := of_decide_eq_true Z19
         obtain ⟨ad124, e124, hx124_0⟩ := Kd.at_int (Kd.R_reads' HO_4.out).2.2 (rd l0_2 x5_1) p124 q124
         cases e124
         replace p124 := eq_true p124
         replace q124 := eq_true q124
         have p14 : 0 ≤ ((rd l0_2 x5_1) : Int) := of_decide_eq_true Z19
         have q14 : ((rd l0_2 x5_1) : Int) < ((x4_1.length : Int) : Int) := of_decide_eq_true Z19
         obtain ⟨go14, co14, eo14, gb14, gl14, cl14, HG14⟩ := Kd.R_form HO_4.out (by omega)
         (first | cases eo14 | (injection eo14 with ea_ en_ ec_; (first | subst ea_ | (injection ea_ with ea_; subst ea_)); subst ec_; clear en_))
         have GB14 := Aside0.mk gb14
         have GG14 := Aside0.mk HG14
         clear gb14 gl14 HG14
         (first | simp only [add_plain] at hx124_0 | skip)
         obtain ⟨hx14_0, hf14_0⟩ := Kd.R_celln 0 HO_4.out ((rd l0_2 x5_1) : Int) p14 q14
         replace p14 := eq_true p14
         replace q14 := eq_true q14
         have HP17 := Kd.R_putg HO_4.out ((rd l0_2 x5_1) : Int) (wrap64 ((rd x4_1 (rd l0_2 x5_1)) + 1))
         go_wp2_with (first | ((with_reducible refine gate_store (t := 3) (p := 31) rfl ?_); refine store_event (t := 3) (p := 31) (v := ?vo_w18) (w1 := (wr.setCell ⟨go14, ((rd l0_2 x5_1) : Int).toNat, none⟩ (.int .i64 (wrap64 ((rd x4_1 (rd l0_2 x5_1)) + 1))))) ?hg ?ho ?hn ?hr ?_; (case ho => rfl); (case hg => rfl); (case hn => rfl); (case hr => first | (go_simp; done) | (go_simp; rfl)); intro w18 hw; have hg : wr.grownBy w18 (some go14) := (by rw [hw]; exact HP17.2); have hp_ : Kd.R (Kd.int .i64) 3 w18 w.heap.size (fun _ => True) (.slice (some ⟨go14, 0, none⟩) x4_1.length co16) y125 := (by rw [hw, Ny125.out]; exact HP17.1); clear HP17; replace BK115 := Aside0.mk (blk_grown (g := gb115) (o := .cells #[.int .i64 a0_0, .int .i64 a0_1, .slice (some ad123) l0_2.length c0_2] 30 (0, 0)) Z130 hg (Kd.R_ne HO_4.out BK115.out (by decide))); replace HO_4 := Aside0.mk (hp_); replace HB := Aside0.mk ((by rw [hw]; exact below_set (HB.out) GB14.out : Below w.heap.size w w18)); clear hg hw hp_))
         go_roundg k1
         case measure => have := HK1.out; omega
         case rel => exact ⟨(y125), (wrap64 (x5_1 + 1)), Z20, H', ⟨Z126⟩, ⟨Z121⟩, ⟨Z130⟩, ⟨Z44⟩⟩
        ·rw [if_neg c13] at H
         exact absurd H (by simp)
       ·rw [if_neg c12] at H
        exact absurd H (by simp)
      ·rw [if_neg c11] at H
       exact absurd H (by simp)
     ·rw [if_neg c10] at H
      have c10b0 : decide (x5_1 < (l0_2.length : Int)) = false := decide_eq_false c10
      clear c10
      simp only [Option.some.injEq, Prod.mk.injEq] at H
      obtain ⟨rfl, rfl⟩ := H
      obtain ⟨hcz19_0, hcz19_1, hcz19_2⟩ := bz3 BK115
      obtain ⟨hfz19_0, hfz19_1, hfz19_2⟩ := fz3 BK115
      go_wp2
      go_ret2
      exact ⟨_, Z11, Z121, Z44⟩
  ·rw [if_neg c4] at H
   exact absurd H (by simp)
 ·replace c3 := Bool.eq_false_iff.mpr c3
  subst c3
  have H1 : (some ((([] : List Int)), false)) = some (r1, r2) := by rw [if_neg (show ¬ (false = true) by decide)] at H; exact H
  clear H
  have H := H1
  clear H1
  obtain ⟨y117, hy117⟩ : ∃ y_ : List Int, y_ = (([] : List Int)) := ⟨_, rfl⟩
  replace H : (some (y117, false)) = some (r1, r2) := by first | (rw [hy117]; with_reducible exact H) | (have H2_ := (Option.bind_some _ _).symm.trans H; rw [hy117]; with_reducible exact H2_) | (have H2_ := (Option.bind_some _ _).symm.trans H; with_reducible exact H2_) | with_reducible exact H | (rw [hy117]; exact H) | exact H
  have Ny117 := Aside0.mk hy117
  clear hy117
  simp only [Option.some.injEq, Prod.mk.injEq] at H
  obtain ⟨rfl, rfl⟩ := H
  go_enter Try.func76, Try.ntmps76
  go_wp2_with (first | ((with_reducible refine gate_dst (N := 1) rfl ?_); refine bxE 1 #[.int .i64 a0_0, .int .i64 a0_1, .slice A0_2 l0_2.length c0_2] 30 ?_; intro gb115 hg w20 hbox hb; have BK115 := Aside0.mk (hbox); have GW115 := gwS hg Z1; have GE115 := gwS hg Z1; replace HB := hbS Z1 hb; clear hb hbox hg; obtain ⟨hcz21_0, hcz21_1, hcz21_2⟩ := bz3 BK115; obtain ⟨hfz21_0, hfz21_1, hfz21_2⟩ := fz3 BK115) | ((with_reducible refine gate_callee (f := 47) rfl ?_); refine glE (some 8) Try.func47 #[.agg #[.int .i64 a0_0, .int .i64 a0_1, .slice A0_2 l0_2.length c0_2]] ?_; (with_reducible refine (spec_l2Good.calls k a0_0 a0_1 _ _ l0_2 false _ ?side1 ?side2 A2.out).mono ?_); (case side1 => exact Z12); (case side2 => exact HC0_2.out); rintro e w22 ⟨rfl, hb⟩; refine ⟨_, rfl, ?_⟩; replace BK115 := bkB BK115 hb; replace HB := hbS Z44 hb; (try clear hb)) | ((with_reducible refine gate_dst (N := 10) rfl ?_); refine Kd.R_lit (Kd.int .i64) _ 3 ?hg (N := 10) ?hd (xs := ([] : List Int)) (inner := []) (ok := fun _ => True) (okp := fun _ => True) ?hr ?hp (fun _ hk => hk) trivial (Below.refl _ _) (Nat.le_refl _) (by simp) ?_; (case hd => rfl); (case hg => rfl); (case hr => first | (go_simp; done) | (go_simp; rfl)); (case hp => exact (Reps.none _ _)); intro v118 w23 ho24 hb hg_ hnew_; clear hg_ hnew_; (first | rw [← Ny117.out] at ho24 | (simp only [Int.reduceToNat] at ho24; rw [← Ny117.out] at ho24)); have HO119 := Aside0.mk (Kd.R_lower ho24 (below_size Z44)); replace BK115 := bkB BK115 hb; replace HB := hbS Z44 hb; clear hb ho24))
  go_ret2
  exact ⟨_, Z11, by (with_reducible repeat (first | apply Kd.R_alloc | apply Kd.R_drewN | apply Kd.R_drew)); exact HO119.out, Z44⟩
def spec_l10Counts.f (k : Nat) (a0_0 : Int) (a0_1 : Int) (l0_2 : List Int) : Option (List Int) := (spec_CountColors.f k a0_0 a0_1 l0_2).bind fun bt127 => (some bt127.1)
theorem spec_l10Counts.calls (k : Nat) (a0_0 : Int) (a0_1 : Int) (A0_2 : Option Addr) (c0_2 : Nat) (l0_2 : List Int) (r : List Int) (w : World) (hr0_2 : Kd.C (Kd.int .i64) w A0_2 l0_2.length l0_2) (hc0_2 : l0_2.length ≤ c0_2) (h : spec_l10Counts.f k a0_0 a0_1 l0_2 = some r) :
  Calls Try.prog 49 #[.agg #[.int .i64 a0_0, .int .i64 a0_1, .slice A0_2 l0_2.length c0_2]] w fun e w' => ∃ v0_ : Value, e = .returned (v0_) ∧ Kd.R (Kd.int .i64) 3 w' w.heap.size (fun _ => True) v0_ r ∧ Below w.heap.size w w' := by
 have hu30 := Try.underlying30
 have HR0_2 := Aside0.mk hr0_2
 have HC0_2 := Aside0.mk hc0_2
 clear hr0_2 hc0_2
 have HB := Aside0.mk (Below.refl w.heap.size w)
 have H : ((spec_CountColors.f k a0_0 a0_1 l0_2).bind fun bt127 => (some bt127.1)) = some r := h
 clear h
 replace H := Option.bind_eq_some_iff.mp H
 obtain ⟨⟨t127, t130⟩, A20, H⟩ := H
 replace H : (some t127) = some r := H
 have A2 := Aside0.mk A20
 clear A20
 obtain rfl := Option.some.inj H
 go_enter Try.func49, Try.ntmps49
 go_wp2_with (first | ((with_reducible refine gate_dst (N := 1) rfl ?_); refine bxE 1 #[.int .i64 a0_0, .int .i64 a0_1, .slice A0_2 l0_2.length c0_2] 30 ?_; intro gb126 hg w3 hbox hb; have BK126 := Aside0.mk (hbox); have GW126 := gwS hg Z1; have GE126 := gwS hg Z1; replace HB := hbS Z1 hb; clear hb hbox hg; obtain ⟨hcz4_0, hcz4_1, hcz4_2⟩ := bz3 BK126; obtain ⟨hfz4_0, hfz4_1, hfz4_2⟩ := fz3 BK126) | ((with_reducible refine gate_callee (f := 76) rfl ?_); refine glE (some 7) Try.func76 #[.agg #[.int .i64 a0_0, .int .i64 a0_1, .slice A0_2 l0_2.length c0_2]] ?_; (with_reducible refine (spec_CountColors.calls k a0_0 a0_1 _ _ l0_2 t127 t130 _ ?side1 ?side2 A2.out).mono ?_); (case side1 => exact Z12); (case side2 => exact HC0_2.out); rintro e w5 ⟨v128, rfl, ho0, hb⟩; refine ⟨_, rfl, ?_⟩; have HO129 := Aside0.mk (Kd.R_lower ho0 (below_size Z108)); replace BK126 := bkB BK126 hb; replace HB := hbS Z108 hb; (try clear hb); (try clear ho0)))
 go_ret
 exact ⟨_, Z11, by (with_reducible repeat (first | apply Kd.R_alloc | apply Kd.R_drewN | apply Kd.R_drew)); exact HO129.out, Z108⟩
def impl_in.f (a0 : Int) (a1 : Int) (a2 : Int) : Option (Bool) := if a0 ≥ a1 then (some (decide (a0 ≤ a2))) else (some false)
theorem impl_in.calls (a0 : Int) (a1 : Int) (a2 : Int) (r : Bool) (w : World) (h : impl_in.f a0 a1 a2 = some r) :
  Calls Try.prog 66 #[.int .i64 a0, .int .i64 a1, .int .i64 a2] w fun e w' => e = .returned (.bool r) ∧ Drawn0 w w' := by
 have H : (if a0 ≥ a1 then (some (decide (a0 ≤ a2))) else (some false)) = some r := h
 clear h
 by_cases c4 : a0 ≥ a1
 ·rw [if_pos c4] at H
  have c4b0 : decide (a1 ≤ a0) = true := decide_eq_true c4
  clear c4
  obtain rfl := Option.some.inj H
  go_enter Try.func66, Try.ntmps66
  go_wp2
  go_ret
  exact ⟨Z20, Z42⟩
 ·rw [if_neg c4] at H
  have c4b0 : decide (a1 ≤ a0) = false := decide_eq_false c4
  clear c4
  obtain rfl := Option.some.inj H
  go_enter Try.func66, Try.ntmps66
  go_wp2
  go_ret
  exact ⟨Z20, Z42⟩
theorem impl_in.eq (a b c : Int) : impl_in.f a b c = some (rng a b c) := by
 unfold impl_in.f rng; by_cases h : b ≤ a <;> simp [h]
def impl_isColor.f (a0 : Int) : Option (Bool) := (impl_in.f a0 0 5).bind fun t166 => (some t166)
theorem impl_isColor.calls (a0 : Int) (r : Bool) (w : World) (h : impl_isColor.f a0 = some r) :
  Calls Try.prog 62 #[.int .i64 a0] w fun e w' => e = .returned (.bool r) ∧ Drawn0 w w' := by
 have H : ((impl_in.f a0 0 5).bind fun t166 => (some t166)) = some r := h
 clear h
 replace H := Option.bind_eq_some_iff.mp H
 obtain ⟨t166, A20, H⟩ := H
 replace H : (some t166) = some r := H
 have A2 := Aside0.mk A20
 clear A20
 obtain rfl := Option.some.inj H
 go_enter Try.func62, Try.ntmps62
 go_wp2_with (first | ((with_reducible refine gate_callee (f := 66) rfl ?_); refine glE (some 4) Try.func66 #[.int .i64 a0, .int .i64 0, .int .i64 5] ?_; (with_reducible refine (impl_in.calls a0 0 5 t166 _ A2.out).mono ?_); rintro e w' ⟨rfl, ⟨nd, rfl⟩⟩; refine ⟨_, rfl, ?_⟩))
 go_ret
 exact ⟨Z20, Z42⟩
def impl_isSide.f (a0 : Int) : Option (Bool) := (impl_in.f a0 1 8).bind fun t167 => (some t167)
theorem impl_isSide.calls (a0 : Int) (r : Bool) (w : World) (h : impl_isSide.f a0 = some r) :
  Calls Try.prog 77 #[.int .i64 a0] w fun e w' => e = .returned (.bool r) ∧ Drawn0 w w' := by
 have H : ((impl_in.f a0 1 8).bind fun t167 => (some t167)) = some r := h
 clear h
 replace H := Option.bind_eq_some_iff.mp H
 obtain ⟨t167, A20, H⟩ := H
 replace H : (some t167) = some r := H
 have A2 := Aside0.mk A20
 clear A20
 obtain rfl := Option.some.inj H
 go_enter Try.func77, Try.ntmps77
 go_wp2_with (first | ((with_reducible refine gate_callee (f := 66) rfl ?_); refine glE (some 4) Try.func66 #[.int .i64 a0, .int .i64 1, .int .i64 8] ?_; (with_reducible refine (impl_in.calls a0 1 8 t167 _ A2.out).mono ?_); rintro e w' ⟨rfl, ⟨nd, rfl⟩⟩; refine ⟨_, rfl, ?_⟩))
 go_ret
 exact ⟨Z20, Z42⟩
set_option maxHeartbeats 4000000 in
theorem IndexFunc_int (p : Int → Bool) (g : Nat) (lb : Array Value) (A : Option Addr) (c : Nat) (xs : List Int) (w : World)
  (eg : ∀ args w, (callFunc g args).run Try.prog w = .ok (.enter g args) w) (hr : Kd.C (Kd.int .i64) w A xs.length xs)
  (hp : ∀ (W : World) (x : Int), Below w.heap.size w W → Calls Try.prog g (#[.int .i64 x] ++ lb) W fun e w' => e = .returned (.bool (p x)) ∧ Below W.heap.size W w') :
  Calls Try.prog 90 #[.slice A xs.length c, .func (.func g) #[] lb] w fun e w' => e = .returned (.int .i64 (findI p xs)) ∧ Below w.heap.size w w' := by
 have hlen := Aside0.mk hr.2.1
 have HR := Aside0.mk hr
 have HP := Aside0.mk hp
 clear hr hp
 go_enter Try.func90, Try.ntmps90
 go_wp2
 go_loopg [5, 8] xs.length (fun gg _ s8 wr => ∃ x : Int, s8 = .int .i64 x ∧ Aside0 (0 ≤ x ∧ x ≤ (xs.length : Int) ∧ (xs.length : Int) - x ≤ gg) ∧ Aside0 (Below w.heap.size w wr) ∧ Aside0 (∀ j : Nat, (j : Int) < x → p (xs.getD j 0) = false))
 case atStart => exact ⟨0, rfl, ⟨by omega, by omega, by omega⟩, ⟨Below.refl _ _⟩, ⟨fun j hj => absurd hj (by omega)⟩⟩
 case round =>
  obtain ⟨x, rfl, HX, BW, HA⟩ := hrel
  by_cases hlt : x < (xs.length : Int)
  ·have c0 : decide (x < (xs.length : Int)) = true := decide_eq_true hlt
   obtain ⟨ad, e0, hx0⟩ := Kd.at_int (Kd.C_below HR.out BW.out) x HX.out.1 hlt
   cases e0
   have c1 : decide (0 ≤ x) = true := decide_eq_true HX.out.1
   have p0 := eq_true HX.out.1
   have p1 := eq_true hlt
   have HL := Aside0.mk hlt
   clear hlt
   have hcall := HP.out _ (rd xs x) BW.out
   have hget : Aside0 (xs.getD x.toNat 0 = (rd xs x)) := ⟨rfl⟩
   cases hq : p (rd xs x) with
   | true =>
    rw [hq] at hcall
    have HQ := Aside0.mk hq
    have HC := Aside0.mk hcall
    clear hq hcall
    go_wp2_with fail
    refine HC.out.mono ?_
    rintro e w' ⟨rfl, hb'⟩
    have HB := Aside0.mk (below_step BW.out hb')
    clear hb'
    go_wp2
    go_ret
    refine ⟨?_, HB.out⟩
    rw [findI_hit p 0 xs x.toNat (by have := HX.out; have := HL.out; omega) (fun j hj => HA.out j (by have := HX.out; omega)) (by rw [hget.out]; exact HQ.out)]
    rw [Int.toNat_of_nonneg HX.out.1]
    rfl
   | false =>
    rw [hq] at hcall
    have HQ := Aside0.mk hq
    have HC := Aside0.mk hcall
    clear hq hcall
    go_wp2_with fail
    refine HC.out.mono ?_
    rintro e w' ⟨rfl, hb'⟩
    have HB := Aside0.mk (below_step BW.out hb')
    clear hb'
    go_wp2
    have hw1 : wrap64 (x + 1) = x + 1 := by have := HX.out; have := HL.out; have := hlen.out; unfold wrap64; omega
    go_roundg (xs.length - (x.toNat + 1))
    case measure => have := HX.out; have := HL.out; omega
    case rel =>
     refine ⟨x + 1, by first | rfl | rw [hw1] | simp [hw1], ⟨by have := HX.out; omega, by have := HL.out; omega, by have := HX.out; have := HL.out; omega⟩, HB, ⟨fun j hj => ?_⟩⟩
     by_cases e : (j : Int) < x
     ·exact HA.out j e
     ·have hj' : j = x.toNat := by have := HX.out; omega
      subst hj'
      rw [hget.out]
      exact HQ.out
  ·have c0 : decide (x < (xs.length : Int)) = false := decide_eq_false hlt
   have HL := Aside0.mk hlt
   clear hlt
   go_wp2
   go_ret
   refine ⟨?_, BW.out⟩
   rw [findI_miss p 0 xs (fun j hj => HA.out j (by have := HL.out; omega))]
   rfl
set_option maxHeartbeats 4000000 in
theorem ContainsFunc_int (p : Int → Bool) (g : Nat) (lb : Array Value) (A : Option Addr) (c : Nat) (xs : List Int) (w : World)
  (eg : ∀ args w, (callFunc g args).run Try.prog w = .ok (.enter g args) w) (hr : Kd.C (Kd.int .i64) w A xs.length xs)
  (hp : ∀ (W : World) (x : Int), Below w.heap.size w W → Calls Try.prog g (#[.int .i64 x] ++ lb) W fun e w' => e = .returned (.bool (p x)) ∧ Below W.heap.size W w') :
  Calls Try.prog 86 #[.slice A xs.length c, .func (.func g) #[] lb] w fun e w' => e = .returned (.bool (xs.any p)) ∧ Below w.heap.size w w' := by
 have HC := Aside0.mk (IndexFunc_int p g lb A c xs w eg hr hp)
 clear hr hp eg
 rw [← findI_any]
 go_enter Try.func86, Try.ntmps86
 go_wp2_with fail
 refine HC.out.mono ?_
 rintro e w' ⟨rfl, hb'⟩
 go_wp2
 go_ret
 exact ⟨Z174, hb'⟩
set_option maxHeartbeats 4000000 in
theorem areAll_int_1 (p : Int → Bool) (g : Nat) (lb : Array Value) (b : Nat) (x : Int) (W : World)
  (eg : ∀ args w, (callFunc g args).run Try.prog w = .ok (.enter g args) w) (hc : W.cell? ⟨b, 0, none⟩ = some (.func (.func g) #[] lb))
  (hp : ∀ W1, Below W.heap.size W W1 → Calls Try.prog g (#[.int .i64 x] ++ lb) W1 fun e w' => e = .returned (.bool (p x)) ∧ Below W1.heap.size W1 w') (hb : b < W.heap.size) :
  Calls Try.prog 87 #[.int .i64 x, .pointer (some ⟨b, 0, none⟩)] W fun e w' => e = .returned (.bool (!p x)) ∧ Below W.heap.size W w' := by
 have HP := Aside0.mk hp
 clear hp
 go_enter Try.func87, Try.ntmps87
 go_wp2_with fail
 refine (HP.out _ (Below.refl _ _)).mono ?_
 rintro e w' ⟨rfl, hb'⟩
 go_wp2
 go_ret
 exact ⟨Z174, hb'⟩
set_option maxHeartbeats 4000000 in
theorem areAll_int (p : Int → Bool) (g : Nat) (lb : Array Value) (A : Option Addr) (c : Nat) (xs : List Int) (w : World)
  (eg : ∀ args w, (callFunc g args).run Try.prog w = .ok (.enter g args) w) (hr : Kd.C (Kd.int .i64) w A xs.length xs)
  (hp : ∀ (W : World) (x : Int), Below w.heap.size w W → Calls Try.prog g (#[.int .i64 x] ++ lb) W fun e w' => e = .returned (.bool (p x)) ∧ Below W.heap.size W w') :
  Calls Try.prog 78 #[.slice A xs.length c, .func (.func g) #[] lb] w fun e w' => e = .returned (.bool (xs.all p)) ∧ Below w.heap.size w w' := by
 have hmf : ∀ (fn : Fn) (first cap : Array Value) (w : World), (Instr.makeFunc fn first cap).run Try.prog w = .ok (.func fn first cap) w := fun _ _ _ _ => rfl
 have hB1 : Below w.heap.size w (w.alloc (.cells #[.func (.func g) #[] lb] 71)) := below_alloc (Below.refl _ _) _
 have hc1 : (w.alloc (.cells #[.func (.func g) #[] lb] 71)).cell? ⟨w.heap.size, 0, none⟩ = some (.func (.func g) #[] lb) := by simp
 have hsz : w.heap.size < (w.alloc (.cells #[.func (.func g) #[] lb] 71)).heap.size := by simp
 have HC := Aside0.mk (ContainsFunc_int (fun x => !p x) 87 #[.pointer (some ⟨w.heap.size, 0, none⟩)] A c xs (w.alloc (.cells #[.func (.func g) #[] lb] 71)) (enters_of Try.func87 Z58 rfl) (Kd.C_below hr hB1)
  (fun W x hW => areAll_int_1 p g lb w.heap.size x W eg ((hW.cell (p := ⟨w.heap.size, 0, none⟩) hsz).trans hc1) (fun W1 h1 => hp W1 x ((hB1.trans (hW.mono hB1.size)).trans (h1.mono (Nat.le_trans hB1.size hW.size)))) (Nat.lt_of_lt_of_le hsz hW.size)))
 have HB := Aside0.mk hB1
 rw [← any_not]
 clear hB1 hc1 hsz hp hr eg
 go_enter Try.func78, Try.ntmps78
 go_wp2_with fail
 refine HC.out.mono ?_
 rintro e w' ⟨rfl, hb'⟩
 go_wp2
 go_ret
 exact ⟨Z174, below_step HB.out hb'⟩
theorem impl_isColor.tot : ∀ x : Int, impl_isColor.f x = some ((fun x : Int => rng x 0 5) x) := fun x => by unfold impl_isColor.f; rw [impl_in.eq]; rfl
def areAll_impl_isColor.f (l0 : List Int) : Option Bool := some (l0.all (fun x : Int => rng x 0 5))
theorem areAll_impl_isColor.calls (A0 : Option Addr) (c0 : Nat) (l0 : List Int) (r : Bool) (w : World) (hr0 : Kd.C (Kd.int .i64) w A0 l0.length l0) (hc0 : l0.length ≤ c0) (h : areAll_impl_isColor.f l0 = some r) :
  Calls Try.prog 78 #[.slice A0 l0.length c0, .func (.func 62) #[] #[]] w fun e w' => e = .returned (.bool r) ∧ Below w.heap.size w w' := by
 have hr1 := Option.some.inj h
 subst hr1
 exact areAll_int (fun x : Int => rng x 0 5) 62 #[] A0 c0 l0 w (enters_of Try.func62 Z58 rfl) hr0 (fun W x _ => (impl_isColor.calls x _ W (impl_isColor.tot x)).mono fun e w' ⟨he, hd⟩ => ⟨he, by first | exact hd | exact hd.below⟩)
def impl_IsChart.f (a0_0 : Int) (a0_1 : Int) (l0_2 : List Int) : Option (Bool) := (impl_isSide.f a0_0).bind fun t169 => (if t169 = true then ((impl_isSide.f a0_1).bind fun t170 => (if t170 = true then (if (l0_2.length : Int) = (wrap64 (a0_0 * a0_1)) then ((areAll_impl_isColor.f l0_2).bind fun t171 => (some t171)) else (some false)) else (some false))) else (some false))
theorem impl_IsChart.calls (a0_0 : Int) (a0_1 : Int) (A0_2 : Option Addr) (c0_2 : Nat) (l0_2 : List Int) (r : Bool) (w : World) (hr0_2 : Kd.C (Kd.int .i64) w A0_2 l0_2.length l0_2) (hc0_2 : l0_2.length ≤ c0_2) (h : impl_IsChart.f a0_0 a0_1 l0_2 = some r) :
  Calls Try.prog 51 #[.agg #[.int .i64 a0_0, .int .i64 a0_1, .slice A0_2 l0_2.length c0_2]] w fun e w' => e = .returned (.bool r) ∧ Below w.heap.size w w' := by
 have hu30 := Try.underlying30
 have HR0_2 := Aside0.mk hr0_2
 have HC0_2 := Aside0.mk hc0_2
 clear hr0_2 hc0_2
 have HB := Aside0.mk (Below.refl w.heap.size w)
 have H : ((impl_isSide.f a0_0).bind fun t169 => (if t169 = true then ((impl_isSide.f a0_1).bind fun t170 => (if t170 = true then (if (l0_2.length : Int) = (wrap64 (a0_0 * a0_1)) then ((areAll_impl_isColor.f l0_2).bind fun t171 => (some t171)) else (some false)) else (some false))) else (some false))) = some r := h
 clear h
 replace H := Option.bind_eq_some_iff.mp H
 obtain ⟨t169, A20, H⟩ := H
 replace H : (if t169 = true then ((impl_isSide.f a0_1).bind fun t170 => (if t170 = true then (if (l0_2.length : Int) = (wrap64 (a0_0 * a0_1)) then ((areAll_impl_isColor.f l0_2).bind fun t171 => (some t171)) else (some false)) else (some false))) else (some false)) = some r := H
 have A2 := Aside0.mk A20
 clear A20
 by_cases c3 : t169 = true
 ·subst c3
  have H1 : ((impl_isSide.f a0_1).bind fun t170 => (if t170 = true then (if (l0_2.length : Int) = (wrap64 (a0_0 * a0_1)) then ((areAll_impl_isColor.f l0_2).bind fun t171 => (some t171)) else (some false)) else (some false))) = some r := by rw [if_pos rfl] at H; exact H
  clear H
  have H := H1
  clear H1
  replace H := Option.bind_eq_some_iff.mp H
  obtain ⟨t170, A40, H⟩ := H
  replace H : (if t170 = true then (if (l0_2.length : Int) = (wrap64 (a0_0 * a0_1)) then ((areAll_impl_isColor.f l0_2).bind fun t171 => (some t171)) else (some false)) else (some false)) = some r := H
  have A4 := Aside0.mk A40
  clear A40
  by_cases c5 : t170 = true
  ·subst c5
   have H1 : (if (l0_2.length : Int) = (wrap64 (a0_0 * a0_1)) then ((areAll_impl_isColor.f l0_2).bind fun t171 => (some t171)) else (some false)) = some r := by rw [if_pos rfl] at H; exact H
   clear H
   have H := H1
   clear H1
   by_cases c6 : (l0_2.length : Int) = (wrap64 (a0_0 * a0_1))
   ·rw [if_pos c6] at H
    have c6b0 : ((l0_2.length : Int) == (wrap64 (a0_0 * a0_1))) = true := beq_iff_eq.mpr c6
    have c6b1 : ((l0_2.length : Int) != (wrap64 (a0_0 * a0_1))) = false := bne_eq_false_iff_eq.mpr c6
    clear c6
    replace H := Option.bind_eq_some_iff.mp H
    obtain ⟨t171, A70, H⟩ := H
    replace H : (some t171) = some r := H
    have A7 := Aside0.mk A70
    clear A70
    obtain rfl := Option.some.inj H
    go_enter Try.func51, Try.ntmps51
    go_wp2_with (first | ((with_reducible refine gate_dst (N := 1) rfl ?_); (try (refine gate_guard (by rfl) ?_; dsimp only)); refine bxE 1 #[.int .i64 a0_0, .int .i64 a0_1, .slice A0_2 l0_2.length c0_2] 30 ?_; intro gb168 hg w8 hbox hb; have BK168 := Aside0.mk (hbox); have GW168 := gwS hg Z1; have GE168 := gwS hg Z1; replace HB := hbS Z1 hb; clear hb hbox hg; obtain ⟨hcz9_0, hcz9_1, hcz9_2⟩ := bz3 BK168; obtain ⟨hfz9_0, hfz9_1, hfz9_2⟩ := fz3 BK168) | ((with_reducible refine gate_callee (f := 77) rfl ?_); refine glE (some 5) Try.func77 #[.int .i64 a0_0] ?_; (with_reducible refine (impl_isSide.calls a0_0 true _ A2.out).mono ?_); rintro e w' ⟨rfl, ⟨nd, rfl⟩⟩; refine ⟨_, rfl, ?_⟩) | (go_at_call 77; (with_reducible refine (impl_isSide.calls a0_1 true _ A4.out).mono ?_); rintro e w' ⟨rfl, ⟨nd, rfl⟩⟩) | (go_at_call 78; (with_reducible refine (areAll_impl_isColor.calls _ _ l0_2 t171 _ ?side1 ?side2 A7.out).mono ?_); (case side1 => repeat (first | exact (Kd.C_below HR0_2.out Z64) | (with_reducible refine Kd.C_alloc ?_ _) | (with_reducible refine Kd.C_drewN ?_ _) | (with_reducible refine Kd.C_drew ?_))); (case side2 => exact HC0_2.out); rintro e w10 ⟨rfl, hb⟩; replace BK168 := bkB BK168 hb; replace HB := hbS Z64 hb; (try clear hb)))
    go_ret
    exact ⟨Z11, Z64⟩
   ·rw [if_neg c6] at H
    have c6b0 : ((l0_2.length : Int) == (wrap64 (a0_0 * a0_1))) = false := beq_eq_false_iff_ne.mpr c6
    have c6b1 : ((l0_2.length : Int) != (wrap64 (a0_0 * a0_1))) = true := bne_iff_ne.mpr c6
    obtain rfl := Option.some.inj H
    go_enter Try.func51, Try.ntmps51
    go_wp2_with (first | ((with_reducible refine gate_dst (N := 1) rfl ?_); (try (refine gate_guard (by rfl) ?_; dsimp only)); refine bxE 1 #[.int .i64 a0_0, .int .i64 a0_1, .slice A0_2 l0_2.length c0_2] 30 ?_; intro gb168 hg w11 hbox hb; have BK168 := Aside0.mk (hbox); have GW168 := gwS hg Z1; have GE168 := gwS hg Z1; replace HB := hbS Z1 hb; clear hb hbox hg; obtain ⟨hcz12_0, hcz12_1, hcz12_2⟩ := bz3 BK168; obtain ⟨hfz12_0, hfz12_1, hfz12_2⟩ := fz3 BK168) | ((with_reducible refine gate_callee (f := 77) rfl ?_); refine glE (some 5) Try.func77 #[.int .i64 a0_0] ?_; (with_reducible refine (impl_isSide.calls a0_0 true _ A2.out).mono ?_); rintro e w' ⟨rfl, ⟨nd, rfl⟩⟩; refine ⟨_, rfl, ?_⟩) | (go_at_call 77; (with_reducible refine (impl_isSide.calls a0_1 true _ A4.out).mono ?_); rintro e w' ⟨rfl, ⟨nd, rfl⟩⟩))
    go_ret
    exact ⟨Z11, Z64⟩
  ·replace c5 := Bool.eq_false_iff.mpr c5
   subst c5
   have H1 : (some false) = some r := by rw [if_neg (show ¬ (false = true) by decide)] at H; exact H
   clear H
   have H := H1
   clear H1
   obtain rfl := Option.some.inj H
   go_enter Try.func51, Try.ntmps51
   go_wp2_with (first | ((with_reducible refine gate_dst (N := 1) rfl ?_); (try (refine gate_guard (by rfl) ?_; dsimp only)); refine bxE 1 #[.int .i64 a0_0, .int .i64 a0_1, .slice A0_2 l0_2.length c0_2] 30 ?_; intro gb168 hg w13 hbox hb; have BK168 := Aside0.mk (hbox); have GW168 := gwS hg Z1; have GE168 := gwS hg Z1; replace HB := hbS Z1 hb; clear hb hbox hg; obtain ⟨hcz14_0, hcz14_1, hcz14_2⟩ := bz3 BK168; obtain ⟨hfz14_0, hfz14_1, hfz14_2⟩ := fz3 BK168) | ((with_reducible refine gate_callee (f := 77) rfl ?_); refine glE (some 5) Try.func77 #[.int .i64 a0_0] ?_; (with_reducible refine (impl_isSide.calls a0_0 true _ A2.out).mono ?_); rintro e w' ⟨rfl, ⟨nd, rfl⟩⟩; refine ⟨_, rfl, ?_⟩) | (go_at_call 77; (with_reducible refine (impl_isSide.calls a0_1 false _ A4.out).mono ?_); rintro e w' ⟨rfl, ⟨nd, rfl⟩⟩))
   go_ret
   exact ⟨Z11, Z64⟩
 ·replace c3 := Bool.eq_false_iff.mpr c3
  subst c3
  have H1 : (some false) = some r := by rw [if_neg (show ¬ (false = true) by decide)] at H; exact H
  clear H
  have H := H1
  clear H1
  obtain rfl := Option.some.inj H
  go_enter Try.func51, Try.ntmps51
  go_wp2_with (first | ((with_reducible refine gate_dst (N := 1) rfl ?_); (try (refine gate_guard (by rfl) ?_; dsimp only)); refine bxE 1 #[.int .i64 a0_0, .int .i64 a0_1, .slice A0_2 l0_2.length c0_2] 30 ?_; intro gb168 hg w15 hbox hb; have BK168 := Aside0.mk (hbox); have GW168 := gwS hg Z1; have GE168 := gwS hg Z1; replace HB := hbS Z1 hb; clear hb hbox hg; obtain ⟨hcz16_0, hcz16_1, hcz16_2⟩ := bz3 BK168; obtain ⟨hfz16_0, hfz16_1, hfz16_2⟩ := fz3 BK168) | ((with_reducible refine gate_callee (f := 77) rfl ?_); refine glE (some 5) Try.func77 #[.int .i64 a0_0] ?_; (with_reducible refine (impl_isSide.calls a0_0 false _ A2.out).mono ?_); rintro e w' ⟨rfl, ⟨nd, rfl⟩⟩; refine ⟨_, rfl, ?_⟩))
  go_ret
  exact ⟨Z11, Z64⟩
def impl_Chart_colors.l0 : Nat → List Int → List Int → Int → Int → Option (List Int)
 | 0, _, _, _, _ => none
 | k + 1, x3, x8, x9, x10 => if x10 < x9 then (if 0 ≤ x10 then (if x10 < (x8.length : Int) then (if 0 ≤ (rd x8 x10) then (if (rd x8 x10) < (x3.length : Int) then (impl_Chart_colors.l0 k (x3.set ((rd x8 x10) : Int).toNat (wrap64 ((rd x3 (rd x8 x10)) + 1))) x8 x9 (wrap64 (x10 + 1))) else (none)) else (none)) else (none)) else (none)) else (some x3)
def impl_Chart_colors.f (k : Nat) (a0_0 : Int) (a0_1 : Int) (l0_2 : List Int) : Option (List Int) := if 6 ≤ 35184372088832 then (impl_Chart_colors.l0 k (List.replicate 6 0) l0_2 (l0_2.length : Int) 0) else (none)
theorem impl_Chart_colors.calls (k : Nat) (a0_0 : Int) (a0_1 : Int) (A0_2 : Option Addr) (c0_2 : Nat) (l0_2 : List Int) (r : List Int) (w : World) (hr0_2 : Kd.C (Kd.int .i64) w A0_2 l0_2.length l0_2) (hc0_2 : l0_2.length ≤ c0_2) (h : impl_Chart_colors.f k a0_0 a0_1 l0_2 = some r) :
  Calls Try.prog 57 #[.agg #[.int .i64 a0_0, .int .i64 a0_1, .slice A0_2 l0_2.length c0_2]] w fun e w' => ∃ v0_ : Value, e = .returned (v0_) ∧ Kd.R (Kd.int .i64) 3 w' w.heap.size (fun _ => True) v0_ r ∧ Below w.heap.size w w' := by
 have hu30 := Try.underlying30
 have HR0_2 := Aside0.mk hr0_2
 have HC0_2 := Aside0.mk hc0_2
 clear hr0_2 hc0_2
 have HB := Aside0.mk (Below.refl w.heap.size w)
 have H : (if 6 ≤ 35184372088832 then (impl_Chart_colors.l0 k (List.replicate 6 0) l0_2 (l0_2.length : Int) 0) else (none)) = some r := h
 clear h
 by_cases c2 : 6 ≤ 35184372088832
 ·rw [if_pos c2] at H
  have c2b0 := eq_true c2
  have c2b1 : decide (6 ≤ 35184372088832) = true := decide_eq_true c2
  clear c2
  obtain ⟨y173, hy173⟩ : ∃ y_ : List Int, y_ = (List.replicate 6 0) := ⟨_, rfl⟩
  replace H : (impl_Chart_colors.l0 k y173 l0_2 (l0_2.length : Int) 0) = some r := by first | (rw [hy173]; with_reducible exact H) | (have H2_ := (Option.bind_some _ _).symm.trans H; rw [hy173]; with_reducible exact H2_) | (have H2_ := (Option.bind_some _ _).symm.trans H; with_reducible exact H2_) | with_reducible exact H | (rw [hy173]; exact H) | exact H
  have Ny173 := Aside0.mk hy173
  clear hy173
  have H' := Aside0.mk H
  clear H
  go_enter Try.func57, Try.ntmps57
  go_wp2_with (first | ((with_reducible refine gate_dst (N := 1) rfl ?_); refine bxE 1 #[.int .i64 a0_0, .int .i64 a0_1, .slice A0_2 l0_2.length c0_2] 30 ?_; intro gb172 hg w3 hbox hb; have BK172 := Aside0.mk (hbox); have GW172 := gwS hg Z1; have GE172 := gwS hg Z1; replace HB := hbS Z1 hb; clear hb hbox hg) | ((with_reducible refine gate_dst (N := 6) rfl ?_); refine Kd.R_make (Kd.int .i64) _ 3 rfl (N := 6) rfl 22 _ _ rfl 6 rfl rfl Try.underlying22 (.int .i64 0) 8 info3 rfl (by decide) (by omega) 0 (ok := fun _ => True) (okp := fun _ => True) rfl (fun _ hk => hk) trivial (by omega) (by omega) (Below.refl _ _) (Nat.le_refl _) ?_; intro v174 w4 ho5 hb hg_ hnew_; clear hg_ hnew_; (first | rw [← Ny173.out] at ho5 | (simp only [Int.reduceToNat] at ho5; rw [← Ny173.out] at ho5)); have HO175 := Aside0.mk (Kd.R_lower ho5 (below_size Z80)); replace BK172 := bkB BK172 hb; replace HB := hbS Z80 hb; clear hb ho5; obtain ⟨hcz6_0, hcz6_1, hcz6_2⟩ := bz3 BK172; obtain ⟨hfz6_0, hfz6_1, hfz6_2⟩ := fz3 BK172))
  go_loopg [10] k (fun kq v10 w' => ∃ (x3_1 : List Int) (x10_1 : Int), v10 = .int .i64 x10_1 ∧ Aside0 (impl_Chart_colors.l0 kq x3_1 l0_2 (l0_2.length : Int) x10_1 = some r) ∧ Aside0 (kq ≤ k) ∧ Aside0 (Kd.R (Kd.int .i64) 3 w' w.heap.size (fun _ => True) v174 x3_1) ∧ Aside0 (w'.heap[gb172]? = some (.cells #[.int .i64 a0_0, .int .i64 a0_1, (.slice A0_2 l0_2.length c0_2)] 30 (0, 0))) ∧ Aside0 (Below w.heap.size w w'))
  case atStart => exact ⟨(y173), (0), Z20, H', ⟨Nat.le_refl _⟩, ⟨by (with_reducible repeat (first | apply Kd.R_alloc | apply Kd.R_drewN | apply Kd.R_drew)); exact HO175.out⟩, ⟨Z131⟩, ⟨Z80⟩⟩
  case round =>
   clear H'
   try clear c2
   try clear c2b0
   try clear c2b1
   try clear p2
   try clear c5
   try clear hcz6_0
   try clear hcz6_1
   try clear hcz6_2
   try clear hfz6_0
   try clear hfz6_1
   try clear hfz6_2
   obtain ⟨x3_1, x10_1, rfl, HA, HK1, HO_3, BK172, HB⟩ := hrel
   cases gk with
   | zero => exact absurd HA.out (by simp [impl_Chart_colors.l0])
   | succ k1 =>
    have H := HA.out
    clear HA
    simp only [impl_Chart_colors.l0] at H
    by_cases c7 : x10_1 < (l0_2.length : Int)
    ·rw [if_pos c7] at H
     have c7b0 : decide (x10_1 < (l0_2.length : Int)) = true := decide_eq_true c7
     clear c7
     by_cases c8 : 0 ≤ x10_1
     ·rw [if_pos c8] at H
      have c8b0 : decide (0 ≤ x10_1) = true := decide_eq_true c8
      clear c8
      by_cases c9 : x10_1 < (l0_2.length : Int)
      ·rw [if_pos c9] at H
       have c9b0 : decide (x10_1 < (l0_2.length : Int)) = true := decide_eq_true c9
       clear c9
       by_cases c10 : 0 ≤ (rd l0_2 x10_1)
       ·rw [if_pos c10] at H
        have c10b0 : decide (0 ≤ (rd l0_2 x10_1)) = true := decide_eq_true c10
        clear c10
        by_cases c11 : (rd l0_2 x10_1) < (x3_1.length : Int)
        ·rw [if_pos c11] at H
         have c11b0 : decide ((rd l0_2 x10_1) < (x3_1.length : Int)) = true := decide_eq_true c11
         clear c11
         obtain ⟨y178, hy178⟩ : ∃ y_ : List Int, y_ = (x3_1.set ((rd l0_2 x10_1) : Int).toNat (wrap64 ((rd x3_1 (rd l0_2 x10_1)) + 1))) := ⟨_, rfl⟩
         replace H : (impl_Chart_colors.l0 k1 y178 l0_2 (l0_2.length : Int) (wrap64 (x10_1 + 1))) = some r := by first | (rw [hy178]; with_reducible exact H) | (have H2_ := (Option.bind_some _ _).symm.trans H; rw [hy178]; with_reducible exact H2_) | (have H2_ := (Option.bind_some _ _).symm.trans H; with_reducible exact H2_) | with_reducible exact H | (rw [hy178]; exact H) | exact H
         have Ny178 := Aside0.mk hy178
         clear hy178
         have H' := Aside0.mk H
         clear H
         have p176 : 0 ≤ (x10_1 : Int) := of_decide_eq_true Z19
         have q176 : x10_1 < (l0_2.length : Int) := of_decide_eq_true Z19
         obtain ⟨ad176, e176, hx176_0⟩ := Kd.at_int HR0_2.out x10_1 p176 q176
         cases e176
         replace hx176_0 := (HB.out.cell (World.block_lt_of_cell? w _ hx176_0)).trans hx176_0
         replace p176 := eq_true p176
         replace q176 := eq_true q176
         obtain ⟨Ao13, co13, eo13⟩ := Kd.R_slice HO_3.out
         subst eo13
         have p177 : 0 ≤ ((rd l0_2 x10_1) : Int) := of_decide_eq_true Z19
         have q177 : (rd l0_2 x10_1) < (x3_1.length : Int) := of_decide_eq_true Z19
         obtain ⟨ad177, e177, hx177_0⟩ := Kd.at_int (Kd.R_reads' HO_3.out).2.2 (rd l0_2 x10_1) p177 q177
         cases e177
         replace p177 := eq_true p177
         replace q177 := eq_true q177
         have p12 : 0 ≤ ((rd l0_2 x10_1) : Int) := of_decide_eq_true Z19
         have q12 : ((rd l0_2 x10_1) : Int) < ((x3_1.length : Int) : Int) := of_decide_eq_true Z19
         obtain ⟨go12, co12, eo12, gb12, gl12, cl12, HG12⟩ := Kd.R_form HO_3.out (by omega)
         (first | cases eo12 | (injection eo12 with ea_ en_ ec_; (first | subst ea_ | (injection ea_ with ea_; subst ea_)); subst ec_; clear en_))
         have GB12 := Aside0.mk gb12
         have GG12 := Aside0.mk HG12
         clear gb12 gl12 HG12
         (first | simp only [add_plain] at hx177_0 | skip)
         obtain ⟨hx12_0, hf12_0⟩ := Kd.R_celln 0 HO_3.out ((rd l0_2 x10_1) : Int) p12 q12
         replace p12 := eq_true p12
         replace q12 := eq_true q12
         have HP14 := Kd.R_putg HO_3.out ((rd l0_2 x10_1) : Int) (wrap64 ((rd x3_1 (rd l0_2 x10_1)) + 1))
         go_wp2_with (first | ((with_reducible refine gate_store (t := 3) (p := 19) rfl ?_); refine store_event (t := 3) (p := 19) (v := ?vo_w15) (w1 := (wr.setCell ⟨go12, ((rd l0_2 x10_1) : Int).toNat, none⟩ (.int .i64 (wrap64 ((rd x3_1 (rd l0_2 x10_1)) + 1))))) ?hg ?ho ?hn ?hr ?_; (case ho => rfl); (case hg => rfl); (case hn => rfl); (case hr => first | (go_simp; done) | (go_simp; rfl)); intro w15 hw; have hg : wr.grownBy w15 (some go12) := (by rw [hw]; exact HP14.2); have hp_ : Kd.R (Kd.int .i64) 3 w15 w.heap.size (fun _ => True) (.slice (some ⟨go12, 0, none⟩) x3_1.length co13) y178 := (by rw [hw, Ny178.out]; exact HP14.1); clear HP14; replace BK172 := Aside0.mk (blk_grown (g := gb172) (o := .cells #[.int .i64 a0_0, .int .i64 a0_1, .slice (some ad176) l0_2.length c0_2] 30 (0, 0)) Z131 hg (Kd.R_ne HO_3.out BK172.out (by decide))); replace HO_3 := Aside0.mk (hp_); replace HB := Aside0.mk ((by rw [hw]; exact below_set (HB.out) GB12.out : Below w.heap.size w w15)); clear hg hw hp_))
         go_roundg k1
         case measure => have := HK1.out; omega
         case rel => exact ⟨(y178), (wrap64 (x10_1 + 1)), Z20, H', ⟨Z126⟩, ⟨Z169⟩, ⟨Z131⟩, ⟨Z80⟩⟩
        ·rw [if_neg c11] at H
         exact absurd H (by simp)
       ·rw [if_neg c10] at H
        exact absurd H (by simp)
      ·rw [if_neg c9] at H
       exact absurd H (by simp)
     ·rw [if_neg c8] at H
      exact absurd H (by simp)
    ·rw [if_neg c7] at H
     have c7b0 : decide (x10_1 < (l0_2.length : Int)) = false := decide_eq_false c7
     clear c7
     obtain rfl := Option.some.inj H
     go_wp2
     go_ret
     exact ⟨_, Z11, Z169, Z80⟩
 ·rw [if_neg c2] at H
  exact absurd H (by simp)
end Go.Proofs.Ytnkecgldapagcaa.H
