-- by wip/pack.py of this repo
import Derived.Test.YtaadbpibmlnncaaZ08Hx0
import Derived.Test.YtaadbpibmlnncaaZ08Hx1
import Derived.Test.YtaadbpibmlnncaaZ08Hx3
import Derived.Test.YtaadbpibmlnncaaZ08Hx4
import Derived.Test.YtaadbpibmlnncaaZ08WGuard
import Derived.Test.YtaadbpibmlnncaaZ08WLast
import Derived.Test.YtaadbpibmlnncaaZ08WMore
import Derived.Test.YtaadbpibmlnncaaZ08WTab
import Derived.Test.YtaadbpibmlnncaaZ08WWords
import Derived.Test.YtaadbpibmlnncaaZ08Short
namespace Go.Proofs.Ytaadbpibmlnncaa.H
open Go.RowKit Go.Proofs.YtaadbpibmlnncaaW.PrintWords Go.Proofs.YtaadbpibmlnncaaW.PrintLast Go.Proofs.YtaadbpibmlnncaaW.PrintMore
attribute [local go_sem] max2_int min2_int max_two min_two max_three min_three max_four min_four
set_option maxHeartbeats 8000000
set_option maxRecDepth 100000
set_option linter.unusedVariables false
set_option linter.unusedSimpArgs false
def slices_Max_int_int.l0 : Nat → List Int → Int → Int → Option (Int)
 | 0, _, _, _ => none
 | k + 1, x0, x3, x4 => if x4 < (x0.length : Int) then (if 0 ≤ x4 then (slices_Max_int_int.l0 k x0 (mx x3 (rd x0 x4)) (wrap64 (x4 + 1))) else (none)) else (some x3)
def slices_Max_int_int.f (k : Nat) (l0 : List Int) : Option (Int) := if (l0.length : Int) < 1 then (none) else (if 0 < (l0.length : Int) then (slices_Max_int_int.l0 k l0 (rd l0 0) 1) else (none))
theorem slices_Max_int_int.calls (k : Nat) (A0 : Option Addr) (c0 : Nat) (l0 : List Int) (r : Int) (w : World) (Ai : Kd.C (Kd.int .i64) w A0 l0.length l0) (Aj : l0.length ≤ c0) (h : slices_Max_int_int.f k l0 = some r) :
  Calls Try.prog 49 #[.slice A0 l0.length c0] w fun e w' => e = .returned (.int .i64 r) ∧ Below w.heap.size w w' := by
 have Ak := Aside0.mk Ai; have Al := Aside0.mk Aj; clear Ai Aj; have HB := aM (Below.refl w.heap.size w); have H : (if (l0.length : Int) < 1 then (none) else (if 0 < (l0.length : Int) then (slices_Max_int_int.l0 k l0 (rd l0 0) 1) else (none))) = some r := h; clear h
 by_cases c2 : (l0.length : Int) < 1
 ·rw [if_pos c2] at H
  exact absurd H (by simp)
 ·rw [if_neg c2] at H
  have c2b0 : decide ((l0.length : Int) < 1) = false := decide_eq_false c2; have c2b1 : decide (l0.length < 1) = false := decide_eq_false (by omega); clear c2
  by_cases c3 : 0 < (l0.length : Int)
  ·rw [if_pos c3] at H
   have c3b0 : decide (0 < (l0.length : Int)) = true := decide_eq_true c3; have c3b1 : decide (0 < l0.length) = true := decide_eq_true (by omega); clear c3; have H' := Aside0.mk H; clear H; have Ae : 0 ≤ (0 : Int) := (by omega); have Af : 0 < (l0.length : Int) := of_decide_eq_true Z3; obtain ⟨ad245, e245, Ab⟩ := Kd.at_int Ak.out 0 Ae Af; cases e245; have qi245 : (0 < l0.length) = True := eq_true (by omega)
   (try rw [show ((0 : Int)).toNat = 0 from rfl] at Ab)
   (try rw [Addr.add_zero'] at Ab)
   replace Ae := eq_true Ae; replace Af := eq_true Af
   go_enter Try.func49, Try.ntmps49
   go_wp2
   go_loopg [3, 4] k (fun kq v3 v4 w' => ∃ (Ad : Int) (Aa : Int), v3 = .int .i64 Ad ∧ v4 = .int .i64 Aa ∧ Aside0 (slices_Max_int_int.l0 kq l0 Ad Aa = some r) ∧ Aside0 (kq ≤ k) ∧ Aside0 (Below w.heap.size w w'))
   case atStart => exact ⟨(rd l0 0), (1), Z14, Z14, H', ⟨Nat.le_refl _⟩, ⟨Z0⟩⟩
   case round =>
    clear H'; (try clear c2); (try clear c2b0); (try clear c2b1); (try clear p2); (try clear q2); (try clear Am); (try clear qi2); (try clear c3); (try clear c3b0); (try clear c3b1); (try clear Ab); (try clear Ae); (try clear Af); obtain ⟨Ad, Aa, rfl, rfl, HA, HK1, HB⟩ := hrel; cases gk with
    | zero => exact absurd HA.out (by simp [slices_Max_int_int.l0])
    | succ k1 =>
     have H := HA.out; clear HA
     simp only [slices_Max_int_int.l0] at H
     by_cases c4 : Aa < (l0.length : Int)
     ·rw [if_pos c4] at H
      have c4b0 : decide (Aa < (l0.length : Int)) = true := decide_eq_true c4; clear c4
      by_cases c5 : 0 ≤ Aa
      ·rw [if_pos c5] at H
       have c5b0 : decide (0 ≤ Aa) = true := decide_eq_true c5; clear c5; obtain ⟨ji6, hji6⟩ : ∃ j_ : Int, (mx Ad (rd l0 Aa)) = j_ := ⟨_, rfl⟩
       replace H : (slices_Max_int_int.l0 k1 l0 ji6 (wrap64 (Aa + 1))) = some r := by first | (rw [hji6] at H; exact H) | (simp only [hji6] at H ⊢; exact H)
       have hji6_ : (if Ad < (rd l0 Aa) then (rd l0 Aa) else Ad) = ji6 := hji6; have H' := Aside0.mk H; clear H; have Ag : 0 ≤ (Aa : Int) := of_decide_eq_true Z3; have Ah : Aa < (l0.length : Int) := of_decide_eq_true Z3; obtain ⟨ad246, e246, Ac⟩ := Kd.at_int Ak.out Aa Ag Ah; obtain rfl : ad245 = ad246 := (by injection e246); replace Ac := (HB.out.cell (World.block_lt_of_cell? w _ Ac)).trans Ac; replace Ag := eq_true Ag; replace Ah := eq_true Ah
       go_wp2
       go_roundg k1
       case measure => have := HK1.out; omega
       case rel => exact ⟨(ji6), (wrap64 (Aa + 1)), (by first | rfl | (simp; done) | (simp only [← hji6] <;> (first | rfl | simp)) | (simp [*]; done)), Z14, H', ⟨Z118⟩, ⟨Z0⟩⟩
      ·rw [if_neg c5] at H
       exact absurd H (by simp)
     ·rw [if_neg c4] at H
      have c4b0 : decide (Aa < (l0.length : Int)) = false := decide_eq_false c4; clear c4; obtain rfl := Option.some.inj H
      go_wp2
      go_ret
      exact ⟨Z10, Z0⟩
  ·rw [if_neg c3] at H
   exact absurd H (by simp)
def slices_Index_int_int.l0 : Nat → List Int → Int → Int → Int → Option (Int)
 | 0, _, _, _, _ => none
 | k + 1, x0, x1, x7, x8 => if x8 < x7 then (if 0 ≤ x8 then (if x8 < (x0.length : Int) then (if x1 = (rd x0 x8) then (some x8) else (slices_Index_int_int.l0 k x0 x1 x7 (wrap64 (x8 + 1)))) else (none)) else (none)) else (some (-1))
def slices_Index_int_int.f (k : Nat) (l0 : List Int) (a1 : Int) : Option (Int) := slices_Index_int_int.l0 k l0 a1 (l0.length : Int) 0
theorem slices_Index_int_int.calls (k : Nat) (A0 : Option Addr) (c0 : Nat) (l0 : List Int) (a1 : Int) (r : Int) (w : World) (Ae : Kd.C (Kd.int .i64) w A0 l0.length l0) (Af : l0.length ≤ c0) (h : slices_Index_int_int.f k l0 a1 = some r) :
  Calls Try.prog 50 #[.slice A0 l0.length c0, .int .i64 a1] w fun e w' => e = .returned (.int .i64 r) ∧ Drawn0 w w' := by
 have Ag := Aside0.mk Ae; have Ah := Aside0.mk Af; clear Ae Af; have H : (slices_Index_int_int.l0 k l0 a1 (l0.length : Int) 0) = some r := h; clear h; have H' := Aside0.mk H; clear H
 go_enter Try.func50, Try.ntmps50
 go_wp2
 go_loopg [8] k (fun kq v8 w' => ∃ (Aa : Int), v8 = .int .i64 Aa ∧ Aside0 (slices_Index_int_int.l0 kq l0 a1 (l0.length : Int) Aa = some r) ∧ Aside0 (kq ≤ k) ∧ Drawn0 w w')
 case atStart => exact ⟨(0), Z14, H', ⟨Nat.le_refl _⟩, Z44⟩
 case round =>
  clear H'; (try clear p2); obtain ⟨Aa, rfl, HA, HK1, ⟨m1, rfl⟩⟩ := hrel; cases gk with
  | zero => exact absurd HA.out (by simp [slices_Index_int_int.l0])
  | succ k1 =>
   have H := HA.out; clear HA
   simp only [slices_Index_int_int.l0] at H
   by_cases c3 : Aa < (l0.length : Int)
   ·rw [if_pos c3] at H
    have c3b0 : decide (Aa < (l0.length : Int)) = true := decide_eq_true c3; clear c3
    by_cases c4 : 0 ≤ Aa
    ·rw [if_pos c4] at H
     have c4b0 : decide (0 ≤ Aa) = true := decide_eq_true c4; clear c4
     by_cases c5 : Aa < (l0.length : Int)
     ·rw [if_pos c5] at H
      have c5b0 : decide (Aa < (l0.length : Int)) = true := decide_eq_true c5; clear c5
      by_cases c6 : a1 = (rd l0 Aa)
      ·rw [if_pos c6] at H
       have c6b0 : (a1 == (rd l0 Aa)) = true := beq_iff_eq.mpr c6; have c6b1 : (a1 != (rd l0 Aa)) = false := bne_eq_false_iff_eq.mpr c6; clear c6; obtain rfl := Option.some.inj H; have Ab : 0 ≤ (Aa : Int) := of_decide_eq_true Z3; have Ac : Aa < (l0.length : Int) := of_decide_eq_true Z3; obtain ⟨ad247, e247, Ad⟩ := Kd.at_int Ag.out Aa Ab Ac; cases e247; replace Ab := eq_true Ab; replace Ac := eq_true Ac
       go_wp2
       go_ret
       exact ⟨Z14, Z44⟩
      ·rw [if_neg c6] at H
       have c6b0 : (a1 == (rd l0 Aa)) = false := beq_eq_false_iff_ne.mpr c6; have c6b1 : (a1 != (rd l0 Aa)) = true := bne_iff_ne.mpr c6; have H' := Aside0.mk H; clear H; have Ab : 0 ≤ (Aa : Int) := of_decide_eq_true Z3; have Ac : Aa < (l0.length : Int) := of_decide_eq_true Z3; obtain ⟨ad247, e247, Ad⟩ := Kd.at_int Ag.out Aa Ab Ac; cases e247; replace Ab := eq_true Ab; replace Ac := eq_true Ac
       go_wp2
       go_roundg k1
       case measure => have := HK1.out; omega
       case rel => exact ⟨(wrap64 (Aa + 1)), Z14, H', ⟨Z118⟩, Z44⟩
     ·rw [if_neg c5] at H
      exact absurd H (by simp)
    ·rw [if_neg c4] at H
     exact absurd H (by simp)
   ·rw [if_neg c3] at H
    have c3b0 : decide (Aa < (l0.length : Int)) = false := decide_eq_false c3; clear c3; obtain rfl := Option.some.inj H
    go_wp2
    go_ret
    exact ⟨Z14, Z44⟩
def impl_GreatestArea.f (k : Nat) (a0_0 : Int) (a0_1 : Int) (l0_2 : List Int) : Option (Int × Int × Bool) := (impl_IsChart.f a0_0 a0_1 l0_2).bind fun t249 => (if t249 = true then ((impl_Chart_sizes.f k a0_0 a0_1 l0_2).bind fun bt250 => ((slices_Max_int_int.f k bt250.1).bind fun t256 => ((slices_Index_int_int.f k bt250.1 t256).bind fun t257 => (some (t257, t256, true))))) else (some (0, 0, false)))
theorem impl_GreatestArea.calls (k : Nat) (Ad : Int) (Ae : Int) (Ak : Option Addr) (Al : Nat) (Ac : List Int) (r1 : Int) (r2 : Int) (r3 : Bool) (w : World) (Ap : Kd.C (Kd.int .i64) w Ak Ac.length Ac) (Aq : Ac.length ≤ Al) (h : impl_GreatestArea.f k Ad Ae Ac = some (r1, r2, r3)) :
  Calls Try.prog 24 #[.agg #[.int .i64 Ad, .int .i64 Ae, .slice Ak Ac.length Al]] w fun e w' => e = .returned (.tuple #[.int .i64 r1, .int .i64 r2, .bool r3]) ∧ Below w.heap.size w w' := by
 have hu28 := Try.underlying28; have Am := Aside0.mk Ap; have An := Aside0.mk Aq; clear Ap Aq; have HB := aM (Below.refl w.heap.size w); have H : ((impl_IsChart.f Ad Ae Ac).bind fun Ao => (if Ao = true then ((impl_Chart_sizes.f k Ad Ae Ac).bind fun Ag => ((slices_Max_int_int.f k Ag.1).bind fun Ab => ((slices_Index_int_int.f k Ag.1 Ab).bind fun Ah => (some (Ah, Ab, true))))) else (some (0, 0, false)))) = some (r1, r2, r3) := h; clear h; replace H := Option.bind_eq_some_iff.mp H; obtain ⟨Ao, Bu, H⟩ := H; replace H : (if Ao = true then ((impl_Chart_sizes.f k Ad Ae Ac).bind fun Ag => ((slices_Max_int_int.f k Ag.1).bind fun Ab => ((slices_Index_int_int.f k Ag.1 Ab).bind fun Ah => (some (Ah, Ab, true))))) else (some (0, 0, false))) = some (r1, r2, r3) := H; have A2 := Aside0.mk Bu; clear Bu
 by_cases c3 : Ao = true
 ·subst c3
  have H1 : ((impl_Chart_sizes.f k Ad Ae Ac).bind fun Ag => ((slices_Max_int_int.f k Ag.1).bind fun Ab => ((slices_Index_int_int.f k Ag.1 Ab).bind fun Ah => (some (Ah, Ab, true))))) = some (r1, r2, r3) := by rw [if_pos rfl] at H; exact H
  clear H; have H := H1; clear H1; replace H := Option.bind_eq_some_iff.mp H; obtain ⟨⟨Aj, Bm⟩, Bv, H⟩ := H; replace H : ((slices_Max_int_int.f k Aj).bind fun Ab => ((slices_Index_int_int.f k Aj Ab).bind fun Ah => (some (Ah, Ab, true)))) = some (r1, r2, r3) := H; have A4 := Aside0.mk Bv; clear Bv; replace H := Option.bind_eq_some_iff.mp H; obtain ⟨Ab, Bw, H⟩ := H; replace H : ((slices_Index_int_int.f k Aj Ab).bind fun Ah => (some (Ah, Ab, true))) = some (r1, r2, r3) := H; have A5 := Aside0.mk Bw; clear Bw; replace H := Option.bind_eq_some_iff.mp H; obtain ⟨Ah, Bx, H⟩ := H; replace H : (some (Ah, Ab, true)) = some (r1, r2, r3) := H; have A6 := Aside0.mk Bx; clear Bx
  simp only [Option.some.injEq, Prod.mk.injEq] at H
  obtain ⟨rfl, rfl, rfl⟩ := H
  go_enter Try.func24, Try.ntmps24
  go_wp2_with (first | ((with_reducible refine gate_dst (N := 1) rfl ?_); refine bxE 1 #[.int .i64 Ad, .int .i64 Ae, .slice Ak Ac.length Al] 28 ?_; intro Au hg w7 hbox hb; have Aa := aM (hbox); have Aw := gwS hg Z0; have Af := gwS hg Z0; replace HB := hbS Z0 hb; clear hb hbox hg; obtain ⟨Bn, Bo, Bp⟩ := bz3 Aa; obtain ⟨Bq, Br, Bs⟩ := fz3 Aa) | ((with_reducible refine gate_callee (f := 45) rfl ?_); refine glE (some 9) Try.func45 #[.agg #[.int .i64 Ad, .int .i64 Ae, .slice Ak Ac.length Al]] ?_; (with_reducible refine (impl_IsChart.calls Ad Ae _ _ Ac true _ ?side1 ?side2 A2.out).mono ?_); (case side1 => exact Z121); (case side2 => exact An.out); rintro e w9 ⟨rfl, hb⟩; refine ⟨_, rfl, ?_⟩; replace Aa := bkB Aa hb; replace HB := hbS Z4 hb; (try clear hb); obtain ⟨Az, Ba, Bb⟩ := bz3 Aa; obtain ⟨Bc, Bd, Bf⟩ := fz3 Aa) | ((with_reducible refine gate_callee (f := 48) rfl ?_); refine glE (some 13) Try.func48 #[.agg #[.int .i64 Ad, .int .i64 Ae, .slice Ak Ac.length Al]] ?_; (with_reducible refine (impl_Chart_sizes.calls k Ad Ae _ _ Ac Aj Bm _ ?side1 ?side2 A4.out).mono ?_); (case side1 => exact Z121); (case side2 => exact An.out); rintro e B6 ⟨B2, B5, rfl, Bz, B0, hb⟩; refine ⟨_, rfl, ?_⟩; have Ai := aM (Kd.R_lower Bz (below_size Z4)); have Ar := aM (Kd.R_lower B0 (below_size Z4)); replace Aa := bkB Aa hb; replace HB := hbS Z4 hb; (try clear hb); (try clear Bz); (try clear B0); obtain ⟨Ax, Ay, Bt⟩ := Kd.R_slice Ai.out; subst Bt) | ((with_reducible refine gate_callee (f := 49) rfl ?_); refine glE (some 17) Try.func49 #[.slice Ax Aj.length Ay] ?_; (with_reducible refine (slices_Max_int_int.calls k _ _ Aj Ab _ ?side1 ?side2 A5.out).mono ?_); (case side1 => exact Z79); (case side2 => exact (Kd.R_reads' Ai.out).2.1); rintro e B7 ⟨rfl, hb⟩; refine ⟨_, rfl, ?_⟩; replace Ai := roB Ai hb; replace Ar := roB Ar hb; replace Aa := bkB Aa hb; replace HB := hbS Z4 hb; (try clear hb)) | ((with_reducible refine gate_callee (f := 50) rfl ?_); refine glE (some 20) Try.func50 #[.slice Ax Aj.length Ay, .int .i64 Ab] ?_; (with_reducible refine (slices_Index_int_int.calls k _ _ Aj Ab Ah _ ?side1 ?side2 A6.out).mono ?_); (case side1 => exact Z79); (case side2 => exact (Kd.R_reads' Ai.out).2.1); rintro e w' ⟨rfl, ⟨nd, rfl⟩⟩; refine ⟨_, rfl, ?_⟩))
  go_ret3
  exact ⟨Z10, Z4⟩
 ·replace c3 := Bool.eq_false_iff.mpr c3
  subst c3
  have H1 : (some (0, 0, false)) = some (r1, r2, r3) := by rw [if_neg (show ¬ (false = true) by decide)] at H; exact H
  clear H; have H := H1; clear H1
  simp only [Option.some.injEq, Prod.mk.injEq] at H
  obtain ⟨rfl, rfl, rfl⟩ := H
  go_enter Try.func24, Try.ntmps24
  go_wp2_with (first | ((with_reducible refine gate_dst (N := 1) rfl ?_); refine bxE 1 #[.int .i64 Ad, .int .i64 Ae, .slice Ak Ac.length Al] 28 ?_; intro Au hg Ca hbox hb; have Aa := aM (hbox); have Aw := gwS hg Z0; have Af := gwS hg Z0; replace HB := hbS Z0 hb; clear hb hbox hg; obtain ⟨Bg, Bh, Bi⟩ := bz3 Aa; obtain ⟨Bj, Bk, Bl⟩ := fz3 Aa) | ((with_reducible refine gate_callee (f := 45) rfl ?_); refine glE (some 9) Try.func45 #[.agg #[.int .i64 Ad, .int .i64 Ae, .slice Ak Ac.length Al]] ?_; (with_reducible refine (impl_IsChart.calls Ad Ae _ _ Ac false _ ?side1 ?side2 A2.out).mono ?_); (case side1 => exact Z121); (case side2 => exact An.out); rintro e Cb ⟨rfl, hb⟩; refine ⟨_, rfl, ?_⟩; replace Aa := bkB Aa hb; replace HB := hbS Z4 hb; (try clear hb)))
  go_ret3
  exact ⟨Z10, Z4⟩
def spec_l12Color.l0 : Nat → Int → List Int → List Int → List Int → Int → Option (List Int)
 | 0, _, _, _, _, _ => none
 | k + 1, x1, x5, x6, x7, x8 => if x8 < (x5.length : Int) then (if 0 ≤ x8 then (if x8 < (x6.length : Int) then (if (rd x6 x8) = x1 then (if x7.length < 17592186044416 then (spec_l12Color.l0 k x1 x5 x6 (x7 ++ [rd x5 x8]) (wrap64 (x8 + 1))) else (none)) else (spec_l12Color.l0 k x1 x5 x6 x7 (wrap64 (x8 + 1)))) else (none)) else (none)) else (some x7)
def spec_l12Color.f (k : Nat) (a0_0 : Int) (a0_1 : Int) (l0_2 : List Int) (a1 : Int) : Option (List Int) := (spec_l12Sizes.f k a0_0 a0_1 l0_2).bind fun bt259 => (spec_l12Color.l0 k a1 bt259.1 bt259.2 (([] : List Int)) 0)
theorem spec_l12Color.calls (k : Nat) (Ai : Int) (Aj : Int) (Ar : Option Addr) (Au : Nat) (Af : List Int) (a1 : Int) (r : List Int) (w : World) (Ay : Kd.C (Kd.int .i64) w Ar Af.length Af) (Az : Af.length ≤ Au) (h : spec_l12Color.f k Ai Aj Af a1 = some r) :
  Calls Try.prog 52 #[.agg #[.int .i64 Ai, .int .i64 Aj, .slice Ar Af.length Au], .int .i64 a1] w fun e w' => ∃ v0_ : Value, e = .returned (v0_) ∧ Kd.R (Kd.int .i64) 3 w' w.heap.size (fun _ => True) v0_ r ∧ Below w.heap.size w w' := by
 have hu28 := Try.underlying28; have Bq := Aside0.mk Ay; have Br := Aside0.mk Az; clear Ay Az; have HB := aM (Below.refl w.heap.size w); have H : ((spec_l12Sizes.f k Ai Aj Af).bind fun Ba => (spec_l12Color.l0 k a1 Ba.1 Ba.2 (([] : List Int)) 0)) = some r := h; clear h; replace H := Option.bind_eq_some_iff.mp H; obtain ⟨⟨Ae, Ac⟩, Ce, H⟩ := H; replace H : (spec_l12Color.l0 k a1 Ae Ac (([] : List Int)) 0) = some r := H; have A3 := Aside0.mk Ce; clear Ce; obtain ⟨Bs, Ak⟩ : ∃ y_ : List Int, y_ = (([] : List Int)) := ⟨_, rfl⟩
 replace H : (spec_l12Color.l0 k a1 Ae Ac Bs 0) = some r := by first | (rw [Ak]; with_reducible exact H) | (have H2_ := (Option.bind_some _ _).symm.trans H; rw [Ak]; with_reducible exact H2_) | (have H2_ := (Option.bind_some _ _).symm.trans H; with_reducible exact H2_) | with_reducible exact H | (rw [Ak]; exact H) | exact H
 have Bb := Aside0.mk Ak; clear Ak; have H' := Aside0.mk H; clear H
 go_enter Try.func52, Try.ntmps52
 go_wp2_with (first | ((with_reducible refine gate_dst (N := 2) rfl ?_); refine bxE 2 #[.int .i64 Ai, .int .i64 Aj, .slice Ar Af.length Au] 28 ?_; intro Bc hg w4 hbox hb; have Ab := aM (hbox); have Cf := gwS hg Z0; have Ad := gwS hg Z0; replace HB := hbS Z0 hb; clear hb hbox hg; obtain ⟨Bd, Bf, Bg⟩ := bz3 Ab; obtain ⟨Bh, Bi, Bj⟩ := fz3 Ab) | ((with_reducible refine gate_callee (f := 47) rfl ?_); refine glE (some 11) Try.func47 #[.agg #[.int .i64 Ai, .int .i64 Aj, .slice Ar Af.length Au]] ?_; (with_reducible refine (spec_l12Sizes.calls k Ai Aj _ _ Af Ae Ac _ ?side1 ?side2 A3.out).mono ?_); (case side1 => exact Z120); (case side2 => exact Br.out); rintro e w6 ⟨Bk, Bl, rfl, Cg, Ch, hb⟩; refine ⟨_, rfl, ?_⟩; have Ap := aM (Kd.R_lower Cg (below_size Z17)); have Aq := aM (Kd.R_lower Ch (below_size Z17)); replace Ab := bkB Ab hb; replace HB := hbS Z17 hb; (try clear hb); (try clear Cg); (try clear Ch)) | ((with_reducible refine gate_dst (N := 14) rfl ?_); refine Kd.R_lit (Kd.int .i64) _ 3 ?hg (N := 14) ?hd (xs := ([] : List Int)) (inner := []) (ok := fun _ => True) (okp := fun _ => True) ?hr ?hp (fun _ hk => hk) trivial (Below.refl _ _) (Nat.le_refl _) (by simp) ?_; (case hd => rfl); (case hg => rfl); (case hr => first | (go_simp; done) | (go_simp; rfl)); (case hp => exact (Reps.none _ _)); intro Ci w7 Bm hb hg_ hnew_; clear hg_ hnew_; (first | rw [← Bb.out] at Bm | (simp only [Int.reduceToNat] at Bm; rw [← Bb.out] at Bm)); have Bt := aM (Kd.R_lower (Kd.R_new' (Kd.R_new' Bm (Kd.R_lt Z72)) (Kd.R_lt Z100)) (below_size Z17)); replace Ap := aM (Kd.R_elder' Z72 (Kd.R_base Bm) hb); replace Aq := aM (Kd.R_elder' Z100 (Kd.R_base Bm) hb); replace Ab := bkB Ab hb; replace HB := hbS Z17 hb; clear hb Bm))
 go_loopg [7, 8] k (fun kq v7 v8 w' => ∃ (Am : List Int) (Aa : Int), v8 = .int .i64 Aa ∧ Aside0 (spec_l12Color.l0 kq a1 Ae Ac Am Aa = some r) ∧ Aside0 (kq ≤ k) ∧ Aside0 (Kd.R (Kd.int .i64) 3 w' w.heap.size (fun k_ => nV k_ Bl ∧ nV k_ v7) Bk Ae) ∧ Aside0 (Kd.R (Kd.int .i64) 3 w' w.heap.size (fun k_ => nV k_ Bk ∧ nV k_ v7) Bl Ac) ∧ Aside0 (Kd.R (Kd.int .i64) 3 w' w.heap.size (fun k_ => nV k_ Bk ∧ nV k_ Bl) v7 Am) ∧ Aside0 (w'.heap[Bc]? = some (.cells #[.int .i64 Ai, .int .i64 Aj, (.slice Ar Af.length Au)] 28 (0, 0))) ∧ Aside0 (Below w.heap.size w w'))
 case atStart => exact ⟨(Bs), (0), Z14, H', ⟨Nat.le_refl _⟩, ⟨Z72⟩, ⟨Z100⟩, ⟨by (with_reducible repeat (first | apply Kd.R_alloc | apply Kd.R_drewN | apply Kd.R_drew)); exact Kd.R_mono Bt.out (fun _ hk => ⟨hk.1.2, hk.2⟩)⟩, ⟨Z12⟩, ⟨Z17⟩⟩
 case round =>
  clear H'; (try clear p2); (try clear c4); (try clear c5); (try clear Bd); (try clear Bf); (try clear Bg); (try clear Bh); (try clear Bi); (try clear Bj); obtain ⟨Am, Aa, rfl, HA, HK1, Ag, Ah, Aw, Ab, HB⟩ := hrel; cases gk with
  | zero => exact absurd HA.out (by simp [spec_l12Color.l0])
  | succ k1 =>
   have H := HA.out; clear HA
   simp only [spec_l12Color.l0] at H
   by_cases c9 : Aa < (Ae.length : Int)
   ·rw [if_pos c9] at H
    have c9b0 : decide (Aa < (Ae.length : Int)) = true := decide_eq_true c9; clear c9
    by_cases B0 : 0 ≤ Aa
    ·rw [if_pos B0] at H
     have c10b0 : decide (0 ≤ Aa) = true := decide_eq_true B0; clear B0
     by_cases B2 : Aa < (Ac.length : Int)
     ·rw [if_pos B2] at H
      have c11b0 : decide (Aa < (Ac.length : Int)) = true := decide_eq_true B2; clear B2
      by_cases Bn : (rd Ac Aa) = a1
      ·rw [if_pos Bn] at H
       have c12b0 : ((rd Ac Aa) == a1) = true := beq_iff_eq.mpr Bn; have c12b1 : ((rd Ac Aa) != a1) = false := bne_eq_false_iff_eq.mpr Bn; clear Bn
       by_cases B5 : Am.length < 17592186044416
       ·rw [if_pos B5] at H
        have LMc13 := Aside0.mk B5; clear B5; obtain ⟨Bu, Al⟩ : ∃ y_ : List Int, y_ = (Am ++ [rd Ae Aa]) := ⟨_, rfl⟩
        replace H : (spec_l12Color.l0 k1 a1 Ae Ac Bu (wrap64 (Aa + 1))) = some r := by first | (rw [Al]; with_reducible exact H) | (have H2_ := (Option.bind_some _ _).symm.trans H; rw [Al]; with_reducible exact H2_) | (have H2_ := (Option.bind_some _ _).symm.trans H; with_reducible exact H2_) | with_reducible exact H | (rw [Al]; exact H) | exact H
        have Bv := Aside0.mk Al; clear Al; have H' := Aside0.mk H; clear H; obtain ⟨Cj, Bw, B7⟩ := Kd.R_slice Ag.out; subst B7; obtain ⟨Ck, Bx, Ca⟩ := Kd.R_slice Ah.out; subst Ca; have An : 0 ≤ (Aa : Int) := of_decide_eq_true Z3; have Ao : Aa < (Ac.length : Int) := of_decide_eq_true Z3; obtain ⟨ad268, e268, Ax⟩ := Kd.at_int (Kd.R_reads' Ah.out).2.2 Aa An Ao; cases e268; replace An := eq_true An; replace Ao := eq_true Ao; have Bo : 0 ≤ (Aa : Int) := of_decide_eq_true Z3; have Bp : Aa < (Ae.length : Int) := of_decide_eq_true Z3; obtain ⟨ad269, e269, B6⟩ := Kd.at_int (Kd.R_reads' Ag.out).2.2 Aa Bo Bp; cases e269; replace Bo := eq_true Bo; replace Bp := eq_true Bp
        go_wp2_with (first | ((with_reducible refine gate_builtin (b := .append) (xs := #[.tmp 27, .tmp 32]) rfl ?_); at_builtin; refine Kd.R_append (Kd.int .i64) (w0 := w) w.heap.size rfl (.tmp 27) (.tmp 32) 22 3 (.int .i64 0) 8 rfl Try.underlying22 info3 rfl (by decide) (by omega) u7 Am (rd Ae Aa) [.int .i64 (rd Ae Aa)] (fun k_ => some k_ ≠ (.slice (some ad269) Ae.length Bw : Value).ownBlock ∧ some k_ ≠ (.slice (some ad268) Ac.length Bx : Value).ownBlock) (fun _ => False) rfl rfl ?aP (fun _ hk => hk.elim) ?aF ?aO ?aB ?aS ?aL ?_; (case aP => exact rfl); (case aB => exact Z17); (case aF => exact (fun k_ hk => ⟨Kd.fresh' (Kd.R_lt Z19) k_ hk, Kd.fresh' (Kd.R_lt Z109) k_ hk⟩)); (case aO => exact Z95); (case aS => exact (below_size Z17)); (case aL => have := LMc13.out; omega); intro Cl Cs ho hb hg hat; rw [← Bv.out] at ho; replace Ag := aM (Kd.R_after (ok := (fun k_ => some k_ ≠ (.slice (some ad268) Ac.length Bx : Value).ownBlock)) Z19 hg hat); replace Ah := aM (Kd.R_after (ok := (fun k_ => some k_ ≠ (.slice (some ad269) Ae.length Bw : Value).ownBlock)) Z109 hg hat); replace Ab := aM (blk_grown (g := Bc) (o := .cells #[.int .i64 Ai, .int .i64 Aj, .slice Ar Af.length Au] 28 (0, 0)) Z12 hg (Kd.R_ne Aw.out Ab.out (by decide))); replace HB := aM (hb); have Bz := aM (ho); clear Aw; clear ho hb hg hat))
        go_roundg k1
        case measure => have := HK1.out; omega
        case rel => exact ⟨(Bu), (wrap64 (Aa + 1)), Z14, H', ⟨Z118⟩, ⟨Z19⟩, ⟨Z109⟩, ⟨by (with_reducible repeat (first | apply Kd.R_alloc | apply Kd.R_drewN | apply Kd.R_drew)); exact Bz.out⟩, ⟨Z12⟩, ⟨Z17⟩⟩
       ·rw [if_neg B5] at H
        exact absurd H (by simp)
      ·rw [if_neg Bn] at H
       have c12b0 : ((rd Ac Aa) == a1) = false := beq_eq_false_iff_ne.mpr Bn; have c12b1 : ((rd Ac Aa) != a1) = true := bne_iff_ne.mpr Bn; have H' := Aside0.mk H; clear H; obtain ⟨Cm, Cn, Cb⟩ := Kd.R_slice Ag.out; subst Cb; obtain ⟨Co, Cp, Cc⟩ := Kd.R_slice Ah.out; subst Cc; have An : 0 ≤ (Aa : Int) := of_decide_eq_true Z3; have Ao : Aa < (Ac.length : Int) := of_decide_eq_true Z3; obtain ⟨ad268, e268, Ax⟩ := Kd.at_int (Kd.R_reads' Ah.out).2.2 Aa An Ao; cases e268; replace An := eq_true An; replace Ao := eq_true Ao
       go_wp2
       go_roundg k1
       case measure => have := HK1.out; omega
       case rel => exact ⟨(Am), (wrap64 (Aa + 1)), Z14, H', ⟨Z118⟩, ⟨Z19⟩, ⟨Z109⟩, ⟨Z95⟩, ⟨Z12⟩, ⟨Z17⟩⟩
     ·rw [if_neg B2] at H
      exact absurd H (by simp)
    ·rw [if_neg B0] at H
     exact absurd H (by simp)
   ·rw [if_neg c9] at H
    have c9b0 : decide (Aa < (Ae.length : Int)) = false := decide_eq_false c9; clear c9; obtain rfl := Option.some.inj H; obtain ⟨Cq, Cr, Cd⟩ := Kd.R_slice Ag.out; subst Cd
    go_wp2
    go_ret
    exact ⟨_, Z10, by (with_reducible repeat (first | apply Kd.R_alloc | apply Kd.R_drewN | apply Kd.R_drew)); exact Kd.R_mono Aw.out (fun _ hk => trivial), Z17⟩
def spec_l12Lots.l0 : Nat → List Int → Int → Option (Bool)
 | 0, _, _ => none
 | k + 1, x0, x3 => if x3 < (x0.length : Int) then (if 0 ≤ x3 then ((spec_l1In.f (rd x0 x3) 1 100).bind fun t274 => (if t274 = true then (spec_l12Lots.l0 k x0 (wrap64 (x3 + 1))) else (some false))) else (none)) else ((spec_l1In.f (x0.length : Int) 1 6).bind fun t275 => (some t275))
def spec_l12Lots.f (k : Nat) (l0 : List Int) : Option (Bool) := spec_l12Lots.l0 k l0 0
theorem spec_l12Lots.calls (k : Nat) (A0 : Option Addr) (c0 : Nat) (l0 : List Int) (r : Bool) (w : World) (Ag : Kd.C (Kd.int .i64) w A0 l0.length l0) (Ah : l0.length ≤ c0) (h : spec_l12Lots.f k l0 = some r) :
  Calls Try.prog 80 #[.slice A0 l0.length c0] w fun e w' => e = .returned (.bool r) ∧ Drawn0 w w' := by
 have Ai := Aside0.mk Ag; have Al := Aside0.mk Ah; clear Ag Ah; have H : (spec_l12Lots.l0 k l0 0) = some r := h; clear h; have H' := Aside0.mk H; clear H
 go_enter Try.func80, Try.ntmps80
 go_wp2
 go_loopg [3] k (fun kq v3 w' => ∃ (Aa : Int), v3 = .int .i64 Aa ∧ Aside0 (spec_l12Lots.l0 kq l0 Aa = some r) ∧ Aside0 (kq ≤ k) ∧ Drawn0 w w')
 case atStart => exact ⟨(0), Z14, H', ⟨Nat.le_refl _⟩, Z44⟩
 case round =>
  clear H'; obtain ⟨Aa, rfl, HA, HK1, ⟨m1, rfl⟩⟩ := hrel; cases gk with
  | zero => exact absurd HA.out (by simp [spec_l12Lots.l0])
  | succ k1 =>
   have H := HA.out; clear HA
   simp only [spec_l12Lots.l0] at H
   by_cases c2 : Aa < (l0.length : Int)
   ·rw [if_pos c2] at H
    have c2b0 : decide (Aa < (l0.length : Int)) = true := decide_eq_true c2; clear c2
    by_cases c3 : 0 ≤ Aa
    ·rw [if_pos c3] at H
     have c3b0 : decide (0 ≤ Aa) = true := decide_eq_true c3; clear c3; replace H := Option.bind_eq_some_iff.mp H; obtain ⟨Ae, Aj, H⟩ := H; replace H : (if Ae = true then (spec_l12Lots.l0 k1 l0 (wrap64 (Aa + 1))) else (some false)) = some r := H; have A4 := Aside0.mk Aj; clear Aj
     by_cases c5 : Ae = true
     ·subst c5
      have H1 : (spec_l12Lots.l0 k1 l0 (wrap64 (Aa + 1))) = some r := by rw [if_pos rfl] at H; exact H
      clear H; have H := H1; clear H1; have H' := Aside0.mk H; clear H; have Ab : 0 ≤ (Aa : Int) := of_decide_eq_true Z3; have Ac : Aa < (l0.length : Int) := of_decide_eq_true Z3; obtain ⟨ad273, e273, Ad⟩ := Kd.at_int Ai.out Aa Ab Ac; cases e273; replace Ab := eq_true Ab; replace Ac := eq_true Ac
      go_wp2_with (first | ((with_reducible refine gate_callee (f := 65) rfl ?_); refine glE (some 14) Try.func65 #[.int .i64 (rd l0 Aa), .int .i64 1, .int .i64 100] ?_; (with_reducible refine (spec_l1In.calls (rd l0 Aa) 1 100 true _ A4.out).mono ?_); rintro e w' ⟨rfl, ⟨nd, rfl⟩⟩; refine ⟨_, rfl, ?_⟩))
      go_roundg k1
      case measure => have := HK1.out; omega
      case rel => exact ⟨(wrap64 (Aa + 1)), Z14, H', ⟨Z118⟩, Z44⟩
     ·replace c5 := Bool.eq_false_iff.mpr c5
      subst c5
      have H1 : (some false) = some r := by rw [if_neg (show ¬ (false = true) by decide)] at H; exact H
      clear H; have H := H1; clear H1; obtain rfl := Option.some.inj H; have Ab : 0 ≤ (Aa : Int) := of_decide_eq_true Z3; have Ac : Aa < (l0.length : Int) := of_decide_eq_true Z3; obtain ⟨ad273, e273, Ad⟩ := Kd.at_int Ai.out Aa Ab Ac; cases e273; replace Ab := eq_true Ab; replace Ac := eq_true Ac
      go_wp2_with (first | ((with_reducible refine gate_callee (f := 65) rfl ?_); refine glE (some 14) Try.func65 #[.int .i64 (rd l0 Aa), .int .i64 1, .int .i64 100] ?_; (with_reducible refine (spec_l1In.calls (rd l0 Aa) 1 100 false _ A4.out).mono ?_); rintro e w' ⟨rfl, ⟨nd, rfl⟩⟩; refine ⟨_, rfl, ?_⟩))
      go_ret
      exact ⟨Z14, Z44⟩
    ·rw [if_neg c3] at H
     exact absurd H (by simp)
   ·rw [if_neg c2] at H
    have c2b0 : decide (Aa < (l0.length : Int)) = false := decide_eq_false c2; clear c2; replace H := Option.bind_eq_some_iff.mp H; obtain ⟨Af, Ak, H⟩ := H; replace H : (some Af) = some r := H; have A6 := Aside0.mk Ak; clear Ak; obtain rfl := Option.some.inj H
    go_wp2_with (first | ((with_reducible refine gate_callee (f := 65) rfl ?_); refine glE (some 18) Try.func65 #[.int .i64 (l0.length : Int), .int .i64 1, .int .i64 6] ?_; (with_reducible refine (spec_l1In.calls (l0.length : Int) 1 6 Af _ A6.out).mono ?_); rintro e w' ⟨rfl, ⟨nd, rfl⟩⟩; refine ⟨_, rfl, ?_⟩))
    go_ret
    exact ⟨Z14, Z44⟩
def spec_l12Asked.f (k : Nat) (a0_0 : Int) (a0_1 : Int) (l0_2 : List Int) (a1 : Int) (l2 : List Int) : Option (Bool) := (spec_l2Good.f k a0_0 a0_1 l0_2).bind fun t277 => (if t277 = true then ((spec_l2Color.f a1).bind fun t278 => (if t278 = true then ((spec_l12Lots.f k l2).bind fun t279 => (some t279)) else (some false))) else (some false))
theorem spec_l12Asked.calls (k : Nat) (Ad : Int) (Ae : Int) (Ag : Option Addr) (Ah : Nat) (Ab : List Int) (a1 : Int) (A2 : Option Addr) (c2 : Nat) (l2 : List Int) (r : Bool) (w : World) (Am : Kd.C (Kd.int .i64) w Ag Ab.length Ab) (An : Ab.length ≤ Ah) (Bm : Kd.C (Kd.int .i64) w A2 l2.length l2) (Bn : l2.length ≤ c2) (h : spec_l12Asked.f k Ad Ae Ab a1 l2 = some r) :
  Calls Try.prog 55 #[.agg #[.int .i64 Ad, .int .i64 Ae, .slice Ag Ab.length Ah], .int .i64 a1, .slice A2 l2.length c2] w fun e w' => e = .returned (.bool r) ∧ Below w.heap.size w w' := by
 have hu28 := Try.underlying28; have Aj := Aside0.mk Am; have Ak := Aside0.mk An; clear Am An; have Br := Aside0.mk Bm; have Bs := Aside0.mk Bn; clear Bm Bn; have HB := aM (Below.refl w.heap.size w); have H : ((spec_l2Good.f k Ad Ae Ab).bind fun Al => (if Al = true then ((spec_l2Color.f a1).bind fun Ai => (if Ai = true then ((spec_l12Lots.f k l2).bind fun Af => (some Af)) else (some false))) else (some false))) = some r := h; clear h; replace H := Option.bind_eq_some_iff.mp H; obtain ⟨Al, Bo, H⟩ := H; replace H : (if Al = true then ((spec_l2Color.f a1).bind fun Ai => (if Ai = true then ((spec_l12Lots.f k l2).bind fun Af => (some Af)) else (some false))) else (some false)) = some r := H; have A4 := Aside0.mk Bo; clear Bo
 by_cases c5 : Al = true
 ·subst c5
  have H1 : ((spec_l2Color.f a1).bind fun Ai => (if Ai = true then ((spec_l12Lots.f k l2).bind fun Af => (some Af)) else (some false))) = some r := by rw [if_pos rfl] at H; exact H
  clear H; have H := H1; clear H1; replace H := Option.bind_eq_some_iff.mp H; obtain ⟨Ai, Bp, H⟩ := H; replace H : (if Ai = true then ((spec_l12Lots.f k l2).bind fun Af => (some Af)) else (some false)) = some r := H; have A6 := Aside0.mk Bp; clear Bp
  by_cases c7 : Ai = true
  ·subst c7
   have H1 : ((spec_l12Lots.f k l2).bind fun Af => (some Af)) = some r := by rw [if_pos rfl] at H; exact H
   clear H; have H := H1; clear H1; replace H := Option.bind_eq_some_iff.mp H; obtain ⟨Af, Bq, H⟩ := H; replace H : (some Af) = some r := H; have A8 := Aside0.mk Bq; clear Bq; obtain rfl := Option.some.inj H
   go_enter Try.func55, Try.ntmps55
   go_wp2_with (first | ((with_reducible refine gate_dst (N := 3) rfl ?_); refine bxE 3 #[.int .i64 Ad, .int .i64 Ae, .slice Ag Ab.length Ah] 28 ?_; intro Ao hg w9 hbox hb; have Aa := aM (hbox); have Ap := gwS hg Z0; have Ac := gwS hg Z0; replace HB := hbS Z0 hb; clear hb hbox hg; obtain ⟨Aq, Ar, Au⟩ := bz3 Aa; obtain ⟨Aw, Ax, Ay⟩ := fz3 Aa) | ((with_reducible refine gate_callee (f := 43) rfl ?_); refine glE (some 8) Try.func43 #[.agg #[.int .i64 Ad, .int .i64 Ae, .slice Ag Ab.length Ah]] ?_; (with_reducible refine (spec_l2Good.calls k Ad Ae _ _ Ab true _ ?side1 ?side2 A4.out).mono ?_); (case side1 => exact Z62); (case side2 => exact Ak.out); rintro e Bt ⟨rfl, hb⟩; refine ⟨_, rfl, ?_⟩; replace Aa := bkB Aa hb; replace HB := hbS Z1 hb; (try clear hb)) | (go_at_call 51; (with_reducible refine (spec_l2Color.calls a1 true _ A6.out).mono ?_); rintro e w' ⟨rfl, ⟨nd, rfl⟩⟩) | (go_at_call 80; (with_reducible refine (spec_l12Lots.calls k _ _ l2 Af _ ?side1 ?side2 A8.out).mono ?_); (case side1 => repeat (first | exact (Kd.C_below Br.out Z1) | (with_reducible refine Kd.C_alloc ?_ _) | (with_reducible refine Kd.C_drewN ?_ _) | (with_reducible refine Kd.C_drew ?_))); (case side2 => exact Bs.out); rintro e w' ⟨rfl, ⟨nd, rfl⟩⟩))
   go_ret
   exact ⟨Z10, Z1⟩
  ·replace c7 := Bool.eq_false_iff.mpr c7
   subst c7
   have H1 : (some false) = some r := by rw [if_neg (show ¬ (false = true) by decide)] at H; exact H
   clear H; have H := H1; clear H1; obtain rfl := Option.some.inj H
   go_enter Try.func55, Try.ntmps55
   go_wp2_with (first | ((with_reducible refine gate_dst (N := 3) rfl ?_); refine bxE 3 #[.int .i64 Ad, .int .i64 Ae, .slice Ag Ab.length Ah] 28 ?_; intro Ao hg Bu hbox hb; have Aa := aM (hbox); have Ap := gwS hg Z0; have Ac := gwS hg Z0; replace HB := hbS Z0 hb; clear hb hbox hg; obtain ⟨Az, Ba, Bb⟩ := bz3 Aa; obtain ⟨Bc, Bd, Bf⟩ := fz3 Aa) | ((with_reducible refine gate_callee (f := 43) rfl ?_); refine glE (some 8) Try.func43 #[.agg #[.int .i64 Ad, .int .i64 Ae, .slice Ag Ab.length Ah]] ?_; (with_reducible refine (spec_l2Good.calls k Ad Ae _ _ Ab true _ ?side1 ?side2 A4.out).mono ?_); (case side1 => exact Z62); (case side2 => exact Ak.out); rintro e Bv ⟨rfl, hb⟩; refine ⟨_, rfl, ?_⟩; replace Aa := bkB Aa hb; replace HB := hbS Z1 hb; (try clear hb)) | (go_at_call 51; (with_reducible refine (spec_l2Color.calls a1 false _ A6.out).mono ?_); rintro e w' ⟨rfl, ⟨nd, rfl⟩⟩))
   go_ret
   exact ⟨Z10, Z1⟩
 ·replace c5 := Bool.eq_false_iff.mpr c5
  subst c5
  have H1 : (some false) = some r := by rw [if_neg (show ¬ (false = true) by decide)] at H; exact H
  clear H; have H := H1; clear H1; obtain rfl := Option.some.inj H
  go_enter Try.func55, Try.ntmps55
  go_wp2_with (first | ((with_reducible refine gate_dst (N := 3) rfl ?_); refine bxE 3 #[.int .i64 Ad, .int .i64 Ae, .slice Ag Ab.length Ah] 28 ?_; intro Ao hg Bw hbox hb; have Aa := aM (hbox); have Ap := gwS hg Z0; have Ac := gwS hg Z0; replace HB := hbS Z0 hb; clear hb hbox hg; obtain ⟨Bg, Bh, Bi⟩ := bz3 Aa; obtain ⟨Bj, Bk, Bl⟩ := fz3 Aa) | ((with_reducible refine gate_callee (f := 43) rfl ?_); refine glE (some 8) Try.func43 #[.agg #[.int .i64 Ad, .int .i64 Ae, .slice Ag Ab.length Ah]] ?_; (with_reducible refine (spec_l2Good.calls k Ad Ae _ _ Ab false _ ?side1 ?side2 A4.out).mono ?_); (case side1 => exact Z62); (case side2 => exact Ak.out); rintro e Bx ⟨rfl, hb⟩; refine ⟨_, rfl, ?_⟩; replace Aa := bkB Aa hb; replace HB := hbS Z1 hb; (try clear hb)))
  go_ret
  exact ⟨Z10, Z1⟩
mutual
def spec_l12Fits.l0 : Nat → List Int → List Int → List Int → List Int → Int → Option (Bool)
 | 0, _, _, _, _, _ => none
 | k + 1, x0, x1, x2, x7, x8 => if x8 < (x2.length : Int) then (if 0 ≤ x8 then ((spec_l1In.f (rd x2 x8) 0 (wrap64 ((x1.length : Int) - 1))).bind fun t284 => (if t284 = true then (spec_l12Fits.j1 k x0 x1 x2 x7 x8 (rd x2 x8) (decide (x8 ≥ (x0.length : Int)))) else (spec_l12Fits.j1 k x0 x1 x2 x7 x8 (rd x2 x8) true))) else (none)) else (some true)
def spec_l12Fits.j1 : Nat → List Int → List Int → List Int → List Int → Int → Int → Bool → Option (Bool)
 | 0, _, _, _, _, _, _, _ => none
 | k + 1, x0, x1, x2, x7, x8, x9, x34 => if x34 = true then (some false) else (if 0 ≤ x9 then (if x9 < (x7.length : Int) then (if 0 ≤ x8 then (if x8 < (x0.length : Int) then ((some (x7.set (x9 : Int).toNat (wrap64 ((rd x7 x9) + (rd x0 x8))) : List Int)).bind fun y287 => (if x9 < (x1.length : Int) then (if (rd y287 x9) > (rd x1 x9) then (some false) else (spec_l12Fits.l0 k x0 x1 x2 y287 (wrap64 (x8 + 1)))) else (none))) else (none)) else (none)) else (none)) else (none))
end
def spec_l12Fits.f (k : Nat) (l0 : List Int) (l1 : List Int) (l2 : List Int) : Option (Bool) := if 0 ≤ (l1.length : Int) then (if ((l1.length : Int) : Int).toNat ≤ 35184372088832 then (spec_l12Fits.l0 k l0 l1 l2 (List.replicate ((l1.length : Int) : Int).toNat 0) 0) else (none)) else (none)
def spec_l12Fits.T8 : Bool × List (List Nat × List Nat) := (true, [([], []), ([], []), ([], []), ([], []), ([2, 3], [2, 3]), ([4], [4]), ([], []), ([], []), ([6, 7], [6, 7]), ([8], [8]), ([5, 9], [5, 9]), ([0, 1, 0, 1, 2, 3, 4, 5, 6, 7, 8, 9, 10], [0, 1]), ([11, 10, 0, 1, 2, 3, 4, 5, 6, 7, 8, 9, 10], [10, 11])])
def spec_l12Fits.B8 : List Nat := [0, 0, 0, 0, 12, 28, 0, 0, 192, 448, 1020, 2047, 4095]
theorem spec_l12Fits.tab8 : rtab .any (opsOf Try.f56 8) = spec_l12Fits.T8 := by kernel_rfl
theorem spec_l12Fits.bits8 : waitsOk spec_l12Fits.T8.2 spec_l12Fits.B8 = true := by kernel_rfl
def spec_l12Fits.T9 : Bool × List (List Nat × List Nat) := (true, [([], []), ([], []), ([0, 1], [0, 1]), ([2], [2]), ([], []), ([], []), ([4, 5], [4, 5]), ([6], [6]), ([3, 7], [3, 7])])
def spec_l12Fits.B9 : List Nat := [0, 0, 3, 7, 0, 0, 48, 112, 255]
theorem spec_l12Fits.tab9 : rtab .any (opsOf Try.f56 9) = spec_l12Fits.T9 := by kernel_rfl
theorem spec_l12Fits.bits9 : waitsOk spec_l12Fits.T9.2 spec_l12Fits.B9 = true := by kernel_rfl
theorem spec_l12Fits.calls (k : Nat) (A0 : Option Addr) (c0 : Nat) (l0 : List Int) (A1 : Option Addr) (c1 : Nat) (l1 : List Int) (A2 : Option Addr) (c2 : Nat) (l2 : List Int) (r : Bool) (w : World) (Cg : Kd.C (Kd.int .i64) w A0 l0.length l0) (Ch : l0.length ≤ c0) (Ci : Kd.C (Kd.int .i64) w A1 l1.length l1) (Cj : l1.length ≤ c1) (Ck : Kd.C (Kd.int .i64) w A2 l2.length l2) (Cl : l2.length ≤ c2) (h : spec_l12Fits.f k l0 l1 l2 = some r) :
  Calls Try.prog 56 #[.slice A0 l0.length c0, .slice A1 l1.length c1, .slice A2 l2.length c2] w fun e w' => e = .returned (.bool r) ∧ Below w.heap.size w w' := by
 have Cm := Aside0.mk Cg; have Cv := Aside0.mk Ch; clear Cg Ch; have Cn := Aside0.mk Ci; have Cw := Aside0.mk Cj; clear Ci Cj; have Cp := Aside0.mk Ck; have Cx := Aside0.mk Cl; clear Ck Cl; have HB := aM (Below.refl w.heap.size w); have H : (if 0 ≤ (l1.length : Int) then (if ((l1.length : Int) : Int).toNat ≤ 35184372088832 then (spec_l12Fits.l0 k l0 l1 l2 (List.replicate ((l1.length : Int) : Int).toNat 0) 0) else (none)) else (none)) = some r := h; clear h
 by_cases c4 : 0 ≤ (l1.length : Int)
 ·rw [if_pos c4] at H
  have c4b0 := eq_true c4; have c4b1 : decide (0 ≤ (l1.length : Int)) = true := decide_eq_true c4; clear c4
  by_cases c5 : ((l1.length : Int) : Int).toNat ≤ 35184372088832
  ·rw [if_pos c5] at H
   have c5b0 := eq_true c5; have c5b1 : decide (((l1.length : Int) : Int).toNat ≤ 35184372088832) = true := decide_eq_true c5; clear c5; obtain ⟨Bp, Ak⟩ : ∃ y_ : List Int, y_ = (List.replicate ((l1.length : Int) : Int).toNat 0) := ⟨_, rfl⟩
   replace H : (spec_l12Fits.l0 k l0 l1 l2 Bp 0) = some r := by first | (rw [Ak]; with_reducible exact H) | (have H2_ := (Option.bind_some _ _).symm.trans H; rw [Ak]; with_reducible exact H2_) | (have H2_ := (Option.bind_some _ _).symm.trans H; with_reducible exact H2_) | with_reducible exact H | (rw [Ak]; exact H) | exact H
   have Bg := Aside0.mk Ak; clear Ak; have H' := Aside0.mk H; clear H
   go_enter Try.func56, Try.ntmps56
   go_wp2_with (first | ((with_reducible refine gate_dst (N := 12) rfl ?_); (try (refine gate_guard (by rfl) ?_; dsimp only)); refine Kd.R_make (Kd.int .i64) _ 3 rfl (N := 12) rfl 22 _ _ rfl (l1.length : Int) rfl rfl Try.underlying22 (.int .i64 0) 8 info3 rfl (by decide) (by omega) 0 (ok := fun _ => True) (okp := fun _ => True) rfl (fun _ hk => hk) trivial (of_decide_eq_true Z3) (Nat.le_trans (Nat.mul_le_mul_right _ (of_decide_eq_true Z3 : (l1.length : Int).toNat ≤ 35184372088832)) (by omega)) (Below.refl _ _) (Nat.le_refl _) ?_; intro Bq w6 Br hb hg_ hnew_; clear hg_ hnew_; (first | rw [← Bg.out] at Br | (simp only [Int.reduceToNat] at Br; rw [← Bg.out] at Br)); have Bs := aM (Kd.R_lower Br (below_size Z0)); replace HB := hbS Z0 hb; clear hb Br))
   go_loopg [8] k (fun kq v8 w' => ∃ (Ab : List Int) (Aa : Int), v8 = .int .i64 Aa ∧ Aside0 (spec_l12Fits.l0 kq l0 l1 l2 Ab Aa = some r) ∧ Aside0 (kq ≤ k) ∧ Aside0 (Kd.R (Kd.int .i64) 3 w' w.heap.size (fun _ => True) Bq Ab) ∧ Aside0 (Below w.heap.size w w'))
   case atStart => exact ⟨(Bp), (0), Z14, H', ⟨Nat.le_refl _⟩, ⟨by (with_reducible repeat (first | apply Kd.R_alloc | apply Kd.R_drewN | apply Kd.R_drew)); exact Bs.out⟩, ⟨Z0⟩⟩
   case round =>
    clear H'; (try clear c1); (try clear c2); (try clear p2); (try clear c4); (try clear c4b0); (try clear c4b1); (try clear c5); (try clear c5b0); (try clear c5b1); obtain ⟨Ab, Aa, rfl, HA, HK1, Ac, HB⟩ := hrel; cases gk with
    | zero => exact absurd HA.out (by simp [spec_l12Fits.l0])
    | succ k1 =>
     have H := HA.out; clear HA
     simp only [spec_l12Fits.l0] at H
     by_cases c8 : Aa < (l2.length : Int)
     ·rw [if_pos c8] at H
      have c8b0 : decide (Aa < (l2.length : Int)) = true := decide_eq_true c8; clear c8
      by_cases c9 : 0 ≤ Aa
      ·rw [if_pos c9] at H
       have c9b0 : decide (0 ≤ Aa) = true := decide_eq_true c9; clear c9; have Bh := Aside0.mk H; clear H; have Bd : 0 ≤ (Aa : Int) := of_decide_eq_true Z3; have Bf : Aa < (l2.length : Int) := of_decide_eq_true Z3; obtain ⟨ad283, e283, Aj⟩ := Kd.at_int Cp.out Aa Bd Bf; cases e283; replace Aj := (HB.out.cell (World.block_lt_of_cell? w _ Aj)).trans Aj; replace Bd := eq_true Bd; replace Bf := eq_true Bf
       go_upto_region 6 with (fail)
       go_cut [34] (fun Cq wc => ∃ (kq : Nat) (Az : Bool), Cq = .bool Az ∧ Aside0 (spec_l12Fits.j1 kq l0 l1 l2 Ab Aa (rd l2 Aa) Az = some r) ∧ Aside0 (kq ≤ k1) ∧ Aside0 (Kd.R (Kd.int .i64) 3 wc w.heap.size (fun _ => True) Bq Ab) ∧ Aside0 (Below w.heap.size w wc))
       case first =>
        have H := Bh.out; clear Bh; replace H := Option.bind_eq_some_iff.mp H; obtain ⟨Bt, Bu, H⟩ := H; replace H : (if Bt = true then (spec_l12Fits.j1 k1 l0 l1 l2 Ab Aa (rd l2 Aa) (decide (Aa ≥ (l0.length : Int)))) else (spec_l12Fits.j1 k1 l0 l1 l2 Ab Aa (rd l2 Aa) true)) = some r := H; have Co := Aside0.mk Bu; clear Bu
        by_cases Bv : Bt = true
        ·subst Bv
         have H1 : (spec_l12Fits.j1 k1 l0 l1 l2 Ab Aa (rd l2 Aa) (decide (Aa ≥ (l0.length : Int)))) = some r := by rw [if_pos rfl] at H; exact H
         clear H; have H := H1; clear H1; have H' := Aside0.mk H; clear H
         go_wp2_with (first | ((with_reducible refine gate_callee (f := 65) rfl ?_); refine glE (some 27) Try.func65 #[.int .i64 (rd l2 Aa), .int .i64 0, .int .i64 (wrap64 ((l1.length : Int) - 1))] ?_; (with_reducible refine (spec_l1In.calls (rd l2 Aa) 0 (wrap64 ((l1.length : Int) - 1)) true _ Co.out).mono ?_); rintro e w' ⟨rfl, ⟨nd, rfl⟩⟩; refine ⟨_, rfl, ?_⟩))
         go_meet
         case rel => exact ⟨_, (decide (Aa ≥ (l0.length : Int))), Z14, H', ⟨Z202⟩, ⟨Z26⟩, ⟨Z0⟩⟩
        ·replace Bv := Bool.eq_false_iff.mpr Bv
         subst Bv
         have H1 : (spec_l12Fits.j1 k1 l0 l1 l2 Ab Aa (rd l2 Aa) true) = some r := by rw [if_neg (show ¬ (false = true) by decide)] at H; exact H
         clear H; have H := H1; clear H1; have H' := Aside0.mk H; clear H
         go_wp2_with (first | ((with_reducible refine gate_callee (f := 65) rfl ?_); refine glE (some 27) Try.func65 #[.int .i64 (rd l2 Aa), .int .i64 0, .int .i64 (wrap64 ((l1.length : Int) - 1))] ?_; (with_reducible refine (spec_l1In.calls (rd l2 Aa) 0 (wrap64 ((l1.length : Int) - 1)) false _ Co.out).mono ?_); rintro e w' ⟨rfl, ⟨nd, rfl⟩⟩; refine ⟨_, rfl, ?_⟩))
         go_meet
         case rel => exact ⟨_, (true), Z14, H', ⟨Z202⟩, ⟨Z26⟩, ⟨Z0⟩⟩
       case rest =>
        clear Bh; (try clear c1); (try clear c2); (try clear p2); (try clear q2); (try clear Cy); (try clear c4); (try clear c4b0); (try clear c4b1); (try clear c5); (try clear c5b0); (try clear c5b1); (try clear c6); (try clear p6); (try clear c8); (try clear c8b0); (try clear c9); (try clear c9b0); (try clear Bv); (try clear Aj); (try clear p2); (try clear Bd); (try clear Bf); obtain ⟨kq, Az, rfl, HA, HJ9, Ac, HB⟩ := hcut; cases kq with
        | zero => exact absurd HA.out (by simp [spec_l12Fits.j1])
        | succ Ca =>
         have H := HA.out; clear HA
         simp only [spec_l12Fits.j1] at H
         by_cases Bz : Az = true
         ·subst Bz
          have H1 : (some false) = some r := by rw [if_pos rfl] at H; exact H
          clear H; have H := H1; clear H1; obtain rfl := Option.some.inj H
          go_wp2
          go_ret
          exact ⟨Z10, Z0⟩
         ·replace Bz := Bool.eq_false_iff.mpr Bz
          subst Bz
          have H1 : (if 0 ≤ (rd l2 Aa) then (if (rd l2 Aa) < (Ab.length : Int) then (if 0 ≤ Aa then (if Aa < (l0.length : Int) then ((some (Ab.set ((rd l2 Aa) : Int).toNat (wrap64 ((rd Ab (rd l2 Aa)) + (rd l0 Aa))) : List Int)).bind fun Ah => (if (rd l2 Aa) < (l1.length : Int) then (if (rd Ah (rd l2 Aa)) > (rd l1 (rd l2 Aa)) then (some false) else (spec_l12Fits.l0 Ca l0 l1 l2 Ah (wrap64 (Aa + 1)))) else (none))) else (none)) else (none)) else (none)) else (none)) = some r := by rw [if_neg (show ¬ (false = true) by decide)] at H; exact H
          clear H; have H := H1; clear H1
          by_cases B0 : 0 ≤ (rd l2 Aa)
          ·rw [if_pos B0] at H
           have c14b0 : decide (0 ≤ (rd l2 Aa)) = true := decide_eq_true B0; clear B0
           by_cases B2 : (rd l2 Aa) < (Ab.length : Int)
           ·rw [if_pos B2] at H
            have c15b0 : decide ((rd l2 Aa) < (Ab.length : Int)) = true := decide_eq_true B2; clear B2
            by_cases B5 : 0 ≤ Aa
            ·rw [if_pos B5] at H
             have c16b0 : decide (0 ≤ Aa) = true := decide_eq_true B5; clear B5
             by_cases B6 : Aa < (l0.length : Int)
             ·rw [if_pos B6] at H
              have c17b0 : decide (Aa < (l0.length : Int)) = true := decide_eq_true B6; clear B6; obtain ⟨Ah, Al⟩ : ∃ y_ : List Int, y_ = (Ab.set ((rd l2 Aa) : Int).toNat (wrap64 ((rd Ab (rd l2 Aa)) + (rd l0 Aa)))) := ⟨_, rfl⟩
              replace H : (if (rd l2 Aa) < (l1.length : Int) then (if (rd Ah (rd l2 Aa)) > (rd l1 (rd l2 Aa)) then (some false) else (spec_l12Fits.l0 Ca l0 l1 l2 Ah (wrap64 (Aa + 1)))) else (none)) = some r := by first | (rw [Al]; with_reducible exact H) | (have H2_ := (Option.bind_some _ _).symm.trans H; rw [Al]; with_reducible exact H2_) | (have H2_ := (Option.bind_some _ _).symm.trans H; with_reducible exact H2_) | with_reducible exact H | (rw [Al]; exact H) | exact H
              have Ba := Aside0.mk Al; clear Al
              by_cases B7 : (rd l2 Aa) < (l1.length : Int)
              ·rw [if_pos B7] at H
               have c19b0 : decide ((rd l2 Aa) < (l1.length : Int)) = true := decide_eq_true B7; clear B7
               by_cases Bo : (rd Ah (rd l2 Aa)) > (rd l1 (rd l2 Aa))
               ·rw [if_pos Bo] at H
                have c20b0 : decide ((rd l1 (rd l2 Aa)) < (rd Ah (rd l2 Aa))) = true := decide_eq_true Bo; clear Bo; obtain rfl := Option.some.inj H
                try go_wp2
                replace Ac := aM (Kd.R_drew Ac.out); replace HB := aM (below_drew1 HB.out); obtain ⟨Cr, Cb, Bw⟩ := Kd.R_slice Ac.out
                (first | subst Bw | (injection Bw with f1_ f2_ f3_; have f4_ := f1_.symm; have f5_ := f3_.symm; clear f1_ f2_ f3_; subst f4_; subst f5_))
                have Am : 0 ≤ ((rd l2 Aa) : Int) := of_decide_eq_true Z3; have An : (rd l2 Aa) < (Ab.length : Int) := of_decide_eq_true Z3; obtain ⟨ad285, e285, Ag⟩ := Kd.at_int (Kd.R_reads' Ac.out).2.2 (rd l2 Aa) Am An; cases e285; replace Am := eq_true Am; replace An := eq_true An; have Ao : 0 ≤ (Aa : Int) := of_decide_eq_true Z3; have Ap : Aa < (l0.length : Int) := of_decide_eq_true Z3; obtain ⟨ad286, e286, Ad⟩ := Kd.at_int Cm.out Aa Ao Ap; have hw286_0 := Ad; cases e286; replace Ad := (HB.out.cell (World.block_lt_of_cell? w _ Ad)).trans Ad; replace Ao := eq_true Ao; replace Ap := eq_true Ap; have Bi : 0 ≤ ((rd l2 Aa) : Int) := of_decide_eq_true Z3; have Bj : ((rd l2 Aa) : Int) < ((Ab.length : Int) : Int) := of_decide_eq_true Z3; obtain ⟨Ai, Cc, Bb, Bc, gl18, cl18, HG18⟩ := Kd.R_form Ac.out (by omega)
                (first | cases Bb | (injection Bb with ea_ en_ ec_; (first | subst ea_ | (injection ea_ with ea_; subst ea_)); subst ec_; clear en_))
                have Bk := Aside0.mk Bc; have Bl := Aside0.mk HG18; clear Bc gl18 HG18
                (first | simp only [add_plain] at Ag | skip)
                obtain ⟨Aq, Ar⟩ := Kd.R_celln 0 Ac.out ((rd l2 Aa) : Int) Bi Bj; replace Bi := eq_true Bi; replace Bj := eq_true Bj; have Bm := Kd.R_putn Ac.out ((rd l2 Aa) : Int) (wrap64 ((rd Ab (rd l2 Aa)) + (rd l0 Aa))); rw [← Ba.out] at Bm; have HQ23 := Aside0.mk Bm; clear Bm; refine start_ (n := 13) (S := fun w' => w'.cell? ⟨Ai, ((rd l2 Aa)).toNat, none⟩ = some (.int .i64 (rd Ab (rd l2 Aa))) ∧ w'.cell? (ad286.add (Aa).toNat) = some (.int .i64 (rd l0 Aa))) (ds := [12]) #[false, false, false, false, false, false, false, false, false, false, false, false, false] Z61 rfl rfl ⟨Ag, ((HB.out.cell (World.block_lt_of_cell? w _ hw286_0)).trans hw286_0)⟩ (fun hHeld => ?_); refine with_tabW spec_l12Fits.tab8 spec_l12Fits.bits8 (fun HT_ HW_ => ?_)
                generalize wc.drew = Cd at Ac HB Bl HQ23 Ar Aq Ag Ad hHeld ⊢
                refine puR 0 35 #[true, false, false, false, false, false, false, false, false, false, false, false, false] HT_ rfl rfl ?_; refine puR 1 36 #[true, true, false, false, false, false, false, false, false, false, false, false, false] HT_ rfl rfl ?_; refine puR 2 37 #[true, true, true, false, false, false, false, false, false, false, false, false, false] HT_ rfl rfl ?_; refine puR 3 38 #[true, true, true, true, false, false, false, false, false, false, false, false, false] HT_ rfl rfl ?_; refine puR 4 39 #[true, true, true, true, true, false, false, false, false, false, false, false, false] HT_ rfl rfl ?_; refine puR 6 41 #[true, true, true, true, true, false, true, false, false, false, false, false, false] HT_ rfl rfl ?_; refine puR 7 42 #[true, true, true, true, true, false, true, true, false, false, false, false, false] HT_ rfl rfl ?_; refine puR 8 43 #[true, true, true, true, true, false, true, true, true, false, false, false, false] HT_ rfl rfl ?_; refine taR 5 40 #[true, true, true, true, true, true, true, true, true, false, false, false, false] HT_ HW_ hHeld rfl rfl ?_; refine taR 9 44 #[true, true, true, true, true, true, true, true, true, true, false, false, false] HT_ HW_ hHeld rfl rfl ?_; refine puR 10 45 #[true, true, true, true, true, true, true, true, true, true, true, false, false] HT_ rfl rfl ?_; refine puR 11 46 #[true, true, true, true, true, true, true, true, true, true, true, true, false] HT_ rfl rfl ?_; refine last_ (i := 12) (N := none) #[true, true, true, true, true, true, true, true, true, true, true, true, true] rfl rfl (one_of HT_.out Z61) (by decide) (fun K hK => ?_); refine skip_ (w1 := ?_) (by rfl) rfl ?_ ?_
                rotate_left
                ·go_simp
                 rfl
                refine hK.out _ _ ?_; clear hK K; refine done_ (done_of HT_.out Z61) ?_
                try go_wp2
                have n0_ : Aside0 (Kd.R (Kd.int .i64) 3 (Cd.setCell ⟨Ai, ((rd l2 Aa) : Int).toNat, none⟩ (.int .i64 (wrap64 ((rd Ab (rd l2 Aa)) + (rd l0 Aa))))) w.heap.size (fun _ => True) (.slice (some ⟨Ai, 0, none⟩) Ab.length Cb) Ah) := ⟨by (with_reducible repeat (first | apply Kd.R_alloc | apply Kd.R_drewN | apply Kd.R_drew)); exact HQ23.out⟩; have n1_ : Aside0 (Below w.heap.size w (Cd.setCell ⟨Ai, ((rd l2 Aa) : Int).toNat, none⟩ (.int .i64 (wrap64 ((rd Ab (rd l2 Aa)) + (rd l0 Aa)))))) := ⟨Z149⟩; (try clear Ac); (try clear HB)
                generalize (Cd.setCell ⟨Ai, ((rd l2 Aa) : Int).toNat, none⟩ (.int .i64 (wrap64 ((rd Ab (rd l2 Aa)) + (rd l0 Aa))))) = Cs at n0_ n1_ ⊢
                have Ac := n0_; have HB := n1_; clear n0_ n1_; replace Ac := aM (Kd.R_drew Ac.out); replace HB := aM (below_drew1 HB.out); have Au : 0 ≤ ((rd l2 Aa) : Int) := of_decide_eq_true Z3; have Aw : (rd l2 Aa) < (Ah.length : Int) := Z217; have ql288 : (((rd l2 Aa) : Int) < ((Ab.length : Int) : Int)) = True := eq_true (of_decide_eq_true Z3); obtain ⟨ad288, e288, Ae⟩ := Kd.at_int (Kd.R_reads' Ac.out).2.2 (rd l2 Aa) Au Aw; obtain rfl : (⟨Ai, 0, none⟩ : Addr) = ad288 := (by injection e288)
                (first | simp only [add_plain] at Ae | simp only [add_at] at Ae | simp only [Addr.add, Nat.zero_add] at Ae | skip)
                replace Au := eq_true Au; replace Aw := eq_true Aw; have Ax : 0 ≤ ((rd l2 Aa) : Int) := of_decide_eq_true Z3; have Ay : (rd l2 Aa) < (l1.length : Int) := of_decide_eq_true Z3; obtain ⟨ad289, e289, Af⟩ := Kd.at_int Cn.out (rd l2 Aa) Ax Ay; have hw289_0 := Af; cases e289; replace Af := (HB.out.cell (World.block_lt_of_cell? w _ Af)).trans Af; replace Ax := eq_true Ax; replace Ay := eq_true Ay; refine start_ (n := 9) (S := fun w' => w'.cell? ⟨Ai, ((rd l2 Aa)).toNat, none⟩ = some (.int .i64 (rd Ah (rd l2 Aa))) ∧ w'.cell? (ad289.add ((rd l2 Aa)).toNat) = some (.int .i64 (rd l1 (rd l2 Aa)))) (ds := []) #[false, false, false, false, false, false, false, false, false] Z61 rfl rfl ⟨Ae, ((HB.out.cell (World.block_lt_of_cell? w _ hw289_0)).trans hw289_0)⟩ (fun hHeld => ?_); refine with_tabW spec_l12Fits.tab9 spec_l12Fits.bits9 (fun HT_ HW_ => ?_)
                generalize Cs.drew = Cz at Ac HB HQ23 Ae Af hHeld ⊢
                refine puR 0 47 #[true, false, false, false, false, false, false, false, false] HT_ rfl rfl ?_; refine puR 1 48 #[true, true, false, false, false, false, false, false, false] HT_ rfl rfl ?_; refine puR 2 49 #[true, true, true, false, false, false, false, false, false] HT_ rfl rfl ?_; refine puR 4 51 #[true, true, true, false, true, false, false, false, false] HT_ rfl rfl ?_; refine puR 5 52 #[true, true, true, false, true, true, false, false, false] HT_ rfl rfl ?_; refine puR 6 53 #[true, true, true, false, true, true, true, false, false] HT_ rfl rfl ?_; refine taR 3 50 #[true, true, true, true, true, true, true, false, false] HT_ HW_ hHeld rfl rfl ?_; refine taR 7 54 #[true, true, true, true, true, true, true, true, false] HT_ HW_ hHeld rfl rfl ?_; refine puR 8 55 #[true, true, true, true, true, true, true, true, true] HT_ rfl rfl ?_; refine done_ (done_of HT_.out Z61) ?_
                try go_wp2
                go_ret
                exact ⟨Z10, Z0⟩
               ·rw [if_neg Bo] at H
                have c20b0 : decide ((rd l1 (rd l2 Aa)) < (rd Ah (rd l2 Aa))) = false := decide_eq_false Bo; clear Bo; have H' := Aside0.mk H; clear H
                try go_wp2
                replace Ac := aM (Kd.R_drew Ac.out); replace HB := aM (below_drew1 HB.out); obtain ⟨Ct, Ce, Bx⟩ := Kd.R_slice Ac.out
                (first | subst Bx | (injection Bx with f1_ f2_ f3_; have f4_ := f1_.symm; have f5_ := f3_.symm; clear f1_ f2_ f3_; subst f4_; subst f5_))
                have Am : 0 ≤ ((rd l2 Aa) : Int) := of_decide_eq_true Z3; have An : (rd l2 Aa) < (Ab.length : Int) := of_decide_eq_true Z3; obtain ⟨ad285, e285, Ag⟩ := Kd.at_int (Kd.R_reads' Ac.out).2.2 (rd l2 Aa) Am An; cases e285; replace Am := eq_true Am; replace An := eq_true An; have Ao : 0 ≤ (Aa : Int) := of_decide_eq_true Z3; have Ap : Aa < (l0.length : Int) := of_decide_eq_true Z3; obtain ⟨ad286, e286, Ad⟩ := Kd.at_int Cm.out Aa Ao Ap; have hw286_0 := Ad; cases e286; replace Ad := (HB.out.cell (World.block_lt_of_cell? w _ Ad)).trans Ad; replace Ao := eq_true Ao; replace Ap := eq_true Ap; have Bi : 0 ≤ ((rd l2 Aa) : Int) := of_decide_eq_true Z3; have Bj : ((rd l2 Aa) : Int) < ((Ab.length : Int) : Int) := of_decide_eq_true Z3; obtain ⟨Ai, Cc, Bb, Bc, gl18, cl18, HG18⟩ := Kd.R_form Ac.out (by omega)
                (first | cases Bb | (injection Bb with ea_ en_ ec_; (first | subst ea_ | (injection ea_ with ea_; subst ea_)); subst ec_; clear en_))
                have Bk := Aside0.mk Bc; have Bl := Aside0.mk HG18; clear Bc gl18 HG18
                (first | simp only [add_plain] at Ag | skip)
                obtain ⟨Aq, Ar⟩ := Kd.R_celln 0 Ac.out ((rd l2 Aa) : Int) Bi Bj; replace Bi := eq_true Bi; replace Bj := eq_true Bj; have Bn := Kd.R_putn Ac.out ((rd l2 Aa) : Int) (wrap64 ((rd Ab (rd l2 Aa)) + (rd l0 Aa))); rw [← Ba.out] at Bn; have HQ28 := Aside0.mk Bn; clear Bn; refine start_ (n := 13) (S := fun w' => w'.cell? ⟨Ai, ((rd l2 Aa)).toNat, none⟩ = some (.int .i64 (rd Ab (rd l2 Aa))) ∧ w'.cell? (ad286.add (Aa).toNat) = some (.int .i64 (rd l0 Aa))) (ds := [12]) #[false, false, false, false, false, false, false, false, false, false, false, false, false] Z61 rfl rfl ⟨Ag, ((HB.out.cell (World.block_lt_of_cell? w _ hw286_0)).trans hw286_0)⟩ (fun hHeld => ?_); refine with_tabW spec_l12Fits.tab8 spec_l12Fits.bits8 (fun HT_ HW_ => ?_)
                generalize wc.drew = Cf at Ac HB Bl HQ28 Ar Aq Ag Ad hHeld ⊢
                refine puR 0 35 #[true, false, false, false, false, false, false, false, false, false, false, false, false] HT_ rfl rfl ?_; refine puR 1 36 #[true, true, false, false, false, false, false, false, false, false, false, false, false] HT_ rfl rfl ?_; refine puR 2 37 #[true, true, true, false, false, false, false, false, false, false, false, false, false] HT_ rfl rfl ?_; refine puR 3 38 #[true, true, true, true, false, false, false, false, false, false, false, false, false] HT_ rfl rfl ?_; refine puR 4 39 #[true, true, true, true, true, false, false, false, false, false, false, false, false] HT_ rfl rfl ?_; refine puR 6 41 #[true, true, true, true, true, false, true, false, false, false, false, false, false] HT_ rfl rfl ?_; refine puR 7 42 #[true, true, true, true, true, false, true, true, false, false, false, false, false] HT_ rfl rfl ?_; refine puR 8 43 #[true, true, true, true, true, false, true, true, true, false, false, false, false] HT_ rfl rfl ?_; refine taR 5 40 #[true, true, true, true, true, true, true, true, true, false, false, false, false] HT_ HW_ hHeld rfl rfl ?_; refine taR 9 44 #[true, true, true, true, true, true, true, true, true, true, false, false, false] HT_ HW_ hHeld rfl rfl ?_; refine puR 10 45 #[true, true, true, true, true, true, true, true, true, true, true, false, false] HT_ rfl rfl ?_; refine puR 11 46 #[true, true, true, true, true, true, true, true, true, true, true, true, false] HT_ rfl rfl ?_; refine last_ (i := 12) (N := none) #[true, true, true, true, true, true, true, true, true, true, true, true, true] rfl rfl (one_of HT_.out Z61) (by decide) (fun K hK => ?_); refine skip_ (w1 := ?_) (by rfl) rfl ?_ ?_
                rotate_left
                ·go_simp
                 rfl
                refine hK.out _ _ ?_; clear hK K; refine done_ (done_of HT_.out Z61) ?_
                try go_wp2
                have n0_ : Aside0 (Kd.R (Kd.int .i64) 3 (Cf.setCell ⟨Ai, ((rd l2 Aa) : Int).toNat, none⟩ (.int .i64 (wrap64 ((rd Ab (rd l2 Aa)) + (rd l0 Aa))))) w.heap.size (fun _ => True) (.slice (some ⟨Ai, 0, none⟩) Ab.length Ce) Ah) := ⟨by (with_reducible repeat (first | apply Kd.R_alloc | apply Kd.R_drewN | apply Kd.R_drew)); exact HQ28.out⟩; have n1_ : Aside0 (Below w.heap.size w (Cf.setCell ⟨Ai, ((rd l2 Aa) : Int).toNat, none⟩ (.int .i64 (wrap64 ((rd Ab (rd l2 Aa)) + (rd l0 Aa)))))) := ⟨Z149⟩; (try clear Ac); (try clear HB)
                generalize (Cf.setCell ⟨Ai, ((rd l2 Aa) : Int).toNat, none⟩ (.int .i64 (wrap64 ((rd Ab (rd l2 Aa)) + (rd l0 Aa))))) = Cu at n0_ n1_ ⊢
                have Ac := n0_; have HB := n1_; clear n0_ n1_; replace Ac := aM (Kd.R_drew Ac.out); replace HB := aM (below_drew1 HB.out); have Au : 0 ≤ ((rd l2 Aa) : Int) := of_decide_eq_true Z3; have Aw : (rd l2 Aa) < (Ah.length : Int) := Z217; have ql288 : (((rd l2 Aa) : Int) < ((Ab.length : Int) : Int)) = True := eq_true (of_decide_eq_true Z3); obtain ⟨ad288, e288, Ae⟩ := Kd.at_int (Kd.R_reads' Ac.out).2.2 (rd l2 Aa) Au Aw; obtain rfl : (⟨Ai, 0, none⟩ : Addr) = ad288 := (by injection e288)
                (first | simp only [add_plain] at Ae | simp only [add_at] at Ae | simp only [Addr.add, Nat.zero_add] at Ae | skip)
                replace Au := eq_true Au; replace Aw := eq_true Aw; have Ax : 0 ≤ ((rd l2 Aa) : Int) := of_decide_eq_true Z3; have Ay : (rd l2 Aa) < (l1.length : Int) := of_decide_eq_true Z3; obtain ⟨ad289, e289, Af⟩ := Kd.at_int Cn.out (rd l2 Aa) Ax Ay; have hw289_0 := Af; cases e289; replace Af := (HB.out.cell (World.block_lt_of_cell? w _ Af)).trans Af; replace Ax := eq_true Ax; replace Ay := eq_true Ay; refine start_ (n := 9) (S := fun w' => w'.cell? ⟨Ai, ((rd l2 Aa)).toNat, none⟩ = some (.int .i64 (rd Ah (rd l2 Aa))) ∧ w'.cell? (ad289.add ((rd l2 Aa)).toNat) = some (.int .i64 (rd l1 (rd l2 Aa)))) (ds := []) #[false, false, false, false, false, false, false, false, false] Z61 rfl rfl ⟨Ae, ((HB.out.cell (World.block_lt_of_cell? w _ hw289_0)).trans hw289_0)⟩ (fun hHeld => ?_); refine with_tabW spec_l12Fits.tab9 spec_l12Fits.bits9 (fun HT_ HW_ => ?_)
                generalize Cu.drew = C0 at Ac HB HQ28 Ae Af hHeld ⊢
                refine puR 0 47 #[true, false, false, false, false, false, false, false, false] HT_ rfl rfl ?_; refine puR 1 48 #[true, true, false, false, false, false, false, false, false] HT_ rfl rfl ?_; refine puR 2 49 #[true, true, true, false, false, false, false, false, false] HT_ rfl rfl ?_; refine puR 4 51 #[true, true, true, false, true, false, false, false, false] HT_ rfl rfl ?_; refine puR 5 52 #[true, true, true, false, true, true, false, false, false] HT_ rfl rfl ?_; refine puR 6 53 #[true, true, true, false, true, true, true, false, false] HT_ rfl rfl ?_; refine taR 3 50 #[true, true, true, true, true, true, true, false, false] HT_ HW_ hHeld rfl rfl ?_; refine taR 7 54 #[true, true, true, true, true, true, true, true, false] HT_ HW_ hHeld rfl rfl ?_; refine puR 8 55 #[true, true, true, true, true, true, true, true, true] HT_ rfl rfl ?_; refine done_ (done_of HT_.out Z61) ?_
                try go_wp2
                go_roundg Ca
                case measure => have := HK1.out; have := HJ9.out; omega
                case rel => exact ⟨(Ah), (wrap64 (Aa + 1)), Z14, H', ⟨by have := HK1.out; have := HJ9.out; omega⟩, ⟨Z26⟩, ⟨Z0⟩⟩
              ·rw [if_neg B7] at H
               exact absurd H (by simp)
             ·rw [if_neg B6] at H
              exact absurd H (by simp)
            ·rw [if_neg B5] at H
             exact absurd H (by simp)
           ·rw [if_neg B2] at H
            exact absurd H (by simp)
          ·rw [if_neg B0] at H
           exact absurd H (by simp)
      ·rw [if_neg c9] at H
       exact absurd H (by simp)
     ·rw [if_neg c8] at H
      have c8b0 : decide (Aa < (l2.length : Int)) = false := decide_eq_false c8; clear c8; obtain rfl := Option.some.inj H
      go_wp2
      go_ret
      exact ⟨Z10, Z0⟩
  ·rw [if_neg c5] at H
   exact absurd H (by simp)
 ·rw [if_neg c4] at H
  exact absurd H (by simp)
def spec_IsAssignment.f (k : Nat) (a0_0 : Int) (a0_1 : Int) (l0_2 : List Int) (a1 : Int) (l2 : List Int) (l3 : List Int) : Option (Bool × Bool) := (spec_l12Asked.f k a0_0 a0_1 l0_2 a1 l2).bind fun t291 => (if t291 = true then ((spec_l12Color.f k a0_0 a0_1 l0_2 a1).bind fun t292 => (if (l3.length : Int) = (t292.length : Int) then ((spec_l12Fits.f k t292 l2 l3).bind fun t295 => (some (t295, true))) else (some (false, true)))) else (some (false, false)))
theorem spec_IsAssignment.calls (k : Nat) (Ae : Int) (Af : Int) (Ah : Option Addr) (Ai : Nat) (Ab : List Int) (a1 : Int) (A2 : Option Addr) (c2 : Nat) (l2 : List Int) (A3 : Option Addr) (c3 : Nat) (l3 : List Int) (r1 : Bool) (r2 : Bool) (w : World) (An : Kd.C (Kd.int .i64) w Ah Ab.length Ab) (Ao : Ab.length ≤ Ai) (Cb : Kd.C (Kd.int .i64) w A2 l2.length l2) (Cc : l2.length ≤ c2) (Cd : Kd.C (Kd.int .i64) w A3 l3.length l3) (Ce : l3.length ≤ c3) (h : spec_IsAssignment.f k Ae Af Ab a1 l2 l3 = some (r1, r2)) :
  Calls Try.prog 27 #[.agg #[.int .i64 Ae, .int .i64 Af, .slice Ah Ab.length Ai], .int .i64 a1, .slice A2 l2.length c2, .slice A3 l3.length c3] w fun e w' => e = .returned (.tuple #[.bool r1, .bool r2]) ∧ Below w.heap.size w w' := by
 have hu28 := Try.underlying28; have Ak := Aside0.mk An; have Al := Aside0.mk Ao; clear An Ao; have Au := Aside0.mk Cb; have Aw := Aside0.mk Cc; clear Cb Cc; have Ci := Aside0.mk Cd; have Cj := Aside0.mk Ce; clear Cd Ce; have HB := aM (Below.refl w.heap.size w); have H : ((spec_l12Asked.f k Ae Af Ab a1 l2).bind fun Am => (if Am = true then ((spec_l12Color.f k Ae Af Ab a1).bind fun Ac => (if (l3.length : Int) = (Ac.length : Int) then ((spec_l12Fits.f k Ac l2 l3).bind fun Aj => (some (Aj, true))) else (some (false, true)))) else (some (false, false)))) = some (r1, r2) := h; clear h; replace H := Option.bind_eq_some_iff.mp H; obtain ⟨Am, Cf, H⟩ := H; replace H : (if Am = true then ((spec_l12Color.f k Ae Af Ab a1).bind fun Ac => (if (l3.length : Int) = (Ac.length : Int) then ((spec_l12Fits.f k Ac l2 l3).bind fun Aj => (some (Aj, true))) else (some (false, true)))) else (some (false, false))) = some (r1, r2) := H; have A5 := Aside0.mk Cf; clear Cf
 by_cases c6 : Am = true
 ·subst c6
  have H1 : ((spec_l12Color.f k Ae Af Ab a1).bind fun Ac => (if (l3.length : Int) = (Ac.length : Int) then ((spec_l12Fits.f k Ac l2 l3).bind fun Aj => (some (Aj, true))) else (some (false, true)))) = some (r1, r2) := by rw [if_pos rfl] at H; exact H
  clear H; have H := H1; clear H1; replace H := Option.bind_eq_some_iff.mp H; obtain ⟨Ac, Cg, H⟩ := H; replace H : (if (l3.length : Int) = (Ac.length : Int) then ((spec_l12Fits.f k Ac l2 l3).bind fun Aj => (some (Aj, true))) else (some (false, true))) = some (r1, r2) := H; have A7 := Aside0.mk Cg; clear Cg
  by_cases c8 : (l3.length : Int) = (Ac.length : Int)
  ·rw [if_pos c8] at H
   have c8b0 : ((l3.length : Int) == (Ac.length : Int)) = true := beq_iff_eq.mpr c8; have c8b1 : ((l3.length : Int) != (Ac.length : Int)) = false := bne_eq_false_iff_eq.mpr c8
   have c8b2 : (l3.length == Ac.length) = true := by first | simpa using c8 | (simp at c8 ⊢; omega)
   clear c8; replace H := Option.bind_eq_some_iff.mp H; obtain ⟨Aj, Ch, H⟩ := H; replace H : (some (Aj, true)) = some (r1, r2) := H; have A9 := Aside0.mk Ch; clear Ch
   simp only [Option.some.injEq, Prod.mk.injEq] at H
   obtain ⟨rfl, rfl⟩ := H
   go_enter Try.func27, Try.ntmps27
   go_wp2_with (first | ((with_reducible refine gate_dst (N := 4) rfl ?_); refine bxE 4 #[.int .i64 Ae, .int .i64 Af, .slice Ah Ab.length Ai] 28 ?_; intro Ap hg Co hbox hb; have Aa := aM (hbox); have Aq := gwS hg Z0; have Ad := gwS hg Z0; replace HB := hbS Z0 hb; clear hb hbox hg; obtain ⟨Ax, Ay, Az⟩ := bz3 Aa; obtain ⟨Ba, Bb, Bc⟩ := fz3 Aa) | ((with_reducible refine gate_callee (f := 55) rfl ?_); refine glE (some 14) Try.func55 #[.agg #[.int .i64 Ae, .int .i64 Af, .slice Ah Ab.length Ai], .int .i64 a1, .slice A2 l2.length c2] ?_; (with_reducible refine (spec_l12Asked.calls k Ae Af _ _ Ab a1 _ _ l2 true _ ?side1 ?side2 ?side3 ?side4 A5.out).mono ?_); (case side1 => exact Z90); (case side2 => exact Al.out); (case side3 => exact Z103); (case side4 => exact Aw.out); rintro e Cp ⟨rfl, hb⟩; refine ⟨_, rfl, ?_⟩; replace Aa := bkB Aa hb; replace HB := hbS Z17 hb; (try clear hb); obtain ⟨Bd, Bf, Bg⟩ := bz3 Aa; obtain ⟨Bh, Bi, Bj⟩ := fz3 Aa) | ((with_reducible refine gate_callee (f := 52) rfl ?_); refine glE (some 18) Try.func52 #[.agg #[.int .i64 Ae, .int .i64 Af, .slice Ah Ab.length Ai], .int .i64 a1] ?_; (with_reducible refine (spec_l12Color.calls k Ae Af _ _ Ab a1 Ac _ ?side1 ?side2 A7.out).mono ?_); (case side1 => exact Z90); (case side2 => exact Al.out); rintro e Cq ⟨B6, rfl, Ar, hb⟩; refine ⟨_, rfl, ?_⟩; have Ag := aM (Kd.R_lower Ar (below_size Z17)); replace Aa := bkB Aa hb; replace HB := hbS Z17 hb; (try clear hb); (try clear Ar); obtain ⟨Ck, Cl, B7⟩ := Kd.R_slice Ag.out; subst B7) | (go_at_call 56; (with_reducible refine (spec_l12Fits.calls k _ _ Ac _ _ l2 _ _ l3 Aj _ ?side1 ?side2 ?side3 ?side4 ?side5 ?side6 A9.out).mono ?_); (case side1 => exact Z64); (case side2 => exact (Kd.R_reads' Ag.out).2.1); (case side3 => exact Z103); (case side4 => exact Aw.out); (case side5 => exact (by repeat (first | exact (Kd.C_below Ci.out HB.out) | (with_reducible refine Kd.C_alloc ?_ _) | (with_reducible refine Kd.C_drewN ?_ _) | (with_reducible refine Kd.C_drew ?_)))); (case side6 => exact Cj.out); rintro e Cr ⟨rfl, hb⟩; replace Ag := roB Ag hb; replace Aa := bkB Aa hb; replace HB := hbS Z17 hb; (try clear hb)))
   go_ret2
   exact ⟨Z10, Z17⟩
  ·rw [if_neg c8] at H
   have c8b0 : ((l3.length : Int) == (Ac.length : Int)) = false := beq_eq_false_iff_ne.mpr c8; have c8b1 : ((l3.length : Int) != (Ac.length : Int)) = true := bne_iff_ne.mpr c8
   have c8b2 : (l3.length == Ac.length) = false := by first | simpa using c8 | (simp at c8 ⊢; omega)
   simp only [Option.some.injEq, Prod.mk.injEq] at H
   obtain ⟨rfl, rfl⟩ := H
   go_enter Try.func27, Try.ntmps27
   go_wp2_with (first | ((with_reducible refine gate_dst (N := 4) rfl ?_); refine bxE 4 #[.int .i64 Ae, .int .i64 Af, .slice Ah Ab.length Ai] 28 ?_; intro Ap hg Cs hbox hb; have Aa := aM (hbox); have Aq := gwS hg Z0; have Ad := gwS hg Z0; replace HB := hbS Z0 hb; clear hb hbox hg; obtain ⟨Bk, Bl, Bm⟩ := bz3 Aa; obtain ⟨Bn, Bo, Bp⟩ := fz3 Aa) | ((with_reducible refine gate_callee (f := 55) rfl ?_); refine glE (some 14) Try.func55 #[.agg #[.int .i64 Ae, .int .i64 Af, .slice Ah Ab.length Ai], .int .i64 a1, .slice A2 l2.length c2] ?_; (with_reducible refine (spec_l12Asked.calls k Ae Af _ _ Ab a1 _ _ l2 true _ ?side1 ?side2 ?side3 ?side4 A5.out).mono ?_); (case side1 => exact Z90); (case side2 => exact Al.out); (case side3 => exact Z103); (case side4 => exact Aw.out); rintro e Ct ⟨rfl, hb⟩; refine ⟨_, rfl, ?_⟩; replace Aa := bkB Aa hb; replace HB := hbS Z17 hb; (try clear hb); obtain ⟨Bq, Br, Bs⟩ := bz3 Aa; obtain ⟨Bt, Bu, Bv⟩ := fz3 Aa) | ((with_reducible refine gate_callee (f := 52) rfl ?_); refine glE (some 18) Try.func52 #[.agg #[.int .i64 Ae, .int .i64 Af, .slice Ah Ab.length Ai], .int .i64 a1] ?_; (with_reducible refine (spec_l12Color.calls k Ae Af _ _ Ab a1 Ac _ ?side1 ?side2 A7.out).mono ?_); (case side1 => exact Z90); (case side2 => exact Al.out); rintro e Cu ⟨B6, rfl, Ar, hb⟩; refine ⟨_, rfl, ?_⟩; have Ag := aM (Kd.R_lower Ar (below_size Z17)); replace Aa := bkB Aa hb; replace HB := hbS Z17 hb; (try clear hb); (try clear Ar); obtain ⟨Cm, Cn, Ca⟩ := Kd.R_slice Ag.out; subst Ca))
   go_ret2
   exact ⟨Z10, Z17⟩
 ·replace c6 := Bool.eq_false_iff.mpr c6
  subst c6
  have H1 : (some (false, false)) = some (r1, r2) := by rw [if_neg (show ¬ (false = true) by decide)] at H; exact H
  clear H; have H := H1; clear H1
  simp only [Option.some.injEq, Prod.mk.injEq] at H
  obtain ⟨rfl, rfl⟩ := H
  go_enter Try.func27, Try.ntmps27
  go_wp2_with (first | ((with_reducible refine gate_dst (N := 4) rfl ?_); refine bxE 4 #[.int .i64 Ae, .int .i64 Af, .slice Ah Ab.length Ai] 28 ?_; intro Ap hg Cv hbox hb; have Aa := aM (hbox); have Aq := gwS hg Z0; have Ad := gwS hg Z0; replace HB := hbS Z0 hb; clear hb hbox hg; obtain ⟨Bw, Bx, Bz⟩ := bz3 Aa; obtain ⟨B0, B2, B5⟩ := fz3 Aa) | ((with_reducible refine gate_callee (f := 55) rfl ?_); refine glE (some 14) Try.func55 #[.agg #[.int .i64 Ae, .int .i64 Af, .slice Ah Ab.length Ai], .int .i64 a1, .slice A2 l2.length c2] ?_; (with_reducible refine (spec_l12Asked.calls k Ae Af _ _ Ab a1 _ _ l2 false _ ?side1 ?side2 ?side3 ?side4 A5.out).mono ?_); (case side1 => exact Z90); (case side2 => exact Al.out); (case side3 => exact Z103); (case side4 => exact Aw.out); rintro e Cw ⟨rfl, hb⟩; refine ⟨_, rfl, ?_⟩; replace Aa := bkB Aa hb; replace HB := hbS Z17 hb; (try clear hb)))
  go_ret2
  exact ⟨Z10, Z17⟩
def impl_Chart_sizesOf.l0 : Nat → Int → List Int → List Int → List Int → Int → Int → Option (List Int)
 | 0, _, _, _, _, _, _ => none
 | k + 1, x1, x5, x6, x7, x17, x18 => if x18 < x17 then (if 0 ≤ x18 then (if x18 < (x6.length : Int) then (if x18 < (x7.length : Int) then (if (rd x7 x18) = x1 then (if x5.length < 17592186044416 then (impl_Chart_sizesOf.l0 k x1 (x5 ++ [rd x6 x18]) x6 x7 x17 (wrap64 (x18 + 1))) else (none)) else (impl_Chart_sizesOf.l0 k x1 x5 x6 x7 x17 (wrap64 (x18 + 1)))) else (none)) else (none)) else (none)) else (some x5)
def impl_Chart_sizesOf.f (k : Nat) (a0_0 : Int) (a0_1 : Int) (l0_2 : List Int) (a1 : Int) : Option (List Int) := (impl_Chart_sizes.f k a0_0 a0_1 l0_2).bind fun bt300 => (impl_Chart_sizesOf.l0 k a1 (([] : List Int)) bt300.1 bt300.2 (bt300.1.length : Int) 0)
theorem impl_Chart_sizesOf.calls (k : Nat) (Ah : Int) (Ai : Int) (Aw : Option Addr) (Ax : Nat) (Af : List Int) (a1 : Int) (r : List Int) (w : World) (Bb : Kd.C (Kd.int .i64) w Aw Af.length Af) (Bc : Af.length ≤ Ax) (h : impl_Chart_sizesOf.f k Ah Ai Af a1 = some r) :
  Calls Try.prog 54 #[.agg #[.int .i64 Ah, .int .i64 Ai, .slice Aw Af.length Ax], .int .i64 a1] w fun e w' => ∃ v0_ : Value, e = .returned (v0_) ∧ Kd.R (Kd.int .i64) 3 w' w.heap.size (fun _ => True) v0_ r ∧ Below w.heap.size w w' := by
 have hu28 := Try.underlying28; have Br := Aside0.mk Bb; have Bs := Aside0.mk Bc; clear Bb Bc; have HB := aM (Below.refl w.heap.size w); have H : ((impl_Chart_sizes.f k Ah Ai Af).bind fun Ag => (impl_Chart_sizesOf.l0 k a1 (([] : List Int)) Ag.1 Ag.2 (Ag.1.length : Int) 0)) = some r := h; clear h; obtain ⟨Bh, Ak⟩ : ∃ y_ : List Int, y_ = (([] : List Int)) := ⟨_, rfl⟩
 replace H : ((impl_Chart_sizes.f k Ah Ai Af).bind fun Ag => (impl_Chart_sizesOf.l0 k a1 Bh Ag.1 Ag.2 (Ag.1.length : Int) 0)) = some r := by first | (rw [Ak]; with_reducible exact H) | (have H2_ := (Option.bind_some _ _).symm.trans H; rw [Ak]; with_reducible exact H2_) | (have H2_ := (Option.bind_some _ _).symm.trans H; with_reducible exact H2_) | with_reducible exact H | (rw [Ak]; exact H) | exact H
 have Bd := Aside0.mk Ak; clear Ak; replace H := Option.bind_eq_some_iff.mp H; obtain ⟨⟨Ab, Ae⟩, Cf, H⟩ := H; replace H : (impl_Chart_sizesOf.l0 k a1 Bh Ab Ae (Ab.length : Int) 0) = some r := H; have A3 := Aside0.mk Cf; clear Cf; have H' := Aside0.mk H; clear H
 go_enter Try.func54, Try.ntmps54
 go_wp2_with (first | ((with_reducible refine gate_dst (N := 2) rfl ?_); refine bxE 2 #[.int .i64 Ah, .int .i64 Ai, .slice Aw Af.length Ax] 28 ?_; intro Bf hg w4 hbox hb; have Ac := aM (hbox); have Cg := gwS hg Z0; have Ad := gwS hg Z0; replace HB := hbS Z0 hb; clear hb hbox hg) | ((with_reducible refine gate_dst (N := 10) rfl ?_); refine Kd.R_lit (Kd.int .i64) _ 3 ?hg (N := 10) ?hd (xs := ([] : List Int)) (inner := []) (ok := fun _ => True) (okp := fun _ => True) ?hr ?hp (fun _ hk => hk) trivial (Below.refl _ _) (Nat.le_refl _) (by simp) ?_; (case hd => rfl); (case hg => rfl); (case hr => first | (go_simp; done) | (go_simp; rfl)); (case hp => exact (Reps.none _ _)); intro Ch w5 Bt hb hg_ hnew_; clear hg_ hnew_; (first | rw [← Bd.out] at Bt | (simp only [Int.reduceToNat] at Bt; rw [← Bd.out] at Bt)); have Al := aM (Kd.R_lower Bt (below_size Z17)); replace Ac := bkB Ac hb; replace HB := hbS Z17 hb; clear hb Bt; obtain ⟨Bi, Bj, Bk⟩ := bz3 Ac; obtain ⟨Bl, Bm, Bn⟩ := fz3 Ac) | ((with_reducible refine gate_callee (f := 48) rfl ?_); refine glE (some 13) Try.func48 #[.agg #[.int .i64 Ah, .int .i64 Ai, .slice Aw Af.length Ax]] ?_; (with_reducible refine (impl_Chart_sizes.calls k Ah Ai _ _ Af Ab Ae _ ?side1 ?side2 A3.out).mono ?_); (case side1 => exact (by repeat (first | exact (Kd.C_below Br.out HB.out) | (with_reducible refine Kd.C_alloc ?_ _) | (with_reducible refine Kd.C_drewN ?_ _) | (with_reducible refine Kd.C_drew ?_)))); (case side2 => exact Bs.out); rintro e w8 ⟨Ci, Bo, rfl, Ca, Cb, hb⟩; refine ⟨_, rfl, ?_⟩; have Bg := aM (Kd.R_lower (Kd.R_new' Ca (Kd.R_lt Z71)) (below_size Z17)); have Bu := aM (Kd.R_lower (Kd.R_new' Cb (Kd.R_lt Z71)) (below_size Z17)); replace Al := aM (Kd.R_mono (Kd.R_told (Kd.R_told (Kd.R_old Z71 hb) (Kd.R_base Ca)) (Kd.R_base Cb)) (fun _ h_ => h_.1)); replace Ac := bkB Ac hb; replace HB := hbS Z17 hb; (try clear hb); (try clear Ca); (try clear Cb); obtain ⟨Cc, Bv, Cj⟩ := Kd.R_slice Bg.out; subst Cj))
 go_loopg [5, 18] k (fun kq v5 Ck w' => ∃ (An : List Int) (Aa : Int), Ck = .int .i64 Aa ∧ Aside0 (impl_Chart_sizesOf.l0 kq a1 An Ab Ae (Ab.length : Int) Aa = some r) ∧ Aside0 (kq ≤ k) ∧ Aside0 (Kd.R (Kd.int .i64) 3 w' w.heap.size (fun k_ => nS k_ Cc Ab.length Bv ∧ nV k_ Bo) v5 An) ∧ Aside0 (Kd.R (Kd.int .i64) 3 w' w.heap.size (fun k_ => nV k_ v5 ∧ nV k_ Bo) (.slice Cc Ab.length Bv) Ab) ∧ Aside0 (Kd.R (Kd.int .i64) 3 w' w.heap.size (fun k_ => nV k_ v5 ∧ nS k_ Cc Ab.length Bv) Bo Ae) ∧ Aside0 (w'.heap[Bf]? = some (.cells #[.int .i64 Ah, .int .i64 Ai, (.slice Aw Af.length Ax)] 28 (0, 0))) ∧ Aside0 (Below w.heap.size w w'))
 case atStart => exact ⟨(Bh), (0), Z14, H', ⟨Nat.le_refl _⟩, ⟨by (with_reducible repeat (first | apply Kd.R_alloc | apply Kd.R_drewN | apply Kd.R_drew)); exact Kd.R_mono Al.out (fun _ hk => ⟨hk.1.2, hk.2⟩)⟩, ⟨Z102⟩, ⟨by (with_reducible repeat (first | apply Kd.R_alloc | apply Kd.R_drewN | apply Kd.R_drew)); exact Kd.R_mono Bu.out (fun _ hk => ⟨hk.2, hk.1⟩)⟩, ⟨Z40⟩, ⟨Z17⟩⟩
 case round =>
  clear H'; (try clear p2); (try clear c4); (try clear c5); (try clear Bi); (try clear Bj); (try clear Bk); (try clear Bl); (try clear Bm); (try clear Bn); obtain ⟨An, Aa, rfl, HA, HK1, Ay, Ao, Aj, Ac, HB⟩ := hrel; cases gk with
  | zero => exact absurd HA.out (by simp [impl_Chart_sizesOf.l0])
  | succ k1 =>
   have H := HA.out; clear HA
   simp only [impl_Chart_sizesOf.l0] at H
   by_cases Bq : Aa < (Ab.length : Int)
   ·rw [if_pos Bq] at H
    have c10b0 : decide (Aa < (Ab.length : Int)) = true := decide_eq_true Bq; clear Bq
    by_cases B2 : 0 ≤ Aa
    ·rw [if_pos B2] at H
     have c11b0 : decide (0 ≤ Aa) = true := decide_eq_true B2; clear B2
     by_cases B5 : Aa < (Ab.length : Int)
     ·rw [if_pos B5] at H
      have c12b0 : decide (Aa < (Ab.length : Int)) = true := decide_eq_true B5; clear B5
      by_cases B6 : Aa < (Ae.length : Int)
      ·rw [if_pos B6] at H
       have c13b0 : decide (Aa < (Ae.length : Int)) = true := decide_eq_true B6; clear B6
       by_cases Bp : (rd Ae Aa) = a1
       ·rw [if_pos Bp] at H
        have c14b0 : ((rd Ae Aa) == a1) = true := beq_iff_eq.mpr Bp; have c14b1 : ((rd Ae Aa) != a1) = false := bne_eq_false_iff_eq.mpr Bp; clear Bp
        by_cases B7 : An.length < 17592186044416
        ·rw [if_pos B7] at H
         have LMc15 := Aside0.mk B7; clear B7; obtain ⟨Bw, Am⟩ : ∃ y_ : List Int, y_ = (An ++ [rd Ab Aa]) := ⟨_, rfl⟩
         replace H : (impl_Chart_sizesOf.l0 k1 a1 Bw Ab Ae (Ab.length : Int) (wrap64 (Aa + 1))) = some r := by first | (rw [Am]; with_reducible exact H) | (have H2_ := (Option.bind_some _ _).symm.trans H; rw [Am]; with_reducible exact H2_) | (have H2_ := (Option.bind_some _ _).symm.trans H; with_reducible exact H2_) | with_reducible exact H | (rw [Am]; exact H) | exact H
         have Bx := Aside0.mk Am; clear Am; have H' := Aside0.mk H; clear H; have Ap : 0 ≤ (Aa : Int) := of_decide_eq_true Z3; have Aq : Aa < (Ab.length : Int) := of_decide_eq_true Z3; obtain ⟨ad306, e306, Az⟩ := Kd.at_int (Kd.R_reads' Ao.out).2.2 Aa Ap Aq; cases e306; replace Ap := eq_true Ap; replace Aq := eq_true Aq; obtain ⟨Cl, Bz, Cd⟩ := Kd.R_slice Aj.out; subst Cd; have Ar : 0 ≤ (Aa : Int) := of_decide_eq_true Z3; have Au : Aa < (Ae.length : Int) := of_decide_eq_true Z3; obtain ⟨ad307, e307, Ba⟩ := Kd.at_int (Kd.R_reads' Aj.out).2.2 Aa Ar Au; cases e307; replace Ar := eq_true Ar; replace Au := eq_true Au
         go_wp2_with (first | ((with_reducible refine gate_builtin (b := .append) (xs := #[.tmp 29, .tmp 31]) rfl ?_); at_builtin; refine Kd.R_append (Kd.int .i64) (w0 := w) w.heap.size rfl (.tmp 29) (.tmp 31) 22 3 (.int .i64 0) 8 rfl Try.underlying22 info3 rfl (by decide) (by omega) u5 An (rd Ab Aa) [.int .i64 (rd Ab Aa)] (fun k_ => some k_ ≠ (.slice (some ad306) Ab.length Bv : Value).ownBlock ∧ some k_ ≠ (.slice (some ad307) Ae.length Bz : Value).ownBlock) (fun _ => False) rfl rfl ?aP (fun _ hk => hk.elim) ?aF ?aO ?aB ?aS ?aL ?_; (case aP => exact rfl); (case aB => exact Z17); (case aF => exact (fun k_ hk => ⟨Kd.fresh' (Kd.R_lt Z81) k_ hk, Kd.fresh' (Kd.R_lt Z39) k_ hk⟩)); (case aO => exact Z190); (case aS => exact (below_size Z17)); (case aL => have := LMc15.out; omega); intro Cm Cp ho hb hg hat; rw [← Bx.out] at ho; replace Ao := aM (Kd.R_after (ok := (fun k_ => some k_ ≠ (.slice (some ad307) Ae.length Bz : Value).ownBlock)) Z177 hg hat); replace Aj := aM (Kd.R_after (ok := (fun k_ => some k_ ≠ (.slice (some ad306) Ab.length Bv : Value).ownBlock)) Z178 hg hat); replace Ac := aM (blk_grown (g := Bf) (o := .cells #[.int .i64 Ah, .int .i64 Ai, .slice Aw Af.length Ax] 28 (0, 0)) Z40 hg (Kd.R_ne Ay.out Ac.out (by decide))); replace HB := aM (hb); have B0 := aM (ho); clear Ay; clear ho hb hg hat))
         go_roundg k1
         case measure => have := HK1.out; omega
         case rel => exact ⟨(Bw), (wrap64 (Aa + 1)), Z14, H', ⟨Z118⟩, ⟨by (with_reducible repeat (first | apply Kd.R_alloc | apply Kd.R_drewN | apply Kd.R_drew)); exact B0.out⟩, ⟨Z177⟩, ⟨Z178⟩, ⟨Z40⟩, ⟨Z17⟩⟩
        ·rw [if_neg B7] at H
         exact absurd H (by simp)
       ·rw [if_neg Bp] at H
        have c14b0 : ((rd Ae Aa) == a1) = false := beq_eq_false_iff_ne.mpr Bp; have c14b1 : ((rd Ae Aa) != a1) = true := bne_iff_ne.mpr Bp; have H' := Aside0.mk H; clear H; have Ap : 0 ≤ (Aa : Int) := of_decide_eq_true Z3; have Aq : Aa < (Ab.length : Int) := of_decide_eq_true Z3; obtain ⟨ad306, e306, Az⟩ := Kd.at_int (Kd.R_reads' Ao.out).2.2 Aa Ap Aq; cases e306; replace Ap := eq_true Ap; replace Aq := eq_true Aq; obtain ⟨Cn, Co, Ce⟩ := Kd.R_slice Aj.out; subst Ce; have Ar : 0 ≤ (Aa : Int) := of_decide_eq_true Z3; have Au : Aa < (Ae.length : Int) := of_decide_eq_true Z3; obtain ⟨ad307, e307, Ba⟩ := Kd.at_int (Kd.R_reads' Aj.out).2.2 Aa Ar Au; cases e307; replace Ar := eq_true Ar; replace Au := eq_true Au
        go_wp2
        go_roundg k1
        case measure => have := HK1.out; omega
        case rel => exact ⟨(An), (wrap64 (Aa + 1)), Z14, H', ⟨Z118⟩, ⟨Z190⟩, ⟨Z81⟩, ⟨Z39⟩, ⟨Z40⟩, ⟨Z17⟩⟩
      ·rw [if_neg B6] at H
       exact absurd H (by simp)
     ·rw [if_neg B5] at H
      exact absurd H (by simp)
    ·rw [if_neg B2] at H
     exact absurd H (by simp)
   ·rw [if_neg Bq] at H
    have c10b0 : decide (Aa < (Ab.length : Int)) = false := decide_eq_false Bq; clear Bq; obtain rfl := Option.some.inj H
    go_wp2
    go_ret
    exact ⟨_, Z10, by (with_reducible repeat (first | apply Kd.R_alloc | apply Kd.R_drewN | apply Kd.R_drew)); exact Kd.R_mono Ay.out (fun _ hk => trivial), Z17⟩
end Go.Proofs.Ytaadbpibmlnncaa.H
