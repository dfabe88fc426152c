-- by wip/pack.py of this repo
import Derived.Test.YthalifhbjioaeaaDoorZ10Hx0
import Derived.Test.YthalifhbjioaeaaDoorZ10WLast
import Derived.Test.YthalifhbjioaeaaDoorZ10WMore
import Derived.Test.YthalifhbjioaeaaDoorZ10WWords
import Derived.Test.YthalifhbjioaeaaDoorZ10Short
namespace Go.Proofs.YthalifhbjioaeaaDoor.H
open Go.RowKit Go.Proofs.YthalifhbjioaeaaDoorW.PrintWords Go.Proofs.YthalifhbjioaeaaDoorW.PrintLast Go.Proofs.YthalifhbjioaeaaDoorW.PrintMore
attribute [local go_sem] max2_int min2_int max_two min_two max_three min_three max_four min_four
set_option maxHeartbeats 8000000
set_option maxRecDepth 100000
set_option linter.unusedVariables false
set_option linter.unusedSimpArgs false
def spec_l1In.f (a0 : Int) (a1 : Int) (a2 : Int) : Option (Bool) := if a0 ≥ a1 then (some (decide (a0 ≤ a2))) else (some false)
theorem spec_l1In.calls (a0 : Int) (a1 : Int) (a2 : Int) (r : Bool) (w : World) (h : spec_l1In.f a0 a1 a2 = some r) :
  Calls Tryd.prog 71 #[.int .i64 a0, .int .i64 a1, .int .i64 a2] w fun e w' => e = .returned (.bool r) ∧ Drawn0 w w' := by
 have H : (if a0 ≥ a1 then (some (decide (a0 ≤ a2))) else (some false)) = some r := h; clear h
 by_cases c4 : a0 ≥ a1
 ·rw [if_pos c4] at H
  have c4b0 : decide (a1 ≤ a0) = true := decide_eq_true c4; clear c4; obtain rfl := Option.some.inj H
  go_enter Tryd.func71, Tryd.ntmps71
  go_wp2
  go_ret
  exact ⟨Z15, Z27⟩
 ·rw [if_neg c4] at H
  have c4b0 : decide (a1 ≤ a0) = false := decide_eq_false c4; clear c4; obtain rfl := Option.some.inj H
  go_enter Tryd.func71, Tryd.ntmps71
  go_wp2
  go_ret
  exact ⟨Z15, Z27⟩
theorem spec_l1In.eq (a b c : Int) : spec_l1In.f a b c = some (rng a b c) := by
 unfold spec_l1In.f rng; by_cases h : b ≤ a <;> simp [h]
def spec_l11Skills.f (a0 : Int) : Option (Bool) := (spec_l1In.f a0 1 15).bind fun t102 => (some t102)
theorem spec_l11Skills.calls (a0 : Int) (r : Bool) (w : World) (h : spec_l11Skills.f a0 = some r) :
  Calls Tryd.prog 75 #[.int .i64 a0] w fun e w' => e = .returned (.bool r) ∧ Drawn0 w w' := by
 have H : ((spec_l1In.f a0 1 15).bind fun Aa => (some Aa)) = some r := h; clear h; replace H := Option.bind_eq_some_iff.mp H; obtain ⟨Aa, Ab, H⟩ := H; replace H : (some Aa) = some r := H; have A2 := Aside0.mk Ab; clear Ab; obtain rfl := Option.some.inj H
 go_enter Tryd.func75, Tryd.ntmps75
 go_wp2_with (first | ((with_reducible refine gate_callee (f := 71) rfl ?_); refine glE (some 4) Tryd.func71 #[.int .i64 a0, .int .i64 1, .int .i64 15] ?_; (with_reducible refine (spec_l1In.calls a0 1 15 Aa _ A2.out).mono ?_); rintro e w' ⟨rfl, ⟨nd, rfl⟩⟩; refine ⟨_, rfl, ?_⟩))
 go_ret
 exact ⟨Z15, Z27⟩
def spec_l2Word.l0 : Nat → ByteArray → Int → Option (Bool)
 | 0, _, _ => none
 | k + 1, x0, x3 => if x3 < (x0.size : Int) then (if 0 ≤ x3 then (if (bt x0 x3) < 97 then (some false) else (if (bt x0 x3) > 122 then (some false) else (spec_l2Word.l0 k x0 (wrap64 (x3 + 1))))) else (none)) else ((spec_l1In.f (x0.size : Int) 1 10).bind fun t103 => (some t103))
def spec_l2Word.f (k : Nat) (a0 : ByteArray) : Option (Bool) := spec_l2Word.l0 k a0 0
theorem spec_l2Word.calls (k : Nat) (a0 : ByteArray) (r : Bool) (w : World) (h : spec_l2Word.f k a0 = some r) :
  Calls Tryd.prog 97 #[.string a0] w fun e w' => e = .returned (.bool r) ∧ Drawn0 w w' := by
 have H : (spec_l2Word.l0 k a0 0) = some r := h; clear h; have H' := Aside0.mk H; clear H
 go_enter Tryd.func97, Tryd.ntmps97
 go_wp2
 go_loopg [3] k (fun kq v3 w' => ∃ (Aa : Int), v3 = .int .i64 Aa ∧ Aside0 (spec_l2Word.l0 kq a0 Aa = some r) ∧ Aside0 (kq ≤ k) ∧ Drawn0 w w')
 case atStart => exact ⟨(0), Z15, H', ⟨Nat.le_refl _⟩, Z27⟩
 case round =>
  clear H'; obtain ⟨Aa, rfl, HA, HK1, ⟨m1, rfl⟩⟩ := hrel; cases gk with
  | zero => exact absurd HA.out (by simp [spec_l2Word.l0])
  | succ k1 =>
   have H := HA.out; clear HA
   simp only [spec_l2Word.l0] at H
   by_cases c2 : Aa < (a0.size : Int)
   ·rw [if_pos c2] at H
    have c2b0 : decide (Aa < (a0.size : Int)) = true := decide_eq_true c2; clear c2
    by_cases c3 : 0 ≤ Aa
    ·rw [if_pos c3] at H
     have c3b0 : decide (0 ≤ Aa) = true := decide_eq_true c3; clear c3
     by_cases c5 : (bt a0 Aa) < 97
     ·rw [if_pos c5] at H
      have c5b0 : decide ((bt a0 Aa) < 97) = true := decide_eq_true c5; clear c5; obtain rfl := Option.some.inj H; have p4 : 0 ≤ (Aa : Int) := of_decide_eq_true Z10; have q4 : Aa < (a0.size : Int) := of_decide_eq_true Z10; have Ac := bt_at a0 Aa; replace p4 := eq_true p4; replace q4 := eq_true q4
      go_wp2
      go_ret
      exact ⟨Z15, Z27⟩
     ·rw [if_neg c5] at H
      have c5b0 : decide ((bt a0 Aa) < 97) = false := decide_eq_false c5; clear c5
      by_cases c7 : (bt a0 Aa) > 122
      ·rw [if_pos c7] at H
       have c7b0 : decide (122 < (bt a0 Aa)) = true := decide_eq_true c7; clear c7; obtain rfl := Option.some.inj H; have p4 : 0 ≤ (Aa : Int) := of_decide_eq_true Z10; have q4 : Aa < (a0.size : Int) := of_decide_eq_true Z10; have Ac := bt_at a0 Aa; replace p4 := eq_true p4; replace q4 := eq_true q4; have p6 : 0 ≤ (Aa : Int) := of_decide_eq_true Z10; have q6 : Aa < (a0.size : Int) := of_decide_eq_true Z10; have Ae := bt_at a0 Aa; replace p6 := eq_true p6; replace q6 := eq_true q6
       go_wp2
       go_ret
       exact ⟨Z15, Z27⟩
      ·rw [if_neg c7] at H
       have c7b0 : decide (122 < (bt a0 Aa)) = false := decide_eq_false c7; clear c7; have H' := Aside0.mk H; clear H; have p4 : 0 ≤ (Aa : Int) := of_decide_eq_true Z10; have q4 : Aa < (a0.size : Int) := of_decide_eq_true Z10; have Ac := bt_at a0 Aa; replace p4 := eq_true p4; replace q4 := eq_true q4; have p6 : 0 ≤ (Aa : Int) := of_decide_eq_true Z10; have q6 : Aa < (a0.size : Int) := of_decide_eq_true Z10; have Ae := bt_at a0 Aa; replace p6 := eq_true p6; replace q6 := eq_true q6
       go_wp2
       go_roundg k1
       case measure => have := HK1.out; omega
       case rel => exact ⟨(wrap64 (Aa + 1)), Z15, H', ⟨Z66⟩, Z27⟩
    ·rw [if_neg c3] at H
     exact absurd H (by simp)
   ·rw [if_neg c2] at H
    have c2b0 : decide (Aa < (a0.size : Int)) = false := decide_eq_false c2; clear c2; replace H := Option.bind_eq_some_iff.mp H; obtain ⟨Ab, Ad, H⟩ := H; replace H : (some Ab) = some r := H; have A8 := Aside0.mk Ad; clear Ad; obtain rfl := Option.some.inj H
    go_wp2_with (first | ((with_reducible refine gate_callee (f := 71) rfl ?_); refine glE (some 22) Tryd.func71 #[.int .i64 (a0.size : Int), .int .i64 1, .int .i64 10] ?_; (with_reducible refine (spec_l1In.calls (a0.size : Int) 1 10 Ab _ A8.out).mono ?_); rintro e w' ⟨rfl, ⟨nd, rfl⟩⟩; refine ⟨_, rfl, ?_⟩))
    go_ret
    exact ⟨Z15, Z27⟩
def spec_l11One.f (k : Nat) (a0_0 : Int) (a0_1 : ByteArray) (a0_2 : Int) (a0_3 : Int) (a0_4 : Int) : Option (Bool) := (spec_l1In.f a0_0 1 99).bind fun t105 => (if t105 = true then ((spec_l2Word.f k a0_1).bind fun t106 => (if t106 = true then ((spec_l11Skills.f a0_2).bind fun t107 => (if t107 = true then ((spec_l1In.f a0_3 100 12000).bind fun t108 => (if t108 = true then ((spec_l1In.f a0_4 0 99).bind fun t109 => (some t109)) else (some false))) else (some false))) else (some false))) else (some false))
theorem spec_l11One.calls (k : Nat) (Ac : Int) (Ah : ByteArray) (Ag : Int) (Ae : Int) (Ad : Int) (r : Bool) (w : World) (h : spec_l11One.f k Ac Ah Ag Ae Ad = some r) :
  Calls Tryd.prog 56 #[.agg #[.int .i64 Ac, .string Ah, .int .i64 Ag, .int .i64 Ae, .int .i64 Ad]] w fun e w' => e = .returned (.bool r) ∧ Below w.heap.size w w' := by
 have hu26 := Tryd.underlying26; have HB := aM (Below.refl w.heap.size w); have H : ((spec_l1In.f Ac 1 99).bind fun An => (if An = true then ((spec_l2Word.f k Ah).bind fun Ak => (if Ak = true then ((spec_l11Skills.f Ag).bind fun Aj => (if Aj = true then ((spec_l1In.f Ae 100 12000).bind fun Af => (if Af = true then ((spec_l1In.f Ad 0 99).bind fun Ab => (some Ab)) else (some false))) else (some false))) else (some false))) else (some false))) = some r := h; clear h; replace H := Option.bind_eq_some_iff.mp H; obtain ⟨An, Ci, H⟩ := H; replace H : (if An = true then ((spec_l2Word.f k Ah).bind fun Ak => (if Ak = true then ((spec_l11Skills.f Ag).bind fun Aj => (if Aj = true then ((spec_l1In.f Ae 100 12000).bind fun Af => (if Af = true then ((spec_l1In.f Ad 0 99).bind fun Ab => (some Ab)) else (some false))) else (some false))) else (some false))) else (some false)) = some r := H; have A2 := Aside0.mk Ci; clear Ci
 by_cases c3 : An = true
 ·subst c3
  have H1 : ((spec_l2Word.f k Ah).bind fun Ak => (if Ak = true then ((spec_l11Skills.f Ag).bind fun Aj => (if Aj = true then ((spec_l1In.f Ae 100 12000).bind fun Af => (if Af = true then ((spec_l1In.f Ad 0 99).bind fun Ab => (some Ab)) else (some false))) else (some false))) else (some false))) = some r := by rw [if_pos rfl] at H; exact H
  clear H; have H := H1; clear H1; replace H := Option.bind_eq_some_iff.mp H; obtain ⟨Ak, Cj, H⟩ := H; replace H : (if Ak = true then ((spec_l11Skills.f Ag).bind fun Aj => (if Aj = true then ((spec_l1In.f Ae 100 12000).bind fun Af => (if Af = true then ((spec_l1In.f Ad 0 99).bind fun Ab => (some Ab)) else (some false))) else (some false))) else (some false)) = some r := H; have A4 := Aside0.mk Cj; clear Cj
  by_cases c5 : Ak = true
  ·subst c5
   have H1 : ((spec_l11Skills.f Ag).bind fun Aj => (if Aj = true then ((spec_l1In.f Ae 100 12000).bind fun Af => (if Af = true then ((spec_l1In.f Ad 0 99).bind fun Ab => (some Ab)) else (some false))) else (some false))) = some r := by rw [if_pos rfl] at H; exact H
   clear H; have H := H1; clear H1; replace H := Option.bind_eq_some_iff.mp H; obtain ⟨Aj, Ck, H⟩ := H; replace H : (if Aj = true then ((spec_l1In.f Ae 100 12000).bind fun Af => (if Af = true then ((spec_l1In.f Ad 0 99).bind fun Ab => (some Ab)) else (some false))) else (some false)) = some r := H; have A6 := Aside0.mk Ck; clear Ck
   by_cases c7 : Aj = true
   ·subst c7
    have H1 : ((spec_l1In.f Ae 100 12000).bind fun Af => (if Af = true then ((spec_l1In.f Ad 0 99).bind fun Ab => (some Ab)) else (some false))) = some r := by rw [if_pos rfl] at H; exact H
    clear H; have H := H1; clear H1; replace H := Option.bind_eq_some_iff.mp H; obtain ⟨Af, Cl, H⟩ := H; replace H : (if Af = true then ((spec_l1In.f Ad 0 99).bind fun Ab => (some Ab)) else (some false)) = some r := H; have A8 := Aside0.mk Cl; clear Cl
    by_cases c9 : Af = true
    ·subst c9
     have H1 : ((spec_l1In.f Ad 0 99).bind fun Ab => (some Ab)) = some r := by rw [if_pos rfl] at H; exact H
     clear H; have H := H1; clear H1; replace H := Option.bind_eq_some_iff.mp H; obtain ⟨Ab, Ao, H⟩ := H; replace H : (some Ab) = some r := H; have Cm := Aside0.mk Ao; clear Ao; obtain rfl := Option.some.inj H
     go_enter Tryd.func56, Tryd.ntmps56
     go_wp2_with (first | ((with_reducible refine gate_dst (N := 1) rfl ?_); refine bxE 1 #[.int .i64 Ac, .string Ah, .int .i64 Ag, .int .i64 Ae, .int .i64 Ad] 26 ?_; intro Al hg Cn hbox hb; have Aa := aM (hbox); have Am := gwS hg Z0; have Ai := gwS hg Z0; replace HB := hbS Z0 hb; clear hb hbox hg; obtain ⟨Ap, Aq, Ar, Au, Av⟩ := bz5 Aa; obtain ⟨Aw, Ax, Ay, Az, Ba⟩ := fz5 Aa) | ((with_reducible refine gate_callee (f := 71) rfl ?_); refine glE (some 5) Tryd.func71 #[.int .i64 Ac, .int .i64 1, .int .i64 99] ?_; (with_reducible refine (spec_l1In.calls Ac 1 99 true _ A2.out).mono ?_); rintro e w' ⟨rfl, ⟨nd, rfl⟩⟩; refine ⟨_, rfl, ?_⟩) | (go_at_call 97; (with_reducible refine (spec_l2Word.calls k Ah true _ A4.out).mono ?_); rintro e w' ⟨rfl, ⟨nd, rfl⟩⟩) | (go_at_call 75; (with_reducible refine (spec_l11Skills.calls Ag true _ A6.out).mono ?_); rintro e w' ⟨rfl, ⟨nd, rfl⟩⟩) | (go_at_call 71; (with_reducible refine (spec_l1In.calls Ae 100 12000 true _ A8.out).mono ?_); rintro e w' ⟨rfl, ⟨nd, rfl⟩⟩) | (go_at_call 71; (with_reducible refine (spec_l1In.calls Ad 0 99 Ab _ Cm.out).mono ?_); rintro e w' ⟨rfl, ⟨nd, rfl⟩⟩))
     go_ret
     exact ⟨Z14, Z41⟩
    ·replace c9 := Bool.eq_false_iff.mpr c9
     subst c9
     have H1 : (some false) = some r := by rw [if_neg (show ¬ (false = true) by decide)] at H; exact H
     clear H; have H := H1; clear H1; obtain rfl := Option.some.inj H
     go_enter Tryd.func56, Tryd.ntmps56
     go_wp2_with (first | ((with_reducible refine gate_dst (N := 1) rfl ?_); refine bxE 1 #[.int .i64 Ac, .string Ah, .int .i64 Ag, .int .i64 Ae, .int .i64 Ad] 26 ?_; intro Al hg Co hbox hb; have Aa := aM (hbox); have Am := gwS hg Z0; have Ai := gwS hg Z0; replace HB := hbS Z0 hb; clear hb hbox hg; obtain ⟨Bb, Bc, Bd, Bf, Bg⟩ := bz5 Aa; obtain ⟨Bh, Bi, Bj, Bk, Bl⟩ := fz5 Aa) | ((with_reducible refine gate_callee (f := 71) rfl ?_); refine glE (some 5) Tryd.func71 #[.int .i64 Ac, .int .i64 1, .int .i64 99] ?_; (with_reducible refine (spec_l1In.calls Ac 1 99 true _ A2.out).mono ?_); rintro e w' ⟨rfl, ⟨nd, rfl⟩⟩; refine ⟨_, rfl, ?_⟩) | (go_at_call 97; (with_reducible refine (spec_l2Word.calls k Ah true _ A4.out).mono ?_); rintro e w' ⟨rfl, ⟨nd, rfl⟩⟩) | (go_at_call 75; (with_reducible refine (spec_l11Skills.calls Ag true _ A6.out).mono ?_); rintro e w' ⟨rfl, ⟨nd, rfl⟩⟩) | (go_at_call 71; (with_reducible refine (spec_l1In.calls Ae 100 12000 false _ A8.out).mono ?_); rintro e w' ⟨rfl, ⟨nd, rfl⟩⟩))
     go_ret
     exact ⟨Z14, Z41⟩
   ·replace c7 := Bool.eq_false_iff.mpr c7
    subst c7
    have H1 : (some false) = some r := by rw [if_neg (show ¬ (false = true) by decide)] at H; exact H
    clear H; have H := H1; clear H1; obtain rfl := Option.some.inj H
    go_enter Tryd.func56, Tryd.ntmps56
    go_wp2_with (first | ((with_reducible refine gate_dst (N := 1) rfl ?_); refine bxE 1 #[.int .i64 Ac, .string Ah, .int .i64 Ag, .int .i64 Ae, .int .i64 Ad] 26 ?_; intro Al hg Cp hbox hb; have Aa := aM (hbox); have Am := gwS hg Z0; have Ai := gwS hg Z0; replace HB := hbS Z0 hb; clear hb hbox hg; obtain ⟨Bm, Bn, Bo, Bp, Bq⟩ := bz5 Aa; obtain ⟨Br, Bs, Bt, Bu, Bv⟩ := fz5 Aa) | ((with_reducible refine gate_callee (f := 71) rfl ?_); refine glE (some 5) Tryd.func71 #[.int .i64 Ac, .int .i64 1, .int .i64 99] ?_; (with_reducible refine (spec_l1In.calls Ac 1 99 true _ A2.out).mono ?_); rintro e w' ⟨rfl, ⟨nd, rfl⟩⟩; refine ⟨_, rfl, ?_⟩) | (go_at_call 97; (with_reducible refine (spec_l2Word.calls k Ah true _ A4.out).mono ?_); rintro e w' ⟨rfl, ⟨nd, rfl⟩⟩) | (go_at_call 75; (with_reducible refine (spec_l11Skills.calls Ag false _ A6.out).mono ?_); rintro e w' ⟨rfl, ⟨nd, rfl⟩⟩))
    go_ret
    exact ⟨Z14, Z41⟩
  ·replace c5 := Bool.eq_false_iff.mpr c5
   subst c5
   have H1 : (some false) = some r := by rw [if_neg (show ¬ (false = true) by decide)] at H; exact H
   clear H; have H := H1; clear H1; obtain rfl := Option.some.inj H
   go_enter Tryd.func56, Tryd.ntmps56
   go_wp2_with (first | ((with_reducible refine gate_dst (N := 1) rfl ?_); refine bxE 1 #[.int .i64 Ac, .string Ah, .int .i64 Ag, .int .i64 Ae, .int .i64 Ad] 26 ?_; intro Al hg Cq hbox hb; have Aa := aM (hbox); have Am := gwS hg Z0; have Ai := gwS hg Z0; replace HB := hbS Z0 hb; clear hb hbox hg; obtain ⟨Bw, Bx, Bz, B0, B1⟩ := bz5 Aa; obtain ⟨B2, B3, B4, B6, B7⟩ := fz5 Aa) | ((with_reducible refine gate_callee (f := 71) rfl ?_); refine glE (some 5) Tryd.func71 #[.int .i64 Ac, .int .i64 1, .int .i64 99] ?_; (with_reducible refine (spec_l1In.calls Ac 1 99 true _ A2.out).mono ?_); rintro e w' ⟨rfl, ⟨nd, rfl⟩⟩; refine ⟨_, rfl, ?_⟩) | (go_at_call 97; (with_reducible refine (spec_l2Word.calls k Ah false _ A4.out).mono ?_); rintro e w' ⟨rfl, ⟨nd, rfl⟩⟩))
   go_ret
   exact ⟨Z14, Z41⟩
 ·replace c3 := Bool.eq_false_iff.mpr c3
  subst c3
  have H1 : (some false) = some r := by rw [if_neg (show ¬ (false = true) by decide)] at H; exact H
  clear H; have H := H1; clear H1; obtain rfl := Option.some.inj H
  go_enter Tryd.func56, Tryd.ntmps56
  go_wp2_with (first | ((with_reducible refine gate_dst (N := 1) rfl ?_); refine bxE 1 #[.int .i64 Ac, .string Ah, .int .i64 Ag, .int .i64 Ae, .int .i64 Ad] 26 ?_; intro Al hg Cr hbox hb; have Aa := aM (hbox); have Am := gwS hg Z0; have Ai := gwS hg Z0; replace HB := hbS Z0 hb; clear hb hbox hg; obtain ⟨B8, B9, Ca, Cb, Cc⟩ := bz5 Aa; obtain ⟨Cd, Ce, Cf, Cg, Ch⟩ := fz5 Aa) | ((with_reducible refine gate_callee (f := 71) rfl ?_); refine glE (some 5) Tryd.func71 #[.int .i64 Ac, .int .i64 1, .int .i64 99] ?_; (with_reducible refine (spec_l1In.calls Ac 1 99 false _ A2.out).mono ?_); rintro e w' ⟨rfl, ⟨nd, rfl⟩⟩; refine ⟨_, rfl, ?_⟩))
  go_ret
  exact ⟨Z14, Z41⟩
def impl_in.f (a0 : Int) (a1 : Int) (a2 : Int) : Option (Bool) := if a0 ≥ a1 then (some (decide (a0 ≤ a2))) else (some false)
theorem impl_in.calls (a0 : Int) (a1 : Int) (a2 : Int) (r : Bool) (w : World) (h : impl_in.f a0 a1 a2 = some r) :
  Calls Tryd.prog 60 #[.int .i64 a0, .int .i64 a1, .int .i64 a2] w fun e w' => e = .returned (.bool r) ∧ Drawn0 w w' := by
 have H : (if a0 ≥ a1 then (some (decide (a0 ≤ a2))) else (some false)) = some r := h; clear h
 by_cases c4 : a0 ≥ a1
 ·rw [if_pos c4] at H
  have c4b0 : decide (a1 ≤ a0) = true := decide_eq_true c4; clear c4; obtain rfl := Option.some.inj H
  go_enter Tryd.func60, Tryd.ntmps60
  go_wp2
  go_ret
  exact ⟨Z15, Z27⟩
 ·rw [if_neg c4] at H
  have c4b0 : decide (a1 ≤ a0) = false := decide_eq_false c4; clear c4; obtain rfl := Option.some.inj H
  go_enter Tryd.func60, Tryd.ntmps60
  go_wp2
  go_ret
  exact ⟨Z15, Z27⟩
theorem impl_in.eq (a b c : Int) : impl_in.f a b c = some (rng a b c) := by
 unfold impl_in.f rng; by_cases h : b ≤ a <;> simp [h]
def impl_isId.f (a0 : Int) : Option (Bool) := (impl_in.f a0 1 99).bind fun t115 => (some t115)
theorem impl_isId.calls (a0 : Int) (r : Bool) (w : World) (h : impl_isId.f a0 = some r) :
  Calls Tryd.prog 57 #[.int .i64 a0] w fun e w' => e = .returned (.bool r) ∧ Drawn0 w w' := by
 have H : ((impl_in.f a0 1 99).bind fun Aa => (some Aa)) = some r := h; clear h; replace H := Option.bind_eq_some_iff.mp H; obtain ⟨Aa, Ab, H⟩ := H; replace H : (some Aa) = some r := H; have A2 := Aside0.mk Ab; clear Ab; obtain rfl := Option.some.inj H
 go_enter Tryd.func57, Tryd.ntmps57
 go_wp2_with (first | ((with_reducible refine gate_callee (f := 60) rfl ?_); refine glE (some 4) Tryd.func60 #[.int .i64 a0, .int .i64 1, .int .i64 99] ?_; (with_reducible refine (impl_in.calls a0 1 99 Aa _ A2.out).mono ?_); rintro e w' ⟨rfl, ⟨nd, rfl⟩⟩; refine ⟨_, rfl, ?_⟩))
 go_ret
 exact ⟨Z15, Z27⟩
def lays_strings_Trim_ren : Go.Shelf.Ren := ⟨fun | 160 => 98 | 232 => 108 | 231 => 107 | 227 => 109 | 234 => 111 | 233 => 110 | 236 => 113 | 235 => 112 | 228 => 114 | 271 => 117 | 151 => 116 | 197 => 115 | 120 => 120 | 152 => 119 | 260 => 118 | 137 => 121 | 119 => 122 | 224 => 123 | 225 => 124 | 217 => 125 | 266 => 126 | n => n, fun | 9 => 9 | 4 => 4 | 3 => 3 | 5 => 5 | 117 => 98 | 116 => 97 | 0 => 0 | 124 => 101 | 21 => 21 | 105 => 104 | 46 => 102 | 119 => 108 | 139 => 111 | 138 => 110 | n => n, fun | 3 => 0 | 4 => 1 | n => n⟩
theorem lays_strings_Trim : Go.Proofs.Lays.n160 Tryd.prog lays_strings_Trim_ren := {
 mixed := by kernel_rfl
 f119 := Tryd.func122.trans (congrArg some Z32)
 f120 := Tryd.func120.trans (congrArg some Z32)
 f137 := Tryd.func121.trans (congrArg some Z32)
 f151 := Tryd.func116.trans (congrArg some Z32)
 f152 := Tryd.func119.trans (congrArg some Z32)
 f160 := Tryd.func98.trans (congrArg some Z32)
 f197 := Tryd.func115.trans (congrArg some Z32)
 f217 := Tryd.func125.trans (congrArg some Z32)
 f224 := Tryd.func123.trans (congrArg some Z32)
 f225 := Tryd.func124.trans (congrArg some Z32)
 f227 := Tryd.func109.trans (congrArg some Z32)
 f228 := Tryd.func114.trans (congrArg some Z32)
 f231 := Tryd.func107.trans (congrArg some Z32)
 f232 := Tryd.func108.trans (congrArg some Z32)
 f233 := Tryd.func110.trans (congrArg some Z32)
 f234 := Tryd.func111.trans (congrArg some Z32)
 f235 := Tryd.func112.trans (congrArg some Z32)
 f236 := Tryd.func113.trans (congrArg some Z32)
 f260 := Tryd.func118.trans (congrArg some Z32)
 f266 := Tryd.func126.trans (congrArg some Z32)
 f271 := Tryd.func117.trans (congrArg some Z32)
 t0 := Tryd.underlying0
 a0 := Tryd.isAgg0
 z0 := Tryd.sizeOf0
 v0 := Tryd.zeroValue0
 t3 := Tryd.underlying3
 a3 := Tryd.isAgg3
 z3 := Tryd.sizeOf3
 v3 := Tryd.zeroValue3
 t4 := Tryd.underlying4
 a4 := Tryd.isAgg4
 z4 := Tryd.sizeOf4
 v4 := Tryd.zeroValue4
 t5 := Tryd.underlying5
 a5 := Tryd.isAgg5
 z5 := Tryd.sizeOf5
 v5 := Tryd.zeroValue5
 t9 := Tryd.underlying9
 a9 := Tryd.isAgg9
 z9 := Tryd.sizeOf9
 v9 := Tryd.zeroValue9
 t21 := Tryd.underlying21
 a21 := Tryd.isAgg21
 z21 := Tryd.sizeOf21
 v21 := Tryd.zeroValue21
 t46 := Tryd.underlying102
 a46 := Tryd.isAgg102
 z46 := Tryd.sizeOf102
 v46 := Tryd.zeroValue102
 t105 := Tryd.underlying104
 a105 := Tryd.isAgg104
 z105 := Tryd.sizeOf104
 v105 := Tryd.zeroValue104
 t116 := Tryd.underlying97
 a116 := Tryd.isAgg97
 z116 := Tryd.sizeOf97
 t117 := Tryd.underlying98
 a117 := Tryd.isAgg98
 z117 := Tryd.sizeOf98
 v117 := Tryd.zeroValue98
 t119 := Tryd.underlying108
 a119 := Tryd.isAgg108
 z119 := Tryd.sizeOf108
 t124 := Tryd.underlying101
 a124 := Tryd.isAgg101
 z124 := Tryd.sizeOf101
 v124 := Tryd.zeroValue101
 t138 := Tryd.underlying110
 a138 := Tryd.isAgg110
 z138 := Tryd.sizeOf110
 v138 := Tryd.zeroValue110
 t139 := Tryd.underlying111
 a139 := Tryd.isAgg111
 z139 := Tryd.sizeOf111
 v139 := Tryd.zeroValue111
 g3 := by kernel_rfl
 g4 := Z32}
theorem dropW_nil (p : UInt8 → Bool) (l : List UInt8) : l.dropWhile p = [] ↔ l.all p = true := by
 induction l with
 | nil => simp
 | cons x t ih =>
  by_cases h : p x = true
  ·simp [List.dropWhile_cons, h, ih]
  ·simp [List.dropWhile_cons, h]
theorem trim_nil (l cs : List UInt8) : Lib.trimS l cs = [] ↔ l.all (cs.contains ·) = true := by
 unfold Lib.trimS Lib.trimLeftS Lib.trimRightS
 rw [dropW_nil]
 constructor
 ·intro h
  have e : l.reverse.all (cs.contains ·) = true := by
   rw [List.all_reverse] at h; rw [← List.takeWhile_append_dropWhile (p := (cs.contains ·)) (l := l.reverse), List.all_append, Bool.and_eq_true]
   exact ⟨List.all_takeWhile, h⟩
  rwa [List.all_reverse] at e
 ·intro h
  have e : l.reverse.dropWhile (cs.contains ·) = [] := (dropW_nil _ _).2 (by rw [List.all_reverse]; exact h); rw [e]
  rfl
theorem cut_has (b : UInt8) : [97, 98, 99, 100, 101, 102, 103, 104, 105, 106, 107, 108, 109, 110, 111, 112, 113, 114, 115, 116, 117, 118, 119, 120, 121, 122].contains b = (decide (97 ≤ b.toNat) && decide (b.toNat ≤ 122)) := by
 have h : ∀ n : Fin 256, ([97, 98, 99, 100, 101, 102, 103, 104, 105, 106, 107, 108, 109, 110, 111, 112, 113, 114, 115, 116, 117, 118, 119, 120, 121, 122] : List UInt8).contains (UInt8.ofNat n.val) = (decide (97 ≤ (UInt8.ofNat n.val).toNat) && decide ((UInt8.ofNat n.val).toNat ≤ 122)) := by decide +kernel
 have e := h ⟨b.toNat, b.toNat_lt⟩
 simpa using e
def isWordB (s : ByteArray) : Bool := rng (s.size : Int) 1 10 && s.data.toList.all fun b => decide (97 ≤ b.toNat) && decide (b.toNat ≤ 122)
def impl_isWord.f (a0 : ByteArray) : Option Bool := some (isWordB a0)
theorem impl_isWord.calls (a0 : ByteArray) (r : Bool) (w : World) (h : impl_isWord.f a0 = some r) :
  Calls Tryd.prog 58 #[.string a0] w fun e w' => e = .returned (.bool r) ∧ Below w.heap.size w w' := by
 obtain rfl := Option.some.inj h; clear h; cases hin : rng (a0.size : Int) 1 10 with
 | false =>
  have e0 : isWordB a0 = false := by unfold isWordB; rw [hin]; rfl
  rw [e0]; have hc := impl_in.calls (a0.size : Int) 1 10 false; have HI := aM (show impl_in.f (a0.size : Int) 1 10 = some false by rw [impl_in.eq, hin]); clear hin e0; have HC := Aside0.mk hc; clear hc
  go_enter Tryd.func58, Tryd.ntmps58
  go_wp2_with fail
  refine (HC.out _ HI.out).mono ?_; rintro e w' ⟨rfl, hd⟩
  go_wp2
  go_ret
  exact ⟨Z75, hd.below⟩
 | true =>
  have hsz := (rng_iff _ _ _).1 hin
  have hcall : ∀ W, Calls Tryd.prog 98 #[.string a0, .string ⟨#[97, 98, 99, 100, 101, 102, 103, 104, 105, 106, 107, 108, 109, 110, 111, 112, 113, 114, 115, 116, 117, 118, 119, 120, 121, 122]⟩] W _ := fun W => Any.strings_Trim_laid lays_strings_Trim Z32 a0 ⟨#[97, 98, 99, 100, 101, 102, 103, 104, 105, 106, 107, 108, 109, 110, 111, 112, 113, 114, 115, 116, 117, 118, 119, 120, 121, 122]⟩ W (by omega) (by decide) (fun j b hb => (show ∀ x ∈ (⟨#[97, 98, 99, 100, 101, 102, 103, 104, 105, 106, 107, 108, 109, 110, 111, 112, 113, 114, 115, 116, 117, 118, 119, 120, 121, 122]⟩ : ByteArray).data.toList, x.toNat < 128 by decide) b (List.mem_of_getElem? hb))
  have hc := impl_in.calls (a0.size : Int) 1 10 true; have HI := aM (show impl_in.f (a0.size : Int) 1 10 = some true by rw [impl_in.eq, hin]); have HIN := Aside0.mk hin; clear hin hsz; have HC := Aside0.mk hc; have HT := Aside0.mk hcall; clear hc hcall
  have hemp : (Lib.trimS a0.data.toList [97, 98, 99, 100, 101, 102, 103, 104, 105, 106, 107, 108, 109, 110, 111, 112, 113, 114, 115, 116, 117, 118, 119, 120, 121, 122] = []) ↔ a0.data.toList.all (fun b => decide (97 ≤ b.toNat) && decide (b.toNat ≤ 122)) = true := by
   rw [trim_nil]
   simp only [cut_has]
  cases hall : a0.data.toList.all (fun b => decide (97 ≤ b.toNat) && decide (b.toNat ≤ 122)) with
  | true =>
   have e0 : isWordB a0 = true := by unfold isWordB; rw [HIN.out, hall]; rfl
   have e1 := aM (hemp.2 hall); rw [e0]; clear e0 hall hemp
   go_enter Tryd.func58, Tryd.ntmps58
   go_wp2_with fail
   refine (HC.out _ HI.out).mono ?_; rintro e w' ⟨rfl, hd⟩; have HD := Aside0.mk hd.below; clear hd
   go_wp2_with fail
   refine (HT.out _).mono ?_; rintro e w2 ⟨rfl, hb⟩
   have e2 : (⟨(Lib.trimS a0.data.toList [97, 98, 99, 100, 101, 102, 103, 104, 105, 106, 107, 108, 109, 110, 111, 112, 113, 114, 115, 116, 117, 118, 119, 120, 121, 122]).toArray⟩ : ByteArray) = ⟨#[]⟩ := by rw [e1.out]
   have e3 : (Value.string ⟨(Lib.trimS a0.data.toList (⟨#[97, 98, 99, 100, 101, 102, 103, 104, 105, 106, 107, 108, 109, 110, 111, 112, 113, 114, 115, 116, 117, 118, 119, 120, 121, 122]⟩ : ByteArray).data.toList).toArray⟩) = .string ⟨#[]⟩ := congrArg Value.string e2; rw [e3]; clear e2 e3
   go_wp2
   go_ret
   exact ⟨Z75, below_step HD.out hb⟩
  | false =>
   have e0 : isWordB a0 = false := by unfold isWordB; rw [HIN.out, hall]; rfl
   rw [e0]; obtain ⟨t, ht⟩ : ∃ t : ByteArray, t = ⟨(Lib.trimS a0.data.toList (⟨#[97, 98, 99, 100, 101, 102, 103, 104, 105, 106, 107, 108, 109, 110, 111, 112, 113, 114, 115, 116, 117, 118, 119, 120, 121, 122]⟩ : ByteArray).data.toList).toArray⟩ := ⟨_, rfl⟩
   have hne : t.data.toList ≠ [] := by
    intro h; rw [ht] at h; have := hemp.1 (by simpa using h); rw [hall] at this; cases this
   have e1 : (t.toList = []) = False := eq_false (by rw [Lib.toList_data]; exact hne)
   have e2 : t.toList.isEmpty = false := by
    cases hq : t.toList with
    | nil => exact absurd hq (by rw [Lib.toList_data]; exact hne)
    | cons _ _ => rfl
   clear e0 hall hemp hne
   go_enter Tryd.func58, Tryd.ntmps58
   go_wp2_with fail
   refine (HC.out _ HI.out).mono ?_; rintro e w' ⟨rfl, hd⟩; have HD := Aside0.mk hd.below; clear hd
   go_wp2_with fail
   refine (HT.out _).mono ?_; rintro e w2 ⟨rfl, hb⟩; rw [← ht]; clear ht
   go_wp2
   go_ret
   exact ⟨by first | rfl | (simp; done) | (simp [e1, e2]; done), below_step HD.out hb⟩
def impl_areSkills.f (a0 : Int) : Option (Bool) := (impl_in.f a0 1 15).bind fun t116 => (some t116)
theorem impl_areSkills.calls (a0 : Int) (r : Bool) (w : World) (h : impl_areSkills.f a0 = some r) :
  Calls Tryd.prog 59 #[.int .i64 a0] w fun e w' => e = .returned (.bool r) ∧ Drawn0 w w' := by
 have H : ((impl_in.f a0 1 15).bind fun Aa => (some Aa)) = some r := h; clear h; replace H := Option.bind_eq_some_iff.mp H; obtain ⟨Aa, Ab, H⟩ := H; replace H : (some Aa) = some r := H; have A2 := Aside0.mk Ab; clear Ab; obtain rfl := Option.some.inj H
 go_enter Tryd.func59, Tryd.ntmps59
 go_wp2_with (first | ((with_reducible refine gate_callee (f := 60) rfl ?_); refine glE (some 4) Tryd.func60 #[.int .i64 a0, .int .i64 1, .int .i64 15] ?_; (with_reducible refine (impl_in.calls a0 1 15 Aa _ A2.out).mono ?_); rintro e w' ⟨rfl, ⟨nd, rfl⟩⟩; refine ⟨_, rfl, ?_⟩))
 go_ret
 exact ⟨Z15, Z27⟩
def impl_IsWeaver.f (a0_0 : Int) (a0_1 : ByteArray) (a0_2 : Int) (a0_3 : Int) (a0_4 : Int) : Option (Bool) := (impl_isId.f a0_0).bind fun t118 => (if t118 = true then ((impl_isWord.f a0_1).bind fun t119 => (if t119 = true then ((impl_areSkills.f a0_2).bind fun t120 => (if t120 = true then ((impl_in.f a0_3 100 12000).bind fun t121 => (if t121 = true then ((impl_in.f a0_4 0 99).bind fun t122 => (some t122)) else (some false))) else (some false))) else (some false))) else (some false))
theorem impl_IsWeaver.calls (Ad : Int) (Ai : ByteArray) (Ah : Int) (Af : Int) (Ae : Int) (r : Bool) (w : World) (h : impl_IsWeaver.f Ad Ai Ah Af Ae = some r) :
  Calls Tryd.prog 18 #[.agg #[.int .i64 Ad, .string Ai, .int .i64 Ah, .int .i64 Af, .int .i64 Ae]] w fun e w' => e = .returned (.bool r) ∧ Below w.heap.size w w' := by
 have hu26 := Tryd.underlying26; have HB := aM (Below.refl w.heap.size w); have H : ((impl_isId.f Ad).bind fun An => (if An = true then ((impl_isWord.f Ai).bind fun Ak => (if Ak = true then ((impl_areSkills.f Ah).bind fun Aj => (if Aj = true then ((impl_in.f Af 100 12000).bind fun Ag => (if Ag = true then ((impl_in.f Ae 0 99).bind fun Ab => (some Ab)) else (some false))) else (some false))) else (some false))) else (some false))) = some r := h; clear h; replace H := Option.bind_eq_some_iff.mp H; obtain ⟨An, Dc, H⟩ := H; replace H : (if An = true then ((impl_isWord.f Ai).bind fun Ak => (if Ak = true then ((impl_areSkills.f Ah).bind fun Aj => (if Aj = true then ((impl_in.f Af 100 12000).bind fun Ag => (if Ag = true then ((impl_in.f Ae 0 99).bind fun Ab => (some Ab)) else (some false))) else (some false))) else (some false))) else (some false)) = some r := H; have A2 := Aside0.mk Dc; clear Dc
 by_cases c3 : An = true
 ·subst c3
  have H1 : ((impl_isWord.f Ai).bind fun Ak => (if Ak = true then ((impl_areSkills.f Ah).bind fun Aj => (if Aj = true then ((impl_in.f Af 100 12000).bind fun Ag => (if Ag = true then ((impl_in.f Ae 0 99).bind fun Ab => (some Ab)) else (some false))) else (some false))) else (some false))) = some r := by rw [if_pos rfl] at H; exact H
  clear H; have H := H1; clear H1; replace H := Option.bind_eq_some_iff.mp H; obtain ⟨Ak, Dd, H⟩ := H; replace H : (if Ak = true then ((impl_areSkills.f Ah).bind fun Aj => (if Aj = true then ((impl_in.f Af 100 12000).bind fun Ag => (if Ag = true then ((impl_in.f Ae 0 99).bind fun Ab => (some Ab)) else (some false))) else (some false))) else (some false)) = some r := H; have A4 := Aside0.mk Dd; clear Dd
  by_cases c5 : Ak = true
  ·subst c5
   have H1 : ((impl_areSkills.f Ah).bind fun Aj => (if Aj = true then ((impl_in.f Af 100 12000).bind fun Ag => (if Ag = true then ((impl_in.f Ae 0 99).bind fun Ab => (some Ab)) else (some false))) else (some false))) = some r := by rw [if_pos rfl] at H; exact H
   clear H; have H := H1; clear H1; replace H := Option.bind_eq_some_iff.mp H; obtain ⟨Aj, De, H⟩ := H; replace H : (if Aj = true then ((impl_in.f Af 100 12000).bind fun Ag => (if Ag = true then ((impl_in.f Ae 0 99).bind fun Ab => (some Ab)) else (some false))) else (some false)) = some r := H; have A6 := Aside0.mk De; clear De
   by_cases c7 : Aj = true
   ·subst c7
    have H1 : ((impl_in.f Af 100 12000).bind fun Ag => (if Ag = true then ((impl_in.f Ae 0 99).bind fun Ab => (some Ab)) else (some false))) = some r := by rw [if_pos rfl] at H; exact H
    clear H; have H := H1; clear H1; replace H := Option.bind_eq_some_iff.mp H; obtain ⟨Ag, Df, H⟩ := H; replace H : (if Ag = true then ((impl_in.f Ae 0 99).bind fun Ab => (some Ab)) else (some false)) = some r := H; have A8 := Aside0.mk Df; clear Df
    by_cases c9 : Ag = true
    ·subst c9
     have H1 : ((impl_in.f Ae 0 99).bind fun Ab => (some Ab)) = some r := by rw [if_pos rfl] at H; exact H
     clear H; have H := H1; clear H1; replace H := Option.bind_eq_some_iff.mp H; obtain ⟨Ab, Ao, H⟩ := H; replace H : (some Ab) = some r := H; have Dg := Aside0.mk Ao; clear Ao; obtain rfl := Option.some.inj H
     go_enter Tryd.func18, Tryd.ntmps18
     go_wp2_with (first | ((with_reducible refine gate_dst (N := 1) rfl ?_); refine bxE 1 #[.int .i64 Ad, .string Ai, .int .i64 Ah, .int .i64 Af, .int .i64 Ae] 26 ?_; intro Al hg Dh hbox hb; have Aa := aM (hbox); have Am := gwS hg Z0; have Ac := gwS hg Z0; replace HB := hbS Z0 hb; clear hb hbox hg; obtain ⟨Ap, Aq, Ar, Au, Av⟩ := bz5 Aa; obtain ⟨Aw, Ax, Ay, Az, Ba⟩ := fz5 Aa) | ((with_reducible refine gate_callee (f := 57) rfl ?_); refine glE (some 5) Tryd.func57 #[.int .i64 Ad] ?_; (with_reducible refine (impl_isId.calls Ad true _ A2.out).mono ?_); rintro e w' ⟨rfl, ⟨nd, rfl⟩⟩; refine ⟨_, rfl, ?_⟩) | (go_at_call 58; (with_reducible refine (impl_isWord.calls Ai true _ A4.out).mono ?_); rintro e Di ⟨rfl, hb⟩; replace Aa := bkB Aa hb; replace HB := hbS Z34 hb; (try clear hb); obtain ⟨Bb, Bc, Bd, Bf, Bg⟩ := bz5 Aa; obtain ⟨Bh, Bi, Bj, Bk, Bl⟩ := fz5 Aa) | (go_at_call 59; (with_reducible refine (impl_areSkills.calls Ah true _ A6.out).mono ?_); rintro e w' ⟨rfl, ⟨nd, rfl⟩⟩) | (go_at_call 60; (with_reducible refine (impl_in.calls Af 100 12000 true _ A8.out).mono ?_); rintro e w' ⟨rfl, ⟨nd, rfl⟩⟩) | (go_at_call 60; (with_reducible refine (impl_in.calls Ae 0 99 Ab _ Dg.out).mono ?_); rintro e w' ⟨rfl, ⟨nd, rfl⟩⟩))
     go_ret
     exact ⟨Z14, Z34⟩
    ·replace c9 := Bool.eq_false_iff.mpr c9
     subst c9
     have H1 : (some false) = some r := by rw [if_neg (show ¬ (false = true) by decide)] at H; exact H
     clear H; have H := H1; clear H1; obtain rfl := Option.some.inj H
     go_enter Tryd.func18, Tryd.ntmps18
     go_wp2_with (first | ((with_reducible refine gate_dst (N := 1) rfl ?_); refine bxE 1 #[.int .i64 Ad, .string Ai, .int .i64 Ah, .int .i64 Af, .int .i64 Ae] 26 ?_; intro Al hg Dj hbox hb; have Aa := aM (hbox); have Am := gwS hg Z0; have Ac := gwS hg Z0; replace HB := hbS Z0 hb; clear hb hbox hg; obtain ⟨Bm, Bn, Bo, Bp, Bq⟩ := bz5 Aa; obtain ⟨Br, Bs, Bt, Bu, Bv⟩ := fz5 Aa) | ((with_reducible refine gate_callee (f := 57) rfl ?_); refine glE (some 5) Tryd.func57 #[.int .i64 Ad] ?_; (with_reducible refine (impl_isId.calls Ad true _ A2.out).mono ?_); rintro e w' ⟨rfl, ⟨nd, rfl⟩⟩; refine ⟨_, rfl, ?_⟩) | (go_at_call 58; (with_reducible refine (impl_isWord.calls Ai true _ A4.out).mono ?_); rintro e Dk ⟨rfl, hb⟩; replace Aa := bkB Aa hb; replace HB := hbS Z34 hb; (try clear hb); obtain ⟨Bw, Bx, Bz, B0, B1⟩ := bz5 Aa; obtain ⟨B2, B3, B4, B6, B7⟩ := fz5 Aa) | (go_at_call 59; (with_reducible refine (impl_areSkills.calls Ah true _ A6.out).mono ?_); rintro e w' ⟨rfl, ⟨nd, rfl⟩⟩) | (go_at_call 60; (with_reducible refine (impl_in.calls Af 100 12000 false _ A8.out).mono ?_); rintro e w' ⟨rfl, ⟨nd, rfl⟩⟩))
     go_ret
     exact ⟨Z14, Z34⟩
   ·replace c7 := Bool.eq_false_iff.mpr c7
    subst c7
    have H1 : (some false) = some r := by rw [if_neg (show ¬ (false = true) by decide)] at H; exact H
    clear H; have H := H1; clear H1; obtain rfl := Option.some.inj H
    go_enter Tryd.func18, Tryd.ntmps18
    go_wp2_with (first | ((with_reducible refine gate_dst (N := 1) rfl ?_); refine bxE 1 #[.int .i64 Ad, .string Ai, .int .i64 Ah, .int .i64 Af, .int .i64 Ae] 26 ?_; intro Al hg Dl hbox hb; have Aa := aM (hbox); have Am := gwS hg Z0; have Ac := gwS hg Z0; replace HB := hbS Z0 hb; clear hb hbox hg; obtain ⟨B8, B9, Ca, Cb, Cc⟩ := bz5 Aa; obtain ⟨Cd, Ce, Cf, Cg, Ch⟩ := fz5 Aa) | ((with_reducible refine gate_callee (f := 57) rfl ?_); refine glE (some 5) Tryd.func57 #[.int .i64 Ad] ?_; (with_reducible refine (impl_isId.calls Ad true _ A2.out).mono ?_); rintro e w' ⟨rfl, ⟨nd, rfl⟩⟩; refine ⟨_, rfl, ?_⟩) | (go_at_call 58; (with_reducible refine (impl_isWord.calls Ai true _ A4.out).mono ?_); rintro e Dm ⟨rfl, hb⟩; replace Aa := bkB Aa hb; replace HB := hbS Z34 hb; (try clear hb); obtain ⟨Ci, Cj, Ck, Cl, Cm⟩ := bz5 Aa; obtain ⟨Cn, Co, Cp, Cq, Cr⟩ := fz5 Aa) | (go_at_call 59; (with_reducible refine (impl_areSkills.calls Ah false _ A6.out).mono ?_); rintro e w' ⟨rfl, ⟨nd, rfl⟩⟩))
    go_ret
    exact ⟨Z14, Z34⟩
  ·replace c5 := Bool.eq_false_iff.mpr c5
   subst c5
   have H1 : (some false) = some r := by rw [if_neg (show ¬ (false = true) by decide)] at H; exact H
   clear H; have H := H1; clear H1; obtain rfl := Option.some.inj H
   go_enter Tryd.func18, Tryd.ntmps18
   go_wp2_with (first | ((with_reducible refine gate_dst (N := 1) rfl ?_); refine bxE 1 #[.int .i64 Ad, .string Ai, .int .i64 Ah, .int .i64 Af, .int .i64 Ae] 26 ?_; intro Al hg Dn hbox hb; have Aa := aM (hbox); have Am := gwS hg Z0; have Ac := gwS hg Z0; replace HB := hbS Z0 hb; clear hb hbox hg; obtain ⟨Cs, Ct, Cu, Cv, Cw⟩ := bz5 Aa; obtain ⟨Cx, Cy, Cz, C0, C1⟩ := fz5 Aa) | ((with_reducible refine gate_callee (f := 57) rfl ?_); refine glE (some 5) Tryd.func57 #[.int .i64 Ad] ?_; (with_reducible refine (impl_isId.calls Ad true _ A2.out).mono ?_); rintro e w' ⟨rfl, ⟨nd, rfl⟩⟩; refine ⟨_, rfl, ?_⟩) | (go_at_call 58; (with_reducible refine (impl_isWord.calls Ai false _ A4.out).mono ?_); rintro e Dp ⟨rfl, hb⟩; replace Aa := bkB Aa hb; replace HB := hbS Z34 hb; (try clear hb)))
   go_ret
   exact ⟨Z14, Z34⟩
 ·replace c3 := Bool.eq_false_iff.mpr c3
  subst c3
  have H1 : (some false) = some r := by rw [if_neg (show ¬ (false = true) by decide)] at H; exact H
  clear H; have H := H1; clear H1; obtain rfl := Option.some.inj H
  go_enter Tryd.func18, Tryd.ntmps18
  go_wp2_with (first | ((with_reducible refine gate_dst (N := 1) rfl ?_); refine bxE 1 #[.int .i64 Ad, .string Ai, .int .i64 Ah, .int .i64 Af, .int .i64 Ae] 26 ?_; intro Al hg Dq hbox hb; have Aa := aM (hbox); have Am := gwS hg Z0; have Ac := gwS hg Z0; replace HB := hbS Z0 hb; clear hb hbox hg; obtain ⟨C2, C3, C4, C5, C6⟩ := bz5 Aa; obtain ⟨C7, C8, C9, Da, Db⟩ := fz5 Aa) | ((with_reducible refine gate_callee (f := 57) rfl ?_); refine glE (some 5) Tryd.func57 #[.int .i64 Ad] ?_; (with_reducible refine (impl_isId.calls Ad false _ A2.out).mono ?_); rintro e w' ⟨rfl, ⟨nd, rfl⟩⟩; refine ⟨_, rfl, ?_⟩))
  go_ret
  exact ⟨Z14, Z34⟩
def okWv (x : S26) : Bool := rng x.f0 1 99 && (isWordB x.f1 && (rng x.f2 1 15 && (rng x.f3 100 12000 && rng x.f4 0 99)))
theorem impl_IsWeaver.total (x : S26) : impl_IsWeaver.f x.f0 x.f1 x.f2 x.f3 x.f4 = some (okWv x) := by
 unfold impl_IsWeaver.f impl_isId.f impl_isWord.f impl_areSkills.f okWv
 simp only [impl_in.eq, Option.bind_some]
 cases rng x.f0 1 99 <;> cases isWordB x.f1 <;> cases rng x.f2 1 15 <;> cases rng x.f3 100 12000 <;> cases rng x.f4 0 99 <;> rfl
end Go.Proofs.YthalifhbjioaeaaDoor.H
