-- by wip/pack.py of this repo
import Derived.Test.YtfeighajmkcjfaaGreatDoorZ01Hx0
import Derived.Test.YtfeighajmkcjfaaGreatDoorZ01Hx2
import Derived.Test.YtfeighajmkcjfaaGreatDoorZ01Hx3
import Derived.Test.YtfeighajmkcjfaaGreatDoorZ01Hx5
import Derived.Test.YtfeighajmkcjfaaGreatDoorZ01Hx6
import Derived.Test.YtfeighajmkcjfaaGreatDoorZ01Hx8
import Derived.Test.YtfeighajmkcjfaaGreatDoorZ01WApart
import Derived.Test.YtfeighajmkcjfaaGreatDoorZ01WGuard
import Derived.Test.YtfeighajmkcjfaaGreatDoorZ01WLast
import Derived.Test.YtfeighajmkcjfaaGreatDoorZ01WMore
import Derived.Test.YtfeighajmkcjfaaGreatDoorZ01WN
import Derived.Test.YtfeighajmkcjfaaGreatDoorZ01WTab
import Derived.Test.YtfeighajmkcjfaaGreatDoorZ01WWords
import Derived.Test.YtfeighajmkcjfaaGreatDoorZ01Short
namespace Go.Proofs.YtfeighajmkcjfaaGreatDoor.H
open Go.RowKit Go.Proofs.YtfeighajmkcjfaaGreatDoorW.PrintWords Go.Proofs.YtfeighajmkcjfaaGreatDoorW.PrintLast Go.Proofs.YtfeighajmkcjfaaGreatDoorW.PrintMore
attribute [local go_sem] max2_int min2_int max_two min_two max_three min_three max_four min_four
set_option maxHeartbeats 8000000
set_option maxRecDepth 100000
set_option linter.unusedVariables false
set_option linter.unusedSimpArgs false
def spec_l7Bath.l0 : Nat → List (S53) → Int → Int → Int → Int → List Int → Option (Bool)
 | 0, _, _, _, _, _, _ => none
 | k + 1, x0, x5, x390000, x390001, x390002, x390003 => if x5 < (x390003.length : Int) then (if 0 ≤ x5 then ((spec_l7Grams.f (rd x390003 x5)).bind fun t391 => (if t391 = true then (spec_l7Bath.l0 k x0 (wrap64 (x5 + 1)) x390000 x390001 x390002 x390003) else (some false))) else (none)) else ((spec_l7Good.f k x0).bind fun t392 => (if t392 = true then ((spec_l1In.f x390000 1 500).bind fun t393 => (if t393 = true then ((spec_l1In.f x390001 0 100).bind fun t394 => (if t394 = true then ((spec_l7Grams.f x390002).bind fun t395 => (if t395 = true then (some ((x390003.length : Int) == (x0.length : Int))) else (some false))) else (some false))) else (some false))) else (some false)))
def spec_l7Bath.f (k : Nat) (l0 : List (S53)) (a1_0 : Int) (a1_1 : Int) (a1_2 : Int) (l1_3 : List Int) : Option (Bool) := spec_l7Bath.l0 k l0 0 a1_0 a1_1 a1_2 l1_3
theorem spec_l7Bath.calls (k : Nat) (A0 : Option Addr) (c0 : Nat) (l0 : List (S53)) (Ah : Int) (Ag : Int) (Af : Int) (An : Option Addr) (Ao : Nat) (Ab : List Int) (r : Bool) (w : World) (D7 : Kd.C k53 w A0 l0.length l0) (D8 : l0.length ≤ c0) (Ap : Kd.C (Kd.int .i64) w An Ab.length Ab) (Aq : Ab.length ≤ Ao) (h : spec_l7Bath.f k l0 Ah Ag Af Ab = some r) :
  Calls Tryz.prog 36 #[.slice A0 l0.length c0, .agg #[.int .i64 Ah, .int .i64 Ag, .int .i64 Af, .slice An Ab.length Ao]] w fun e w' => e = .returned (.bool r) ∧ Below w.heap.size w w' := by
 have hu33 := Tryz.underlying33; have Au := Aside0.mk D7; have Av := Aside0.mk D8; clear D7 D8; have Ar := Aside0.mk Ap; have D9 := Aside0.mk Aq; clear Ap Aq; have HB := aM (Below.refl w.heap.size w); have H : (spec_l7Bath.l0 k l0 0 Ah Ag Af Ab) = some r := h; clear h; have H' := Aside0.mk H; clear H
 go_enter Tryz.func36, Tryz.ntmps36
 go_wp2_with (first | ((with_reducible refine gate_dst (N := 3) rfl ?_); (try (refine gate_guard (by rfl) ?_; dsimp only)); refine bxE 3 #[.int .i64 Ah, .int .i64 Ag, .int .i64 Af, .slice An Ab.length Ao] 33 ?_; intro Aw hg w3 hbox hb; have Aa := aM (hbox); have Ea := gwS hg Z0; have Ad := gwS hg Z0; replace HB := hbS Z0 hb; clear hb hbox hg))
 go_loopg [5] k (fun kq v5 w' => ∃ (Ac : Int), v5 = .int .i64 Ac ∧ Aside0 (spec_l7Bath.l0 kq l0 Ac Ah Ag Af Ab = some r) ∧ Aside0 (kq ≤ k) ∧ Aside0 (w'.heap[Aw]? = some (.cells #[.int .i64 Ah, .int .i64 Ag, .int .i64 Af, (.slice An Ab.length Ao)] 33 (0, 0))) ∧ Aside0 (Below w.heap.size w w'))
 case atStart => exact ⟨(0), Z12, H', ⟨Nat.le_refl _⟩, ⟨Z38⟩, ⟨Z29⟩⟩
 case round =>
  clear H'; (try clear c1); (try clear p2); (try clear c3); obtain ⟨Ac, rfl, HA, HK1, Aa, HB⟩ := hrel; cases gk with
  | zero => exact absurd HA.out (by simp [spec_l7Bath.l0])
  | succ k1 =>
   have H := HA.out; clear HA
   simp only [spec_l7Bath.l0] at H
   by_cases c4 : Ac < (Ab.length : Int)
   ·rw [if_pos c4] at H
    have c4b0 : decide (Ac < (Ab.length : Int)) = true := decide_eq_true c4; clear c4
    by_cases c5 : 0 ≤ Ac
    ·rw [if_pos c5] at H
     have c5b0 : decide (0 ≤ Ac) = true := decide_eq_true c5; clear c5; replace H := Option.bind_eq_some_iff.mp H; obtain ⟨Ax, Eb, H⟩ := H; replace H : (if Ax = true then (spec_l7Bath.l0 k1 l0 (wrap64 (Ac + 1)) Ah Ag Af Ab) else (some false)) = some r := H; have A6 := Aside0.mk Eb; clear Eb
     by_cases c7 : Ax = true
     ·subst c7
      have H1 : (spec_l7Bath.l0 k1 l0 (wrap64 (Ac + 1)) Ah Ag Af Ab) = some r := by rw [if_pos rfl] at H; exact H
      clear H; have H := H1; clear H1; have H' := Aside0.mk H; clear H; obtain ⟨Dq, Dr, Ds, Dt⟩ := bz4 Aa; obtain ⟨Du, Dv, Dw, Dx⟩ := fz4 Aa; have Ak : 0 ≤ (Ac : Int) := of_decide_eq_true Z6; have Al : Ac < (Ab.length : Int) := of_decide_eq_true Z6; obtain ⟨ad390, e390, Ae⟩ := Kd.at_int Ar.out Ac Ak Al; cases e390; replace Ae := (HB.out.cell (World.block_lt_of_cell? w _ Ae)).trans Ae; replace Ak := eq_true Ak; replace Al := eq_true Al
      go_wp2_with (first | ((with_reducible refine gate_callee (f := 57) rfl ?_); refine glE (some 18) Tryz.func57 #[.int .i64 (rd Ab Ac)] ?_; (with_reducible refine (spec_l7Grams.calls (rd Ab Ac) true _ A6.out).mono ?_); rintro e w' ⟨rfl, ⟨nd, rfl⟩⟩; refine ⟨_, rfl, ?_⟩))
      go_roundg k1
      case measure => have := HK1.out; omega
      case rel => exact ⟨(wrap64 (Ac + 1)), Z12, H', ⟨Z114⟩, ⟨Z38⟩, ⟨Z29⟩⟩
     ·replace c7 := Bool.eq_false_iff.mpr c7
      subst c7
      have H1 : (some false) = some r := by rw [if_neg (show ¬ (false = true) by decide)] at H; exact H
      clear H; have H := H1; clear H1; obtain rfl := Option.some.inj H; obtain ⟨Dy, Dz, D0, D1⟩ := bz4 Aa; obtain ⟨D2, D3, D4, D5⟩ := fz4 Aa; have Ak : 0 ≤ (Ac : Int) := of_decide_eq_true Z6; have Al : Ac < (Ab.length : Int) := of_decide_eq_true Z6; obtain ⟨ad390, e390, Ae⟩ := Kd.at_int Ar.out Ac Ak Al; cases e390; replace Ae := (HB.out.cell (World.block_lt_of_cell? w _ Ae)).trans Ae; replace Ak := eq_true Ak; replace Al := eq_true Al
      go_wp2_with (first | ((with_reducible refine gate_callee (f := 57) rfl ?_); refine glE (some 18) Tryz.func57 #[.int .i64 (rd Ab Ac)] ?_; (with_reducible refine (spec_l7Grams.calls (rd Ab Ac) false _ A6.out).mono ?_); rintro e w' ⟨rfl, ⟨nd, rfl⟩⟩; refine ⟨_, rfl, ?_⟩))
      go_ret
      exact ⟨Z11, Z29⟩
    ·rw [if_neg c5] at H
     exact absurd H (by simp)
   ·rw [if_neg c4] at H
    have c4b0 : decide (Ac < (Ab.length : Int)) = false := decide_eq_false c4; clear c4; replace H := Option.bind_eq_some_iff.mp H; obtain ⟨Ay, Az, H⟩ := H; replace H : (if Ay = true then ((spec_l1In.f Ah 1 500).bind fun Am => (if Am = true then ((spec_l1In.f Ag 0 100).bind fun Aj => (if Aj = true then ((spec_l7Grams.f Af).bind fun Ai => (if Ai = true then (some ((Ab.length : Int) == (l0.length : Int))) else (some false))) else (some false))) else (some false))) else (some false)) = some r := H; have Ba := Aside0.mk Az; clear Az
    by_cases Bf : Ay = true
    ·subst Bf
     have H1 : ((spec_l1In.f Ah 1 500).bind fun Am => (if Am = true then ((spec_l1In.f Ag 0 100).bind fun Aj => (if Aj = true then ((spec_l7Grams.f Af).bind fun Ai => (if Ai = true then (some ((Ab.length : Int) == (l0.length : Int))) else (some false))) else (some false))) else (some false))) = some r := by rw [if_pos rfl] at H; exact H
     clear H; have H := H1; clear H1; replace H := Option.bind_eq_some_iff.mp H; obtain ⟨Am, Bb, H⟩ := H; replace H : (if Am = true then ((spec_l1In.f Ag 0 100).bind fun Aj => (if Aj = true then ((spec_l7Grams.f Af).bind fun Ai => (if Ai = true then (some ((Ab.length : Int) == (l0.length : Int))) else (some false))) else (some false))) else (some false)) = some r := H; have Bg := Aside0.mk Bb; clear Bb
     by_cases Bh : Am = true
     ·subst Bh
      have H1 : ((spec_l1In.f Ag 0 100).bind fun Aj => (if Aj = true then ((spec_l7Grams.f Af).bind fun Ai => (if Ai = true then (some ((Ab.length : Int) == (l0.length : Int))) else (some false))) else (some false))) = some r := by rw [if_pos rfl] at H; exact H
      clear H; have H := H1; clear H1; replace H := Option.bind_eq_some_iff.mp H; obtain ⟨Aj, Bc, H⟩ := H; replace H : (if Aj = true then ((spec_l7Grams.f Af).bind fun Ai => (if Ai = true then (some ((Ab.length : Int) == (l0.length : Int))) else (some false))) else (some false)) = some r := H; have D6 := Aside0.mk Bc; clear Bc
      by_cases Bi : Aj = true
      ·subst Bi
       have H1 : ((spec_l7Grams.f Af).bind fun Ai => (if Ai = true then (some ((Ab.length : Int) == (l0.length : Int))) else (some false))) = some r := by rw [if_pos rfl] at H; exact H
       clear H; have H := H1; clear H1; replace H := Option.bind_eq_some_iff.mp H; obtain ⟨Ai, Bd, H⟩ := H; replace H : (if Ai = true then (some ((Ab.length : Int) == (l0.length : Int))) else (some false)) = some r := H; have Ec := Aside0.mk Bd; clear Bd
       by_cases Bj : Ai = true
       ·subst Bj
        have H1 : (some ((Ab.length : Int) == (l0.length : Int))) = some r := by rw [if_pos rfl] at H; exact H
        clear H; have H := H1; clear H1; obtain rfl := Option.some.inj H; obtain ⟨Bk, Bl, Bm, Bn⟩ := bz4 Aa; obtain ⟨Bo, Bp, Bq, Br⟩ := fz4 Aa
        go_wp2_with (first | ((with_reducible refine gate_callee (f := 27) rfl ?_); refine glE (some 21) Tryz.func27 #[.slice A0 l0.length c0] ?_; (with_reducible refine (spec_l7Good.calls k1 _ _ l0 true _ ?side1 ?side2 Ba.out).mono ?_); (case side1 => exact Z35); (case side2 => exact Av.out); rintro e Ed ⟨rfl, hb⟩; refine ⟨_, rfl, ?_⟩; replace Aa := bkB Aa hb; replace HB := hbS Z29 hb; (try clear hb); obtain ⟨Bs, Bt, Bu, Bv⟩ := bz4 Aa; obtain ⟨Bw, Bx, Bz, B0⟩ := fz4 Aa) | (go_at_call 28; (with_reducible refine (spec_l1In.calls Ah 1 500 true _ Bg.out).mono ?_); rintro e w' ⟨rfl, ⟨nd, rfl⟩⟩) | (go_at_call 28; (with_reducible refine (spec_l1In.calls Ag 0 100 true _ D6.out).mono ?_); rintro e w' ⟨rfl, ⟨nd, rfl⟩⟩) | (go_at_call 57; (with_reducible refine (spec_l7Grams.calls Af true _ Ec.out).mono ?_); rintro e w' ⟨rfl, ⟨nd, rfl⟩⟩))
        go_ret
        exact ⟨Z11, Z29⟩
       ·replace Bj := Bool.eq_false_iff.mpr Bj
        subst Bj
        have H1 : (some false) = some r := by rw [if_neg (show ¬ (false = true) by decide)] at H; exact H
        clear H; have H := H1; clear H1; obtain rfl := Option.some.inj H; obtain ⟨B1, B2, B3, B6⟩ := bz4 Aa; obtain ⟨B8, Ca, Cb, Cc⟩ := fz4 Aa
        go_wp2_with (first | ((with_reducible refine gate_callee (f := 27) rfl ?_); refine glE (some 21) Tryz.func27 #[.slice A0 l0.length c0] ?_; (with_reducible refine (spec_l7Good.calls k1 _ _ l0 true _ ?side1 ?side2 Ba.out).mono ?_); (case side1 => exact Z35); (case side2 => exact Av.out); rintro e Ee ⟨rfl, hb⟩; refine ⟨_, rfl, ?_⟩; replace Aa := bkB Aa hb; replace HB := hbS Z29 hb; (try clear hb); obtain ⟨Cd, Ce, Cf, Cg⟩ := bz4 Aa; obtain ⟨Ch, Ci, Cj, Ck⟩ := fz4 Aa) | (go_at_call 28; (with_reducible refine (spec_l1In.calls Ah 1 500 true _ Bg.out).mono ?_); rintro e w' ⟨rfl, ⟨nd, rfl⟩⟩) | (go_at_call 28; (with_reducible refine (spec_l1In.calls Ag 0 100 true _ D6.out).mono ?_); rintro e w' ⟨rfl, ⟨nd, rfl⟩⟩) | (go_at_call 57; (with_reducible refine (spec_l7Grams.calls Af false _ Ec.out).mono ?_); rintro e w' ⟨rfl, ⟨nd, rfl⟩⟩))
        go_ret
        exact ⟨Z11, Z29⟩
      ·replace Bi := Bool.eq_false_iff.mpr Bi
       subst Bi
       have H1 : (some false) = some r := by rw [if_neg (show ¬ (false = true) by decide)] at H; exact H
       clear H; have H := H1; clear H1; obtain rfl := Option.some.inj H; obtain ⟨Cl, Cm, Cn, Co⟩ := bz4 Aa; obtain ⟨Cp, Cq, Cr, Cs⟩ := fz4 Aa
       go_wp2_with (first | ((with_reducible refine gate_callee (f := 27) rfl ?_); refine glE (some 21) Tryz.func27 #[.slice A0 l0.length c0] ?_; (with_reducible refine (spec_l7Good.calls k1 _ _ l0 true _ ?side1 ?side2 Ba.out).mono ?_); (case side1 => exact Z35); (case side2 => exact Av.out); rintro e Ef ⟨rfl, hb⟩; refine ⟨_, rfl, ?_⟩; replace Aa := bkB Aa hb; replace HB := hbS Z29 hb; (try clear hb); obtain ⟨Ct, Cu, Cv, Cw⟩ := bz4 Aa; obtain ⟨Cx, Cy, Cz, C0⟩ := fz4 Aa) | (go_at_call 28; (with_reducible refine (spec_l1In.calls Ah 1 500 true _ Bg.out).mono ?_); rintro e w' ⟨rfl, ⟨nd, rfl⟩⟩) | (go_at_call 28; (with_reducible refine (spec_l1In.calls Ag 0 100 false _ D6.out).mono ?_); rintro e w' ⟨rfl, ⟨nd, rfl⟩⟩))
       go_ret
       exact ⟨Z11, Z29⟩
     ·replace Bh := Bool.eq_false_iff.mpr Bh
      subst Bh
      have H1 : (some false) = some r := by rw [if_neg (show ¬ (false = true) by decide)] at H; exact H
      clear H; have H := H1; clear H1; obtain rfl := Option.some.inj H; obtain ⟨C1, C2, C3, C4⟩ := bz4 Aa; obtain ⟨C5, C6, C7, C8⟩ := fz4 Aa
      go_wp2_with (first | ((with_reducible refine gate_callee (f := 27) rfl ?_); refine glE (some 21) Tryz.func27 #[.slice A0 l0.length c0] ?_; (with_reducible refine (spec_l7Good.calls k1 _ _ l0 true _ ?side1 ?side2 Ba.out).mono ?_); (case side1 => exact Z35); (case side2 => exact Av.out); rintro e Eg ⟨rfl, hb⟩; refine ⟨_, rfl, ?_⟩; replace Aa := bkB Aa hb; replace HB := hbS Z29 hb; (try clear hb); obtain ⟨C9, Da, Db, Dc⟩ := bz4 Aa; obtain ⟨Dd, De, Df, Dg⟩ := fz4 Aa) | (go_at_call 28; (with_reducible refine (spec_l1In.calls Ah 1 500 false _ Bg.out).mono ?_); rintro e w' ⟨rfl, ⟨nd, rfl⟩⟩))
      go_ret
      exact ⟨Z11, Z29⟩
    ·replace Bf := Bool.eq_false_iff.mpr Bf
     subst Bf
     have H1 : (some false) = some r := by rw [if_neg (show ¬ (false = true) by decide)] at H; exact H
     clear H; have H := H1; clear H1; obtain rfl := Option.some.inj H; obtain ⟨Dh, Di, Dj, Dk⟩ := bz4 Aa; obtain ⟨Dl, Dm, Dn, Dp⟩ := fz4 Aa
     go_wp2_with (first | ((with_reducible refine gate_callee (f := 27) rfl ?_); refine glE (some 21) Tryz.func27 #[.slice A0 l0.length c0] ?_; (with_reducible refine (spec_l7Good.calls k1 _ _ l0 false _ ?side1 ?side2 Ba.out).mono ?_); (case side1 => exact Z35); (case side2 => exact Av.out); rintro e Eh ⟨rfl, hb⟩; refine ⟨_, rfl, ?_⟩; replace Aa := bkB Aa hb; replace HB := hbS Z29 hb; (try clear hb)))
     go_ret
     exact ⟨Z11, Z29⟩
def spec_l1Least.f (a0 : Int) (a1 : Int) : Option (Int) := if a0 < a1 then (some a0) else (some a1)
theorem spec_l1Least.calls (a0 : Int) (a1 : Int) (r : Int) (w : World) (h : spec_l1Least.f a0 a1 = some r) :
  Calls Tryz.prog 37 #[.int .i64 a0, .int .i64 a1] w fun e w' => e = .returned (.int .i64 r) ∧ Drawn0 w w' := by
 have H : (if a0 < a1 then (some a0) else (some a1)) = some r := h; clear h
 by_cases c3 : a0 < a1
 ·rw [if_pos c3] at H
  have c3b0 : decide (a0 < a1) = true := decide_eq_true c3; clear c3; obtain rfl := Option.some.inj H
  go_enter Tryz.func37, Tryz.ntmps37
  go_wp2
  go_ret
  exact ⟨Z12, Z37⟩
 ·rw [if_neg c3] at H
  have c3b0 : decide (a0 < a1) = false := decide_eq_false c3; clear c3; obtain rfl := Option.some.inj H
  go_enter Tryz.func37, Tryz.ntmps37
  go_wp2
  go_ret
  exact ⟨Z12, Z37⟩
mutual
def spec_DepthLeft.j0 : Nat → List (S53) → Int → Bool → Int → Int → Int → List Int → Option (Int × Bool)
 | 0, _, _, _, _, _, _, _ => none
 | k + 1, x0, x2, x18, x397000, x397001, x397002, x397003 => if x18 = true then (some (0, false)) else (spec_DepthLeft.l0 k x0 x2 100 0 x397000 x397001 x397002 x397003)
def spec_DepthLeft.l0 : Nat → List (S53) → Int → Int → Int → Int → Int → Int → List Int → Option (Int × Bool)
 | 0, _, _, _, _, _, _, _, _ => none
 | k + 1, x0, x2, x8, x9, x397000, x397001, x397002, x397003 => if x9 < (x0.length : Int) then (if 0 ≤ x9 then (if x9 < (x397003.length : Int) then (if (wrap64 (((rd_T53 x0 x9).f1) * x2)) = 0 then (none) else ((spec_l1Least.f x8 (wrap64 (Int.tdiv (wrap64 (100000 * (rd x397003 x9))) (wrap64 (((rd_T53 x0 x9).f1) * x2))))).bind fun t401 => (spec_DepthLeft.l0 k x0 x2 t401 (wrap64 (x9 + 1)) x397000 x397001 x397002 x397003))) else (none)) else (none)) else (some (x8, true))
end
def spec_DepthLeft.f (k : Nat) (l0 : List (S53)) (a1_0 : Int) (a1_1 : Int) (a1_2 : Int) (l1_3 : List Int) (a2 : Int) : Option (Int × Bool) := (spec_l7Bath.f k l0 a1_0 a1_1 a1_2 l1_3).bind fun t397 => (if t397 = true then ((spec_l1In.f a2 1 50000).bind fun t398 => (spec_DepthLeft.j0 k l0 a2 (!t398) a1_0 a1_1 a1_2 l1_3)) else (spec_DepthLeft.j0 k l0 a2 true a1_0 a1_1 a1_2 l1_3))
theorem spec_DepthLeft.calls (k : Nat) (A0 : Option Addr) (c0 : Nat) (l0 : List (S53)) (Ad : Int) (Ae : Int) (Af : Int) (An : Option Addr) (Ao : Nat) (Ab : List Int) (a2 : Int) (r1 : Int) (r2 : Bool) (w : World) (Ci : Kd.C k53 w A0 l0.length l0) (Cj : l0.length ≤ c0) (Bn : Kd.C (Kd.int .i64) w An Ab.length Ab) (Bo : Ab.length ≤ Ao) (h : spec_DepthLeft.f k l0 Ad Ae Af Ab a2 = some (r1, r2)) :
  Calls Tryz.prog 12 #[.slice A0 l0.length c0, .agg #[.int .i64 Ad, .int .i64 Ae, .int .i64 Af, .slice An Ab.length Ao], .int .i64 a2] w fun e w' => e = .returned (.tuple #[.int .i64 r1, .bool r2]) ∧ Below w.heap.size w w' := by
 have hu33 := Tryz.underlying33; have Bq := Aside0.mk Ci; have Bv := Aside0.mk Cj; clear Ci Cj; have Ah := Aside0.mk Bn; have Aj := Aside0.mk Bo; clear Bn Bo; have HB := aM (Below.refl w.heap.size w); have H : ((spec_l7Bath.f k l0 Ad Ae Af Ab).bind fun Bm => (if Bm = true then ((spec_l1In.f a2 1 50000).bind fun Ai => (spec_DepthLeft.j0 k l0 a2 (!Ai) Ad Ae Af Ab)) else (spec_DepthLeft.j0 k l0 a2 true Ad Ae Af Ab))) = some (r1, r2) := h; clear h; have Cf := Aside0.mk H; clear H
 go_enter Tryz.func12, Tryz.ntmps12
 go_upto_region 1 with (first | ((with_reducible refine gate_dst (N := 4) rfl ?_); refine bxE 4 #[.int .i64 Ad, .int .i64 Ae, .int .i64 Af, .slice An Ab.length Ao] 33 ?_; intro Ap hg w5 hbox hb; have Aa := aM (hbox); have Bp := gwS hg Z0; have Ag := gwS hg Z0; replace HB := hbS Z0 hb; clear hb hbox hg))
 repeat (go_quiet (first | ((with_reducible refine gate_dst (N := 4) rfl ?_); refine bxE 4 #[.int .i64 Ad, .int .i64 Ae, .int .i64 Af, .slice An Ab.length Ao] 33 ?_; intro Ap hg w5 hbox hb; have Aa := aM (hbox); have Bp := gwS hg Z0; have Ag := gwS hg Z0; replace HB := hbS Z0 hb; clear hb hbox hg)); go_upto_region 1 with (first | ((with_reducible refine gate_dst (N := 4) rfl ?_); refine bxE 4 #[.int .i64 Ad, .int .i64 Ae, .int .i64 Af, .slice An Ab.length Ao] 33 ?_; intro Ap hg w5 hbox hb; have Aa := aM (hbox); have Bp := gwS hg Z0; have Ag := gwS hg Z0; replace HB := hbS Z0 hb; clear hb hbox hg)))
 (try simp only [Act.put, List.setIfInBounds_toArray, List.set_cons_zero, List.set_cons_succ])
 go_cut [18] (fun Co wc => ∃ (kq : Nat) (Aq : Bool), Co = .bool Aq ∧ Aside0 (spec_DepthLeft.j0 kq l0 a2 Aq Ad Ae Af Ab = some (r1, r2)) ∧ Aside0 (kq ≤ k) ∧ Aside0 (wc.heap[Ap]? = some (.cells #[.int .i64 Ad, .int .i64 Ae, .int .i64 Af, (.slice An Ab.length Ao)] 33 (0, 0))) ∧ Aside0 (Below w.heap.size w wc))
 case first =>
  have H := Cf.out; clear Cf; replace H := Option.bind_eq_some_iff.mp H; obtain ⟨Bm, Ck, H⟩ := H; replace H : (if Bm = true then ((spec_l1In.f a2 1 50000).bind fun Ai => (spec_DepthLeft.j0 k l0 a2 (!Ai) Ad Ae Af Ab)) else (spec_DepthLeft.j0 k l0 a2 true Ad Ae Af Ab)) = some (r1, r2) := H; have A6 := Aside0.mk Ck; clear Ck
  by_cases c7 : Bm = true
  ·subst c7
   have H1 : ((spec_l1In.f a2 1 50000).bind fun Ai => (spec_DepthLeft.j0 k l0 a2 (!Ai) Ad Ae Af Ab)) = some (r1, r2) := by rw [if_pos rfl] at H; exact H
   clear H; have H := H1; clear H1; replace H := Option.bind_eq_some_iff.mp H; obtain ⟨Ai, Cl, H⟩ := H; replace H : (spec_DepthLeft.j0 k l0 a2 (!Ai) Ad Ae Af Ab) = some (r1, r2) := H; have A8 := Aside0.mk Cl; clear Cl; have H' := Aside0.mk H; clear H; obtain ⟨Bc, Bd, Bf, Bg⟩ := bz4 Aa; obtain ⟨Bh, Bi, Bj, Bk⟩ := fz4 Aa
   go_wp2_with (first | (go_at_call 36; (with_reducible refine (spec_l7Bath.calls k _ _ l0 Ad Ae Af _ _ Ab true _ ?side1 ?side2 ?side3 ?side4 A6.out).mono ?_); (case side1 => exact Z60); (case side2 => exact Bv.out); (case side3 => exact Z61); (case side4 => exact Aj.out); rintro e Cm ⟨rfl, hb⟩; replace Aa := bkB Aa hb; replace HB := hbS Z32 hb; (try clear hb)) | (go_at_call 28; (with_reducible refine (spec_l1In.calls a2 1 50000 Ai _ A8.out).mono ?_); rintro e w' ⟨rfl, ⟨nd, rfl⟩⟩; (try first | exact ⟨rfl, _, World.drewN_drewN _ _ _⟩ | exact ⟨rfl, _, Eq.trans (World.drewN_drewN _ _ _) (congrArg (World.drewN _) (Nat.add_assoc _ _ _))⟩)))
   repeat (go_quiet (first | (go_at_call 36; (with_reducible refine (spec_l7Bath.calls k _ _ l0 Ad Ae Af _ _ Ab true _ ?side1 ?side2 ?side3 ?side4 A6.out).mono ?_); (case side1 => exact Z60); (case side2 => exact Bv.out); (case side3 => exact Z61); (case side4 => exact Aj.out); rintro e Cm ⟨rfl, hb⟩; replace Aa := bkB Aa hb; replace HB := hbS Z32 hb; (try clear hb)) | (go_at_call 28; (with_reducible refine (spec_l1In.calls a2 1 50000 Ai _ A8.out).mono ?_); rintro e w' ⟨rfl, ⟨nd, rfl⟩⟩; (try first | exact ⟨rfl, _, World.drewN_drewN _ _ _⟩ | exact ⟨rfl, _, Eq.trans (World.drewN_drewN _ _ _) (congrArg (World.drewN _) (Nat.add_assoc _ _ _))⟩))); try go_wp2_with (first | (go_at_call 36; (with_reducible refine (spec_l7Bath.calls k _ _ l0 Ad Ae Af _ _ Ab true _ ?side1 ?side2 ?side3 ?side4 A6.out).mono ?_); (case side1 => exact Z60); (case side2 => exact Bv.out); (case side3 => exact Z61); (case side4 => exact Aj.out); rintro e Cm ⟨rfl, hb⟩; replace Aa := bkB Aa hb; replace HB := hbS Z32 hb; (try clear hb)) | (go_at_call 28; (with_reducible refine (spec_l1In.calls a2 1 50000 Ai _ A8.out).mono ?_); rintro e w' ⟨rfl, ⟨nd, rfl⟩⟩; (try first | exact ⟨rfl, _, World.drewN_drewN _ _ _⟩ | exact ⟨rfl, _, Eq.trans (World.drewN_drewN _ _ _) (congrArg (World.drewN _) (Nat.add_assoc _ _ _))⟩))))
   go_meet
   case rel => exact ⟨_, (!Ai), Z12, H', ⟨Z90⟩, ⟨Z38⟩, ⟨Z32⟩⟩
  ·replace c7 := Bool.eq_false_iff.mpr c7
   subst c7
   have H1 : (spec_DepthLeft.j0 k l0 a2 true Ad Ae Af Ab) = some (r1, r2) := by rw [if_neg (show ¬ (false = true) by decide)] at H; exact H
   clear H; have H := H1; clear H1; have H' := Aside0.mk H; clear H; obtain ⟨Ar, Au, Av, Aw⟩ := bz4 Aa; obtain ⟨Ax, Ay, Az, Ba⟩ := fz4 Aa
   go_wp2_with (first | (go_at_call 36; (with_reducible refine (spec_l7Bath.calls k _ _ l0 Ad Ae Af _ _ Ab false _ ?side1 ?side2 ?side3 ?side4 A6.out).mono ?_); (case side1 => exact Z60); (case side2 => exact Bv.out); (case side3 => exact Z61); (case side4 => exact Aj.out); rintro e Cn ⟨rfl, hb⟩; replace Aa := bkB Aa hb; replace HB := hbS Z32 hb; (try clear hb)))
   repeat (go_quiet (first | (go_at_call 36; (with_reducible refine (spec_l7Bath.calls k _ _ l0 Ad Ae Af _ _ Ab false _ ?side1 ?side2 ?side3 ?side4 A6.out).mono ?_); (case side1 => exact Z60); (case side2 => exact Bv.out); (case side3 => exact Z61); (case side4 => exact Aj.out); rintro e Cn ⟨rfl, hb⟩; replace Aa := bkB Aa hb; replace HB := hbS Z32 hb; (try clear hb))); try go_wp2_with (first | (go_at_call 36; (with_reducible refine (spec_l7Bath.calls k _ _ l0 Ad Ae Af _ _ Ab false _ ?side1 ?side2 ?side3 ?side4 A6.out).mono ?_); (case side1 => exact Z60); (case side2 => exact Bv.out); (case side3 => exact Z61); (case side4 => exact Aj.out); rintro e Cn ⟨rfl, hb⟩; replace Aa := bkB Aa hb; replace HB := hbS Z32 hb; (try clear hb))))
   go_meet
   case rel => exact ⟨_, (true), Z12, H', ⟨Z90⟩, ⟨Z38⟩, ⟨Z32⟩⟩
 case rest =>
  clear Cf; (try clear c1); (try clear p2); (try clear c7); (try clear Cp); (try clear Ar); (try clear Au); (try clear Av); (try clear Aw); (try clear Bc); (try clear Bd); (try clear Bf); (try clear Bg); (try clear Ax); (try clear Ay); (try clear Az); (try clear Ba); (try clear Bh); (try clear Bi); (try clear Bj); (try clear Bk); obtain ⟨kq, Aq, rfl, HA, HJ3, Aa, HB⟩ := hcut; cases kq with
  | zero => exact absurd HA.out (by simp [spec_DepthLeft.j0])
  | succ Cg =>
   have H := HA.out; clear HA
   simp only [spec_DepthLeft.j0] at H
   by_cases Bx : Aq = true
   ·subst Bx
    have H1 : (some (0, false)) = some (r1, r2) := by rw [if_pos rfl] at H; exact H
    clear H; have H := H1; clear H1
    simp only [Option.some.injEq, Prod.mk.injEq] at H
    obtain ⟨rfl, rfl⟩ := H
    go_wp2
    repeat (go_quiet (fail); try go_wp2)
    go_ret2
    exact ⟨Z11, Z32⟩
   ·replace Bx := Bool.eq_false_iff.mpr Bx
    subst Bx
    have H1 : (spec_DepthLeft.l0 Cg l0 a2 100 0 Ad Ae Af Ab) = some (r1, r2) := by rw [if_neg (show ¬ (false = true) by decide)] at H; exact H
    clear H; have H := H1; clear H1; have H' := Aside0.mk H; clear H
    go_wp2
    repeat (go_quiet (fail); try go_wp2)
    go_loopg [8, 9] Cg (fun kq v8 v9 w' => ∃ (Bb : Int) (Ac : Int), v8 = .int .i64 Bb ∧ v9 = .int .i64 Ac ∧ Aside0 (spec_DepthLeft.l0 kq l0 a2 Bb Ac Ad Ae Af Ab = some (r1, r2)) ∧ Aside0 (kq ≤ Cg) ∧ Aside0 (w'.heap[Ap]? = some (.cells #[.int .i64 Ad, .int .i64 Ae, .int .i64 Af, (.slice An Ab.length Ao)] 33 (0, 0))) ∧ Aside0 (Below w.heap.size w w'))
    case atStart => exact ⟨(100), (0), Z12, Z12, H', ⟨Nat.le_refl _⟩, ⟨Z38⟩, ⟨Z32⟩⟩
    case round =>
     clear H'; (try clear c1); (try clear p2); (try clear c7); (try clear Cp); (try clear Bx); (try clear Ar); (try clear Au); (try clear Av); (try clear Aw); (try clear Bc); (try clear Bd); (try clear Bf); (try clear Bg); (try clear Ax); (try clear Ay); (try clear Az); (try clear Ba); (try clear Bh); (try clear Bi); (try clear Bj); (try clear Bk); (try clear p2); obtain ⟨Bb, Ac, rfl, rfl, HA, HK2, Aa, HB⟩ := hrel; cases gk with
     | zero => exact absurd HA.out (by simp [spec_DepthLeft.l0])
     | succ k2 =>
      have H := HA.out; clear HA
      simp only [spec_DepthLeft.l0] at H
      by_cases Bw : Ac < (l0.length : Int)
      ·rw [if_pos Bw] at H
       have c14b0 : decide (Ac < (l0.length : Int)) = true := decide_eq_true Bw; clear Bw
       by_cases B0 : 0 ≤ Ac
       ·rw [if_pos B0] at H
        have c15b0 : decide (0 ≤ Ac) = true := decide_eq_true B0; clear B0
        by_cases B1 : Ac < (Ab.length : Int)
        ·rw [if_pos B1] at H
         have c16b0 : decide (Ac < (Ab.length : Int)) = true := decide_eq_true B1; clear B1
         by_cases B2 : (wrap64 (((rd_T53 l0 Ac).f1) * a2)) = 0
         ·rw [if_pos B2] at H
          exact absurd H (by simp)
         ·rw [if_neg B2] at H
          have c17b0 : ((wrap64 (((rd_T53 l0 Ac).f1) * a2)) == 0) = false := beq_eq_false_iff_ne.mpr B2; have c17b1 : ((wrap64 (((rd_T53 l0 Ac).f1) * a2)) != 0) = true := bne_iff_ne.mpr B2; replace H := Option.bind_eq_some_iff.mp H; obtain ⟨Bl, Bz, H⟩ := H; replace H : (spec_DepthLeft.l0 k2 l0 a2 Bl (wrap64 (Ac + 1)) Ad Ae Af Ab) = some (r1, r2) := H; have Ch := Aside0.mk Bz; clear Bz; have H' := Aside0.mk H; clear H; obtain ⟨B3, B6, B8, Ca⟩ := bz4 Aa; obtain ⟨Cb, Cc, Cd, Ce⟩ := fz4 Aa; have Br : 0 ≤ (Ac : Int) := of_decide_eq_true Z6; have Bs : Ac < (Ab.length : Int) := of_decide_eq_true Z6; obtain ⟨ad399, e399, Ak⟩ := Kd.at_int Ah.out Ac Br Bs; cases e399; replace Ak := (HB.out.cell (World.block_lt_of_cell? w _ Ak)).trans Ak; replace Br := eq_true Br; replace Bs := eq_true Bs; have Bt : 0 ≤ (Ac : Int) := of_decide_eq_true Z6; have Bu : Ac < (l0.length : Int) := of_decide_eq_true Z6; obtain ⟨ad400, e400, Al, Am⟩ := at_T53 Bq.out Ac Bt Bu; cases e400; replace Al := (HB.out.cell (World.block_lt_of_cell? w _ Al)).trans Al; replace Am := (HB.out.cell (World.block_lt_of_cell? w _ Am)).trans Am; replace Bt := eq_true Bt; replace Bu := eq_true Bu
          go_wp2_with (first | (go_at_call 37; (with_reducible refine (spec_l1Least.calls Bb (wrap64 (Int.tdiv (wrap64 (100000 * (rd Ab Ac))) (wrap64 (((rd_T53 l0 Ac).f1) * a2)))) Bl _ Ch.out).mono ?_); rintro e w' ⟨rfl, ⟨nd, rfl⟩⟩; (try first | exact ⟨rfl, _, World.drewN_drewN _ _ _⟩ | exact ⟨rfl, _, Eq.trans (World.drewN_drewN _ _ _) (congrArg (World.drewN _) (Nat.add_assoc _ _ _))⟩)))
          repeat (go_quiet (first | (go_at_call 37; (with_reducible refine (spec_l1Least.calls Bb (wrap64 (Int.tdiv (wrap64 (100000 * (rd Ab Ac))) (wrap64 (((rd_T53 l0 Ac).f1) * a2)))) Bl _ Ch.out).mono ?_); rintro e w' ⟨rfl, ⟨nd, rfl⟩⟩; (try first | exact ⟨rfl, _, World.drewN_drewN _ _ _⟩ | exact ⟨rfl, _, Eq.trans (World.drewN_drewN _ _ _) (congrArg (World.drewN _) (Nat.add_assoc _ _ _))⟩))); try go_wp2_with (first | (go_at_call 37; (with_reducible refine (spec_l1Least.calls Bb (wrap64 (Int.tdiv (wrap64 (100000 * (rd Ab Ac))) (wrap64 (((rd_T53 l0 Ac).f1) * a2)))) Bl _ Ch.out).mono ?_); rintro e w' ⟨rfl, ⟨nd, rfl⟩⟩; (try first | exact ⟨rfl, _, World.drewN_drewN _ _ _⟩ | exact ⟨rfl, _, Eq.trans (World.drewN_drewN _ _ _) (congrArg (World.drewN _) (Nat.add_assoc _ _ _))⟩))))
          go_roundg k2
          case measure => have := HJ3.out; have := HK2.out; omega
          case rel => exact ⟨(Bl), (wrap64 (Ac + 1)), Z12, Z12, H', ⟨Z122⟩, ⟨Z38⟩, ⟨Z32⟩⟩
        ·rw [if_neg B1] at H
         exact absurd H (by simp)
       ·rw [if_neg B0] at H
        exact absurd H (by simp)
      ·rw [if_neg Bw] at H
       have c14b0 : decide (Ac < (l0.length : Int)) = false := decide_eq_false Bw; clear Bw
       simp only [Option.some.injEq, Prod.mk.injEq] at H
       obtain ⟨rfl, rfl⟩ := H
       go_wp2
       repeat (go_quiet (fail); try go_wp2)
       go_ret2
       exact ⟨Z11, Z32⟩
def impl_needs.l0 : Nat → Int → List Int → List (S53) → Int → Int → Option (List Int)
 | 0, _, _, _, _, _ => none
 | k + 1, x1, x5, x9, x10, x11 => if x11 < x10 then (if 0 ≤ x11 then (if x11 < (x9.length : Int) then ((impl_ceilDiv.f (wrap64 (((rd_T53 x9 x11).f1) * x1)) 1000).bind fun t407 => (if x5.length < 17592186044416 then (impl_needs.l0 k x1 (x5 ++ [t407]) x9 x10 (wrap64 (x11 + 1))) else (none))) else (none)) else (none)) else (some x5)
def impl_needs.f (k : Nat) (l0 : List (S53)) (a1 : Int) : Option (List Int) := impl_needs.l0 k a1 (([] : List Int)) l0 (l0.length : Int) 0
theorem impl_needs.calls (k : Nat) (A0 : Option Addr) (c0 : Nat) (l0 : List (S53)) (a1 : Int) (r : List Int) (w : World) (Ba : Kd.C k53 w A0 l0.length l0) (Bb : l0.length ≤ c0) (h : impl_needs.f k l0 a1 = some r) :
  Calls Tryz.prog 39 #[.slice A0 l0.length c0, .int .i64 a1] w fun e w' => ∃ v0_ : Value, e = .returned (v0_) ∧ Kd.R (Kd.int .i64) 3 w' w.heap.size (fun _ => True) v0_ r ∧ Below w.heap.size w w' := by
 have hu53 := Tryz.underlying53; have Bf := Aside0.mk Ba; have Bj := Aside0.mk Bb; clear Ba Bb; have HB := aM (Below.refl w.heap.size w); have H : (impl_needs.l0 k a1 (([] : List Int)) l0 (l0.length : Int) 0) = some r := h; clear h; obtain ⟨Ao, Ae⟩ : ∃ y_ : List Int, y_ = (([] : List Int)) := ⟨_, rfl⟩
 replace H : (impl_needs.l0 k a1 Ao l0 (l0.length : Int) 0) = some r := by first | (rw [Ae]; with_reducible exact H) | (have H2_ := (Option.bind_some _ _).symm.trans H; rw [Ae]; with_reducible exact H2_) | (have H2_ := (Option.bind_some _ _).symm.trans H; with_reducible exact H2_) | with_reducible exact H | (rw [Ae]; exact H) | exact H
 have Al := Aside0.mk Ae; clear Ae; have H' := Aside0.mk H; clear H
 go_enter Tryz.func39, Tryz.ntmps39
 go_wp2_with (first | ((with_reducible refine gate_dst (N := 8) rfl ?_); refine Kd.R_lit (Kd.int .i64) _ 3 ?hg (N := 8) ?hd (xs := ([] : List Int)) (inner := []) (ok := fun _ => True) (okp := fun _ => True) ?hr ?hp (fun _ hk => hk) trivial (Below.refl _ _) (Nat.le_refl _) (by simp) ?_; (case hd => rfl); (case hg => rfl); (case hr => first | (go_simp; done) | (go_simp; rfl)); (case hp => exact (Reps.none _ _)); intro Bg w3 Ap hb hg_ hnew_; clear hg_ hnew_; (first | rw [← Al.out] at Ap | (simp only [Int.reduceToNat] at Ap; rw [← Al.out] at Ap)); have Aq := aM (Kd.R_lower Ap (below_size Z0)); replace HB := hbS Z0 hb; clear hb Ap))
 go_loopg [5, 11] k (fun kq v5 Bh w' => ∃ (Af : List Int) (Aa : Int), Bh = .int .i64 Aa ∧ Aside0 (impl_needs.l0 kq a1 Af l0 (l0.length : Int) Aa = some r) ∧ Aside0 (kq ≤ k) ∧ Aside0 (Kd.R (Kd.int .i64) 3 w' w.heap.size (fun _ => True) v5 Af) ∧ Aside0 (Below w.heap.size w w'))
 case atStart => exact ⟨(Ao), (0), Z12, H', ⟨Nat.le_refl _⟩, ⟨Z27⟩, ⟨Z0⟩⟩
 case round =>
  clear H'; (try clear p2); (try clear c3); obtain ⟨Af, Aa, rfl, HA, HK1, Ah, HB⟩ := hrel; cases gk with
  | zero => exact absurd HA.out (by simp [impl_needs.l0])
  | succ k1 =>
   have H := HA.out; clear HA
   simp only [impl_needs.l0] at H
   by_cases c5 : Aa < (l0.length : Int)
   ·rw [if_pos c5] at H
    have c5b0 : decide (Aa < (l0.length : Int)) = true := decide_eq_true c5; clear c5
    by_cases c6 : 0 ≤ Aa
    ·rw [if_pos c6] at H
     have c6b0 : decide (0 ≤ Aa) = true := decide_eq_true c6; clear c6
     by_cases c7 : Aa < (l0.length : Int)
     ·rw [if_pos c7] at H
      have c7b0 : decide (Aa < (l0.length : Int)) = true := decide_eq_true c7; clear c7; replace H := Option.bind_eq_some_iff.mp H; obtain ⟨Ai, Bc, H⟩ := H; replace H : (if Af.length < 17592186044416 then (impl_needs.l0 k1 a1 (Af ++ [Ai]) l0 (l0.length : Int) (wrap64 (Aa + 1))) else (none)) = some r := H; have A8 := Aside0.mk Bc; clear Bc
      by_cases c9 : Af.length < 17592186044416
      ·rw [if_pos c9] at H
       have LMc9 := Aside0.mk c9; clear c9; obtain ⟨Ar, Ag⟩ : ∃ y_ : List Int, y_ = (Af ++ [Ai]) := ⟨_, rfl⟩
       replace H : (impl_needs.l0 k1 a1 Ar l0 (l0.length : Int) (wrap64 (Aa + 1))) = some r := by first | (rw [Ag]; with_reducible exact H) | (have H2_ := (Option.bind_some _ _).symm.trans H; rw [Ag]; with_reducible exact H2_) | (have H2_ := (Option.bind_some _ _).symm.trans H; with_reducible exact H2_) | with_reducible exact H | (rw [Ag]; exact H) | exact H
       have Au := Aside0.mk Ag; clear Ag; have H' := Aside0.mk H; clear H; have Am : 0 ≤ (Aa : Int) := of_decide_eq_true Z6; have An : Aa < (l0.length : Int) := of_decide_eq_true Z6; obtain ⟨ad405, e405, Ac, Ad⟩ := at_T53 Bf.out Aa Am An; cases e405; replace Ac := (HB.out.cell (World.block_lt_of_cell? w _ Ac)).trans Ac; replace Ad := (HB.out.cell (World.block_lt_of_cell? w _ Ad)).trans Ad; replace Am := eq_true Am; replace An := eq_true An
       go_wp2_with (first | ((with_reducible refine gate_dst (N := 7) rfl ?_); refine bxE 7 #[.string (⟨#[]⟩ : ByteArray), .int .i64 0] 53 ?_; intro Aj hg Bk hbox hb; replace Ah := roB Ah hb; have Ab := aM (hbox); have Bd := gwS hg Z0; have Ak := gwS hg Z0; replace HB := hbS Z0 hb; clear hb hbox hg; obtain ⟨Aw, Ax⟩ := bz2 Ab; obtain ⟨Ay, Az⟩ := fz2 Ab) | ((with_reducible refine gate_callee (f := 26) rfl ?_); refine glE (some 20) Tryz.func26 #[.int .i64 (wrap64 (((rd_T53 l0 Aa).f1) * a1)), .int .i64 1000] ?_; (with_reducible refine (impl_ceilDiv.calls (wrap64 (((rd_T53 l0 Aa).f1) * a1)) 1000 Ai _ A8.out).mono ?_); rintro e w' ⟨rfl, ⟨nd, rfl⟩⟩; refine ⟨_, rfl, ?_⟩) | ((with_reducible refine gate_builtin (b := .append) (xs := #[.tmp 15, .tmp 21]) rfl ?_); at_builtin; refine Kd.R_append (Kd.int .i64) (w0 := w) w.heap.size rfl (.tmp 15) (.tmp 21) 31 3 (.int .i64 0) 8 rfl Tryz.underlying31 info3 rfl (by decide) (by omega) u5 Af Ai [.int .i64 Ai] (fun _ => True) (fun _ => False) rfl (by first | (go_simp; done) | (go_simp; rfl)) ?aP (fun _ hk => hk.elim) ?aF ?aO ?aB ?aS ?aL ?_; (case aP => exact rfl); (case aB => exact Z91); (case aF => exact (fun _ _ => trivial)); (case aO => exact (by (with_reducible repeat (first | apply Kd.R_alloc | apply Kd.R_drewN | apply Kd.R_drew)); exact Kd.R_mono (Kd.R_far (p := ⟨Aj, 1, none⟩) (Kd.R_far (p := ⟨Aj, 0, none⟩) (Kd.R_types Ah.out Ab.out (by decide)) (fun _ hk => hk.2) (.string ((rd_T53 l0 Aa).f0))) (fun _ hk => hk.2) (.int .i64 ((rd_T53 l0 Aa).f1))) (fun _ hk => trivial))); (case aS => exact (below_size Z91)); (case aL => have := LMc9.out; omega); intro Bi Bl ho hb hg hat; rw [← Au.out] at ho; replace Ab := aM (blk_grown (g := Aj) (o := .cells #[.string ((rd_T53 l0 Aa).f0), .int .i64 ((rd_T53 l0 Aa).f1)] 53 (0, 0)) Z68 hg (Kd.R_ne Ah.out Ab.out (by decide))); replace HB := aM (hb); have Av := aM (ho); clear Ah; clear ho hb hg hat))
       go_roundg k1
       case measure => have := HK1.out; omega
       case rel => exact ⟨(Ar), (wrap64 (Aa + 1)), Z12, H', ⟨Z114⟩, ⟨Z52⟩, ⟨Z91⟩⟩
      ·rw [if_neg c9] at H
       exact absurd H (by simp)
     ·rw [if_neg c7] at H
      exact absurd H (by simp)
    ·rw [if_neg c6] at H
     exact absurd H (by simp)
   ·rw [if_neg c5] at H
    have c5b0 : decide (Aa < (l0.length : Int)) = false := decide_eq_false c5; clear c5; obtain rfl := Option.some.inj H
    go_wp2
    go_ret
    exact ⟨_, Z11, Z45, Z0⟩
def impl_NeedsFor.f (k : Nat) (l0 : List (S53)) (a1 : Int) : Option (List Int × Bool) := (impl_IsRecipe.f k l0).bind fun t411 => (if t411 = true then ((impl_isGrams.f a1).bind fun t412 => (if t412 = true then ((impl_needs.f k l0 a1).bind fun t413 => (some (t413, true))) else (some (([] : List Int), false)))) else (some (([] : List Int), false)))
theorem impl_NeedsFor.calls (k : Nat) (A0 : Option Addr) (c0 : Nat) (l0 : List (S53)) (a1 : Int) (r1 : List Int) (r2 : Bool) (w : World) (Ag : Kd.C k53 w A0 l0.length l0) (Ah : l0.length ≤ c0) (h : impl_NeedsFor.f k l0 a1 = some (r1, r2)) :
  Calls Tryz.prog 13 #[.slice A0 l0.length c0, .int .i64 a1] w fun e w' => ∃ v0_ : Value, e = .returned (.tuple #[v0_, .bool r2]) ∧ Kd.R (Kd.int .i64) 3 w' w.heap.size (fun _ => True) v0_ r1 ∧ Below w.heap.size w w' := by
 have Ae := Aside0.mk Ag; have Af := Aside0.mk Ah; clear Ag Ah; have HB := aM (Below.refl w.heap.size w); have H : ((impl_IsRecipe.f k l0).bind fun Ac => (if Ac = true then ((impl_isGrams.f a1).bind fun Ab => (if Ab = true then ((impl_needs.f k l0 a1).bind fun Aa => (some (Aa, true))) else (some (([] : List Int), false)))) else (some (([] : List Int), false)))) = some (r1, r2) := h; clear h; replace H := Option.bind_eq_some_iff.mp H; obtain ⟨Ac, Ai, H⟩ := H; replace H : (if Ac = true then ((impl_isGrams.f a1).bind fun Ab => (if Ab = true then ((impl_needs.f k l0 a1).bind fun Aa => (some (Aa, true))) else (some (([] : List Int), false)))) else (some (([] : List Int), false))) = some (r1, r2) := H; have A3 := Aside0.mk Ai; clear Ai
 by_cases c4 : Ac = true
 ·subst c4
  have H1 : ((impl_isGrams.f a1).bind fun Ab => (if Ab = true then ((impl_needs.f k l0 a1).bind fun Aa => (some (Aa, true))) else (some (([] : List Int), false)))) = some (r1, r2) := by rw [if_pos rfl] at H; exact H
  clear H; have H := H1; clear H1; replace H := Option.bind_eq_some_iff.mp H; obtain ⟨Ab, Aj, H⟩ := H; replace H : (if Ab = true then ((impl_needs.f k l0 a1).bind fun Aa => (some (Aa, true))) else (some (([] : List Int), false))) = some (r1, r2) := H; have A5 := Aside0.mk Aj; clear Aj
  by_cases c6 : Ab = true
  ·subst c6
   have H1 : ((impl_needs.f k l0 a1).bind fun Aa => (some (Aa, true))) = some (r1, r2) := by rw [if_pos rfl] at H; exact H
   clear H; have H := H1; clear H1; replace H := Option.bind_eq_some_iff.mp H; obtain ⟨Aa, Ak, H⟩ := H; replace H : (some (Aa, true)) = some (r1, r2) := H; have A7 := Aside0.mk Ak; clear Ak
   simp only [Option.some.injEq, Prod.mk.injEq] at H
   obtain ⟨rfl, rfl⟩ := H
   go_enter Tryz.func13, Tryz.ntmps13
   go_wp2_with (first | ((with_reducible refine gate_callee (f := 9) rfl ?_); refine glE (some 7) Tryz.func9 #[.slice A0 l0.length c0] ?_; (with_reducible refine (impl_IsRecipe.calls k _ _ l0 true _ ?side1 ?side2 A3.out).mono ?_); (case side1 => exact Z92); (case side2 => exact Af.out); rintro e w8 ⟨rfl, hb⟩; refine ⟨_, rfl, ?_⟩; replace HB := hbS Z0 hb; (try clear hb)) | (go_at_call 38; (with_reducible refine (impl_isGrams.calls a1 true _ A5.out).mono ?_); rintro e w' ⟨rfl, ⟨nd, rfl⟩⟩) | ((with_reducible refine gate_callee (f := 39) rfl ?_); refine glE (some 16) Tryz.func39 #[.slice A0 l0.length c0, .int .i64 a1] ?_; (with_reducible refine (impl_needs.calls k _ _ l0 a1 Aa _ ?side1 ?side2 A7.out).mono ?_); (case side1 => repeat (first | exact (Kd.C_below Ae.out Z0) | (with_reducible refine Kd.C_alloc ?_ _) | (with_reducible refine Kd.C_drewN ?_ _) | (with_reducible refine Kd.C_drew ?_))); (case side2 => exact Af.out); rintro e w9 ⟨Am, rfl, Al, hb⟩; refine ⟨_, rfl, ?_⟩; have Ad := aM (Kd.R_lower Al (below_size Z0)); replace HB := hbS Z0 hb; (try clear hb); (try clear Al)))
   go_ret2
   exact ⟨_, Z11, Z111, Z0⟩
  ·replace c6 := Bool.eq_false_iff.mpr c6
   subst c6
   have H1 : (some (([] : List Int), false)) = some (r1, r2) := by rw [if_neg (show ¬ (false = true) by decide)] at H; exact H
   clear H; have H := H1; clear H1
   simp only [Option.some.injEq, Prod.mk.injEq] at H
   obtain ⟨rfl, rfl⟩ := H
   go_enter Tryz.func13, Tryz.ntmps13
   go_wp2_with (first | ((with_reducible refine gate_callee (f := 9) rfl ?_); refine glE (some 7) Tryz.func9 #[.slice A0 l0.length c0] ?_; (with_reducible refine (impl_IsRecipe.calls k _ _ l0 true _ ?side1 ?side2 A3.out).mono ?_); (case side1 => exact Z92); (case side2 => exact Af.out); rintro e An ⟨rfl, hb⟩; refine ⟨_, rfl, ?_⟩; replace HB := hbS Z0 hb; (try clear hb)) | (go_at_call 38; (with_reducible refine (impl_isGrams.calls a1 false _ A5.out).mono ?_); rintro e w' ⟨rfl, ⟨nd, rfl⟩⟩))
   go_ret2
   exact ⟨_, Z11, Z75, Z0⟩
 ·replace c4 := Bool.eq_false_iff.mpr c4
  subst c4
  have H1 : (some (([] : List Int), false)) = some (r1, r2) := by rw [if_neg (show ¬ (false = true) by decide)] at H; exact H
  clear H; have H := H1; clear H1
  simp only [Option.some.injEq, Prod.mk.injEq] at H
  obtain ⟨rfl, rfl⟩ := H
  go_enter Tryz.func13, Tryz.ntmps13
  go_wp2_with (first | ((with_reducible refine gate_callee (f := 9) rfl ?_); refine glE (some 7) Tryz.func9 #[.slice A0 l0.length c0] ?_; (with_reducible refine (impl_IsRecipe.calls k _ _ l0 false _ ?side1 ?side2 A3.out).mono ?_); (case side1 => exact Z92); (case side2 => exact Af.out); rintro e Ao ⟨rfl, hb⟩; refine ⟨_, rfl, ?_⟩; replace HB := hbS Z0 hb; (try clear hb)))
  go_ret2
  exact ⟨_, Z11, Z75, Z0⟩
def spec_DrawIsRecipe.f (k : Nat) (l0 : List Int) : Option ((List (S53))) := (spec_l1Cur_recipe.f k l0 0 0).bind fun bt417 => (some bt417.1)
theorem spec_DrawIsRecipe.calls (k : Nat) (A0 : Option Addr) (c0 : Nat) (l0 : List Int) (r : List (S53)) (w : World) (Ag : Kd.C (Kd.int .u8) w A0 l0.length l0) (Ah : l0.length ≤ c0) (h : spec_DrawIsRecipe.f k l0 = some r) :
  Calls Tryz.prog 40 #[.slice A0 l0.length c0] w fun e w' => ∃ v0_ : Value, e = .returned (v0_) ∧ Kd.R k53 53 w' w.heap.size (fun _ => True) v0_ r ∧ Below w.heap.size w w' := by
 have hu46 := Tryz.underlying46; have Ak := Aside0.mk Ag; have Am := Aside0.mk Ah; clear Ag Ah; have HB := aM (Below.refl w.heap.size w); have H : ((spec_l1Cur_recipe.f k l0 0 0).bind fun Ab => (some Ab.1)) = some r := h; clear h; replace H := Option.bind_eq_some_iff.mp H; obtain ⟨⟨Ac, Ae, Af⟩, Ai, H⟩ := H; replace H : (some Ac) = some r := H; have A2 := Aside0.mk Ai; clear Ai; obtain rfl := Option.some.inj H
 go_enter Tryz.func40, Tryz.ntmps40
 go_wp2_with (first | ((with_reducible refine gate_dst (N := 6) rfl ?_); refine bxE 6 #[.slice A0 l0.length c0, .int .i64 0, .int .u64 0] 46 ?_; intro Aa hg w3 hbox hb; have HI416 := aM ((⟨A0, c0, hbox, (by rw [hg]; exact (below_size Z0) : w.heap.size ≤ Aa), Ak.out⟩ : IsS46 w _ Aa l0 0 0)); replace HB := hbS Z0 hb; clear hb hbox hg) | ((with_reducible refine gate_callee (f := 17) rfl ?_); refine glE (some 8) Tryz.func17 #[.pointer (some ⟨Aa, 0, none⟩)] ?_; (with_reducible refine (spec_l1Cur_recipe.calls k Aa l0 0 0 Ac Ae Af w _ ?side1 ?side2 A2.out).mono ?_); (case side1 => exact (by repeat (first | (with_reducible first | exact HI416.out | apply IsS46.alloc | apply IsS46.drewN | apply IsS46.drew | apply IsS46.set_1 | apply IsS46.set_2) | exact HI416.out))); (case side2 => exact Z83); rintro e w4 ⟨Al, rfl, Aj, hi, hb, hk⟩; refine ⟨_, rfl, ?_⟩; have Ad := aM (Kd.R_lower Aj (below_size Z83)); replace HB := aM (hb); replace HI416 := aM (hi); (try clear hb); (try clear hk); (try clear hi); (try clear Aj)))
 go_ret
 exact ⟨_, Z11, Z111, Z83⟩
def spec_DrawRecipeText.f (k : Nat) (l0 : List Int) : Option ((List (S53))) := (spec_DrawIsRecipe.f k l0).bind fun t422 => (some t422)
theorem spec_DrawRecipeText.calls (k : Nat) (A0 : Option Addr) (c0 : Nat) (l0 : List Int) (r : List (S53)) (w : World) (Ac : Kd.C (Kd.int .u8) w A0 l0.length l0) (Ad : l0.length ≤ c0) (h : spec_DrawRecipeText.f k l0 = some r) :
  Calls Tryz.prog 14 #[.slice A0 l0.length c0] w fun e w' => ∃ v0_ : Value, e = .returned (v0_) ∧ Kd.R k53 53 w' w.heap.size (fun _ => True) v0_ r ∧ Below w.heap.size w w' := by
 have Ag := Aside0.mk Ac; have Ah := Aside0.mk Ad; clear Ac Ad; have HB := aM (Below.refl w.heap.size w); have H : ((spec_DrawIsRecipe.f k l0).bind fun Aa => (some Aa)) = some r := h; clear h; replace H := Option.bind_eq_some_iff.mp H; obtain ⟨Aa, Ae, H⟩ := H; replace H : (some Aa) = some r := H; have A2 := Aside0.mk Ae; clear Ae; obtain rfl := Option.some.inj H
 go_enter Tryz.func14, Tryz.ntmps14
 go_wp2_with (first | ((with_reducible refine gate_callee (f := 40) rfl ?_); refine glE (some 4) Tryz.func40 #[.slice A0 l0.length c0] ?_; (with_reducible refine (spec_DrawIsRecipe.calls k _ _ l0 Aa _ ?side1 ?side2 A2.out).mono ?_); (case side1 => exact (by repeat (first | exact Ag.out | (with_reducible refine Kd.C_alloc ?_ _) | (with_reducible refine Kd.C_drewN ?_ _) | (with_reducible refine Kd.C_drew ?_)))); (case side2 => exact Ah.out); rintro e w3 ⟨Ai, rfl, Af, hb⟩; refine ⟨_, rfl, ?_⟩; have Ab := aM (Kd.R_lower Af (below_size Z0)); replace HB := hbS Z0 hb; (try clear hb); (try clear Af)))
 go_ret
 exact ⟨_, Z11, by (with_reducible repeat (first | apply Kd.R_alloc | apply Kd.R_drewN | apply Kd.R_drew)); exact Ab.out, Z0⟩
theorem var_below {n : String} {g : Nat} {cs : Array Value} (hg : Tryz.prog.globalNamed n = some g) {w w' : World} (h : w.var? Tryz.prog n = some cs) (hb : Below w.heap.size w w') : w'.var? Tryz.prog n = some cs := by
 unfold World.var? at h ⊢
 rw [hg] at h ⊢
 simp only [Option.bind_some] at h ⊢
 have hlt : g < w.heap.size := Nat.lt_of_not_ge (fun c => by rw [Array.getElem?_eq_none c] at h; cases h); rw [hb.block g hlt]
 exact h
def TABF (w : World) : Prop := Lib.TabIs Tryz.prog w "internal/strconv.uint64pow10" .u64 Lib.pow10Tab
theorem TABF_below {w w' : World} (h : TABF w) (hb : Below w.heap.size w w') : TABF w' := by
 unfold TABF at h
 exact var_below (g := 3) Z21 h hb
theorem TABF.tab {w : World} (h : TABF w) : Lib.TabIs Tryz.prog w "internal/strconv.uint64pow10" .u64 Lib.pow10Tab := h
def lays_strconv_Itoa_ren : Go.Shelf.Ren := ⟨fun | 171 => 58 | 243 => 83 | 246 => 96 | 283 => 103 | 284 => 104 | 285 => 105 | 286 => 106 | 129 => 71 | 317 => 111 | 318 => 112 | 319 => 113 | 320 => 114 | 337 => 116 | 338 => 117 | n => n, fun | 3 => 3 | 9 => 9 | 2 => 2 | 4 => 4 | 171 => 125 | 0 => 0 | 53 => 44 | 37 => 22 | 5 => 5 | 173 => 127 | 212 => 136 | 51 => 95 | 20 => 20 | 213 => 137 | 46 => 75 | 232 => 138 | 233 => 139 | n => n, fun | 17 => 3 | 18 => 4 | 19 => 5 | n => n⟩
theorem lays_strconv_Itoa : Go.Proofs.LaysM.n171 Tryz.prog lays_strconv_Itoa_ren := {
 mixed := by kernel_rfl
 f129 := Tryz.func71.trans (congrArg some Z21)
 f171 := Tryz.func58.trans (congrArg some Z21)
 f243 := Tryz.func83.trans (congrArg some Z21)
 f246 := Tryz.func96.trans (congrArg some Z21)
 f283 := Tryz.func103.trans (congrArg some Z21)
 f284 := Tryz.func104.trans (congrArg some Z21)
 f285 := Tryz.func105.trans (congrArg some Z21)
 f286 := Tryz.func106.trans (congrArg some Z21)
 f317 := Tryz.func111.trans (congrArg some Z21)
 f318 := Tryz.func112.trans (congrArg some Z21)
 f319 := Tryz.func113.trans (congrArg some Z21)
 f320 := Tryz.func114.trans (congrArg some Z21)
 f337 := Tryz.func116.trans (congrArg some Z21)
 f338 := Tryz.func117.trans (congrArg some Z21)
 t0 := Tryz.underlying0
 a0 := Tryz.isAgg0
 z0 := Tryz.sizeOf0
 v0 := Tryz.zeroValue0
 t2 := Tryz.underlying2
 a2 := Tryz.isAgg2
 z2 := Tryz.sizeOf2
 v2 := Tryz.zeroValue2
 t3 := Tryz.underlying3
 a3 := Tryz.isAgg3
 z3 := Tryz.sizeOf3
 v3 := Tryz.zeroValue3
 t4 := Tryz.underlying4
 a4 := Tryz.isAgg4
 z4 := Tryz.sizeOf4
 v4 := Tryz.zeroValue4
 t5 := Tryz.underlying5
 a5 := Tryz.isAgg5
 z5 := Tryz.sizeOf5
 v5 := Tryz.zeroValue5
 t9 := Tryz.underlying9
 a9 := Tryz.isAgg9
 z9 := Tryz.sizeOf9
 v9 := Tryz.zeroValue9
 t20 := Tryz.underlying20
 a20 := Tryz.isAgg20
 z20 := Tryz.sizeOf20
 v20 := Tryz.zeroValue20
 t37 := Tryz.underlying22
 a37 := Tryz.isAgg22
 z37 := Tryz.sizeOf22
 v37 := Tryz.zeroValue22
 t46 := Tryz.underlying75
 a46 := Tryz.isAgg75
 z46 := Tryz.sizeOf75
 v46 := Tryz.zeroValue75
 t51 := Tryz.underlying95
 a51 := Tryz.isAgg95
 z51 := Tryz.sizeOf95
 v51 := Tryz.zeroValue95
 t53 := Tryz.underlying44
 a53 := Tryz.isAgg44
 z53 := Tryz.sizeOf44
 v53 := Tryz.zeroValue44
 t171 := Tryz.underlying125
 a171 := Tryz.isAgg125
 z171 := Tryz.sizeOf125
 v171 := Tryz.zeroValue125
 t173 := Tryz.underlying127
 a173 := Tryz.isAgg127
 z173 := Tryz.sizeOf127
 v173 := Tryz.zeroValue127
 t212 := Tryz.underlying136
 a212 := Tryz.isAgg136
 z212 := Tryz.sizeOf136
 v212 := Tryz.zeroValue136
 t213 := Tryz.underlying137
 a213 := Tryz.isAgg137
 z213 := Tryz.sizeOf137
 t232 := Tryz.underlying138
 a232 := Tryz.isAgg138
 z232 := Tryz.sizeOf138
 v232 := Tryz.zeroValue138
 t233 := Tryz.underlying139
 a233 := Tryz.isAgg139
 z233 := Tryz.sizeOf139
 v233 := Tryz.zeroValue139
 g17 := by kernel_rfl
 g18 := by kernel_rfl
 g19 := by kernel_rfl
 i0 := by kernel_rfl
 i2 := by kernel_rfl
 i3 := by kernel_rfl
 i4 := by kernel_rfl
 i5 := by kernel_rfl
 i9 := by kernel_rfl
 i20 := by kernel_rfl
 i37 := by kernel_rfl
 i46 := by kernel_rfl
 i51 := by kernel_rfl
 i53 := by kernel_rfl
 i171 := by kernel_rfl
 i173 := by kernel_rfl
 i212 := by kernel_rfl
 i232 := by kernel_rfl
 i233 := by kernel_rfl
 m17 := by kernel_rfl
 m18 := by kernel_rfl
 m19 := Z21}
def impl_decimal.f (a0 : Int) : Option ByteArray := if -9223372036854775808 ≤ a0 ∧ a0 ≤ 9223372036854775807 then some ⟨(Lib.itoa a0).toArray⟩ else none
set_option maxHeartbeats 4000000 in
set_option maxRecDepth 100000 in
theorem impl_decimal.calls (a0 : Int) (r : ByteArray) (w : World) (h : impl_decimal.f a0 = some r) (hT_ : TABF w) :
  Calls Tryz.prog 41 #[.int .i64 a0] w fun e w' => e = .returned (.string r) ∧ Below w.heap.size w w' := by
 unfold impl_decimal.f at h
 by_cases hq : -9223372036854775808 ≤ a0 ∧ a0 ≤ 9223372036854775807
 case neg => rw [if_neg hq] at h; cases h
 rw [if_pos hq] at h; obtain rfl := Option.some.inj h; have hc := Any.strconv_Itoa lays_strconv_Itoa a0 hq.1 hq.2 w hT_.tab; have HC := Aside0.mk hc; clear hc hT_ h hq
 go_enter Tryz.func41, Tryz.ntmps41
 go_wp2_with fail
 refine HC.out.mono ?_; rintro e w' ⟨rfl, hk⟩; have HB : Aside0 (Below w.heap.size w w') := ⟨by obtain ⟨k, os, rfl⟩ := hk; exact Lib.below_grow _ _ (Nat.le_refl _) _ _⟩; clear hk
 go_wp2
 go_ret
 exact ⟨Z102, HB.out⟩
def lays_strings_Join_ren : Go.Shelf.Ren := ⟨fun | 156 => 42 | 165 => 59 | 166 => 60 | 169 => 61 | 240 => 84 | 241 => 85 | 276 => 97 | 277 => 98 | n => n, fun | 31 => 67 | 9 => 9 | 3 => 3 | 4 => 4 | 0 => 0 | 20 => 20 | 72 => 80 | 76 => 84 | 70 => 78 | 37 => 22 | 75 => 83 | 127 => 105 | 164 => 118 | 5 => 5 | 80 => 86 | n => n, fun | n => n⟩
theorem lays_strings_Join : Go.Proofs.Lays.n156 Tryz.prog lays_strings_Join_ren := {
 mixed := by kernel_rfl
 f156 := Tryz.func42.trans (congrArg some Z21)
 f165 := Tryz.func59.trans (congrArg some Z21)
 f166 := Tryz.func60.trans (congrArg some Z21)
 f169 := Tryz.func61.trans (congrArg some Z21)
 f240 := Tryz.func84.trans (congrArg some Z21)
 f241 := Tryz.func85.trans (congrArg some Z21)
 f276 := Tryz.func97.trans (congrArg some Z21)
 f277 := Tryz.func98.trans (congrArg some Z21)
 t0 := Tryz.underlying0
 a0 := Tryz.isAgg0
 z0 := Tryz.sizeOf0
 v0 := Tryz.zeroValue0
 t3 := Tryz.underlying3
 a3 := Tryz.isAgg3
 z3 := Tryz.sizeOf3
 v3 := Tryz.zeroValue3
 t4 := Tryz.underlying4
 a4 := Tryz.isAgg4
 z4 := Tryz.sizeOf4
 v4 := Tryz.zeroValue4
 t9 := Tryz.underlying9
 a9 := Tryz.isAgg9
 z9 := Tryz.sizeOf9
 v9 := Tryz.zeroValue9
 t20 := Tryz.underlying20
 a20 := Tryz.isAgg20
 z20 := Tryz.sizeOf20
 v20 := Tryz.zeroValue20
 t31 := Tryz.underlying67
 a31 := Tryz.isAgg67
 z31 := Tryz.sizeOf67
 v31 := Tryz.zeroValue67
 t37 := Tryz.underlying22
 a37 := Tryz.isAgg22
 z37 := Tryz.sizeOf22
 v37 := Tryz.zeroValue22
 t70 := Tryz.underlying78
 a70 := Tryz.isAgg78
 z70 := Tryz.sizeOf78
 v70 := Tryz.zeroValue78
 t72 := Tryz.underlying80
 a72 := Tryz.isAgg80
 z72 := Tryz.sizeOf80
 v72 := Tryz.zeroValue80
 t75 := Tryz.underlying83
 a75 := Tryz.isAgg83
 z75 := Tryz.sizeOf83
 v75 := Tryz.zeroValue83
 t76 := Tryz.underlying84
 a76 := Tryz.isAgg84
 z76 := Tryz.sizeOf84
 v76 := Tryz.zeroValue84
 t127 := Tryz.underlying105
 a127 := Tryz.isAgg105
 z127 := Tryz.sizeOf105
 v127 := Tryz.zeroValue105
 t164 := Tryz.underlying118
 a164 := Tryz.isAgg118
 z164 := Tryz.sizeOf118
 v164 := Tryz.zeroValue118 }
theorem extra_Join : Go.Proofs.Builder.Extra Tryz.prog lays_strings_Join_ren :=
 { sizeBuilder := Z21, liesBuilder := Z21, t5 := Tryz.underlying5, a5 := Tryz.isAgg5, z5 := Tryz.sizeOf5, v5 := Tryz.zeroValue5, infoByte := Z21, cellsByte := Z21, sizeByte := Z21, neB5 := by decide }
def strings_Join.f (l0 : List ByteArray) (a1 : ByteArray) : Option ByteArray := if l0 ≠ [] ∧ l0.length ≤ 1000000 ∧ (Lib.join (l0.map (·.data.toList)) a1.data.toList).length ≤ 1000000000 then some ⟨(Lib.join (l0.map (·.data.toList)) a1.data.toList).toArray⟩ else none
theorem strings_Join.calls (A0 : Option Addr) (c0 : Nat) (l0 : List ByteArray) (a1 : ByteArray) (r : ByteArray) (w : World) (Aa : Kd.C Kd.string w A0 l0.length l0) (Ab : l0.length ≤ c0) (h : strings_Join.f l0 a1 = some r) :
  Calls Tryz.prog 42 #[.slice A0 l0.length c0, .string a1] w fun e w' => e = .returned (.string r) ∧ Below w.heap.size w w' := by
 unfold strings_Join.f at h
 split at h
 case isFalse => cases h
 case isTrue hg =>
  obtain ⟨g1, g2, g3⟩ := hg; obtain rfl := Option.some.inj h; have hpos : 0 < l0.length := List.length_pos_iff.2 g1; obtain ⟨ad, e0, h0⟩ := Kd.at_string Aa 0 (Int.le_refl 0) (by omega); subst e0; obtain ⟨bk, o, sp⟩ := ad
  have hsp : sp = none := by
   cases sp with
   | none => rfl
   | some q =>
    have h1 : w.cell? ⟨bk, o, some q⟩ = some _ := h0
    unfold World.cell? at h1
    split at h1 <;> simp at h1
  subst hsp
  refine (Any.strings_Join lays_strings_Join extra_Join bk o c0 l0 a1 w (fun j x hj => ?_) (World.block_lt_of_cell? w ⟨bk, o, none⟩ h0) (by omega) Ab (by omega)).mono fun e w' he => he
  obtain ⟨hj1, hj2⟩ := List.getElem?_eq_some_iff.1 hj; obtain ⟨ad2, e2, h2⟩ := Kd.at_string Aa (j : Int) (by omega) (by omega); obtain rfl := Option.some.inj e2; rw [Int.toNat_natCast] at h2
  have ea : (Addr.add ⟨bk, o, none⟩ j) = ⟨bk, o + j, none⟩ := by
   unfold Addr.add
   split
   ·next h => rw [h]; rfl
   ·rfl
  rw [ea] at h2; rw [h2]
  show some (Value.string (l0.getD j ByteArray.empty)) = _
  rw [List.getD_eq_getElem?_getD, hj]
  rfl
def impl_RecipeText.l0 : Nat → List ByteArray → List (S53) → Int → Int → Option (ByteArray × Bool)
 | 0, _, _, _, _ => none
 | k + 1, x4, x11, x12, x13 => if x13 < x12 then (if 0 ≤ x13 then (if x13 < (x11.length : Int) then (if ((rd_T53 x11 x13).f0).size + 1 ≤ 9223372036854775807 then ((impl_decimal.f ((rd_T53 x11 x13).f1)).bind fun t431 => (if (((rd_T53 x11 x13).f0) ++ (⟨#[58]⟩ : ByteArray)).size + t431.size ≤ 9223372036854775807 then (if x4.length < 8796093022208 then (impl_RecipeText.l0 k (x4 ++ [(((rd_T53 x11 x13).f0) ++ (⟨#[58]⟩ : ByteArray)) ++ t431]) x11 x12 (wrap64 (x13 + 1))) else (none)) else (none))) else (none)) else (none)) else (none)) else ((strings_Join.f x4 (⟨#[32]⟩ : ByteArray)).bind fun t435 => (some (t435, true)))
def impl_RecipeText.f (k : Nat) (l0 : List (S53)) : Option (ByteArray × Bool) := (impl_IsRecipe.f k l0).bind fun t425 => (if t425 = true then (impl_RecipeText.l0 k (([] : List ByteArray)) l0 (l0.length : Int) 0) else (some ((⟨#[]⟩ : ByteArray), false)))
def impl_RecipeText.T7 : Bool × List (List Nat × List Nat) := (true, [([], []), ([], []), ([1], [1]), ([2], [2]), ([], []), ([4], [4]), ([5], [5]), ([3, 6], [3, 6]), ([7], [7]), ([0, 8, 6], [0, 8]), ([9, 9, 0, 1, 2, 3, 4, 5, 6, 7, 8, 9], [0, 9])])
def impl_RecipeText.B7 : List Nat := [0, 0, 2, 6, 0, 16, 48, 126, 254, 511, 1023]
theorem impl_RecipeText.tab7 : rtab .any (opsOf Tryz.f15 7) = impl_RecipeText.T7 := by kernel_rfl
theorem impl_RecipeText.bits7 : waitsOk impl_RecipeText.T7.2 impl_RecipeText.B7 = true := by kernel_rfl
theorem impl_RecipeText.calls (k : Nat) (A0 : Option Addr) (c0 : Nat) (l0 : List (S53)) (r1 : ByteArray) (r2 : Bool) (w : World) (Bo : Kd.C k53 w A0 l0.length l0) (Bp : l0.length ≤ c0) (h : impl_RecipeText.f k l0 = some (r1, r2)) (hT_ : TABF w) :
  Calls Tryz.prog 15 #[.slice A0 l0.length c0] w fun e w' => e = .returned (.tuple #[.string r1, .bool r2]) ∧ Below w.heap.size w w' := by
 have HTAB_ : Aside0 (∀ W, Below w.heap.size w W → TABF W) := ⟨fun W hb => TABF_below hT_ hb⟩; clear hT_; have hu53 := Tryz.underlying53; have Bk := Aside0.mk Bo; have Bq := Aside0.mk Bp; clear Bo Bp; have HB := aM (Below.refl w.heap.size w); have H : ((impl_IsRecipe.f k l0).bind fun Al => (if Al = true then (impl_RecipeText.l0 k (([] : List ByteArray)) l0 (l0.length : Int) 0) else (some ((⟨#[]⟩ : ByteArray), false)))) = some (r1, r2) := h; clear h; replace H := Option.bind_eq_some_iff.mp H; obtain ⟨Al, Bc, H⟩ := H; replace H : (if Al = true then (impl_RecipeText.l0 k (([] : List ByteArray)) l0 (l0.length : Int) 0) else (some ((⟨#[]⟩ : ByteArray), false))) = some (r1, r2) := H; have A2 := Aside0.mk Bc; clear Bc
 by_cases c3 : Al = true
 ·subst c3
  have H1 : (impl_RecipeText.l0 k (([] : List ByteArray)) l0 (l0.length : Int) 0) = some (r1, r2) := by rw [if_pos rfl] at H; exact H
  clear H; have H := H1; clear H1; obtain ⟨Ap, Aj⟩ : ∃ y_ : List ByteArray, y_ = (([] : List ByteArray)) := ⟨_, rfl⟩
  replace H : (impl_RecipeText.l0 k Ap l0 (l0.length : Int) 0) = some (r1, r2) := by first | (rw [Aj]; with_reducible exact H) | (have H2_ := (Option.bind_some _ _).symm.trans H; rw [Aj]; with_reducible exact H2_) | (have H2_ := (Option.bind_some _ _).symm.trans H; with_reducible exact H2_) | with_reducible exact H | (rw [Aj]; exact H) | exact H
  have Am := Aside0.mk Aj; clear Aj; have H' := Aside0.mk H; clear H
  go_enter Tryz.func15, Tryz.ntmps15
  go_wp2_with (first | ((with_reducible refine gate_callee (f := 9) rfl ?_); refine glE (some 8) Tryz.func9 #[.slice A0 l0.length c0] ?_; (with_reducible refine (impl_IsRecipe.calls k _ _ l0 true _ ?side1 ?side2 A2.out).mono ?_); (case side1 => exact Z107); (case side2 => exact Bq.out); rintro e w4 ⟨rfl, hb⟩; refine ⟨_, rfl, ?_⟩; replace HB := hbS Z0 hb; (try clear hb)) | ((with_reducible refine gate_dst (N := 10) rfl ?_); refine Kd.R_lit Kd.string _ 9 ?hg (N := 10) ?hd (xs := ([] : List ByteArray)) (inner := []) (ok := fun _ => True) (okp := fun _ => True) ?hr ?hp (fun _ hk => hk) trivial (Below.refl _ _) (Nat.le_refl _) (by simp) ?_; (case hd => rfl); (case hg => rfl); (case hr => first | (go_simp; done) | (go_simp; rfl)); (case hp => exact (Reps.none _ _)); intro Bs w5 Aq hb hg_ hnew_; clear hg_ hnew_; (first | rw [← Am.out] at Aq | (simp only [Int.reduceToNat] at Aq; rw [← Am.out] at Aq)); have Ar := aM (Kd.R_lower Aq (below_size Z0)); replace HB := hbS Z0 hb; clear hb Aq))
  go_loopg [4, 13] k (fun kq v4 Bt w' => ∃ (Ae : List ByteArray) (Aa : Int), Bt = .int .i64 Aa ∧ Aside0 (impl_RecipeText.l0 kq Ae l0 (l0.length : Int) Aa = some (r1, r2)) ∧ Aside0 (kq ≤ k) ∧ Aside0 (Kd.R Kd.string 9 w' w.heap.size (fun _ => True) v4 Ae) ∧ Aside0 (Below w.heap.size w w'))
  case atStart => exact ⟨(Ap), (0), Z12, H', ⟨Nat.le_refl _⟩, ⟨by (with_reducible repeat (first | apply Kd.R_alloc | apply Kd.R_drewN | apply Kd.R_drew)); exact Ar.out⟩, ⟨Z0⟩⟩
  case round =>
   clear H'; (try clear c1); (try clear p2); (try clear c3); obtain ⟨Ae, Aa, rfl, HA, HK1, Ad, HB⟩ := hrel; cases gk with
   | zero => exact absurd HA.out (by simp [impl_RecipeText.l0])
   | succ k1 =>
    have H := HA.out; clear HA
    simp only [impl_RecipeText.l0] at H
    by_cases c7 : Aa < (l0.length : Int)
    ·rw [if_pos c7] at H
     have c7b0 : decide (Aa < (l0.length : Int)) = true := decide_eq_true c7; clear c7
     by_cases c8 : 0 ≤ Aa
     ·rw [if_pos c8] at H
      have c8b0 : decide (0 ≤ Aa) = true := decide_eq_true c8; clear c8
      by_cases c9 : Aa < (l0.length : Int)
      ·rw [if_pos c9] at H
       have c9b0 : decide (Aa < (l0.length : Int)) = true := decide_eq_true c9; clear c9
       by_cases Au : ((rd_T53 l0 Aa).f0).size + 1 ≤ 9223372036854775807
       ·rw [if_pos Au] at H
        have c10b0 := eq_true Au; have c10b1 : decide (((rd_T53 l0 Aa).f0).size + 1 ≤ 9223372036854775807) = true := decide_eq_true Au
        try have c10b2 : (9223372036854775807 < ((rd_T53 l0 Aa).f0).size + 1) = False := eq_false (Nat.not_lt.2 Au)
        replace H := Option.bind_eq_some_iff.mp H; obtain ⟨Ag, Av, H⟩ := H; replace H : (if (((rd_T53 l0 Aa).f0) ++ (⟨#[58]⟩ : ByteArray)).size + Ag.size ≤ 9223372036854775807 then (if Ae.length < 8796093022208 then (impl_RecipeText.l0 k1 (Ae ++ [(((rd_T53 l0 Aa).f0) ++ (⟨#[58]⟩ : ByteArray)) ++ Ag]) l0 (l0.length : Int) (wrap64 (Aa + 1))) else (none)) else (none)) = some (r1, r2) := H; have Bu := Aside0.mk Av; clear Av
        by_cases Aw : (((rd_T53 l0 Aa).f0) ++ (⟨#[58]⟩ : ByteArray)).size + Ag.size ≤ 9223372036854775807
        ·rw [if_pos Aw] at H
         have c12b0 := eq_true Aw; have c12b1 : decide ((((rd_T53 l0 Aa).f0) ++ (⟨#[58]⟩ : ByteArray)).size + Ag.size ≤ 9223372036854775807) = true := decide_eq_true Aw
         try have c12b2 : (9223372036854775807 < (((rd_T53 l0 Aa).f0) ++ (⟨#[58]⟩ : ByteArray)).size + Ag.size) = False := eq_false (Nat.not_lt.2 Aw)
         try have c12b1q := c12b1
         try simp only [ByteArray.size_append, show (⟨#[58]⟩ : ByteArray).size = 1 from rfl] at c12b1q
         try have c12b2q := c12b2
         try simp only [ByteArray.size_append, show (⟨#[58]⟩ : ByteArray).size = 1 from rfl] at c12b2q
         by_cases Bd : Ae.length < 8796093022208
         ·rw [if_pos Bd] at H
          have LMc13 := Aside0.mk Bd; clear Bd; obtain ⟨Ax, Ak⟩ : ∃ y_ : List ByteArray, y_ = (Ae ++ [(((rd_T53 l0 Aa).f0) ++ (⟨#[58]⟩ : ByteArray)) ++ Ag]) := ⟨_, rfl⟩
          replace H : (impl_RecipeText.l0 k1 Ax l0 (l0.length : Int) (wrap64 (Aa + 1))) = some (r1, r2) := by first | (rw [Ak]; with_reducible exact H) | (have H2_ := (Option.bind_some _ _).symm.trans H; rw [Ak]; with_reducible exact H2_) | (have H2_ := (Option.bind_some _ _).symm.trans H; with_reducible exact H2_) | with_reducible exact H | (rw [Ak]; exact H) | exact H
          have Ay := Aside0.mk Ak; clear Ak; have H' := Aside0.mk H; clear H; have An : 0 ≤ (Aa : Int) := of_decide_eq_true Z6; have Ao : Aa < (l0.length : Int) := of_decide_eq_true Z6; obtain ⟨ad429, e429, Ah, Ai⟩ := at_T53 Bk.out Aa An Ao; cases e429; replace Ah := (HB.out.cell (World.block_lt_of_cell? w _ Ah)).trans Ah; replace Ai := (HB.out.cell (World.block_lt_of_cell? w _ Ai)).trans Ai; replace An := eq_true An; replace Ao := eq_true Ao
          try go_wp2_with (first | ((with_reducible refine gate_dst (N := 6) rfl ?_); refine bxE 6 #[.string (⟨#[]⟩ : ByteArray), .int .i64 0] 53 ?_; intro Ac hg Bf hbox hb; replace Ad := roB Ad hb; have Ab := aM (hbox); have Br := gwS hg Z0; have Af := gwS hg Z0; replace HB := hbS Z0 hb; clear hb hbox hg; obtain ⟨Bg, Bh⟩ := bz2 Ab; obtain ⟨Bi, Bj⟩ := fz2 Ab))
          have n0_ : Aside0 (Kd.R Kd.string 9 ((Bf.setCell ⟨Ac, 0, none⟩ (.string ((rd_T53 l0 Aa).f0))).setCell ⟨Ac, 1, none⟩ (.int .i64 ((rd_T53 l0 Aa).f1))) w.heap.size (fun _ => True) u4 Ae) := ⟨by (with_reducible repeat (first | apply Kd.R_alloc | apply Kd.R_drewN | apply Kd.R_drew)); exact Kd.R_mono (Kd.R_far (p := ⟨Ac, 1, none⟩) (Kd.R_far (p := ⟨Ac, 0, none⟩) (Kd.R_types Ad.out Ab.out (by decide)) (fun _ hk => hk.2) (.string ((rd_T53 l0 Aa).f0))) (fun _ hk => hk.2) (.int .i64 ((rd_T53 l0 Aa).f1))) (fun _ hk => trivial)⟩; have n1_ : Aside0 (((Bf.setCell ⟨Ac, 0, none⟩ (.string ((rd_T53 l0 Aa).f0))).setCell ⟨Ac, 1, none⟩ (.int .i64 ((rd_T53 l0 Aa).f1))).heap[Ac]? = some (.cells #[.string ((rd_T53 l0 Aa).f0), .int .i64 ((rd_T53 l0 Aa).f1)] 53 (0, 0))) := ⟨Z68⟩; have n2_ : Aside0 (Below w.heap.size w ((Bf.setCell ⟨Ac, 0, none⟩ (.string ((rd_T53 l0 Aa).f0))).setCell ⟨Ac, 1, none⟩ (.int .i64 ((rd_T53 l0 Aa).f1)))) := ⟨Z67⟩; (try clear Ad); (try clear Ab); (try clear HB)
          generalize ((Bf.setCell ⟨Ac, 0, none⟩ (.string ((rd_T53 l0 Aa).f0))).setCell ⟨Ac, 1, none⟩ (.int .i64 ((rd_T53 l0 Aa).f1))) = Bv at n0_ n1_ n2_ ⊢
          have Ad := n0_; have Ab := n1_; have HB := n2_; clear n0_ n1_ n2_; replace Ad := aM (Kd.R_drew Ad.out); replace Ab := aM (blk_drew Ab.out); replace HB := aM (below_drew1 HB.out); refine start_ (n := 11) (S := fun w' => w'.cell? ⟨Ac, 0, none⟩ = some (.string ((rd_T53 l0 Aa).f0)) ∧ w'.cell? ⟨Ac, 1, none⟩ = some (.int .i64 ((rd_T53 l0 Aa).f1))) (ds := []) #[false, false, false, false, false, false, false, false, false, false, false] Z21 rfl rfl ⟨(blk_cell Ab.out 0).trans rfl, (blk_cell Ab.out 1).trans rfl⟩ (fun hHeld => ?_); refine with_tabW impl_RecipeText.tab7 impl_RecipeText.bits7 (fun HT_ HW_ => ?_)
          generalize Bv.drew = Bx at Ad Ab HB hHeld ⊢
          refine puR 0 17 #[true, false, false, false, false, false, false, false, false, false, false] HT_ rfl rfl ?_; refine puR 1 18 #[true, true, false, false, false, false, false, false, false, false, false] HT_ rfl rfl ?_; refine puR 4 21 #[true, true, false, false, true, false, false, false, false, false, false] HT_ rfl rfl ?_; refine taR 2 19 #[true, true, true, false, true, false, false, false, false, false, false] HT_ HW_ hHeld rfl rfl ?_; refine puR 3 20 #[true, true, true, true, true, false, false, false, false, false, false] HT_ rfl rfl ?_; refine taR 5 22 #[true, true, true, true, true, true, false, false, false, false, false] HT_ HW_ hHeld rfl rfl ?_; refine one_ (i := 6) (N := some 23) #[true, true, true, true, true, true, true, false, false, false, false] rfl rfl (one_of HT_.out Z21) (by decide) (fun K hK => ?_); refine goes_ Tryz.func41 Z21 rfl #[.int .i64 ((rd_T53 l0 Aa).f1)] (by rfl) rfl rfl Z15 ?_; (with_reducible refine (impl_decimal.calls ((rd_T53 l0 Aa).f1) Ag _ Bu.out ?sideT_1).mono ?_); (case sideT_1 => exact HTAB_.out _ Z67); rintro e Bz ⟨rfl, hb⟩; refine ⟨_, rfl, ?_⟩; replace Ad := roB Ad hb; replace Ab := bkB Ab hb; replace HB := hbS Z67 hb; (try clear hb); (try clear hb2); (try clear hk); (try clear hi); refine hK.out _ _ Z133 (fun hHeld => ?_); clear hK K; refine noR 23 ?_; refine puR 7 24 #[true, true, true, true, true, true, true, true, false, false, false] HT_ rfl rfl ?_; refine one_ (i := 8) (N := some 25) #[true, true, true, true, true, true, true, true, true, false, false] rfl rfl (one_of HT_.out Z21) (by decide) (fun K hK => ?_); refine value_ (w1 := ?_) (v := ?_) (by rfl) rfl ?_ ?_
          rotate_left 2
          ·go_simp
           constructor
           ·rfl
           ·rfl
          refine hK.out _ _ (by exact ⟨(blk_cell (blk_alloc Ab.out _) 0).trans rfl, (blk_cell (blk_alloc Ab.out _) 1).trans rfl⟩) (fun hHeld => ?_); clear hK K; refine noR 25 ?_; refine one_ (i := 9) (N := some 26) #[true, true, true, true, true, true, true, true, true, true, false] rfl rfl (one_of HT_.out Z21) (by decide) (fun K hK => ?_); refine Kd.R_append_step Kd.string (w0 := w) w.heap.size (by rfl) (.tmp 17) (.tmp 25) 67 9 (.string ⟨#[]⟩) 16 rfl Tryz.underlying67 info9 rfl (by decide) (by omega) u4 Ae ((((rd_T53 l0 Aa).f0) ++ (⟨#[58]⟩ : ByteArray)) ++ Ag) [.string ((((rd_T53 l0 Aa).f0) ++ (⟨#[58]⟩ : ByteArray)) ++ Ag)] (fun _ => True) (fun _ => False) rfl rfl ?aP (fun _ hk => hk.elim) ?aF ?aO ?aB ?aS ?aL ?_; (case aP => exact rfl); (case aB => exact Z67); (case aF => exact (fun _ _ => trivial)); (case aO => exact Z111); (case aS => exact (below_size Z67)); (case aL => have := LMc13.out; omega); intro Bw B0 ho hb hg hat; rw [← Ay.out] at ho; replace Ab := aM (blk_grown (g := Ac) (o := .cells #[.string ((rd_T53 l0 Aa).f0), .int .i64 ((rd_T53 l0 Aa).f1)] 53 (0, 0)) (by (with_reducible repeat (first | refine blk_drewN ?_ _ | refine blk_drew ?_ | refine blk_alloc ?_ _)); exact Ab.out) hg (Kd.R_ne Ad.out Ab.out (by decide))); replace HB := aM (hb); have Az := aM (ho); clear Ad; clear ho hb hg hat; refine hK.out _ _ Z133 (fun hHeld => ?_); clear hK K; refine noR 26 ?_; refine puR 10 4 #[true, true, true, true, true, true, true, true, true, true, true] HT_ rfl rfl ?_; refine done_ (done_of HT_.out Z21) ?_
          try go_wp2
          go_roundg k1
          case measure => have := HK1.out; omega
          case rel => exact ⟨(Ax), (wrap64 (Aa + 1)), Z12, H', ⟨Z114⟩, ⟨by (with_reducible repeat (first | apply Kd.R_alloc | apply Kd.R_drewN | apply Kd.R_drew)); exact Az.out⟩, ⟨Z67⟩⟩
         ·rw [if_neg Bd] at H
          exact absurd H (by simp)
        ·rw [if_neg Aw] at H
         exact absurd H (by simp)
       ·rw [if_neg Au] at H
        exact absurd H (by simp)
      ·rw [if_neg c9] at H
       exact absurd H (by simp)
     ·rw [if_neg c8] at H
      exact absurd H (by simp)
    ·rw [if_neg c7] at H
     have c7b0 : decide (Aa < (l0.length : Int)) = false := decide_eq_false c7; clear c7; replace H := Option.bind_eq_some_iff.mp H; obtain ⟨Ba, Bb, H⟩ := H; replace H : (some (Ba, true)) = some (r1, r2) := H; have Bc := Aside0.mk Bb; clear Bb
     simp only [Option.some.injEq, Prod.mk.injEq] at H
     obtain ⟨rfl, rfl⟩ := H; obtain ⟨Bl, Bm, Bn⟩ := Kd.R_slice Ad.out; subst Bn
     go_wp2_with (first | ((with_reducible refine gate_callee (f := 42) rfl ?_); refine glE (some 29) Tryz.func42 #[.slice Bl Ae.length Bm, .string (⟨#[32]⟩ : ByteArray)] ?_; (with_reducible refine (strings_Join.calls _ _ Ae (⟨#[32]⟩ : ByteArray) Ba _ ?side1 ?side2 Bc.out).mono ?_); (case side1 => exact (by repeat (first | exact (Kd.R_reads' Ad.out).2.2 | (with_reducible refine Kd.C_alloc ?_ _) | (with_reducible refine Kd.C_drewN ?_ _) | (with_reducible refine Kd.C_drew ?_)))); (case side2 => exact (Kd.R_reads' Ad.out).2.1); rintro e B1 ⟨rfl, hb⟩; refine ⟨_, rfl, ?_⟩; replace Ad := roB Ad hb; replace HB := hbS Z0 hb; (try clear hb)))
     go_ret2
     exact ⟨Z11, Z0⟩
 ·replace c3 := Bool.eq_false_iff.mpr c3
  subst c3
  have H1 : (some ((⟨#[]⟩ : ByteArray), false)) = some (r1, r2) := by rw [if_neg (show ¬ (false = true) by decide)] at H; exact H
  clear H; have H := H1; clear H1
  simp only [Option.some.injEq, Prod.mk.injEq] at H
  obtain ⟨rfl, rfl⟩ := H
  go_enter Tryz.func15, Tryz.ntmps15
  go_wp2_with (first | ((with_reducible refine gate_callee (f := 9) rfl ?_); refine glE (some 8) Tryz.func9 #[.slice A0 l0.length c0] ?_; (with_reducible refine (impl_IsRecipe.calls k _ _ l0 false _ ?side1 ?side2 A2.out).mono ?_); (case side1 => exact Z107); (case side2 => exact Bq.out); rintro e B2 ⟨rfl, hb⟩; refine ⟨_, rfl, ?_⟩; replace HB := hbS Z0 hb; (try clear hb)))
  go_ret2
  exact ⟨Z11, Z0⟩
def spec_l1Num.f : Nat → Int → Option (ByteArray)
 | 0, _ => none
 | k + 1, a0 => if a0 < 0 then ((spec_l1Num.f k (wrap64 (-a0))).bind fun t436 => (if 1 + t436.size ≤ 9223372036854775807 then (some ((⟨#[45]⟩ : ByteArray) ++ t436)) else (none))) else (if a0 < 10 then (if 0 ≤ a0 then (if a0 ≤ (wrap64 (a0 + 1)) then (if (wrap64 (a0 + 1)) ≤ 10 then (some ((⟨#[48, 49, 50, 51, 52, 53, 54, 55, 56, 57]⟩ : ByteArray).extract (a0 : Int).toNat ((wrap64 (a0 + 1)) : Int).toNat)) else (none)) else (none)) else (none)) else ((spec_l1Num.f k (wrap64 (Int.tdiv a0 10))).bind fun t437 => (if 0 ≤ (Int.tmod a0 10) then (if (Int.tmod a0 10) ≤ (wrap64 ((Int.tmod a0 10) + 1)) then (if (wrap64 ((Int.tmod a0 10) + 1)) ≤ 10 then (if t437.size + ((⟨#[48, 49, 50, 51, 52, 53, 54, 55, 56, 57]⟩ : ByteArray).extract ((Int.tmod a0 10) : Int).toNat ((wrap64 ((Int.tmod a0 10) + 1)) : Int).toNat).size ≤ 9223372036854775807 then (some (t437 ++ ((⟨#[48, 49, 50, 51, 52, 53, 54, 55, 56, 57]⟩ : ByteArray).extract ((Int.tmod a0 10) : Int).toNat ((wrap64 ((Int.tmod a0 10) + 1)) : Int).toNat))) else (none)) else (none)) else (none)) else (none))))
def spec_l1Num.T5 : Bool × List (List Nat × List Nat) := (true, [([], []), ([0], [0]), ([1], [1]), ([], []), ([3], [3]), ([], []), ([5], [5]), ([6], [6]), ([4, 7], [4, 7]), ([2, 8], [2, 8]), ([9, 2, 0, 1, 2, 3, 4, 5, 6, 7, 8, 9], [9])])
def spec_l1Num.B5 : List Nat := [0, 1, 3, 0, 8, 0, 32, 96, 248, 511, 1023]
theorem spec_l1Num.tab5 : rtab .any (opsOf Tryz.f43 5) = spec_l1Num.T5 := by kernel_rfl
theorem spec_l1Num.bits5 : waitsOk spec_l1Num.T5.2 spec_l1Num.B5 = true := by kernel_rfl
theorem spec_l1Num.calls (k : Nat) : ∀ (a0 : Int) (r : ByteArray) (w : World) (h : spec_l1Num.f k a0 = some r),
  Calls Tryz.prog 43 #[.int .i64 a0] w fun e w' => e = .returned (.string r) ∧ Below w.heap.size w w' := by
 induction k using Nat.strongRecOn with
 | _ k ih =>
 intro a0 r w h; cases k with
 | zero => exact absurd h (by simp [spec_l1Num.f])
 | succ k =>
 simp only [spec_l1Num.f] at h
 have HB := aM (Below.refl w.heap.size w); have H : (if a0 < 0 then ((spec_l1Num.f k (wrap64 (-a0))).bind fun Ab => (if 1 + Ab.size ≤ 9223372036854775807 then (some ((⟨#[45]⟩ : ByteArray) ++ Ab)) else (none))) else (if a0 < 10 then (if 0 ≤ a0 then (if a0 ≤ (wrap64 (a0 + 1)) then (if (wrap64 (a0 + 1)) ≤ 10 then (some ((⟨#[48, 49, 50, 51, 52, 53, 54, 55, 56, 57]⟩ : ByteArray).extract (a0 : Int).toNat ((wrap64 (a0 + 1)) : Int).toNat)) else (none)) else (none)) else (none)) else ((spec_l1Num.f k (wrap64 (Int.tdiv a0 10))).bind fun Aa => (if 0 ≤ (Int.tmod a0 10) then (if (Int.tmod a0 10) ≤ (wrap64 ((Int.tmod a0 10) + 1)) then (if (wrap64 ((Int.tmod a0 10) + 1)) ≤ 10 then (if Aa.size + ((⟨#[48, 49, 50, 51, 52, 53, 54, 55, 56, 57]⟩ : ByteArray).extract ((Int.tmod a0 10) : Int).toNat ((wrap64 ((Int.tmod a0 10) + 1)) : Int).toNat).size ≤ 9223372036854775807 then (some (Aa ++ ((⟨#[48, 49, 50, 51, 52, 53, 54, 55, 56, 57]⟩ : ByteArray).extract ((Int.tmod a0 10) : Int).toNat ((wrap64 ((Int.tmod a0 10) + 1)) : Int).toNat))) else (none)) else (none)) else (none)) else (none))))) = some r := h; clear h
 by_cases c2 : a0 < 0
 ·rw [if_pos c2] at H
  have c2b0 : decide (a0 < 0) = true := decide_eq_true c2; clear c2; replace H := Option.bind_eq_some_iff.mp H; obtain ⟨Ab, Ah, H⟩ := H; replace H : (if 1 + Ab.size ≤ 9223372036854775807 then (some ((⟨#[45]⟩ : ByteArray) ++ Ab)) else (none)) = some r := H; have A3 := Aside0.mk Ah; clear Ah
  by_cases c4 : 1 + Ab.size ≤ 9223372036854775807
  ·rw [if_pos c4] at H
   have c4b0 := eq_true c4; have c4b1 : decide (1 + Ab.size ≤ 9223372036854775807) = true := decide_eq_true c4
   try have c4b2 : (9223372036854775807 < 1 + Ab.size) = False := eq_false (Nat.not_lt.2 c4)
   obtain rfl := Option.some.inj H
   go_enter Tryz.func43, Tryz.ntmps43
   go_wp2_with (first | ((with_reducible refine gate_callee (f := 43) rfl ?_); refine glE (some 7) Tryz.func43 #[.int .i64 (wrap64 (-a0))] ?_; (with_reducible refine (ih k (by omega) (wrap64 (-a0)) Ab _ A3.out).mono ?_); rintro e w5 ⟨rfl, hb⟩; refine ⟨_, rfl, ?_⟩; replace HB := hbS Z0 hb; (try clear hb)))
   go_ret
   exact ⟨Z11, Z0⟩
  ·rw [if_neg c4] at H
   exact absurd H (by simp)
 ·rw [if_neg c2] at H
  have c2b0 : decide (a0 < 0) = false := decide_eq_false c2; clear c2
  by_cases c6 : a0 < 10
  ·rw [if_pos c6] at H
   have c6b0 : decide (a0 < 10) = true := decide_eq_true c6; clear c6
   by_cases c7 : 0 ≤ a0
   ·rw [if_pos c7] at H
    have c7b0 := eq_true c7; have c7b1 : decide (0 ≤ a0) = true := decide_eq_true c7; clear c7
    by_cases c8 : a0 ≤ (wrap64 (a0 + 1))
    ·rw [if_pos c8] at H
     have c8b0 := eq_true c8; have c8b1 : decide (a0 ≤ (wrap64 (a0 + 1))) = true := decide_eq_true c8
     by_cases c9 : (wrap64 (a0 + 1)) ≤ 10
     ·rw [if_pos c9] at H
      have c9b0 := eq_true c9; have c9b1 : decide ((wrap64 (a0 + 1)) ≤ 10) = true := decide_eq_true c9; obtain rfl := Option.some.inj H
      go_enter Tryz.func43, Tryz.ntmps43
      go_wp2
      go_ret
      exact ⟨Z11, Z0⟩
     ·rw [if_neg c9] at H
      exact absurd H (by simp)
    ·rw [if_neg c8] at H
     exact absurd H (by simp)
   ·rw [if_neg c7] at H
    exact absurd H (by simp)
  ·rw [if_neg c6] at H
   have c6b0 : decide (a0 < 10) = false := decide_eq_false c6; clear c6; replace H := Option.bind_eq_some_iff.mp H; obtain ⟨Aa, Ac, H⟩ := H; replace H : (if 0 ≤ (Int.tmod a0 10) then (if (Int.tmod a0 10) ≤ (wrap64 ((Int.tmod a0 10) + 1)) then (if (wrap64 ((Int.tmod a0 10) + 1)) ≤ 10 then (if Aa.size + ((⟨#[48, 49, 50, 51, 52, 53, 54, 55, 56, 57]⟩ : ByteArray).extract ((Int.tmod a0 10) : Int).toNat ((wrap64 ((Int.tmod a0 10) + 1)) : Int).toNat).size ≤ 9223372036854775807 then (some (Aa ++ ((⟨#[48, 49, 50, 51, 52, 53, 54, 55, 56, 57]⟩ : ByteArray).extract ((Int.tmod a0 10) : Int).toNat ((wrap64 ((Int.tmod a0 10) + 1)) : Int).toNat))) else (none)) else (none)) else (none)) else (none)) = some r := H; have Ai := Aside0.mk Ac; clear Ac; obtain ⟨ji11, hji11⟩ : ∃ j_ : Int, (Int.tmod a0 10) = j_ := ⟨_, rfl⟩
   replace H : (if 0 ≤ (ji11) then (if (ji11) ≤ (wrap64 ((ji11) + 1)) then (if (wrap64 ((ji11) + 1)) ≤ 10 then (if Aa.size + ((⟨#[48, 49, 50, 51, 52, 53, 54, 55, 56, 57]⟩ : ByteArray).extract ((ji11) : Int).toNat ((wrap64 ((ji11) + 1)) : Int).toNat).size ≤ 9223372036854775807 then (some (Aa ++ ((⟨#[48, 49, 50, 51, 52, 53, 54, 55, 56, 57]⟩ : ByteArray).extract ((ji11) : Int).toNat ((wrap64 ((ji11) + 1)) : Int).toNat))) else (none)) else (none)) else (none)) else (none)) = some r := by first | (rw [hji11] at H; exact H) | (simp only [hji11] at H ⊢; exact H)
   (try rw [hji11] at Ai)
   by_cases Ad : 0 ≤ (ji11)
   ·rw [if_pos Ad] at H
    have c12b0 := eq_true Ad; have c12b1 : decide (0 ≤ (ji11)) = true := decide_eq_true Ad; clear Ad
    by_cases Af : (ji11) ≤ (wrap64 ((ji11) + 1))
    ·rw [if_pos Af] at H
     have c13b0 := eq_true Af; have c13b1 : decide ((ji11) ≤ (wrap64 ((ji11) + 1))) = true := decide_eq_true Af
     by_cases Ag : (wrap64 ((ji11) + 1)) ≤ 10
     ·rw [if_pos Ag] at H
      have c14b0 := eq_true Ag; have c14b1 : decide ((wrap64 ((ji11) + 1)) ≤ 10) = true := decide_eq_true Ag
      by_cases Ae : Aa.size + ((⟨#[48, 49, 50, 51, 52, 53, 54, 55, 56, 57]⟩ : ByteArray).extract ((ji11) : Int).toNat ((wrap64 ((ji11) + 1)) : Int).toNat).size ≤ 9223372036854775807
      ·rw [if_pos Ae] at H
       have c15b0 := eq_true Ae; have c15b1 : decide (Aa.size + ((⟨#[48, 49, 50, 51, 52, 53, 54, 55, 56, 57]⟩ : ByteArray).extract ((ji11) : Int).toNat ((wrap64 ((ji11) + 1)) : Int).toNat).size ≤ 9223372036854775807) = true := decide_eq_true Ae
       try have c15b2 : (9223372036854775807 < Aa.size + ((⟨#[48, 49, 50, 51, 52, 53, 54, 55, 56, 57]⟩ : ByteArray).extract ((ji11) : Int).toNat ((wrap64 ((ji11) + 1)) : Int).toNat).size) = False := eq_false (Nat.not_lt.2 Ae)
       try have c15z : ((⟨#[48, 49, 50, 51, 52, 53, 54, 55, 56, 57]⟩ : ByteArray).extract ((ji11) : Int).toNat ((wrap64 ((ji11) + 1)) : Int).toNat).size = ((wrap64 ((ji11) + 1)) : Int).toNat - ((ji11) : Int).toNat := by rw [ByteArray.size_extract]; show min _ 10 - _ = _; omega
       try have c15z1 := c15b1
       try have c15z2 := c15b2
       try rw [c15z] at c15z1
       try rw [c15z] at c15z2
       obtain rfl := Option.some.inj H
       go_enter Tryz.func43, Tryz.ntmps43
       try go_wp2
       replace HB := aM (below_drew1 HB.out); refine start_ (n := 11) (S := fun w' => True) (ds := []) #[false, false, false, false, false, false, false, false, false, false, false] Z21 rfl rfl trivial (fun hHeld => ?_); refine with_tabW spec_l1Num.tab5 spec_l1Num.bits5 (fun HT_ HW_ => ?_)
       generalize w.drew = Aj at HB hHeld ⊢
       refine puR 0 15 #[true, false, false, false, false, false, false, false, false, false, false] HT_ rfl rfl ?_; refine puR 1 16 #[true, true, false, false, false, false, false, false, false, false, false] HT_ rfl rfl ?_; refine puR 3 18 #[true, true, false, true, false, false, false, false, false, false, false] HT_ rfl rfl ?_; refine puR 4 19 #[true, true, false, true, true, false, false, false, false, false, false] HT_ rfl rfl ?_; refine puR 5 20 #[true, true, false, true, true, true, false, false, false, false, false] HT_ rfl rfl ?_; refine puR 6 21 #[true, true, false, true, true, true, true, false, false, false, false] HT_ rfl rfl ?_; refine puR 7 22 #[true, true, false, true, true, true, true, true, false, false, false] HT_ rfl rfl ?_; refine puR 8 23 #[true, true, false, true, true, true, true, true, true, false, false] HT_ rfl rfl ?_; refine one_ (i := 2) (N := some 17) #[true, true, true, true, true, true, true, true, true, false, false] rfl rfl (one_of HT_.out Z21) (by decide) (fun K hK => ?_); refine goes_ Tryz.func43 Z21 rfl #[.int .i64 (wrap64 (Int.tdiv a0 10))] (by rfl) rfl rfl Z15 ?_; (with_reducible refine (ih k (by omega) (wrap64 (Int.tdiv a0 10)) Aa _ Ai.out).mono ?_); rintro e Ak ⟨rfl, hb⟩; refine ⟨_, rfl, ?_⟩; replace HB := hbS Z0 hb; (try clear hb); (try clear hb2); (try clear hk); (try clear hi); refine hK.out _ _ trivial (fun hHeld => ?_); clear hK K; refine noR 17 ?_; refine puR 9 24 #[true, true, true, true, true, true, true, true, true, true, false] HT_ rfl rfl ?_; refine puR 10 2 #[true, true, true, true, true, true, true, true, true, true, true] HT_ rfl rfl ?_; refine done_ (done_of HT_.out Z21) ?_
       try go_wp2
       go_ret
       exact ⟨by first | rfl | (simp [errW_none, errW_some] <;> rfl) | (simp only [← hji11]; first | rfl | (simp [errW_none, errW_some] <;> rfl)) | (simp [*, errW_none, errW_some] <;> rfl), Z0⟩
      ·rw [if_neg Ae] at H
       exact absurd H (by simp)
     ·rw [if_neg Ag] at H
      exact absurd H (by simp)
    ·rw [if_neg Af] at H
     exact absurd H (by simp)
   ·rw [if_neg Ad] at H
    exact absurd H (by simp)
end Go.Proofs.YtfeighajmkcjfaaGreatDoor.H
