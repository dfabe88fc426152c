-- by wip/pack.py of this repo
import Derived.Test.YtfeighajmkcjfaaDoorZ00Hx0
import Derived.Test.YtfeighajmkcjfaaDoorZ00Hx3
import Derived.Test.YtfeighajmkcjfaaDoorZ00Hx4
import Derived.Test.YtfeighajmkcjfaaDoorZ00WApart
import Derived.Test.YtfeighajmkcjfaaDoorZ00WGuard
import Derived.Test.YtfeighajmkcjfaaDoorZ00WLast
import Derived.Test.YtfeighajmkcjfaaDoorZ00WMore
import Derived.Test.YtfeighajmkcjfaaDoorZ00WN
import Derived.Test.YtfeighajmkcjfaaDoorZ00WTab
import Derived.Test.YtfeighajmkcjfaaDoorZ00WWords
import Derived.Test.YtfeighajmkcjfaaDoorZ00Short
namespace Go.Proofs.YtfeighajmkcjfaaDoor.H
open Go.RowKit Go.Proofs.YtfeighajmkcjfaaDoorW.PrintWords Go.Proofs.YtfeighajmkcjfaaDoorW.PrintLast Go.Proofs.YtfeighajmkcjfaaDoorW.PrintMore
attribute [local go_sem] max2_int min2_int max_two min_two max_three min_three max_four min_four
set_option maxHeartbeats 8000000
set_option maxRecDepth 100000
set_option linter.unusedVariables false
set_option linter.unusedSimpArgs false
def spec_l7Grams.f (a0 : Int) : Option (Bool) := (spec_l1In.f a0 0 50000).bind fun t318 => (some t318)
theorem spec_l7Grams.calls (a0 : Int) (r : Bool) (w : World) (h : spec_l7Grams.f a0 = some r) :
  Calls Tryd.prog 34 #[.int .i64 a0] w fun e w' => e = .returned (.bool r) ∧ Drawn0 w w' := by
 have H : ((spec_l1In.f a0 0 50000).bind fun Aa => (some Aa)) = some r := h; clear h; replace H := Option.bind_eq_some_iff.mp H; obtain ⟨Aa, Ab, H⟩ := H; replace H : (some Aa) = some r := H; have A2 := Aside0.mk Ab; clear Ab; obtain rfl := Option.some.inj H
 go_enter Tryd.func34, Tryd.ntmps34
 go_wp2_with (first | ((with_reducible refine gate_callee (f := 44) rfl ?_); refine glE (some 4) Tryd.func44 #[.int .i64 a0, .int .i64 0, .int .i64 50000] ?_; (with_reducible refine (spec_l1In.calls a0 0 50000 Aa _ A2.out).mono ?_); rintro e w' ⟨rfl, ⟨nd, rfl⟩⟩; refine ⟨_, rfl, ?_⟩))
 go_ret
 exact ⟨Z20, Z75⟩
def spec_l7Bath.l0 : Nat → List (S43) → Int → Int → Int → Int → List Int → Option (Bool)
 | 0, _, _, _, _, _, _ => none
 | k + 1, x0, x5, x320000, x320001, x320002, x320003 => if x5 < (x320003.length : Int) then (if 0 ≤ x5 then ((spec_l7Grams.f (rd x320003 x5)).bind fun t321 => (if t321 = true then (spec_l7Bath.l0 k x0 (wrap64 (x5 + 1)) x320000 x320001 x320002 x320003) else (some false))) else (none)) else ((spec_l7Good.f k x0).bind fun t322 => (if t322 = true then ((spec_l1In.f x320000 1 500).bind fun t323 => (if t323 = true then ((spec_l1In.f x320001 0 100).bind fun t324 => (if t324 = true then ((spec_l7Grams.f x320002).bind fun t325 => (if t325 = true then (some ((x320003.length : Int) == (x0.length : Int))) else (some false))) else (some false))) else (some false))) else (some false)))
def spec_l7Bath.f (k : Nat) (l0 : List (S43)) (a1_0 : Int) (a1_1 : Int) (a1_2 : Int) (l1_3 : List Int) : Option (Bool) := spec_l7Bath.l0 k l0 0 a1_0 a1_1 a1_2 l1_3
theorem spec_l7Bath.calls (k : Nat) (A0 : Option Addr) (c0 : Nat) (l0 : List (S43)) (Ah : Int) (Ag : Int) (Af : Int) (An : Option Addr) (Ao : Nat) (Ab : List Int) (r : Bool) (w : World) (Ea : Kd.C k43 w A0 l0.length l0) (Eb : l0.length ≤ c0) (Ap : Kd.C (Kd.int .i64) w An Ab.length Ab) (Aq : Ab.length ≤ Ao) (h : spec_l7Bath.f k l0 Ah Ag Af Ab = some r) :
  Calls Tryd.prog 24 #[.slice A0 l0.length c0, .agg #[.int .i64 Ah, .int .i64 Ag, .int .i64 Af, .slice An Ab.length Ao]] w fun e w' => e = .returned (.bool r) ∧ Below w.heap.size w w' := by
 have hu27 := Tryd.underlying27; have Au := Aside0.mk Ea; have Av := Aside0.mk Eb; clear Ea Eb; have Ar := Aside0.mk Ap; have Ec := Aside0.mk Aq; clear Ap Aq; have HB := aM (Below.refl w.heap.size w); have H : (spec_l7Bath.l0 k l0 0 Ah Ag Af Ab) = some r := h; clear h; have H' := Aside0.mk H; clear H
 go_enter Tryd.func24, Tryd.ntmps24
 go_wp2_with (first | ((with_reducible refine gate_dst (N := 3) rfl ?_); (try (refine gate_guard (by rfl) ?_; dsimp only)); refine bxE 3 #[.int .i64 Ah, .int .i64 Ag, .int .i64 Af, .slice An Ab.length Ao] 27 ?_; intro Aw hg w3 hbox hb; have Aa := aM (hbox); have Ed := gwS hg Z0; have Ad := gwS hg Z0; replace HB := hbS Z0 hb; clear hb hbox hg))
 go_loopg [5] k (fun kq v5 w' => ∃ (Ac : Int), v5 = .int .i64 Ac ∧ Aside0 (spec_l7Bath.l0 kq l0 Ac Ah Ag Af Ab = some r) ∧ Aside0 (kq ≤ k) ∧ Aside0 (w'.heap[Aw]? = some (.cells #[.int .i64 Ah, .int .i64 Ag, .int .i64 Af, (.slice An Ab.length Ao)] 27 (0, 0))) ∧ Aside0 (Below w.heap.size w w'))
 case atStart => exact ⟨(0), Z20, H', ⟨Nat.le_refl _⟩, ⟨Z42⟩, ⟨Z17⟩⟩
 case round =>
  clear H'; (try clear c1); (try clear c2); (try clear p2); obtain ⟨Ac, rfl, HA, HK1, Aa, HB⟩ := hrel; cases gk with
  | zero => exact absurd HA.out (by simp [spec_l7Bath.l0])
  | succ k1 =>
   have H := HA.out; clear HA
   simp only [spec_l7Bath.l0] at H
   by_cases c4 : Ac < (Ab.length : Int)
   ·rw [if_pos c4] at H
    have c4b0 : decide (Ac < (Ab.length : Int)) = true := decide_eq_true c4; clear c4
    by_cases c5 : 0 ≤ Ac
    ·rw [if_pos c5] at H
     have c5b0 : decide (0 ≤ Ac) = true := decide_eq_true c5; clear c5; replace H := Option.bind_eq_some_iff.mp H; obtain ⟨Ax, Ee, H⟩ := H; replace H : (if Ax = true then (spec_l7Bath.l0 k1 l0 (wrap64 (Ac + 1)) Ah Ag Af Ab) else (some false)) = some r := H; have A6 := Aside0.mk Ee; clear Ee
     by_cases c7 : Ax = true
     ·subst c7
      have H1 : (spec_l7Bath.l0 k1 l0 (wrap64 (Ac + 1)) Ah Ag Af Ab) = some r := by rw [if_pos rfl] at H; exact H
      clear H; have H := H1; clear H1; have H' := Aside0.mk H; clear H; obtain ⟨Dt, Du, Dv, Dw⟩ := bz4 Aa; obtain ⟨Dx, Dy, Dz, D0⟩ := fz4 Aa; have Ak : 0 ≤ (Ac : Int) := of_decide_eq_true Z8; have Al : Ac < (Ab.length : Int) := of_decide_eq_true Z8; obtain ⟨ad320, e320, Ae⟩ := Kd.at_int Ar.out Ac Ak Al; cases e320; replace Ae := (HB.out.cell (World.block_lt_of_cell? w _ Ae)).trans Ae; replace Ak := eq_true Ak; replace Al := eq_true Al
      go_wp2_with (first | ((with_reducible refine gate_callee (f := 34) rfl ?_); refine glE (some 18) Tryd.func34 #[.int .i64 (rd Ab Ac)] ?_; (with_reducible refine (spec_l7Grams.calls (rd Ab Ac) true _ A6.out).mono ?_); rintro e w' ⟨rfl, ⟨nd, rfl⟩⟩; refine ⟨_, rfl, ?_⟩))
      go_roundg k1
      case measure => have := HK1.out; omega
      case rel => exact ⟨(wrap64 (Ac + 1)), Z20, H', ⟨Z135⟩, ⟨Z42⟩, ⟨Z17⟩⟩
     ·replace c7 := Bool.eq_false_iff.mpr c7
      subst c7
      have H1 : (some false) = some r := by rw [if_neg (show ¬ (false = true) by decide)] at H; exact H
      clear H; have H := H1; clear H1; obtain rfl := Option.some.inj H; obtain ⟨D1, D2, D3, D4⟩ := bz4 Aa; obtain ⟨D5, D6, D7, D8⟩ := fz4 Aa; have Ak : 0 ≤ (Ac : Int) := of_decide_eq_true Z8; have Al : Ac < (Ab.length : Int) := of_decide_eq_true Z8; obtain ⟨ad320, e320, Ae⟩ := Kd.at_int Ar.out Ac Ak Al; cases e320; replace Ae := (HB.out.cell (World.block_lt_of_cell? w _ Ae)).trans Ae; replace Ak := eq_true Ak; replace Al := eq_true Al
      go_wp2_with (first | ((with_reducible refine gate_callee (f := 34) rfl ?_); refine glE (some 18) Tryd.func34 #[.int .i64 (rd Ab Ac)] ?_; (with_reducible refine (spec_l7Grams.calls (rd Ab Ac) false _ A6.out).mono ?_); rintro e w' ⟨rfl, ⟨nd, rfl⟩⟩; refine ⟨_, rfl, ?_⟩))
      go_ret
      exact ⟨Z6, Z17⟩
    ·rw [if_neg c5] at H
     exact absurd H (by simp)
   ·rw [if_neg c4] at H
    have c4b0 : decide (Ac < (Ab.length : Int)) = false := decide_eq_false c4; clear c4; replace H := Option.bind_eq_some_iff.mp H; obtain ⟨Ay, Az, H⟩ := H; replace H : (if Ay = true then ((spec_l1In.f Ah 1 500).bind fun Am => (if Am = true then ((spec_l1In.f Ag 0 100).bind fun Aj => (if Aj = true then ((spec_l7Grams.f Af).bind fun Ai => (if Ai = true then (some ((Ab.length : Int) == (l0.length : Int))) else (some false))) else (some false))) else (some false))) else (some false)) = some r := H; have Ba := Aside0.mk Az; clear Az
    by_cases Bf : Ay = true
    ·subst Bf
     have H1 : ((spec_l1In.f Ah 1 500).bind fun Am => (if Am = true then ((spec_l1In.f Ag 0 100).bind fun Aj => (if Aj = true then ((spec_l7Grams.f Af).bind fun Ai => (if Ai = true then (some ((Ab.length : Int) == (l0.length : Int))) else (some false))) else (some false))) else (some false))) = some r := by rw [if_pos rfl] at H; exact H
     clear H; have H := H1; clear H1; replace H := Option.bind_eq_some_iff.mp H; obtain ⟨Am, Bb, H⟩ := H; replace H : (if Am = true then ((spec_l1In.f Ag 0 100).bind fun Aj => (if Aj = true then ((spec_l7Grams.f Af).bind fun Ai => (if Ai = true then (some ((Ab.length : Int) == (l0.length : Int))) else (some false))) else (some false))) else (some false)) = some r := H; have Bg := Aside0.mk Bb; clear Bb
     by_cases Bh : Am = true
     ·subst Bh
      have H1 : ((spec_l1In.f Ag 0 100).bind fun Aj => (if Aj = true then ((spec_l7Grams.f Af).bind fun Ai => (if Ai = true then (some ((Ab.length : Int) == (l0.length : Int))) else (some false))) else (some false))) = some r := by rw [if_pos rfl] at H; exact H
      clear H; have H := H1; clear H1; replace H := Option.bind_eq_some_iff.mp H; obtain ⟨Aj, Bc, H⟩ := H; replace H : (if Aj = true then ((spec_l7Grams.f Af).bind fun Ai => (if Ai = true then (some ((Ab.length : Int) == (l0.length : Int))) else (some false))) else (some false)) = some r := H; have D9 := Aside0.mk Bc; clear Bc
      by_cases Bi : Aj = true
      ·subst Bi
       have H1 : ((spec_l7Grams.f Af).bind fun Ai => (if Ai = true then (some ((Ab.length : Int) == (l0.length : Int))) else (some false))) = some r := by rw [if_pos rfl] at H; exact H
       clear H; have H := H1; clear H1; replace H := Option.bind_eq_some_iff.mp H; obtain ⟨Ai, Bd, H⟩ := H; replace H : (if Ai = true then (some ((Ab.length : Int) == (l0.length : Int))) else (some false)) = some r := H; have Ef := Aside0.mk Bd; clear Bd
       by_cases Bj : Ai = true
       ·subst Bj
        have H1 : (some ((Ab.length : Int) == (l0.length : Int))) = some r := by rw [if_pos rfl] at H; exact H
        clear H; have H := H1; clear H1; obtain rfl := Option.some.inj H; obtain ⟨Bk, Bl, Bm, Bn⟩ := bz4 Aa; obtain ⟨Bo, Bp, Bq, Br⟩ := fz4 Aa
        go_wp2_with (first | ((with_reducible refine gate_callee (f := 33) rfl ?_); refine glE (some 21) Tryd.func33 #[.slice A0 l0.length c0] ?_; (with_reducible refine (spec_l7Good.calls k1 _ _ l0 true _ ?side1 ?side2 Ba.out).mono ?_); (case side1 => exact Z30); (case side2 => exact Av.out); rintro e Eg ⟨rfl, hb⟩; refine ⟨_, rfl, ?_⟩; replace Aa := bkB Aa hb; replace HB := hbS Z17 hb; (try clear hb); obtain ⟨Bs, Bt, Bu, Bv⟩ := bz4 Aa; obtain ⟨Bw, Bx, Bz, B0⟩ := fz4 Aa) | (go_at_call 44; (with_reducible refine (spec_l1In.calls Ah 1 500 true _ Bg.out).mono ?_); rintro e w' ⟨rfl, ⟨nd, rfl⟩⟩) | (go_at_call 44; (with_reducible refine (spec_l1In.calls Ag 0 100 true _ D9.out).mono ?_); rintro e w' ⟨rfl, ⟨nd, rfl⟩⟩) | (go_at_call 34; (with_reducible refine (spec_l7Grams.calls Af true _ Ef.out).mono ?_); rintro e w' ⟨rfl, ⟨nd, rfl⟩⟩))
        go_ret
        exact ⟨Z6, Z17⟩
       ·replace Bj := Bool.eq_false_iff.mpr Bj
        subst Bj
        have H1 : (some false) = some r := by rw [if_neg (show ¬ (false = true) by decide)] at H; exact H
        clear H; have H := H1; clear H1; obtain rfl := Option.some.inj H; obtain ⟨B2, B6, Ca, Cb⟩ := bz4 Aa; obtain ⟨Cc, Cd, Ce, Cf⟩ := fz4 Aa
        go_wp2_with (first | ((with_reducible refine gate_callee (f := 33) rfl ?_); refine glE (some 21) Tryd.func33 #[.slice A0 l0.length c0] ?_; (with_reducible refine (spec_l7Good.calls k1 _ _ l0 true _ ?side1 ?side2 Ba.out).mono ?_); (case side1 => exact Z30); (case side2 => exact Av.out); rintro e Eh ⟨rfl, hb⟩; refine ⟨_, rfl, ?_⟩; replace Aa := bkB Aa hb; replace HB := hbS Z17 hb; (try clear hb); obtain ⟨Cg, Ch, Ci, Cj⟩ := bz4 Aa; obtain ⟨Ck, Cl, Cm, Cn⟩ := fz4 Aa) | (go_at_call 44; (with_reducible refine (spec_l1In.calls Ah 1 500 true _ Bg.out).mono ?_); rintro e w' ⟨rfl, ⟨nd, rfl⟩⟩) | (go_at_call 44; (with_reducible refine (spec_l1In.calls Ag 0 100 true _ D9.out).mono ?_); rintro e w' ⟨rfl, ⟨nd, rfl⟩⟩) | (go_at_call 34; (with_reducible refine (spec_l7Grams.calls Af false _ Ef.out).mono ?_); rintro e w' ⟨rfl, ⟨nd, rfl⟩⟩))
        go_ret
        exact ⟨Z6, Z17⟩
      ·replace Bi := Bool.eq_false_iff.mpr Bi
       subst Bi
       have H1 : (some false) = some r := by rw [if_neg (show ¬ (false = true) by decide)] at H; exact H
       clear H; have H := H1; clear H1; obtain rfl := Option.some.inj H; obtain ⟨Co, Cp, Cq, Cr⟩ := bz4 Aa; obtain ⟨Cs, Ct, Cu, Cv⟩ := fz4 Aa
       go_wp2_with (first | ((with_reducible refine gate_callee (f := 33) rfl ?_); refine glE (some 21) Tryd.func33 #[.slice A0 l0.length c0] ?_; (with_reducible refine (spec_l7Good.calls k1 _ _ l0 true _ ?side1 ?side2 Ba.out).mono ?_); (case side1 => exact Z30); (case side2 => exact Av.out); rintro e Ei ⟨rfl, hb⟩; refine ⟨_, rfl, ?_⟩; replace Aa := bkB Aa hb; replace HB := hbS Z17 hb; (try clear hb); obtain ⟨Cw, Cx, Cy, Cz⟩ := bz4 Aa; obtain ⟨C0, C1, C2, C3⟩ := fz4 Aa) | (go_at_call 44; (with_reducible refine (spec_l1In.calls Ah 1 500 true _ Bg.out).mono ?_); rintro e w' ⟨rfl, ⟨nd, rfl⟩⟩) | (go_at_call 44; (with_reducible refine (spec_l1In.calls Ag 0 100 false _ D9.out).mono ?_); rintro e w' ⟨rfl, ⟨nd, rfl⟩⟩))
       go_ret
       exact ⟨Z6, Z17⟩
     ·replace Bh := Bool.eq_false_iff.mpr Bh
      subst Bh
      have H1 : (some false) = some r := by rw [if_neg (show ¬ (false = true) by decide)] at H; exact H
      clear H; have H := H1; clear H1; obtain rfl := Option.some.inj H; obtain ⟨C4, C5, C6, C7⟩ := bz4 Aa; obtain ⟨C8, C9, Da, Db⟩ := fz4 Aa
      go_wp2_with (first | ((with_reducible refine gate_callee (f := 33) rfl ?_); refine glE (some 21) Tryd.func33 #[.slice A0 l0.length c0] ?_; (with_reducible refine (spec_l7Good.calls k1 _ _ l0 true _ ?side1 ?side2 Ba.out).mono ?_); (case side1 => exact Z30); (case side2 => exact Av.out); rintro e Ej ⟨rfl, hb⟩; refine ⟨_, rfl, ?_⟩; replace Aa := bkB Aa hb; replace HB := hbS Z17 hb; (try clear hb); obtain ⟨Dc, Dd, De, Df⟩ := bz4 Aa; obtain ⟨Dg, Dh, Di, Dj⟩ := fz4 Aa) | (go_at_call 44; (with_reducible refine (spec_l1In.calls Ah 1 500 false _ Bg.out).mono ?_); rintro e w' ⟨rfl, ⟨nd, rfl⟩⟩))
      go_ret
      exact ⟨Z6, Z17⟩
    ·replace Bf := Bool.eq_false_iff.mpr Bf
     subst Bf
     have H1 : (some false) = some r := by rw [if_neg (show ¬ (false = true) by decide)] at H; exact H
     clear H; have H := H1; clear H1; obtain rfl := Option.some.inj H; obtain ⟨Dk, Dl, Dm, Dn⟩ := bz4 Aa; obtain ⟨Dp, Dq, Dr, Ds⟩ := fz4 Aa
     go_wp2_with (first | ((with_reducible refine gate_callee (f := 33) rfl ?_); refine glE (some 21) Tryd.func33 #[.slice A0 l0.length c0] ?_; (with_reducible refine (spec_l7Good.calls k1 _ _ l0 false _ ?side1 ?side2 Ba.out).mono ?_); (case side1 => exact Z30); (case side2 => exact Av.out); rintro e Ek ⟨rfl, hb⟩; refine ⟨_, rfl, ?_⟩; replace Aa := bkB Aa hb; replace HB := hbS Z17 hb; (try clear hb)))
     go_ret
     exact ⟨Z6, Z17⟩
def spec_l7Needs.l0 : Nat → List (S43) → Int → List Int → Int → Option (List Int)
 | 0, _, _, _, _ => none
 | k + 1, x0, x1, x5, x6 => if x6 < (x0.length : Int) then (if 0 ≤ x6 then (if x5.length < 17592186044416 then (spec_l7Needs.l0 k x0 x1 (x5 ++ [wrap64 (Int.tdiv (wrap64 ((wrap64 (((rd_T43 x0 x6).f1) * x1)) + 999)) 1000)]) (wrap64 (x6 + 1))) else (none)) else (none)) else (some x5)
def spec_l7Needs.f (k : Nat) (l0 : List (S43)) (a1 : Int) : Option (List Int) := spec_l7Needs.l0 k l0 a1 (([] : List Int)) 0
theorem spec_l7Needs.calls (k : Nat) (A0 : Option Addr) (c0 : Nat) (l0 : List (S43)) (a1 : Int) (r : List Int) (w : World) (Aq : Kd.C k43 w A0 l0.length l0) (Ar : l0.length ≤ c0) (h : spec_l7Needs.f k l0 a1 = some r) :
  Calls Tryd.prog 26 #[.slice A0 l0.length c0, .int .i64 a1] w fun e w' => ∃ v0_ : Value, e = .returned (v0_) ∧ Kd.R (Kd.int .i64) 3 w' w.heap.size (fun _ => True) v0_ r ∧ Below w.heap.size w w' := by
 have Au := Aside0.mk Aq; have Ax := Aside0.mk Ar; clear Aq Ar; have HB := aM (Below.refl w.heap.size w); have H : (spec_l7Needs.l0 k l0 a1 (([] : List Int)) 0) = some r := h; clear h; obtain ⟨Ak, Ad⟩ : ∃ y_ : List Int, y_ = (([] : List Int)) := ⟨_, rfl⟩
 replace H : (spec_l7Needs.l0 k l0 a1 Ak 0) = some r := by first | (rw [Ad]; with_reducible exact H) | (have H2_ := (Option.bind_some _ _).symm.trans H; rw [Ad]; with_reducible exact H2_) | (have H2_ := (Option.bind_some _ _).symm.trans H; with_reducible exact H2_) | with_reducible exact H | (rw [Ad]; exact H) | exact H
 have Ag := Aside0.mk Ad; clear Ad; have H' := Aside0.mk H; clear H
 go_enter Tryd.func26, Tryd.ntmps26
 go_wp2_with (first | ((with_reducible refine gate_dst (N := 7) rfl ?_); refine Kd.R_lit (Kd.int .i64) _ 3 ?hg (N := 7) ?hd (xs := ([] : List Int)) (inner := []) (ok := fun _ => True) (okp := fun _ => True) ?hr ?hp (fun _ hk => hk) trivial (Below.refl _ _) (Nat.le_refl _) (by simp) ?_; (case hd => rfl); (case hg => rfl); (case hr => first | (go_simp; done) | (go_simp; rfl)); (case hp => exact (Reps.none _ _)); intro Av w3 Al hb hg_ hnew_; clear hg_ hnew_; (first | rw [← Ag.out] at Al | (simp only [Int.reduceToNat] at Al; rw [← Ag.out] at Al)); have Am := aM (Kd.R_lower Al (below_size Z0)); replace HB := hbS Z0 hb; clear hb Al))
 go_loopg [5, 6] k (fun kq v5 v6 w' => ∃ (Af : List Int) (Aa : Int), v6 = .int .i64 Aa ∧ Aside0 (spec_l7Needs.l0 kq l0 a1 Af Aa = some r) ∧ Aside0 (kq ≤ k) ∧ Aside0 (Kd.R (Kd.int .i64) 3 w' w.heap.size (fun _ => True) v5 Af) ∧ Aside0 (Below w.heap.size w w'))
 case atStart => exact ⟨(Ak), (0), Z20, H', ⟨Nat.le_refl _⟩, ⟨by (with_reducible repeat (first | apply Kd.R_alloc | apply Kd.R_drewN | apply Kd.R_drew)); exact Am.out⟩, ⟨Z0⟩⟩
 case round =>
  clear H'; (try clear c2); (try clear p2); obtain ⟨Af, Aa, rfl, HA, HK1, Ah, HB⟩ := hrel; cases gk with
  | zero => exact absurd HA.out (by simp [spec_l7Needs.l0])
  | succ k1 =>
   have H := HA.out; clear HA
   simp only [spec_l7Needs.l0] at H
   by_cases c5 : Aa < (l0.length : Int)
   ·rw [if_pos c5] at H
    have c5b0 : decide (Aa < (l0.length : Int)) = true := decide_eq_true c5; clear c5
    by_cases c6 : 0 ≤ Aa
    ·rw [if_pos c6] at H
     have c6b0 : decide (0 ≤ Aa) = true := decide_eq_true c6; clear c6
     by_cases c7 : Af.length < 17592186044416
     ·rw [if_pos c7] at H
      have LMc7 := Aside0.mk c7; clear c7; obtain ⟨An, Ae⟩ : ∃ y_ : List Int, y_ = (Af ++ [wrap64 (Int.tdiv (wrap64 ((wrap64 (((rd_T43 l0 Aa).f1) * a1)) + 999)) 1000)]) := ⟨_, rfl⟩
      replace H : (spec_l7Needs.l0 k1 l0 a1 An (wrap64 (Aa + 1))) = some r := by first | (rw [Ae]; with_reducible exact H) | (have H2_ := (Option.bind_some _ _).symm.trans H; rw [Ae]; with_reducible exact H2_) | (have H2_ := (Option.bind_some _ _).symm.trans H; with_reducible exact H2_) | with_reducible exact H | (rw [Ae]; exact H) | exact H
      have Ao := Aside0.mk Ae; clear Ae; have H' := Aside0.mk H; clear H; have Ai : 0 ≤ (Aa : Int) := of_decide_eq_true Z8; have Aj : Aa < (l0.length : Int) := of_decide_eq_true Z8; obtain ⟨ad329, e329, Ab, Ac⟩ := at_T43 Au.out Aa Ai Aj; cases e329; replace Ab := (HB.out.cell (World.block_lt_of_cell? w _ Ab)).trans Ab; replace Ac := (HB.out.cell (World.block_lt_of_cell? w _ Ac)).trans Ac; replace Ai := eq_true Ai; replace Aj := eq_true Aj
      go_wp2_with (first | ((with_reducible refine gate_builtin (b := .append) (xs := #[.tmp 14, .tmp 24]) rfl ?_); at_builtin; refine Kd.R_append (Kd.int .i64) (w0 := w) w.heap.size rfl (.tmp 14) (.tmp 24) 25 3 (.int .i64 0) 8 rfl Tryd.underlying25 info3 rfl (by decide) (by omega) u5 Af (wrap64 (Int.tdiv (wrap64 ((wrap64 (((rd_T43 l0 Aa).f1) * a1)) + 999)) 1000)) [.int .i64 (wrap64 (Int.tdiv (wrap64 ((wrap64 (((rd_T43 l0 Aa).f1) * a1)) + 999)) 1000))] (fun _ => True) (fun _ => False) rfl rfl ?aP (fun _ hk => hk.elim) ?aF ?aO ?aB ?aS ?aL ?_; (case aP => exact rfl); (case aB => exact Z0); (case aF => exact (fun _ _ => trivial)); (case aO => exact Z76); (case aS => exact (below_size Z0)); (case aL => have := LMc7.out; omega); intro Aw w8 ho hb hg hat; rw [← Ao.out] at ho; replace HB := aM (hb); have Ap := aM (ho); clear Ah; clear ho hb hg hat))
      go_roundg k1
      case measure => have := HK1.out; omega
      case rel => exact ⟨(An), (wrap64 (Aa + 1)), Z20, H', ⟨Z135⟩, ⟨by (with_reducible repeat (first | apply Kd.R_alloc | apply Kd.R_drewN | apply Kd.R_drew)); exact Ap.out⟩, ⟨Z0⟩⟩
     ·rw [if_neg c7] at H
      exact absurd H (by simp)
    ·rw [if_neg c6] at H
     exact absurd H (by simp)
   ·rw [if_neg c5] at H
    have c5b0 : decide (Aa < (l0.length : Int)) = false := decide_eq_false c5; clear c5; obtain rfl := Option.some.inj H
    go_wp2
    go_ret
    exact ⟨_, Z6, Z76, Z0⟩
def spec_l7Ready.l0 : Nat → Int → List Int → Int → Int → Int → Int → List Int → Option (Bool)
 | 0, _, _, _, _, _, _, _ => none
 | k + 1, x2, x7, x8, x334000, x334001, x334002, x334003 => if x8 < (x7.length : Int) then (if 0 ≤ x8 then (if x8 < (x334003.length : Int) then (if (rd x334003 x8) < (rd x7 x8) then (some false) else (spec_l7Ready.l0 k x2 x7 (wrap64 (x8 + 1)) x334000 x334001 x334002 x334003)) else (none)) else (none)) else (if x334000 ≥ (wrap64 (20 * (wrap64 (Int.tdiv (wrap64 (x2 + 999)) 1000)))) then ((spec_l1In.f x334001 60 95).bind fun t339 => (some t339)) else (some false))
def spec_l7Ready.f (k : Nat) (l0 : List (S43)) (a1_0 : Int) (a1_1 : Int) (a1_2 : Int) (l1_3 : List Int) (a2 : Int) : Option (Bool) := (spec_l7Needs.f k l0 a2).bind fun t334 => (spec_l7Ready.l0 k a2 t334 0 a1_0 a1_1 a1_2 l1_3)
theorem spec_l7Ready.calls (k : Nat) (A0 : Option Addr) (c0 : Nat) (l0 : List (S43)) (Ag : Int) (Ah : Int) (Ai : Int) (Ao : Option Addr) (Ap : Nat) (Ad : List Int) (a2 : Int) (r : Bool) (w : World) (Cr : Kd.C k43 w A0 l0.length l0) (Cs : l0.length ≤ c0) (Aw : Kd.C (Kd.int .i64) w Ao Ad.length Ad) (Ax : Ad.length ≤ Ap) (h : spec_l7Ready.f k l0 Ag Ah Ai Ad a2 = some r) :
  Calls Tryd.prog 25 #[.slice A0 l0.length c0, .agg #[.int .i64 Ag, .int .i64 Ah, .int .i64 Ai, .slice Ao Ad.length Ap], .int .i64 a2] w fun e w' => e = .returned (.bool r) ∧ Below w.heap.size w w' := by
 have hu27 := Tryd.underlying27; have Ck := Aside0.mk Cr; have Cl := Aside0.mk Cs; clear Cr Cs; have Ay := Aside0.mk Aw; have Ct := Aside0.mk Ax; clear Aw Ax; have HB := aM (Below.refl w.heap.size w); have H : ((spec_l7Needs.f k l0 a2).bind fun Af => (spec_l7Ready.l0 k a2 Af 0 Ag Ah Ai Ad)) = some r := h; clear h; replace H := Option.bind_eq_some_iff.mp H; obtain ⟨Af, Cu, H⟩ := H; replace H : (spec_l7Ready.l0 k a2 Af 0 Ag Ah Ai Ad) = some r := H; have A4 := Aside0.mk Cu; clear Cu; have H' := Aside0.mk H; clear H
 go_enter Tryd.func25, Tryd.ntmps25
 go_wp2_with (first | ((with_reducible refine gate_dst (N := 4) rfl ?_); refine bxE 4 #[.int .i64 Ag, .int .i64 Ah, .int .i64 Ai, .slice Ao Ad.length Ap] 27 ?_; intro Aq hg w5 hbox hb; have Aa := aM (hbox); have Az := gwS hg Z0; have Ac := gwS hg Z0; replace HB := hbS Z0 hb; clear hb hbox hg) | (go_at_call 26; (with_reducible refine (spec_l7Needs.calls k _ _ l0 a2 Af _ ?side1 ?side2 A4.out).mono ?_); (case side1 => exact Z97); (case side2 => exact Cl.out); rintro e w6 ⟨Bb, rfl, Ba, hb⟩; have Ar := aM (Kd.R_lower Ba (below_size Z21)); replace Aa := bkB Aa hb; replace HB := hbS Z21 hb; (try clear hb); (try clear Ba)))
 repeat (go_quiet (first | ((with_reducible refine gate_dst (N := 4) rfl ?_); refine bxE 4 #[.int .i64 Ag, .int .i64 Ah, .int .i64 Ai, .slice Ao Ad.length Ap] 27 ?_; intro Aq hg w5 hbox hb; have Aa := aM (hbox); have Az := gwS hg Z0; have Ac := gwS hg Z0; replace HB := hbS Z0 hb; clear hb hbox hg) | (go_at_call 26; (with_reducible refine (spec_l7Needs.calls k _ _ l0 a2 Af _ ?side1 ?side2 A4.out).mono ?_); (case side1 => exact Z97); (case side2 => exact Cl.out); rintro e w6 ⟨Bb, rfl, Ba, hb⟩; have Ar := aM (Kd.R_lower Ba (below_size Z21)); replace Aa := bkB Aa hb; replace HB := hbS Z21 hb; (try clear hb); (try clear Ba))); try go_wp2_with (first | ((with_reducible refine gate_dst (N := 4) rfl ?_); refine bxE 4 #[.int .i64 Ag, .int .i64 Ah, .int .i64 Ai, .slice Ao Ad.length Ap] 27 ?_; intro Aq hg w5 hbox hb; have Aa := aM (hbox); have Az := gwS hg Z0; have Ac := gwS hg Z0; replace HB := hbS Z0 hb; clear hb hbox hg) | (go_at_call 26; (with_reducible refine (spec_l7Needs.calls k _ _ l0 a2 Af _ ?side1 ?side2 A4.out).mono ?_); (case side1 => exact Z97); (case side2 => exact Cl.out); rintro e w6 ⟨Bb, rfl, Ba, hb⟩; have Ar := aM (Kd.R_lower Ba (below_size Z21)); replace Aa := bkB Aa hb; replace HB := hbS Z21 hb; (try clear hb); (try clear Ba))))
 go_loopg [8] k (fun kq v8 w' => ∃ (Ab : Int), v8 = .int .i64 Ab ∧ Aside0 (spec_l7Ready.l0 kq a2 Af Ab Ag Ah Ai Ad = some r) ∧ Aside0 (kq ≤ k) ∧ Aside0 (Kd.R (Kd.int .i64) 3 w' w.heap.size (fun _ => True) Bb Af) ∧ Aside0 (w'.heap[Aq]? = some (.cells #[.int .i64 Ag, .int .i64 Ah, .int .i64 Ai, (.slice Ao Ad.length Ap)] 27 (0, 0))) ∧ Aside0 (Below w.heap.size w w'))
 case atStart => exact ⟨(0), Z20, H', ⟨Nat.le_refl _⟩, ⟨by (with_reducible repeat (first | apply Kd.R_alloc | apply Kd.R_drewN | apply Kd.R_drew)); exact Ar.out⟩, ⟨Z42⟩, ⟨Z21⟩⟩
 case round =>
  clear H'; (try clear c1); (try clear c2); (try clear p2); obtain ⟨Ab, rfl, HA, HK1, Aj, Aa, HB⟩ := hrel; cases gk with
  | zero => exact absurd HA.out (by simp [spec_l7Ready.l0])
  | succ k1 =>
   have H := HA.out; clear HA
   simp only [spec_l7Ready.l0] at H
   by_cases c7 : Ab < (Af.length : Int)
   ·rw [if_pos c7] at H
    have c7b0 : decide (Ab < (Af.length : Int)) = true := decide_eq_true c7; clear c7
    by_cases c8 : 0 ≤ Ab
    ·rw [if_pos c8] at H
     have c8b0 : decide (0 ≤ Ab) = true := decide_eq_true c8; clear c8
     by_cases c9 : Ab < (Ad.length : Int)
     ·rw [if_pos c9] at H
      have c9b0 : decide (Ab < (Ad.length : Int)) = true := decide_eq_true c9; clear c9
      by_cases Bc : (rd Ad Ab) < (rd Af Ab)
      ·rw [if_pos Bc] at H
       have c10b0 : decide ((rd Ad Ab) < (rd Af Ab)) = true := decide_eq_true Bc; clear Bc; obtain rfl := Option.some.inj H; obtain ⟨Cv, Cw, Cm⟩ := Kd.R_slice Aj.out; subst Cm; obtain ⟨Bg, Bh, Bi, Bj⟩ := bz4 Aa; obtain ⟨Bk, Bl, Bm, Bn⟩ := fz4 Aa; have Ak : 0 ≤ (Ab : Int) := of_decide_eq_true Z8; have Al : Ab < (Ad.length : Int) := of_decide_eq_true Z8; obtain ⟨ad337, e337, Ae⟩ := Kd.at_int Ay.out Ab Ak Al; cases e337; replace Ae := (HB.out.cell (World.block_lt_of_cell? w _ Ae)).trans Ae; replace Ak := eq_true Ak; replace Al := eq_true Al; have Am : 0 ≤ (Ab : Int) := of_decide_eq_true Z8; have An : Ab < (Af.length : Int) := of_decide_eq_true Z8; obtain ⟨ad338, e338, Au⟩ := Kd.at_int (Kd.R_reads' Aj.out).2.2 Ab Am An; cases e338; replace Am := eq_true Am; replace An := eq_true An
       go_wp2
       repeat (go_quiet (fail); try go_wp2)
       go_ret
       exact ⟨Z6, Z21⟩
      ·rw [if_neg Bc] at H
       have c10b0 : decide ((rd Ad Ab) < (rd Af Ab)) = false := decide_eq_false Bc; clear Bc; have H' := Aside0.mk H; clear H; obtain ⟨Cx, Cy, Cn⟩ := Kd.R_slice Aj.out; subst Cn; obtain ⟨Bo, Bp, Bq, Br⟩ := bz4 Aa; obtain ⟨Bs, Bt, Bu, Bv⟩ := fz4 Aa; have Ak : 0 ≤ (Ab : Int) := of_decide_eq_true Z8; have Al : Ab < (Ad.length : Int) := of_decide_eq_true Z8; obtain ⟨ad337, e337, Ae⟩ := Kd.at_int Ay.out Ab Ak Al; cases e337; replace Ae := (HB.out.cell (World.block_lt_of_cell? w _ Ae)).trans Ae; replace Ak := eq_true Ak; replace Al := eq_true Al; have Am : 0 ≤ (Ab : Int) := of_decide_eq_true Z8; have An : Ab < (Af.length : Int) := of_decide_eq_true Z8; obtain ⟨ad338, e338, Au⟩ := Kd.at_int (Kd.R_reads' Aj.out).2.2 Ab Am An; cases e338; replace Am := eq_true Am; replace An := eq_true An
       go_wp2
       repeat (go_quiet (fail); try go_wp2)
       go_roundg k1
       case measure => have := HK1.out; omega
       case rel => exact ⟨(wrap64 (Ab + 1)), Z20, H', ⟨Z135⟩, ⟨Z144⟩, ⟨Z42⟩, ⟨Z21⟩⟩
     ·rw [if_neg c9] at H
      exact absurd H (by simp)
    ·rw [if_neg c8] at H
     exact absurd H (by simp)
   ·rw [if_neg c7] at H
    have c7b0 : decide (Ab < (Af.length : Int)) = false := decide_eq_false c7; clear c7
    by_cases Bd : Ag ≥ (wrap64 (20 * (wrap64 (Int.tdiv (wrap64 (a2 + 999)) 1000))))
    ·rw [if_pos Bd] at H
     have c15b0 : decide ((wrap64 (20 * (wrap64 (Int.tdiv (wrap64 (a2 + 999)) 1000)))) ≤ Ag) = true := decide_eq_true Bd; clear Bd; replace H := Option.bind_eq_some_iff.mp H; obtain ⟨Av, Bf, H⟩ := H; replace H : (some Av) = some r := H; have Co := Aside0.mk Bf; clear Bf; obtain rfl := Option.some.inj H; obtain ⟨Cz, C0, Cp⟩ := Kd.R_slice Aj.out; subst Cp; obtain ⟨Bw, Bx, Bz, B0⟩ := bz4 Aa; obtain ⟨B2, B6, Ca, Cb⟩ := fz4 Aa
     go_wp2_with (first | (go_at_call 44; (with_reducible refine (spec_l1In.calls Ah 60 95 Av _ Co.out).mono ?_); rintro e w' ⟨rfl, ⟨nd, rfl⟩⟩; (try first | exact ⟨rfl, _, World.drewN_drewN _ _ _⟩ | exact ⟨rfl, _, Eq.trans (World.drewN_drewN _ _ _) (congrArg (World.drewN _) (Nat.add_assoc _ _ _))⟩)))
     repeat (go_quiet (first | (go_at_call 44; (with_reducible refine (spec_l1In.calls Ah 60 95 Av _ Co.out).mono ?_); rintro e w' ⟨rfl, ⟨nd, rfl⟩⟩; (try first | exact ⟨rfl, _, World.drewN_drewN _ _ _⟩ | exact ⟨rfl, _, Eq.trans (World.drewN_drewN _ _ _) (congrArg (World.drewN _) (Nat.add_assoc _ _ _))⟩))); try go_wp2_with (first | (go_at_call 44; (with_reducible refine (spec_l1In.calls Ah 60 95 Av _ Co.out).mono ?_); rintro e w' ⟨rfl, ⟨nd, rfl⟩⟩; (try first | exact ⟨rfl, _, World.drewN_drewN _ _ _⟩ | exact ⟨rfl, _, Eq.trans (World.drewN_drewN _ _ _) (congrArg (World.drewN _) (Nat.add_assoc _ _ _))⟩))))
     go_ret
     exact ⟨Z6, Z21⟩
    ·rw [if_neg Bd] at H
     have c15b0 : decide ((wrap64 (20 * (wrap64 (Int.tdiv (wrap64 (a2 + 999)) 1000)))) ≤ Ag) = false := decide_eq_false Bd; clear Bd; obtain rfl := Option.some.inj H; obtain ⟨C1, C2, Cq⟩ := Kd.R_slice Aj.out; subst Cq; obtain ⟨Cc, Cd, Ce, Cf⟩ := bz4 Aa; obtain ⟨Cg, Ch, Ci, Cj⟩ := fz4 Aa
     go_wp2
     repeat (go_quiet (fail); try go_wp2)
     go_ret
     exact ⟨Z6, Z21⟩
mutual
def spec_DyeYarn.j0 : Nat → List (S43) → Bool → Int → Int → Int → List Int → Option (Int × Int × Int × List Int × Bool)
 | 0, _, _, _, _, _, _ => none
 | k + 1, x0, x20, x341000, x341001, x341002, x341003 => if x20 = true then (some (0, 0, 0, ([] : List Int), false)) else ((spec_l7Needs.f k x0 x341002).bind fun t345 => (spec_DyeYarn.l0 k t345 0 x341000 x341001 x341002 x341003 x341000 x341001 0 ([] : List Int)))
def spec_DyeYarn.l0 : Nat → List Int → Int → Int → Int → Int → List Int → Int → Int → Int → List Int → Option (Int × Int × Int × List Int × Bool)
 | 0, _, _, _, _, _, _, _, _, _, _ => none
 | k + 1, x7, x8, x341000, x341001, x341002, x341003, x345000, x345001, x345002, x345003 => if x8 < (x7.length : Int) then (if 0 ≤ x8 then (if x8 < (x341003.length : Int) then (if x345003.length < 17592186044416 then (spec_DyeYarn.l0 k x7 (wrap64 (x8 + 1)) x341000 x341001 x341002 x341003 x345000 x345001 x345002 (x345003 ++ [wrap64 ((rd x341003 x8) - (rd x7 x8))])) else (none)) else (none)) else (none)) else (some (x345000, x345001, x345002, x345003, true))
end
def spec_DyeYarn.f (k : Nat) (l0 : List (S43)) (a1_0 : Int) (a1_1 : Int) (a1_2 : Int) (l1_3 : List Int) : Option (Int × Int × Int × List Int × Bool) := (spec_l7Bath.f k l0 a1_0 a1_1 a1_2 l1_3).bind fun t342 => (if t342 = true then ((spec_l7Ready.f k l0 a1_0 a1_1 a1_2 l1_3 a1_2).bind fun t343 => (spec_DyeYarn.j0 k l0 (!t343) a1_0 a1_1 a1_2 l1_3)) else (spec_DyeYarn.j0 k l0 true a1_0 a1_1 a1_2 l1_3))
def spec_DyeYarn.T8 : Bool × List (List Nat × List Nat) := (true, [([], []), ([0], [0]), ([], []), ([2], [2]), ([], []), ([3, 4], [3, 4]), ([5], [5]), ([], []), ([], []), ([7, 8], [7, 8]), ([9], [9]), ([6, 10], [6, 10]), ([11], [11]), ([1, 12], [1, 12]), ([0, 1, 2, 3, 4, 5, 6, 7, 8, 9, 10, 11, 12, 13], []), ([14, 13, 13, 0, 1, 2, 3, 4, 5, 6, 7, 8, 9, 10, 11, 12, 13], [13, 14])])
def spec_DyeYarn.B8 : List Nat := [0, 1, 0, 4, 0, 28, 60, 0, 0, 384, 896, 2044, 4092, 8191, 16383, 32767]
theorem spec_DyeYarn.tab8 : rtab .any (opsOf Tryd.f7 8) = spec_DyeYarn.T8 := by kernel_rfl
theorem spec_DyeYarn.bits8 : waitsOk spec_DyeYarn.T8.2 spec_DyeYarn.B8 = true := by kernel_rfl
theorem spec_DyeYarn.calls (k : Nat) (A0 : Option Addr) (c0 : Nat) (l0 : List (S43)) (Ac : Int) (Ad : Int) (Ah : Int) (Bd : Option Addr) (Ba : Nat) (Af : List Int) (r1 : Int) (r2 : Int) (r3 : Int) (r4 : List Int) (r5 : Bool) (w : World) (Eo : Kd.C k43 w A0 l0.length l0) (Ep : l0.length ≤ c0) (De : Kd.C (Kd.int .i64) w Bd Af.length Af) (Df : Af.length ≤ Ba) (h : spec_DyeYarn.f k l0 Ac Ad Ah Af = some (r1, r2, r3, r4, r5)) :
  Calls Tryd.prog 7 #[.slice A0 l0.length c0, .agg #[.int .i64 Ac, .int .i64 Ad, .int .i64 Ah, .slice Bd Af.length Ba]] w fun e w' => ∃ v3_ : Value, e = .returned (.tuple #[.agg #[.int .i64 r1, .int .i64 r2, .int .i64 r3, v3_], .bool r5]) ∧ Kd.R (Kd.int .i64) 3 w' w.heap.size (fun _ => True) v3_ r4 ∧ Below w.heap.size w w' := by
 have hu27 := Tryd.underlying27; have Dy := Aside0.mk Eo; have Dz := Aside0.mk Ep; clear Eo Ep; have Bg := Aside0.mk De; have Cf := Aside0.mk Df; clear De Df; have HB := aM (Below.refl w.heap.size w); have H : ((spec_l7Bath.f k l0 Ac Ad Ah Af).bind fun Ch => (if Ch = true then ((spec_l7Ready.f k l0 Ac Ad Ah Af Ah).bind fun Bc => (spec_DyeYarn.j0 k l0 (!Bc) Ac Ad Ah Af)) else (spec_DyeYarn.j0 k l0 true Ac Ad Ah Af))) = some (r1, r2, r3, r4, r5) := h; clear h; have Ej := Aside0.mk H; clear H
 go_enter Tryd.func7, Tryd.ntmps7
 go_upto_region 1 with (first | ((with_reducible refine gate_dst (N := 3) rfl ?_); refine bxE 3 #[.int .i64 Ac, .int .i64 Ad, .int .i64 Ah, .slice Bd Af.length Ba] 27 ?_; intro Ay hg w4 hbox hb; have Aa := aM (hbox); have Er := gwS hg Z0; have Ai := gwS hg Z0; replace HB := hbS Z0 hb; clear hb hbox hg) | ((with_reducible refine gate_dst (N := 4) rfl ?_); refine bxE 4 #[.int .i64 0, .int .i64 0, .int .i64 0, .slice none 0 0] 27 ?_; intro Ar hg w5 hbox hb; have Ab := aM (hbox); have Es := gwS hg Z102; have An := gwS hg Z102; replace HB := hbS Z102 hb; have Ao := nbL hg Aa; have Ap := nbG hg Aa; replace Aa := bkB Aa hb; clear hb hbox hg))
 (try simp only [Act.put, List.setIfInBounds_toArray, List.set_cons_zero, List.set_cons_succ])
 go_cut [20] (fun Ff wc => ∃ (kq : Nat) (Bh : Bool), Ff = .bool Bh ∧ Aside0 (spec_DyeYarn.j0 kq l0 Bh Ac Ad Ah Af = some (r1, r2, r3, r4, r5)) ∧ Aside0 (kq ≤ k) ∧ Aside0 (wc.heap[Ay]? = some (.cells #[.int .i64 Ac, .int .i64 Ad, .int .i64 Ah, (.slice Bd Af.length Ba)] 27 (0, 0))) ∧ Aside0 (wc.heap[Ar]? = some (.cells #[.int .i64 0, .int .i64 0, .int .i64 0, (.slice none 0 0)] 27 (0, 0))) ∧ Aside0 (Below w.heap.size w wc))
 case first =>
  have H := Ej.out; clear Ej; replace H := Option.bind_eq_some_iff.mp H; obtain ⟨Ch, Et, H⟩ := H; replace H : (if Ch = true then ((spec_l7Ready.f k l0 Ac Ad Ah Af Ah).bind fun Bc => (spec_DyeYarn.j0 k l0 (!Bc) Ac Ad Ah Af)) else (spec_DyeYarn.j0 k l0 true Ac Ad Ah Af)) = some (r1, r2, r3, r4, r5) := H; have A6 := Aside0.mk Et; clear Et
  by_cases c7 : Ch = true
  ·subst c7
   have H1 : ((spec_l7Ready.f k l0 Ac Ad Ah Af Ah).bind fun Bc => (spec_DyeYarn.j0 k l0 (!Bc) Ac Ad Ah Af)) = some (r1, r2, r3, r4, r5) := by rw [if_pos rfl] at H; exact H
   clear H; have H := H1; clear H1; replace H := Option.bind_eq_some_iff.mp H; obtain ⟨Bc, Eu, H⟩ := H; replace H : (spec_DyeYarn.j0 k l0 (!Bc) Ac Ad Ah Af) = some (r1, r2, r3, r4, r5) := H; have A8 := Aside0.mk Eu; clear Eu; have H' := Aside0.mk H; clear H; have Fg := Ao.out; have Fh := Ap.out; obtain ⟨Bi, Bj, Bk, Bl⟩ := bz4 Aa; obtain ⟨Bm, Bn, Bo, Bp⟩ := fz4 Aa
   go_wp2_with (first | ((with_reducible refine gate_callee (f := 24) rfl ?_); refine glE (some 11) Tryd.func24 #[.slice A0 l0.length c0, .agg #[.int .i64 Ac, .int .i64 Ad, .int .i64 Ah, .slice Bd Af.length Ba]] ?_; (with_reducible refine (spec_l7Bath.calls k _ _ l0 Ac Ad Ah _ _ Af true _ ?side1 ?side2 ?side3 ?side4 A6.out).mono ?_); (case side1 => exact Z98); (case side2 => exact Dz.out); (case side3 => exact Z36); (case side4 => exact Cf.out); rintro e Fq ⟨rfl, hb⟩; refine ⟨_, rfl, ?_⟩; replace Aa := bkB Aa hb; replace Ab := bkB Ab hb; replace HB := hbS Z51 hb; (try clear hb); obtain ⟨Bq, Br, Bs, Bt⟩ := bz4 Aa; obtain ⟨Bu, Bv, Bw, Bx⟩ := fz4 Aa) | (go_at_call 25; (with_reducible refine (spec_l7Ready.calls k _ _ l0 Ac Ad Ah _ _ Af Ah Bc _ ?side1 ?side2 ?side3 ?side4 A8.out).mono ?_); (case side1 => exact Z98); (case side2 => exact Dz.out); (case side3 => exact Z36); (case side4 => exact Cf.out); rintro e Fr ⟨rfl, hb⟩; replace Aa := bkB Aa hb; replace Ab := bkB Ab hb; replace HB := hbS Z51 hb; (try clear hb)))
   go_meet
   case rel => exact ⟨_, (!Bc), Z20, H', ⟨Z100⟩, ⟨Z42⟩, ⟨Z53⟩, ⟨Z51⟩⟩
  ·replace c7 := Bool.eq_false_iff.mpr c7
   subst c7
   have H1 : (spec_DyeYarn.j0 k l0 true Ac Ad Ah Af) = some (r1, r2, r3, r4, r5) := by rw [if_neg (show ¬ (false = true) by decide)] at H; exact H
   clear H; have H := H1; clear H1; have H' := Aside0.mk H; clear H; have Ew := Ao.out; have Ex := Ap.out; obtain ⟨Bz, B0, B2, B6⟩ := bz4 Aa; obtain ⟨Ca, Cb, Cc, Cd⟩ := fz4 Aa
   go_wp2_with (first | ((with_reducible refine gate_callee (f := 24) rfl ?_); refine glE (some 11) Tryd.func24 #[.slice A0 l0.length c0, .agg #[.int .i64 Ac, .int .i64 Ad, .int .i64 Ah, .slice Bd Af.length Ba]] ?_; (with_reducible refine (spec_l7Bath.calls k _ _ l0 Ac Ad Ah _ _ Af false _ ?side1 ?side2 ?side3 ?side4 A6.out).mono ?_); (case side1 => exact Z98); (case side2 => exact Dz.out); (case side3 => exact Z36); (case side4 => exact Cf.out); rintro e Fs ⟨rfl, hb⟩; refine ⟨_, rfl, ?_⟩; replace Aa := bkB Aa hb; replace Ab := bkB Ab hb; replace HB := hbS Z51 hb; (try clear hb)))
   go_meet
   case rel => exact ⟨_, (true), Z20, H', ⟨Z100⟩, ⟨Z42⟩, ⟨Z53⟩, ⟨Z51⟩⟩
 case rest =>
  clear Ej; (try clear c1); (try clear c2); (try clear p2); (try clear c7); (try clear c9); (try clear Fi); (try clear Bi); (try clear Bj); (try clear Bk); (try clear Bl); (try clear Bq); (try clear Br); (try clear Bs); (try clear Bt); (try clear Bz); (try clear B0); (try clear B2); (try clear B6); (try clear Bm); (try clear Bn); (try clear Bo); (try clear Bp); (try clear Bu); (try clear Bv); (try clear Bw); (try clear Bx); (try clear Ca); (try clear Cb); (try clear Cc); (try clear Cd); obtain ⟨kq, Bh, rfl, HA, HJ2, Aa, Ab, HB⟩ := hcut; cases kq with
  | zero => exact absurd HA.out (by simp [spec_DyeYarn.j0])
  | succ Dn =>
   have H := HA.out; clear HA
   simp only [spec_DyeYarn.j0] at H
   by_cases Dq : Bh = true
   ·subst Dq
    have H1 : (some (0, 0, 0, ([] : List Int), false)) = some (r1, r2, r3, r4, r5) := by rw [if_pos rfl] at H; exact H
    clear H; have H := H1; clear H1
    simp only [Option.some.injEq, Prod.mk.injEq] at H
    obtain ⟨rfl, rfl, rfl, rfl, rfl⟩ := H; have Ey := Ap.out; have Ez := Ao.out; obtain ⟨Ci, Cj, Ck, Cl⟩ := bz4 Ab; obtain ⟨Cm, Cn, Co, Cp⟩ := fz4 Ab
    go_wp2
    refine bodyPost_ret (results_ct rfl _ _ Ar 27 #[.int .i64 0, .int .i64 0, .int .i64 0, .slice none 0 0] (0, 0) _ rfl Z18 Tryd.underlying27 rfl Z37) rfl ?_
    exact ⟨_, Z6, Z48, Z51⟩
   ·replace Dq := Bool.eq_false_iff.mpr Dq
    subst Dq
    have H1 : ((spec_l7Needs.f Dn l0 Ah).bind fun Aq => (spec_DyeYarn.l0 Dn Aq 0 Ac Ad Ah Af Ac Ad 0 ([] : List Int))) = some (r1, r2, r3, r4, r5) := by rw [if_neg (show ¬ (false = true) by decide)] at H; exact H
    clear H; have H := H1; clear H1; replace H := Option.bind_eq_some_iff.mp H; obtain ⟨Aq, Dr, H⟩ := H; replace H : (spec_DyeYarn.l0 Dn Aq 0 Ac Ad Ah Af Ac Ad 0 ([] : List Int)) = some (r1, r2, r3, r4, r5) := H; have Fj := Aside0.mk Dr; clear Dr; have H' := Aside0.mk H; clear H; have E0 := Ao.out; have E2 := Ap.out; obtain ⟨Cq, Cr, Cs, Ct⟩ := bz4 Aa; obtain ⟨Cu, Cv, Cw, Cx⟩ := fz4 Aa
    go_wp2_with (first | ((with_reducible refine gate_dst (N := 6) rfl ?_); refine bxE 6 #[.int .i64 0, .int .i64 0, .int .i64 0, .slice none 0 0] 27 ?_; intro Au hg Ft hbox hb; have Ae := aM (hbox); have E3 := gwS hg Z51; have Az := gwS hg Z51; replace HB := hbS Z51 hb; have Aj := nbL hg Aa; have Aw := nbG hg Aa; replace Aa := bkB Aa hb; have Ak := nbL hg Ab; have Ax := nbG hg Ab; replace Ab := bkB Ab hb; clear hb hbox hg; have E4 := Aw.out; have E5 := Aj.out; have E6 := Ax.out; have E7 := Ak.out; obtain ⟨Cy, Cz, C0, C1⟩ := bz4 Ae; obtain ⟨C2, C3, C4, C5⟩ := fz4 Ae; obtain ⟨C6, C7, C8, C9⟩ := bz4 Aa; obtain ⟨Da, Db, Dc, Dd⟩ := fz4 Aa) | ((with_reducible refine gate_callee (f := 26) rfl ?_); refine glE (some 30) Tryd.func26 #[.slice A0 l0.length c0, .int .i64 Ah] ?_; (with_reducible refine (spec_l7Needs.calls Dn _ _ l0 Ah Aq _ ?side1 ?side2 Fj.out).mono ?_); (case side1 => exact Kd.C_below Dy.out Z50); (case side2 => exact Dz.out); rintro e Fu ⟨Ds, rfl, E8, hb⟩; refine ⟨_, rfl, ?_⟩; have Dt := aM (Kd.R_lower E8 (below_size Z50)); replace Aa := aM (blk_below (g := Ay) (o := .cells #[.int .i64 Ac, .int .i64 Ad, .int .i64 Ah, .slice Bd Af.length Ba] 27 (0, 0)) (by (with_reducible repeat (first | refine blk_drewN ?_ _ | refine blk_drew ?_ | refine blk_alloc ?_ _)); refine blk_far ?_ Aj.out _; (with_reducible repeat (first | refine blk_drewN ?_ _ | refine blk_drew ?_ | refine blk_alloc ?_ _)); refine blk_far ?_ Aj.out _; (with_reducible repeat (first | refine blk_drewN ?_ _ | refine blk_drew ?_ | refine blk_alloc ?_ _)); refine blk_far ?_ Aj.out _; (with_reducible repeat (first | refine blk_drewN ?_ _ | refine blk_drew ?_ | refine blk_alloc ?_ _)); refine blk_far ?_ Aj.out _; (with_reducible repeat (first | refine blk_drewN ?_ _ | refine blk_drew ?_ | refine blk_alloc ?_ _)); exact Aa.out) hb); replace Ab := aM (blk_below (g := Ar) (o := .cells #[.int .i64 0, .int .i64 0, .int .i64 0, .slice none 0 0] 27 (0, 0)) (by (with_reducible repeat (first | refine blk_drewN ?_ _ | refine blk_drew ?_ | refine blk_alloc ?_ _)); refine blk_far ?_ Ak.out _; (with_reducible repeat (first | refine blk_drewN ?_ _ | refine blk_drew ?_ | refine blk_alloc ?_ _)); refine blk_far ?_ Ak.out _; (with_reducible repeat (first | refine blk_drewN ?_ _ | refine blk_drew ?_ | refine blk_alloc ?_ _)); refine blk_far ?_ Ak.out _; (with_reducible repeat (first | refine blk_drewN ?_ _ | refine blk_drew ?_ | refine blk_alloc ?_ _)); refine blk_far ?_ Ak.out _; (with_reducible repeat (first | refine blk_drewN ?_ _ | refine blk_drew ?_ | refine blk_alloc ?_ _)); exact Ab.out) hb); replace Ae := aM (blk_below (g := Au) (o := .cells #[.int .i64 Ac, .int .i64 Ad, .int .i64 0, .slice none 0 0] 27 (0, 0)) (by (with_reducible repeat (first | refine blk_drewN ?_ _ | refine blk_drew ?_ | refine blk_alloc ?_ _)); refine blk_put (cs := #[.int .i64 Ac, .int .i64 Ad, .int .i64 0, .slice none 0 0]) ?_ 3 _ rfl; (with_reducible repeat (first | refine blk_drewN ?_ _ | refine blk_drew ?_ | refine blk_alloc ?_ _)); refine blk_put (cs := #[.int .i64 Ac, .int .i64 Ad, .int .i64 0, .slice none 0 0]) ?_ 2 _ rfl; (with_reducible repeat (first | refine blk_drewN ?_ _ | refine blk_drew ?_ | refine blk_alloc ?_ _)); refine blk_put (cs := #[.int .i64 Ac, .int .i64 0, .int .i64 0, .slice none 0 0]) ?_ 1 _ rfl; (with_reducible repeat (first | refine blk_drewN ?_ _ | refine blk_drew ?_ | refine blk_alloc ?_ _)); refine blk_put (cs := #[.int .i64 0, .int .i64 0, .int .i64 0, .slice none 0 0]) ?_ 0 _ rfl; (with_reducible repeat (first | refine blk_drewN ?_ _ | refine blk_drew ?_ | refine blk_alloc ?_ _)); exact Ae.out) hb); replace HB := hbS Z50 hb; (try clear hb); (try clear E8)))
    go_loopg [8] Dn (fun kq v8 w' => ∃ (Am : Int) (Al : List Int) (u345003 : Value), v8 = .int .i64 Am ∧ Aside0 (spec_DyeYarn.l0 kq Aq Am Ac Ad Ah Af Ac Ad 0 Al = some (r1, r2, r3, r4, r5)) ∧ Aside0 (kq ≤ Dn) ∧ Aside0 (Kd.R (Kd.int .i64) 3 w' w.heap.size (fun k_ => nV k_ u345003) Ds Aq) ∧ Aside0 (Kd.R (Kd.int .i64) 3 w' w.heap.size (fun k_ => nV k_ Ds) u345003 Al) ∧ Aside0 (w'.heap[Ay]? = some (.cells #[.int .i64 Ac, .int .i64 Ad, .int .i64 Ah, (.slice Bd Af.length Ba)] 27 (0, 0))) ∧ Aside0 (w'.heap[Ar]? = some (.cells #[.int .i64 0, .int .i64 0, .int .i64 0, (.slice none 0 0)] 27 (0, 0))) ∧ Aside0 (w'.heap[Au]? = some (.cells #[.int .i64 Ac, .int .i64 Ad, .int .i64 0, u345003] 27 (0, 0))) ∧ Aside0 (Below w.heap.size w w'))
    case atStart => exact ⟨(0), (([] : List Int)), (.slice none 0 0), Z20, H', ⟨Nat.le_refl _⟩, ⟨by (with_reducible repeat (first | apply Kd.R_alloc | apply Kd.R_drewN | apply Kd.R_drew)); exact Kd.R_mono Dt.out (fun _ hk => (by simp [Value.ownBlock]))⟩, ⟨Z48⟩, ⟨Z42⟩, ⟨Z53⟩, ⟨Z25⟩, ⟨Z50⟩⟩
    case round =>
     clear H'; (try clear c1); (try clear c2); (try clear p2); (try clear c7); (try clear c9); (try clear Fi); (try clear Dq); (try clear Fv); (try clear Fw); (try clear Fx); (try clear Fy); (try clear Fz); (try clear Bi); (try clear Bj); (try clear Bk); (try clear Bl); (try clear Bq); (try clear Br); (try clear Bs); (try clear Bt); (try clear Bz); (try clear B0); (try clear B2); (try clear B6); (try clear Ci); (try clear Cj); (try clear Ck); (try clear Cl); (try clear Cq); (try clear Cr); (try clear Cs); (try clear Ct); (try clear Cy); (try clear Cz); (try clear C0); (try clear C1); (try clear C6); (try clear C7); (try clear C8); (try clear C9); (try clear Bm); (try clear Bn); (try clear Bo); (try clear Bp); (try clear Bu); (try clear Bv); (try clear Bw); (try clear Bx); (try clear Ca); (try clear Cb); (try clear Cc); (try clear Cd); (try clear Cm); (try clear Cn); (try clear Co); (try clear Cp); (try clear Cu); (try clear Cv); (try clear Cw); (try clear Cx); (try clear C2); (try clear C3); (try clear C4); (try clear C5); (try clear Da); (try clear Db); (try clear Dc); (try clear Dd); (try clear p2); obtain ⟨Am, Al, u345003, rfl, HA, HK2, Bb, Ag, Aa, Ab, Ae, HB⟩ := hrel; cases gk with
     | zero => exact absurd HA.out (by simp [spec_DyeYarn.l0])
     | succ k2 =>
      have H := HA.out; clear HA
      simp only [spec_DyeYarn.l0] at H
      by_cases Dp : Am < (Aq.length : Int)
      ·rw [if_pos Dp] at H
       have c29b0 : decide (Am < (Aq.length : Int)) = true := decide_eq_true Dp; clear Dp
       by_cases D0 : 0 ≤ Am
       ·rw [if_pos D0] at H
        have c30b0 : decide (0 ≤ Am) = true := decide_eq_true D0; clear D0
        by_cases D1 : Am < (Af.length : Int)
        ·rw [if_pos D1] at H
         have c31b0 : decide (Am < (Af.length : Int)) = true := decide_eq_true D1; clear D1
         by_cases D2 : Al.length < 17592186044416
         ·rw [if_pos D2] at H
          have LMc32 := Aside0.mk D2; clear D2; obtain ⟨Cg, Bf⟩ : ∃ y_ : List Int, y_ = (Al ++ [wrap64 ((rd Af Am) - (rd Aq Am))]) := ⟨_, rfl⟩
          replace H : (spec_DyeYarn.l0 k2 Aq (wrap64 (Am + 1)) Ac Ad Ah Af Ac Ad 0 Cg) = some (r1, r2, r3, r4, r5) := by first | (rw [Bf]; with_reducible exact H) | (have H2_ := (Option.bind_some _ _).symm.trans H; rw [Bf]; with_reducible exact H2_) | (have H2_ := (Option.bind_some _ _).symm.trans H; with_reducible exact H2_) | with_reducible exact H | (rw [Bf]; exact H) | exact H
          have Du := Aside0.mk Bf; clear Bf; have H' := Aside0.mk H; clear H; obtain ⟨Fk, Ek, El⟩ := Kd.R_slice Bb.out; subst El
          try go_wp2
          replace Bb := aM (Kd.R_drew Bb.out); replace Ag := aM (Kd.R_drew Ag.out); replace Aa := aM (blk_drew Aa.out); replace Ab := aM (blk_drew Ab.out); replace Ae := aM (blk_drew Ae.out); replace HB := aM (below_drew1 HB.out); have Dh : 0 ≤ (Am : Int) := of_decide_eq_true Z8; have Di : Am < (Af.length : Int) := of_decide_eq_true Z8; obtain ⟨ad348, e348, Av⟩ := Kd.at_int Bg.out Am Dh Di; have hw348_0 := Av; cases e348; replace Av := (HB.out.cell (World.block_lt_of_cell? w _ Av)).trans Av; replace Dh := eq_true Dh; replace Di := eq_true Di; have Dj : 0 ≤ (Am : Int) := of_decide_eq_true Z8; have Dk : Am < (Aq.length : Int) := of_decide_eq_true Z8; obtain ⟨ad349, e349, Ce⟩ := Kd.at_int (Kd.R_reads' Bb.out).2.2 Am Dj Dk; cases e349; replace Dj := eq_true Dj; replace Dk := eq_true Dk; refine start_ (n := 16) (S := fun w' => w'.cell? ⟨Au, 0, none⟩ = some (.int .i64 Ac) ∧ w'.cell? ⟨Au, 1, none⟩ = some (.int .i64 Ad) ∧ w'.cell? ⟨Au, 2, none⟩ = some (.int .i64 0) ∧ w'.cell? ⟨Au, 3, none⟩ = some (u345003) ∧ w'.cell? ⟨Ay, 0, none⟩ = some (.int .i64 Ac) ∧ w'.cell? ⟨Ay, 1, none⟩ = some (.int .i64 Ad) ∧ w'.cell? ⟨Ay, 2, none⟩ = some (.int .i64 Ah) ∧ w'.cell? ⟨Ay, 3, none⟩ = some (.slice (some ad348) Af.length Ba) ∧ w'.cell? (ad348.add (Am).toNat) = some (.int .i64 (rd Af Am)) ∧ w'.cell? (ad349.add (Am).toNat) = some (.int .i64 (rd Aq Am))) (ds := [13, 15]) #[false, false, false, false, false, false, false, false, false, false, false, false, false, false, false, false] Z37 rfl rfl ⟨(blk_cell Ae.out 0).trans rfl, (blk_cell Ae.out 1).trans rfl, (blk_cell Ae.out 2).trans rfl, (blk_cell Ae.out 3).trans rfl, (blk_cell Aa.out 0).trans rfl, (blk_cell Aa.out 1).trans rfl, (blk_cell Aa.out 2).trans rfl, (blk_cell Aa.out 3).trans rfl, ((HB.out.cell (World.block_lt_of_cell? w _ hw348_0)).trans hw348_0), Ce⟩ (fun hHeld => ?_); refine with_tabW spec_DyeYarn.tab8 spec_DyeYarn.bits8 (fun HT_ HW_ => ?_)
          generalize wr.drew = F0 at Bb Ag Aa Ab Ae HB Av Ce hHeld ⊢
          refine puR 0 37 #[true, false, false, false, false, false, false, false, false, false, false, false, false, false, false, false] HT_ rfl rfl ?_; refine puR 2 39 #[true, false, true, false, false, false, false, false, false, false, false, false, false, false, false, false] HT_ rfl rfl ?_; refine puR 4 41 #[true, false, true, false, true, false, false, false, false, false, false, false, false, false, false, false] HT_ rfl rfl ?_; refine puR 7 44 #[true, false, true, false, true, false, false, true, false, false, false, false, false, false, false, false] HT_ rfl rfl ?_; refine puR 8 45 #[true, false, true, false, true, false, false, true, true, false, false, false, false, false, false, false] HT_ rfl rfl ?_; refine puR 9 46 #[true, false, true, false, true, false, false, true, true, true, false, false, false, false, false, false] HT_ rfl rfl ?_; refine taR 1 38 #[true, true, true, false, true, false, false, true, true, true, false, false, false, false, false, false] HT_ HW_ hHeld rfl rfl ?_; refine taR 3 40 #[true, true, true, true, true, false, false, true, true, true, false, false, false, false, false, false] HT_ HW_ hHeld rfl rfl ?_; refine puR 5 42 #[true, true, true, true, true, true, false, true, true, true, false, false, false, false, false, false] HT_ rfl rfl ?_; refine taR 6 43 #[true, true, true, true, true, true, true, true, true, true, false, false, false, false, false, false] HT_ HW_ hHeld rfl rfl ?_; refine taR 10 47 #[true, true, true, true, true, true, true, true, true, true, true, false, false, false, false, false] HT_ HW_ hHeld rfl rfl ?_; refine puR 11 48 #[true, true, true, true, true, true, true, true, true, true, true, true, false, false, false, false] HT_ rfl rfl ?_; refine one_ (i := 12) (N := some 49) #[true, true, true, true, true, true, true, true, true, true, true, true, true, false, false, false] rfl rfl (one_of HT_.out Z37) (by decide) (fun K hK => ?_); refine value_ (w1 := ?_) (v := ?_) (by rfl) rfl ?_ ?_
          rotate_left 2
          ·go_simp
           constructor
           ·rfl
           ·rfl
          refine hK.out _ _ (by exact ⟨(blk_cell (blk_alloc Ae.out _) 0).trans rfl, (blk_cell (blk_alloc Ae.out _) 1).trans rfl, (blk_cell (blk_alloc Ae.out _) 2).trans rfl, (blk_cell (blk_alloc Ae.out _) 3).trans rfl, (blk_cell (blk_alloc Aa.out _) 0).trans rfl, (blk_cell (blk_alloc Aa.out _) 1).trans rfl, (blk_cell (blk_alloc Aa.out _) 2).trans rfl, (blk_cell (blk_alloc Aa.out _) 3).trans rfl, (World.cell?_alloc_lt _ _ _ (World.block_lt_of_cell? _ _ (((HB.out.cell (World.block_lt_of_cell? w _ hw348_0)).trans hw348_0)))).trans (((HB.out.cell (World.block_lt_of_cell? w _ hw348_0)).trans hw348_0)), (World.cell?_alloc_lt _ _ _ (World.block_lt_of_cell? _ _ (hHeld.2.2.2.2.2.2.2.2.2))).trans (hHeld.2.2.2.2.2.2.2.2.2)⟩) (fun hHeld => ?_); clear hK K; refine noR 49 ?_; refine last_ (i := 13) (N := some 50) #[true, true, true, true, true, true, true, true, true, true, true, true, true, true, false, false] rfl rfl (one_of HT_.out Z37) (by decide) (fun K hK => ?_); refine Kd.R_append_step (Kd.int .i64) (w0 := w) w.heap.size (by rfl) (.tmp 38) (.tmp 49) 25 3 (.int .i64 0) 8 rfl Tryd.underlying25 info3 rfl (by decide) (by omega) u345003 Al (wrap64 ((rd Af Am) - (rd Aq Am))) [.int .i64 (wrap64 ((rd Af Am) - (rd Aq Am)))] (fun k_ => some k_ ≠ (.slice (some ad349) Aq.length Ek : Value).ownBlock) (fun _ => False) rfl rfl ?aP (fun _ hk => hk.elim) ?aF ?aO ?aB ?aS ?aL ?_; (case aP => exact rfl); (case aB => exact Z50); (case aF => exact (fun k_ hk => Kd.fresh' (Kd.R_lt (by (with_reducible repeat (first | apply Kd.R_alloc | apply Kd.R_drewN | apply Kd.R_drew)); exact Bb.out)) k_ hk)); (case aO => exact Z143); (case aS => exact (below_size Z50)); (case aL => have := LMc32.out; omega); intro Fl Fm ho hb hg hat; rw [← Du.out] at ho; replace Bb := aM (Kd.R_after (ok := (fun _ => True)) (by (with_reducible repeat (first | apply Kd.R_alloc | apply Kd.R_drewN | apply Kd.R_drew)); exact Kd.R_mono Bb.out (fun _ hk => ⟨trivial, hk⟩)) hg hat); replace Aa := aM (blk_grown (g := Ay) (o := .cells #[.int .i64 Ac, .int .i64 Ad, .int .i64 Ah, .slice (some ad348) Af.length Ba] 27 (0, 0)) Z42 hg (Kd.R_ne Ag.out Aa.out (by decide))); replace Ab := aM (blk_grown (g := Ar) (o := .cells #[.int .i64 0, .int .i64 0, .int .i64 0, .slice none 0 0] 27 (0, 0)) Z53 hg (Kd.R_ne Ag.out Ab.out (by decide))); replace Ae := aM (blk_grown (g := Au) (o := .cells #[.int .i64 Ac, .int .i64 Ad, .int .i64 0, u345003] 27 (0, 0)) Z25 hg (Kd.R_ne Ag.out Ae.out (by decide))); replace HB := aM (hb); have Dg := aM (ho); clear Ag; clear ho hb hg hat; obtain ⟨Dl, Dm, Dv⟩ := Kd.R_slice Dg.out
          (first | subst Dv | (injection Dv with f1_ f2_ f3_; have f4_ := f1_.symm; have f5_ := f3_.symm; clear f1_ f2_ f3_; subst f4_; subst f5_))
          refine hK.out _ _ ?_; clear hK K; refine noR 50 ?_; refine puR 14 51 #[true, true, true, true, true, true, true, true, true, true, true, true, true, true, true, false] HT_ rfl rfl ?_; refine last_ (i := 15) (N := none) #[true, true, true, true, true, true, true, true, true, true, true, true, true, true, true, true] rfl rfl (one_of HT_.out Z37) (by decide) (fun K hK => ?_); have hs37 : Fm.cell? ⟨Au, 3, none⟩ = some (u345003) := (blk_cell Ae.out 3).trans rfl; have hfs37 := blk_frozen Ae.out 3; have hns37_0 := Aj.out; have hns37_1 := Ak.out; have hms37_0 := Aw.out; have hms37_1 := Ax.out; refine skip_ (w1 := ?_) (by rfl) rfl ?_ ?_
          rotate_left
          ·go_simp
           rfl
          refine hK.out _ _ ?_; clear hK K; refine done_ (done_of HT_.out Z37) ?_
          try go_wp2
          go_roundg k2
          case measure => have := HJ2.out; have := HK2.out; omega
          case rel => exact ⟨(wrap64 (Am + 1)), (Cg), (.slice Dl Cg.length Dm), Z20, H', ⟨Z147⟩, ⟨by (with_reducible repeat (first | apply Kd.R_alloc | apply Kd.R_drewN | apply Kd.R_drew)); exact Kd.R_mono (Kd.R_far (p := ⟨Au, 3, none⟩) (Kd.R_types Bb.out Ae.out (by decide)) (fun _ hk => hk.2) (.slice Dl Cg.length Dm)) (fun _ hk => hk.1.2)⟩, ⟨by (with_reducible repeat (first | apply Kd.R_alloc | apply Kd.R_drewN | apply Kd.R_drew)); exact Kd.R_mono (Kd.R_far (p := ⟨Au, 3, none⟩) (Kd.R_types Dg.out Ae.out (by decide)) (fun _ hk => hk.2) (.slice Dl Cg.length Dm)) (fun _ hk => hk.1)⟩, ⟨by (with_reducible repeat (first | refine blk_drewN ?_ _ | refine blk_drew ?_ | refine blk_alloc ?_ _)); refine blk_far ?_ Aj.out _; (with_reducible repeat (first | refine blk_drewN ?_ _ | refine blk_drew ?_ | refine blk_alloc ?_ _)); exact Aa.out⟩, ⟨by (with_reducible repeat (first | refine blk_drewN ?_ _ | refine blk_drew ?_ | refine blk_alloc ?_ _)); refine blk_far ?_ Ak.out _; (with_reducible repeat (first | refine blk_drewN ?_ _ | refine blk_drew ?_ | refine blk_alloc ?_ _)); exact Ab.out⟩, ⟨by (with_reducible repeat (first | refine blk_drewN ?_ _ | refine blk_drew ?_ | refine blk_alloc ?_ _)); refine blk_put (cs := #[.int .i64 Ac, .int .i64 Ad, .int .i64 0, u345003]) ?_ 3 _ rfl; (with_reducible repeat (first | refine blk_drewN ?_ _ | refine blk_drew ?_ | refine blk_alloc ?_ _)); exact Ae.out⟩, ⟨Z50⟩⟩
         ·rw [if_neg D2] at H
          exact absurd H (by simp)
        ·rw [if_neg D1] at H
         exact absurd H (by simp)
       ·rw [if_neg D0] at H
        exact absurd H (by simp)
      ·rw [if_neg Dp] at H
       have c29b0 : decide (Am < (Aq.length : Int)) = false := decide_eq_false Dp; clear Dp
       simp only [Option.some.injEq, Prod.mk.injEq] at H
       obtain ⟨rfl, rfl, rfl, rfl, rfl⟩ := H; obtain ⟨Fo, Fp, Em⟩ := Kd.R_slice Bb.out; subst Em; have E9 := Aw.out; have Fa := Aj.out; have Fb := Ax.out; have Fc := Ak.out; obtain ⟨D3, D4, D5, D6⟩ := bz4 Ae; obtain ⟨D7, D8, D9, Ea⟩ := fz4 Ae; have Fd := Ap.out; have Fe := Ao.out; obtain ⟨Eb, Ec, Ed, Ee⟩ := bz4 Ab; obtain ⟨Ef, Eg, Eh, Ei⟩ := fz4 Ab; obtain ⟨Dw, Dx, En⟩ := Kd.R_slice Ag.out; subst En
       go_wp2
       refine bodyPost_ret (results_ct rfl _ _ Ar 27 #[.int .i64 Ac, .int .i64 Ad, .int .i64 0, .slice Dw Al.length Dx] (0, 0) _ rfl (by (with_reducible repeat (first | refine blk_drewN ?_ _ | refine blk_drew ?_ | refine blk_alloc ?_ _)); refine blk_put (cs := #[.int .i64 Ac, .int .i64 Ad, .int .i64 0, .slice none 0 0]) ?_ 3 _ rfl; (with_reducible repeat (first | refine blk_drewN ?_ _ | refine blk_drew ?_ | refine blk_alloc ?_ _)); refine blk_put (cs := #[.int .i64 Ac, .int .i64 Ad, .int .i64 0, .slice none 0 0]) ?_ 2 _ rfl; (with_reducible repeat (first | refine blk_drewN ?_ _ | refine blk_drew ?_ | refine blk_alloc ?_ _)); refine blk_put (cs := #[.int .i64 Ac, .int .i64 0, .int .i64 0, .slice none 0 0]) ?_ 1 _ rfl; (with_reducible repeat (first | refine blk_drewN ?_ _ | refine blk_drew ?_ | refine blk_alloc ?_ _)); refine blk_put (cs := #[.int .i64 0, .int .i64 0, .int .i64 0, .slice none 0 0]) ?_ 0 _ rfl; (with_reducible repeat (first | refine blk_drewN ?_ _ | refine blk_drew ?_ | refine blk_alloc ?_ _)); exact Ab.out) Tryd.underlying27 rfl Z37) rfl ?_
       exact ⟨_, Z6, by (with_reducible repeat (first | apply Kd.R_alloc | apply Kd.R_drewN | apply Kd.R_drew)); exact Kd.R_mono (Kd.R_far (p := ⟨Ar, 3, none⟩) (Kd.R_far (p := ⟨Ar, 2, none⟩) (Kd.R_far (p := ⟨Ar, 1, none⟩) (Kd.R_far (p := ⟨Ar, 0, none⟩) (Kd.R_types Ag.out Ab.out (by decide)) (fun _ hk => hk.2) (.int .i64 Ac)) (fun _ hk => hk.2) (.int .i64 Ad)) (fun _ hk => hk.2) (.int .i64 0)) (fun _ hk => hk.2) (.slice Dw Al.length Dx)) (fun _ hk => trivial), Z50⟩
def laws_rInts.l0 : Nat → List Int → List Int → Int → Option (Bool)
 | 0, _, _, _ => none
 | k + 1, x0, x1, x5 => if x5 < (x0.length : Int) then (if 0 ≤ x5 then (if x5 < (x1.length : Int) then (if (rd x0 x5) = (rd x1 x5) then (laws_rInts.l0 k x0 x1 (wrap64 (x5 + 1))) else (some false)) else (none)) else (none)) else (some true)
def laws_rInts.f (k : Nat) (l0 : List Int) (l1 : List Int) : Option (Bool) := if (l0.length : Int) = (l1.length : Int) then (laws_rInts.l0 k l0 l1 0) else (some false)
theorem laws_rInts.calls (k : Nat) (A0 : Option Addr) (c0 : Nat) (l0 : List Int) (A1 : Option Addr) (c1 : Nat) (l1 : List Int) (r : Bool) (w : World) (Ah : Kd.C (Kd.int .i64) w A0 l0.length l0) (Ai : l0.length ≤ c0) (Aj : Kd.C (Kd.int .i64) w A1 l1.length l1) (Ak : l1.length ≤ c1) (h : laws_rInts.f k l0 l1 = some r) :
  Calls Tryd.prog 16 #[.slice A0 l0.length c0, .slice A1 l1.length c1] w fun e w' => e = .returned (.bool r) ∧ Drawn0 w w' := by
 have Al := Aside0.mk Ah; have An := Aside0.mk Ai; clear Ah Ai; have Am := Aside0.mk Aj; have Ao := Aside0.mk Ak; clear Aj Ak; have H : (if (l0.length : Int) = (l1.length : Int) then (laws_rInts.l0 k l0 l1 0) else (some false)) = some r := h; clear h
 by_cases c3 : (l0.length : Int) = (l1.length : Int)
 ·rw [if_pos c3] at H
  have c3b0 : ((l0.length : Int) == (l1.length : Int)) = true := beq_iff_eq.mpr c3; have c3b1 : ((l0.length : Int) != (l1.length : Int)) = false := bne_eq_false_iff_eq.mpr c3
  have c3b2 : (l0.length == l1.length) = true := by first | simpa using c3 | (simp at c3 ⊢; omega)
  clear c3; have H' := Aside0.mk H; clear H
  go_enter Tryd.func16, Tryd.ntmps16
  go_wp2
  repeat (go_quiet (fail); try go_wp2)
  go_loopg [5] k (fun kq v5 w' => ∃ (Aa : Int), v5 = .int .i64 Aa ∧ Aside0 (laws_rInts.l0 kq l0 l1 Aa = some r) ∧ Aside0 (kq ≤ k) ∧ Drawn0 w w')
  case atStart => exact ⟨(0), Z20, H', ⟨Nat.le_refl _⟩, Z75⟩
  case round =>
   clear H'; (try clear c1); (try clear p2); (try clear c3); (try clear c3b0); (try clear c3b1); (try clear c3b2); obtain ⟨Aa, rfl, HA, HK1, ⟨m1, rfl⟩⟩ := hrel; cases gk with
   | zero => exact absurd HA.out (by simp [laws_rInts.l0])
   | succ k1 =>
    have H := HA.out; clear HA
    simp only [laws_rInts.l0] at H
    by_cases c4 : Aa < (l0.length : Int)
    ·rw [if_pos c4] at H
     have c4b0 : decide (Aa < (l0.length : Int)) = true := decide_eq_true c4; clear c4
     by_cases c5 : 0 ≤ Aa
     ·rw [if_pos c5] at H
      have c5b0 : decide (0 ≤ Aa) = true := decide_eq_true c5; clear c5
      by_cases c6 : Aa < (l1.length : Int)
      ·rw [if_pos c6] at H
       have c6b0 : decide (Aa < (l1.length : Int)) = true := decide_eq_true c6; clear c6
       by_cases c7 : (rd l0 Aa) = (rd l1 Aa)
       ·rw [if_pos c7] at H
        have c7b0 : ((rd l0 Aa) == (rd l1 Aa)) = true := beq_iff_eq.mpr c7; have c7b1 : ((rd l0 Aa) != (rd l1 Aa)) = false := bne_eq_false_iff_eq.mpr c7; clear c7; have H' := Aside0.mk H; clear H; have Ab : 0 ≤ (Aa : Int) := of_decide_eq_true Z8; have Ac : Aa < (l0.length : Int) := of_decide_eq_true Z8; obtain ⟨ad353, e353, Af⟩ := Kd.at_int Al.out Aa Ab Ac; cases e353; replace Ab := eq_true Ab; replace Ac := eq_true Ac; have Ad : 0 ≤ (Aa : Int) := of_decide_eq_true Z8; have Ae : Aa < (l1.length : Int) := of_decide_eq_true Z8; obtain ⟨ad354, e354, Ag⟩ := Kd.at_int Am.out Aa Ad Ae; cases e354; replace Ad := eq_true Ad; replace Ae := eq_true Ae
        go_wp2
        repeat (go_quiet (fail); try go_wp2)
        go_roundg k1
        case measure => have := HK1.out; omega
        case rel => exact ⟨(wrap64 (Aa + 1)), Z20, H', ⟨Z135⟩, Z75⟩
       ·rw [if_neg c7] at H
        have c7b0 : ((rd l0 Aa) == (rd l1 Aa)) = false := beq_eq_false_iff_ne.mpr c7; have c7b1 : ((rd l0 Aa) != (rd l1 Aa)) = true := bne_iff_ne.mpr c7; obtain rfl := Option.some.inj H; have Ab : 0 ≤ (Aa : Int) := of_decide_eq_true Z8; have Ac : Aa < (l0.length : Int) := of_decide_eq_true Z8; obtain ⟨ad353, e353, Af⟩ := Kd.at_int Al.out Aa Ab Ac; cases e353; replace Ab := eq_true Ab; replace Ac := eq_true Ac; have Ad : 0 ≤ (Aa : Int) := of_decide_eq_true Z8; have Ae : Aa < (l1.length : Int) := of_decide_eq_true Z8; obtain ⟨ad354, e354, Ag⟩ := Kd.at_int Am.out Aa Ad Ae; cases e354; replace Ad := eq_true Ad; replace Ae := eq_true Ae
        go_wp2
        repeat (go_quiet (fail); try go_wp2)
        go_ret
        exact ⟨Z20, Z75⟩
      ·rw [if_neg c6] at H
       exact absurd H (by simp)
     ·rw [if_neg c5] at H
      exact absurd H (by simp)
    ·rw [if_neg c4] at H
     have c4b0 : decide (Aa < (l0.length : Int)) = false := decide_eq_false c4; clear c4; obtain rfl := Option.some.inj H
     go_wp2
     repeat (go_quiet (fail); try go_wp2)
     go_ret
     exact ⟨Z20, Z75⟩
 ·rw [if_neg c3] at H
  have c3b0 : ((l0.length : Int) == (l1.length : Int)) = false := beq_eq_false_iff_ne.mpr c3; have c3b1 : ((l0.length : Int) != (l1.length : Int)) = true := bne_iff_ne.mpr c3
  have c3b2 : (l0.length == l1.length) = false := by first | simpa using c3 | (simp at c3 ⊢; omega)
  obtain rfl := Option.some.inj H
  go_enter Tryd.func16, Tryd.ntmps16
  go_wp2
  repeat (go_quiet (fail); try go_wp2)
  go_ret
  exact ⟨Z20, Z75⟩
def laws_rBath.f (k : Nat) (a0_0 : Int) (a0_1 : Int) (a0_2 : Int) (l0_3 : List Int) (a1_0 : Int) (a1_1 : Int) (a1_2 : Int) (l1_3 : List Int) : Option (Bool) := if a0_0 = a1_0 then (if a0_1 = a1_1 then (if a0_2 = a1_2 then ((laws_rInts.f k l0_3 l1_3).bind fun t357 => (some t357)) else (some false)) else (some false)) else (some false)
theorem laws_rBath.calls (k : Nat) (Af : Int) (Ag : Int) (Ah : Int) (Ao : Option Addr) (Ap : Nat) (Al : List Int) (Ai : Int) (Aj : Int) (Ak : Int) (Aq : Option Addr) (Ar : Nat) (Am : List Int) (r : Bool) (w : World) (Az : Kd.C (Kd.int .i64) w Ao Al.length Al) (Ba : Al.length ≤ Ap) (Bb : Kd.C (Kd.int .i64) w Aq Am.length Am) (Bc : Am.length ≤ Ar) (h : laws_rBath.f k Af Ag Ah Al Ai Aj Ak Am = some r) :
  Calls Tryd.prog 8 #[.agg #[.int .i64 Af, .int .i64 Ag, .int .i64 Ah, .slice Ao Al.length Ap], .agg #[.int .i64 Ai, .int .i64 Aj, .int .i64 Ak, .slice Aq Am.length Ar]] w fun e w' => e = .returned (.bool r) ∧ Below w.heap.size w w' := by
 have hu27 := Tryd.underlying27; have Bd := Aside0.mk Az; have Bf := Aside0.mk Ba; clear Az Ba; have Bg := Aside0.mk Bb; have Bh := Aside0.mk Bc; clear Bb Bc; have HB := aM (Below.refl w.heap.size w); have H : (if Af = Ai then (if Ag = Aj then (if Ah = Ak then ((laws_rInts.f k Al Am).bind fun Ay => (some Ay)) else (some false)) else (some false)) else (some false)) = some r := h; clear h
 by_cases c3 : Af = Ai
 ·rw [if_pos c3] at H
  have c3b0 : (Af == Ai) = true := beq_iff_eq.mpr c3; have c3b1 : (Af != Ai) = false := bne_eq_false_iff_eq.mpr c3; clear c3
  by_cases c4 : Ag = Aj
  ·rw [if_pos c4] at H
   have c4b0 : (Ag == Aj) = true := beq_iff_eq.mpr c4; have c4b1 : (Ag != Aj) = false := bne_eq_false_iff_eq.mpr c4; clear c4
   by_cases c5 : Ah = Ak
   ·rw [if_pos c5] at H
    have c5b0 : (Ah == Ak) = true := beq_iff_eq.mpr c5; have c5b1 : (Ah != Ak) = false := bne_eq_false_iff_eq.mpr c5; clear c5; replace H := Option.bind_eq_some_iff.mp H; obtain ⟨Ay, Di, H⟩ := H; replace H : (some Ay) = some r := H; have A6 := Aside0.mk Di; clear Di; obtain rfl := Option.some.inj H
    go_enter Tryd.func8, Tryd.ntmps8
    go_wp2_with (first | ((with_reducible refine gate_dst (N := 2) rfl ?_); refine bxE 2 #[.int .i64 Af, .int .i64 Ag, .int .i64 Ah, .slice Ao Al.length Ap] 27 ?_; intro Au hg w7 hbox hb; have Aa := aM (hbox); have Av := gwS hg Z0; have Ab := gwS hg Z0; replace HB := hbS Z0 hb; clear hb hbox hg) | ((with_reducible refine gate_dst (N := 3) rfl ?_); refine bxE 3 #[.int .i64 Ai, .int .i64 Aj, .int .i64 Ak, .slice Aq Am.length Ar] 27 ?_; intro Aw hg w8 hbox hb; have Ae := aM (hbox); have Ax := gwS hg Z43; have An := gwS hg Z43; replace HB := hbS Z43 hb; have Ac := nbL hg Aa; have Ad := nbG hg Aa; replace Aa := bkB Aa hb; clear hb hbox hg; have Dq := Ac.out; have Dr := Ad.out; obtain ⟨Bi, Bj, Bk, Bl⟩ := bz4 Aa; obtain ⟨Bm, Bn, Bo, Bp⟩ := fz4 Aa; obtain ⟨Bq, Br, Bs, Bt⟩ := bz4 Ae; obtain ⟨Bu, Bv, Bw, Bx⟩ := fz4 Ae) | (go_at_call 16; (with_reducible refine (laws_rInts.calls k _ _ Al _ _ Am Ay _ ?side1 ?side2 ?side3 ?side4 A6.out).mono ?_); (case side1 => exact Z117); (case side2 => exact Bf.out); (case side3 => exact Z36); (case side4 => exact Bh.out); rintro e w' ⟨rfl, ⟨nd, rfl⟩⟩))
    go_ret
    exact ⟨Z6, Z84⟩
   ·rw [if_neg c5] at H
    have c5b0 : (Ah == Ak) = false := beq_eq_false_iff_ne.mpr c5; have c5b1 : (Ah != Ak) = true := bne_iff_ne.mpr c5; obtain rfl := Option.some.inj H
    go_enter Tryd.func8, Tryd.ntmps8
    go_wp2_with (first | ((with_reducible refine gate_dst (N := 2) rfl ?_); refine bxE 2 #[.int .i64 Af, .int .i64 Ag, .int .i64 Ah, .slice Ao Al.length Ap] 27 ?_; intro Au hg Ds hbox hb; have Aa := aM (hbox); have Av := gwS hg Z0; have Ab := gwS hg Z0; replace HB := hbS Z0 hb; clear hb hbox hg) | ((with_reducible refine gate_dst (N := 3) rfl ?_); refine bxE 3 #[.int .i64 Ai, .int .i64 Aj, .int .i64 Ak, .slice Aq Am.length Ar] 27 ?_; intro Aw hg Dt hbox hb; have Ae := aM (hbox); have Ax := gwS hg Z43; have An := gwS hg Z43; replace HB := hbS Z43 hb; have Ac := nbL hg Aa; have Ad := nbG hg Aa; replace Aa := bkB Aa hb; clear hb hbox hg; have Dj := Ac.out; have Dk := Ad.out; obtain ⟨Bz, B0, B2, B6⟩ := bz4 Aa; obtain ⟨Ca, Cb, Cc, Cd⟩ := fz4 Aa; obtain ⟨Ce, Cf, Cg, Ch⟩ := bz4 Ae; obtain ⟨Ci, Cj, Ck, Cl⟩ := fz4 Ae))
    go_ret
    exact ⟨Z6, Z84⟩
  ·rw [if_neg c4] at H
   have c4b0 : (Ag == Aj) = false := beq_eq_false_iff_ne.mpr c4; have c4b1 : (Ag != Aj) = true := bne_iff_ne.mpr c4; obtain rfl := Option.some.inj H
   go_enter Tryd.func8, Tryd.ntmps8
   go_wp2_with (first | ((with_reducible refine gate_dst (N := 2) rfl ?_); refine bxE 2 #[.int .i64 Af, .int .i64 Ag, .int .i64 Ah, .slice Ao Al.length Ap] 27 ?_; intro Au hg Du hbox hb; have Aa := aM (hbox); have Av := gwS hg Z0; have Ab := gwS hg Z0; replace HB := hbS Z0 hb; clear hb hbox hg) | ((with_reducible refine gate_dst (N := 3) rfl ?_); refine bxE 3 #[.int .i64 Ai, .int .i64 Aj, .int .i64 Ak, .slice Aq Am.length Ar] 27 ?_; intro Aw hg Dv hbox hb; have Ae := aM (hbox); have Ax := gwS hg Z43; have An := gwS hg Z43; replace HB := hbS Z43 hb; have Ac := nbL hg Aa; have Ad := nbG hg Aa; replace Aa := bkB Aa hb; clear hb hbox hg; have Dl := Ac.out; have Dm := Ad.out; obtain ⟨Cm, Cn, Co, Cp⟩ := bz4 Aa; obtain ⟨Cq, Cr, Cs, Ct⟩ := fz4 Aa; obtain ⟨Cu, Cv, Cw, Cx⟩ := bz4 Ae; obtain ⟨Cy, Cz, C0, C1⟩ := fz4 Ae))
   go_ret
   exact ⟨Z6, Z84⟩
 ·rw [if_neg c3] at H
  have c3b0 : (Af == Ai) = false := beq_eq_false_iff_ne.mpr c3; have c3b1 : (Af != Ai) = true := bne_iff_ne.mpr c3; obtain rfl := Option.some.inj H
  go_enter Tryd.func8, Tryd.ntmps8
  go_wp2_with (first | ((with_reducible refine gate_dst (N := 2) rfl ?_); refine bxE 2 #[.int .i64 Af, .int .i64 Ag, .int .i64 Ah, .slice Ao Al.length Ap] 27 ?_; intro Au hg Dw hbox hb; have Aa := aM (hbox); have Av := gwS hg Z0; have Ab := gwS hg Z0; replace HB := hbS Z0 hb; clear hb hbox hg) | ((with_reducible refine gate_dst (N := 3) rfl ?_); refine bxE 3 #[.int .i64 Ai, .int .i64 Aj, .int .i64 Ak, .slice Aq Am.length Ar] 27 ?_; intro Aw hg Dx hbox hb; have Ae := aM (hbox); have Ax := gwS hg Z43; have An := gwS hg Z43; replace HB := hbS Z43 hb; have Ac := nbL hg Aa; have Ad := nbG hg Aa; replace Aa := bkB Aa hb; clear hb hbox hg; have Dn := Ac.out; have Dp := Ad.out; obtain ⟨C2, C3, C4, C5⟩ := bz4 Aa; obtain ⟨C6, C7, C8, C9⟩ := fz4 Aa; obtain ⟨Da, Db, Dc, Dd⟩ := bz4 Ae; obtain ⟨De, Df, Dg, Dh⟩ := fz4 Ae))
  go_ret
  exact ⟨Z6, Z84⟩
def impl_IsReady.f (k : Nat) (l0 : List (S43)) (a1_0 : Int) (a1_1 : Int) (a1_2 : Int) (l1_3 : List Int) : Option (Bool × Bool) := (impl_IsBath.f k l0 a1_0 a1_1 a1_2 l1_3).bind fun t359 => (if t359 = true then ((impl_Bath_isReady.f k a1_0 a1_1 a1_2 l1_3 l0).bind fun t360 => (some (t360, true))) else (some (false, false)))
theorem impl_IsReady.calls (k : Nat) (A0 : Option Addr) (c0 : Nat) (l0 : List (S43)) (Ac : Int) (Ad : Int) (Ae : Int) (Ah : Option Addr) (Ai : Nat) (Ab : List Int) (r1 : Bool) (r2 : Bool) (w : World) (Bt : Kd.C k43 w A0 l0.length l0) (Bu : l0.length ≤ c0) (Am : Kd.C (Kd.int .i64) w Ah Ab.length Ab) (An : Ab.length ≤ Ai) (h : impl_IsReady.f k l0 Ac Ad Ae Ab = some (r1, r2)) :
  Calls Tryd.prog 9 #[.slice A0 l0.length c0, .agg #[.int .i64 Ac, .int .i64 Ad, .int .i64 Ae, .slice Ah Ab.length Ai]] w fun e w' => e = .returned (.tuple #[.bool r1, .bool r2]) ∧ Below w.heap.size w w' := by
 have hu27 := Tryd.underlying27; have Ba := Aside0.mk Bt; have Bb := Aside0.mk Bu; clear Bt Bu; have Aj := Aside0.mk Am; have Ak := Aside0.mk An; clear Am An; have HB := aM (Below.refl w.heap.size w); have H : ((impl_IsBath.f k l0 Ac Ad Ae Ab).bind fun Al => (if Al = true then ((impl_Bath_isReady.f k Ac Ad Ae Ab l0).bind fun Ag => (some (Ag, true))) else (some (false, false)))) = some (r1, r2) := h; clear h; replace H := Option.bind_eq_some_iff.mp H; obtain ⟨Al, Bv, H⟩ := H; replace H : (if Al = true then ((impl_Bath_isReady.f k Ac Ad Ae Ab l0).bind fun Ag => (some (Ag, true))) else (some (false, false))) = some (r1, r2) := H; have A3 := Aside0.mk Bv; clear Bv
 by_cases c4 : Al = true
 ·subst c4
  have H1 : ((impl_Bath_isReady.f k Ac Ad Ae Ab l0).bind fun Ag => (some (Ag, true))) = some (r1, r2) := by rw [if_pos rfl] at H; exact H
  clear H; have H := H1; clear H1; replace H := Option.bind_eq_some_iff.mp H; obtain ⟨Ag, Bw, H⟩ := H; replace H : (some (Ag, true)) = some (r1, r2) := H; have A5 := Aside0.mk Bw; clear Bw
  simp only [Option.some.injEq, Prod.mk.injEq] at H
  obtain ⟨rfl, rfl⟩ := H
  go_enter Tryd.func9, Tryd.ntmps9
  go_wp2_with (first | ((with_reducible refine gate_dst (N := 3) rfl ?_); refine bxE 3 #[.int .i64 Ac, .int .i64 Ad, .int .i64 Ae, .slice Ah Ab.length Ai] 27 ?_; intro Ao hg w6 hbox hb; have Aa := aM (hbox); have Ap := gwS hg Z0; have Af := gwS hg Z0; replace HB := hbS Z0 hb; clear hb hbox hg; obtain ⟨Bc, Bd, Bf, Bg⟩ := bz4 Aa; obtain ⟨Bh, Bi, Bj, Bk⟩ := fz4 Aa) | ((with_reducible refine gate_callee (f := 11) rfl ?_); refine glE (some 8) Tryd.func11 #[.slice A0 l0.length c0, .agg #[.int .i64 Ac, .int .i64 Ad, .int .i64 Ae, .slice Ah Ab.length Ai]] ?_; (with_reducible refine (impl_IsBath.calls k _ _ l0 Ac Ad Ae _ _ Ab true _ ?side1 ?side2 ?side3 ?side4 A3.out).mono ?_); (case side1 => exact Z70); (case side2 => exact Bb.out); (case side3 => exact Z71); (case side4 => exact Ak.out); rintro e w8 ⟨rfl, hb⟩; refine ⟨_, rfl, ?_⟩; replace Aa := bkB Aa hb; replace HB := hbS Z14 hb; (try clear hb); obtain ⟨Bl, Bm, Bn, Bo⟩ := bz4 Aa; obtain ⟨Bp, Bq, Br, Bs⟩ := fz4 Aa) | ((with_reducible refine gate_callee (f := 21) rfl ?_); refine glE (some 12) Tryd.func21 #[.agg #[.int .i64 Ac, .int .i64 Ad, .int .i64 Ae, .slice Ah Ab.length Ai], .slice A0 l0.length c0] ?_; (with_reducible refine (impl_Bath_isReady.calls k Ac Ad Ae _ _ Ab _ _ l0 Ag _ ?side1 ?side2 ?side3 ?side4 A5.out).mono ?_); (case side1 => exact Z71); (case side2 => exact Ak.out); (case side3 => exact Z70); (case side4 => exact Bb.out); rintro e Bx ⟨rfl, hb⟩; refine ⟨_, rfl, ?_⟩; replace Aa := bkB Aa hb; replace HB := hbS Z14 hb; (try clear hb)))
  go_ret2
  exact ⟨Z6, Z14⟩
 ·replace c4 := Bool.eq_false_iff.mpr c4
  subst c4
  have H1 : (some (false, false)) = some (r1, r2) := by rw [if_neg (show ¬ (false = true) by decide)] at H; exact H
  clear H; have H := H1; clear H1
  simp only [Option.some.injEq, Prod.mk.injEq] at H
  obtain ⟨rfl, rfl⟩ := H
  go_enter Tryd.func9, Tryd.ntmps9
  go_wp2_with (first | ((with_reducible refine gate_dst (N := 3) rfl ?_); refine bxE 3 #[.int .i64 Ac, .int .i64 Ad, .int .i64 Ae, .slice Ah Ab.length Ai] 27 ?_; intro Ao hg Bz hbox hb; have Aa := aM (hbox); have Ap := gwS hg Z0; have Af := gwS hg Z0; replace HB := hbS Z0 hb; clear hb hbox hg; obtain ⟨Aq, Ar, Au, Av⟩ := bz4 Aa; obtain ⟨Aw, Ax, Ay, Az⟩ := fz4 Aa) | ((with_reducible refine gate_callee (f := 11) rfl ?_); refine glE (some 8) Tryd.func11 #[.slice A0 l0.length c0, .agg #[.int .i64 Ac, .int .i64 Ad, .int .i64 Ae, .slice Ah Ab.length Ai]] ?_; (with_reducible refine (impl_IsBath.calls k _ _ l0 Ac Ad Ae _ _ Ab false _ ?side1 ?side2 ?side3 ?side4 A3.out).mono ?_); (case side1 => exact Z70); (case side2 => exact Bb.out); (case side3 => exact Z71); (case side4 => exact Ak.out); rintro e B0 ⟨rfl, hb⟩; refine ⟨_, rfl, ?_⟩; replace Aa := bkB Aa hb; replace HB := hbS Z14 hb; (try clear hb)))
  go_ret2
  exact ⟨Z6, Z14⟩
def spec_IsReady.f (k : Nat) (l0 : List (S43)) (a1_0 : Int) (a1_1 : Int) (a1_2 : Int) (l1_3 : List Int) : Option (Bool × Bool) := (spec_l7Bath.f k l0 a1_0 a1_1 a1_2 l1_3).bind fun t362 => (if t362 = true then ((spec_l7Ready.f k l0 a1_0 a1_1 a1_2 l1_3 a1_2).bind fun t363 => (some (t363, true))) else (some (false, false)))
theorem spec_IsReady.calls (k : Nat) (A0 : Option Addr) (c0 : Nat) (l0 : List (S43)) (Ad : Int) (Ae : Int) (Ab : Int) (Ah : Option Addr) (Ai : Nat) (Ac : List Int) (r1 : Bool) (r2 : Bool) (w : World) (Bt : Kd.C k43 w A0 l0.length l0) (Bu : l0.length ≤ c0) (Am : Kd.C (Kd.int .i64) w Ah Ac.length Ac) (An : Ac.length ≤ Ai) (h : spec_IsReady.f k l0 Ad Ae Ab Ac = some (r1, r2)) :
  Calls Tryd.prog 10 #[.slice A0 l0.length c0, .agg #[.int .i64 Ad, .int .i64 Ae, .int .i64 Ab, .slice Ah Ac.length Ai]] w fun e w' => e = .returned (.tuple #[.bool r1, .bool r2]) ∧ Below w.heap.size w w' := by
 have hu27 := Tryd.underlying27; have Ba := Aside0.mk Bt; have Bb := Aside0.mk Bu; clear Bt Bu; have Aj := Aside0.mk Am; have Ak := Aside0.mk An; clear Am An; have HB := aM (Below.refl w.heap.size w); have H : ((spec_l7Bath.f k l0 Ad Ae Ab Ac).bind fun Al => (if Al = true then ((spec_l7Ready.f k l0 Ad Ae Ab Ac Ab).bind fun Ag => (some (Ag, true))) else (some (false, false)))) = some (r1, r2) := h; clear h; replace H := Option.bind_eq_some_iff.mp H; obtain ⟨Al, Bv, H⟩ := H; replace H : (if Al = true then ((spec_l7Ready.f k l0 Ad Ae Ab Ac Ab).bind fun Ag => (some (Ag, true))) else (some (false, false))) = some (r1, r2) := H; have A3 := Aside0.mk Bv; clear Bv
 by_cases c4 : Al = true
 ·subst c4
  have H1 : ((spec_l7Ready.f k l0 Ad Ae Ab Ac Ab).bind fun Ag => (some (Ag, true))) = some (r1, r2) := by rw [if_pos rfl] at H; exact H
  clear H; have H := H1; clear H1; replace H := Option.bind_eq_some_iff.mp H; obtain ⟨Ag, Bw, H⟩ := H; replace H : (some (Ag, true)) = some (r1, r2) := H; have A5 := Aside0.mk Bw; clear Bw
  simp only [Option.some.injEq, Prod.mk.injEq] at H
  obtain ⟨rfl, rfl⟩ := H
  go_enter Tryd.func10, Tryd.ntmps10
  go_wp2_with (first | ((with_reducible refine gate_dst (N := 3) rfl ?_); refine bxE 3 #[.int .i64 Ad, .int .i64 Ae, .int .i64 Ab, .slice Ah Ac.length Ai] 27 ?_; intro Ao hg w6 hbox hb; have Aa := aM (hbox); have Ap := gwS hg Z0; have Af := gwS hg Z0; replace HB := hbS Z0 hb; clear hb hbox hg; obtain ⟨Bc, Bd, Bf, Bg⟩ := bz4 Aa; obtain ⟨Bh, Bi, Bj, Bk⟩ := fz4 Aa) | ((with_reducible refine gate_callee (f := 24) rfl ?_); refine glE (some 8) Tryd.func24 #[.slice A0 l0.length c0, .agg #[.int .i64 Ad, .int .i64 Ae, .int .i64 Ab, .slice Ah Ac.length Ai]] ?_; (with_reducible refine (spec_l7Bath.calls k _ _ l0 Ad Ae Ab _ _ Ac true _ ?side1 ?side2 ?side3 ?side4 A3.out).mono ?_); (case side1 => exact Z70); (case side2 => exact Bb.out); (case side3 => exact Z71); (case side4 => exact Ak.out); rintro e w8 ⟨rfl, hb⟩; refine ⟨_, rfl, ?_⟩; replace Aa := bkB Aa hb; replace HB := hbS Z14 hb; (try clear hb); obtain ⟨Bl, Bm, Bn, Bo⟩ := bz4 Aa; obtain ⟨Bp, Bq, Br, Bs⟩ := fz4 Aa) | ((with_reducible refine gate_callee (f := 25) rfl ?_); refine glE (some 14) Tryd.func25 #[.slice A0 l0.length c0, .agg #[.int .i64 Ad, .int .i64 Ae, .int .i64 Ab, .slice Ah Ac.length Ai], .int .i64 Ab] ?_; (with_reducible refine (spec_l7Ready.calls k _ _ l0 Ad Ae Ab _ _ Ac Ab Ag _ ?side1 ?side2 ?side3 ?side4 A5.out).mono ?_); (case side1 => exact Z70); (case side2 => exact Bb.out); (case side3 => exact Z71); (case side4 => exact Ak.out); rintro e Bx ⟨rfl, hb⟩; refine ⟨_, rfl, ?_⟩; replace Aa := bkB Aa hb; replace HB := hbS Z14 hb; (try clear hb)))
  go_ret2
  exact ⟨Z6, Z14⟩
 ·replace c4 := Bool.eq_false_iff.mpr c4
  subst c4
  have H1 : (some (false, false)) = some (r1, r2) := by rw [if_neg (show ¬ (false = true) by decide)] at H; exact H
  clear H; have H := H1; clear H1
  simp only [Option.some.injEq, Prod.mk.injEq] at H
  obtain ⟨rfl, rfl⟩ := H
  go_enter Tryd.func10, Tryd.ntmps10
  go_wp2_with (first | ((with_reducible refine gate_dst (N := 3) rfl ?_); refine bxE 3 #[.int .i64 Ad, .int .i64 Ae, .int .i64 Ab, .slice Ah Ac.length Ai] 27 ?_; intro Ao hg Bz hbox hb; have Aa := aM (hbox); have Ap := gwS hg Z0; have Af := gwS hg Z0; replace HB := hbS Z0 hb; clear hb hbox hg; obtain ⟨Aq, Ar, Au, Av⟩ := bz4 Aa; obtain ⟨Aw, Ax, Ay, Az⟩ := fz4 Aa) | ((with_reducible refine gate_callee (f := 24) rfl ?_); refine glE (some 8) Tryd.func24 #[.slice A0 l0.length c0, .agg #[.int .i64 Ad, .int .i64 Ae, .int .i64 Ab, .slice Ah Ac.length Ai]] ?_; (with_reducible refine (spec_l7Bath.calls k _ _ l0 Ad Ae Ab _ _ Ac false _ ?side1 ?side2 ?side3 ?side4 A3.out).mono ?_); (case side1 => exact Z70); (case side2 => exact Bb.out); (case side3 => exact Z71); (case side4 => exact Ak.out); rintro e B0 ⟨rfl, hb⟩; refine ⟨_, rfl, ?_⟩; replace Aa := bkB Aa hb; replace HB := hbS Z14 hb; (try clear hb)))
  go_ret2
  exact ⟨Z6, Z14⟩
def impl_MostYarn.f (k : Nat) (l0 : List (S43)) (a1_0 : Int) (a1_1 : Int) (a1_2 : Int) (l1_3 : List Int) : Option (Int × Bool) := (impl_IsBath.f k l0 a1_0 a1_1 a1_2 l1_3).bind fun t365 => (if t365 = true then ((impl_Bath_isWarm.f a1_0 a1_1 a1_2 l1_3).bind fun t366 => (if t366 = true then ((impl_Bath_mostYarn.f k a1_0 a1_1 a1_2 l1_3 l0).bind fun t367 => (some (t367, true))) else (some (0, false)))) else (some (0, false)))
theorem impl_MostYarn.calls (k : Nat) (A0 : Option Addr) (c0 : Nat) (l0 : List (S43)) (Ac : Int) (Ad : Int) (Ae : Int) (Aj : Option Addr) (Ak : Nat) (Ab : List Int) (r1 : Int) (r2 : Bool) (w : World) (Cq : Kd.C k43 w A0 l0.length l0) (Cr : l0.length ≤ c0) (An : Kd.C (Kd.int .i64) w Aj Ab.length Ab) (Ao : Ab.length ≤ Ak) (h : impl_MostYarn.f k l0 Ac Ad Ae Ab = some (r1, r2)) :
  Calls Tryd.prog 12 #[.slice A0 l0.length c0, .agg #[.int .i64 Ac, .int .i64 Ad, .int .i64 Ae, .slice Aj Ab.length Ak]] w fun e w' => e = .returned (.tuple #[.int .i64 r1, .bool r2]) ∧ Below w.heap.size w w' := by
 have hu27 := Tryd.underlying27; have Ar := Aside0.mk Cq; have Au := Aside0.mk Cr; clear Cq Cr; have Ah := Aside0.mk An; have Ai := Aside0.mk Ao; clear An Ao; have HB := aM (Below.refl w.heap.size w); have H : ((impl_IsBath.f k l0 Ac Ad Ae Ab).bind fun Am => (if Am = true then ((impl_Bath_isWarm.f Ac Ad Ae Ab).bind fun Al => (if Al = true then ((impl_Bath_mostYarn.f k Ac Ad Ae Ab l0).bind fun Ag => (some (Ag, true))) else (some (0, false)))) else (some (0, false)))) = some (r1, r2) := h; clear h; replace H := Option.bind_eq_some_iff.mp H; obtain ⟨Am, Cs, H⟩ := H; replace H : (if Am = true then ((impl_Bath_isWarm.f Ac Ad Ae Ab).bind fun Al => (if Al = true then ((impl_Bath_mostYarn.f k Ac Ad Ae Ab l0).bind fun Ag => (some (Ag, true))) else (some (0, false)))) else (some (0, false))) = some (r1, r2) := H; have A3 := Aside0.mk Cs; clear Cs
 by_cases c4 : Am = true
 ·subst c4
  have H1 : ((impl_Bath_isWarm.f Ac Ad Ae Ab).bind fun Al => (if Al = true then ((impl_Bath_mostYarn.f k Ac Ad Ae Ab l0).bind fun Ag => (some (Ag, true))) else (some (0, false)))) = some (r1, r2) := by rw [if_pos rfl] at H; exact H
  clear H; have H := H1; clear H1; replace H := Option.bind_eq_some_iff.mp H; obtain ⟨Al, Ct, H⟩ := H; replace H : (if Al = true then ((impl_Bath_mostYarn.f k Ac Ad Ae Ab l0).bind fun Ag => (some (Ag, true))) else (some (0, false))) = some (r1, r2) := H; have A5 := Aside0.mk Ct; clear Ct
  by_cases c6 : Al = true
  ·subst c6
   have H1 : ((impl_Bath_mostYarn.f k Ac Ad Ae Ab l0).bind fun Ag => (some (Ag, true))) = some (r1, r2) := by rw [if_pos rfl] at H; exact H
   clear H; have H := H1; clear H1; replace H := Option.bind_eq_some_iff.mp H; obtain ⟨Ag, Cu, H⟩ := H; replace H : (some (Ag, true)) = some (r1, r2) := H; have A7 := Aside0.mk Cu; clear Cu
   simp only [Option.some.injEq, Prod.mk.injEq] at H
   obtain ⟨rfl, rfl⟩ := H
   go_enter Tryd.func12, Tryd.ntmps12
   go_wp2_with (first | ((with_reducible refine gate_dst (N := 3) rfl ?_); refine bxE 3 #[.int .i64 Ac, .int .i64 Ad, .int .i64 Ae, .slice Aj Ab.length Ak] 27 ?_; intro Ap hg w8 hbox hb; have Aa := aM (hbox); have Aq := gwS hg Z0; have Af := gwS hg Z0; replace HB := hbS Z0 hb; clear hb hbox hg; obtain ⟨Ci, Cj, Ck, Cl⟩ := bz4 Aa; obtain ⟨Cm, Cn, Co, Cp⟩ := fz4 Aa) | ((with_reducible refine gate_callee (f := 11) rfl ?_); refine glE (some 8) Tryd.func11 #[.slice A0 l0.length c0, .agg #[.int .i64 Ac, .int .i64 Ad, .int .i64 Ae, .slice Aj Ab.length Ak]] ?_; (with_reducible refine (impl_IsBath.calls k _ _ l0 Ac Ad Ae _ _ Ab true _ ?side1 ?side2 ?side3 ?side4 A3.out).mono ?_); (case side1 => exact Z86); (case side2 => exact Au.out); (case side3 => exact Z72); (case side4 => exact Ai.out); rintro e Cv ⟨rfl, hb⟩; refine ⟨_, rfl, ?_⟩; replace Aa := bkB Aa hb; replace HB := hbS Z14 hb; (try clear hb); obtain ⟨Av, Aw, Ax, Ay⟩ := bz4 Aa; obtain ⟨Az, Ba, Bb, Bc⟩ := fz4 Aa) | (go_at_call 31; (with_reducible refine (impl_Bath_isWarm.calls Ac Ad Ae _ _ Ab true _ ?side1 ?side2 A5.out).mono ?_); (case side1 => exact Z72); (case side2 => exact Ai.out); rintro e Cw ⟨rfl, hb⟩; replace Aa := bkB Aa hb; replace HB := hbS Z14 hb; (try clear hb); obtain ⟨Bd, Bf, Bg, Bh⟩ := bz4 Aa; obtain ⟨Bi, Bj, Bk, Bl⟩ := fz4 Aa) | ((with_reducible refine gate_callee (f := 32) rfl ?_); refine glE (some 17) Tryd.func32 #[.agg #[.int .i64 Ac, .int .i64 Ad, .int .i64 Ae, .slice Aj Ab.length Ak], .slice A0 l0.length c0] ?_; (with_reducible refine (impl_Bath_mostYarn.calls k Ac Ad Ae _ _ Ab _ _ l0 Ag _ ?side1 ?side2 ?side3 ?side4 A7.out).mono ?_); (case side1 => exact Z72); (case side2 => exact Ai.out); (case side3 => exact Z86); (case side4 => exact Au.out); rintro e Cx ⟨rfl, hb⟩; refine ⟨_, rfl, ?_⟩; replace Aa := bkB Aa hb; replace HB := hbS Z14 hb; (try clear hb)))
   go_ret2
   exact ⟨Z6, Z14⟩
  ·replace c6 := Bool.eq_false_iff.mpr c6
   subst c6
   have H1 : (some (0, false)) = some (r1, r2) := by rw [if_neg (show ¬ (false = true) by decide)] at H; exact H
   clear H; have H := H1; clear H1
   simp only [Option.some.injEq, Prod.mk.injEq] at H
   obtain ⟨rfl, rfl⟩ := H
   go_enter Tryd.func12, Tryd.ntmps12
   go_wp2_with (first | ((with_reducible refine gate_dst (N := 3) rfl ?_); refine bxE 3 #[.int .i64 Ac, .int .i64 Ad, .int .i64 Ae, .slice Aj Ab.length Ak] 27 ?_; intro Ap hg Cy hbox hb; have Aa := aM (hbox); have Aq := gwS hg Z0; have Af := gwS hg Z0; replace HB := hbS Z0 hb; clear hb hbox hg; obtain ⟨Bm, Bn, Bo, Bp⟩ := bz4 Aa; obtain ⟨Bq, Br, Bs, Bt⟩ := fz4 Aa) | ((with_reducible refine gate_callee (f := 11) rfl ?_); refine glE (some 8) Tryd.func11 #[.slice A0 l0.length c0, .agg #[.int .i64 Ac, .int .i64 Ad, .int .i64 Ae, .slice Aj Ab.length Ak]] ?_; (with_reducible refine (impl_IsBath.calls k _ _ l0 Ac Ad Ae _ _ Ab true _ ?side1 ?side2 ?side3 ?side4 A3.out).mono ?_); (case side1 => exact Z86); (case side2 => exact Au.out); (case side3 => exact Z72); (case side4 => exact Ai.out); rintro e Cz ⟨rfl, hb⟩; refine ⟨_, rfl, ?_⟩; replace Aa := bkB Aa hb; replace HB := hbS Z14 hb; (try clear hb); obtain ⟨Bu, Bv, Bw, Bx⟩ := bz4 Aa; obtain ⟨Bz, B0, B2, B6⟩ := fz4 Aa) | (go_at_call 31; (with_reducible refine (impl_Bath_isWarm.calls Ac Ad Ae _ _ Ab false _ ?side1 ?side2 A5.out).mono ?_); (case side1 => exact Z72); (case side2 => exact Ai.out); rintro e C0 ⟨rfl, hb⟩; replace Aa := bkB Aa hb; replace HB := hbS Z14 hb; (try clear hb)))
   go_ret2
   exact ⟨Z6, Z14⟩
 ·replace c4 := Bool.eq_false_iff.mpr c4
  subst c4
  have H1 : (some (0, false)) = some (r1, r2) := by rw [if_neg (show ¬ (false = true) by decide)] at H; exact H
  clear H; have H := H1; clear H1
  simp only [Option.some.injEq, Prod.mk.injEq] at H
  obtain ⟨rfl, rfl⟩ := H
  go_enter Tryd.func12, Tryd.ntmps12
  go_wp2_with (first | ((with_reducible refine gate_dst (N := 3) rfl ?_); refine bxE 3 #[.int .i64 Ac, .int .i64 Ad, .int .i64 Ae, .slice Aj Ab.length Ak] 27 ?_; intro Ap hg C1 hbox hb; have Aa := aM (hbox); have Aq := gwS hg Z0; have Af := gwS hg Z0; replace HB := hbS Z0 hb; clear hb hbox hg; obtain ⟨Ca, Cb, Cc, Cd⟩ := bz4 Aa; obtain ⟨Ce, Cf, Cg, Ch⟩ := fz4 Aa) | ((with_reducible refine gate_callee (f := 11) rfl ?_); refine glE (some 8) Tryd.func11 #[.slice A0 l0.length c0, .agg #[.int .i64 Ac, .int .i64 Ad, .int .i64 Ae, .slice Aj Ab.length Ak]] ?_; (with_reducible refine (impl_IsBath.calls k _ _ l0 Ac Ad Ae _ _ Ab false _ ?side1 ?side2 ?side3 ?side4 A3.out).mono ?_); (case side1 => exact Z86); (case side2 => exact Au.out); (case side3 => exact Z72); (case side4 => exact Ai.out); rintro e C2 ⟨rfl, hb⟩; refine ⟨_, rfl, ?_⟩; replace Aa := bkB Aa hb; replace HB := hbS Z14 hb; (try clear hb)))
  go_ret2
  exact ⟨Z6, Z14⟩
end Go.Proofs.YtfeighajmkcjfaaDoor.H
