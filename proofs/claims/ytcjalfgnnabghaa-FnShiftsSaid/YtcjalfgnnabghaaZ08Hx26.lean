-- by wip/pack.py of this repo
import Derived.Test.YtcjalfgnnabghaaZ08Hx0
import Derived.Test.YtcjalfgnnabghaaZ08Hx2
import Derived.Test.YtcjalfgnnabghaaZ08Hx5
import Derived.Test.YtcjalfgnnabghaaZ08Hx25
import Derived.Test.YtcjalfgnnabghaaZ08WLast
import Derived.Test.YtcjalfgnnabghaaZ08WMore
import Derived.Test.YtcjalfgnnabghaaZ08WWords
import Derived.Test.YtcjalfgnnabghaaZ08Short
namespace Go.Proofs.Ytcjalfgnnabghaa.H
open Go.RowKit Go.Proofs.YtcjalfgnnabghaaW.PrintWords Go.Proofs.YtcjalfgnnabghaaW.PrintLast Go.Proofs.YtcjalfgnnabghaaW.PrintMore
attribute [local go_sem] max2_int min2_int max_two min_two max_three min_three max_four min_four
set_option maxHeartbeats 8000000
set_option maxRecDepth 100000
set_option linter.unusedVariables false
set_option linter.unusedSimpArgs false
def spec_IsSamePiece.j0 : Nat → Int → Bool → Int → Int → List Int → Int → Int → List Int → Option (Bool × Bool)
 | 0, _, _, _, _, _, _, _, _ => none
 | k + 1, x2, x25, x564000, x564001, x564002, x565000, x565001, x565002 => if x25 = true then (some (false, false)) else ((spec_BestShift.f k x564000 x564001 x564002 x565000 x565001 x565002).bind fun bt568 => (if bt568.2.2 = true then ((spec_l13Wrong.f k x564000 x564001 x564002 x565000 x565001 x565002 bt568.1 bt568.2.1).bind fun bt571 => (some (decide ((wrap64 (100 * (bt571.1.length : Int))) ≤ (wrap64 (x2 * bt571.2))), true))) else (some (false, true))))
def spec_IsSamePiece.f (k : Nat) (a0_0 : Int) (a0_1 : Int) (l0_2 : List Int) (a1_0 : Int) (a1_1 : Int) (l1_2 : List Int) (a2 : Int) : Option (Bool × Bool) := (spec_l2Good.f k a0_0 a0_1 l0_2).bind fun t565 => (if t565 = true then ((spec_l2Good.f k a1_0 a1_1 l1_2).bind fun t566 => (if t566 = true then ((spec_l1In.f a2 0 100).bind fun t567 => (spec_IsSamePiece.j0 k a2 (!t567) a0_0 a0_1 l0_2 a1_0 a1_1 l1_2)) else (spec_IsSamePiece.j0 k a2 true a0_0 a0_1 l0_2 a1_0 a1_1 l1_2))) else (spec_IsSamePiece.j0 k a2 true a0_0 a0_1 l0_2 a1_0 a1_1 l1_2))
theorem spec_IsSamePiece.calls (k : Nat) (Ae : Int) (Af : Int) (Ap : Option Addr) (Aq : Nat) (Ac : List Int) (Ag : Int) (Ah : Int) (Ay : Option Addr) (Az : Nat) (Ad : List Int) (a2 : Int) (r1 : Bool) (r2 : Bool) (w : World) (Ci : Kd.C (Kd.int .i64) w Ap Ac.length Ac) (Cj : Ac.length ≤ Aq) (Ck : Kd.C (Kd.int .i64) w Ay Ad.length Ad) (Cl : Ad.length ≤ Az) (h : spec_IsSamePiece.f k Ae Af Ac Ag Ah Ad a2 = some (r1, r2)) :
  Calls Try.prog 29 #[.agg #[.int .i64 Ae, .int .i64 Af, .slice Ap Ac.length Aq], .agg #[.int .i64 Ag, .int .i64 Ah, .slice Ay Ad.length Az], .int .i64 a2] w fun e w' => e = .returned (.tuple #[.bool r1, .bool r2]) ∧ Below w.heap.size w w' := by
 have hu28 := Try.underlying28; have Ar := Aside0.mk Ci; have Au := Aside0.mk Cj; clear Ci Cj; have Av := Aside0.mk Ck; have Aw := Aside0.mk Cl; clear Ck Cl; have HB := aM (Below.refl w.heap.size w); have H : ((spec_l2Good.f k Ae Af Ac).bind fun Bf => (if Bf = true then ((spec_l2Good.f k Ag Ah Ad).bind fun Ax => (if Ax = true then ((spec_l1In.f a2 0 100).bind fun Am => (spec_IsSamePiece.j0 k a2 (!Am) Ae Af Ac Ag Ah Ad)) else (spec_IsSamePiece.j0 k a2 true Ae Af Ac Ag Ah Ad))) else (spec_IsSamePiece.j0 k a2 true Ae Af Ac Ag Ah Ad))) = some (r1, r2) := h; clear h; have D0 := Aside0.mk H; clear H
 go_enter Try.func29, Try.ntmps29
 go_upto_region 1 with (first | ((with_reducible refine gate_dst (N := 3) rfl ?_); refine bxE 3 #[.int .i64 Ae, .int .i64 Af, .slice Ap Ac.length Aq] 28 ?_; intro Cn hg w5 hbox hb; have Aa := aM (hbox); have D2 := gwS hg Z0; have Ai := gwS hg Z0; replace HB := hbS Z0 hb; clear hb hbox hg) | ((with_reducible refine gate_dst (N := 4) rfl ?_); refine bxE 4 #[.int .i64 Ag, .int .i64 Ah, .slice Ay Ad.length Az] 28 ?_; intro Co hg w6 hbox hb; have Ab := aM (hbox); have D3 := gwS hg Z177; have Aj := gwS hg Z177; replace HB := hbS Z177 hb; have Ak := nbL hg Aa; have Al := nbG hg Aa; replace Aa := bkB Aa hb; clear hb hbox hg))
 (try simp only [Act.put, List.setIfInBounds_toArray, List.set_cons_zero, List.set_cons_succ])
 go_cut [25] (fun Ei wc => ∃ (kq : Nat) (Ba : Bool), Ei = .bool Ba ∧ Aside0 (spec_IsSamePiece.j0 kq a2 Ba Ae Af Ac Ag Ah Ad = some (r1, r2)) ∧ Aside0 (kq ≤ k) ∧ Aside0 (wc.heap[Cn]? = some (.cells #[.int .i64 Ae, .int .i64 Af, (.slice Ap Ac.length Aq)] 28 (0, 0))) ∧ Aside0 (wc.heap[Co]? = some (.cells #[.int .i64 Ag, .int .i64 Ah, (.slice Ay Ad.length Az)] 28 (0, 0))) ∧ Aside0 (Below w.heap.size w wc))
 case first =>
  have H := D0.out; clear D0; replace H := Option.bind_eq_some_iff.mp H; obtain ⟨Bf, D4, H⟩ := H; replace H : (if Bf = true then ((spec_l2Good.f k Ag Ah Ad).bind fun Ax => (if Ax = true then ((spec_l1In.f a2 0 100).bind fun Am => (spec_IsSamePiece.j0 k a2 (!Am) Ae Af Ac Ag Ah Ad)) else (spec_IsSamePiece.j0 k a2 true Ae Af Ac Ag Ah Ad))) else (spec_IsSamePiece.j0 k a2 true Ae Af Ac Ag Ah Ad)) = some (r1, r2) := H; have A7 := Aside0.mk D4; clear D4
  by_cases c8 : Bf = true
  ·subst c8
   have H1 : ((spec_l2Good.f k Ag Ah Ad).bind fun Ax => (if Ax = true then ((spec_l1In.f a2 0 100).bind fun Am => (spec_IsSamePiece.j0 k a2 (!Am) Ae Af Ac Ag Ah Ad)) else (spec_IsSamePiece.j0 k a2 true Ae Af Ac Ag Ah Ad))) = some (r1, r2) := by rw [if_pos rfl] at H; exact H
   clear H; have H := H1; clear H1; replace H := Option.bind_eq_some_iff.mp H; obtain ⟨Ax, D5, H⟩ := H; replace H : (if Ax = true then ((spec_l1In.f a2 0 100).bind fun Am => (spec_IsSamePiece.j0 k a2 (!Am) Ae Af Ac Ag Ah Ad)) else (spec_IsSamePiece.j0 k a2 true Ae Af Ac Ag Ah Ad)) = some (r1, r2) := H; have A9 := Aside0.mk D5; clear D5
   by_cases Cp : Ax = true
   ·subst Cp
    have H1 : ((spec_l1In.f a2 0 100).bind fun Am => (spec_IsSamePiece.j0 k a2 (!Am) Ae Af Ac Ag Ah Ad)) = some (r1, r2) := by rw [if_pos rfl] at H; exact H
    clear H; have H := H1; clear H1; replace H := Option.bind_eq_some_iff.mp H; obtain ⟨Am, Cq, H⟩ := H; replace H : (spec_IsSamePiece.j0 k a2 (!Am) Ae Af Ac Ag Ah Ad) = some (r1, r2) := H; have Ej := Aside0.mk Cq; clear Cq; have H' := Aside0.mk H; clear H; have D6 := Ak.out; have D7 := Al.out; obtain ⟨Bg, Bh, Bi⟩ := bz3 Aa; obtain ⟨Bj, Bk, Bl⟩ := fz3 Aa
    go_wp2_with (first | ((with_reducible refine gate_callee (f := 71) rfl ?_); refine glE (some 14) Try.func71 #[.agg #[.int .i64 Ae, .int .i64 Af, .slice Ap Ac.length Aq]] ?_; (with_reducible refine (spec_l2Good.calls k Ae Af _ _ Ac true _ ?side1 ?side2 A7.out).mono ?_); (case side1 => exact Z110); (case side2 => exact Au.out); rintro e Eo ⟨rfl, hb⟩; refine ⟨_, rfl, ?_⟩; replace Aa := bkB Aa hb; replace Ab := bkB Ab hb; replace HB := hbS Z47 hb; (try clear hb); obtain ⟨Bm, Bn, Bo⟩ := bz3 Ab; obtain ⟨Bp, Bq, Br⟩ := fz3 Ab) | (go_at_call 71; (with_reducible refine (spec_l2Good.calls k Ag Ah _ _ Ad true _ ?side1 ?side2 A9.out).mono ?_); (case side1 => exact Z86); (case side2 => exact Aw.out); rintro e Ep ⟨rfl, hb⟩; replace Aa := bkB Aa hb; replace Ab := bkB Ab hb; replace HB := hbS Z47 hb; (try clear hb)) | (go_at_call 72; (with_reducible refine (spec_l1In.calls a2 0 100 Am _ Ej.out).mono ?_); rintro e w' ⟨rfl, ⟨nd, rfl⟩⟩))
    go_meet
    case rel => exact ⟨_, (!Am), Z10, H', ⟨Z163⟩, ⟨Z27⟩, ⟨Z4⟩, ⟨Z47⟩⟩
   ·replace Cp := Bool.eq_false_iff.mpr Cp
    subst Cp
    have H1 : (spec_IsSamePiece.j0 k a2 true Ae Af Ac Ag Ah Ad) = some (r1, r2) := by rw [if_neg (show ¬ (false = true) by decide)] at H; exact H
    clear H; have H := H1; clear H1; have H' := Aside0.mk H; clear H; have D8 := Ak.out; have D9 := Al.out; obtain ⟨Bs, Bt, Bu⟩ := bz3 Aa; obtain ⟨Bv, Bw, Bx⟩ := fz3 Aa
    go_wp2_with (first | ((with_reducible refine gate_callee (f := 71) rfl ?_); refine glE (some 14) Try.func71 #[.agg #[.int .i64 Ae, .int .i64 Af, .slice Ap Ac.length Aq]] ?_; (with_reducible refine (spec_l2Good.calls k Ae Af _ _ Ac true _ ?side1 ?side2 A7.out).mono ?_); (case side1 => exact Z110); (case side2 => exact Au.out); rintro e Er ⟨rfl, hb⟩; refine ⟨_, rfl, ?_⟩; replace Aa := bkB Aa hb; replace Ab := bkB Ab hb; replace HB := hbS Z47 hb; (try clear hb); obtain ⟨Bz, B0, B6⟩ := bz3 Ab; obtain ⟨B9, Ca, Cb⟩ := fz3 Ab) | (go_at_call 71; (with_reducible refine (spec_l2Good.calls k Ag Ah _ _ Ad false _ ?side1 ?side2 A9.out).mono ?_); (case side1 => exact Z86); (case side2 => exact Aw.out); rintro e Es ⟨rfl, hb⟩; replace Aa := bkB Aa hb; replace Ab := bkB Ab hb; replace HB := hbS Z47 hb; (try clear hb)))
    go_meet
    case rel => exact ⟨_, (true), Z10, H', ⟨Z163⟩, ⟨Z27⟩, ⟨Z4⟩, ⟨Z47⟩⟩
  ·replace c8 := Bool.eq_false_iff.mpr c8
   subst c8
   have H1 : (spec_IsSamePiece.j0 k a2 true Ae Af Ac Ag Ah Ad) = some (r1, r2) := by rw [if_neg (show ¬ (false = true) by decide)] at H; exact H
   clear H; have H := H1; clear H1; have H' := Aside0.mk H; clear H; have Ea := Ak.out; have Eb := Al.out; obtain ⟨Cc, Cd, Ce⟩ := bz3 Aa; obtain ⟨Cf, Cg, Ch⟩ := fz3 Aa
   go_wp2_with (first | ((with_reducible refine gate_callee (f := 71) rfl ?_); refine glE (some 14) Try.func71 #[.agg #[.int .i64 Ae, .int .i64 Af, .slice Ap Ac.length Aq]] ?_; (with_reducible refine (spec_l2Good.calls k Ae Af _ _ Ac false _ ?side1 ?side2 A7.out).mono ?_); (case side1 => exact Z110); (case side2 => exact Au.out); rintro e Et ⟨rfl, hb⟩; refine ⟨_, rfl, ?_⟩; replace Aa := bkB Aa hb; replace Ab := bkB Ab hb; replace HB := hbS Z47 hb; (try clear hb)))
   go_meet
   case rel => exact ⟨_, (true), Z10, H', ⟨Z163⟩, ⟨Z27⟩, ⟨Z4⟩, ⟨Z47⟩⟩
 case rest =>
  clear D0; (try clear c1); (try clear c2); (try clear p2); (try clear c7); (try clear c8); (try clear Cp); (try clear Eu); (try clear Ew); (try clear Ex); (try clear Bg); (try clear Bh); (try clear Bi); (try clear Bm); (try clear Bn); (try clear Bo); (try clear Bs); (try clear Bt); (try clear Bu); (try clear Bz); (try clear B0); (try clear B6); (try clear Cc); (try clear Cd); (try clear Ce); (try clear Bj); (try clear Bk); (try clear Bl); (try clear Bp); (try clear Bq); (try clear Br); (try clear Bv); (try clear Bw); (try clear Bx); (try clear B9); (try clear Ca); (try clear Cb); (try clear Cf); (try clear Cg); (try clear Ch); obtain ⟨kq, Ba, rfl, HA, HJ3, Aa, Ab, HB⟩ := hcut; cases kq with
  | zero => exact absurd HA.out (by simp [spec_IsSamePiece.j0])
  | succ Cm =>
   have H := HA.out; clear HA
   simp only [spec_IsSamePiece.j0] at H
   by_cases Cx : Ba = true
   ·subst Cx
    have H1 : (some (false, false)) = some (r1, r2) := by rw [if_pos rfl] at H; exact H
    clear H; have H := H1; clear H1
    simp only [Option.some.injEq, Prod.mk.injEq] at H
    obtain ⟨rfl, rfl⟩ := H
    go_wp2
    go_ret2
    exact ⟨Z9, Z47⟩
   ·replace Cx := Bool.eq_false_iff.mpr Cx
    subst Cx
    have H1 : ((spec_BestShift.f Cm Ae Af Ac Ag Ah Ad).bind fun Bd => (if Bd.2.2 = true then ((spec_l13Wrong.f Cm Ae Af Ac Ag Ah Ad Bd.1 Bd.2.1).bind fun An => (some (decide ((wrap64 (100 * (An.1.length : Int))) ≤ (wrap64 (a2 * An.2))), true))) else (some (false, true)))) = some (r1, r2) := by rw [if_neg (show ¬ (false = true) by decide)] at H; exact H
    clear H; have H := H1; clear H1; replace H := Option.bind_eq_some_iff.mp H; obtain ⟨⟨Bb, Bc, Cr⟩, Cs, H⟩ := H; replace H : (if Cr = true then ((spec_l13Wrong.f Cm Ae Af Ac Ag Ah Ad Bb Bc).bind fun An => (some (decide ((wrap64 (100 * (An.1.length : Int))) ≤ (wrap64 (a2 * An.2))), true))) else (some (false, true))) = some (r1, r2) := H; have Ec := Aside0.mk Cs; clear Cs
    by_cases Cy : Cr = true
    ·subst Cy
     have H1 : ((spec_l13Wrong.f Cm Ae Af Ac Ag Ah Ad Bb Bc).bind fun An => (some (decide ((wrap64 (100 * (An.1.length : Int))) ≤ (wrap64 (a2 * An.2))), true))) = some (r1, r2) := by rw [if_pos rfl] at H; exact H
     clear H; have H := H1; clear H1; replace H := Option.bind_eq_some_iff.mp H; obtain ⟨⟨Ct, Cu⟩, Cv, H⟩ := H; replace H : (some (decide ((wrap64 (100 * (Ct.length : Int))) ≤ (wrap64 (a2 * Cu))), true)) = some (r1, r2) := H; have Ek := Aside0.mk Cv; clear Cv
     simp only [Option.some.injEq, Prod.mk.injEq] at H
     obtain ⟨rfl, rfl⟩ := H; have Ed := Ak.out; have Ee := Al.out; obtain ⟨Cz, C0, C1⟩ := bz3 Aa; obtain ⟨C2, C3, C4⟩ := fz3 Aa; obtain ⟨C5, C6, C7⟩ := bz3 Ab; obtain ⟨C8, C9, Da⟩ := fz3 Ab
     go_wp2_with (first | ((with_reducible refine gate_callee (f := 31) rfl ?_); refine glE (some 29) Try.func31 #[.agg #[.int .i64 Ae, .int .i64 Af, .slice Ap Ac.length Aq], .agg #[.int .i64 Ag, .int .i64 Ah, .slice Ay Ad.length Az]] ?_; (with_reducible refine (spec_BestShift.calls Cm Ae Af _ _ Ac Ag Ah _ _ Ad Bb Bc true _ ?side1 ?side2 ?side3 ?side4 Ec.out).mono ?_); (case side1 => exact Z110); (case side2 => exact Au.out); (case side3 => exact Z86); (case side4 => exact Aw.out); rintro e Ey ⟨rfl, hb⟩; refine ⟨_, rfl, ?_⟩; replace Aa := bkB Aa hb; replace Ab := bkB Ab hb; replace HB := hbS Z47 hb; (try clear hb); obtain ⟨Db, Dc, Dd⟩ := bz3 Aa; obtain ⟨De, Df, Dg⟩ := fz3 Aa; obtain ⟨Dh, Di, Dj⟩ := bz3 Ab; obtain ⟨Dk, Dl, Dm⟩ := fz3 Ab) | ((with_reducible refine gate_callee (f := 53) rfl ?_); refine glE (some 40) Try.func53 #[.agg #[.int .i64 Ae, .int .i64 Af, .slice Ap Ac.length Aq], .agg #[.int .i64 Ag, .int .i64 Ah, .slice Ay Ad.length Az], .int .i64 Bb, .int .i64 Bc] ?_; (with_reducible refine (spec_l13Wrong.calls Cm Ae Af _ _ Ac Ag Ah _ _ Ad Bb Bc Ct Cu _ ?side1 ?side2 ?side3 ?side4 Ek.out).mono ?_); (case side1 => exact Z110); (case side2 => exact Au.out); (case side3 => exact Z86); (case side4 => exact Aw.out); rintro e Ez ⟨El, rfl, Ef, hb⟩; refine ⟨_, rfl, ?_⟩; have Cw := aM (Kd.R_lower Ef (below_size Z47)); replace Aa := bkB Aa hb; replace Ab := bkB Ab hb; replace HB := hbS Z47 hb; (try clear hb); (try clear Ef); obtain ⟨Em, En, D1⟩ := Kd.R_slice Cw.out; subst D1))
     go_ret2
     exact ⟨Z9, Z47⟩
    ·replace Cy := Bool.eq_false_iff.mpr Cy
     subst Cy
     have H1 : (some (false, true)) = some (r1, r2) := by rw [if_neg (show ¬ (false = true) by decide)] at H; exact H
     clear H; have H := H1; clear H1
     simp only [Option.some.injEq, Prod.mk.injEq] at H
     obtain ⟨rfl, rfl⟩ := H; have Eg := Ak.out; have Eh := Al.out; obtain ⟨Dn, Dp, Dq⟩ := bz3 Aa; obtain ⟨Dr, Ds, Dt⟩ := fz3 Aa; obtain ⟨Du, Dv, Dw⟩ := bz3 Ab; obtain ⟨Dx, Dy, Dz⟩ := fz3 Ab
     go_wp2_with (first | ((with_reducible refine gate_callee (f := 31) rfl ?_); refine glE (some 29) Try.func31 #[.agg #[.int .i64 Ae, .int .i64 Af, .slice Ap Ac.length Aq], .agg #[.int .i64 Ag, .int .i64 Ah, .slice Ay Ad.length Az]] ?_; (with_reducible refine (spec_BestShift.calls Cm Ae Af _ _ Ac Ag Ah _ _ Ad Bb Bc false _ ?side1 ?side2 ?side3 ?side4 Ec.out).mono ?_); (case side1 => exact Z110); (case side2 => exact Au.out); (case side3 => exact Z86); (case side4 => exact Aw.out); rintro e E0 ⟨rfl, hb⟩; refine ⟨_, rfl, ?_⟩; replace Aa := bkB Aa hb; replace Ab := bkB Ab hb; replace HB := hbS Z47 hb; (try clear hb)))
     go_ret2
     exact ⟨Z9, Z47⟩
set_option maxHeartbeats 4000000 in
theorem IndexFunc_match (p : S82 → Bool) (g : Nat) (lb : Array Value) (A : Option Addr) (c : Nat) (xs : List S82) (w : World)
  (eg : ∀ args w, (callFunc g args).run Try.prog w = .ok (.enter g args) w) (hr : Kd.C k82 w A xs.length xs)
  (hp : ∀ (W : World) (x : S82), Below w.heap.size w W → Calls Try.prog g (#[.agg #[.int .i64 x.f0, .int .i64 x.f1, .int .i64 x.f2, .int .i64 x.f3]] ++ lb) W fun e w' => e = .returned (.bool (p x)) ∧ Below W.heap.size W w') :
  Calls Try.prog 96 #[.slice A xs.length c, .func (.func g) #[] lb] w fun e w' => e = .returned (.int .i64 (findI p xs)) ∧ Below w.heap.size w w' := by
 have hu_ := Try.underlying82; have hlen := Aside0.mk hr.2.1; have HR := Aside0.mk hr; have HP := Aside0.mk hp; clear hr hp
 go_enter Try.func96, Try.ntmps96
 go_wp2
 go_loopg [5, 8] xs.length (fun gg _ s8 wr => ∃ x : Int, s8 = .int .i64 x ∧ Aside0 (0 ≤ x ∧ x ≤ (xs.length : Int) ∧ (xs.length : Int) - x ≤ gg) ∧ Aside0 (Below w.heap.size w wr) ∧ Aside0 (∀ j : Nat, (j : Int) < x → p (xs.getD j z82) = false))
 case atStart => exact ⟨0, rfl, ⟨by omega, by omega, by omega⟩, ⟨Below.refl _ _⟩, ⟨fun j hj => absurd hj (by omega)⟩⟩
 case round =>
  obtain ⟨x, rfl, HX, BW, HA⟩ := hrel
  by_cases hlt : x < (xs.length : Int)
  ·have c0 : decide (x < (xs.length : Int)) = true := decide_eq_true hlt
   obtain ⟨ad, e0, Aa, Ab, Ac, Ad⟩ := at_T82 (Kd.C_below HR.out BW.out) x HX.out.1 hlt; cases e0; have c1 : decide (0 ≤ x) = true := decide_eq_true HX.out.1; have p0 := eq_true HX.out.1; have p1 := eq_true hlt; have HL := Aside0.mk hlt; clear hlt; have hcall := HP.out _ (rd_T82 xs x) BW.out; have hget : Aside0 (xs.getD x.toNat z82 = (rd_T82 xs x)) := ⟨rfl⟩; cases hq : p (rd_T82 xs x) with
   | true =>
    rw [hq] at hcall; have HQ := Aside0.mk hq; have HC := Aside0.mk hcall; clear hq hcall
    go_wp2_with fail
    refine HC.out.mono ?_; rintro e w' ⟨rfl, hb'⟩; have HB := aM (below_step BW.out hb'); clear hb'
    go_wp2
    go_ret
    refine ⟨?_, HB.out⟩; rw [findI_hit p z82 xs x.toNat Z242 (fun j hj => HA.out j Z250) (by rw [hget.out]; exact HQ.out)]; rw [Int.toNat_of_nonneg HX.out.1]
    rfl
   | false =>
    rw [hq] at hcall; have HQ := Aside0.mk hq; have HC := Aside0.mk hcall; clear hq hcall
    go_wp2_with fail
    refine HC.out.mono ?_; rintro e w' ⟨rfl, hb'⟩; have HB := aM (below_step BW.out hb'); clear hb'
    go_wp2
    have hw1 : wrap64 (x + 1) = x + 1 := by have := HX.out; have := HL.out; have := hlen.out; unfold wrap64; omega
    go_roundg (xs.length - (x.toNat + 1))
    case measure => have := HX.out; have := HL.out; omega
    case rel =>
     refine ⟨x + 1, by first | rfl | rw [hw1] | simp [hw1], ⟨Z250, Z251, Z242⟩, HB, ⟨fun j hj => ?_⟩⟩
     by_cases e : (j : Int) < x
     ·exact HA.out j e
     ·have hj' : j = x.toNat := by have := HX.out; omega
      subst hj'; rw [hget.out]
      exact HQ.out
  ·have c0 : decide (x < (xs.length : Int)) = false := decide_eq_false hlt
   have HL := Aside0.mk hlt; clear hlt
   go_wp2
   go_ret
   refine ⟨?_, BW.out⟩; rw [findI_miss p z82 xs (fun j hj => HA.out j Z251)]
   rfl
set_option maxHeartbeats 4000000 in
theorem ContainsFunc_match (p : S82 → Bool) (g : Nat) (lb : Array Value) (A : Option Addr) (c : Nat) (xs : List S82) (w : World)
  (eg : ∀ args w, (callFunc g args).run Try.prog w = .ok (.enter g args) w) (hr : Kd.C k82 w A xs.length xs)
  (hp : ∀ (W : World) (x : S82), Below w.heap.size w W → Calls Try.prog g (#[.agg #[.int .i64 x.f0, .int .i64 x.f1, .int .i64 x.f2, .int .i64 x.f3]] ++ lb) W fun e w' => e = .returned (.bool (p x)) ∧ Below W.heap.size W w') :
  Calls Try.prog 75 #[.slice A xs.length c, .func (.func g) #[] lb] w fun e w' => e = .returned (.bool (xs.any p)) ∧ Below w.heap.size w w' := by
 have HC := aM (IndexFunc_match p g lb A c xs w eg hr hp); clear hr hp eg; rw [← findI_any]
 go_enter Try.func75, Try.ntmps75
 go_wp2_with fail
 refine HC.out.mono ?_; rintro e w' ⟨rfl, hb'⟩
 go_wp2
 go_ret
 exact ⟨Z148, hb'⟩
set_option maxHeartbeats 4000000 in
set_option maxRecDepth 100000 in
theorem isSamePiece_1 (b : Nat) (x : S82) (a2 : Int) (W : World) (hc : W.cell? ⟨b, 0, none⟩ = some (.int .i64 a2)) (hb : b < W.heap.size) :
  Calls Try.prog 74 #[.agg #[.int .i64 x.f0, .int .i64 x.f1, .int .i64 x.f2, .int .i64 x.f3], .pointer (some ⟨b, 0, none⟩)] W fun e w' => e = .returned (.bool ((fun x : S82 => decide (wrap64 (100 * x.f2) ≤ wrap64 (a2 * x.f3))) x)) ∧ Below W.heap.size W w' := by
 have hu_ := Try.underlying82; have hB1 : Below W.heap.size W (W.alloc (.cells #[.int .i64 x.f0, .int .i64 x.f1, .int .i64 x.f2, .int .i64 x.f3] 82)) := below_alloc (Below.refl _ _) _; have Aa : (W.alloc (.cells #[.int .i64 x.f0, .int .i64 x.f1, .int .i64 x.f2, .int .i64 x.f3] 82)).cell? ⟨b, 0, none⟩ = some (.int .i64 a2) := (hB1.cell (p := ⟨b, 0, none⟩) hb).trans hc; have HB := Aside0.mk hB1; clear hB1 hc
 go_enter Try.func74, Try.ntmps74
 go_wp2
 repeat (go_quiet (fail); try go_wp2)
 go_ret
 exact ⟨Z148, by repeat (first | exact HB.out | apply pw_below_drewN | apply below_drew1)⟩
def impl_IsSamePiece.f (k : Nat) (a0_0 : Int) (a0_1 : Int) (l0_2 : List Int) (a1_0 : Int) (a1_1 : Int) (l1_2 : List Int) (a2 : Int) : Option (Bool × Bool) := (impl_IsChart.f a0_0 a0_1 l0_2).bind fun b0 => if b0 = true then (impl_IsChart.f a1_0 a1_1 l1_2).bind fun b1 => if b1 = true then (impl_in.f a2 0 100).bind fun b2 => if b2 = true then (impl_matches.f k a0_0 a0_1 l0_2 a1_0 a1_1 l1_2).bind fun l => some (l.any (fun x : S82 => decide (wrap64 (100 * x.f2) ≤ wrap64 (a2 * x.f3))), true) else some (false, false) else some (false, false) else some (false, false)
theorem impl_IsSamePiece.calls (k : Nat) (Ab : Int) (Ac : Int) (Ad : Option Addr) (Ae : Nat) (Aa : List Int) (Ag : Int) (Ah : Int) (Ai : Option Addr) (Aj : Nat) (Af : List Int) (a2 : Int) (r1 : Bool) (r2 : Bool) (w : World) (Ak : Kd.C (Kd.int .i64) w Ad Aa.length Aa) (Al : Aa.length ≤ Ae) (Am : Kd.C (Kd.int .i64) w Ai Af.length Af) (An : Af.length ≤ Aj) (h : impl_IsSamePiece.f k Ab Ac Aa Ag Ah Af a2 = some (r1, r2)) :
  Calls Try.prog 30 #[.agg #[.int .i64 Ab, .int .i64 Ac, .slice Ad Aa.length Ae], .agg #[.int .i64 Ag, .int .i64 Ah, .slice Ai Af.length Aj], .int .i64 a2] w fun e w' => e = .returned (.tuple #[.bool r1, .bool r2]) ∧ Below w.heap.size w w' := by
 have hu28 := Try.underlying28; have hu82 := Try.underlying82
 have hmf : ∀ (fn : Fn) (first cap : Array Value) (w : World), (Instr.makeFunc fn first cap).run Try.prog w = .ok (.func fn first cap) w := fun _ _ _ _ => rfl
 have hB0 : Below w.heap.size w (((w.alloc (.cells #[.int .i64 Ab, .int .i64 Ac, .slice Ad Aa.length Ae] 28)).alloc (.cells #[.int .i64 Ag, .int .i64 Ah, .slice Ai Af.length Aj] 28)).alloc (.cells #[.int .i64 a2] 3)) := below_alloc (below_alloc (below_alloc (Below.refl _ _) _) _) _; have Aq := Aside0.mk hB0; have HV0 := aM (Below.refl (w.heap.size + 3) (((w.alloc (.cells #[.int .i64 Ab, .int .i64 Ac, .slice Ad Aa.length Ae] 28)).alloc (.cells #[.int .i64 Ag, .int .i64 Ah, .slice Ai Af.length Aj] 28)).alloc (.cells #[.int .i64 a2] 3)))
 have hs1 : (w.alloc (.cells #[.int .i64 Ab, .int .i64 Ac, .slice Ad Aa.length Ae] 28)).heap.size = w.heap.size + 1 := by simp
 have hs2 : ((w.alloc (.cells #[.int .i64 Ab, .int .i64 Ac, .slice Ad Aa.length Ae] 28)).alloc (.cells #[.int .i64 Ag, .int .i64 Ah, .slice Ai Af.length Aj] 28)).heap.size = w.heap.size + 2 := by simp
 have hk0 := heap_alloc_new w (.cells #[.int .i64 Ab, .int .i64 Ac, .slice Ad Aa.length Ae] 28); have hk1 := heap_alloc_new (w.alloc (.cells #[.int .i64 Ab, .int .i64 Ac, .slice Ad Aa.length Ae] 28)) (.cells #[.int .i64 Ag, .int .i64 Ah, .slice Ai Af.length Aj] 28); have hk2 := heap_alloc_new ((w.alloc (.cells #[.int .i64 Ab, .int .i64 Ac, .slice Ad Aa.length Ae] 28)).alloc (.cells #[.int .i64 Ag, .int .i64 Ah, .slice Ai Af.length Aj] 28)) (.cells #[.int .i64 a2] 3); rw [hs1] at hk1; rw [hs2] at hk2; have hb0 : Below (w.alloc (.cells #[.int .i64 Ab, .int .i64 Ac, .slice Ad Aa.length Ae] 28)).heap.size (w.alloc (.cells #[.int .i64 Ab, .int .i64 Ac, .slice Ad Aa.length Ae] 28)) (((w.alloc (.cells #[.int .i64 Ab, .int .i64 Ac, .slice Ad Aa.length Ae] 28)).alloc (.cells #[.int .i64 Ag, .int .i64 Ah, .slice Ai Af.length Aj] 28)).alloc (.cells #[.int .i64 a2] 3)) := below_alloc (below_alloc (Below.refl _ _) _) _; have hb1 : Below ((w.alloc (.cells #[.int .i64 Ab, .int .i64 Ac, .slice Ad Aa.length Ae] 28)).alloc (.cells #[.int .i64 Ag, .int .i64 Ah, .slice Ai Af.length Aj] 28)).heap.size ((w.alloc (.cells #[.int .i64 Ab, .int .i64 Ac, .slice Ad Aa.length Ae] 28)).alloc (.cells #[.int .i64 Ag, .int .i64 Ah, .slice Ai Af.length Aj] 28)) (((w.alloc (.cells #[.int .i64 Ab, .int .i64 Ac, .slice Ad Aa.length Ae] 28)).alloc (.cells #[.int .i64 Ag, .int .i64 Ah, .slice Ai Af.length Aj] 28)).alloc (.cells #[.int .i64 a2] 3)) := below_alloc (Below.refl _ _) _; have CELLS : Aside0 (∀ W, Below (w.heap.size + 3) (((w.alloc (.cells #[.int .i64 Ab, .int .i64 Ac, .slice Ad Aa.length Ae] 28)).alloc (.cells #[.int .i64 Ag, .int .i64 Ah, .slice Ai Af.length Aj] 28)).alloc (.cells #[.int .i64 a2] 3)) W → W.cell? ⟨w.heap.size, 0, none⟩ = some (.int .i64 Ab) ∧ W.cell? ⟨w.heap.size, 1, none⟩ = some (.int .i64 Ac) ∧ W.cell? ⟨w.heap.size, 2, none⟩ = some (.slice Ad Aa.length Ae) ∧ W.cell? ⟨w.heap.size + 1, 0, none⟩ = some (.int .i64 Ag) ∧ W.cell? ⟨w.heap.size + 1, 1, none⟩ = some (.int .i64 Ah) ∧ W.cell? ⟨w.heap.size + 1, 2, none⟩ = some (.slice Ai Af.length Aj) ∧ W.cell? ⟨w.heap.size + 2, 0, none⟩ = some (.int .i64 a2)) := ⟨fun W hb => ⟨(hb.cell (p := ⟨w.heap.size, 0, none⟩) (show w.heap.size < w.heap.size + 3 by omega)).trans ((hb0.cell (p := ⟨w.heap.size, 0, none⟩) (by simp)).trans (((blk_cell hk0 0).trans rfl))), (hb.cell (p := ⟨w.heap.size, 1, none⟩) (show w.heap.size < w.heap.size + 3 by omega)).trans ((hb0.cell (p := ⟨w.heap.size, 1, none⟩) (by simp)).trans (((blk_cell hk0 1).trans rfl))), (hb.cell (p := ⟨w.heap.size, 2, none⟩) (show w.heap.size < w.heap.size + 3 by omega)).trans ((hb0.cell (p := ⟨w.heap.size, 2, none⟩) (by simp)).trans (((blk_cell hk0 2).trans rfl))), (hb.cell (p := ⟨w.heap.size + 1, 0, none⟩) (show w.heap.size + 1 < w.heap.size + 3 by omega)).trans ((hb1.cell (p := ⟨w.heap.size + 1, 0, none⟩) (by simp)).trans (((blk_cell hk1 0).trans rfl))), (hb.cell (p := ⟨w.heap.size + 1, 1, none⟩) (show w.heap.size + 1 < w.heap.size + 3 by omega)).trans ((hb1.cell (p := ⟨w.heap.size + 1, 1, none⟩) (by simp)).trans (((blk_cell hk1 1).trans rfl))), (hb.cell (p := ⟨w.heap.size + 1, 2, none⟩) (show w.heap.size + 1 < w.heap.size + 3 by omega)).trans ((hb1.cell (p := ⟨w.heap.size + 1, 2, none⟩) (by simp)).trans (((blk_cell hk1 2).trans rfl))), (hb.cell (p := ⟨w.heap.size + 2, 0, none⟩) (show w.heap.size + 2 < w.heap.size + 3 by omega)).trans (((blk_cell hk2 0).trans rfl))⟩⟩; clear hk0 hk1 hk2 hb0 hb1 hs1 hs2; obtain ⟨b0, hb0, h⟩ := Option.bind_eq_some_iff.mp h; have Au : Aside0 (∀ W, Below w.heap.size w W → _) := ⟨fun W hb => impl_IsChart.calls Ab Ac Ad Ae Aa b0 W (Kd.C_below Ak hb) Al hb0⟩; clear hB0; cases b0 with
 | false =>
  simp only [Bool.false_eq_true, if_false, Option.some.injEq, Prod.mk.injEq] at h
  obtain ⟨rfl, rfl⟩ := h; clear Ak Al Am An hb0
  go_enter Try.func30, Try.ntmps30
  obtain ⟨z0, z1, z2, z3, z4, z5, z6⟩ := CELLS.out _ HV0.out
  go_wp2_with fail
  refine (Au.out _ Aq.out).mono ?_; rintro e w1 ⟨rfl, hb'⟩; have Ap := aM (below_step Aq.out hb'); have HV1 := aM (show Below (w.heap.size + 3) (((w.alloc (.cells #[.int .i64 Ab, .int .i64 Ac, .slice Ad Aa.length Ae] 28)).alloc (.cells #[.int .i64 Ag, .int .i64 Ah, .slice Ai Af.length Aj] 28)).alloc (.cells #[.int .i64 a2] 3)) w1 from HV0.out.trans (hb'.mono (by simp))); clear hb'; clear z0 z1 z2 z3 z4 z5 z6; obtain ⟨z0, z1, z2, z3, z4, z5, z6⟩ := CELLS.out _ HV1.out
  go_wp2
  go_ret2
  exact ⟨Z148, Ap.out⟩
 | true =>
  rw [if_pos rfl] at h; obtain ⟨b1, hb1, h⟩ := Option.bind_eq_some_iff.mp h; have Aw : Aside0 (∀ W, Below w.heap.size w W → _) := ⟨fun W hb => impl_IsChart.calls Ag Ah Ai Aj Af b1 W (Kd.C_below Am hb) An hb1⟩; cases b1 with
  | false =>
   simp only [Bool.false_eq_true, if_false, Option.some.injEq, Prod.mk.injEq] at h
   obtain ⟨rfl, rfl⟩ := h; clear Ak Al Am An hb0 hb1
   go_enter Try.func30, Try.ntmps30
   obtain ⟨z0, z1, z2, z3, z4, z5, z6⟩ := CELLS.out _ HV0.out
   go_wp2_with fail
   refine (Au.out _ Aq.out).mono ?_; rintro e w1 ⟨rfl, hb'⟩; have Ap := aM (below_step Aq.out hb'); have HV1 := aM (show Below (w.heap.size + 3) (((w.alloc (.cells #[.int .i64 Ab, .int .i64 Ac, .slice Ad Aa.length Ae] 28)).alloc (.cells #[.int .i64 Ag, .int .i64 Ah, .slice Ai Af.length Aj] 28)).alloc (.cells #[.int .i64 a2] 3)) w1 from HV0.out.trans (hb'.mono (by simp))); clear hb'; clear z0 z1 z2 z3 z4 z5 z6; obtain ⟨z0, z1, z2, z3, z4, z5, z6⟩ := CELLS.out _ HV1.out
   go_wp2_with fail
   refine (Aw.out _ Ap.out).mono ?_; rintro e w2 ⟨rfl, hb'⟩; have Ar := aM (below_step Ap.out hb'); have HV2 := aM (show Below (w.heap.size + 3) (((w.alloc (.cells #[.int .i64 Ab, .int .i64 Ac, .slice Ad Aa.length Ae] 28)).alloc (.cells #[.int .i64 Ag, .int .i64 Ah, .slice Ai Af.length Aj] 28)).alloc (.cells #[.int .i64 a2] 3)) w2 from HV1.out.trans (hb'.mono Z229)); clear hb'; clear z0 z1 z2 z3 z4 z5 z6; obtain ⟨z0, z1, z2, z3, z4, z5, z6⟩ := CELLS.out _ HV2.out
   go_wp2
   go_ret2
   exact ⟨Z148, Ar.out⟩
  | true =>
   rw [if_pos rfl] at h; obtain ⟨b2, hb2, h⟩ := Option.bind_eq_some_iff.mp h; have Ax : Aside0 (∀ W, Below w.heap.size w W → Calls Try.prog 73 #[.int .i64 a2, .int .i64 0, .int .i64 100] W fun e w' => e = .returned (.bool b2) ∧ Below W.heap.size W w') := ⟨fun W hb => (impl_in.calls a2 0 100 b2 W hb2).mono fun e w' ⟨he, hd⟩ => ⟨he, hd.below⟩⟩; cases b2 with
   | false =>
    simp only [Bool.false_eq_true, if_false, Option.some.injEq, Prod.mk.injEq] at h
    obtain ⟨rfl, rfl⟩ := h; clear Ak Al Am An hb0 hb1 hb2
    go_enter Try.func30, Try.ntmps30
    obtain ⟨z0, z1, z2, z3, z4, z5, z6⟩ := CELLS.out _ HV0.out
    go_wp2_with fail
    refine (Au.out _ Aq.out).mono ?_; rintro e w1 ⟨rfl, hb'⟩; have Ap := aM (below_step Aq.out hb'); have HV1 := aM (show Below (w.heap.size + 3) (((w.alloc (.cells #[.int .i64 Ab, .int .i64 Ac, .slice Ad Aa.length Ae] 28)).alloc (.cells #[.int .i64 Ag, .int .i64 Ah, .slice Ai Af.length Aj] 28)).alloc (.cells #[.int .i64 a2] 3)) w1 from HV0.out.trans (hb'.mono (by simp))); clear hb'; clear z0 z1 z2 z3 z4 z5 z6; obtain ⟨z0, z1, z2, z3, z4, z5, z6⟩ := CELLS.out _ HV1.out
    go_wp2_with fail
    refine (Aw.out _ Ap.out).mono ?_; rintro e w2 ⟨rfl, hb'⟩; have Ar := aM (below_step Ap.out hb'); have HV2 := aM (show Below (w.heap.size + 3) (((w.alloc (.cells #[.int .i64 Ab, .int .i64 Ac, .slice Ad Aa.length Ae] 28)).alloc (.cells #[.int .i64 Ag, .int .i64 Ah, .slice Ai Af.length Aj] 28)).alloc (.cells #[.int .i64 a2] 3)) w2 from HV1.out.trans (hb'.mono Z229)); clear hb'; clear z0 z1 z2 z3 z4 z5 z6; obtain ⟨z0, z1, z2, z3, z4, z5, z6⟩ := CELLS.out _ HV2.out
    go_wp2_with fail
    refine (Ax.out _ Ar.out).mono ?_; rintro e w3 ⟨rfl, hb'⟩; have Av := aM (below_step Ar.out hb'); have HV3 := aM (show Below (w.heap.size + 3) (((w.alloc (.cells #[.int .i64 Ab, .int .i64 Ac, .slice Ad Aa.length Ae] 28)).alloc (.cells #[.int .i64 Ag, .int .i64 Ah, .slice Ai Af.length Aj] 28)).alloc (.cells #[.int .i64 a2] 3)) w3 from HV2.out.trans (hb'.mono Z241)); clear hb'; clear z0 z1 z2 z3 z4 z5 z6; obtain ⟨z0, z1, z2, z3, z4, z5, z6⟩ := CELLS.out _ HV3.out
    go_wp2
    go_ret2
    exact ⟨Z148, Av.out⟩
   | true =>
    rw [if_pos rfl] at h; obtain ⟨l, hl, h⟩ := Option.bind_eq_some_iff.mp h
    simp only [Option.some.injEq, Prod.mk.injEq] at h
    obtain ⟨rfl, rfl⟩ := h; have HM : Aside0 (∀ W, Below w.heap.size w W → _) := ⟨fun W hb => impl_matches.calls k Ab Ac Ad Ae Aa Ag Ah Ai Aj Af l W (Kd.C_below Ak hb) Al (Kd.C_below Am hb) An hl⟩
    have HF : Aside0 (∀ (A : Option Addr) (c : Nat) (W : World), Below (w.heap.size + 3) (((w.alloc (.cells #[.int .i64 Ab, .int .i64 Ac, .slice Ad Aa.length Ae] 28)).alloc (.cells #[.int .i64 Ag, .int .i64 Ah, .slice Ai Af.length Aj] 28)).alloc (.cells #[.int .i64 a2] 3)) W → Kd.C k82 W A l.length l → Calls Try.prog 75 #[.slice A l.length c, .func (.func 74) #[] #[.pointer (some ⟨w.heap.size + 2, 0, none⟩)]] W fun e w' => e = .returned (.bool (l.any (fun x : S82 => decide (wrap64 (100 * x.f2) ≤ wrap64 (a2 * x.f3))))) ∧ Below W.heap.size W w') := ⟨fun A c W hb hC => ContainsFunc_match (fun x : S82 => decide (wrap64 (100 * x.f2) ≤ wrap64 (a2 * x.f3))) 74 #[.pointer (some ⟨w.heap.size + 2, 0, none⟩)] A c l W (enters_of Try.func74 Z61 rfl) hC
     (fun W2 x hb2 => isSamePiece_1 (w.heap.size + 2) x a2 W2 ((hb2.cell (p := ⟨w.heap.size + 2, 0, none⟩) (show w.heap.size + 2 < W.heap.size by have := hb.size; simp at this; omega)).trans (CELLS.out _ hb).2.2.2.2.2.2) (by have := hb.size; have := hb2.size; simp at *; omega))⟩
    clear Ak Al Am An hb0 hb1 hb2 hl
    go_enter Try.func30, Try.ntmps30
    obtain ⟨z0, z1, z2, z3, z4, z5, z6⟩ := CELLS.out _ HV0.out
    go_wp2_with fail
    refine (Au.out _ Aq.out).mono ?_; rintro e w1 ⟨rfl, hb'⟩; have Ap := aM (below_step Aq.out hb'); have HV1 := aM (show Below (w.heap.size + 3) (((w.alloc (.cells #[.int .i64 Ab, .int .i64 Ac, .slice Ad Aa.length Ae] 28)).alloc (.cells #[.int .i64 Ag, .int .i64 Ah, .slice Ai Af.length Aj] 28)).alloc (.cells #[.int .i64 a2] 3)) w1 from HV0.out.trans (hb'.mono (by simp))); clear hb'; clear z0 z1 z2 z3 z4 z5 z6; obtain ⟨z0, z1, z2, z3, z4, z5, z6⟩ := CELLS.out _ HV1.out
    go_wp2_with fail
    refine (Aw.out _ Ap.out).mono ?_; rintro e w2 ⟨rfl, hb'⟩; have Ar := aM (below_step Ap.out hb'); have HV2 := aM (show Below (w.heap.size + 3) (((w.alloc (.cells #[.int .i64 Ab, .int .i64 Ac, .slice Ad Aa.length Ae] 28)).alloc (.cells #[.int .i64 Ag, .int .i64 Ah, .slice Ai Af.length Aj] 28)).alloc (.cells #[.int .i64 a2] 3)) w2 from HV1.out.trans (hb'.mono Z229)); clear hb'; clear z0 z1 z2 z3 z4 z5 z6; obtain ⟨z0, z1, z2, z3, z4, z5, z6⟩ := CELLS.out _ HV2.out
    go_wp2_with fail
    refine (Ax.out _ Ar.out).mono ?_; rintro e w3 ⟨rfl, hb'⟩; have Av := aM (below_step Ar.out hb'); have HV3 := aM (show Below (w.heap.size + 3) (((w.alloc (.cells #[.int .i64 Ab, .int .i64 Ac, .slice Ad Aa.length Ae] 28)).alloc (.cells #[.int .i64 Ag, .int .i64 Ah, .slice Ai Af.length Aj] 28)).alloc (.cells #[.int .i64 a2] 3)) w3 from HV2.out.trans (hb'.mono Z241)); clear hb'; clear z0 z1 z2 z3 z4 z5 z6; obtain ⟨z0, z1, z2, z3, z4, z5, z6⟩ := CELLS.out _ HV3.out
    go_wp2_with fail
    refine (HM.out _ Av.out).mono ?_; rintro e w4 ⟨v0_, rfl, ho, hb'⟩; obtain ⟨A, c, rfl, hlc, hC⟩ := Kd.R_reads ho; have Ay := aM (below_step Av.out hb'); have HV4 := aM (show Below (w.heap.size + 3) (((w.alloc (.cells #[.int .i64 Ab, .int .i64 Ac, .slice Ad Aa.length Ae] 28)).alloc (.cells #[.int .i64 Ag, .int .i64 Ah, .slice Ai Af.length Aj] 28)).alloc (.cells #[.int .i64 a2] 3)) w4 from HV3.out.trans (hb'.mono (by have := HV3.out.size; simpa using this))); have Az := Aside0.mk hC; clear hb' ho hlc hC; clear z0 z1 z2 z3 z4 z5 z6
    go_wp2_with fail
    refine (HF.out A c _ HV4.out Az.out).mono ?_; rintro e w5 ⟨rfl, hb'⟩
    go_wp2
    go_ret2
    exact ⟨Z148, below_step Ay.out hb'⟩
end Go.Proofs.Ytcjalfgnnabghaa.H
