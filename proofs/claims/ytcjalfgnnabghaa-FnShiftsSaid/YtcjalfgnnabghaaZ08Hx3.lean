-- by wip/pack.py of this repo
import Derived.Test.YtcjalfgnnabghaaZ08Hx0
import Derived.Test.YtcjalfgnnabghaaZ08Hx2
import Derived.Test.YtcjalfgnnabghaaZ08WLast
import Derived.Test.YtcjalfgnnabghaaZ08WMore
import Derived.Test.YtcjalfgnnabghaaZ08WWords
import Derived.Test.YtcjalfgnnabghaaZ08Short
namespace Go.Proofs.Ytcjalfgnnabghaa.H
open Go.RowKit Go.Proofs.YtcjalfgnnabghaaW.PrintWords Go.Proofs.YtcjalfgnnabghaaW.PrintLast Go.Proofs.YtcjalfgnnabghaaW.PrintMore
attribute [local go_sem] max2_int min2_int max_two min_two max_three min_three max_four min_four
set_option maxHeartbeats 8000000
set_option maxRecDepth 100000
set_option linter.unusedVariables false
set_option linter.unusedSimpArgs false
def spec_l13Shift.f (k : Nat) (a0_0 : Int) (a0_1 : Int) (l0_2 : List Int) (a1_0 : Int) (a1_1 : Int) (l1_2 : List Int) (a2 : Int) (a3 : Int) : Option (Bool) := (spec_l2Good.f k a0_0 a0_1 l0_2).bind fun t112 => (if t112 = true then ((spec_l2Good.f k a1_0 a1_1 l1_2).bind fun t113 => (if t113 = true then ((spec_l1In.f a2 (-2) 2).bind fun t114 => (if t114 = true then ((spec_l1In.f a3 (-2) 2).bind fun t115 => (some t115)) else (some false))) else (some false))) else (some false))
theorem spec_l13Shift.calls (k : Nat) (Ai : Int) (Aj : Int) (Ap : Option Addr) (Aq : Nat) (Ag : List Int) (Al : Int) (Am : Int) (Aw : Option Addr) (Ax : Nat) (Ak : List Int) (a2 : Int) (a3 : Int) (r : Bool) (w : World) (Bg : Kd.C (Kd.int .i64) w Ap Ag.length Ag) (Bh : Ag.length ≤ Aq) (Bi : Kd.C (Kd.int .i64) w Aw Ak.length Ak) (Bj : Ak.length ≤ Ax) (h : spec_l13Shift.f k Ai Aj Ag Al Am Ak a2 a3 = some r) :
  Calls Try.prog 52 #[.agg #[.int .i64 Ai, .int .i64 Aj, .slice Ap Ag.length Aq], .agg #[.int .i64 Al, .int .i64 Am, .slice Aw Ak.length Ax], .int .i64 a2, .int .i64 a3] w fun e w' => e = .returned (.bool r) ∧ Below w.heap.size w w' := by
 have hu28 := Try.underlying28; have Au := Aside0.mk Bg; have Av := Aside0.mk Bh; clear Bg Bh; have Ay := Aside0.mk Bi; have Az := Aside0.mk Bj; clear Bi Bj; have HB := aM (Below.refl w.heap.size w); have H : ((spec_l2Good.f k Ai Aj Ag).bind fun Bf => (if Bf = true then ((spec_l2Good.f k Al Am Ak).bind fun Ar => (if Ar = true then ((spec_l1In.f a2 (-2) 2).bind fun An => (if An = true then ((spec_l1In.f a3 (-2) 2).bind fun Ah => (some Ah)) else (some false))) else (some false))) else (some false))) = some r := h; clear h; replace H := Option.bind_eq_some_iff.mp H; obtain ⟨Bf, C0, H⟩ := H; replace H : (if Bf = true then ((spec_l2Good.f k Al Am Ak).bind fun Ar => (if Ar = true then ((spec_l1In.f a2 (-2) 2).bind fun An => (if An = true then ((spec_l1In.f a3 (-2) 2).bind fun Ah => (some Ah)) else (some false))) else (some false))) else (some false)) = some r := H; have A5 := Aside0.mk C0; clear C0
 by_cases c6 : Bf = true
 ·subst c6
  have H1 : ((spec_l2Good.f k Al Am Ak).bind fun Ar => (if Ar = true then ((spec_l1In.f a2 (-2) 2).bind fun An => (if An = true then ((spec_l1In.f a3 (-2) 2).bind fun Ah => (some Ah)) else (some false))) else (some false))) = some r := by rw [if_pos rfl] at H; exact H
  clear H; have H := H1; clear H1; replace H := Option.bind_eq_some_iff.mp H; obtain ⟨Ar, C1, H⟩ := H; replace H : (if Ar = true then ((spec_l1In.f a2 (-2) 2).bind fun An => (if An = true then ((spec_l1In.f a3 (-2) 2).bind fun Ah => (some Ah)) else (some false))) else (some false)) = some r := H; have A7 := Aside0.mk C1; clear C1
  by_cases c8 : Ar = true
  ·subst c8
   have H1 : ((spec_l1In.f a2 (-2) 2).bind fun An => (if An = true then ((spec_l1In.f a3 (-2) 2).bind fun Ah => (some Ah)) else (some false))) = some r := by rw [if_pos rfl] at H; exact H
   clear H; have H := H1; clear H1; replace H := Option.bind_eq_some_iff.mp H; obtain ⟨An, C2, H⟩ := H; replace H : (if An = true then ((spec_l1In.f a3 (-2) 2).bind fun Ah => (some Ah)) else (some false)) = some r := H; have A9 := Aside0.mk C2; clear C2
   by_cases Bl : An = true
   ·subst Bl
    have H1 : ((spec_l1In.f a3 (-2) 2).bind fun Ah => (some Ah)) = some r := by rw [if_pos rfl] at H; exact H
    clear H; have H := H1; clear H1; replace H := Option.bind_eq_some_iff.mp H; obtain ⟨Ah, Bk, H⟩ := H; replace H : (some Ah) = some r := H; have Db := Aside0.mk Bk; clear Bk; obtain rfl := Option.some.inj H
    go_enter Try.func52, Try.ntmps52
    go_wp2_with (first | ((with_reducible refine gate_dst (N := 4) rfl ?_); refine bxE 4 #[.int .i64 Ai, .int .i64 Aj, .slice Ap Ag.length Aq] 28 ?_; intro Ba hg Dc hbox hb; have Aa := aM (hbox); have Bb := gwS hg Z0; have Ab := gwS hg Z0; replace HB := hbS Z0 hb; clear hb hbox hg) | ((with_reducible refine gate_dst (N := 5) rfl ?_); refine bxE 5 #[.int .i64 Al, .int .i64 Am, .slice Aw Ak.length Ax] 28 ?_; intro Bc hg Dd hbox hb; have Ac := aM (hbox); have Bd := gwS hg Z16; have Af := gwS hg Z16; replace HB := hbS Z16 hb; have Ad := nbL hg Aa; have Ae := nbG hg Aa; replace Aa := bkB Aa hb; clear hb hbox hg; have C3 := Ad.out; have C4 := Ae.out; obtain ⟨Bm, Bn, Bo⟩ := bz3 Aa; obtain ⟨Bp, Bq, Br⟩ := fz3 Aa) | ((with_reducible refine gate_callee (f := 71) rfl ?_); refine glE (some 10) Try.func71 #[.agg #[.int .i64 Ai, .int .i64 Aj, .slice Ap Ag.length Aq]] ?_; (with_reducible refine (spec_l2Good.calls k Ai Aj _ _ Ag true _ ?side1 ?side2 A5.out).mono ?_); (case side1 => exact Z85); (case side2 => exact Av.out); rintro e De ⟨rfl, hb⟩; refine ⟨_, rfl, ?_⟩; replace Aa := bkB Aa hb; replace Ac := bkB Ac hb; replace HB := hbS Z41 hb; (try clear hb); obtain ⟨Bs, Bt, Bu⟩ := bz3 Ac; obtain ⟨Bv, Bw, Bx⟩ := fz3 Ac) | (go_at_call 71; (with_reducible refine (spec_l2Good.calls k Al Am _ _ Ak true _ ?side1 ?side2 A7.out).mono ?_); (case side1 => exact Z167); (case side2 => exact Az.out); rintro e Df ⟨rfl, hb⟩; replace Aa := bkB Aa hb; replace Ac := bkB Ac hb; replace HB := hbS Z41 hb; (try clear hb)) | (go_at_call 72; (with_reducible refine (spec_l1In.calls a2 (-2) 2 true _ A9.out).mono ?_); rintro e w' ⟨rfl, ⟨nd, rfl⟩⟩) | (go_at_call 72; (with_reducible refine (spec_l1In.calls a3 (-2) 2 Ah _ Db.out).mono ?_); rintro e w' ⟨rfl, ⟨nd, rfl⟩⟩))
    go_ret
    exact ⟨Z9, Z41⟩
   ·replace Bl := Bool.eq_false_iff.mpr Bl
    subst Bl
    have H1 : (some false) = some r := by rw [if_neg (show ¬ (false = true) by decide)] at H; exact H
    clear H; have H := H1; clear H1; obtain rfl := Option.some.inj H
    go_enter Try.func52, Try.ntmps52
    go_wp2_with (first | ((with_reducible refine gate_dst (N := 4) rfl ?_); refine bxE 4 #[.int .i64 Ai, .int .i64 Aj, .slice Ap Ag.length Aq] 28 ?_; intro Ba hg Dg hbox hb; have Aa := aM (hbox); have Bb := gwS hg Z0; have Ab := gwS hg Z0; replace HB := hbS Z0 hb; clear hb hbox hg) | ((with_reducible refine gate_dst (N := 5) rfl ?_); refine bxE 5 #[.int .i64 Al, .int .i64 Am, .slice Aw Ak.length Ax] 28 ?_; intro Bc hg Dh hbox hb; have Ac := aM (hbox); have Bd := gwS hg Z16; have Af := gwS hg Z16; replace HB := hbS Z16 hb; have Ad := nbL hg Aa; have Ae := nbG hg Aa; replace Aa := bkB Aa hb; clear hb hbox hg; have C5 := Ad.out; have C6 := Ae.out; obtain ⟨Bz, B0, B6⟩ := bz3 Aa; obtain ⟨B9, Ca, Cb⟩ := fz3 Aa) | ((with_reducible refine gate_callee (f := 71) rfl ?_); refine glE (some 10) Try.func71 #[.agg #[.int .i64 Ai, .int .i64 Aj, .slice Ap Ag.length Aq]] ?_; (with_reducible refine (spec_l2Good.calls k Ai Aj _ _ Ag true _ ?side1 ?side2 A5.out).mono ?_); (case side1 => exact Z85); (case side2 => exact Av.out); rintro e Di ⟨rfl, hb⟩; refine ⟨_, rfl, ?_⟩; replace Aa := bkB Aa hb; replace Ac := bkB Ac hb; replace HB := hbS Z41 hb; (try clear hb); obtain ⟨Cc, Cd, Ce⟩ := bz3 Ac; obtain ⟨Cf, Cg, Ch⟩ := fz3 Ac) | (go_at_call 71; (with_reducible refine (spec_l2Good.calls k Al Am _ _ Ak true _ ?side1 ?side2 A7.out).mono ?_); (case side1 => exact Z167); (case side2 => exact Az.out); rintro e Dj ⟨rfl, hb⟩; replace Aa := bkB Aa hb; replace Ac := bkB Ac hb; replace HB := hbS Z41 hb; (try clear hb)) | (go_at_call 72; (with_reducible refine (spec_l1In.calls a2 (-2) 2 false _ A9.out).mono ?_); rintro e w' ⟨rfl, ⟨nd, rfl⟩⟩))
    go_ret
    exact ⟨Z9, Z41⟩
  ·replace c8 := Bool.eq_false_iff.mpr c8
   subst c8
   have H1 : (some false) = some r := by rw [if_neg (show ¬ (false = true) by decide)] at H; exact H
   clear H; have H := H1; clear H1; obtain rfl := Option.some.inj H
   go_enter Try.func52, Try.ntmps52
   go_wp2_with (first | ((with_reducible refine gate_dst (N := 4) rfl ?_); refine bxE 4 #[.int .i64 Ai, .int .i64 Aj, .slice Ap Ag.length Aq] 28 ?_; intro Ba hg Dk hbox hb; have Aa := aM (hbox); have Bb := gwS hg Z0; have Ab := gwS hg Z0; replace HB := hbS Z0 hb; clear hb hbox hg) | ((with_reducible refine gate_dst (N := 5) rfl ?_); refine bxE 5 #[.int .i64 Al, .int .i64 Am, .slice Aw Ak.length Ax] 28 ?_; intro Bc hg Dl hbox hb; have Ac := aM (hbox); have Bd := gwS hg Z16; have Af := gwS hg Z16; replace HB := hbS Z16 hb; have Ad := nbL hg Aa; have Ae := nbG hg Aa; replace Aa := bkB Aa hb; clear hb hbox hg; have C7 := Ad.out; have C8 := Ae.out; obtain ⟨Ci, Cj, Ck⟩ := bz3 Aa; obtain ⟨Cl, Cm, Cn⟩ := fz3 Aa) | ((with_reducible refine gate_callee (f := 71) rfl ?_); refine glE (some 10) Try.func71 #[.agg #[.int .i64 Ai, .int .i64 Aj, .slice Ap Ag.length Aq]] ?_; (with_reducible refine (spec_l2Good.calls k Ai Aj _ _ Ag true _ ?side1 ?side2 A5.out).mono ?_); (case side1 => exact Z85); (case side2 => exact Av.out); rintro e Dm ⟨rfl, hb⟩; refine ⟨_, rfl, ?_⟩; replace Aa := bkB Aa hb; replace Ac := bkB Ac hb; replace HB := hbS Z41 hb; (try clear hb); obtain ⟨Co, Cp, Cq⟩ := bz3 Ac; obtain ⟨Cr, Cs, Ct⟩ := fz3 Ac) | (go_at_call 71; (with_reducible refine (spec_l2Good.calls k Al Am _ _ Ak false _ ?side1 ?side2 A7.out).mono ?_); (case side1 => exact Z167); (case side2 => exact Az.out); rintro e Dn ⟨rfl, hb⟩; replace Aa := bkB Aa hb; replace Ac := bkB Ac hb; replace HB := hbS Z41 hb; (try clear hb)))
   go_ret
   exact ⟨Z9, Z41⟩
 ·replace c6 := Bool.eq_false_iff.mpr c6
  subst c6
  have H1 : (some false) = some r := by rw [if_neg (show ¬ (false = true) by decide)] at H; exact H
  clear H; have H := H1; clear H1; obtain rfl := Option.some.inj H
  go_enter Try.func52, Try.ntmps52
  go_wp2_with (first | ((with_reducible refine gate_dst (N := 4) rfl ?_); refine bxE 4 #[.int .i64 Ai, .int .i64 Aj, .slice Ap Ag.length Aq] 28 ?_; intro Ba hg Dp hbox hb; have Aa := aM (hbox); have Bb := gwS hg Z0; have Ab := gwS hg Z0; replace HB := hbS Z0 hb; clear hb hbox hg) | ((with_reducible refine gate_dst (N := 5) rfl ?_); refine bxE 5 #[.int .i64 Al, .int .i64 Am, .slice Aw Ak.length Ax] 28 ?_; intro Bc hg Dq hbox hb; have Ac := aM (hbox); have Bd := gwS hg Z16; have Af := gwS hg Z16; replace HB := hbS Z16 hb; have Ad := nbL hg Aa; have Ae := nbG hg Aa; replace Aa := bkB Aa hb; clear hb hbox hg; have C9 := Ad.out; have Da := Ae.out; obtain ⟨Cu, Cv, Cw⟩ := bz3 Aa; obtain ⟨Cx, Cy, Cz⟩ := fz3 Aa) | ((with_reducible refine gate_callee (f := 71) rfl ?_); refine glE (some 10) Try.func71 #[.agg #[.int .i64 Ai, .int .i64 Aj, .slice Ap Ag.length Aq]] ?_; (with_reducible refine (spec_l2Good.calls k Ai Aj _ _ Ag false _ ?side1 ?side2 A5.out).mono ?_); (case side1 => exact Z85); (case side2 => exact Av.out); rintro e Dr ⟨rfl, hb⟩; refine ⟨_, rfl, ?_⟩; replace Aa := bkB Aa hb; replace Ac := bkB Ac hb; replace HB := hbS Z41 hb; (try clear hb)))
  go_ret
  exact ⟨Z9, Z41⟩
def impl_isShift.f (a0 : Int) (a1 : Int) : Option (Bool) := (impl_in.f a0 (-2) 2).bind fun t157 => (if t157 = true then ((impl_in.f a1 (-2) 2).bind fun t158 => (some t158)) else (some false))
theorem impl_isShift.calls (a0 : Int) (a1 : Int) (r : Bool) (w : World) (h : impl_isShift.f a0 a1 = some r) :
  Calls Try.prog 67 #[.int .i64 a0, .int .i64 a1] w fun e w' => e = .returned (.bool r) ∧ Drawn0 w w' := by
 have H : ((impl_in.f a0 (-2) 2).bind fun Ab => (if Ab = true then ((impl_in.f a1 (-2) 2).bind fun Aa => (some Aa)) else (some false))) = some r := h; clear h; replace H := Option.bind_eq_some_iff.mp H; obtain ⟨Ab, Ac, H⟩ := H; replace H : (if Ab = true then ((impl_in.f a1 (-2) 2).bind fun Aa => (some Aa)) else (some false)) = some r := H; have A3 := Aside0.mk Ac; clear Ac
 by_cases c4 : Ab = true
 ·subst c4
  have H1 : ((impl_in.f a1 (-2) 2).bind fun Aa => (some Aa)) = some r := by rw [if_pos rfl] at H; exact H
  clear H; have H := H1; clear H1; replace H := Option.bind_eq_some_iff.mp H; obtain ⟨Aa, Ad, H⟩ := H; replace H : (some Aa) = some r := H; have A5 := Aside0.mk Ad; clear Ad; obtain rfl := Option.some.inj H
  go_enter Try.func67, Try.ntmps67
  go_wp2_with (first | ((with_reducible refine gate_callee (f := 73) rfl ?_); refine glE (some 6) Try.func73 #[.int .i64 a0, .int .i64 (-2), .int .i64 2] ?_; (with_reducible refine (impl_in.calls a0 (-2) 2 true _ A3.out).mono ?_); rintro e w' ⟨rfl, ⟨nd, rfl⟩⟩; refine ⟨_, rfl, ?_⟩) | (go_at_call 73; (with_reducible refine (impl_in.calls a1 (-2) 2 Aa _ A5.out).mono ?_); rintro e w' ⟨rfl, ⟨nd, rfl⟩⟩))
  go_ret
  exact ⟨Z10, Z108⟩
 ·replace c4 := Bool.eq_false_iff.mpr c4
  subst c4
  have H1 : (some false) = some r := by rw [if_neg (show ¬ (false = true) by decide)] at H; exact H
  clear H; have H := H1; clear H1; obtain rfl := Option.some.inj H
  go_enter Try.func67, Try.ntmps67
  go_wp2_with (first | ((with_reducible refine gate_callee (f := 73) rfl ?_); refine glE (some 6) Try.func73 #[.int .i64 a0, .int .i64 (-2), .int .i64 2] ?_; (with_reducible refine (impl_in.calls a0 (-2) 2 false _ A3.out).mono ?_); rintro e w' ⟨rfl, ⟨nd, rfl⟩⟩; refine ⟨_, rfl, ?_⟩))
  go_ret
  exact ⟨Z10, Z108⟩
end Go.Proofs.Ytcjalfgnnabghaa.H
