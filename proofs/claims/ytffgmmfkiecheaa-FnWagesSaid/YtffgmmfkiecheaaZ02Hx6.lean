-- by wip/pack.py of this repo
import Derived.Test.YtffgmmfkiecheaaZ02Hx0
import Derived.Test.YtffgmmfkiecheaaZ02Hx2
import Derived.Test.YtffgmmfkiecheaaZ02Hx3
import Derived.Test.YtffgmmfkiecheaaZ02Hx4
import Derived.Test.YtffgmmfkiecheaaZ02WLast
import Derived.Test.YtffgmmfkiecheaaZ02WMore
import Derived.Test.YtffgmmfkiecheaaZ02WTab
import Derived.Test.YtffgmmfkiecheaaZ02WWords
import Derived.Test.YtffgmmfkiecheaaZ02Short
namespace Go.Proofs.Ytffgmmfkiecheaa.H
open Go.RowKit Go.Proofs.YtffgmmfkiecheaaW.PrintWords Go.Proofs.YtffgmmfkiecheaaW.PrintLast Go.Proofs.YtffgmmfkiecheaaW.PrintMore
attribute [local go_sem] max2_int min2_int max_two min_two max_three min_three max_four min_four
set_option maxHeartbeats 8000000
set_option maxRecDepth 100000
set_option linter.unusedVariables false
set_option linter.unusedSimpArgs false
def spec_l14Cents.f (a0 : Int) : Option (Bool) := (spec_l1In.f a0 0 10000).bind fun t101 => (some t101)
theorem spec_l14Cents.calls (a0 : Int) (r : Bool) (w : World) (h : spec_l14Cents.f a0 = some r) :
  Calls Try.prog 62 #[.int .i64 a0] w fun e w' => e = .returned (.bool r) ∧ Drawn0 w w' := by
 have H : ((spec_l1In.f a0 0 10000).bind fun Aa => (some Aa)) = some r := h; clear h; replace H := Option.bind_eq_some_iff.mp H; obtain ⟨Aa, Ab, H⟩ := H; replace H : (some Aa) = some r := H; have A2 := Aside0.mk Ab; clear Ab; obtain rfl := Option.some.inj H
 go_enter Try.func62, Try.ntmps62
 go_wp2_with (first | ((with_reducible refine gate_callee (f := 53) rfl ?_); refine glE (some 4) Try.func53 #[.int .i64 a0, .int .i64 0, .int .i64 10000] ?_; (with_reducible refine (spec_l1In.calls a0 0 10000 Aa _ A2.out).mono ?_); rintro e w' ⟨rfl, ⟨nd, rfl⟩⟩; refine ⟨_, rfl, ?_⟩))
 go_ret
 exact ⟨Z30, Z58⟩
def spec_l14Rates.f (a0_0 : Int) (a0_1 : Int) (a0_2 : Int) (a0_3 : Int) (a0_4 : Int) : Option (Bool) := (spec_l14Cents.f a0_0).bind fun t103 => (if t103 = true then ((spec_l14Cents.f a0_1).bind fun t104 => (if t104 = true then ((spec_l14Cents.f a0_2).bind fun t105 => (if t105 = true then ((spec_l14Cents.f a0_3).bind fun t106 => (if t106 = true then ((spec_l14Cents.f a0_4).bind fun t107 => (some t107)) else (some false))) else (some false))) else (some false))) else (some false))
theorem spec_l14Rates.calls (Ac : Int) (Ah : Int) (Ag : Int) (Ae : Int) (Ad : Int) (r : Bool) (w : World) (h : spec_l14Rates.f Ac Ah Ag Ae Ad = some r) :
  Calls Try.prog 34 #[.agg #[.int .i64 Ac, .int .i64 Ah, .int .i64 Ag, .int .i64 Ae, .int .i64 Ad]] w fun e w' => e = .returned (.bool r) ∧ Below w.heap.size w w' := by
 have hu29 := Try.underlying29; have HB := aM (Below.refl w.heap.size w); have H : ((spec_l14Cents.f Ac).bind fun An => (if An = true then ((spec_l14Cents.f Ah).bind fun Ak => (if Ak = true then ((spec_l14Cents.f Ag).bind fun Aj => (if Aj = true then ((spec_l14Cents.f Ae).bind fun Af => (if Af = true then ((spec_l14Cents.f Ad).bind fun Ab => (some Ab)) else (some false))) else (some false))) else (some false))) else (some false))) = some r := h; clear h; replace H := Option.bind_eq_some_iff.mp H; obtain ⟨An, Cn, H⟩ := H; replace H : (if An = true then ((spec_l14Cents.f Ah).bind fun Ak => (if Ak = true then ((spec_l14Cents.f Ag).bind fun Aj => (if Aj = true then ((spec_l14Cents.f Ae).bind fun Af => (if Af = true then ((spec_l14Cents.f Ad).bind fun Ab => (some Ab)) else (some false))) else (some false))) else (some false))) else (some false)) = some r := H; have A2 := Aside0.mk Cn; clear Cn
 by_cases c3 : An = true
 ·subst c3
  have H1 : ((spec_l14Cents.f Ah).bind fun Ak => (if Ak = true then ((spec_l14Cents.f Ag).bind fun Aj => (if Aj = true then ((spec_l14Cents.f Ae).bind fun Af => (if Af = true then ((spec_l14Cents.f Ad).bind fun Ab => (some Ab)) else (some false))) else (some false))) else (some false))) = some r := by rw [if_pos rfl] at H; exact H
  clear H; have H := H1; clear H1; replace H := Option.bind_eq_some_iff.mp H; obtain ⟨Ak, Co, H⟩ := H; replace H : (if Ak = true then ((spec_l14Cents.f Ag).bind fun Aj => (if Aj = true then ((spec_l14Cents.f Ae).bind fun Af => (if Af = true then ((spec_l14Cents.f Ad).bind fun Ab => (some Ab)) else (some false))) else (some false))) else (some false)) = some r := H; have A4 := Aside0.mk Co; clear Co
  by_cases c5 : Ak = true
  ·subst c5
   have H1 : ((spec_l14Cents.f Ag).bind fun Aj => (if Aj = true then ((spec_l14Cents.f Ae).bind fun Af => (if Af = true then ((spec_l14Cents.f Ad).bind fun Ab => (some Ab)) else (some false))) else (some false))) = some r := by rw [if_pos rfl] at H; exact H
   clear H; have H := H1; clear H1; replace H := Option.bind_eq_some_iff.mp H; obtain ⟨Aj, Cp, H⟩ := H; replace H : (if Aj = true then ((spec_l14Cents.f Ae).bind fun Af => (if Af = true then ((spec_l14Cents.f Ad).bind fun Ab => (some Ab)) else (some false))) else (some false)) = some r := H; have A6 := Aside0.mk Cp; clear Cp
   by_cases c7 : Aj = true
   ·subst c7
    have H1 : ((spec_l14Cents.f Ae).bind fun Af => (if Af = true then ((spec_l14Cents.f Ad).bind fun Ab => (some Ab)) else (some false))) = some r := by rw [if_pos rfl] at H; exact H
    clear H; have H := H1; clear H1; replace H := Option.bind_eq_some_iff.mp H; obtain ⟨Af, Cq, H⟩ := H; replace H : (if Af = true then ((spec_l14Cents.f Ad).bind fun Ab => (some Ab)) else (some false)) = some r := H; have A8 := Aside0.mk Cq; clear Cq
    by_cases c9 : Af = true
    ·subst c9
     have H1 : ((spec_l14Cents.f Ad).bind fun Ab => (some Ab)) = some r := by rw [if_pos rfl] at H; exact H
     clear H; have H := H1; clear H1; replace H := Option.bind_eq_some_iff.mp H; obtain ⟨Ab, Ao, H⟩ := H; replace H : (some Ab) = some r := H; have Cr := Aside0.mk Ao; clear Ao; obtain rfl := Option.some.inj H
     go_enter Try.func34, Try.ntmps34
     go_wp2_with (first | ((with_reducible refine gate_dst (N := 1) rfl ?_); refine bxE 1 #[.int .i64 Ac, .int .i64 Ah, .int .i64 Ag, .int .i64 Ae, .int .i64 Ad] 29 ?_; intro Al hg Cs hbox hb; have Aa := aM (hbox); have Am := gwS hg Z1; have Ai := gwS hg Z1; replace HB := hbS Z1 hb; clear hb hbox hg; obtain ⟨Ap, Aq, Ar, Au, Av⟩ := bz5 Aa; obtain ⟨Aw, Ax, Ay, Az, Ba⟩ := fz5 Aa) | ((with_reducible refine gate_callee (f := 62) rfl ?_); refine glE (some 5) Try.func62 #[.int .i64 Ac] ?_; (with_reducible refine (spec_l14Cents.calls Ac true _ A2.out).mono ?_); rintro e w' ⟨rfl, ⟨nd, rfl⟩⟩; refine ⟨_, rfl, ?_⟩) | (go_at_call 62; (with_reducible refine (spec_l14Cents.calls Ah true _ A4.out).mono ?_); rintro e w' ⟨rfl, ⟨nd, rfl⟩⟩) | (go_at_call 62; (with_reducible refine (spec_l14Cents.calls Ag true _ A6.out).mono ?_); rintro e w' ⟨rfl, ⟨nd, rfl⟩⟩) | (go_at_call 62; (with_reducible refine (spec_l14Cents.calls Ae true _ A8.out).mono ?_); rintro e w' ⟨rfl, ⟨nd, rfl⟩⟩) | (go_at_call 62; (with_reducible refine (spec_l14Cents.calls Ad Ab _ Cr.out).mono ?_); rintro e w' ⟨rfl, ⟨nd, rfl⟩⟩))
     go_ret
     exact ⟨Z20, Z15⟩
    ·replace c9 := Bool.eq_false_iff.mpr c9
     subst c9
     have H1 : (some false) = some r := by rw [if_neg (show ¬ (false = true) by decide)] at H; exact H
     clear H; have H := H1; clear H1; obtain rfl := Option.some.inj H
     go_enter Try.func34, Try.ntmps34
     go_wp2_with (first | ((with_reducible refine gate_dst (N := 1) rfl ?_); refine bxE 1 #[.int .i64 Ac, .int .i64 Ah, .int .i64 Ag, .int .i64 Ae, .int .i64 Ad] 29 ?_; intro Al hg Ct hbox hb; have Aa := aM (hbox); have Am := gwS hg Z1; have Ai := gwS hg Z1; replace HB := hbS Z1 hb; clear hb hbox hg; obtain ⟨Bb, Bc, Bd, Bf, Bg⟩ := bz5 Aa; obtain ⟨Bh, Bi, Bj, Bk, Bl⟩ := fz5 Aa) | ((with_reducible refine gate_callee (f := 62) rfl ?_); refine glE (some 5) Try.func62 #[.int .i64 Ac] ?_; (with_reducible refine (spec_l14Cents.calls Ac true _ A2.out).mono ?_); rintro e w' ⟨rfl, ⟨nd, rfl⟩⟩; refine ⟨_, rfl, ?_⟩) | (go_at_call 62; (with_reducible refine (spec_l14Cents.calls Ah true _ A4.out).mono ?_); rintro e w' ⟨rfl, ⟨nd, rfl⟩⟩) | (go_at_call 62; (with_reducible refine (spec_l14Cents.calls Ag true _ A6.out).mono ?_); rintro e w' ⟨rfl, ⟨nd, rfl⟩⟩) | (go_at_call 62; (with_reducible refine (spec_l14Cents.calls Ae false _ A8.out).mono ?_); rintro e w' ⟨rfl, ⟨nd, rfl⟩⟩))
     go_ret
     exact ⟨Z20, Z15⟩
   ·replace c7 := Bool.eq_false_iff.mpr c7
    subst c7
    have H1 : (some false) = some r := by rw [if_neg (show ¬ (false = true) by decide)] at H; exact H
    clear H; have H := H1; clear H1; obtain rfl := Option.some.inj H
    go_enter Try.func34, Try.ntmps34
    go_wp2_with (first | ((with_reducible refine gate_dst (N := 1) rfl ?_); refine bxE 1 #[.int .i64 Ac, .int .i64 Ah, .int .i64 Ag, .int .i64 Ae, .int .i64 Ad] 29 ?_; intro Al hg Cu hbox hb; have Aa := aM (hbox); have Am := gwS hg Z1; have Ai := gwS hg Z1; replace HB := hbS Z1 hb; clear hb hbox hg; obtain ⟨Bm, Bn, Bo, Bp, Bq⟩ := bz5 Aa; obtain ⟨Br, Bs, Bt, Bu, Bv⟩ := fz5 Aa) | ((with_reducible refine gate_callee (f := 62) rfl ?_); refine glE (some 5) Try.func62 #[.int .i64 Ac] ?_; (with_reducible refine (spec_l14Cents.calls Ac true _ A2.out).mono ?_); rintro e w' ⟨rfl, ⟨nd, rfl⟩⟩; refine ⟨_, rfl, ?_⟩) | (go_at_call 62; (with_reducible refine (spec_l14Cents.calls Ah true _ A4.out).mono ?_); rintro e w' ⟨rfl, ⟨nd, rfl⟩⟩) | (go_at_call 62; (with_reducible refine (spec_l14Cents.calls Ag false _ A6.out).mono ?_); rintro e w' ⟨rfl, ⟨nd, rfl⟩⟩))
    go_ret
    exact ⟨Z20, Z15⟩
  ·replace c5 := Bool.eq_false_iff.mpr c5
   subst c5
   have H1 : (some false) = some r := by rw [if_neg (show ¬ (false = true) by decide)] at H; exact H
   clear H; have H := H1; clear H1; obtain rfl := Option.some.inj H
   go_enter Try.func34, Try.ntmps34
   go_wp2_with (first | ((with_reducible refine gate_dst (N := 1) rfl ?_); refine bxE 1 #[.int .i64 Ac, .int .i64 Ah, .int .i64 Ag, .int .i64 Ae, .int .i64 Ad] 29 ?_; intro Al hg Cv hbox hb; have Aa := aM (hbox); have Am := gwS hg Z1; have Ai := gwS hg Z1; replace HB := hbS Z1 hb; clear hb hbox hg; obtain ⟨Bw, Bx, Bz, B0, B5⟩ := bz5 Aa; obtain ⟨B7, B9, Ca, Cb, Cc⟩ := fz5 Aa) | ((with_reducible refine gate_callee (f := 62) rfl ?_); refine glE (some 5) Try.func62 #[.int .i64 Ac] ?_; (with_reducible refine (spec_l14Cents.calls Ac true _ A2.out).mono ?_); rintro e w' ⟨rfl, ⟨nd, rfl⟩⟩; refine ⟨_, rfl, ?_⟩) | (go_at_call 62; (with_reducible refine (spec_l14Cents.calls Ah false _ A4.out).mono ?_); rintro e w' ⟨rfl, ⟨nd, rfl⟩⟩))
   go_ret
   exact ⟨Z20, Z15⟩
 ·replace c3 := Bool.eq_false_iff.mpr c3
  subst c3
  have H1 : (some false) = some r := by rw [if_neg (show ¬ (false = true) by decide)] at H; exact H
  clear H; have H := H1; clear H1; obtain rfl := Option.some.inj H
  go_enter Try.func34, Try.ntmps34
  go_wp2_with (first | ((with_reducible refine gate_dst (N := 1) rfl ?_); refine bxE 1 #[.int .i64 Ac, .int .i64 Ah, .int .i64 Ag, .int .i64 Ae, .int .i64 Ad] 29 ?_; intro Al hg Cw hbox hb; have Aa := aM (hbox); have Am := gwS hg Z1; have Ai := gwS hg Z1; replace HB := hbS Z1 hb; clear hb hbox hg; obtain ⟨Cd, Ce, Cf, Cg, Ch⟩ := bz5 Aa; obtain ⟨Ci, Cj, Ck, Cl, Cm⟩ := fz5 Aa) | ((with_reducible refine gate_callee (f := 62) rfl ?_); refine glE (some 5) Try.func62 #[.int .i64 Ac] ?_; (with_reducible refine (spec_l14Cents.calls Ac false _ A2.out).mono ?_); rintro e w' ⟨rfl, ⟨nd, rfl⟩⟩; refine ⟨_, rfl, ?_⟩))
  go_ret
  exact ⟨Z20, Z15⟩
def spec_l14Wage.f (a0_0 : Int) (a0_1 : Int) (a0_2 : Int) (a0_3 : Int) (a0_4 : Int) (a1_0 : Int) (a1_1 : Int) (a1_2 : Int) (a1_3 : Int) (a1_4 : Int) : Option (Int) := if (wrap64 (a1_2 - a1_3)) ≥ 8000 then ((spec_l1Most.f a0_2 (wrap64 ((wrap64 ((wrap64 ((wrap64 (Int.tdiv (wrap64 (a0_0 * (wrap64 (a1_2 - a1_3)))) 1000)) + (wrap64 (a0_1 * a1_4)))) - (wrap64 (a0_4 * (wrap64 (Int.tdiv a1_3 100)))))) + a0_3))).bind fun t171 => (some t171)) else ((spec_l1Most.f a0_2 (wrap64 ((wrap64 ((wrap64 (Int.tdiv (wrap64 (a0_0 * (wrap64 (a1_2 - a1_3)))) 1000)) + (wrap64 (a0_1 * a1_4)))) - (wrap64 (a0_4 * (wrap64 (Int.tdiv a1_3 100))))))).bind fun t172 => (some t172))
theorem spec_l14Wage.calls (Ag : Int) (Ah : Int) (Ai : Int) (Am : Int) (Aj : Int) (Ao : Int) (Ap : Int) (Ac : Int) (Aa : Int) (Ak : Int) (r : Int) (w : World) (h : spec_l14Wage.f Ag Ah Ai Am Aj Ao Ap Ac Aa Ak = some r) :
  Calls Try.prog 54 #[.agg #[.int .i64 Ag, .int .i64 Ah, .int .i64 Ai, .int .i64 Am, .int .i64 Aj], .agg #[.int .i64 Ao, .int .i64 Ap, .int .i64 Ac, .int .i64 Aa, .int .i64 Ak]] w fun e w' => e = .returned (.int .i64 r) ∧ Below w.heap.size w w' := by
 have hu29 := Try.underlying29; have hu48 := Try.underlying48; have HB := aM (Below.refl w.heap.size w); have H : (if (wrap64 (Ac - Aa)) ≥ 8000 then ((spec_l1Most.f Ai (wrap64 ((wrap64 ((wrap64 ((wrap64 (Int.tdiv (wrap64 (Ag * (wrap64 (Ac - Aa)))) 1000)) + (wrap64 (Ah * Ak)))) - (wrap64 (Aj * (wrap64 (Int.tdiv Aa 100)))))) + Am))).bind fun Aq => (some Aq)) else ((spec_l1Most.f Ai (wrap64 ((wrap64 ((wrap64 (Int.tdiv (wrap64 (Ag * (wrap64 (Ac - Aa)))) 1000)) + (wrap64 (Ah * Ak)))) - (wrap64 (Aj * (wrap64 (Int.tdiv Aa 100))))))).bind fun Ar => (some Ar))) = some r := h; clear h
 by_cases c3 : (wrap64 (Ac - Aa)) ≥ 8000
 ·rw [if_pos c3] at H
  have c3b0 : decide (8000 ≤ (wrap64 (Ac - Aa))) = true := decide_eq_true c3; clear c3; replace H := Option.bind_eq_some_iff.mp H; obtain ⟨Aq, Cl, H⟩ := H; replace H : (some Aq) = some r := H; have A4 := Aside0.mk Cl; clear Cl; obtain rfl := Option.some.inj H
  go_enter Try.func54, Try.ntmps54
  go_wp2_with (first | ((with_reducible refine gate_dst (N := 2) rfl ?_); refine bxE 2 #[.int .i64 Ag, .int .i64 Ah, .int .i64 Ai, .int .i64 Am, .int .i64 Aj] 29 ?_; intro Au hg w5 hbox hb; have Ab := aM (hbox); have Av := gwS hg Z1; have Ad := gwS hg Z1; replace HB := hbS Z1 hb; clear hb hbox hg) | ((with_reducible refine gate_dst (N := 3) rfl ?_); refine bxE 3 #[.int .i64 Ao, .int .i64 Ap, .int .i64 Ac, .int .i64 Aa, .int .i64 Ak] 48 ?_; intro Aw hg w6 hbox hb; have Al := aM (hbox); have Ax := gwS hg Z73; have An := gwS hg Z73; replace HB := hbS Z73 hb; have Ae := nbL hg Ab; have Af := nbG hg Ab; replace Ab := bkB Ab hb; clear hb hbox hg; have Co := Af.out; have Cp := Ae.out; obtain ⟨Bu, Bv, Bw, Bx, Bz⟩ := bz5 Al; obtain ⟨B0, B5, B7, B9, Ca⟩ := fz5 Al; obtain ⟨Cb, Cc, Cd, Ce, Cf⟩ := bz5 Ab; obtain ⟨Cg, Ch, Ci, Cj, Ck⟩ := fz5 Ab) | ((with_reducible refine gate_callee (f := 70) rfl ?_); refine glE (some 39) Try.func70 #[.int .i64 Ai, .int .i64 (wrap64 ((wrap64 ((wrap64 ((wrap64 (Int.tdiv (wrap64 (Ag * (wrap64 (Ac - Aa)))) 1000)) + (wrap64 (Ah * Ak)))) - (wrap64 (Aj * (wrap64 (Int.tdiv Aa 100)))))) + Am))] ?_; (with_reducible refine (spec_l1Most.calls Ai (wrap64 ((wrap64 ((wrap64 ((wrap64 (Int.tdiv (wrap64 (Ag * (wrap64 (Ac - Aa)))) 1000)) + (wrap64 (Ah * Ak)))) - (wrap64 (Aj * (wrap64 (Int.tdiv Aa 100)))))) + Am)) Aq _ A4.out).mono ?_); rintro e w' ⟨rfl, ⟨nd, rfl⟩⟩; refine ⟨_, rfl, ?_⟩))
  go_ret
  exact ⟨Z20, Z123⟩
 ·rw [if_neg c3] at H
  have c3b0 : decide (8000 ≤ (wrap64 (Ac - Aa))) = false := decide_eq_false c3; clear c3; replace H := Option.bind_eq_some_iff.mp H; obtain ⟨Ar, Ay, H⟩ := H; replace H : (some Ar) = some r := H; have Cq := Aside0.mk Ay; clear Ay; obtain rfl := Option.some.inj H
  go_enter Try.func54, Try.ntmps54
  go_wp2_with (first | ((with_reducible refine gate_dst (N := 2) rfl ?_); refine bxE 2 #[.int .i64 Ag, .int .i64 Ah, .int .i64 Ai, .int .i64 Am, .int .i64 Aj] 29 ?_; intro Au hg Cr hbox hb; have Ab := aM (hbox); have Av := gwS hg Z1; have Ad := gwS hg Z1; replace HB := hbS Z1 hb; clear hb hbox hg) | ((with_reducible refine gate_dst (N := 3) rfl ?_); refine bxE 3 #[.int .i64 Ao, .int .i64 Ap, .int .i64 Ac, .int .i64 Aa, .int .i64 Ak] 48 ?_; intro Aw hg Cs hbox hb; have Al := aM (hbox); have Ax := gwS hg Z73; have An := gwS hg Z73; replace HB := hbS Z73 hb; have Ae := nbL hg Ab; have Af := nbG hg Ab; replace Ab := bkB Ab hb; clear hb hbox hg; have Cm := Af.out; have Cn := Ae.out; obtain ⟨Az, Ba, Bb, Bc, Bd⟩ := bz5 Al; obtain ⟨Bf, Bg, Bh, Bi, Bj⟩ := fz5 Al; obtain ⟨Bk, Bl, Bm, Bn, Bo⟩ := bz5 Ab; obtain ⟨Bp, Bq, Br, Bs, Bt⟩ := fz5 Ab) | ((with_reducible refine gate_callee (f := 70) rfl ?_); refine glE (some 39) Try.func70 #[.int .i64 Ai, .int .i64 (wrap64 ((wrap64 ((wrap64 (Int.tdiv (wrap64 (Ag * (wrap64 (Ac - Aa)))) 1000)) + (wrap64 (Ah * Ak)))) - (wrap64 (Aj * (wrap64 (Int.tdiv Aa 100))))))] ?_; (with_reducible refine (spec_l1Most.calls Ai (wrap64 ((wrap64 ((wrap64 (Int.tdiv (wrap64 (Ag * (wrap64 (Ac - Aa)))) 1000)) + (wrap64 (Ah * Ak)))) - (wrap64 (Aj * (wrap64 (Int.tdiv Aa 100)))))) Ar _ Cq.out).mono ?_); rintro e w' ⟨rfl, ⟨nd, rfl⟩⟩; refine ⟨_, rfl, ?_⟩))
  go_ret
  exact ⟨Z20, Z123⟩
def spec_l14Sum.l0 : Nat → List (S48) → Int → Int → Int → Int → Int → Int → Int → Int → Int → Int → Option (Int)
 | 0, _, _, _, _, _, _, _, _, _, _, _ => none
 | k + 1, x1, x2, x3, x4, x11, x12, x174000, x174001, x174002, x174003, x174004 => if x12 < (x1.length : Int) then (if 0 ≤ x12 then (if ((rd_T48 x1 x12).f0) = x2 then ((spec_l1In.f ((rd_T48 x1 x12).f1) x3 x4).bind fun t176 => (if t176 = true then ((spec_l14Wage.f x174000 x174001 x174002 x174003 x174004 ((rd_T48 x1 x12).f0) ((rd_T48 x1 x12).f1) ((rd_T48 x1 x12).f2) ((rd_T48 x1 x12).f3) ((rd_T48 x1 x12).f4)).bind fun t178 => (spec_l14Sum.l0 k x1 x2 x3 x4 (wrap64 (x11 + t178)) (wrap64 (x12 + 1)) x174000 x174001 x174002 x174003 x174004)) else (spec_l14Sum.l0 k x1 x2 x3 x4 x11 (wrap64 (x12 + 1)) x174000 x174001 x174002 x174003 x174004))) else (spec_l14Sum.l0 k x1 x2 x3 x4 x11 (wrap64 (x12 + 1)) x174000 x174001 x174002 x174003 x174004)) else (none)) else (some x11)
def spec_l14Sum.f (k : Nat) (a0_0 : Int) (a0_1 : Int) (a0_2 : Int) (a0_3 : Int) (a0_4 : Int) (l1 : List (S48)) (a2 : Int) (a3 : Int) (a4 : Int) : Option (Int) := spec_l14Sum.l0 k l1 a2 a3 a4 0 0 a0_0 a0_1 a0_2 a0_3 a0_4
def spec_l14Sum.T6 : Bool × List (List Nat × List Nat) := (true, [([], []), ([], []), ([], []), ([], []), ([2, 3], [2, 3]), ([4], [4]), ([1, 5], [1, 5]), ([0, 6], [0, 6]), ([7, 6, 0, 1, 2, 3, 4, 5, 6, 7], [0, 7])])
def spec_l14Sum.B6 : List Nat := [0, 0, 0, 0, 12, 28, 62, 127, 255]
theorem spec_l14Sum.tab6 : rtab .any (opsOf Try.f37 6) = spec_l14Sum.T6 := by kernel_rfl
theorem spec_l14Sum.bits6 : waitsOk spec_l14Sum.T6.2 spec_l14Sum.B6 = true := by kernel_rfl
theorem spec_l14Sum.calls (k : Nat) (Am : Int) (An : Int) (Ao : Int) (Ap : Int) (Aq : Int) (A1 : Option Addr) (c1 : Nat) (l1 : List (S48)) (a2 : Int) (a3 : Int) (a4 : Int) (r : Int) (w : World) (Bo : Kd.C k48 w A1 l1.length l1) (Bp : l1.length ≤ c1) (h : spec_l14Sum.f k Am An Ao Ap Aq l1 a2 a3 a4 = some r) :
  Calls Try.prog 37 #[.agg #[.int .i64 Am, .int .i64 An, .int .i64 Ao, .int .i64 Ap, .int .i64 Aq], .slice A1 l1.length c1, .int .i64 a2, .int .i64 a3, .int .i64 a4] w fun e w' => e = .returned (.int .i64 r) ∧ Below w.heap.size w w' := by
 have hu29 := Try.underlying29; have hu48 := Try.underlying48; have Bj := Aside0.mk Bo; have Bv := Aside0.mk Bp; clear Bo Bp; have HB := aM (Below.refl w.heap.size w); have H : (spec_l14Sum.l0 k l1 a2 a3 a4 0 0 Am An Ao Ap Aq) = some r := h; clear h; have H' := Aside0.mk H; clear H
 go_enter Try.func37, Try.ntmps37
 go_wp2_with (first | ((with_reducible refine gate_dst (N := 5) rfl ?_); refine bxE 5 #[.int .i64 Am, .int .i64 An, .int .i64 Ao, .int .i64 Ap, .int .i64 Aq] 29 ?_; intro Az hg w6 hbox hb; have Ab := aM (hbox); have Bq := gwS hg Z1; have Ba := gwS hg Z1; replace HB := hbS Z1 hb; clear hb hbox hg))
 go_loopg [11, 12] k (fun kq Bs Bt w' => ∃ (Ar : Int) (Aa : Int), Bs = .int .i64 Ar ∧ Bt = .int .i64 Aa ∧ Aside0 (spec_l14Sum.l0 kq l1 a2 a3 a4 Ar Aa Am An Ao Ap Aq = some r) ∧ Aside0 (kq ≤ k) ∧ Aside0 (w'.heap[Az]? = some (.cells #[.int .i64 Am, .int .i64 An, .int .i64 Ao, .int .i64 Ap, .int .i64 Aq] 29 (0, 0))) ∧ Aside0 (Below w.heap.size w w'))
 case atStart => exact ⟨(0), (0), Z30, Z30, H', ⟨Nat.le_refl _⟩, ⟨Z41⟩, ⟨Z64⟩⟩
 case round =>
  clear H'; (try clear c1); (try clear p2); (try clear c3); obtain ⟨Ar, Aa, rfl, rfl, HA, HK1, Ab, HB⟩ := hrel; cases gk with
  | zero => exact absurd HA.out (by simp [spec_l14Sum.l0])
  | succ k1 =>
   have H := HA.out; clear HA
   simp only [spec_l14Sum.l0] at H
   by_cases c7 : Aa < (l1.length : Int)
   ·rw [if_pos c7] at H
    have c7b0 : decide (Aa < (l1.length : Int)) = true := decide_eq_true c7; clear c7
    by_cases c8 : 0 ≤ Aa
    ·rw [if_pos c8] at H
     have c8b0 : decide (0 ≤ Aa) = true := decide_eq_true c8; clear c8
     by_cases c9 : ((rd_T48 l1 Aa).f0) = a2
     ·rw [if_pos c9] at H
      have c9b0 : (((rd_T48 l1 Aa).f0) == a2) = true := beq_iff_eq.mpr c9; have c9b1 : (((rd_T48 l1 Aa).f0) != a2) = false := bne_eq_false_iff_eq.mpr c9; clear c9; replace H := Option.bind_eq_some_iff.mp H; obtain ⟨Bk, Bl, H⟩ := H; replace H : (if Bk = true then ((spec_l14Wage.f Am An Ao Ap Aq ((rd_T48 l1 Aa).f0) ((rd_T48 l1 Aa).f1) ((rd_T48 l1 Aa).f2) ((rd_T48 l1 Aa).f3) ((rd_T48 l1 Aa).f4)).bind fun Bd => (spec_l14Sum.l0 k1 l1 a2 a3 a4 (wrap64 (Ar + Bd)) (wrap64 (Aa + 1)) Am An Ao Ap Aq)) else (spec_l14Sum.l0 k1 l1 a2 a3 a4 Ar (wrap64 (Aa + 1)) Am An Ao Ap Aq)) = some r := H; have Br := Aside0.mk Bl; clear Bl
      by_cases Bn : Bk = true
      ·subst Bn
       have H1 : ((spec_l14Wage.f Am An Ao Ap Aq ((rd_T48 l1 Aa).f0) ((rd_T48 l1 Aa).f1) ((rd_T48 l1 Aa).f2) ((rd_T48 l1 Aa).f3) ((rd_T48 l1 Aa).f4)).bind fun Bd => (spec_l14Sum.l0 k1 l1 a2 a3 a4 (wrap64 (Ar + Bd)) (wrap64 (Aa + 1)) Am An Ao Ap Aq)) = some r := by rw [if_pos rfl] at H; exact H
       clear H; have H := H1; clear H1; replace H := Option.bind_eq_some_iff.mp H; obtain ⟨Bd, Bm, H⟩ := H; replace H : (spec_l14Sum.l0 k1 l1 a2 a3 a4 (wrap64 (Ar + Bd)) (wrap64 (Aa + 1)) Am An Ao Ap Aq) = some r := H; have Bu := Aside0.mk Bm; clear Bm; have H' := Aside0.mk H; clear H; have Bb : 0 ≤ (Aa : Int) := of_decide_eq_true Z21; have Bc : Aa < (l1.length : Int) := of_decide_eq_true Z21; obtain ⟨ad174, e174, Ac, Ad, Ae, Af, Ag⟩ := at_T48 Bj.out Aa Bb Bc; cases e174; replace Ac := (HB.out.cell (World.block_lt_of_cell? w _ Ac)).trans Ac; replace Ad := (HB.out.cell (World.block_lt_of_cell? w _ Ad)).trans Ad; replace Ae := (HB.out.cell (World.block_lt_of_cell? w _ Ae)).trans Ae; replace Af := (HB.out.cell (World.block_lt_of_cell? w _ Af)).trans Af; replace Ag := (HB.out.cell (World.block_lt_of_cell? w _ Ag)).trans Ag; replace Bb := eq_true Bb; replace Bc := eq_true Bc; have Bf : 0 ≤ (Aa : Int) := of_decide_eq_true Z21; have Bg : Aa < (l1.length : Int) := of_decide_eq_true Z21; obtain ⟨ad175, e175, Ah, Ai, Aj, Ak, Al⟩ := at_T48 Bj.out Aa Bf Bg; obtain rfl : ad174 = ad175 := (by injection e175); replace Ah := (HB.out.cell (World.block_lt_of_cell? w _ Ah)).trans Ah; replace Ai := (HB.out.cell (World.block_lt_of_cell? w _ Ai)).trans Ai; replace Aj := (HB.out.cell (World.block_lt_of_cell? w _ Aj)).trans Aj; replace Ak := (HB.out.cell (World.block_lt_of_cell? w _ Ak)).trans Ak; replace Al := (HB.out.cell (World.block_lt_of_cell? w _ Al)).trans Al; replace Bf := eq_true Bf; replace Bg := eq_true Bg
       try go_wp2_with (first | (go_at_call 53; (with_reducible refine (spec_l1In.calls ((rd_T48 l1 Aa).f1) a3 a4 true _ Br.out).mono ?_); rintro e w' ⟨rfl, ⟨nd, rfl⟩⟩))
       (try (rw [drewN_self wr]; generalize hq_ : World.drewN wr _ = wr; have n0_ : Aside0 (wr.heap[Az]? = some (.cells #[.int .i64 Am, .int .i64 An, .int .i64 Ao, .int .i64 Ap, .int .i64 Aq] 29 (0, 0))) := ⟨by rw [← hq_]; exact Z41⟩; have n1_ : Aside0 (Below w.heap.size w wr) := ⟨by rw [← hq_]; exact Z64⟩; clear Ab HB hq_; have Ab := n0_; have HB := n1_; clear n0_ n1_))
       replace Ab := aM (blk_drew Ab.out); replace HB := aM (below_drew1 HB.out); have Bh : 0 ≤ (Aa : Int) := of_decide_eq_true Z21; have Bi : Aa < (l1.length : Int) := of_decide_eq_true Z21; obtain ⟨ad177, e177, Au, Av, Aw, Ax, Ay⟩ := at_T48 Bj.out Aa Bh Bi; have hw177_4 := Ay; have hw177_3 := Ax; have hw177_2 := Aw; have hw177_1 := Av; have hw177_0 := Au; obtain rfl : ad174 = ad177 := (by injection e177); replace Au := (HB.out.cell (World.block_lt_of_cell? w _ Au)).trans Au; replace Av := (HB.out.cell (World.block_lt_of_cell? w _ Av)).trans Av; replace Aw := (HB.out.cell (World.block_lt_of_cell? w _ Aw)).trans Aw; replace Ax := (HB.out.cell (World.block_lt_of_cell? w _ Ax)).trans Ax; replace Ay := (HB.out.cell (World.block_lt_of_cell? w _ Ay)).trans Ay; replace Bh := eq_true Bh; replace Bi := eq_true Bi; refine start_ (n := 9) (S := fun w' => w'.cell? ⟨Az, 0, none⟩ = some (.int .i64 Am) ∧ w'.cell? ⟨Az, 1, none⟩ = some (.int .i64 An) ∧ w'.cell? ⟨Az, 2, none⟩ = some (.int .i64 Ao) ∧ w'.cell? ⟨Az, 3, none⟩ = some (.int .i64 Ap) ∧ w'.cell? ⟨Az, 4, none⟩ = some (.int .i64 Aq) ∧ w'.cell? (ad174.add ((Aa).toNat * 5)) = some (.int .i64 ((rd_T48 l1 Aa).f0)) ∧ w'.cell? ⟨(ad174.add ((Aa).toNat * 5)).block, (ad174.add ((Aa).toNat * 5)).off + 1, none⟩ = some (.int .i64 ((rd_T48 l1 Aa).f1)) ∧ w'.cell? ⟨(ad174.add ((Aa).toNat * 5)).block, (ad174.add ((Aa).toNat * 5)).off + 2, none⟩ = some (.int .i64 ((rd_T48 l1 Aa).f2)) ∧ w'.cell? ⟨(ad174.add ((Aa).toNat * 5)).block, (ad174.add ((Aa).toNat * 5)).off + 3, none⟩ = some (.int .i64 ((rd_T48 l1 Aa).f3)) ∧ w'.cell? ⟨(ad174.add ((Aa).toNat * 5)).block, (ad174.add ((Aa).toNat * 5)).off + 4, none⟩ = some (.int .i64 ((rd_T48 l1 Aa).f4))) (ds := []) #[false, false, false, false, false, false, false, false, false] Z26 rfl rfl ⟨(blk_cell Ab.out 0).trans rfl, (blk_cell Ab.out 1).trans rfl, (blk_cell Ab.out 2).trans rfl, (blk_cell Ab.out 3).trans rfl, (blk_cell Ab.out 4).trans rfl, ((HB.out.cell (World.block_lt_of_cell? w _ hw177_0)).trans hw177_0), ((HB.out.cell (World.block_lt_of_cell? w _ hw177_1)).trans hw177_1), ((HB.out.cell (World.block_lt_of_cell? w _ hw177_2)).trans hw177_2), ((HB.out.cell (World.block_lt_of_cell? w _ hw177_3)).trans hw177_3), ((HB.out.cell (World.block_lt_of_cell? w _ hw177_4)).trans hw177_4)⟩ (fun hHeld => ?_); refine with_tabW spec_l14Sum.tab6 spec_l14Sum.bits6 (fun HT_ HW_ => ?_)
       generalize wr.drew = Bw at Ab HB Au Av Aw Ax Ay hHeld ⊢
       refine puR 0 36 #[true, false, false, false, false, false, false, false, false] HT_ rfl rfl ?_; refine puR 2 38 #[true, false, true, false, false, false, false, false, false] HT_ rfl rfl ?_; refine puR 3 39 #[true, false, true, true, false, false, false, false, false] HT_ rfl rfl ?_; refine puR 4 40 #[true, false, true, true, true, false, false, false, false] HT_ rfl rfl ?_; refine taR 1 37 #[true, true, true, true, true, false, false, false, false] HT_ HW_ hHeld rfl rfl ?_; refine taR 5 41 #[true, true, true, true, true, true, false, false, false] HT_ HW_ hHeld rfl rfl ?_; refine one_ (i := 6) (N := some 42) #[true, true, true, true, true, true, true, false, false] rfl rfl (one_of HT_.out Z26) (by decide) (fun K hK => ?_); refine goes_ Try.func54 Z26 rfl #[.agg #[.int .i64 Am, .int .i64 An, .int .i64 Ao, .int .i64 Ap, .int .i64 Aq], .agg #[.int .i64 ((rd_T48 l1 Aa).f0), .int .i64 ((rd_T48 l1 Aa).f1), .int .i64 ((rd_T48 l1 Aa).f2), .int .i64 ((rd_T48 l1 Aa).f3), .int .i64 ((rd_T48 l1 Aa).f4)]] (by rfl) rfl rfl Z35 ?_; (with_reducible refine (spec_l14Wage.calls Am An Ao Ap Aq ((rd_T48 l1 Aa).f0) ((rd_T48 l1 Aa).f1) ((rd_T48 l1 Aa).f2) ((rd_T48 l1 Aa).f3) ((rd_T48 l1 Aa).f4) Bd _ Bu.out).mono ?_); rintro e Bx ⟨rfl, hb⟩; refine ⟨_, rfl, ?_⟩; replace Ab := bkB Ab hb; replace HB := hbS Z64 hb; (try clear hb); (try clear hb2); (try clear hk); (try clear hi); refine hK.out _ _ (by exact ⟨(blk_cell Ab.out 0).trans rfl, (blk_cell Ab.out 1).trans rfl, (blk_cell Ab.out 2).trans rfl, (blk_cell Ab.out 3).trans rfl, (blk_cell Ab.out 4).trans rfl, ((HB.out.cell (World.block_lt_of_cell? w _ hw177_0)).trans hw177_0), ((HB.out.cell (World.block_lt_of_cell? w _ hw177_1)).trans hw177_1), ((HB.out.cell (World.block_lt_of_cell? w _ hw177_2)).trans hw177_2), ((HB.out.cell (World.block_lt_of_cell? w _ hw177_3)).trans hw177_3), ((HB.out.cell (World.block_lt_of_cell? w _ hw177_4)).trans hw177_4)⟩) (fun hHeld => ?_); clear hK K; refine noR 42 ?_; refine puR 7 43 #[true, true, true, true, true, true, true, true, false] HT_ rfl rfl ?_; refine puR 8 11 #[true, true, true, true, true, true, true, true, true] HT_ rfl rfl ?_; refine done_ (done_of HT_.out Z26) ?_
       try go_wp2
       go_roundg k1
       case measure => have := HK1.out; omega
       case rel => exact ⟨(wrap64 (Ar + Bd)), (wrap64 (Aa + 1)), Z30, Z30, H', ⟨Z136⟩, ⟨Z41⟩, ⟨Z64⟩⟩
      ·replace Bn := Bool.eq_false_iff.mpr Bn
       subst Bn
       have H1 : (spec_l14Sum.l0 k1 l1 a2 a3 a4 Ar (wrap64 (Aa + 1)) Am An Ao Ap Aq) = some r := by rw [if_neg (show ¬ (false = true) by decide)] at H; exact H
       clear H; have H := H1; clear H1; have H' := Aside0.mk H; clear H; have Bb : 0 ≤ (Aa : Int) := of_decide_eq_true Z21; have Bc : Aa < (l1.length : Int) := of_decide_eq_true Z21; obtain ⟨ad174, e174, Ac, Ad, Ae, Af, Ag⟩ := at_T48 Bj.out Aa Bb Bc; cases e174; replace Ac := (HB.out.cell (World.block_lt_of_cell? w _ Ac)).trans Ac; replace Ad := (HB.out.cell (World.block_lt_of_cell? w _ Ad)).trans Ad; replace Ae := (HB.out.cell (World.block_lt_of_cell? w _ Ae)).trans Ae; replace Af := (HB.out.cell (World.block_lt_of_cell? w _ Af)).trans Af; replace Ag := (HB.out.cell (World.block_lt_of_cell? w _ Ag)).trans Ag; replace Bb := eq_true Bb; replace Bc := eq_true Bc; have Bf : 0 ≤ (Aa : Int) := of_decide_eq_true Z21; have Bg : Aa < (l1.length : Int) := of_decide_eq_true Z21; obtain ⟨ad175, e175, Ah, Ai, Aj, Ak, Al⟩ := at_T48 Bj.out Aa Bf Bg; obtain rfl : ad174 = ad175 := (by injection e175); replace Ah := (HB.out.cell (World.block_lt_of_cell? w _ Ah)).trans Ah; replace Ai := (HB.out.cell (World.block_lt_of_cell? w _ Ai)).trans Ai; replace Aj := (HB.out.cell (World.block_lt_of_cell? w _ Aj)).trans Aj; replace Ak := (HB.out.cell (World.block_lt_of_cell? w _ Ak)).trans Ak; replace Al := (HB.out.cell (World.block_lt_of_cell? w _ Al)).trans Al; replace Bf := eq_true Bf; replace Bg := eq_true Bg
       go_wp2_with (first | (go_at_call 53; (with_reducible refine (spec_l1In.calls ((rd_T48 l1 Aa).f1) a3 a4 false _ Br.out).mono ?_); rintro e w' ⟨rfl, ⟨nd, rfl⟩⟩))
       go_roundg k1
       case measure => have := HK1.out; omega
       case rel => exact ⟨(Ar), (wrap64 (Aa + 1)), Z30, Z30, H', ⟨Z136⟩, ⟨Z41⟩, ⟨Z64⟩⟩
     ·rw [if_neg c9] at H
      have c9b0 : (((rd_T48 l1 Aa).f0) == a2) = false := beq_eq_false_iff_ne.mpr c9; have c9b1 : (((rd_T48 l1 Aa).f0) != a2) = true := bne_iff_ne.mpr c9; have H' := Aside0.mk H; clear H; have Bb : 0 ≤ (Aa : Int) := of_decide_eq_true Z21; have Bc : Aa < (l1.length : Int) := of_decide_eq_true Z21; obtain ⟨ad174, e174, Ac, Ad, Ae, Af, Ag⟩ := at_T48 Bj.out Aa Bb Bc; cases e174; replace Ac := (HB.out.cell (World.block_lt_of_cell? w _ Ac)).trans Ac; replace Ad := (HB.out.cell (World.block_lt_of_cell? w _ Ad)).trans Ad; replace Ae := (HB.out.cell (World.block_lt_of_cell? w _ Ae)).trans Ae; replace Af := (HB.out.cell (World.block_lt_of_cell? w _ Af)).trans Af; replace Ag := (HB.out.cell (World.block_lt_of_cell? w _ Ag)).trans Ag; replace Bb := eq_true Bb; replace Bc := eq_true Bc
      go_wp2
      go_roundg k1
      case measure => have := HK1.out; omega
      case rel => exact ⟨(Ar), (wrap64 (Aa + 1)), Z30, Z30, H', ⟨Z136⟩, ⟨Z41⟩, ⟨Z64⟩⟩
    ·rw [if_neg c8] at H
     exact absurd H (by simp)
   ·rw [if_neg c7] at H
    have c7b0 : decide (Aa < (l1.length : Int)) = false := decide_eq_false c7; clear c7; obtain rfl := Option.some.inj H
    go_wp2
    go_ret
    exact ⟨Z20, Z64⟩
mutual
def spec_PayRoll.j0 : Nat → List (S48) → List Int → Bool → Int → Int → Int → Int → Int → Option (List Int × List Int × Bool)
 | 0, _, _, _, _, _, _, _, _ => none
 | k + 1, x1, x7, x18, x180000, x180001, x180002, x180003, x180004 => if x18 = true then (some ((([] : List Int)), x7, false)) else ((spec_l14Weavers.f k x1).bind fun t188 => (spec_PayRoll.l0 k x1 x7 t188 0 x180000 x180001 x180002 x180003 x180004))
def spec_PayRoll.l0 : Nat → List (S48) → List Int → List Int → Int → Int → Int → Int → Int → Int → Option (List Int × List Int × Bool)
 | 0, _, _, _, _, _, _, _, _, _ => none
 | k + 1, x1, x7, x8, x9, x180000, x180001, x180002, x180003, x180004 => if x9 < (x8.length : Int) then (if 0 ≤ x9 then ((spec_l14Sum.f k x180000 x180001 x180002 x180003 x180004 x1 (rd x8 x9) 0 4000).bind fun t192 => (if x7.length < 17592186044416 then (spec_PayRoll.l0 k x1 (x7 ++ [t192]) x8 (wrap64 (x9 + 1)) x180000 x180001 x180002 x180003 x180004) else (none))) else (none)) else (some (x8, x7, true))
end
def spec_PayRoll.f (k : Nat) (a0_0 : Int) (a0_1 : Int) (a0_2 : Int) (a0_3 : Int) (a0_4 : Int) (l1 : List (S48)) : Option (List Int × List Int × Bool) := (some (([] : List Int) : List Int)).bind fun y180 => ((spec_l14Rates.f a0_0 a0_1 a0_2 a0_3 a0_4).bind fun t183 => (if t183 = true then ((spec_l14Good.f k l1).bind fun t184 => (spec_PayRoll.j0 k l1 y180 (!t184) a0_0 a0_1 a0_2 a0_3 a0_4)) else (spec_PayRoll.j0 k l1 y180 true a0_0 a0_1 a0_2 a0_3 a0_4)))
def spec_PayRoll.T8 : Bool × List (List Nat × List Nat) := (true, [([], []), ([], []), ([], []), ([], []), ([], []), ([3, 4], [3, 4]), ([5], [5]), ([1, 2, 6], [1, 2, 6]), ([7], [7]), ([0, 8, 7], [0, 8]), ([9, 9, 0, 1, 2, 3, 4, 5, 6, 7, 8, 9], [0, 9])])
def spec_PayRoll.B8 : List Nat := [0, 0, 0, 0, 0, 24, 56, 126, 254, 511, 1023]
theorem spec_PayRoll.tab8 : rtab .any (opsOf Try.f7 8) = spec_PayRoll.T8 := by kernel_rfl
theorem spec_PayRoll.bits8 : waitsOk spec_PayRoll.T8.2 spec_PayRoll.B8 = true := by kernel_rfl
theorem spec_PayRoll.calls (k : Nat) (Ab : Int) (Ac : Int) (Ad : Int) (Ae : Int) (Af : Int) (A1 : Option Addr) (c1 : Nat) (l1 : List (S48)) (r1 : List Int) (r2 : List Int) (r3 : Bool) (w : World) (Ct : Kd.C k48 w A1 l1.length l1) (Cu : l1.length ≤ c1) (h : spec_PayRoll.f k Ab Ac Ad Ae Af l1 = some (r1, r2, r3)) :
  Calls Try.prog 7 #[.agg #[.int .i64 Ab, .int .i64 Ac, .int .i64 Ad, .int .i64 Ae, .int .i64 Af], .slice A1 l1.length c1] w fun e w' => ∃ v0_ v1_ : Value, e = .returned (.tuple #[v0_, v1_, .bool r3]) ∧ Kd.R (Kd.int .i64) 3 w' w.heap.size (fun k_ => nV k_ v1_) v0_ r1 ∧ Kd.R (Kd.int .i64) 3 w' w.heap.size (fun k_ => nV k_ v0_) v1_ r2 ∧ Below w.heap.size w w' := by
 have hu29 := Try.underlying29; have Ck := Aside0.mk Ct; have Cl := Aside0.mk Cu; clear Ct Cu; have HB := aM (Below.refl w.heap.size w); have H : ((some (([] : List Int) : List Int)).bind fun Aj => ((spec_l14Rates.f Ab Ac Ad Ae Af).bind fun Bs => (if Bs = true then ((spec_l14Good.f k l1).bind fun Ao => (spec_PayRoll.j0 k l1 Aj (!Ao) Ab Ac Ad Ae Af)) else (spec_PayRoll.j0 k l1 Aj true Ab Ac Ad Ae Af)))) = some (r1, r2, r3) := h; clear h; obtain ⟨Aj, Ap⟩ : ∃ y_ : List Int, y_ = (([] : List Int)) := ⟨_, rfl⟩
 replace H : ((spec_l14Rates.f Ab Ac Ad Ae Af).bind fun Bs => (if Bs = true then ((spec_l14Good.f k l1).bind fun Ao => (spec_PayRoll.j0 k l1 Aj (!Ao) Ab Ac Ad Ae Af)) else (spec_PayRoll.j0 k l1 Aj true Ab Ac Ad Ae Af))) = some (r1, r2, r3) := by first | (rw [Ap]; with_reducible exact H) | (have H2_ := (Option.bind_some _ _).symm.trans H; rw [Ap]; with_reducible exact H2_) | (have H2_ := (Option.bind_some _ _).symm.trans H; with_reducible exact H2_) | with_reducible exact H | (rw [Ap]; exact H) | exact H
 have Bv := Aside0.mk Ap; clear Ap; have Cm := Aside0.mk H; clear H
 go_enter Try.func7, Try.ntmps7
 go_upto_region 2 with (first | ((with_reducible refine gate_dst (N := 2) rfl ?_); refine bxE 2 #[.int .i64 Ab, .int .i64 Ac, .int .i64 Ad, .int .i64 Ae, .int .i64 Af] 29 ?_; intro Am hg w4 hbox hb; have Aa := aM (hbox); have Cv := gwS hg Z1; have Ag := gwS hg Z1; replace HB := hbS Z1 hb; clear hb hbox hg) | ((with_reducible refine gate_dst (N := 10) rfl ?_); refine Kd.R_lit (Kd.int .i64) _ 3 ?hg (N := 10) ?hd (xs := ([] : List Int)) (inner := []) (ok := fun _ => True) (okp := fun _ => True) ?hr ?hp (fun _ hk => hk) trivial (Below.refl _ _) (Nat.le_refl _) (by simp) ?_; (case hd => rfl); (case hg => rfl); (case hr => first | (go_simp; done) | (go_simp; rfl)); (case hp => exact (Reps.none _ _)); intro Cn w5 B7 hb hg_ hnew_; clear hg_ hnew_; (first | rw [← Bv.out] at B7 | (simp only [Int.reduceToNat] at B7; rw [← Bv.out] at B7)); have An := aM (Kd.R_lower B7 (below_size Z29)); replace Aa := bkB Aa hb; replace HB := hbS Z29 hb; clear hb B7))
 (try simp only [Act.put, List.setIfInBounds_toArray, List.set_cons_zero, List.set_cons_succ])
 go_cut [18] (fun Cy wc => ∃ (kq : Nat) (Av : Bool), Cy = .bool Av ∧ Aside0 (spec_PayRoll.j0 kq l1 Aj Av Ab Ac Ad Ae Af = some (r1, r2, r3)) ∧ Aside0 (kq ≤ k) ∧ Aside0 (Kd.R (Kd.int .i64) 3 wc w.heap.size (fun _ => True) Cn Aj) ∧ Aside0 (wc.heap[Am]? = some (.cells #[.int .i64 Ab, .int .i64 Ac, .int .i64 Ad, .int .i64 Ae, .int .i64 Af] 29 (0, 0))) ∧ Aside0 (Below w.heap.size w wc))
 case first =>
  have H := Cm.out; clear Cm; replace H := Option.bind_eq_some_iff.mp H; obtain ⟨Bs, Cw, H⟩ := H; replace H : (if Bs = true then ((spec_l14Good.f k l1).bind fun Ao => (spec_PayRoll.j0 k l1 Aj (!Ao) Ab Ac Ad Ae Af)) else (spec_PayRoll.j0 k l1 Aj true Ab Ac Ad Ae Af)) = some (r1, r2, r3) := H; have A7 := Aside0.mk Cw; clear Cw
  by_cases c8 : Bs = true
  ·subst c8
   have H1 : ((spec_l14Good.f k l1).bind fun Ao => (spec_PayRoll.j0 k l1 Aj (!Ao) Ab Ac Ad Ae Af)) = some (r1, r2, r3) := by rw [if_pos rfl] at H; exact H
   clear H; have H := H1; clear H1; replace H := Option.bind_eq_some_iff.mp H; obtain ⟨Ao, Cx, H⟩ := H; replace H : (spec_PayRoll.j0 k l1 Aj (!Ao) Ab Ac Ad Ae Af) = some (r1, r2, r3) := H; have A9 := Aside0.mk Cx; clear Cx; have H' := Aside0.mk H; clear H; obtain ⟨Aw, Ax, Ay, Az, Ba⟩ := bz5 Aa; obtain ⟨Bb, Bc, Bd, Bf, Bg⟩ := fz5 Aa
   go_wp2_with (first | ((with_reducible refine gate_callee (f := 34) rfl ?_); refine glE (some 12) Try.func34 #[.agg #[.int .i64 Ab, .int .i64 Ac, .int .i64 Ad, .int .i64 Ae, .int .i64 Af]] ?_; (with_reducible refine (spec_l14Rates.calls Ab Ac Ad Ae Af true _ A7.out).mono ?_); rintro e C6 ⟨rfl, hb⟩; refine ⟨_, rfl, ?_⟩; replace An := roB An hb; replace Aa := bkB Aa hb; replace HB := hbS Z29 hb; (try clear hb)) | (go_at_call 35; (with_reducible refine (spec_l14Good.calls k _ _ l1 Ao _ ?side1 ?side2 A9.out).mono ?_); (case side1 => exact Z105); (case side2 => exact Cl.out); rintro e C7 ⟨rfl, hb⟩; replace An := roB An hb; replace Aa := bkB Aa hb; replace HB := hbS Z29 hb; (try clear hb)))
   go_meet
   case rel => exact ⟨_, (!Ao), Z30, H', ⟨Z99⟩, ⟨Z44⟩, ⟨Z47⟩, ⟨Z29⟩⟩
  ·replace c8 := Bool.eq_false_iff.mpr c8
   subst c8
   have H1 : (spec_PayRoll.j0 k l1 Aj true Ab Ac Ad Ae Af) = some (r1, r2, r3) := by rw [if_neg (show ¬ (false = true) by decide)] at H; exact H
   clear H; have H := H1; clear H1; have H' := Aside0.mk H; clear H; obtain ⟨Bh, Bi, Bj, Bk, Bl⟩ := bz5 Aa; obtain ⟨Bm, Bn, Bo, Bp, Bq⟩ := fz5 Aa
   go_wp2_with (first | ((with_reducible refine gate_callee (f := 34) rfl ?_); refine glE (some 12) Try.func34 #[.agg #[.int .i64 Ab, .int .i64 Ac, .int .i64 Ad, .int .i64 Ae, .int .i64 Af]] ?_; (with_reducible refine (spec_l14Rates.calls Ab Ac Ad Ae Af false _ A7.out).mono ?_); rintro e C8 ⟨rfl, hb⟩; refine ⟨_, rfl, ?_⟩; replace An := roB An hb; replace Aa := bkB Aa hb; replace HB := hbS Z29 hb; (try clear hb)))
   go_meet
   case rel => exact ⟨_, (true), Z30, H', ⟨Z99⟩, ⟨Z44⟩, ⟨Z47⟩, ⟨Z29⟩⟩
 case rest =>
  clear Cm; (try clear c1); (try clear p2); (try clear c3); (try clear c7); (try clear c8); (try clear Aw); (try clear Ax); (try clear Ay); (try clear Az); (try clear Ba); (try clear Bh); (try clear Bi); (try clear Bj); (try clear Bk); (try clear Bl); (try clear Bb); (try clear Bc); (try clear Bd); (try clear Bf); (try clear Bg); (try clear Bm); (try clear Bn); (try clear Bo); (try clear Bp); (try clear Bq); obtain ⟨kq, Av, rfl, HA, HJ2, Ah, Aa, HB⟩ := hcut; cases kq with
  | zero => exact absurd HA.out (by simp [spec_PayRoll.j0])
  | succ B0 =>
   have H := HA.out; clear HA
   simp only [spec_PayRoll.j0] at H
   by_cases B9 : Av = true
   ·subst B9
    have H1 : (some ((([] : List Int)), Aj, false)) = some (r1, r2, r3) := by rw [if_pos rfl] at H; exact H
    clear H; have H := H1; clear H1; obtain ⟨Co, Aq⟩ : ∃ y_ : List Int, y_ = (([] : List Int)) := ⟨_, rfl⟩
    replace H : (some (Co, Aj, false)) = some (r1, r2, r3) := by first | (rw [Aq]; with_reducible exact H) | (have H2_ := (Option.bind_some _ _).symm.trans H; rw [Aq]; with_reducible exact H2_) | (have H2_ := (Option.bind_some _ _).symm.trans H; with_reducible exact H2_) | with_reducible exact H | (rw [Aq]; exact H) | exact H
    have Bw := Aside0.mk Aq; clear Aq
    simp only [Option.some.injEq, Prod.mk.injEq] at H
    obtain ⟨rfl, rfl, rfl⟩ := H
    go_wp2_with (first | ((with_reducible refine gate_dst (N := 19) rfl ?_); refine Kd.R_lit (Kd.int .i64) _ 3 ?hg (N := 19) ?hd (xs := ([] : List Int)) (inner := []) (ok := fun _ => True) (okp := fun _ => True) ?hr ?hp (fun _ hk => hk) trivial (Below.refl _ _) (Nat.le_refl _) (by simp) ?_; (case hd => rfl); (case hg => rfl); (case hr => first | (go_simp; done) | (go_simp; rfl)); (case hp => exact (Reps.none _ _)); intro Cz C9 Bt hb hg_ hnew_; clear hg_ hnew_; (first | rw [← Bw.out] at Bt | (simp only [Int.reduceToNat] at Bt; rw [← Bw.out] at Bt)); have Ca := aM (Kd.R_lower (Kd.R_new' Bt (Kd.R_lt Z62)) (below_size Z29)); replace Ah := aM (Kd.R_elder' Z62 (Kd.R_base Bt) hb); replace Aa := bkB Aa hb; replace HB := hbS Z29 hb; clear hb Bt))
    go_ret3
    exact ⟨_, _, Z20, by (with_reducible repeat (first | apply Kd.R_alloc | apply Kd.R_drewN | apply Kd.R_drew)); exact Kd.R_mono Ca.out (fun _ hk => hk.2), Z103, Z29⟩
   ·replace B9 := Bool.eq_false_iff.mpr B9
    subst B9
    have H1 : ((spec_l14Weavers.f B0 l1).bind fun Ak => (spec_PayRoll.l0 B0 l1 Aj Ak 0 Ab Ac Ad Ae Af)) = some (r1, r2, r3) := by rw [if_neg (show ¬ (false = true) by decide)] at H; exact H
    clear H; have H := H1; clear H1; replace H := Option.bind_eq_some_iff.mp H; obtain ⟨Ak, Cb, H⟩ := H; replace H : (spec_PayRoll.l0 B0 l1 Aj Ak 0 Ab Ac Ad Ae Af) = some (r1, r2, r3) := H; have C0 := Aside0.mk Cb; clear Cb; have H' := Aside0.mk H; clear H
    go_wp2_with (first | ((with_reducible refine gate_callee (f := 36) rfl ?_); refine glE (some 22) Try.func36 #[.slice A1 l1.length c1] ?_; (with_reducible refine (spec_l14Weavers.calls B0 _ _ l1 Ak _ ?side1 ?side2 C0.out).mono ?_); (case side1 => exact Z105); (case side2 => exact Cl.out); rintro e Da ⟨Cc, rfl, Cp, hb⟩; refine ⟨_, rfl, ?_⟩; have Cd := aM (Kd.R_lower (Kd.R_new' Cp (Kd.R_lt Z62)) (below_size Z29)); replace Ah := aM (Kd.R_elder' Z62 (Kd.R_base Cp) hb); replace Aa := bkB Aa hb; replace HB := hbS Z29 hb; (try clear hb); (try clear Cp)))
    go_loopg [7, 9] B0 (fun kq v7 v9 w' => ∃ (Ar : List Int) (Ai : Int), v9 = .int .i64 Ai ∧ Aside0 (spec_PayRoll.l0 kq l1 Ar Ak Ai Ab Ac Ad Ae Af = some (r1, r2, r3)) ∧ Aside0 (kq ≤ B0) ∧ Aside0 (Kd.R (Kd.int .i64) 3 w' w.heap.size (fun k_ => nV k_ Cc) v7 Ar) ∧ Aside0 (Kd.R (Kd.int .i64) 3 w' w.heap.size (fun k_ => nV k_ v7) Cc Ak) ∧ Aside0 (w'.heap[Am]? = some (.cells #[.int .i64 Ab, .int .i64 Ac, .int .i64 Ad, .int .i64 Ae, .int .i64 Af] 29 (0, 0))) ∧ Aside0 (Below w.heap.size w w'))
    case atStart => exact ⟨(Aj), (0), Z30, H', ⟨Nat.le_refl _⟩, ⟨Z103⟩, ⟨by (with_reducible repeat (first | apply Kd.R_alloc | apply Kd.R_drewN | apply Kd.R_drew)); exact Kd.R_mono Cd.out (fun _ hk => hk.2)⟩, ⟨Z47⟩, ⟨Z29⟩⟩
    case round =>
     clear H'; (try clear c1); (try clear p2); (try clear c3); (try clear c7); (try clear c8); (try clear B9); (try clear Aw); (try clear Ax); (try clear Ay); (try clear Az); (try clear Ba); (try clear Bh); (try clear Bi); (try clear Bj); (try clear Bk); (try clear Bl); (try clear Bb); (try clear Bc); (try clear Bd); (try clear Bf); (try clear Bg); (try clear Bm); (try clear Bn); (try clear Bo); (try clear Bp); (try clear Bq); (try clear p2); obtain ⟨Ar, Ai, rfl, HA, HK2, Ah, Al, Aa, HB⟩ := hrel; cases gk with
     | zero => exact absurd HA.out (by simp [spec_PayRoll.l0])
     | succ k2 =>
      have H := HA.out; clear HA
      simp only [spec_PayRoll.l0] at H
      by_cases B5 : Ai < (Ak.length : Int)
      ·rw [if_pos B5] at H
       have c20b0 : decide (Ai < (Ak.length : Int)) = true := decide_eq_true B5; clear B5
       by_cases Ci : 0 ≤ Ai
       ·rw [if_pos Ci] at H
        have c21b0 : decide (0 ≤ Ai) = true := decide_eq_true Ci; clear Ci; replace H := Option.bind_eq_some_iff.mp H; obtain ⟨Bu, Ce, H⟩ := H; replace H : (if Ar.length < 17592186044416 then (spec_PayRoll.l0 k2 l1 (Ar ++ [Bu]) Ak (wrap64 (Ai + 1)) Ab Ac Ad Ae Af) else (none)) = some (r1, r2, r3) := H; have C1 := Aside0.mk Ce; clear Ce
        by_cases Cj : Ar.length < 17592186044416
        ·rw [if_pos Cj] at H
         have LMc23 := Aside0.mk Cj; clear Cj; obtain ⟨Cf, Au⟩ : ∃ y_ : List Int, y_ = (Ar ++ [Bu]) := ⟨_, rfl⟩
         replace H : (spec_PayRoll.l0 k2 l1 Cf Ak (wrap64 (Ai + 1)) Ab Ac Ad Ae Af) = some (r1, r2, r3) := by first | (rw [Au]; with_reducible exact H) | (have H2_ := (Option.bind_some _ _).symm.trans H; rw [Au]; with_reducible exact H2_) | (have H2_ := (Option.bind_some _ _).symm.trans H; with_reducible exact H2_) | with_reducible exact H | (rw [Au]; exact H) | exact H
         have Cg := Aside0.mk Au; clear Au; have H' := Aside0.mk H; clear H; obtain ⟨C2, Cq, Cr⟩ := Kd.R_slice Al.out; subst Cr
         try go_wp2
         replace Ah := aM (Kd.R_drew Ah.out); replace Al := aM (Kd.R_drew Al.out); replace Aa := aM (blk_drew Aa.out); replace HB := aM (below_drew1 HB.out); have Bx : 0 ≤ (Ai : Int) := of_decide_eq_true Z21; have Bz : Ai < (Ak.length : Int) := of_decide_eq_true Z21; obtain ⟨ad191, e191, Br⟩ := Kd.at_int (Kd.R_reads' Al.out).2.2 Ai Bx Bz; cases e191; replace Bx := eq_true Bx; replace Bz := eq_true Bz; refine start_ (n := 11) (S := fun w' => w'.cell? ⟨Am, 0, none⟩ = some (.int .i64 Ab) ∧ w'.cell? ⟨Am, 1, none⟩ = some (.int .i64 Ac) ∧ w'.cell? ⟨Am, 2, none⟩ = some (.int .i64 Ad) ∧ w'.cell? ⟨Am, 3, none⟩ = some (.int .i64 Ae) ∧ w'.cell? ⟨Am, 4, none⟩ = some (.int .i64 Af) ∧ w'.cell? (ad191.add (Ai).toNat) = some (.int .i64 (rd Ak Ai))) (ds := [8, 9]) #[false, false, false, false, false, false, false, false, false, false, false] Z26 rfl rfl ⟨(blk_cell Aa.out 0).trans rfl, (blk_cell Aa.out 1).trans rfl, (blk_cell Aa.out 2).trans rfl, (blk_cell Aa.out 3).trans rfl, (blk_cell Aa.out 4).trans rfl, Br⟩ (fun hHeld => ?_); refine with_tabW spec_PayRoll.tab8 spec_PayRoll.bits8 (fun HT_ HW_ => ?_)
         generalize wr.drew = Db at Ah Al Aa HB Br hHeld ⊢
         refine puR 0 29 #[true, false, false, false, false, false, false, false, false, false, false] HT_ rfl rfl ?_; refine puR 2 31 #[true, false, true, false, false, false, false, false, false, false, false] HT_ rfl rfl ?_; refine puR 3 32 #[true, false, true, true, false, false, false, false, false, false, false] HT_ rfl rfl ?_; refine puR 4 33 #[true, false, true, true, true, false, false, false, false, false, false] HT_ rfl rfl ?_; refine puR 5 34 #[true, false, true, true, true, true, false, false, false, false, false] HT_ rfl rfl ?_; refine taR 1 30 #[true, true, true, true, true, true, false, false, false, false, false] HT_ HW_ hHeld rfl rfl ?_; refine taR 6 35 #[true, true, true, true, true, true, true, false, false, false, false] HT_ HW_ hHeld rfl rfl ?_; refine one_ (i := 7) (N := some 36) #[true, true, true, true, true, true, true, true, false, false, false] rfl rfl (one_of HT_.out Z26) (by decide) (fun K hK => ?_); refine goes_ Try.func37 Z26 rfl #[.agg #[.int .i64 Ab, .int .i64 Ac, .int .i64 Ad, .int .i64 Ae, .int .i64 Af], .slice A1 l1.length c1, .int .i64 (rd Ak Ai), .int .i64 0, .int .i64 4000] (by rfl) rfl rfl Z35 ?_; (with_reducible refine (spec_l14Sum.calls k2 Ab Ac Ad Ae Af _ _ l1 (rd Ak Ai) 0 4000 Bu _ ?side1 ?side2 C1.out).mono ?_); (case side1 => exact Z105); (case side2 => exact Cl.out); rintro e Dc ⟨rfl, hb⟩; have HS5_ := (hb.cell (World.block_lt_of_cell? _ _ (hHeld.2.2.2.2.2))).trans (hHeld.2.2.2.2.2); refine ⟨_, rfl, ?_⟩; replace Ah := roB Ah hb; replace Al := roB Al hb; replace Aa := bkB Aa hb; replace HB := hbS Z29 hb; (try clear hb); (try clear hb2); (try clear hk); (try clear hi); refine hK.out _ _ (by exact ⟨(blk_cell Aa.out 0).trans rfl, (blk_cell Aa.out 1).trans rfl, (blk_cell Aa.out 2).trans rfl, (blk_cell Aa.out 3).trans rfl, (blk_cell Aa.out 4).trans rfl, HS5_⟩) (fun hHeld => ?_); clear hK K; refine noR 36 ?_; refine last_ (i := 8) (N := some 37) #[true, true, true, true, true, true, true, true, true, false, false] rfl rfl (one_of HT_.out Z26) (by decide) (fun K hK => ?_); refine value_ (w1 := ?_) (v := ?_) (by rfl) rfl ?_ ?_
         rotate_left 2
         ·go_simp
          constructor
          ·rfl
          ·rfl
         refine hK.out _ _ ?_; clear hK K; refine noR 37 ?_; refine last_ (i := 9) (N := some 38) #[true, true, true, true, true, true, true, true, true, true, false] rfl rfl (one_of HT_.out Z26) (by decide) (fun K hK => ?_); refine Kd.R_append_step (Kd.int .i64) (w0 := w) w.heap.size (by rfl) (.tmp 29) (.tmp 37) 26 3 (.int .i64 0) 8 rfl Try.underlying26 info3 rfl (by decide) (by omega) u7 Ar Bu [.int .i64 Bu] (fun k_ => some k_ ≠ (.slice (some ad191) Ak.length Cq : Value).ownBlock) (fun _ => False) rfl rfl ?aP (fun _ hk => hk.elim) ?aF ?aO ?aB ?aS ?aL ?_; (case aP => exact rfl); (case aB => exact Z29); (case aF => exact (fun k_ hk => Kd.fresh' (Kd.R_lt Z115) k_ hk)); (case aO => exact Z62); (case aS => exact (below_size Z29)); (case aL => have := LMc23.out; omega); intro C3 Dd ho hb hg hat; rw [← Cg.out] at ho; replace Al := aM (Kd.R_after (ok := (fun _ => True)) (by (with_reducible repeat (first | apply Kd.R_alloc | apply Kd.R_drewN | apply Kd.R_drew)); exact Kd.R_mono Al.out (fun _ hk => ⟨trivial, hk⟩)) hg hat); replace Aa := aM (blk_grown (g := Am) (o := .cells #[.int .i64 Ab, .int .i64 Ac, .int .i64 Ad, .int .i64 Ae, .int .i64 Af] 29 (0, 0)) Z47 hg (Kd.R_ne Ah.out Aa.out (by decide))); replace HB := aM (hb); have Ch := aM (ho); clear Ah; clear ho hb hg hat; refine hK.out _ _ ?_; clear hK K; refine noR 38 ?_; refine puR 10 7 #[true, true, true, true, true, true, true, true, true, true, true] HT_ rfl rfl ?_; refine done_ (done_of HT_.out Z26) ?_
         try go_wp2
         go_roundg k2
         case measure => have := HJ2.out; have := HK2.out; omega
         case rel => exact ⟨(Cf), (wrap64 (Ai + 1)), Z30, H', ⟨Z152⟩, ⟨Z147⟩, ⟨Z142⟩, ⟨Z47⟩, ⟨Z29⟩⟩
        ·rw [if_neg Cj] at H
         exact absurd H (by simp)
       ·rw [if_neg Ci] at H
        exact absurd H (by simp)
      ·rw [if_neg B5] at H
       have c20b0 : decide (Ai < (Ak.length : Int)) = false := decide_eq_false B5; clear B5
       simp only [Option.some.injEq, Prod.mk.injEq] at H
       obtain ⟨rfl, rfl, rfl⟩ := H; obtain ⟨C4, C5, Cs⟩ := Kd.R_slice Al.out; subst Cs
       go_wp2
       go_ret3
       exact ⟨_, _, Z20, Z115, Z62, Z29⟩
set_option maxHeartbeats 4000000 in
theorem IndexFunc_int (p : Int → Bool) (g : Nat) (lb : Array Value) (A : Option Addr) (c : Nat) (xs : List Int) (w : World)
  (eg : ∀ args w, (callFunc g args).run Try.prog w = .ok (.enter g args) w) (hr : Kd.C (Kd.int .i64) w A xs.length xs)
  (hp : ∀ (W : World) (x : Int), Below w.heap.size w W → Calls Try.prog g (#[.int .i64 x] ++ lb) W fun e w' => e = .returned (.bool (p x)) ∧ Below W.heap.size W w') :
  Calls Try.prog 85 #[.slice A xs.length c, .func (.func g) #[] lb] w fun e w' => e = .returned (.int .i64 (findI p xs)) ∧ Below w.heap.size w w' := by
 have hlen := Aside0.mk hr.2.1; have HR := Aside0.mk hr; have HP := Aside0.mk hp; clear hr hp
 go_enter Try.func85, Try.ntmps85
 go_wp2
 go_loopg [5, 8] xs.length (fun gg _ s8 wr => ∃ x : Int, s8 = .int .i64 x ∧ Aside0 (0 ≤ x ∧ x ≤ (xs.length : Int) ∧ (xs.length : Int) - x ≤ gg) ∧ Aside0 (Below w.heap.size w wr) ∧ Aside0 (∀ j : Nat, (j : Int) < x → p (xs.getD j 0) = false))
 case atStart => exact ⟨0, rfl, ⟨by omega, by omega, by omega⟩, ⟨Below.refl _ _⟩, ⟨fun j hj => absurd hj (by omega)⟩⟩
 case round =>
  obtain ⟨x, rfl, HX, BW, HA⟩ := hrel
  by_cases hlt : x < (xs.length : Int)
  ·have c0 : decide (x < (xs.length : Int)) = true := decide_eq_true hlt
   obtain ⟨ad, e0, Aa⟩ := Kd.at_int (Kd.C_below HR.out BW.out) x HX.out.1 hlt; cases e0; have c1 : decide (0 ≤ x) = true := decide_eq_true HX.out.1; have p0 := eq_true HX.out.1; have p1 := eq_true hlt; have HL := Aside0.mk hlt; clear hlt; have hcall := HP.out _ (rd xs x) BW.out; have hget : Aside0 (xs.getD x.toNat 0 = (rd xs x)) := ⟨rfl⟩; cases hq : p (rd xs x) with
   | true =>
    rw [hq] at hcall; have HQ := Aside0.mk hq; have HC := Aside0.mk hcall; clear hq hcall
    go_wp2_with fail
    refine HC.out.mono ?_; rintro e w' ⟨rfl, hb'⟩; have HB := aM (below_step BW.out hb'); clear hb'
    go_wp2
    go_ret
    refine ⟨?_, HB.out⟩; rw [findI_hit p 0 xs x.toNat Z153 (fun j hj => HA.out j Z160) (by rw [hget.out]; exact HQ.out)]; rw [Int.toNat_of_nonneg HX.out.1]
    rfl
   | false =>
    rw [hq] at hcall; have HQ := Aside0.mk hq; have HC := Aside0.mk hcall; clear hq hcall
    go_wp2_with fail
    refine HC.out.mono ?_; rintro e w' ⟨rfl, hb'⟩; have HB := aM (below_step BW.out hb'); clear hb'
    go_wp2
    have hw1 : wrap64 (x + 1) = x + 1 := by have := HX.out; have := HL.out; have := hlen.out; unfold wrap64; omega
    go_roundg (xs.length - (x.toNat + 1))
    case measure => have := HX.out; have := HL.out; omega
    case rel =>
     refine ⟨x + 1, Z161, ⟨Z160, Z157, Z153⟩, HB, ⟨fun j hj => ?_⟩⟩
     by_cases e : (j : Int) < x
     ·exact HA.out j e
     ·have hj' : j = x.toNat := by have := HX.out; omega
      subst hj'; rw [hget.out]
      exact HQ.out
  ·have c0 : decide (x < (xs.length : Int)) = false := decide_eq_false hlt
   have HL := Aside0.mk hlt; clear hlt
   go_wp2
   go_ret
   refine ⟨?_, BW.out⟩; rw [findI_miss p 0 xs (fun j hj => HA.out j Z157)]
   rfl
set_option maxHeartbeats 4000000 in
theorem ContainsFunc_int (p : Int → Bool) (g : Nat) (lb : Array Value) (A : Option Addr) (c : Nat) (xs : List Int) (w : World)
  (eg : ∀ args w, (callFunc g args).run Try.prog w = .ok (.enter g args) w) (hr : Kd.C (Kd.int .i64) w A xs.length xs)
  (hp : ∀ (W : World) (x : Int), Below w.heap.size w W → Calls Try.prog g (#[.int .i64 x] ++ lb) W fun e w' => e = .returned (.bool (p x)) ∧ Below W.heap.size W w') :
  Calls Try.prog 77 #[.slice A xs.length c, .func (.func g) #[] lb] w fun e w' => e = .returned (.bool (xs.any p)) ∧ Below w.heap.size w w' := by
 have HC := aM (IndexFunc_int p g lb A c xs w eg hr hp); clear hr hp eg; rw [← findI_any]
 go_enter Try.func77, Try.ntmps77
 go_wp2_with fail
 refine HC.out.mono ?_; rintro e w' ⟨rfl, hb'⟩
 go_wp2
 go_ret
 exact ⟨Z140, hb'⟩
set_option maxHeartbeats 4000000 in
theorem areAll_int_1 (p : Int → Bool) (g : Nat) (lb : Array Value) (b : Nat) (x : Int) (W : World)
  (eg : ∀ args w, (callFunc g args).run Try.prog w = .ok (.enter g args) w) (hc : W.cell? ⟨b, 0, none⟩ = some (.func (.func g) #[] lb))
  (hp : ∀ W1, Below W.heap.size W W1 → Calls Try.prog g (#[.int .i64 x] ++ lb) W1 fun e w' => e = .returned (.bool (p x)) ∧ Below W1.heap.size W1 w') (hb : b < W.heap.size) :
  Calls Try.prog 78 #[.int .i64 x, .pointer (some ⟨b, 0, none⟩)] W fun e w' => e = .returned (.bool (!p x)) ∧ Below W.heap.size W w' := by
 have HP := Aside0.mk hp; clear hp
 go_enter Try.func78, Try.ntmps78
 go_wp2_with fail
 refine (HP.out _ (Below.refl _ _)).mono ?_; rintro e w' ⟨rfl, hb'⟩
 go_wp2
 go_ret
 exact ⟨Z140, hb'⟩
set_option maxHeartbeats 4000000 in
theorem areAll_int (p : Int → Bool) (g : Nat) (lb : Array Value) (A : Option Addr) (c : Nat) (xs : List Int) (w : World)
  (eg : ∀ args w, (callFunc g args).run Try.prog w = .ok (.enter g args) w) (hr : Kd.C (Kd.int .i64) w A xs.length xs)
  (hp : ∀ (W : World) (x : Int), Below w.heap.size w W → Calls Try.prog g (#[.int .i64 x] ++ lb) W fun e w' => e = .returned (.bool (p x)) ∧ Below W.heap.size W w') :
  Calls Try.prog 60 #[.slice A xs.length c, .func (.func g) #[] lb] w fun e w' => e = .returned (.bool (xs.all p)) ∧ Below w.heap.size w w' := by
 have hmf : ∀ (fn : Fn) (first cap : Array Value) (w : World), (Instr.makeFunc fn first cap).run Try.prog w = .ok (.func fn first cap) w := fun _ _ _ _ => rfl
 have hB1 : Below w.heap.size w (w.alloc (.cells #[.func (.func g) #[] lb] 81)) := below_alloc (Below.refl _ _) _
 have Aa : (w.alloc (.cells #[.func (.func g) #[] lb] 81)).cell? ⟨w.heap.size, 0, none⟩ = some (.func (.func g) #[] lb) := by simp
 have hsz : w.heap.size < (w.alloc (.cells #[.func (.func g) #[] lb] 81)).heap.size := by simp
 have HC := aM (ContainsFunc_int (fun x => !p x) 78 #[.pointer (some ⟨w.heap.size, 0, none⟩)] A c xs (w.alloc (.cells #[.func (.func g) #[] lb] 81)) (enters_of Try.func78 Z26 rfl) (Kd.C_below hr hB1)
  (fun W x hW => areAll_int_1 p g lb w.heap.size x W eg ((hW.cell (p := ⟨w.heap.size, 0, none⟩) hsz).trans Aa) (fun W1 h1 => hp W1 x ((hB1.trans (hW.mono hB1.size)).trans (h1.mono (Nat.le_trans hB1.size hW.size)))) (Nat.lt_of_lt_of_le hsz hW.size)))
 have HB := Aside0.mk hB1; rw [← any_not]; clear hB1 Aa hsz hp hr eg
 go_enter Try.func60, Try.ntmps60
 go_wp2_with fail
 refine HC.out.mono ?_; rintro e w' ⟨rfl, hb'⟩
 go_wp2
 go_ret
 exact ⟨Z140, below_step HB.out hb'⟩
def impl_AreRates_1.f (a0 : Int) : Option (Bool) := (impl_in.f a0 0 10000).bind fun t212 => (some t212)
theorem impl_AreRates_1.calls (a0 : Int) (r : Bool) (w : World) (h : impl_AreRates_1.f a0 = some r) :
  Calls Try.prog 61 #[.int .i64 a0] w fun e w' => e = .returned (.bool r) ∧ Drawn0 w w' := by
 have H : ((impl_in.f a0 0 10000).bind fun Aa => (some Aa)) = some r := h; clear h; replace H := Option.bind_eq_some_iff.mp H; obtain ⟨Aa, Ab, H⟩ := H; replace H : (some Aa) = some r := H; have A2 := Aside0.mk Ab; clear Ab; obtain rfl := Option.some.inj H
 go_enter Try.func61, Try.ntmps61
 go_wp2_with (first | ((with_reducible refine gate_callee (f := 52) rfl ?_); refine glE (some 4) Try.func52 #[.int .i64 a0, .int .i64 0, .int .i64 10000] ?_; (with_reducible refine (impl_in.calls a0 0 10000 Aa _ A2.out).mono ?_); rintro e w' ⟨rfl, ⟨nd, rfl⟩⟩; refine ⟨_, rfl, ?_⟩))
 go_ret
 exact ⟨Z30, Z58⟩
def impl_AreRates.f (a0_0 : Int) (a0_1 : Int) (a0_2 : Int) (a0_3 : Int) (a0_4 : Int) : Option Bool := some ([a0_0, a0_1, a0_2, a0_3, a0_4].all fun x => (impl_AreRates_1.f x).getD false)
theorem impl_AreRates_1.total (x : Int) : impl_AreRates_1.f x = some ((impl_AreRates_1.f x).getD false) := by
 unfold impl_AreRates_1.f
 rw [impl_in.eq]
 rfl
set_option maxHeartbeats 4000000 in
theorem impl_AreRates.calls (Aa : Int) (Ab : Int) (Ac : Int) (Ad : Int) (Ae : Int) (r : Bool) (w : World) (h : impl_AreRates.f Aa Ab Ac Ad Ae = some r) :
  Calls Try.prog 32 #[.agg #[.int .i64 Aa, .int .i64 Ab, .int .i64 Ac, .int .i64 Ad, .int .i64 Ae]] w fun e w' => e = .returned (.bool r) ∧ Below w.heap.size w w' := by
 have hu_ := Try.underlying29; obtain ⟨w1, hw1⟩ : ∃ w1, w1 = w.alloc (.cells #[.int .i64 Aa, .int .i64 Ab, .int .i64 Ac, .int .i64 Ad, .int .i64 Ae] 29) := ⟨_, rfl⟩; obtain ⟨w2, hw2⟩ : ∃ w2, w2 = w1.alloc (.cells #[.int .i64 Aa, .int .i64 Ab, .int .i64 Ac, .int .i64 Ad, .int .i64 Ae] 3) := ⟨_, rfl⟩
 have hb1 : Below w.heap.size w w1 := by rw [hw1]; exact below_alloc (Below.refl _ _) _
 have hb2 : Below w.heap.size w w2 := by rw [hw2]; exact below_alloc hb1 _
 have hs1 : w.heap.size + 1 = w1.heap.size := by rw [hw1]; simp
 have hC : Kd.C (Kd.int .i64) w2 (some ⟨w.heap.size + 1, 0, none⟩) [Aa, Ab, Ac, Ad, Ae].length [Aa, Ab, Ac, Ad, Ae] :=
  C_of_block (by simp) (by rw [hw2, hs1]; exact heap_alloc_new w1 _) (fun i u hu => by simpa using hu)
 have hcall : Calls Try.prog 60 #[.slice (some ⟨w.heap.size + 1, 0, none⟩) 5 5, .func (.func 61) #[] #[]] w2 _ :=
  areAll_int (fun x => (impl_AreRates_1.f x).getD false) 61 #[] (some ⟨w.heap.size + 1, 0, none⟩) 5 [Aa, Ab, Ac, Ad, Ae] w2 (enters_of Try.func61 Z26 rfl) hC
   (fun W x _ => (impl_AreRates_1.calls x _ W (impl_AreRates_1.total x)).mono fun e w' ⟨he, hd⟩ => ⟨he, hd.below⟩)
 have HC := Aside0.mk hcall; clear hcall hs1; have HB := Aside0.mk hb2; have Af := Option.some.inj h; subst Af; clear hb1 hb2 hC h; subst hw1; subst hw2
 go_enter Try.func32, Try.ntmps32
 go_wp2_with fail
 refine HC.out.mono ?_; rintro e w' ⟨rfl, hb'⟩
 go_wp2
 go_ret
 exact ⟨Z140, below_step HB.out hb'⟩
def impl_WorkSheet_right.f (a0_0 : Int) (a0_1 : Int) (a0_2 : Int) (a0_3 : Int) (a0_4 : Int) : Option (Int) := some (wrap64 (a0_2 - a0_3))
theorem impl_WorkSheet_right.calls (Ad : Int) (Ae : Int) (Aa : Int) (Ab : Int) (Af : Int) (r : Int) (w : World) (h : impl_WorkSheet_right.f Ad Ae Aa Ab Af = some r) :
  Calls Try.prog 74 #[.agg #[.int .i64 Ad, .int .i64 Ae, .int .i64 Aa, .int .i64 Ab, .int .i64 Af]] w fun e w' => e = .returned (.int .i64 r) ∧ Below w.heap.size w w' := by
 have hu48 := Try.underlying48; have HB := aM (Below.refl w.heap.size w); have H : (some (wrap64 (Aa - Ab))) = some r := h; clear h; obtain rfl := Option.some.inj H
 go_enter Try.func74, Try.ntmps74
 go_wp2_with (first | ((with_reducible refine gate_dst (N := 1) rfl ?_); refine bxE 1 #[.int .i64 Ad, .int .i64 Ae, .int .i64 Aa, .int .i64 Ab, .int .i64 Af] 48 ?_; intro Ar hg w2 hbox hb; have Ac := aM (hbox); have Au := gwS hg Z1; have Ag := gwS hg Z1; replace HB := hbS Z1 hb; clear hb hbox hg; obtain ⟨Ah, Ai, Aj, Ak, Al⟩ := bz5 Ac; obtain ⟨Am, An, Ao, Ap, Aq⟩ := fz5 Ac))
 go_ret
 exact ⟨Z20, Z29⟩
end Go.Proofs.Ytffgmmfkiecheaa.H
