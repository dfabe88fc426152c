-- by wip/pack.py of this repo
import Derived.Test.YtcjalfgnnabghaaZ08Hx0
import Derived.Test.YtcjalfgnnabghaaZ08Hx2
import Derived.Test.YtcjalfgnnabghaaZ08Hx3
import Derived.Test.YtcjalfgnnabghaaZ08WLast
import Derived.Test.YtcjalfgnnabghaaZ08WMore
import Derived.Test.YtcjalfgnnabghaaZ08WWords
import Derived.Test.YtcjalfgnnabghaaZ08Short
namespace Go.Proofs.Ytcjalfgnnabghaa.H
open Go.RowKit Go.Proofs.YtcjalfgnnabghaaW.PrintWords Go.Proofs.YtcjalfgnnabghaaW.PrintLast Go.Proofs.YtcjalfgnnabghaaW.PrintMore
attribute [local go_sem] max2_int min2_int max_two min_two max_three min_three max_four min_four
set_option maxHeartbeats 8000000
set_option maxRecDepth 100000
set_option linter.unusedVariables false
set_option linter.unusedSimpArgs false
def impl_arePhotos.f (a0_0 : Int) (a0_1 : Int) (l0_2 : List Int) (a1_0 : Int) (a1_1 : Int) (l1_2 : List Int) (a2 : Int) (a3 : Int) : Option (Bool) := (impl_IsChart.f a0_0 a0_1 l0_2).bind fun t161 => (if t161 = true then ((impl_IsChart.f a1_0 a1_1 l1_2).bind fun t162 => (if t162 = true then ((impl_isShift.f a2 a3).bind fun t163 => (some t163)) else (some false))) else (some false))
theorem impl_arePhotos.calls (Ai : Int) (Aj : Int) (An : Option Addr) (Ap : Nat) (Ag : List Int) (Al : Int) (Am : Int) (Ar : Option Addr) (Au : Nat) (Ah : List Int) (a2 : Int) (a3 : Int) (r : Bool) (w : World) (Ay : Kd.C (Kd.int .i64) w An Ag.length Ag) (Az : Ag.length ≤ Ap) (Ba : Kd.C (Kd.int .i64) w Ar Ah.length Ah) (Bb : Ah.length ≤ Au) (h : impl_arePhotos.f Ai Aj Ag Al Am Ah a2 a3 = some r) :
  Calls Try.prog 55 #[.agg #[.int .i64 Ai, .int .i64 Aj, .slice An Ag.length Ap], .agg #[.int .i64 Al, .int .i64 Am, .slice Ar Ah.length Au], .int .i64 a2, .int .i64 a3] w fun e w' => e = .returned (.bool r) ∧ Below w.heap.size w w' := by
 have hu28 := Try.underlying28; have Av := Aside0.mk Ay; have Aw := Aside0.mk Az; clear Ay Az; have Bc := Aside0.mk Ba; have Bd := Aside0.mk Bb; clear Ba Bb; have HB := aM (Below.refl w.heap.size w); have H : ((impl_IsChart.f Ai Aj Ag).bind fun Ax => (if Ax = true then ((impl_IsChart.f Al Am Ah).bind fun Aq => (if Aq = true then ((impl_isShift.f a2 a3).bind fun Ak => (some Ak)) else (some false))) else (some false))) = some r := h; clear h; replace H := Option.bind_eq_some_iff.mp H; obtain ⟨Ax, Cl, H⟩ := H; replace H : (if Ax = true then ((impl_IsChart.f Al Am Ah).bind fun Aq => (if Aq = true then ((impl_isShift.f a2 a3).bind fun Ak => (some Ak)) else (some false))) else (some false)) = some r := H; have A5 := Aside0.mk Cl; clear Cl
 by_cases c6 : Ax = true
 ·subst c6
  have H1 : ((impl_IsChart.f Al Am Ah).bind fun Aq => (if Aq = true then ((impl_isShift.f a2 a3).bind fun Ak => (some Ak)) else (some false))) = some r := by rw [if_pos rfl] at H; exact H
  clear H; have H := H1; clear H1; replace H := Option.bind_eq_some_iff.mp H; obtain ⟨Aq, Cm, H⟩ := H; replace H : (if Aq = true then ((impl_isShift.f a2 a3).bind fun Ak => (some Ak)) else (some false)) = some r := H; have A7 := Aside0.mk Cm; clear Cm
  by_cases c8 : Aq = true
  ·subst c8
   have H1 : ((impl_isShift.f a2 a3).bind fun Ak => (some Ak)) = some r := by rw [if_pos rfl] at H; exact H
   clear H; have H := H1; clear H1; replace H := Option.bind_eq_some_iff.mp H; obtain ⟨Ak, Cn, H⟩ := H; replace H : (some Ak) = some r := H; have A9 := Aside0.mk Cn; clear Cn; obtain rfl := Option.some.inj H
   go_enter Try.func55, Try.ntmps55
   go_wp2_with (first | ((with_reducible refine gate_dst (N := 4) rfl ?_); refine bxE 4 #[.int .i64 Ai, .int .i64 Aj, .slice An Ag.length Ap] 28 ?_; intro Bf hg Cu hbox hb; have Aa := aM (hbox); have Bg := gwS hg Z0; have Ab := gwS hg Z0; replace HB := hbS Z0 hb; clear hb hbox hg) | ((with_reducible refine gate_dst (N := 5) rfl ?_); refine bxE 5 #[.int .i64 Al, .int .i64 Am, .slice Ar Ah.length Au] 28 ?_; intro Bh hg Cv hbox hb; have Ac := aM (hbox); have Bi := gwS hg Z16; have Af := gwS hg Z16; replace HB := hbS Z16 hb; have Ad := nbL hg Aa; have Ae := nbG hg Aa; replace Aa := bkB Aa hb; clear hb hbox hg; have Co := Ad.out; have Cp := Ae.out; obtain ⟨Bj, Bk, Bl⟩ := bz3 Aa; obtain ⟨Bm, Bn, Bo⟩ := fz3 Aa) | ((with_reducible refine gate_callee (f := 66) rfl ?_); refine glE (some 10) Try.func66 #[.agg #[.int .i64 Ai, .int .i64 Aj, .slice An Ag.length Ap]] ?_; (with_reducible refine (impl_IsChart.calls Ai Aj _ _ Ag true _ ?side1 ?side2 A5.out).mono ?_); (case side1 => exact Z86); (case side2 => exact Aw.out); rintro e Cw ⟨rfl, hb⟩; refine ⟨_, rfl, ?_⟩; replace Aa := bkB Aa hb; replace Ac := bkB Ac hb; replace HB := hbS Z41 hb; (try clear hb); obtain ⟨Bp, Bq, Br⟩ := bz3 Ac; obtain ⟨Bs, Bt, Bu⟩ := fz3 Ac) | (go_at_call 66; (with_reducible refine (impl_IsChart.calls Al Am _ _ Ah true _ ?side1 ?side2 A7.out).mono ?_); (case side1 => exact Z60); (case side2 => exact Bd.out); rintro e Cx ⟨rfl, hb⟩; replace Aa := bkB Aa hb; replace Ac := bkB Ac hb; replace HB := hbS Z41 hb; (try clear hb)) | (go_at_call 67; (with_reducible refine (impl_isShift.calls a2 a3 Ak _ A9.out).mono ?_); rintro e w' ⟨rfl, ⟨nd, rfl⟩⟩))
   go_ret
   exact ⟨Z9, Z41⟩
  ·replace c8 := Bool.eq_false_iff.mpr c8
   subst c8
   have H1 : (some false) = some r := by rw [if_neg (show ¬ (false = true) by decide)] at H; exact H
   clear H; have H := H1; clear H1; obtain rfl := Option.some.inj H
   go_enter Try.func55, Try.ntmps55
   go_wp2_with (first | ((with_reducible refine gate_dst (N := 4) rfl ?_); refine bxE 4 #[.int .i64 Ai, .int .i64 Aj, .slice An Ag.length Ap] 28 ?_; intro Bf hg Cy hbox hb; have Aa := aM (hbox); have Bg := gwS hg Z0; have Ab := gwS hg Z0; replace HB := hbS Z0 hb; clear hb hbox hg) | ((with_reducible refine gate_dst (N := 5) rfl ?_); refine bxE 5 #[.int .i64 Al, .int .i64 Am, .slice Ar Ah.length Au] 28 ?_; intro Bh hg Cz hbox hb; have Ac := aM (hbox); have Bi := gwS hg Z16; have Af := gwS hg Z16; replace HB := hbS Z16 hb; have Ad := nbL hg Aa; have Ae := nbG hg Aa; replace Aa := bkB Aa hb; clear hb hbox hg; have Cq := Ad.out; have Cr := Ae.out; obtain ⟨Bv, Bw, Bx⟩ := bz3 Aa; obtain ⟨Bz, B0, B6⟩ := fz3 Aa) | ((with_reducible refine gate_callee (f := 66) rfl ?_); refine glE (some 10) Try.func66 #[.agg #[.int .i64 Ai, .int .i64 Aj, .slice An Ag.length Ap]] ?_; (with_reducible refine (impl_IsChart.calls Ai Aj _ _ Ag true _ ?side1 ?side2 A5.out).mono ?_); (case side1 => exact Z86); (case side2 => exact Aw.out); rintro e C0 ⟨rfl, hb⟩; refine ⟨_, rfl, ?_⟩; replace Aa := bkB Aa hb; replace Ac := bkB Ac hb; replace HB := hbS Z41 hb; (try clear hb); obtain ⟨B9, Ca, Cb⟩ := bz3 Ac; obtain ⟨Cc, Cd, Ce⟩ := fz3 Ac) | (go_at_call 66; (with_reducible refine (impl_IsChart.calls Al Am _ _ Ah false _ ?side1 ?side2 A7.out).mono ?_); (case side1 => exact Z60); (case side2 => exact Bd.out); rintro e C1 ⟨rfl, hb⟩; replace Aa := bkB Aa hb; replace Ac := bkB Ac hb; replace HB := hbS Z41 hb; (try clear hb)))
   go_ret
   exact ⟨Z9, Z41⟩
 ·replace c6 := Bool.eq_false_iff.mpr c6
  subst c6
  have H1 : (some false) = some r := by rw [if_neg (show ¬ (false = true) by decide)] at H; exact H
  clear H; have H := H1; clear H1; obtain rfl := Option.some.inj H
  go_enter Try.func55, Try.ntmps55
  go_wp2_with (first | ((with_reducible refine gate_dst (N := 4) rfl ?_); refine bxE 4 #[.int .i64 Ai, .int .i64 Aj, .slice An Ag.length Ap] 28 ?_; intro Bf hg C2 hbox hb; have Aa := aM (hbox); have Bg := gwS hg Z0; have Ab := gwS hg Z0; replace HB := hbS Z0 hb; clear hb hbox hg) | ((with_reducible refine gate_dst (N := 5) rfl ?_); refine bxE 5 #[.int .i64 Al, .int .i64 Am, .slice Ar Ah.length Au] 28 ?_; intro Bh hg C3 hbox hb; have Ac := aM (hbox); have Bi := gwS hg Z16; have Af := gwS hg Z16; replace HB := hbS Z16 hb; have Ad := nbL hg Aa; have Ae := nbG hg Aa; replace Aa := bkB Aa hb; clear hb hbox hg; have Cs := Ad.out; have Ct := Ae.out; obtain ⟨Cf, Cg, Ch⟩ := bz3 Aa; obtain ⟨Ci, Cj, Ck⟩ := fz3 Aa) | ((with_reducible refine gate_callee (f := 66) rfl ?_); refine glE (some 10) Try.func66 #[.agg #[.int .i64 Ai, .int .i64 Aj, .slice An Ag.length Ap]] ?_; (with_reducible refine (impl_IsChart.calls Ai Aj _ _ Ag false _ ?side1 ?side2 A5.out).mono ?_); (case side1 => exact Z86); (case side2 => exact Aw.out); rintro e C4 ⟨rfl, hb⟩; refine ⟨_, rfl, ?_⟩; replace Aa := bkB Aa hb; replace Ac := bkB Ac hb; replace HB := hbS Z41 hb; (try clear hb)))
  go_ret
  exact ⟨Z9, Z41⟩
end Go.Proofs.Ytcjalfgnnabghaa.H
