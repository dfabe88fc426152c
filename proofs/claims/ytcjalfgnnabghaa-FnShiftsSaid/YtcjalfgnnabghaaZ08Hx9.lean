-- by wip/pack.py of this repo
import Derived.Test.YtcjalfgnnabghaaZ08Hx0
import Derived.Test.YtcjalfgnnabghaaZ08Hx5
import Derived.Test.YtcjalfgnnabghaaZ08Hx7
import Derived.Test.YtcjalfgnnabghaaZ08WLast
import Derived.Test.YtcjalfgnnabghaaZ08WMore
import Derived.Test.YtcjalfgnnabghaaZ08WWords
import Derived.Test.YtcjalfgnnabghaaZ08Short
namespace Go.Proofs.Ytcjalfgnnabghaa.H
open Go.RowKit Go.Proofs.YtcjalfgnnabghaaW.PrintWords Go.Proofs.YtcjalfgnnabghaaW.PrintLast Go.Proofs.YtcjalfgnnabghaaW.PrintMore
attribute [local go_sem] max2_int min2_int max_two min_two max_three min_three max_four min_four
set_option maxHeartbeats 8000000
set_option maxRecDepth 100000
set_option linter.unusedVariables false
set_option linter.unusedSimpArgs false
def impl_DifferencesAt.f (k : Nat) (a0_0 : Int) (a0_1 : Int) (l0_2 : List Int) (a1_0 : Int) (a1_1 : Int) (l1_2 : List Int) (a2 : Int) (a3 : Int) : Option (Int × Int × Bool) := (impl_arePhotos.f a0_0 a0_1 l0_2 a1_0 a1_1 l1_2 a2 a3).bind fun t182 => (if t182 = true then ((impl_wrong.f k a0_0 a0_1 l0_2 a1_0 a1_1 l1_2 a2 a3).bind fun bt183 => (some ((bt183.1.length : Int), bt183.2, true))) else (some (0, 0, false)))
theorem impl_DifferencesAt.calls (k : Nat) (Af : Int) (Ag : Int) (An : Option Addr) (Ap : Nat) (Ad : List Int) (Ah : Int) (Ai : Int) (Aq : Option Addr) (Ar : Nat) (Ae : List Int) (a2 : Int) (a3 : Int) (r1 : Int) (r2 : Int) (r3 : Bool) (w : World) (Az : Kd.C (Kd.int .i64) w An Ad.length Ad) (Ba : Ad.length ≤ Ap) (Bb : Kd.C (Kd.int .i64) w Aq Ae.length Ae) (Bc : Ae.length ≤ Ar) (h : impl_DifferencesAt.f k Af Ag Ad Ah Ai Ae a2 a3 = some (r1, r2, r3)) :
  Calls Try.prog 16 #[.agg #[.int .i64 Af, .int .i64 Ag, .slice An Ad.length Ap], .agg #[.int .i64 Ah, .int .i64 Ai, .slice Aq Ae.length Ar], .int .i64 a2, .int .i64 a3] w fun e w' => e = .returned (.tuple #[.int .i64 r1, .int .i64 r2, .bool r3]) ∧ Below w.heap.size w w' := by
 have hu28 := Try.underlying28; have Au := Aside0.mk Az; have Av := Aside0.mk Ba; clear Az Ba; have Aw := Aside0.mk Bb; have Ax := Aside0.mk Bc; clear Bb Bc; have HB := aM (Below.refl w.heap.size w); have H : ((impl_arePhotos.f Af Ag Ad Ah Ai Ae a2 a3).bind fun Ay => (if Ay = true then ((impl_wrong.f k Af Ag Ad Ah Ai Ae a2 a3).bind fun Al => (some ((Al.1.length : Int), Al.2, true))) else (some (0, 0, false)))) = some (r1, r2, r3) := h; clear h; replace H := Option.bind_eq_some_iff.mp H; obtain ⟨Ay, Cu, H⟩ := H; replace H : (if Ay = true then ((impl_wrong.f k Af Ag Ad Ah Ai Ae a2 a3).bind fun Al => (some ((Al.1.length : Int), Al.2, true))) else (some (0, 0, false))) = some (r1, r2, r3) := H; have A5 := Aside0.mk Cu; clear Cu
 by_cases c6 : Ay = true
 ·subst c6
  have H1 : ((impl_wrong.f k Af Ag Ad Ah Ai Ae a2 a3).bind fun Al => (some ((Al.1.length : Int), Al.2, true))) = some (r1, r2, r3) := by rw [if_pos rfl] at H; exact H
  clear H; have H := H1; clear H1; replace H := Option.bind_eq_some_iff.mp H; obtain ⟨⟨Bd, Bf⟩, Cv, H⟩ := H; replace H : (some ((Bd.length : Int), Bf, true)) = some (r1, r2, r3) := H; have A7 := Aside0.mk Cv; clear Cv
  simp only [Option.some.injEq, Prod.mk.injEq] at H
  obtain ⟨rfl, rfl, rfl⟩ := H
  go_enter Try.func16, Try.ntmps16
  go_wp2_with (first | ((with_reducible refine gate_dst (N := 4) rfl ?_); refine bxE 4 #[.int .i64 Af, .int .i64 Ag, .slice An Ad.length Ap] 28 ?_; intro Bg hg w8 hbox hb; have Aa := aM (hbox); have Bh := gwS hg Z0; have Ab := gwS hg Z0; replace HB := hbS Z0 hb; clear hb hbox hg) | ((with_reducible refine gate_dst (N := 5) rfl ?_); refine bxE 5 #[.int .i64 Ah, .int .i64 Ai, .slice Aq Ae.length Ar] 28 ?_; intro Bi hg w9 hbox hb; have Ac := aM (hbox); have Bj := gwS hg Z16; have Am := gwS hg Z16; replace HB := hbS Z16 hb; have Aj := nbL hg Aa; have Ak := nbG hg Aa; replace Aa := bkB Aa hb; clear hb hbox hg; have Cw := Aj.out; have Cx := Ak.out; obtain ⟨Bl, Bm, Bn⟩ := bz3 Aa; obtain ⟨Bo, Bp, Bq⟩ := fz3 Aa; obtain ⟨Br, Bs, Bt⟩ := bz3 Ac; obtain ⟨Bu, Bv, Bw⟩ := fz3 Ac) | ((with_reducible refine gate_callee (f := 55) rfl ?_); refine glE (some 17) Try.func55 #[.agg #[.int .i64 Af, .int .i64 Ag, .slice An Ad.length Ap], .agg #[.int .i64 Ah, .int .i64 Ai, .slice Aq Ae.length Ar], .int .i64 a2, .int .i64 a3] ?_; (with_reducible refine (impl_arePhotos.calls Af Ag _ _ Ad Ah Ai _ _ Ae a2 a3 true _ ?side1 ?side2 ?side3 ?side4 A5.out).mono ?_); (case side1 => exact Z85); (case side2 => exact Av.out); (case side3 => exact Z109); (case side4 => exact Ax.out); rintro e C4 ⟨rfl, hb⟩; refine ⟨_, rfl, ?_⟩; replace Aa := bkB Aa hb; replace Ac := bkB Ac hb; replace HB := hbS Z104 hb; (try clear hb); obtain ⟨Bx, Bz, B0⟩ := bz3 Aa; obtain ⟨B6, B9, Ca⟩ := fz3 Aa; obtain ⟨Cb, Cc, Cd⟩ := bz3 Ac; obtain ⟨Ce, Cf, Cg⟩ := fz3 Ac) | ((with_reducible refine gate_callee (f := 56) rfl ?_); refine glE (some 24) Try.func56 #[.agg #[.int .i64 Af, .int .i64 Ag, .slice An Ad.length Ap], .agg #[.int .i64 Ah, .int .i64 Ai, .slice Aq Ae.length Ar], .int .i64 a2, .int .i64 a3] ?_; (with_reducible refine (impl_wrong.calls k Af Ag _ _ Ad Ah Ai _ _ Ae a2 a3 Bd Bf _ ?side1 ?side2 ?side3 ?side4 A7.out).mono ?_); (case side1 => exact Z85); (case side2 => exact Av.out); (case side3 => exact Z109); (case side4 => exact Ax.out); rintro e C5 ⟨C1, rfl, Cy, hb⟩; refine ⟨_, rfl, ?_⟩; have Bk := aM (Kd.R_lower Cy (below_size Z104)); replace Aa := bkB Aa hb; replace Ac := bkB Ac hb; replace HB := hbS Z104 hb; (try clear hb); (try clear Cy); obtain ⟨C2, C3, Ct⟩ := Kd.R_slice Bk.out; subst Ct))
  go_ret3
  exact ⟨Z9, Z104⟩
 ·replace c6 := Bool.eq_false_iff.mpr c6
  subst c6
  have H1 : (some (0, 0, false)) = some (r1, r2, r3) := by rw [if_neg (show ¬ (false = true) by decide)] at H; exact H
  clear H; have H := H1; clear H1
  simp only [Option.some.injEq, Prod.mk.injEq] at H
  obtain ⟨rfl, rfl, rfl⟩ := H
  go_enter Try.func16, Try.ntmps16
  go_wp2_with (first | ((with_reducible refine gate_dst (N := 4) rfl ?_); refine bxE 4 #[.int .i64 Af, .int .i64 Ag, .slice An Ad.length Ap] 28 ?_; intro Bg hg C6 hbox hb; have Aa := aM (hbox); have Bh := gwS hg Z0; have Ab := gwS hg Z0; replace HB := hbS Z0 hb; clear hb hbox hg) | ((with_reducible refine gate_dst (N := 5) rfl ?_); refine bxE 5 #[.int .i64 Ah, .int .i64 Ai, .slice Aq Ae.length Ar] 28 ?_; intro Bi hg C7 hbox hb; have Ac := aM (hbox); have Bj := gwS hg Z16; have Am := gwS hg Z16; replace HB := hbS Z16 hb; have Aj := nbL hg Aa; have Ak := nbG hg Aa; replace Aa := bkB Aa hb; clear hb hbox hg; have Cz := Aj.out; have C0 := Ak.out; obtain ⟨Ch, Ci, Cj⟩ := bz3 Aa; obtain ⟨Ck, Cl, Cm⟩ := fz3 Aa; obtain ⟨Cn, Co, Cp⟩ := bz3 Ac; obtain ⟨Cq, Cr, Cs⟩ := fz3 Ac) | ((with_reducible refine gate_callee (f := 55) rfl ?_); refine glE (some 17) Try.func55 #[.agg #[.int .i64 Af, .int .i64 Ag, .slice An Ad.length Ap], .agg #[.int .i64 Ah, .int .i64 Ai, .slice Aq Ae.length Ar], .int .i64 a2, .int .i64 a3] ?_; (with_reducible refine (impl_arePhotos.calls Af Ag _ _ Ad Ah Ai _ _ Ae a2 a3 false _ ?side1 ?side2 ?side3 ?side4 A5.out).mono ?_); (case side1 => exact Z85); (case side2 => exact Av.out); (case side3 => exact Z109); (case side4 => exact Ax.out); rintro e C8 ⟨rfl, hb⟩; refine ⟨_, rfl, ?_⟩; replace Aa := bkB Aa hb; replace Ac := bkB Ac hb; replace HB := hbS Z104 hb; (try clear hb)))
  go_ret3
  exact ⟨Z9, Z104⟩
end Go.Proofs.Ytcjalfgnnabghaa.H
