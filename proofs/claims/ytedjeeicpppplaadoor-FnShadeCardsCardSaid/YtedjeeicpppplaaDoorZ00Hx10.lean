-- by wip/pack.py of this repo
import Derived.Test.YtedjeeicpppplaaDoorZ00Hx0
import Derived.Test.YtedjeeicpppplaaDoorZ00Hx1
import Derived.Test.YtedjeeicpppplaaDoorZ00Hx5
import Derived.Test.YtedjeeicpppplaaDoorZ00WLast
import Derived.Test.YtedjeeicpppplaaDoorZ00WMore
import Derived.Test.YtedjeeicpppplaaDoorZ00WWords
import Derived.Test.YtedjeeicpppplaaDoorZ00Short
namespace Go.Proofs.YtedjeeicpppplaaDoor.H
open Go.RowKit Go.Proofs.YtedjeeicpppplaaDoorW.PrintWords Go.Proofs.YtedjeeicpppplaaDoorW.PrintLast Go.Proofs.YtedjeeicpppplaaDoorW.PrintMore
attribute [local go_sem] max2_int min2_int max_two min_two max_three min_three max_four min_four
set_option maxHeartbeats 8000000
set_option maxRecDepth 100000
set_option linter.unusedVariables false
set_option linter.unusedSimpArgs false
def spec_ShadeDistance.f (k : Nat) (a0_0 : Int) (a0_1 : ByteArray) (a0_2 : Int) (a0_3 : Int) (a0_4 : Int) (a1_0 : Int) (a1_1 : ByteArray) (a1_2 : Int) (a1_3 : Int) (a1_4 : Int) : Option (Int × Bool) := (spec_l3One.f k a0_0 a0_1 a0_2 a0_3 a0_4).bind fun t507 => (if t507 = true then ((spec_l3One.f k a1_0 a1_1 a1_2 a1_3 a1_4).bind fun t508 => (if t508 = true then ((spec_l3Far.f a0_0 a0_1 a0_2 a0_3 a0_4 a1_2 a1_3).bind fun t509 => (some (t509, true))) else (some (0, false)))) else (some (0, false)))
theorem spec_ShadeDistance.calls (k : Nat) (Af : Int) (Ag : ByteArray) (Ah : Int) (Ai : Int) (Aj : Int) (Ao : Int) (Ap : ByteArray) (Ak : Int) (Al : Int) (Aq : Int) (r1 : Int) (r2 : Bool) (w : World) (h : spec_ShadeDistance.f k Af Ag Ah Ai Aj Ao Ap Ak Al Aq = some (r1, r2)) :
  Calls Tryd.prog 17 #[.agg #[.int .i64 Af, .string Ag, .int .i64 Ah, .int .i64 Ai, .int .i64 Aj], .agg #[.int .i64 Ao, .string Ap, .int .i64 Ak, .int .i64 Al, .int .i64 Aq]] w fun e w' => e = .returned (.tuple #[.int .i64 r1, .bool r2]) ∧ Below w.heap.size w w' := by
 have hu30 := Tryd.underlying30; have HB := aM (Below.refl w.heap.size w); have H : ((spec_l3One.f k Af Ag Ah Ai Aj).bind fun Au => (if Au = true then ((spec_l3One.f k Ao Ap Ak Al Aq).bind fun Ar => (if Ar = true then ((spec_l3Far.f Af Ag Ah Ai Aj Ak Al).bind fun An => (some (An, true))) else (some (0, false)))) else (some (0, false)))) = some (r1, r2) := h; clear h; replace H := Option.bind_eq_some_iff.mp H; obtain ⟨Au, Dd, H⟩ := H; replace H : (if Au = true then ((spec_l3One.f k Ao Ap Ak Al Aq).bind fun Ar => (if Ar = true then ((spec_l3Far.f Af Ag Ah Ai Aj Ak Al).bind fun An => (some (An, true))) else (some (0, false)))) else (some (0, false))) = some (r1, r2) := H; have A3 := Aside0.mk Dd; clear Dd
 by_cases c4 : Au = true
 ·subst c4
  have H1 : ((spec_l3One.f k Ao Ap Ak Al Aq).bind fun Ar => (if Ar = true then ((spec_l3Far.f Af Ag Ah Ai Aj Ak Al).bind fun An => (some (An, true))) else (some (0, false)))) = some (r1, r2) := by rw [if_pos rfl] at H; exact H
  clear H; have H := H1; clear H1; replace H := Option.bind_eq_some_iff.mp H; obtain ⟨Ar, De, H⟩ := H; replace H : (if Ar = true then ((spec_l3Far.f Af Ag Ah Ai Aj Ak Al).bind fun An => (some (An, true))) else (some (0, false))) = some (r1, r2) := H; have A5 := Aside0.mk De; clear De
  by_cases c6 : Ar = true
  ·subst c6
   have H1 : ((spec_l3Far.f Af Ag Ah Ai Aj Ak Al).bind fun An => (some (An, true))) = some (r1, r2) := by rw [if_pos rfl] at H; exact H
   clear H; have H := H1; clear H1; replace H := Option.bind_eq_some_iff.mp H; obtain ⟨An, Df, H⟩ := H; replace H : (some (An, true)) = some (r1, r2) := H; have A7 := Aside0.mk Df; clear Df
   simp only [Option.some.injEq, Prod.mk.injEq] at H
   obtain ⟨rfl, rfl⟩ := H
   go_enter Tryd.func17, Tryd.ntmps17
   go_wp2_with (first | ((with_reducible refine gate_dst (N := 2) rfl ?_); refine bxE 2 #[.int .i64 Af, .string Ag, .int .i64 Ah, .int .i64 Ai, .int .i64 Aj] 30 ?_; intro Av hg w8 hbox hb; have Aa := aM (hbox); have Aw := gwS hg Z1; have Ab := gwS hg Z1; replace HB := hbS Z1 hb; clear hb hbox hg) | ((with_reducible refine gate_dst (N := 3) rfl ?_); refine bxE 3 #[.int .i64 Ao, .string Ap, .int .i64 Ak, .int .i64 Al, .int .i64 Aq] 30 ?_; intro Ax hg w9 hbox hb; have Ac := aM (hbox); have Ay := gwS hg Z49; have Am := gwS hg Z49; replace HB := hbS Z49 hb; have Ad := nbL hg Aa; have Ae := nbG hg Aa; replace Aa := bkB Aa hb; clear hb hbox hg; have Dg := Ad.out; have Dh := Ae.out; obtain ⟨Az, Ba, Bb, Bc, Bd⟩ := bz5 Aa; obtain ⟨Bf, Bg, Bh, Bi, Bj⟩ := fz5 Aa) | ((with_reducible refine gate_callee (f := 46) rfl ?_); refine glE (some 7) Tryd.func46 #[.agg #[.int .i64 Af, .string Ag, .int .i64 Ah, .int .i64 Ai, .int .i64 Aj]] ?_; (with_reducible refine (spec_l3One.calls k Af Ag Ah Ai Aj true _ A3.out).mono ?_); rintro e Dm ⟨rfl, hb⟩; refine ⟨_, rfl, ?_⟩; replace Aa := bkB Aa hb; replace Ac := bkB Ac hb; replace HB := hbS Z66 hb; (try clear hb); obtain ⟨Bk, Bl, Bm, Bn, Bo⟩ := bz5 Ac; obtain ⟨Bp, Bq, Br, Bs, Bt⟩ := fz5 Ac) | (go_at_call 46; (with_reducible refine (spec_l3One.calls k Ao Ap Ak Al Aq true _ A5.out).mono ?_); rintro e Dn ⟨rfl, hb⟩; replace Aa := bkB Aa hb; replace Ac := bkB Ac hb; replace HB := hbS Z66 hb; (try clear hb); obtain ⟨Bu, Bv, Bw, Bx, Bz⟩ := bz5 Aa; obtain ⟨B0, B2, B3, B5, B6⟩ := fz5 Aa; obtain ⟨B8, Ca, Cb, Cc, Cd⟩ := bz5 Ac; obtain ⟨Ce, Cf, Cg, Ch, Ci⟩ := fz5 Ac) | ((with_reducible refine gate_callee (f := 32) rfl ?_); refine glE (some 19) Tryd.func32 #[.agg #[.int .i64 Af, .string Ag, .int .i64 Ah, .int .i64 Ai, .int .i64 Aj], .int .i64 Ak, .int .i64 Al] ?_; (with_reducible refine (spec_l3Far.calls Af Ag Ah Ai Aj Ak Al An _ A7.out).mono ?_); rintro e Dp ⟨rfl, hb⟩; refine ⟨_, rfl, ?_⟩; replace Aa := bkB Aa hb; replace Ac := bkB Ac hb; replace HB := hbS Z66 hb; (try clear hb)))
   go_ret2
   exact ⟨Z39, Z66⟩
  ·replace c6 := Bool.eq_false_iff.mpr c6
   subst c6
   have H1 : (some (0, false)) = some (r1, r2) := by rw [if_neg (show ¬ (false = true) by decide)] at H; exact H
   clear H; have H := H1; clear H1
   simp only [Option.some.injEq, Prod.mk.injEq] at H
   obtain ⟨rfl, rfl⟩ := H
   go_enter Tryd.func17, Tryd.ntmps17
   go_wp2_with (first | ((with_reducible refine gate_dst (N := 2) rfl ?_); refine bxE 2 #[.int .i64 Af, .string Ag, .int .i64 Ah, .int .i64 Ai, .int .i64 Aj] 30 ?_; intro Av hg Dq hbox hb; have Aa := aM (hbox); have Aw := gwS hg Z1; have Ab := gwS hg Z1; replace HB := hbS Z1 hb; clear hb hbox hg) | ((with_reducible refine gate_dst (N := 3) rfl ?_); refine bxE 3 #[.int .i64 Ao, .string Ap, .int .i64 Ak, .int .i64 Al, .int .i64 Aq] 30 ?_; intro Ax hg Dr hbox hb; have Ac := aM (hbox); have Ay := gwS hg Z49; have Am := gwS hg Z49; replace HB := hbS Z49 hb; have Ad := nbL hg Aa; have Ae := nbG hg Aa; replace Aa := bkB Aa hb; clear hb hbox hg; have Di := Ad.out; have Dj := Ae.out; obtain ⟨Cj, Ck, Cl, Cm, Cn⟩ := bz5 Aa; obtain ⟨Co, Cp, Cq, Cr, Cs⟩ := fz5 Aa) | ((with_reducible refine gate_callee (f := 46) rfl ?_); refine glE (some 7) Tryd.func46 #[.agg #[.int .i64 Af, .string Ag, .int .i64 Ah, .int .i64 Ai, .int .i64 Aj]] ?_; (with_reducible refine (spec_l3One.calls k Af Ag Ah Ai Aj true _ A3.out).mono ?_); rintro e Ds ⟨rfl, hb⟩; refine ⟨_, rfl, ?_⟩; replace Aa := bkB Aa hb; replace Ac := bkB Ac hb; replace HB := hbS Z66 hb; (try clear hb); obtain ⟨Ct, Cu, Cv, Cw, Cx⟩ := bz5 Ac; obtain ⟨Cy, Cz, C0, C1, C2⟩ := fz5 Ac) | (go_at_call 46; (with_reducible refine (spec_l3One.calls k Ao Ap Ak Al Aq false _ A5.out).mono ?_); rintro e Dt ⟨rfl, hb⟩; replace Aa := bkB Aa hb; replace Ac := bkB Ac hb; replace HB := hbS Z66 hb; (try clear hb)))
   go_ret2
   exact ⟨Z39, Z66⟩
 ·replace c4 := Bool.eq_false_iff.mpr c4
  subst c4
  have H1 : (some (0, false)) = some (r1, r2) := by rw [if_neg (show ¬ (false = true) by decide)] at H; exact H
  clear H; have H := H1; clear H1
  simp only [Option.some.injEq, Prod.mk.injEq] at H
  obtain ⟨rfl, rfl⟩ := H
  go_enter Tryd.func17, Tryd.ntmps17
  go_wp2_with (first | ((with_reducible refine gate_dst (N := 2) rfl ?_); refine bxE 2 #[.int .i64 Af, .string Ag, .int .i64 Ah, .int .i64 Ai, .int .i64 Aj] 30 ?_; intro Av hg Du hbox hb; have Aa := aM (hbox); have Aw := gwS hg Z1; have Ab := gwS hg Z1; replace HB := hbS Z1 hb; clear hb hbox hg) | ((with_reducible refine gate_dst (N := 3) rfl ?_); refine bxE 3 #[.int .i64 Ao, .string Ap, .int .i64 Ak, .int .i64 Al, .int .i64 Aq] 30 ?_; intro Ax hg Dv hbox hb; have Ac := aM (hbox); have Ay := gwS hg Z49; have Am := gwS hg Z49; replace HB := hbS Z49 hb; have Ad := nbL hg Aa; have Ae := nbG hg Aa; replace Aa := bkB Aa hb; clear hb hbox hg; have Dk := Ad.out; have Dl := Ae.out; obtain ⟨C3, C4, C5, C6, C7⟩ := bz5 Aa; obtain ⟨C8, C9, Da, Db, Dc⟩ := fz5 Aa) | ((with_reducible refine gate_callee (f := 46) rfl ?_); refine glE (some 7) Tryd.func46 #[.agg #[.int .i64 Af, .string Ag, .int .i64 Ah, .int .i64 Ai, .int .i64 Aj]] ?_; (with_reducible refine (spec_l3One.calls k Af Ag Ah Ai Aj false _ A3.out).mono ?_); rintro e Dw ⟨rfl, hb⟩; refine ⟨_, rfl, ?_⟩; replace Aa := bkB Aa hb; replace Ac := bkB Ac hb; replace HB := hbS Z66 hb; (try clear hb)))
  go_ret2
  exact ⟨Z39, Z66⟩
end Go.Proofs.YtedjeeicpppplaaDoor.H
