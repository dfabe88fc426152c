-- by wip/pack.py of this repo
import Derived.Test.YtnkecgldapagcaaZ06Hx0
import Derived.Test.YtnkecgldapagcaaZ06Hx2
import Derived.Test.YtnkecgldapagcaaZ06Hx3
import Derived.Test.YtnkecgldapagcaaZ06WApart
import Derived.Test.YtnkecgldapagcaaZ06WLast
import Derived.Test.YtnkecgldapagcaaZ06WMore
import Derived.Test.YtnkecgldapagcaaZ06WN
import Derived.Test.YtnkecgldapagcaaZ06WWords
import Derived.Test.YtnkecgldapagcaaZ06Short
namespace Go.Proofs.Ytnkecgldapagcaa.H
open Go.RowKit Go.Proofs.YtnkecgldapagcaaW.PrintWords Go.Proofs.YtnkecgldapagcaaW.PrintLast Go.Proofs.YtnkecgldapagcaaW.PrintMore
attribute [local go_sem] max2_int min2_int max_two min_two max_three min_three max_four min_four
set_option maxHeartbeats 8000000
set_option maxRecDepth 100000
set_option linter.unusedVariables false
set_option linter.unusedSimpArgs false
def impl_YarnByColor.f (k : Nat) (a0_0 : Int) (a0_1 : Int) (l0_2 : List Int) (a1_0 : Int) (a1_1 : Int) (a1_2 : Int) (a1_3 : Int) : Option (List Int × Bool) := (impl_IsChart.f a0_0 a0_1 l0_2).bind fun t193 => (if t193 = true then ((impl_IsYarn.f a1_0 a1_1 a1_2 a1_3).bind fun t194 => (if t194 = true then ((impl_Yarn_yarns.f k a1_0 a1_1 a1_2 a1_3 a0_0 a0_1 l0_2 1).bind fun t195 => (some (t195, true))) else (some (([] : List Int), false)))) else (some (([] : List Int), false)))
theorem impl_YarnByColor.calls (k : Nat) (Ag : Int) (Ah : Int) (Ao : Option Addr) (Ap : Nat) (Ad : List Int) (Aj : Int) (Ak : Int) (Al : Int) (Am : Int) (r1 : List Int) (r2 : Bool) (w : World) (Aw : Kd.C (Kd.int .i64) w Ao Ad.length Ad) (Ax : Ad.length ≤ Ap) (h : impl_YarnByColor.f k Ag Ah Ad Aj Ak Al Am = some (r1, r2)) :
  Calls Try.prog 15 #[.agg #[.int .i64 Ag, .int .i64 Ah, .slice Ao Ad.length Ap], .agg #[.int .i64 Aj, .int .i64 Ak, .int .i64 Al, .int .i64 Am]] w fun e w' => ∃ v0_ : Value, e = .returned (.tuple #[v0_, .bool r2]) ∧ Kd.R (Kd.int .i64) 3 w' w.heap.size (fun _ => True) v0_ r1 ∧ Below w.heap.size w w' := by
 have hu30 := Try.underlying30; have hu32 := Try.underlying32; have Ar := Aside0.mk Aw; have Au := Aside0.mk Ax; clear Aw Ax; have HB := aM (Below.refl w.heap.size w); have H : ((impl_IsChart.f Ag Ah Ad).bind fun Av => (if Av = true then ((impl_IsYarn.f Aj Ak Al Am).bind fun Aq => (if Aq = true then ((impl_Yarn_yarns.f k Aj Ak Al Am Ag Ah Ad 1).bind fun An => (some (An, true))) else (some (([] : List Int), false)))) else (some (([] : List Int), false)))) = some (r1, r2) := h; clear h; replace H := Option.bind_eq_some_iff.mp H; obtain ⟨Av, Cu, H⟩ := H; replace H : (if Av = true then ((impl_IsYarn.f Aj Ak Al Am).bind fun Aq => (if Aq = true then ((impl_Yarn_yarns.f k Aj Ak Al Am Ag Ah Ad 1).bind fun An => (some (An, true))) else (some (([] : List Int), false)))) else (some (([] : List Int), false))) = some (r1, r2) := H; have A3 := Aside0.mk Cu; clear Cu
 by_cases c4 : Av = true
 ·subst c4
  have H1 : ((impl_IsYarn.f Aj Ak Al Am).bind fun Aq => (if Aq = true then ((impl_Yarn_yarns.f k Aj Ak Al Am Ag Ah Ad 1).bind fun An => (some (An, true))) else (some (([] : List Int), false)))) = some (r1, r2) := by rw [if_pos rfl] at H; exact H
  clear H; have H := H1; clear H1; replace H := Option.bind_eq_some_iff.mp H; obtain ⟨Aq, Cv, H⟩ := H; replace H : (if Aq = true then ((impl_Yarn_yarns.f k Aj Ak Al Am Ag Ah Ad 1).bind fun An => (some (An, true))) else (some (([] : List Int), false))) = some (r1, r2) := H; have A5 := Aside0.mk Cv; clear Cv
  by_cases c6 : Aq = true
  ·subst c6
   have H1 : ((impl_Yarn_yarns.f k Aj Ak Al Am Ag Ah Ad 1).bind fun An => (some (An, true))) = some (r1, r2) := by rw [if_pos rfl] at H; exact H
   clear H; have H := H1; clear H1; replace H := Option.bind_eq_some_iff.mp H; obtain ⟨An, Cw, H⟩ := H; replace H : (some (An, true)) = some (r1, r2) := H; have A7 := Aside0.mk Cw; clear Cw
   simp only [Option.some.injEq, Prod.mk.injEq] at H
   obtain ⟨rfl, rfl⟩ := H
   go_enter Try.func15, Try.ntmps15
   go_wp2_with (first | ((with_reducible refine gate_dst (N := 2) rfl ?_); refine bxE 2 #[.int .i64 Ag, .int .i64 Ah, .slice Ao Ad.length Ap] 30 ?_; intro Ay hg w8 hbox hb; have Aa := aM (hbox); have Az := gwS hg Z2; have Ab := gwS hg Z2; replace HB := hbS Z2 hb; clear hb hbox hg) | ((with_reducible refine gate_dst (N := 3) rfl ?_); refine bxE 3 #[.int .i64 Aj, .int .i64 Ak, .int .i64 Al, .int .i64 Am] 32 ?_; intro Ba hg w9 hbox hb; have Ac := aM (hbox); have Bb := gwS hg Z46; have Ai := gwS hg Z46; replace HB := hbS Z46 hb; have Ae := nbL hg Aa; have Af := nbG hg Aa; replace Aa := bkB Aa hb; clear hb hbox hg; have Cx := Ae.out; have Cy := Af.out; obtain ⟨Bd, Bf, Bg⟩ := bz3 Aa; obtain ⟨Bh, Bi, Bj⟩ := fz3 Aa) | ((with_reducible refine gate_callee (f := 51) rfl ?_); refine glE (some 7) Try.func51 #[.agg #[.int .i64 Ag, .int .i64 Ah, .slice Ao Ad.length Ap]] ?_; (with_reducible refine (impl_IsChart.calls Ag Ah _ _ Ad true _ ?side1 ?side2 A3.out).mono ?_); (case side1 => exact Z71); (case side2 => exact Au.out); rintro e C5 ⟨rfl, hb⟩; refine ⟨_, rfl, ?_⟩; replace Aa := bkB Aa hb; replace Ac := bkB Ac hb; replace HB := hbS Z41 hb; (try clear hb); obtain ⟨Bk, Bl, Bm, Bn⟩ := bz4 Ac; obtain ⟨Bo, Bp, Bq, Br⟩ := fz4 Ac) | (go_at_call 36; (with_reducible refine (impl_IsYarn.calls Aj Ak Al Am true _ A5.out).mono ?_); rintro e C6 ⟨rfl, hb⟩; replace Aa := bkB Aa hb; replace Ac := bkB Ac hb; replace HB := hbS Z41 hb; (try clear hb); obtain ⟨Bs, Bt, Bu, Bv⟩ := bz4 Ac; obtain ⟨Bw, Bx, Bz, B0⟩ := fz4 Ac; obtain ⟨B1, B2, B3⟩ := bz3 Aa; obtain ⟨B5, B7, B9⟩ := fz3 Aa) | ((with_reducible refine gate_callee (f := 52) rfl ?_); refine glE (some 16) Try.func52 #[.agg #[.int .i64 Aj, .int .i64 Ak, .int .i64 Al, .int .i64 Am], .agg #[.int .i64 Ag, .int .i64 Ah, .slice Ao Ad.length Ap], .int .i64 1] ?_; (with_reducible refine (impl_Yarn_yarns.calls k Aj Ak Al Am Ag Ah _ _ Ad 1 An _ ?side1 ?side2 A7.out).mono ?_); (case side1 => exact Z71); (case side2 => exact Au.out); rintro e C7 ⟨C4, rfl, Cz, hb⟩; refine ⟨_, rfl, ?_⟩; have Bc := aM (Kd.R_lower Cz (below_size Z41)); replace Aa := bkB Aa hb; replace Ac := bkB Ac hb; replace HB := hbS Z41 hb; (try clear hb); (try clear Cz)))
   go_ret2
   exact ⟨_, Z8, by (with_reducible repeat (first | apply Kd.R_alloc | apply Kd.R_drewN | apply Kd.R_drew)); exact Bc.out, Z41⟩
  ·replace c6 := Bool.eq_false_iff.mpr c6
   subst c6
   have H1 : (some (([] : List Int), false)) = some (r1, r2) := by rw [if_neg (show ¬ (false = true) by decide)] at H; exact H
   clear H; have H := H1; clear H1
   simp only [Option.some.injEq, Prod.mk.injEq] at H
   obtain ⟨rfl, rfl⟩ := H
   go_enter Try.func15, Try.ntmps15
   go_wp2_with (first | ((with_reducible refine gate_dst (N := 2) rfl ?_); refine bxE 2 #[.int .i64 Ag, .int .i64 Ah, .slice Ao Ad.length Ap] 30 ?_; intro Ay hg C8 hbox hb; have Aa := aM (hbox); have Az := gwS hg Z2; have Ab := gwS hg Z2; replace HB := hbS Z2 hb; clear hb hbox hg) | ((with_reducible refine gate_dst (N := 3) rfl ?_); refine bxE 3 #[.int .i64 Aj, .int .i64 Ak, .int .i64 Al, .int .i64 Am] 32 ?_; intro Ba hg C9 hbox hb; have Ac := aM (hbox); have Bb := gwS hg Z46; have Ai := gwS hg Z46; replace HB := hbS Z46 hb; have Ae := nbL hg Aa; have Af := nbG hg Aa; replace Aa := bkB Aa hb; clear hb hbox hg; have C0 := Ae.out; have C1 := Af.out; obtain ⟨Ca, Cb, Cc⟩ := bz3 Aa; obtain ⟨Cd, Ce, Cf⟩ := fz3 Aa) | ((with_reducible refine gate_callee (f := 51) rfl ?_); refine glE (some 7) Try.func51 #[.agg #[.int .i64 Ag, .int .i64 Ah, .slice Ao Ad.length Ap]] ?_; (with_reducible refine (impl_IsChart.calls Ag Ah _ _ Ad true _ ?side1 ?side2 A3.out).mono ?_); (case side1 => exact Z71); (case side2 => exact Au.out); rintro e Da ⟨rfl, hb⟩; refine ⟨_, rfl, ?_⟩; replace Aa := bkB Aa hb; replace Ac := bkB Ac hb; replace HB := hbS Z41 hb; (try clear hb); obtain ⟨Cg, Ch, Ci, Cj⟩ := bz4 Ac; obtain ⟨Ck, Cl, Cm, Cn⟩ := fz4 Ac) | (go_at_call 36; (with_reducible refine (impl_IsYarn.calls Aj Ak Al Am false _ A5.out).mono ?_); rintro e Db ⟨rfl, hb⟩; replace Aa := bkB Aa hb; replace Ac := bkB Ac hb; replace HB := hbS Z41 hb; (try clear hb)))
   go_ret2
   exact ⟨_, Z8, Z101, Z41⟩
 ·replace c4 := Bool.eq_false_iff.mpr c4
  subst c4
  have H1 : (some (([] : List Int), false)) = some (r1, r2) := by rw [if_neg (show ¬ (false = true) by decide)] at H; exact H
  clear H; have H := H1; clear H1
  simp only [Option.some.injEq, Prod.mk.injEq] at H
  obtain ⟨rfl, rfl⟩ := H
  go_enter Try.func15, Try.ntmps15
  go_wp2_with (first | ((with_reducible refine gate_dst (N := 2) rfl ?_); refine bxE 2 #[.int .i64 Ag, .int .i64 Ah, .slice Ao Ad.length Ap] 30 ?_; intro Ay hg Dc hbox hb; have Aa := aM (hbox); have Az := gwS hg Z2; have Ab := gwS hg Z2; replace HB := hbS Z2 hb; clear hb hbox hg) | ((with_reducible refine gate_dst (N := 3) rfl ?_); refine bxE 3 #[.int .i64 Aj, .int .i64 Ak, .int .i64 Al, .int .i64 Am] 32 ?_; intro Ba hg Dd hbox hb; have Ac := aM (hbox); have Bb := gwS hg Z46; have Ai := gwS hg Z46; replace HB := hbS Z46 hb; have Ae := nbL hg Aa; have Af := nbG hg Aa; replace Aa := bkB Aa hb; clear hb hbox hg; have C2 := Ae.out; have C3 := Af.out; obtain ⟨Co, Cp, Cq⟩ := bz3 Aa; obtain ⟨Cr, Cs, Ct⟩ := fz3 Aa) | ((with_reducible refine gate_callee (f := 51) rfl ?_); refine glE (some 7) Try.func51 #[.agg #[.int .i64 Ag, .int .i64 Ah, .slice Ao Ad.length Ap]] ?_; (with_reducible refine (impl_IsChart.calls Ag Ah _ _ Ad false _ ?side1 ?side2 A3.out).mono ?_); (case side1 => exact Z71); (case side2 => exact Au.out); rintro e De ⟨rfl, hb⟩; refine ⟨_, rfl, ?_⟩; replace Aa := bkB Aa hb; replace Ac := bkB Ac hb; replace HB := hbS Z41 hb; (try clear hb)))
  go_ret2
  exact ⟨_, Z8, Z101, Z41⟩
end Go.Proofs.Ytnkecgldapagcaa.H
