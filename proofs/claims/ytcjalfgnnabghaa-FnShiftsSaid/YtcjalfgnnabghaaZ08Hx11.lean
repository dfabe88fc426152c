-- by wip/pack.py of this repo
import Derived.Test.YtcjalfgnnabghaaZ08Hx0
import Derived.Test.YtcjalfgnnabghaaZ08Hx2
import Derived.Test.YtcjalfgnnabghaaZ08WLast
import Derived.Test.YtcjalfgnnabghaaZ08WMore
import Derived.Test.YtcjalfgnnabghaaZ08WWords
import Derived.Test.YtcjalfgnnabghaaZ08Short
namespace Go.Proofs.Ytcjalfgnnabghaa.H
open Go.RowKit Go.Proofs.YtcjalfgnnabghaaW.PrintWords Go.Proofs.YtcjalfgnnabghaaW.PrintLast Go.Proofs.YtcjalfgnnabghaaW.PrintMore
attribute [local go_sem] max2_int min2_int max_two min_two max_three min_three max_four min_four
set_option maxHeartbeats 8000000
set_option maxRecDepth 100000
set_option linter.unusedVariables false
set_option linter.unusedSimpArgs false
def spec_l13Size.f (k : Nat) (a0_0 : Int) (a0_1 : Int) (l0_2 : List Int) (a1_0 : Int) (a1_1 : Int) (l1_2 : List Int) : Option (Bool) := (spec_l2Good.f k a0_0 a0_1 l0_2).bind fun t238 => (if t238 = true then ((spec_l2Good.f k a1_0 a1_1 l1_2).bind fun t239 => (if t239 = true then (if a0_0 = a1_0 then (some (a0_1 == a1_1)) else (some false)) else (some false))) else (some false))
theorem spec_l13Size.calls (k : Nat) (Af : Int) (Ai : Int) (Am : Option Addr) (An : Nat) (Aj : List Int) (Ag : Int) (Ak : Int) (Au : Option Addr) (Av : Nat) (Al : List Int) (r : Bool) (w : World) (Bd : Kd.C (Kd.int .i64) w Am Aj.length Aj) (Bf : Aj.length ≤ An) (Bg : Kd.C (Kd.int .i64) w Au Al.length Al) (Bh : Al.length ≤ Av) (h : spec_l13Size.f k Af Ai Aj Ag Ak Al = some r) :
  Calls Try.prog 57 #[.agg #[.int .i64 Af, .int .i64 Ai, .slice Am Aj.length An], .agg #[.int .i64 Ag, .int .i64 Ak, .slice Au Al.length Av]] w fun e w' => e = .returned (.bool r) ∧ Below w.heap.size w w' := by
 have hu28 := Try.underlying28; have Aq := Aside0.mk Bd; have Ar := Aside0.mk Bf; clear Bd Bf; have Aw := Aside0.mk Bg; have Ax := Aside0.mk Bh; clear Bg Bh; have HB := aM (Below.refl w.heap.size w); have H : ((spec_l2Good.f k Af Ai Aj).bind fun Bc => (if Bc = true then ((spec_l2Good.f k Ag Ak Al).bind fun Ap => (if Ap = true then (if Af = Ag then (some (Ai == Ak)) else (some false)) else (some false))) else (some false))) = some r := h; clear h; replace H := Option.bind_eq_some_iff.mp H; obtain ⟨Bc, Dk, H⟩ := H; replace H : (if Bc = true then ((spec_l2Good.f k Ag Ak Al).bind fun Ap => (if Ap = true then (if Af = Ag then (some (Ai == Ak)) else (some false)) else (some false))) else (some false)) = some r := H; have A3 := Aside0.mk Dk; clear Dk
 by_cases c4 : Bc = true
 ·subst c4
  have H1 : ((spec_l2Good.f k Ag Ak Al).bind fun Ap => (if Ap = true then (if Af = Ag then (some (Ai == Ak)) else (some false)) else (some false))) = some r := by rw [if_pos rfl] at H; exact H
  clear H; have H := H1; clear H1; replace H := Option.bind_eq_some_iff.mp H; obtain ⟨Ap, Dl, H⟩ := H; replace H : (if Ap = true then (if Af = Ag then (some (Ai == Ak)) else (some false)) else (some false)) = some r := H; have A5 := Aside0.mk Dl; clear Dl
  by_cases c6 : Ap = true
  ·subst c6
   have H1 : (if Af = Ag then (some (Ai == Ak)) else (some false)) = some r := by rw [if_pos rfl] at H; exact H
   clear H; have H := H1; clear H1
   by_cases c7 : Af = Ag
   ·rw [if_pos c7] at H
    have c7b0 : (Af == Ag) = true := beq_iff_eq.mpr c7; have c7b1 : (Af != Ag) = false := bne_eq_false_iff_eq.mpr c7; clear c7; obtain rfl := Option.some.inj H
    go_enter Try.func57, Try.ntmps57
    go_wp2_with (first | ((with_reducible refine gate_dst (N := 2) rfl ?_); refine bxE 2 #[.int .i64 Af, .int .i64 Ai, .slice Am Aj.length An] 28 ?_; intro Ay hg w8 hbox hb; have Aa := aM (hbox); have Az := gwS hg Z0; have Ac := gwS hg Z0; replace HB := hbS Z0 hb; clear hb hbox hg) | ((with_reducible refine gate_dst (N := 3) rfl ?_); refine bxE 3 #[.int .i64 Ag, .int .i64 Ak, .slice Au Al.length Av] 28 ?_; intro Ba hg w9 hbox hb; have Ab := aM (hbox); have Bb := gwS hg Z56; have Ah := gwS hg Z56; replace HB := hbS Z56 hb; have Ad := nbL hg Aa; have Ae := nbG hg Aa; replace Aa := bkB Aa hb; clear hb hbox hg; have Dm := Ad.out; have Dn := Ae.out; obtain ⟨Bi, Bj, Bk⟩ := bz3 Aa; obtain ⟨Bl, Bm, Bn⟩ := fz3 Aa) | ((with_reducible refine gate_callee (f := 71) rfl ?_); refine glE (some 6) Try.func71 #[.agg #[.int .i64 Af, .int .i64 Ai, .slice Am Aj.length An]] ?_; (with_reducible refine (spec_l2Good.calls k Af Ai _ _ Aj true _ ?side1 ?side2 A3.out).mono ?_); (case side1 => exact Z142); (case side2 => exact Ar.out); rintro e Dv ⟨rfl, hb⟩; refine ⟨_, rfl, ?_⟩; replace Aa := bkB Aa hb; replace Ab := bkB Ab hb; replace HB := hbS Z63 hb; (try clear hb); obtain ⟨Bo, Bp, Bq⟩ := bz3 Ab; obtain ⟨Br, Bs, Bt⟩ := fz3 Ab) | (go_at_call 71; (with_reducible refine (spec_l2Good.calls k Ag Ak _ _ Al true _ ?side1 ?side2 A5.out).mono ?_); (case side1 => exact Z109); (case side2 => exact Ax.out); rintro e Dw ⟨rfl, hb⟩; replace Aa := bkB Aa hb; replace Ab := bkB Ab hb; replace HB := hbS Z63 hb; (try clear hb); obtain ⟨Bu, Bv, Bw⟩ := bz3 Aa; obtain ⟨Bx, Bz, B0⟩ := fz3 Aa; obtain ⟨B6, B9, Ca⟩ := bz3 Ab; obtain ⟨Cb, Cc, Cd⟩ := fz3 Ab))
    go_ret
    exact ⟨Z9, Z63⟩
   ·rw [if_neg c7] at H
    have c7b0 : (Af == Ag) = false := beq_eq_false_iff_ne.mpr c7; have c7b1 : (Af != Ag) = true := bne_iff_ne.mpr c7; obtain rfl := Option.some.inj H
    go_enter Try.func57, Try.ntmps57
    go_wp2_with (first | ((with_reducible refine gate_dst (N := 2) rfl ?_); refine bxE 2 #[.int .i64 Af, .int .i64 Ai, .slice Am Aj.length An] 28 ?_; intro Ay hg Dx hbox hb; have Aa := aM (hbox); have Az := gwS hg Z0; have Ac := gwS hg Z0; replace HB := hbS Z0 hb; clear hb hbox hg) | ((with_reducible refine gate_dst (N := 3) rfl ?_); refine bxE 3 #[.int .i64 Ag, .int .i64 Ak, .slice Au Al.length Av] 28 ?_; intro Ba hg Dy hbox hb; have Ab := aM (hbox); have Bb := gwS hg Z56; have Ah := gwS hg Z56; replace HB := hbS Z56 hb; have Ad := nbL hg Aa; have Ae := nbG hg Aa; replace Aa := bkB Aa hb; clear hb hbox hg; have Dp := Ad.out; have Dq := Ae.out; obtain ⟨Ce, Cf, Cg⟩ := bz3 Aa; obtain ⟨Ch, Ci, Cj⟩ := fz3 Aa) | ((with_reducible refine gate_callee (f := 71) rfl ?_); refine glE (some 6) Try.func71 #[.agg #[.int .i64 Af, .int .i64 Ai, .slice Am Aj.length An]] ?_; (with_reducible refine (spec_l2Good.calls k Af Ai _ _ Aj true _ ?side1 ?side2 A3.out).mono ?_); (case side1 => exact Z142); (case side2 => exact Ar.out); rintro e Dz ⟨rfl, hb⟩; refine ⟨_, rfl, ?_⟩; replace Aa := bkB Aa hb; replace Ab := bkB Ab hb; replace HB := hbS Z63 hb; (try clear hb); obtain ⟨Ck, Cl, Cm⟩ := bz3 Ab; obtain ⟨Cn, Co, Cp⟩ := fz3 Ab) | (go_at_call 71; (with_reducible refine (spec_l2Good.calls k Ag Ak _ _ Al true _ ?side1 ?side2 A5.out).mono ?_); (case side1 => exact Z109); (case side2 => exact Ax.out); rintro e D0 ⟨rfl, hb⟩; replace Aa := bkB Aa hb; replace Ab := bkB Ab hb; replace HB := hbS Z63 hb; (try clear hb); obtain ⟨Cq, Cr, Cs⟩ := bz3 Aa; obtain ⟨Ct, Cu, Cv⟩ := fz3 Aa; obtain ⟨Cw, Cx, Cy⟩ := bz3 Ab; obtain ⟨Cz, C0, C1⟩ := fz3 Ab))
    go_ret
    exact ⟨Z9, Z63⟩
  ·replace c6 := Bool.eq_false_iff.mpr c6
   subst c6
   have H1 : (some false) = some r := by rw [if_neg (show ¬ (false = true) by decide)] at H; exact H
   clear H; have H := H1; clear H1; obtain rfl := Option.some.inj H
   go_enter Try.func57, Try.ntmps57
   go_wp2_with (first | ((with_reducible refine gate_dst (N := 2) rfl ?_); refine bxE 2 #[.int .i64 Af, .int .i64 Ai, .slice Am Aj.length An] 28 ?_; intro Ay hg D1 hbox hb; have Aa := aM (hbox); have Az := gwS hg Z0; have Ac := gwS hg Z0; replace HB := hbS Z0 hb; clear hb hbox hg) | ((with_reducible refine gate_dst (N := 3) rfl ?_); refine bxE 3 #[.int .i64 Ag, .int .i64 Ak, .slice Au Al.length Av] 28 ?_; intro Ba hg D2 hbox hb; have Ab := aM (hbox); have Bb := gwS hg Z56; have Ah := gwS hg Z56; replace HB := hbS Z56 hb; have Ad := nbL hg Aa; have Ae := nbG hg Aa; replace Aa := bkB Aa hb; clear hb hbox hg; have Dr := Ad.out; have Ds := Ae.out; obtain ⟨C2, C3, C4⟩ := bz3 Aa; obtain ⟨C5, C6, C7⟩ := fz3 Aa) | ((with_reducible refine gate_callee (f := 71) rfl ?_); refine glE (some 6) Try.func71 #[.agg #[.int .i64 Af, .int .i64 Ai, .slice Am Aj.length An]] ?_; (with_reducible refine (spec_l2Good.calls k Af Ai _ _ Aj true _ ?side1 ?side2 A3.out).mono ?_); (case side1 => exact Z142); (case side2 => exact Ar.out); rintro e D3 ⟨rfl, hb⟩; refine ⟨_, rfl, ?_⟩; replace Aa := bkB Aa hb; replace Ab := bkB Ab hb; replace HB := hbS Z63 hb; (try clear hb); obtain ⟨C8, C9, Da⟩ := bz3 Ab; obtain ⟨Db, Dc, Dd⟩ := fz3 Ab) | (go_at_call 71; (with_reducible refine (spec_l2Good.calls k Ag Ak _ _ Al false _ ?side1 ?side2 A5.out).mono ?_); (case side1 => exact Z109); (case side2 => exact Ax.out); rintro e D4 ⟨rfl, hb⟩; replace Aa := bkB Aa hb; replace Ab := bkB Ab hb; replace HB := hbS Z63 hb; (try clear hb)))
   go_ret
   exact ⟨Z9, Z63⟩
 ·replace c4 := Bool.eq_false_iff.mpr c4
  subst c4
  have H1 : (some false) = some r := by rw [if_neg (show ¬ (false = true) by decide)] at H; exact H
  clear H; have H := H1; clear H1; obtain rfl := Option.some.inj H
  go_enter Try.func57, Try.ntmps57
  go_wp2_with (first | ((with_reducible refine gate_dst (N := 2) rfl ?_); refine bxE 2 #[.int .i64 Af, .int .i64 Ai, .slice Am Aj.length An] 28 ?_; intro Ay hg D5 hbox hb; have Aa := aM (hbox); have Az := gwS hg Z0; have Ac := gwS hg Z0; replace HB := hbS Z0 hb; clear hb hbox hg) | ((with_reducible refine gate_dst (N := 3) rfl ?_); refine bxE 3 #[.int .i64 Ag, .int .i64 Ak, .slice Au Al.length Av] 28 ?_; intro Ba hg D6 hbox hb; have Ab := aM (hbox); have Bb := gwS hg Z56; have Ah := gwS hg Z56; replace HB := hbS Z56 hb; have Ad := nbL hg Aa; have Ae := nbG hg Aa; replace Aa := bkB Aa hb; clear hb hbox hg; have Dt := Ad.out; have Du := Ae.out; obtain ⟨De, Df, Dg⟩ := bz3 Aa; obtain ⟨Dh, Di, Dj⟩ := fz3 Aa) | ((with_reducible refine gate_callee (f := 71) rfl ?_); refine glE (some 6) Try.func71 #[.agg #[.int .i64 Af, .int .i64 Ai, .slice Am Aj.length An]] ?_; (with_reducible refine (spec_l2Good.calls k Af Ai _ _ Aj false _ ?side1 ?side2 A3.out).mono ?_); (case side1 => exact Z142); (case side2 => exact Ar.out); rintro e D7 ⟨rfl, hb⟩; refine ⟨_, rfl, ?_⟩; replace Aa := bkB Aa hb; replace Ab := bkB Ab hb; replace HB := hbS Z63 hb; (try clear hb)))
  go_ret
  exact ⟨Z9, Z63⟩
def findI2 (p : Nat → Bool) (u0 v0 : Int) (s0 : Value) (u1 v1 : Int) (s1 : Value) : Int := if (p 0) = true then 0 else if (p 1) = true then 1 else -1
theorem findI2_0 (p : Nat → Bool) (u0 v0 : Int) (s0 : Value) (u1 v1 : Int) (s1 : Value) (h : (p 0) = true) : findI2 p u0 v0 s0 u1 v1 s1 = 0 := by unfold findI2; rw [if_pos h]
theorem findI2_1 (p : Nat → Bool) (u0 v0 : Int) (s0 : Value) (u1 v1 : Int) (s1 : Value) (h0 : (p 0) = false) (h : (p 1) = true) : findI2 p u0 v0 s0 u1 v1 s1 = 1 := by unfold findI2; rw [h0, if_neg (by decide), if_pos h]
theorem findI2_2 (p : Nat → Bool) (u0 v0 : Int) (s0 : Value) (u1 v1 : Int) (s1 : Value) (h0 : (p 0) = false) (h : (p 1) = false) : findI2 p u0 v0 s0 u1 v1 s1 = -1 := by unfold findI2; rw [h0, h, if_neg (by decide), if_neg (by decide)]
set_option maxHeartbeats 4000000 in
set_option maxRecDepth 100000 in
theorem IndexFunc_ch2 (p : Nat → Bool) (g : Nat) (lb : Array Value) (b c : Nat) (u0 v0 : Int) (s0 : Value) (u1 v1 : Int) (s1 : Value) (w : World) (eg : ∀ args w, (callFunc g args).run Try.prog w = .ok (.enter g args) w) (hz : ∀ W, Below w.heap.size w W → W.cell? ⟨b, 0, none⟩ = some (.int .i64 u0) ∧ W.cell? ⟨b, 1, none⟩ = some (.int .i64 v0) ∧ W.cell? ⟨b, 2, none⟩ = some (s0) ∧ W.cell? ⟨b, 3, none⟩ = some (.int .i64 u1) ∧ W.cell? ⟨b, 4, none⟩ = some (.int .i64 v1) ∧ W.cell? ⟨b, 5, none⟩ = some (s1)) (hp0 : ∀ W, Below w.heap.size w W → Calls Try.prog g (#[.agg #[.int .i64 u0, .int .i64 v0, s0]] ++ lb) W fun e w' => e = .returned (.bool ((p 0))) ∧ Below W.heap.size W w') (hp1 : ∀ W, Below w.heap.size w W → Calls Try.prog g (#[.agg #[.int .i64 u1, .int .i64 v1, s1]] ++ lb) W fun e w' => e = .returned (.bool ((p 1))) ∧ Below W.heap.size W w') :
  Calls Try.prog 120 #[.slice (some ⟨b, 0, none⟩) 2 2, .func (.func g) #[] lb] w fun e w' => e = .returned (.int .i64 (findI2 p u0 v0 s0 u1 v1 s1)) ∧ Below w.heap.size w w' := by
 have hu28 := Try.underlying28; have HZ := Aside0.mk hz; have Ab := Aside0.mk hp0; have Ac := Aside0.mk hp1; clear hz hp0 hp1; obtain ⟨R, hR⟩ : ∃ R, R = findI2 p u0 v0 s0 u1 v1 s1 := ⟨_, rfl⟩; rw [← hR]; have HR := Aside0.mk hR; clear hR
 go_enter Try.func120, Try.ntmps120
 go_wp2
 go_loopg [5, 8] 2 (fun gg _ s8 wr => ∃ x : Int, s8 = .int .i64 x ∧ Aside0 (0 ≤ x ∧ x ≤ 2 ∧ 2 - x ≤ gg) ∧ Aside0 (Below w.heap.size w wr) ∧ Aside0 (x = 1 → (p 0) = false) ∧ Aside0 (x = 2 → (p 0) = false ∧ (p 1) = false))
 case atStart => exact ⟨0, rfl, ⟨by omega, by omega, by omega⟩, ⟨Below.refl _ _⟩, ⟨fun h => by cases h⟩, ⟨fun h => by cases h⟩⟩
 case round =>
  obtain ⟨x, rfl, HX, BW, HA, Aa⟩ := hrel
  have hx : x = 0 ∨ x = 1 ∨ x = 2 := by have := HX.out; omega
  rcases hx with rfl | rfl | rfl
  ·skip
   clear HA Aa; cases hq : (p 0) with
   | true =>
    have hcall := Ab.out _ BW.out; rw [hq] at hcall; have HQ := Aside0.mk hq; have HC := Aside0.mk hcall; clear hq hcall; obtain ⟨z0, z1, z2, z3, z4, z5⟩ := HZ.out _ BW.out
    go_wp2_with fail
    refine HC.out.mono ?_; rintro e w' ⟨rfl, hb'⟩; have HB := aM (below_step BW.out hb'); clear hb'
    go_wp2
    go_ret
    refine ⟨?_, HB.out⟩; rw [HR.out, findI2_0 p u0 v0 s0 u1 v1 s1 HQ.out]
    first | rfl | (simp; done)
   | false =>
    have hcall := Ab.out _ BW.out; rw [hq] at hcall; have HQ := Aside0.mk hq; have HC := Aside0.mk hcall; clear hq hcall; obtain ⟨z0, z1, z2, z3, z4, z5⟩ := HZ.out _ BW.out
    go_wp2_with fail
    refine HC.out.mono ?_; rintro e w' ⟨rfl, hb'⟩; have HB := aM (below_step BW.out hb'); clear hb'
    go_wp2
    go_roundg 1
    case measure => have := HX.out; omega
    case rel => exact ⟨1, Z148, ⟨by omega, by omega, by omega⟩, HB, ⟨fun _ => HQ.out⟩, ⟨fun h => by cases h⟩⟩
  ·have Ad : Aside0 ((p 0) = false) := ⟨HA.out rfl⟩
   clear HA Aa; cases hq : (p 1) with
   | true =>
    have hcall := Ac.out _ BW.out; rw [hq] at hcall; have HQ := Aside0.mk hq; have HC := Aside0.mk hcall; clear hq hcall; obtain ⟨z0, z1, z2, z3, z4, z5⟩ := HZ.out _ BW.out
    go_wp2_with fail
    refine HC.out.mono ?_; rintro e w' ⟨rfl, hb'⟩; have HB := aM (below_step BW.out hb'); clear hb'
    go_wp2
    go_ret
    refine ⟨?_, HB.out⟩; rw [HR.out, findI2_1 p u0 v0 s0 u1 v1 s1 Ad.out HQ.out]
    first | rfl | (simp; done)
   | false =>
    have hcall := Ac.out _ BW.out; rw [hq] at hcall; have HQ := Aside0.mk hq; have HC := Aside0.mk hcall; clear hq hcall; obtain ⟨z0, z1, z2, z3, z4, z5⟩ := HZ.out _ BW.out
    go_wp2_with fail
    refine HC.out.mono ?_; rintro e w' ⟨rfl, hb'⟩; have HB := aM (below_step BW.out hb'); clear hb'
    go_wp2
    go_roundg 0
    case measure => have := HX.out; omega
    case rel => exact ⟨2, Z148, ⟨by omega, by omega, by omega⟩, HB, ⟨fun h => by cases h⟩, ⟨fun _ => ⟨Ad.out, HQ.out⟩⟩⟩
  ·have H2 := aM (Aa.out rfl)
   clear HA Aa
   go_wp2
   go_ret
   refine ⟨?_, BW.out⟩; rw [HR.out, findI2_2 p u0 v0 s0 u1 v1 s1 H2.out.1 H2.out.2]
   first | rfl | (simp; done)
set_option maxHeartbeats 4000000 in
set_option maxRecDepth 100000 in
theorem ContainsFunc_ch2 (p : Nat → Bool) (g : Nat) (lb : Array Value) (b c : Nat) (u0 v0 : Int) (s0 : Value) (u1 v1 : Int) (s1 : Value) (w : World) (eg : ∀ args w, (callFunc g args).run Try.prog w = .ok (.enter g args) w) (hz : ∀ W, Below w.heap.size w W → W.cell? ⟨b, 0, none⟩ = some (.int .i64 u0) ∧ W.cell? ⟨b, 1, none⟩ = some (.int .i64 v0) ∧ W.cell? ⟨b, 2, none⟩ = some (s0) ∧ W.cell? ⟨b, 3, none⟩ = some (.int .i64 u1) ∧ W.cell? ⟨b, 4, none⟩ = some (.int .i64 v1) ∧ W.cell? ⟨b, 5, none⟩ = some (s1)) (hp0 : ∀ W, Below w.heap.size w W → Calls Try.prog g (#[.agg #[.int .i64 u0, .int .i64 v0, s0]] ++ lb) W fun e w' => e = .returned (.bool ((p 0))) ∧ Below W.heap.size W w') (hp1 : ∀ W, Below w.heap.size w W → Calls Try.prog g (#[.agg #[.int .i64 u1, .int .i64 v1, s1]] ++ lb) W fun e w' => e = .returned (.bool ((p 1))) ∧ Below W.heap.size W w') :
  Calls Try.prog 105 #[.slice (some ⟨b, 0, none⟩) 2 2, .func (.func g) #[] lb] w fun e w' => e = .returned (.bool ((p 0) || (p 1))) ∧ Below w.heap.size w w' := by
 have HC := aM (IndexFunc_ch2 p g lb b c u0 v0 s0 u1 v1 s1 w eg hz hp0 hp1); clear hz hp0 hp1 eg
 have hf : decide (0 ≤ findI2 p u0 v0 s0 u1 v1 s1) = ((p 0) || (p 1)) := by
  unfold findI2
  cases (p 0) <;> cases (p 1) <;> rfl
 rw [← hf]; clear hf
 go_enter Try.func105, Try.ntmps105
 go_wp2_with fail
 refine HC.out.mono ?_; rintro e w' ⟨rfl, hb'⟩
 go_wp2
 go_ret
 exact ⟨Z148, hb'⟩
set_option maxHeartbeats 4000000 in
set_option maxRecDepth 100000 in
theorem areAll_ch_1 (r : Bool) (g : Nat) (lb : Array Value) (b : Nat) (u0 v0 : Int) (s0 : Value) (W : World)
  (eg : ∀ args w, (callFunc g args).run Try.prog w = .ok (.enter g args) w) (hc : W.cell? ⟨b, 0, none⟩ = some (.func (.func g) #[] lb))
  (hp : ∀ W1, Below W.heap.size W W1 → Calls Try.prog g (#[.agg #[.int .i64 u0, .int .i64 v0, s0]] ++ lb) W1 fun e w' => e = .returned (.bool r) ∧ Below W1.heap.size W1 w') (hb : b < W.heap.size) :
  Calls Try.prog 106 #[.agg #[.int .i64 u0, .int .i64 v0, s0], .pointer (some ⟨b, 0, none⟩)] W fun e w' => e = .returned (.bool (!r)) ∧ Below W.heap.size W w' := by
 have hu28 := Try.underlying28; have HP := Aside0.mk hp; clear hp; have hB1 : Below W.heap.size W (W.alloc (.cells #[.int .i64 u0, .int .i64 v0, s0] 28)) := below_alloc (Below.refl _ _) _; have Aa : (W.alloc (.cells #[.int .i64 u0, .int .i64 v0, s0] 28)).cell? ⟨b, 0, none⟩ = some (.func (.func g) #[] lb) := (hB1.cell (p := ⟨b, 0, none⟩) hb).trans hc; have HB := Aside0.mk hB1; clear hB1 hc
 go_enter Try.func106, Try.ntmps106
 go_wp2_with fail
 refine (HP.out _ HB.out).mono ?_; rintro e w' ⟨rfl, hb'⟩
 go_wp2
 go_ret
 exact ⟨Z148, below_step HB.out hb'⟩
set_option maxHeartbeats 4000000 in
set_option maxRecDepth 100000 in
theorem areAll_ch2 (p : Nat → Bool) (g : Nat) (lb : Array Value) (b c : Nat) (u0 v0 : Int) (s0 : Value) (u1 v1 : Int) (s1 : Value) (w : World) (eg : ∀ args w, (callFunc g args).run Try.prog w = .ok (.enter g args) w) (hz : ∀ W, Below w.heap.size w W → W.cell? ⟨b, 0, none⟩ = some (.int .i64 u0) ∧ W.cell? ⟨b, 1, none⟩ = some (.int .i64 v0) ∧ W.cell? ⟨b, 2, none⟩ = some (s0) ∧ W.cell? ⟨b, 3, none⟩ = some (.int .i64 u1) ∧ W.cell? ⟨b, 4, none⟩ = some (.int .i64 v1) ∧ W.cell? ⟨b, 5, none⟩ = some (s1)) (hp0 : ∀ W, Below w.heap.size w W → Calls Try.prog g (#[.agg #[.int .i64 u0, .int .i64 v0, s0]] ++ lb) W fun e w' => e = .returned (.bool ((p 0))) ∧ Below W.heap.size W w') (hp1 : ∀ W, Below w.heap.size w W → Calls Try.prog g (#[.agg #[.int .i64 u1, .int .i64 v1, s1]] ++ lb) W fun e w' => e = .returned (.bool ((p 1))) ∧ Below W.heap.size W w') :
  Calls Try.prog 91 #[.slice (some ⟨b, 0, none⟩) 2 2, .func (.func g) #[] lb] w fun e w' => e = .returned (.bool ((p 0) && (p 1))) ∧ Below w.heap.size w w' := by
 have hmf : ∀ (fn : Fn) (first cap : Array Value) (w : World), (Instr.makeFunc fn first cap).run Try.prog w = .ok (.func fn first cap) w := fun _ _ _ _ => rfl
 have hB1 : Below w.heap.size w (w.alloc (.cells #[.func (.func g) #[] lb] 77)) := below_alloc (Below.refl _ _) _
 have Aa : (w.alloc (.cells #[.func (.func g) #[] lb] 77)).cell? ⟨w.heap.size, 0, none⟩ = some (.func (.func g) #[] lb) := by simp
 have hsz : w.heap.size < (w.alloc (.cells #[.func (.func g) #[] lb] 77)).heap.size := by simp
 have HC := aM (ContainsFunc_ch2 (fun i => !p i) 106 #[.pointer (some ⟨w.heap.size, 0, none⟩)] b c u0 v0 s0 u1 v1 s1 (w.alloc (.cells #[.func (.func g) #[] lb] 77)) (enters_of Try.func106 Z61 rfl)
  (fun W hW => hz W (hB1.trans (hW.mono hB1.size)))
  (fun W hW => areAll_ch_1 ((p 0)) g lb w.heap.size u0 v0 s0 W eg ((hW.cell (p := ⟨w.heap.size, 0, none⟩) hsz).trans Aa) (fun W1 h1 => hp0 W1 ((hB1.trans (hW.mono hB1.size)).trans (h1.mono (Nat.le_trans hB1.size hW.size)))) (Nat.lt_of_lt_of_le hsz hW.size))
  (fun W hW => areAll_ch_1 ((p 1)) g lb w.heap.size u1 v1 s1 W eg ((hW.cell (p := ⟨w.heap.size, 0, none⟩) hsz).trans Aa) (fun W1 h1 => hp1 W1 ((hB1.trans (hW.mono hB1.size)).trans (h1.mono (Nat.le_trans hB1.size hW.size)))) (Nat.lt_of_lt_of_le hsz hW.size)))
 have HB := Aside0.mk hB1
 have e : ((p 0) && (p 1)) = !((!(p 0)) || (!(p 1))) := by cases (p 0) <;> cases (p 1) <;> rfl
 rw [e]; clear hB1 Aa hsz hp0 hp1 hz eg e
 go_enter Try.func91, Try.ntmps91
 go_wp2_with fail
 refine HC.out.mono ?_; rintro e w' ⟨rfl, hb'⟩
 go_wp2
 go_ret
 exact ⟨Z148, below_step HB.out hb'⟩
set_option maxHeartbeats 4000000 in
set_option maxRecDepth 100000 in
theorem isSameSize_1 (b : Nat) (Af Ai : Int) (Aa Ac : Int) (Ad : Option Addr) (Ae : Nat) (Ab : List Int) (bD : Bool) (W : World) (Ag : Kd.C (Kd.int .i64) W Ad Ab.length Ab) (Ah : Ab.length ≤ Ae) (hI : impl_IsChart.f Aa Ac Ab = some bD) (hz : W.cell? ⟨b, 0, none⟩ = some (.int .i64 Af) ∧ W.cell? ⟨b, 1, none⟩ = some (.int .i64 Ai)) (hb : b < W.heap.size) :
  Calls Try.prog 92 #[.agg #[.int .i64 Aa, .int .i64 Ac, .slice Ad Ab.length Ae], .pointer (some ⟨b, 0, none⟩)] W fun e w' => e = .returned (.bool (bD && (Aa == Af && Ac == Ai))) ∧ Below W.heap.size W w' := by
 have hu28 := Try.underlying28; have hB1 : Below W.heap.size W (W.alloc (.cells #[.int .i64 Aa, .int .i64 Ac, .slice Ad Ab.length Ae] 28)) := below_alloc (Below.refl _ _) _; have hk := heap_alloc_new W (.cells #[.int .i64 Aa, .int .i64 Ac, .slice Ad Ab.length Ae] 28)
 have hs : W.heap.size < (W.alloc (.cells #[.int .i64 Aa, .int .i64 Ac, .slice Ad Ab.length Ae] 28)).heap.size := by simp
 have CELLS : Aside0 (∀ W', Below (W.alloc (.cells #[.int .i64 Aa, .int .i64 Ac, .slice Ad Ab.length Ae] 28)).heap.size (W.alloc (.cells #[.int .i64 Aa, .int .i64 Ac, .slice Ad Ab.length Ae] 28)) W' → W'.cell? ⟨b, 0, none⟩ = some (.int .i64 Af) ∧ W'.cell? ⟨b, 1, none⟩ = some (.int .i64 Ai) ∧ W'.cell? ⟨W.heap.size, 0, none⟩ = some (.int .i64 Aa) ∧ W'.cell? ⟨W.heap.size, 1, none⟩ = some (.int .i64 Ac) ∧ W'.cell? ⟨W.heap.size, 2, none⟩ = some (.slice Ad Ab.length Ae)) :=
  ⟨fun W' h => ⟨(h.cell (p := ⟨b, 0, none⟩) (Nat.lt_trans hb hs)).trans ((hB1.cell (p := ⟨b, 0, none⟩) hb).trans hz.1), (h.cell (p := ⟨b, 1, none⟩) (Nat.lt_trans hb hs)).trans ((hB1.cell (p := ⟨b, 1, none⟩) hb).trans hz.2), (h.cell (p := ⟨W.heap.size, 0, none⟩) hs).trans ((blk_cell hk 0).trans rfl), (h.cell (p := ⟨W.heap.size, 1, none⟩) hs).trans ((blk_cell hk 1).trans rfl), (h.cell (p := ⟨W.heap.size, 2, none⟩) hs).trans ((blk_cell hk 2).trans rfl)⟩⟩
 have HA : Aside0 (∀ W', Below W.heap.size W W' → _) := ⟨fun W' h => impl_IsChart.calls Aa Ac Ad Ae Ab bD W' (Kd.C_below Ag h) Ah hI⟩; have HB := Aside0.mk hB1; clear hB1 hk hs hz hb Ag Ah hI; cases bD with
 | false =>
  rw [Bool.false_and]
  go_enter Try.func92, Try.ntmps92
  obtain ⟨y0, y1, z0, z1, z2⟩ := CELLS.out _ (Below.refl _ _)
  go_wp2_with fail
  refine (HA.out _ HB.out).mono ?_; rintro e w1 ⟨rfl, hb'⟩; have Aj := aM (below_step HB.out hb'); clear y0 y1 z0 z1 z2; obtain ⟨y0, y1, z0, z1, z2⟩ := CELLS.out _ hb'; clear hb'
  go_wp2
  repeat (go_quiet (fail); try go_wp2)
  go_ret
  exact ⟨Z10, Z231⟩
 | true =>
  rw [Bool.true_and]
  by_cases c1 : Aa = Af
  ·have d1 : (Aa == Af) = true := beq_iff_eq.2 c1
   have d2 : decide (Aa = Af) = true := decide_eq_true c1; rw [d1, Bool.true_and]; clear c1
   go_enter Try.func92, Try.ntmps92
   obtain ⟨y0, y1, z0, z1, z2⟩ := CELLS.out _ (Below.refl _ _)
   go_wp2_with fail
   refine (HA.out _ HB.out).mono ?_; rintro e w1 ⟨rfl, hb'⟩; have Aj := aM (below_step HB.out hb'); clear y0 y1 z0 z1 z2; obtain ⟨y0, y1, z0, z1, z2⟩ := CELLS.out _ hb'; clear hb'
   go_wp2
   repeat (go_quiet (fail); try go_wp2)
   go_ret
   exact ⟨Z10, Z231⟩
  ·have d1 : (Aa == Af) = false := beq_eq_false_iff_ne.2 c1
   have d2 : decide (Aa = Af) = false := decide_eq_false c1; rw [d1, Bool.false_and]; clear c1
   go_enter Try.func92, Try.ntmps92
   obtain ⟨y0, y1, z0, z1, z2⟩ := CELLS.out _ (Below.refl _ _)
   go_wp2_with fail
   refine (HA.out _ HB.out).mono ?_; rintro e w1 ⟨rfl, hb'⟩; have Aj := aM (below_step HB.out hb'); clear y0 y1 z0 z1 z2; obtain ⟨y0, y1, z0, z1, z2⟩ := CELLS.out _ hb'; clear hb'
   go_wp2
   repeat (go_quiet (fail); try go_wp2)
   go_ret
   exact ⟨Z10, Z231⟩
def impl_isSameSize.two (a0_0 a0_1 : Int) (l0_2 : List Int) (a1_0 a1_1 : Int) (l1_2 : List Int) (a2_0 a2_1 : Int) (l2_2 : List Int) : Option Bool := (impl_IsChart.f a0_0 a0_1 l0_2).bind fun b0 => (impl_IsChart.f a1_0 a1_1 l1_2).bind fun b1 => (impl_IsChart.f a2_0 a2_1 l2_2).bind fun b2 => some (b0 && ((b1 && (a1_0 == a0_0 && a1_1 == a0_1)) && (b2 && (a2_0 == a0_0 && a2_1 == a0_1))))
theorem impl_isSameSize.calls2 (b c : Nat) (Aa Ab : Int) (Ad : Option Addr) (Ae : Nat) (Ac : List Int) (Ah Ai : Int) (Al : Option Addr) (Am : Nat) (Af : List Int) (Aj Ak : Int) (An : Option Addr) (Ap : Nat) (Ag : List Int) (r : Bool) (w : World) (Aq : Kd.C (Kd.int .i64) w Ad Ac.length Ac) (Ar : Ac.length ≤ Ae) (Au : Kd.C (Kd.int .i64) w Al Af.length Af) (Av : Af.length ≤ Am) (Aw : Kd.C (Kd.int .i64) w An Ag.length Ag) (Ax : Ag.length ≤ Ap) (h : impl_isSameSize.two Aa Ab Ac Ah Ai Af Aj Ak Ag = some r)
  (hz : ∀ W, Below w.heap.size w W → W.cell? ⟨b, 0, none⟩ = some (.int .i64 Ah) ∧ W.cell? ⟨b, 1, none⟩ = some (.int .i64 Ai) ∧ W.cell? ⟨b, 2, none⟩ = some (.slice Al Af.length Am) ∧ W.cell? ⟨b, 3, none⟩ = some (.int .i64 Aj) ∧ W.cell? ⟨b, 4, none⟩ = some (.int .i64 Ak) ∧ W.cell? ⟨b, 5, none⟩ = some (.slice An Ag.length Ap)) :
  Calls Try.prog 59 #[.agg #[.int .i64 Aa, .int .i64 Ab, .slice Ad Ac.length Ae], .slice (some ⟨b, 0, none⟩) 2 2] w fun e w' => e = .returned (.bool r) ∧ Below w.heap.size w w' := by
 have hu28 := Try.underlying28
 have hmf : ∀ (fn : Fn) (first cap : Array Value) (w : World), (Instr.makeFunc fn first cap).run Try.prog w = .ok (.func fn first cap) w := fun _ _ _ _ => rfl
 unfold impl_isSameSize.two at h
 obtain ⟨b0, hb0, h⟩ := Option.bind_eq_some_iff.mp h; obtain ⟨b1, hb1, h⟩ := Option.bind_eq_some_iff.mp h; obtain ⟨b2, hb2, h⟩ := Option.bind_eq_some_iff.mp h; obtain rfl := Option.some.inj h; clear h; have hB1 : Below w.heap.size w (w.alloc (.cells #[.int .i64 Aa, .int .i64 Ab, .slice Ad Ac.length Ae] 28)) := below_alloc (Below.refl _ _) _; have hk := heap_alloc_new w (.cells #[.int .i64 Aa, .int .i64 Ab, .slice Ad Ac.length Ae] 28)
 have hs : w.heap.size < (w.alloc (.cells #[.int .i64 Aa, .int .i64 Ab, .slice Ad Ac.length Ae] 28)).heap.size := by simp
 have CELLS : Aside0 (∀ W', Below (w.alloc (.cells #[.int .i64 Aa, .int .i64 Ab, .slice Ad Ac.length Ae] 28)).heap.size (w.alloc (.cells #[.int .i64 Aa, .int .i64 Ab, .slice Ad Ac.length Ae] 28)) W' → W'.cell? ⟨w.heap.size, 0, none⟩ = some (.int .i64 Aa) ∧ W'.cell? ⟨w.heap.size, 1, none⟩ = some (.int .i64 Ab) ∧ W'.cell? ⟨w.heap.size, 2, none⟩ = some (.slice Ad Ac.length Ae)) :=
  ⟨fun W' h => ⟨(h.cell (p := ⟨w.heap.size, 0, none⟩) hs).trans ((blk_cell hk 0).trans rfl), (h.cell (p := ⟨w.heap.size, 1, none⟩) hs).trans ((blk_cell hk 1).trans rfl), (h.cell (p := ⟨w.heap.size, 2, none⟩) hs).trans ((blk_cell hk 2).trans rfl)⟩⟩
 have HA : Aside0 (∀ W', Below w.heap.size w W' → _) := ⟨fun W' h => impl_IsChart.calls Aa Ab Ad Ae Ac b0 W' (Kd.C_below Aq h) Ar hb0⟩
 have HF : Aside0 (∀ W', Below (w.alloc (.cells #[.int .i64 Aa, .int .i64 Ab, .slice Ad Ac.length Ae] 28)).heap.size (w.alloc (.cells #[.int .i64 Aa, .int .i64 Ab, .slice Ad Ac.length Ae] 28)) W' → Below w.heap.size w W' → _) := ⟨fun W' hV hB => areAll_ch2 (fun i => if i = 0 then (b1 && (Ah == Aa && Ai == Ab)) else (b2 && (Aj == Aa && Ak == Ab))) 92 #[.pointer (some ⟨w.heap.size, 0, none⟩)] b c Ah Ai (.slice Al Af.length Am) Aj Ak (.slice An Ag.length Ap) W' (enters_of Try.func92 Z61 rfl)
  (fun W2 h2 => hz W2 (hB.trans (h2.mono hB.size)))
  (fun W2 h2 => isSameSize_1 w.heap.size Aa Ab Ah Ai Al Am Af b1 W2 (Kd.C_below Au (hB.trans (h2.mono hB.size))) Av hb1 ⟨(CELLS.out _ (hV.trans (h2.mono hV.size))).1, (CELLS.out _ (hV.trans (h2.mono hV.size))).2.1⟩ (Nat.lt_of_lt_of_le hs (Nat.le_trans hV.size h2.size)))
  (fun W2 h2 => isSameSize_1 w.heap.size Aa Ab Aj Ak An Ap Ag b2 W2 (Kd.C_below Aw (hB.trans (h2.mono hB.size))) Ax hb2 ⟨(CELLS.out _ (hV.trans (h2.mono hV.size))).1, (CELLS.out _ (hV.trans (h2.mono hV.size))).2.1⟩ (Nat.lt_of_lt_of_le hs (Nat.le_trans hV.size h2.size)))⟩
 have HB := Aside0.mk hB1; clear hB1 hk hs hz Aq Ar Au Av Aw Ax hb0 hb1 hb2; cases b0 with
 | false =>
  rw [Bool.false_and]; clear HF
  go_enter Try.func59, Try.ntmps59
  obtain ⟨z0, z1, z2⟩ := CELLS.out _ (Below.refl _ _)
  go_wp2_with fail
  refine (HA.out _ HB.out).mono ?_; rintro e w1 ⟨rfl, hb'⟩
  go_wp2
  go_ret
  exact ⟨Z148, below_step HB.out hb'⟩
 | true =>
  rw [Bool.true_and]
  go_enter Try.func59, Try.ntmps59
  obtain ⟨z0, z1, z2⟩ := CELLS.out _ (Below.refl _ _)
  go_wp2_with fail
  refine (HA.out _ HB.out).mono ?_; rintro e w1 ⟨rfl, hb'⟩; have Ay := aM (below_step HB.out hb'); have HV1 := Aside0.mk hb'; clear hb' z0 z1 z2
  go_wp2_with fail
  refine (HF.out _ HV1.out Ay.out).mono ?_; rintro e w2 ⟨rfl, hb'⟩
  go_wp2
  go_ret
  exact ⟨Z148, below_step Ay.out hb'⟩
end Go.Proofs.Ytcjalfgnnabghaa.H
