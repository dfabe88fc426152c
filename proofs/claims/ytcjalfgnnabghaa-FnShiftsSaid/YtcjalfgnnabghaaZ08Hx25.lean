-- by wip/pack.py of this repo
import Derived.Test.YtcjalfgnnabghaaZ08Hx0
import Derived.Test.YtcjalfgnnabghaaZ08Hx2
import Derived.Test.YtcjalfgnnabghaaZ08Hx5
import Derived.Test.YtcjalfgnnabghaaZ08WLast
import Derived.Test.YtcjalfgnnabghaaZ08WMore
import Derived.Test.YtcjalfgnnabghaaZ08WWords
import Derived.Test.YtcjalfgnnabghaaZ08Short
namespace Go.Proofs.Ytcjalfgnnabghaa.H
open Go.RowKit Go.Proofs.YtcjalfgnnabghaaW.PrintWords Go.Proofs.YtcjalfgnnabghaaW.PrintLast Go.Proofs.YtcjalfgnnabghaaW.PrintMore
attribute [local go_sem] max2_int min2_int max_two min_two max_three min_three max_four min_four
set_option maxHeartbeats 8000000
set_option maxRecDepth 100000
set_option linter.unusedVariables false
set_option linter.unusedSimpArgs false
def spec_l1Most.f (a0 : Int) (a1 : Int) : Option (Int) := if a0 > a1 then (some a0) else (some a1)
theorem spec_l1Most.calls (a0 : Int) (a1 : Int) (r : Int) (w : World) (h : spec_l1Most.f a0 a1 = some r) :
  Calls Try.prog 97 #[.int .i64 a0, .int .i64 a1] w fun e w' => e = .returned (.int .i64 r) ∧ Drawn0 w w' := by
 have H : (if a0 > a1 then (some a0) else (some a1)) = some r := h; clear h
 by_cases c3 : a0 > a1
 ·rw [if_pos c3] at H
  have c3b0 : decide (a1 < a0) = true := decide_eq_true c3; clear c3; obtain rfl := Option.some.inj H
  go_enter Try.func97, Try.ntmps97
  go_wp2
  go_ret
  exact ⟨Z10, Z108⟩
 ·rw [if_neg c3] at H
  have c3b0 : decide (a1 < a0) = false := decide_eq_false c3; clear c3; obtain rfl := Option.some.inj H
  go_enter Try.func97, Try.ntmps97
  go_wp2
  go_ret
  exact ⟨Z10, Z108⟩
def spec_l13Far.f (a0 : Int) (a1 : Int) : Option (Int) := (spec_l1Most.f a0 (wrap64 (-a0))).bind fun t551 => ((spec_l1Most.f a1 (wrap64 (-a1))).bind fun t552 => (some (wrap64 (t551 + t552))))
theorem spec_l13Far.calls (a0 : Int) (a1 : Int) (r : Int) (w : World) (h : spec_l13Far.f a0 a1 = some r) :
  Calls Try.prog 77 #[.int .i64 a0, .int .i64 a1] w fun e w' => e = .returned (.int .i64 r) ∧ Drawn0 w w' := by
 have H : ((spec_l1Most.f a0 (wrap64 (-a0))).bind fun Ab => ((spec_l1Most.f a1 (wrap64 (-a1))).bind fun Aa => (some (wrap64 (Ab + Aa))))) = some r := h; clear h; replace H := Option.bind_eq_some_iff.mp H; obtain ⟨Ab, Ac, H⟩ := H; replace H : ((spec_l1Most.f a1 (wrap64 (-a1))).bind fun Aa => (some (wrap64 (Ab + Aa)))) = some r := H; have A3 := Aside0.mk Ac; clear Ac; replace H := Option.bind_eq_some_iff.mp H; obtain ⟨Aa, Ad, H⟩ := H; replace H : (some (wrap64 (Ab + Aa))) = some r := H; have A4 := Aside0.mk Ad; clear Ad; obtain rfl := Option.some.inj H
 go_enter Try.func77, Try.ntmps77
 go_wp2_with (first | ((with_reducible refine gate_callee (f := 97) rfl ?_); refine glE (some 8) Try.func97 #[.int .i64 a0, .int .i64 (wrap64 (-a0))] ?_; (with_reducible refine (spec_l1Most.calls a0 (wrap64 (-a0)) Ab _ A3.out).mono ?_); rintro e w' ⟨rfl, ⟨nd, rfl⟩⟩; refine ⟨_, rfl, ?_⟩) | ((with_reducible refine gate_callee (f := 97) rfl ?_); refine glE (some 12) Try.func97 #[.int .i64 a1, .int .i64 (wrap64 (-a1))] ?_; (with_reducible refine (spec_l1Most.calls a1 (wrap64 (-a1)) Aa _ A4.out).mono ?_); rintro e w' ⟨rfl, ⟨nd, rfl⟩⟩; refine ⟨_, rfl, ?_⟩))
 go_ret
 exact ⟨Z10, Z108⟩
mutual
def spec_BestShift.j0 : Nat → Bool → Int → Int → List Int → Int → Int → List Int → Option (Int × Int × Bool)
 | 0, _, _, _, _, _, _, _ => none
 | k + 1, x24, x554000, x554001, x554002, x555000, x555001, x555002 => if x24 = true then (some (0, 0, false)) else (spec_BestShift.l0 k 0 0 0 0 (-2) x554000 x554001 x554002 x555000 x555001 x555002)
def spec_BestShift.l0 : Nat → Int → Int → Int → Int → Int → Int → Int → List Int → Int → Int → List Int → Option (Int × Int × Bool)
 | 0, _, _, _, _, _, _, _, _, _, _, _ => none
 | k + 1, x7, x8, x9, x10, x11, x554000, x554001, x554002, x555000, x555001, x555002 => if x11 ≤ 2 then (spec_BestShift.l1 k x7 x8 x9 x10 x11 (-2) x554000 x554001 x554002 x555000 x555001 x555002) else (some (x7, x8, decide (x10 > 0)))
def spec_BestShift.l1 : Nat → Int → Int → Int → Int → Int → Int → Int → Int → List Int → Int → Int → List Int → Option (Int × Int × Bool)
 | 0, _, _, _, _, _, _, _, _, _, _, _, _ => none
 | k + 1, x7, x8, x9, x10, x11, x12, x554000, x554001, x554002, x555000, x555001, x555002 => if x12 ≤ 2 then ((spec_l13Wrong.f k x554000 x554001 x554002 x555000 x555001 x555002 x11 x12).bind fun bt557 => (if (wrap64 (2 * bt557.2)) < (x554002.length : Int) then (spec_BestShift.l1 k x7 x8 x9 x10 x11 (wrap64 (x12 + 1)) x554000 x554001 x554002 x555000 x555001 x555002) else (if x10 = 0 then (spec_BestShift.l1 k x11 x12 (bt557.1.length : Int) bt557.2 x11 (wrap64 (x12 + 1)) x554000 x554001 x554002 x555000 x555001 x555002) else (if (wrap64 ((bt557.1.length : Int) * x10)) < (wrap64 (x9 * bt557.2)) then (spec_BestShift.l1 k x11 x12 (bt557.1.length : Int) bt557.2 x11 (wrap64 (x12 + 1)) x554000 x554001 x554002 x555000 x555001 x555002) else (if (wrap64 ((bt557.1.length : Int) * x10)) = (wrap64 (x9 * bt557.2)) then ((spec_l13Far.f x11 x12).bind fun t561 => ((spec_l13Far.f x7 x8).bind fun t562 => (if t561 < t562 then (spec_BestShift.l1 k x11 x12 (bt557.1.length : Int) bt557.2 x11 (wrap64 (x12 + 1)) x554000 x554001 x554002 x555000 x555001 x555002) else (spec_BestShift.l1 k x7 x8 x9 x10 x11 (wrap64 (x12 + 1)) x554000 x554001 x554002 x555000 x555001 x555002)))) else (spec_BestShift.l1 k x7 x8 x9 x10 x11 (wrap64 (x12 + 1)) x554000 x554001 x554002 x555000 x555001 x555002)))))) else (spec_BestShift.l0 k x7 x8 x9 x10 (wrap64 (x11 + 1)) x554000 x554001 x554002 x555000 x555001 x555002)
end
def spec_BestShift.f (k : Nat) (a0_0 : Int) (a0_1 : Int) (l0_2 : List Int) (a1_0 : Int) (a1_1 : Int) (l1_2 : List Int) : Option (Int × Int × Bool) := (spec_l2Good.f k a0_0 a0_1 l0_2).bind fun t555 => (if t555 = true then ((spec_l2Good.f k a1_0 a1_1 l1_2).bind fun t556 => (spec_BestShift.j0 k (!t556) a0_0 a0_1 l0_2 a1_0 a1_1 l1_2)) else (spec_BestShift.j0 k true a0_0 a0_1 l0_2 a1_0 a1_1 l1_2))
theorem spec_BestShift.calls (k : Nat) (Ah : Int) (Ai : Int) (Ay : Option Addr) (Az : Nat) (Ae : List Int) (Aj : Int) (Ak : Int) (Bc : Option Addr) (Bd : Nat) (Ag : List Int) (r1 : Int) (r2 : Int) (r3 : Bool) (w : World) (Ck : Kd.C (Kd.int .i64) w Ay Ae.length Ae) (Cl : Ae.length ≤ Az) (Cm : Kd.C (Kd.int .i64) w Bc Ag.length Ag) (Cn : Ag.length ≤ Bd) (h : spec_BestShift.f k Ah Ai Ae Aj Ak Ag = some (r1, r2, r3)) :
  Calls Try.prog 31 #[.agg #[.int .i64 Ah, .int .i64 Ai, .slice Ay Ae.length Az], .agg #[.int .i64 Aj, .int .i64 Ak, .slice Bc Ag.length Bd]] w fun e w' => e = .returned (.tuple #[.int .i64 r1, .int .i64 r2, .bool r3]) ∧ Below w.heap.size w w' := by
 have hu28 := Try.underlying28; have Ba := Aside0.mk Ck; have Bb := Aside0.mk Cl; clear Ck Cl; have Bf := Aside0.mk Cm; have Bg := Aside0.mk Cn; clear Cm Cn; have HB := aM (Below.refl w.heap.size w); have H : ((spec_l2Good.f k Ah Ai Ae).bind fun Cg => (if Cg = true then ((spec_l2Good.f k Aj Ak Ag).bind fun Bi => (spec_BestShift.j0 k (!Bi) Ah Ai Ae Aj Ak Ag)) else (spec_BestShift.j0 k true Ah Ai Ae Aj Ak Ag))) = some (r1, r2, r3) := h; clear h; have F4 := Aside0.mk H; clear H
 go_enter Try.func31, Try.ntmps31
 go_upto_region 1 with (first | ((with_reducible refine gate_dst (N := 2) rfl ?_); refine bxE 2 #[.int .i64 Ah, .int .i64 Ai, .slice Ay Ae.length Az] 28 ?_; intro Cd hg w4 hbox hb; have Aa := aM (hbox); have Gc := gwS hg Z0; have Af := gwS hg Z0; replace HB := hbS Z0 hb; clear hb hbox hg) | ((with_reducible refine gate_dst (N := 3) rfl ?_); refine bxE 3 #[.int .i64 Aj, .int .i64 Ak, .slice Bc Ag.length Bd] 28 ?_; intro Ce hg w5 hbox hb; have Ab := aM (hbox); have Gd := gwS hg Z133; have Al := gwS hg Z133; replace HB := hbS Z133 hb; have An := nbL hg Aa; have Ap := nbG hg Aa; replace Aa := bkB Aa hb; clear hb hbox hg))
 (try simp only [Act.put, List.setIfInBounds_toArray, List.set_cons_zero, List.set_cons_succ])
 go_cut [24] (fun Gy wc => ∃ (kq : Nat) (Cb : Bool), Gy = .bool Cb ∧ Aside0 (spec_BestShift.j0 kq Cb Ah Ai Ae Aj Ak Ag = some (r1, r2, r3)) ∧ Aside0 (kq ≤ k) ∧ Aside0 (wc.heap[Cd]? = some (.cells #[.int .i64 Ah, .int .i64 Ai, (.slice Ay Ae.length Az)] 28 (0, 0))) ∧ Aside0 (wc.heap[Ce]? = some (.cells #[.int .i64 Aj, .int .i64 Ak, (.slice Bc Ag.length Bd)] 28 (0, 0))) ∧ Aside0 (Below w.heap.size w wc))
 case first =>
  have H := F4.out; clear F4; replace H := Option.bind_eq_some_iff.mp H; obtain ⟨Cg, Ge, H⟩ := H; replace H : (if Cg = true then ((spec_l2Good.f k Aj Ak Ag).bind fun Bi => (spec_BestShift.j0 k (!Bi) Ah Ai Ae Aj Ak Ag)) else (spec_BestShift.j0 k true Ah Ai Ae Aj Ak Ag)) = some (r1, r2, r3) := H; have A6 := Aside0.mk Ge; clear Ge
  by_cases c7 : Cg = true
  ·subst c7
   have H1 : ((spec_l2Good.f k Aj Ak Ag).bind fun Bi => (spec_BestShift.j0 k (!Bi) Ah Ai Ae Aj Ak Ag)) = some (r1, r2, r3) := by rw [if_pos rfl] at H; exact H
   clear H; have H := H1; clear H1; replace H := Option.bind_eq_some_iff.mp H; obtain ⟨Bi, Gf, H⟩ := H; replace H : (spec_BestShift.j0 k (!Bi) Ah Ai Ae Aj Ak Ag) = some (r1, r2, r3) := H; have A8 := Aside0.mk Gf; clear Gf; have H' := Aside0.mk H; clear H; have Gz := An.out; have G0 := Ap.out; obtain ⟨Bj, Bk, Bl⟩ := bz3 Aa; obtain ⟨Bm, Bn, Bo⟩ := fz3 Aa
   go_wp2_with (first | ((with_reducible refine gate_callee (f := 71) rfl ?_); refine glE (some 18) Try.func71 #[.agg #[.int .i64 Ah, .int .i64 Ai, .slice Ay Ae.length Az]] ?_; (with_reducible refine (spec_l2Good.calls k Ah Ai _ _ Ae true _ ?side1 ?side2 A6.out).mono ?_); (case side1 => exact Z87); (case side2 => exact Bb.out); rintro e Hd ⟨rfl, hb⟩; refine ⟨_, rfl, ?_⟩; replace Aa := bkB Aa hb; replace Ab := bkB Ab hb; replace HB := hbS Z21 hb; (try clear hb); obtain ⟨Bp, Bq, Br⟩ := bz3 Ab; obtain ⟨Bs, Bt, Bu⟩ := fz3 Ab) | (go_at_call 71; (with_reducible refine (spec_l2Good.calls k Aj Ak _ _ Ag Bi _ ?side1 ?side2 A8.out).mono ?_); (case side1 => exact Z88); (case side2 => exact Bg.out); rintro e He ⟨rfl, hb⟩; replace Aa := bkB Aa hb; replace Ab := bkB Ab hb; replace HB := hbS Z21 hb; (try clear hb)))
   go_meet
   case rel => exact ⟨_, (!Bi), Z10, H', ⟨Z163⟩, ⟨Z27⟩, ⟨Z4⟩, ⟨Z21⟩⟩
  ·replace c7 := Bool.eq_false_iff.mpr c7
   subst c7
   have H1 : (spec_BestShift.j0 k true Ah Ai Ae Aj Ak Ag) = some (r1, r2, r3) := by rw [if_neg (show ¬ (false = true) by decide)] at H; exact H
   clear H; have H := H1; clear H1; have H' := Aside0.mk H; clear H; have Gg := An.out; have Gh := Ap.out; obtain ⟨Bv, Bw, Bx⟩ := bz3 Aa; obtain ⟨Bz, B0, B6⟩ := fz3 Aa
   go_wp2_with (first | ((with_reducible refine gate_callee (f := 71) rfl ?_); refine glE (some 18) Try.func71 #[.agg #[.int .i64 Ah, .int .i64 Ai, .slice Ay Ae.length Az]] ?_; (with_reducible refine (spec_l2Good.calls k Ah Ai _ _ Ae false _ ?side1 ?side2 A6.out).mono ?_); (case side1 => exact Z87); (case side2 => exact Bb.out); rintro e Hf ⟨rfl, hb⟩; refine ⟨_, rfl, ?_⟩; replace Aa := bkB Aa hb; replace Ab := bkB Ab hb; replace HB := hbS Z21 hb; (try clear hb)))
   go_meet
   case rel => exact ⟨_, (true), Z10, H', ⟨Z163⟩, ⟨Z27⟩, ⟨Z4⟩, ⟨Z21⟩⟩
 case rest =>
  clear F4; (try clear c1); (try clear p2); (try clear c3); (try clear c7); (try clear c9); (try clear Gi); (try clear Bj); (try clear Bk); (try clear Bl); (try clear Bp); (try clear Bq); (try clear Br); (try clear Bv); (try clear Bw); (try clear Bx); (try clear Bm); (try clear Bn); (try clear Bo); (try clear Bs); (try clear Bt); (try clear Bu); (try clear Bz); (try clear B0); (try clear B6); obtain ⟨kq, Cb, rfl, HA, HJ2, Aa, Ab, HB⟩ := hcut; cases kq with
  | zero => exact absurd HA.out (by simp [spec_BestShift.j0])
  | succ F5 =>
   have H := HA.out; clear HA
   simp only [spec_BestShift.j0] at H
   by_cases Cr : Cb = true
   ·subst Cr
    have H1 : (some (0, 0, false)) = some (r1, r2, r3) := by rw [if_pos rfl] at H; exact H
    clear H; have H := H1; clear H1
    simp only [Option.some.injEq, Prod.mk.injEq] at H
    obtain ⟨rfl, rfl, rfl⟩ := H
    go_wp2
    go_ret3
    exact ⟨Z9, Z21⟩
   ·replace Cr := Bool.eq_false_iff.mpr Cr
    subst Cr
    have H1 : (spec_BestShift.l0 F5 0 0 0 0 (-2) Ah Ai Ae Aj Ak Ag) = some (r1, r2, r3) := by rw [if_neg (show ¬ (false = true) by decide)] at H; exact H
    clear H; have H := H1; clear H1; have H' := Aside0.mk H; clear H
    go_wp2
    go_loopg [7, 8, 9, 10, 11] F5 (fun kq v7 v8 v9 F6 G1 w' => ∃ (Ch : Int) (Ci : Int) (Cj : Int) (Cc : Int) (Ad : Int), v7 = .int .i64 Ch ∧ v8 = .int .i64 Ci ∧ v9 = .int .i64 Cj ∧ F6 = .int .i64 Cc ∧ G1 = .int .i64 Ad ∧ Aside0 (spec_BestShift.l0 kq Ch Ci Cj Cc Ad Ah Ai Ae Aj Ak Ag = some (r1, r2, r3)) ∧ Aside0 (kq ≤ F5) ∧ Aside0 (w'.heap[Cd]? = some (.cells #[.int .i64 Ah, .int .i64 Ai, (.slice Ay Ae.length Az)] 28 (0, 0))) ∧ Aside0 (w'.heap[Ce]? = some (.cells #[.int .i64 Aj, .int .i64 Ak, (.slice Bc Ag.length Bd)] 28 (0, 0))) ∧ Aside0 (Below w.heap.size w w'))
    case atStart => exact ⟨(0), (0), (0), (0), ((-2)), Z10, Z10, Z10, Z10, Z10, H', ⟨Nat.le_refl _⟩, ⟨Z27⟩, ⟨Z4⟩, ⟨Z21⟩⟩
    case round =>
     clear H'; (try clear c1); (try clear p2); (try clear c3); (try clear c7); (try clear c9); (try clear Gi); (try clear Cr); (try clear Bj); (try clear Bk); (try clear Bl); (try clear Bp); (try clear Bq); (try clear Br); (try clear Bv); (try clear Bw); (try clear Bx); (try clear Bm); (try clear Bn); (try clear Bo); (try clear Bs); (try clear Bt); (try clear Bu); (try clear Bz); (try clear B0); (try clear B6); (try clear p2); obtain ⟨Ch, Ci, Cj, Cc, Ad, rfl, rfl, rfl, rfl, rfl, HA, HK2, Aa, Ab, HB⟩ := hrel; cases gk with
     | zero => exact absurd HA.out (by simp [spec_BestShift.l0])
     | succ k2 =>
      have H := HA.out; clear HA
      simp only [spec_BestShift.l0] at H
      by_cases Co : Ad ≤ 2
      ·rw [if_pos Co] at H
       have c18b0 : decide (Ad ≤ 2) = true := decide_eq_true Co; clear Co; have H' := Aside0.mk H; clear H
       go_wp2
       go_loopg [7, 8, 9, 10, 12] k2 (fun kq v7 v8 v9 F6 G2 w' => ∃ (Av : Int) (Aw : Int) (Au : Int) (Am : Int) (Ac : Int), v7 = .int .i64 Av ∧ v8 = .int .i64 Aw ∧ v9 = .int .i64 Au ∧ F6 = .int .i64 Am ∧ G2 = .int .i64 Ac ∧ Aside0 (spec_BestShift.l1 kq Av Aw Au Am Ad Ac Ah Ai Ae Aj Ak Ag = some (r1, r2, r3)) ∧ Aside0 (kq ≤ k2) ∧ Aside0 (w'.heap[Cd]? = some (.cells #[.int .i64 Ah, .int .i64 Ai, (.slice Ay Ae.length Az)] 28 (0, 0))) ∧ Aside0 (w'.heap[Ce]? = some (.cells #[.int .i64 Aj, .int .i64 Ak, (.slice Bc Ag.length Bd)] 28 (0, 0))) ∧ Aside0 (Below w.heap.size w w'))
       case atStart => exact ⟨(Ch), (Ci), (Cj), (Cc), ((-2)), Z10, Z10, Z10, Z10, Z10, H', ⟨Nat.le_refl _⟩, ⟨Z27⟩, ⟨Z4⟩, ⟨Z21⟩⟩
       case round =>
        clear H'; (try clear c1); (try clear p2); (try clear c3); (try clear c7); (try clear c9); (try clear Gi); (try clear Cr); (try clear Co); (try clear c18b0); (try clear Bj); (try clear Bk); (try clear Bl); (try clear Bp); (try clear Bq); (try clear Br); (try clear Bv); (try clear Bw); (try clear Bx); (try clear Bm); (try clear Bn); (try clear Bo); (try clear Bs); (try clear Bt); (try clear Bu); (try clear Bz); (try clear B0); (try clear B6); (try clear p2); obtain ⟨Av, Aw, Au, Am, Ac, rfl, rfl, rfl, rfl, rfl, HA, HK3, Aa, Ab, HB⟩ := hrel; cases gk with
        | zero => exact absurd HA.out (by simp [spec_BestShift.l1])
        | succ k3 =>
         have H := HA.out; clear HA
         simp only [spec_BestShift.l1] at H
         by_cases Cs : Ac ≤ 2
         ·rw [if_pos Cs] at H
          have c19b0 : decide (Ac ≤ 2) = true := decide_eq_true Cs; clear Cs; replace H := Option.bind_eq_some_iff.mp H; obtain ⟨⟨Ar, Aq⟩, Cx, H⟩ := H; replace H : (if (wrap64 (2 * Aq)) < (Ae.length : Int) then (spec_BestShift.l1 k3 Av Aw Au Am Ad (wrap64 (Ac + 1)) Ah Ai Ae Aj Ak Ag) else (if Am = 0 then (spec_BestShift.l1 k3 Ad Ac (Ar.length : Int) Aq Ad (wrap64 (Ac + 1)) Ah Ai Ae Aj Ak Ag) else (if (wrap64 ((Ar.length : Int) * Am)) < (wrap64 (Au * Aq)) then (spec_BestShift.l1 k3 Ad Ac (Ar.length : Int) Aq Ad (wrap64 (Ac + 1)) Ah Ai Ae Aj Ak Ag) else (if (wrap64 ((Ar.length : Int) * Am)) = (wrap64 (Au * Aq)) then ((spec_l13Far.f Ad Ac).bind fun B9 => ((spec_l13Far.f Av Aw).bind fun Bh => (if B9 < Bh then (spec_BestShift.l1 k3 Ad Ac (Ar.length : Int) Aq Ad (wrap64 (Ac + 1)) Ah Ai Ae Aj Ak Ag) else (spec_BestShift.l1 k3 Av Aw Au Am Ad (wrap64 (Ac + 1)) Ah Ai Ae Aj Ak Ag)))) else (spec_BestShift.l1 k3 Av Aw Au Am Ad (wrap64 (Ac + 1)) Ah Ai Ae Aj Ak Ag))))) = some (r1, r2, r3) := H; have Ct := Aside0.mk Cx; clear Cx
          by_cases Cu : (wrap64 (2 * Aq)) < (Ae.length : Int)
          ·rw [if_pos Cu] at H
           have c21b0 : decide ((wrap64 (2 * Aq)) < (Ae.length : Int)) = true := decide_eq_true Cu; clear Cu; have H' := Aside0.mk H; clear H; have Gj := An.out; have Gk := Ap.out; obtain ⟨C0, C1, C2⟩ := bz3 Aa; obtain ⟨C3, C4, C5⟩ := fz3 Aa; obtain ⟨C6, C7, C8⟩ := bz3 Ab; obtain ⟨C9, Da, Db⟩ := fz3 Ab
           go_wp2_with (first | ((with_reducible refine gate_callee (f := 53) rfl ?_); refine glE (some 38) Try.func53 #[.agg #[.int .i64 Ah, .int .i64 Ai, .slice Ay Ae.length Az], .agg #[.int .i64 Aj, .int .i64 Ak, .slice Bc Ag.length Bd], .int .i64 Ad, .int .i64 Ac] ?_; (with_reducible refine (spec_l13Wrong.calls k3 Ah Ai _ _ Ae Aj Ak _ _ Ag Ad Ac Ar Aq _ ?side1 ?side2 ?side3 ?side4 Ct.out).mono ?_); (case side1 => exact Z87); (case side2 => exact Bb.out); (case side3 => exact Z88); (case side4 => exact Bg.out); rintro e Hg ⟨Cf, rfl, Ca, hb⟩; refine ⟨_, rfl, ?_⟩; have Ax := aM (Kd.R_lower Ca (below_size Z21)); replace Aa := bkB Aa hb; replace Ab := bkB Ab hb; replace HB := hbS Z21 hb; (try clear hb); (try clear Ca); obtain ⟨Dc, Dd, De⟩ := bz3 Aa; obtain ⟨Df, Dg, Dh⟩ := fz3 Aa))
           go_roundg k3
           case measure => have := HJ2.out; have := HK2.out; have := HK3.out; omega
           case rel => exact ⟨(Av), (Aw), (Au), (Am), (wrap64 (Ac + 1)), Z10, Z10, Z10, Z10, Z10, H', ⟨Z198⟩, ⟨Z27⟩, ⟨Z4⟩, ⟨Z21⟩⟩
          ·rw [if_neg Cu] at H
           have c21b0 : decide ((wrap64 (2 * Aq)) < (Ae.length : Int)) = false := decide_eq_false Cu; clear Cu
           by_cases Cp : Am = 0
           ·rw [if_pos Cp] at H
            have c27b0 : (Am == 0) = true := beq_iff_eq.mpr Cp; have c27b1 : (Am != 0) = false := bne_eq_false_iff_eq.mpr Cp; clear Cp; have H' := Aside0.mk H; clear H; have Gl := An.out; have Gm := Ap.out; obtain ⟨Di, Dj, Dk⟩ := bz3 Aa; obtain ⟨Dl, Dm, Dn⟩ := fz3 Aa; obtain ⟨Dp, Dq, Dr⟩ := bz3 Ab; obtain ⟨Ds, Dt, Du⟩ := fz3 Ab
            go_wp2_with (first | ((with_reducible refine gate_callee (f := 53) rfl ?_); refine glE (some 38) Try.func53 #[.agg #[.int .i64 Ah, .int .i64 Ai, .slice Ay Ae.length Az], .agg #[.int .i64 Aj, .int .i64 Ak, .slice Bc Ag.length Bd], .int .i64 Ad, .int .i64 Ac] ?_; (with_reducible refine (spec_l13Wrong.calls k3 Ah Ai _ _ Ae Aj Ak _ _ Ag Ad Ac Ar Aq _ ?side1 ?side2 ?side3 ?side4 Ct.out).mono ?_); (case side1 => exact Z87); (case side2 => exact Bb.out); (case side3 => exact Z88); (case side4 => exact Bg.out); rintro e Hh ⟨Cf, rfl, Ca, hb⟩; refine ⟨_, rfl, ?_⟩; have Ax := aM (Kd.R_lower Ca (below_size Z21)); replace Aa := bkB Aa hb; replace Ab := bkB Ab hb; replace HB := hbS Z21 hb; (try clear hb); (try clear Ca); obtain ⟨Dv, Dw, Dx⟩ := bz3 Aa; obtain ⟨Dy, Dz, D0⟩ := fz3 Aa; obtain ⟨G3, G4, F7⟩ := Kd.R_slice Ax.out; subst F7))
            go_roundg k3
            case measure => have := HJ2.out; have := HK2.out; have := HK3.out; omega
            case rel => exact ⟨(Ad), (Ac), ((Ar.length : Int)), (Aq), (wrap64 (Ac + 1)), Z10, Z10, Z10, Z10, Z10, H', ⟨Z198⟩, ⟨Z27⟩, ⟨Z4⟩, ⟨Z21⟩⟩
           ·rw [if_neg Cp] at H
            have c27b0 : (Am == 0) = false := beq_eq_false_iff_ne.mpr Cp; have c27b1 : (Am != 0) = true := bne_iff_ne.mpr Cp
            by_cases Cv : (wrap64 ((Ar.length : Int) * Am)) < (wrap64 (Au * Aq))
            ·rw [if_pos Cv] at H
             have c34b0 : decide ((wrap64 ((Ar.length : Int) * Am)) < (wrap64 (Au * Aq))) = true := decide_eq_true Cv; clear Cv; have H' := Aside0.mk H; clear H; have Gn := An.out; have Gp := Ap.out; obtain ⟨D1, D2, D3⟩ := bz3 Aa; obtain ⟨D4, D5, D6⟩ := fz3 Aa; obtain ⟨D7, D8, D9⟩ := bz3 Ab; obtain ⟨Ea, Eb, Ec⟩ := fz3 Ab
             go_wp2_with (first | ((with_reducible refine gate_callee (f := 53) rfl ?_); refine glE (some 38) Try.func53 #[.agg #[.int .i64 Ah, .int .i64 Ai, .slice Ay Ae.length Az], .agg #[.int .i64 Aj, .int .i64 Ak, .slice Bc Ag.length Bd], .int .i64 Ad, .int .i64 Ac] ?_; (with_reducible refine (spec_l13Wrong.calls k3 Ah Ai _ _ Ae Aj Ak _ _ Ag Ad Ac Ar Aq _ ?side1 ?side2 ?side3 ?side4 Ct.out).mono ?_); (case side1 => exact Z87); (case side2 => exact Bb.out); (case side3 => exact Z88); (case side4 => exact Bg.out); rintro e Hi ⟨Cf, rfl, Ca, hb⟩; refine ⟨_, rfl, ?_⟩; have Ax := aM (Kd.R_lower Ca (below_size Z21)); replace Aa := bkB Aa hb; replace Ab := bkB Ab hb; replace HB := hbS Z21 hb; (try clear hb); (try clear Ca); obtain ⟨Ed, Ee, Ef⟩ := bz3 Aa; obtain ⟨Eg, Eh, Ei⟩ := fz3 Aa; obtain ⟨G5, G6, F8⟩ := Kd.R_slice Ax.out; subst F8))
             go_roundg k3
             case measure => have := HJ2.out; have := HK2.out; have := HK3.out; omega
             case rel => exact ⟨(Ad), (Ac), ((Ar.length : Int)), (Aq), (wrap64 (Ac + 1)), Z10, Z10, Z10, Z10, Z10, H', ⟨Z198⟩, ⟨Z27⟩, ⟨Z4⟩, ⟨Z21⟩⟩
            ·rw [if_neg Cv] at H
             have c34b0 : decide ((wrap64 ((Ar.length : Int) * Am)) < (wrap64 (Au * Aq))) = false := decide_eq_false Cv; clear Cv
             by_cases Cq : (wrap64 ((Ar.length : Int) * Am)) = (wrap64 (Au * Aq))
             ·rw [if_pos Cq] at H
              have c41b0 : ((wrap64 ((Ar.length : Int) * Am)) == (wrap64 (Au * Aq))) = true := beq_iff_eq.mpr Cq; have c41b1 : ((wrap64 ((Ar.length : Int) * Am)) != (wrap64 (Au * Aq))) = false := bne_eq_false_iff_eq.mpr Cq; clear Cq; replace H := Option.bind_eq_some_iff.mp H; obtain ⟨B9, Cy, H⟩ := H; replace H : ((spec_l13Far.f Av Aw).bind fun Bh => (if B9 < Bh then (spec_BestShift.l1 k3 Ad Ac (Ar.length : Int) Aq Ad (wrap64 (Ac + 1)) Ah Ai Ae Aj Ak Ag) else (spec_BestShift.l1 k3 Av Aw Au Am Ad (wrap64 (Ac + 1)) Ah Ai Ae Aj Ak Ag))) = some (r1, r2, r3) := H; have Gq := Aside0.mk Cy; clear Cy; replace H := Option.bind_eq_some_iff.mp H; obtain ⟨Bh, Cz, H⟩ := H; replace H : (if B9 < Bh then (spec_BestShift.l1 k3 Ad Ac (Ar.length : Int) Aq Ad (wrap64 (Ac + 1)) Ah Ai Ae Aj Ak Ag) else (spec_BestShift.l1 k3 Av Aw Au Am Ad (wrap64 (Ac + 1)) Ah Ai Ae Aj Ak Ag)) = some (r1, r2, r3) := H; have Gr := Aside0.mk Cz; clear Cz
              by_cases Cw : B9 < Bh
              ·rw [if_pos Cw] at H
               have c44b0 : decide (B9 < Bh) = true := decide_eq_true Cw; clear Cw; have H' := Aside0.mk H; clear H; have Gs := An.out; have Gt := Ap.out; obtain ⟨Ej, Ek, El⟩ := bz3 Aa; obtain ⟨Em, En, Eo⟩ := fz3 Aa; obtain ⟨Ep, Er, Es⟩ := bz3 Ab; obtain ⟨Et, Eu, Ew⟩ := fz3 Ab
               go_wp2_with (first | ((with_reducible refine gate_callee (f := 53) rfl ?_); refine glE (some 38) Try.func53 #[.agg #[.int .i64 Ah, .int .i64 Ai, .slice Ay Ae.length Az], .agg #[.int .i64 Aj, .int .i64 Ak, .slice Bc Ag.length Bd], .int .i64 Ad, .int .i64 Ac] ?_; (with_reducible refine (spec_l13Wrong.calls k3 Ah Ai _ _ Ae Aj Ak _ _ Ag Ad Ac Ar Aq _ ?side1 ?side2 ?side3 ?side4 Ct.out).mono ?_); (case side1 => exact Z87); (case side2 => exact Bb.out); (case side3 => exact Z88); (case side4 => exact Bg.out); rintro e Hj ⟨Cf, rfl, Ca, hb⟩; refine ⟨_, rfl, ?_⟩; have Ax := aM (Kd.R_lower Ca (below_size Z21)); replace Aa := bkB Aa hb; replace Ab := bkB Ab hb; replace HB := hbS Z21 hb; (try clear hb); (try clear Ca); obtain ⟨Ex, Ey, Ez⟩ := bz3 Aa; obtain ⟨E0, E1, E2⟩ := fz3 Aa; obtain ⟨G7, G8, F9⟩ := Kd.R_slice Ax.out; subst F9) | (go_at_call 77; (with_reducible refine (spec_l13Far.calls Ad Ac B9 _ Gq.out).mono ?_); rintro e w' ⟨rfl, ⟨nd, rfl⟩⟩) | (go_at_call 77; (with_reducible refine (spec_l13Far.calls Av Aw Bh _ Gr.out).mono ?_); rintro e w' ⟨rfl, ⟨nd, rfl⟩⟩))
               go_roundg k3
               case measure => have := HJ2.out; have := HK2.out; have := HK3.out; omega
               case rel => exact ⟨(Ad), (Ac), ((Ar.length : Int)), (Aq), (wrap64 (Ac + 1)), Z10, Z10, Z10, Z10, Z10, H', ⟨Z198⟩, ⟨Z27⟩, ⟨Z4⟩, ⟨Z21⟩⟩
              ·rw [if_neg Cw] at H
               have c44b0 : decide (B9 < Bh) = false := decide_eq_false Cw; clear Cw; have H' := Aside0.mk H; clear H; have Gu := An.out; have Gv := Ap.out; obtain ⟨E3, E4, E5⟩ := bz3 Aa; obtain ⟨E6, E7, E8⟩ := fz3 Aa; obtain ⟨E9, Fa, Fb⟩ := bz3 Ab; obtain ⟨Fc, Fd, Fe⟩ := fz3 Ab
               go_wp2_with (first | ((with_reducible refine gate_callee (f := 53) rfl ?_); refine glE (some 38) Try.func53 #[.agg #[.int .i64 Ah, .int .i64 Ai, .slice Ay Ae.length Az], .agg #[.int .i64 Aj, .int .i64 Ak, .slice Bc Ag.length Bd], .int .i64 Ad, .int .i64 Ac] ?_; (with_reducible refine (spec_l13Wrong.calls k3 Ah Ai _ _ Ae Aj Ak _ _ Ag Ad Ac Ar Aq _ ?side1 ?side2 ?side3 ?side4 Ct.out).mono ?_); (case side1 => exact Z87); (case side2 => exact Bb.out); (case side3 => exact Z88); (case side4 => exact Bg.out); rintro e Hk ⟨Cf, rfl, Ca, hb⟩; refine ⟨_, rfl, ?_⟩; have Ax := aM (Kd.R_lower Ca (below_size Z21)); replace Aa := bkB Aa hb; replace Ab := bkB Ab hb; replace HB := hbS Z21 hb; (try clear hb); (try clear Ca); obtain ⟨Ff, Fg, Fh⟩ := bz3 Aa; obtain ⟨Fi, Fj, Fk⟩ := fz3 Aa; obtain ⟨G9, Ha, Ga⟩ := Kd.R_slice Ax.out; subst Ga) | (go_at_call 77; (with_reducible refine (spec_l13Far.calls Ad Ac B9 _ Gq.out).mono ?_); rintro e w' ⟨rfl, ⟨nd, rfl⟩⟩) | (go_at_call 77; (with_reducible refine (spec_l13Far.calls Av Aw Bh _ Gr.out).mono ?_); rintro e w' ⟨rfl, ⟨nd, rfl⟩⟩))
               go_roundg k3
               case measure => have := HJ2.out; have := HK2.out; have := HK3.out; omega
               case rel => exact ⟨(Av), (Aw), (Au), (Am), (wrap64 (Ac + 1)), Z10, Z10, Z10, Z10, Z10, H', ⟨Z198⟩, ⟨Z27⟩, ⟨Z4⟩, ⟨Z21⟩⟩
             ·rw [if_neg Cq] at H
              have c41b0 : ((wrap64 ((Ar.length : Int) * Am)) == (wrap64 (Au * Aq))) = false := beq_eq_false_iff_ne.mpr Cq; have c41b1 : ((wrap64 ((Ar.length : Int) * Am)) != (wrap64 (Au * Aq))) = true := bne_iff_ne.mpr Cq; have H' := Aside0.mk H; clear H; have Gw := An.out; have Gx := Ap.out; obtain ⟨Fl, Fm, Fo⟩ := bz3 Aa; obtain ⟨Fp, Fq, Fr⟩ := fz3 Aa; obtain ⟨Fs, Ft, Fu⟩ := bz3 Ab; obtain ⟨Fv, Fw, Fx⟩ := fz3 Ab
              go_wp2_with (first | ((with_reducible refine gate_callee (f := 53) rfl ?_); refine glE (some 38) Try.func53 #[.agg #[.int .i64 Ah, .int .i64 Ai, .slice Ay Ae.length Az], .agg #[.int .i64 Aj, .int .i64 Ak, .slice Bc Ag.length Bd], .int .i64 Ad, .int .i64 Ac] ?_; (with_reducible refine (spec_l13Wrong.calls k3 Ah Ai _ _ Ae Aj Ak _ _ Ag Ad Ac Ar Aq _ ?side1 ?side2 ?side3 ?side4 Ct.out).mono ?_); (case side1 => exact Z87); (case side2 => exact Bb.out); (case side3 => exact Z88); (case side4 => exact Bg.out); rintro e Hl ⟨Cf, rfl, Ca, hb⟩; refine ⟨_, rfl, ?_⟩; have Ax := aM (Kd.R_lower Ca (below_size Z21)); replace Aa := bkB Aa hb; replace Ab := bkB Ab hb; replace HB := hbS Z21 hb; (try clear hb); (try clear Ca); obtain ⟨Fy, Fz, F0⟩ := bz3 Aa; obtain ⟨F1, F2, F3⟩ := fz3 Aa; obtain ⟨Hb, Hc, Gb⟩ := Kd.R_slice Ax.out; subst Gb))
              go_roundg k3
              case measure => have := HJ2.out; have := HK2.out; have := HK3.out; omega
              case rel => exact ⟨(Av), (Aw), (Au), (Am), (wrap64 (Ac + 1)), Z10, Z10, Z10, Z10, Z10, H', ⟨Z198⟩, ⟨Z27⟩, ⟨Z4⟩, ⟨Z21⟩⟩
         ·rw [if_neg Cs] at H
          have c19b0 : decide (Ac ≤ 2) = false := decide_eq_false Cs; clear Cs; have H' := Aside0.mk H; clear H
          go_wp2
          go_roundg k3
          case measure => have := HJ2.out; have := HK2.out; have := HK3.out; omega
          case rel => exact ⟨(Av), (Aw), (Au), (Am), (wrap64 (Ad + 1)), Z10, Z10, Z10, Z10, Z10, H', ⟨Z198⟩, ⟨Z27⟩, ⟨Z4⟩, ⟨Z21⟩⟩
      ·rw [if_neg Co] at H
       have c18b0 : decide (Ad ≤ 2) = false := decide_eq_false Co; clear Co
       simp only [Option.some.injEq, Prod.mk.injEq] at H
       obtain ⟨rfl, rfl, rfl⟩ := H
       go_wp2
       go_ret3
       exact ⟨Z9, Z21⟩
mutual
def impl_matches.l0 : Nat → List (S82) → Int → Int → Int → List Int → Int → Int → List Int → Option ((List (S82)))
 | 0, _, _, _, _, _, _, _, _ => none
 | k + 1, x5, x6, x576000, x576001, x576002, x577000, x577001, x577002 => if x6 ≤ 2 then (impl_matches.l1 k x5 x6 (-2) x576000 x576001 x576002 x577000 x577001 x577002) else (some x5)
def impl_matches.l1 : Nat → List (S82) → Int → Int → Int → Int → List Int → Int → Int → List Int → Option ((List (S82)))
 | 0, _, _, _, _, _, _, _, _, _ => none
 | k + 1, x5, x6, x7, x576000, x576001, x576002, x577000, x577001, x577002 => if x7 ≤ 2 then ((impl_wrong.f k x576000 x576001 x576002 x577000 x577001 x577002 x6 x7).bind fun bt580 => (if (wrap64 (2 * bt580.2)) ≥ (x576002.length : Int) then (if x5.length < 4398046511104 then (impl_matches.l1 k (x5 ++ [(⟨x6, x7, (bt580.1.length : Int), bt580.2⟩ : S82)]) x6 (wrap64 (x7 + 1)) x576000 x576001 x576002 x577000 x577001 x577002) else (none)) else (impl_matches.l1 k x5 x6 (wrap64 (x7 + 1)) x576000 x576001 x576002 x577000 x577001 x577002))) else (impl_matches.l0 k x5 (wrap64 (x6 + 1)) x576000 x576001 x576002 x577000 x577001 x577002)
end
def impl_matches.f (k : Nat) (a0_0 : Int) (a0_1 : Int) (l0_2 : List Int) (a1_0 : Int) (a1_1 : Int) (l1_2 : List Int) : Option ((List (S82))) := impl_matches.l0 k (([] : List (S82))) (-2) a0_0 a0_1 l0_2 a1_0 a1_1 l1_2
theorem impl_matches.calls (k : Nat) (Ai : Int) (Aj : Int) (Au : Option Addr) (Av : Nat) (Ad : List Int) (Ak : Int) (Al : Int) (Aw : Option Addr) (Ax : Nat) (Af : List Int) (r : List (S82)) (w : World) (Bg : Kd.C (Kd.int .i64) w Au Ad.length Ad) (Bh : Ad.length ≤ Av) (Bi : Kd.C (Kd.int .i64) w Aw Af.length Af) (Bj : Af.length ≤ Ax) (h : impl_matches.f k Ai Aj Ad Ak Al Af = some r) :
  Calls Try.prog 76 #[.agg #[.int .i64 Ai, .int .i64 Aj, .slice Au Ad.length Av], .agg #[.int .i64 Ak, .int .i64 Al, .slice Aw Af.length Ax]] w fun e w' => ∃ v0_ : Value, e = .returned (v0_) ∧ Kd.R k82 82 w' w.heap.size (fun _ => True) v0_ r ∧ Below w.heap.size w w' := by
 have hu28 := Try.underlying28; have hu82 := Try.underlying82; have Bk := Aside0.mk Bg; have Bl := Aside0.mk Bh; clear Bg Bh; have Bm := Aside0.mk Bi; have Bn := Aside0.mk Bj; clear Bi Bj; have HB := aM (Below.refl w.heap.size w); have H : (impl_matches.l0 k (([] : List (S82))) (-2) Ai Aj Ad Ak Al Af) = some r := h; clear h; obtain ⟨Bq, Ay⟩ : ∃ y_ : List (S82), y_ = (([] : List (S82))) := ⟨_, rfl⟩
 replace H : (impl_matches.l0 k Bq (-2) Ai Aj Ad Ak Al Af) = some r := by first | (rw [Ay]; with_reducible exact H) | (have H2_ := (Option.bind_some _ _).symm.trans H; rw [Ay]; with_reducible exact H2_) | (have H2_ := (Option.bind_some _ _).symm.trans H; with_reducible exact H2_) | with_reducible exact H | (rw [Ay]; exact H) | exact H
 have Bo := Aside0.mk Ay; clear Ay; have H' := Aside0.mk H; clear H
 go_enter Try.func76, Try.ntmps76
 go_wp2_with (first | ((with_reducible refine gate_dst (N := 2) rfl ?_); refine bxE 2 #[.int .i64 Ai, .int .i64 Aj, .slice Au Ad.length Av] 28 ?_; intro Bc hg w3 hbox hb; have Aa := aM (hbox); have C8 := gwS hg Z0; have Ac := gwS hg Z0; replace HB := hbS Z0 hb; clear hb hbox hg) | ((with_reducible refine gate_dst (N := 3) rfl ?_); refine bxE 3 #[.int .i64 Ak, .int .i64 Al, .slice Aw Af.length Ax] 28 ?_; intro Bd hg w4 hbox hb; have Ab := aM (hbox); have C9 := gwS hg Z56; have Ae := gwS hg Z56; replace HB := hbS Z56 hb; have Aq := nbL hg Aa; have Ar := nbG hg Aa; replace Aa := bkB Aa hb; clear hb hbox hg) | ((with_reducible refine gate_dst (N := 10) rfl ?_); refine Kd.R_lit k82 _ 82 ?hg (N := 10) ?hd (xs := ([] : List (S82))) (inner := []) (ok := fun _ => True) (okp := fun _ => True) ?hr ?hp (fun _ hk => hk) trivial (Below.refl _ _) (Nat.le_refl _) (by simp) ?_; (case hd => rfl); (case hg => rfl); (case hr => first | (go_simp; done) | (go_simp; rfl)); (case hp => exact (Reps.none _ _)); intro Df w5 Br hb hg_ hnew_; clear hg_ hnew_; (first | rw [← Bo.out] at Br | (simp only [Int.reduceToNat] at Br; rw [← Bo.out] at Br)); have Bs := aM (Kd.R_lower Br (below_size Z52)); replace Aa := bkB Aa hb; replace Ab := bkB Ab hb; replace HB := hbS Z52 hb; clear hb Br))
 go_loopg [5, 6] k (fun kq v5 v6 w' => ∃ (Bf : List (S82)) (Ag : Int), v6 = .int .i64 Ag ∧ Aside0 (impl_matches.l0 kq Bf Ag Ai Aj Ad Ak Al Af = some r) ∧ Aside0 (kq ≤ k) ∧ Aside0 (Kd.R k82 82 w' w.heap.size (fun _ => True) v5 Bf) ∧ Aside0 (w'.heap[Bc]? = some (.cells #[.int .i64 Ai, .int .i64 Aj, (.slice Au Ad.length Av)] 28 (0, 0))) ∧ Aside0 (w'.heap[Bd]? = some (.cells #[.int .i64 Ak, .int .i64 Al, (.slice Aw Af.length Ax)] 28 (0, 0))) ∧ Aside0 (Below w.heap.size w w'))
 case atStart => exact ⟨(Bq), ((-2)), Z10, H', ⟨Nat.le_refl _⟩, ⟨by (with_reducible repeat (first | apply Kd.R_alloc | apply Kd.R_drewN | apply Kd.R_drew)); exact Bs.out⟩, ⟨Z27⟩, ⟨Z4⟩, ⟨Z52⟩⟩
 case round =>
  clear H'; (try clear c1); (try clear p2); obtain ⟨Bf, Ag, rfl, HA, HK1, Am, Aa, Ab, HB⟩ := hrel; cases gk with
  | zero => exact absurd HA.out (by simp [impl_matches.l0])
  | succ k1 =>
   have H := HA.out; clear HA
   simp only [impl_matches.l0] at H
   by_cases c7 : Ag ≤ 2
   ·rw [if_pos c7] at H
    have c7b0 : decide (Ag ≤ 2) = true := decide_eq_true c7; clear c7; have H' := Aside0.mk H; clear H
    go_wp2
    go_loopg [5, 7] k1 (fun kq v5 v7 w' => ∃ (An : List (S82)) (Ah : Int), v7 = .int .i64 Ah ∧ Aside0 (impl_matches.l1 kq An Ag Ah Ai Aj Ad Ak Al Af = some r) ∧ Aside0 (kq ≤ k1) ∧ Aside0 (Kd.R k82 82 w' w.heap.size (fun _ => True) v5 An) ∧ Aside0 (w'.heap[Bc]? = some (.cells #[.int .i64 Ai, .int .i64 Aj, (.slice Au Ad.length Av)] 28 (0, 0))) ∧ Aside0 (w'.heap[Bd]? = some (.cells #[.int .i64 Ak, .int .i64 Al, (.slice Aw Af.length Ax)] 28 (0, 0))) ∧ Aside0 (Below w.heap.size w w'))
    case atStart => exact ⟨(Bf), ((-2)), Z10, H', ⟨Nat.le_refl _⟩, ⟨Z152⟩, ⟨Z27⟩, ⟨Z4⟩, ⟨Z52⟩⟩
    case round =>
     clear H'; (try clear c1); (try clear p2); (try clear c7); (try clear c7b0); (try clear p2); obtain ⟨An, Ah, rfl, HA, HK2, Am, Aa, Ab, HB⟩ := hrel; cases gk with
     | zero => exact absurd HA.out (by simp [impl_matches.l1])
     | succ k2 =>
      have H := HA.out; clear HA
      simp only [impl_matches.l1] at H
      by_cases c8 : Ah ≤ 2
      ·rw [if_pos c8] at H
       have c8b0 : decide (Ah ≤ 2) = true := decide_eq_true c8; clear c8; replace H := Option.bind_eq_some_iff.mp H; obtain ⟨⟨Ba, Ap⟩, Da, H⟩ := H; replace H : (if (wrap64 (2 * Ap)) ≥ (Ad.length : Int) then (if An.length < 4398046511104 then (impl_matches.l1 k2 (An ++ [(⟨Ag, Ah, (Ba.length : Int), Ap⟩ : S82)]) Ag (wrap64 (Ah + 1)) Ai Aj Ad Ak Al Af) else (none)) else (impl_matches.l1 k2 An Ag (wrap64 (Ah + 1)) Ai Aj Ad Ak Al Af)) = some r := H; have A9 := Aside0.mk Da; clear Da
       by_cases Bp : (wrap64 (2 * Ap)) ≥ (Ad.length : Int)
       ·rw [if_pos Bp] at H
        have c10b0 : decide ((Ad.length : Int) ≤ (wrap64 (2 * Ap))) = true := decide_eq_true Bp; clear Bp
        by_cases Bx : An.length < 4398046511104
        ·rw [if_pos Bx] at H
         have LMc11 := Aside0.mk Bx; clear Bx; obtain ⟨Bt, Az⟩ : ∃ y_ : List (S82), y_ = (An ++ [(⟨Ag, Ah, (Ba.length : Int), Ap⟩ : S82)]) := ⟨_, rfl⟩
         replace H : (impl_matches.l1 k2 Bt Ag (wrap64 (Ah + 1)) Ai Aj Ad Ak Al Af) = some r := by first | (rw [Az]; with_reducible exact H) | (have H2_ := (Option.bind_some _ _).symm.trans H; rw [Az]; with_reducible exact H2_) | (have H2_ := (Option.bind_some _ _).symm.trans H; with_reducible exact H2_) | with_reducible exact H | (rw [Az]; exact H) | exact H
         have Bu := Aside0.mk Az; clear Az; have H' := Aside0.mk H; clear H; have Db := Aq.out; have Dc := Ar.out; obtain ⟨Bz, B0, B6⟩ := bz3 Aa; obtain ⟨B9, Ca, Cb⟩ := fz3 Aa; obtain ⟨Cc, Cd, Ce⟩ := bz3 Ab; obtain ⟨Cf, Cg, Ch⟩ := fz3 Ab
         go_wp2_with (first | ((with_reducible refine gate_callee (f := 56) rfl ?_); refine glE (some 24) Try.func56 #[.agg #[.int .i64 Ai, .int .i64 Aj, .slice Au Ad.length Av], .agg #[.int .i64 Ak, .int .i64 Al, .slice Aw Af.length Ax], .int .i64 Ag, .int .i64 Ah] ?_; (with_reducible refine (impl_wrong.calls k2 Ai Aj _ _ Ad Ak Al _ _ Af Ag Ah Ba Ap _ ?side1 ?side2 ?side3 ?side4 A9.out).mono ?_); (case side1 => exact Z207); (case side2 => exact Bl.out); (case side3 => exact Z208); (case side4 => exact Bn.out); rintro e Dj ⟨C6, rfl, Bv, hb⟩; refine ⟨_, rfl, ?_⟩; replace Am := roB Am hb; have Bb := aM (Kd.R_lower Bv (below_size Z52)); replace Aa := bkB Aa hb; replace Ab := bkB Ab hb; replace HB := hbS Z52 hb; (try clear hb); (try clear Bv); obtain ⟨Ci, Cj, Ck⟩ := bz3 Aa; obtain ⟨Cl, Cm, Cn⟩ := fz3 Aa; obtain ⟨Dg, Dh, C7⟩ := Kd.R_slice Bb.out; subst C7) | ((with_reducible refine gate_builtin (b := .append) (xs := #[.tmp 33, .tmp 40]) rfl ?_); at_builtin; refine Kd.R_append k82 (w0 := w) w.heap.size rfl (.tmp 33) (.tmp 40) 85 82 (.agg #[(.int .i64 0), (.int .i64 0), (.int .i64 0), (.int .i64 0)]) 32 rfl Try.underlying85 info82 rfl (by decide) (by omega) u5 An (⟨Ag, Ah, (Ba.length : Int), Ap⟩ : S82) [.int .i64 Ag, .int .i64 Ah, .int .i64 (Ba.length : Int), .int .i64 Ap] (fun _ => True) (fun _ => False) rfl rfl ?aP (fun _ hk => hk.elim) ?aF ?aO ?aB ?aS ?aL ?_; (case aP => exact k82_mkM _ _ _ (⟨Ag, Ah, (Ba.length : Int), Ap⟩ : S82)); (case aB => exact Z52); (case aF => exact (fun _ _ => trivial)); (case aO => exact Z152); (case aS => exact (below_size Z52)); (case aL => have := LMc11.out; omega); intro Di Dk ho hb hg hat; rw [← Bu.out] at ho; replace Aa := aM (blk_grown (g := Bc) (o := .cells #[.int .i64 Ai, .int .i64 Aj, .slice Au Ad.length Av] 28 (0, 0)) Z27 hg (Kd.R_ne Am.out Aa.out (by decide))); replace Ab := aM (blk_grown (g := Bd) (o := .cells #[.int .i64 Ak, .int .i64 Al, .slice Aw Af.length Ax] 28 (0, 0)) Z4 hg (Kd.R_ne Am.out Ab.out (by decide))); replace Bb := aM (Kd.R_over' (by (with_reducible repeat (first | apply Kd.R_alloc | apply Kd.R_drewN | apply Kd.R_drew)); exact Bb.out) (Kd.R_typed Z152) (by decide) hg); replace HB := aM (hb); have Bw := aM (ho); clear Am; clear ho hb hg hat))
         go_roundg k2
         case measure => have := HK1.out; have := HK2.out; omega
         case rel => exact ⟨(Bt), (wrap64 (Ah + 1)), Z10, H', ⟨Z171⟩, ⟨by (with_reducible repeat (first | apply Kd.R_alloc | apply Kd.R_drewN | apply Kd.R_drew)); exact Bw.out⟩, ⟨Z27⟩, ⟨Z4⟩, ⟨Z52⟩⟩
        ·rw [if_neg Bx] at H
         exact absurd H (by simp)
       ·rw [if_neg Bp] at H
        have c10b0 : decide ((Ad.length : Int) ≤ (wrap64 (2 * Ap))) = false := decide_eq_false Bp; clear Bp; have H' := Aside0.mk H; clear H; have Dd := Aq.out; have De := Ar.out; obtain ⟨Co, Cp, Cq⟩ := bz3 Aa; obtain ⟨Cr, Cs, Ct⟩ := fz3 Aa; obtain ⟨Cu, Cv, Cw⟩ := bz3 Ab; obtain ⟨Cx, Cy, Cz⟩ := fz3 Ab
        go_wp2_with (first | ((with_reducible refine gate_callee (f := 56) rfl ?_); refine glE (some 24) Try.func56 #[.agg #[.int .i64 Ai, .int .i64 Aj, .slice Au Ad.length Av], .agg #[.int .i64 Ak, .int .i64 Al, .slice Aw Af.length Ax], .int .i64 Ag, .int .i64 Ah] ?_; (with_reducible refine (impl_wrong.calls k2 Ai Aj _ _ Ad Ak Al _ _ Af Ag Ah Ba Ap _ ?side1 ?side2 ?side3 ?side4 A9.out).mono ?_); (case side1 => exact Z207); (case side2 => exact Bl.out); (case side3 => exact Z208); (case side4 => exact Bn.out); rintro e Dl ⟨C6, rfl, Bv, hb⟩; refine ⟨_, rfl, ?_⟩; replace Am := roB Am hb; have Bb := aM (Kd.R_lower Bv (below_size Z52)); replace Aa := bkB Aa hb; replace Ab := bkB Ab hb; replace HB := hbS Z52 hb; (try clear hb); (try clear Bv); obtain ⟨C0, C1, C2⟩ := bz3 Aa; obtain ⟨C3, C4, C5⟩ := fz3 Aa))
        go_roundg k2
        case measure => have := HK1.out; have := HK2.out; omega
        case rel => exact ⟨(An), (wrap64 (Ah + 1)), Z10, H', ⟨Z171⟩, ⟨Z152⟩, ⟨Z27⟩, ⟨Z4⟩, ⟨Z52⟩⟩
      ·rw [if_neg c8] at H
       have c8b0 : decide (Ah ≤ 2) = false := decide_eq_false c8; clear c8; have H' := Aside0.mk H; clear H
       go_wp2
       go_roundg k2
       case measure => have := HK1.out; have := HK2.out; omega
       case rel => exact ⟨(An), (wrap64 (Ag + 1)), Z10, H', ⟨Z171⟩, ⟨Z152⟩, ⟨Z27⟩, ⟨Z4⟩, ⟨Z52⟩⟩
   ·rw [if_neg c7] at H
    have c7b0 : decide (Ag ≤ 2) = false := decide_eq_false c7; clear c7; obtain rfl := Option.some.inj H
    go_wp2
    go_ret
    exact ⟨_, Z9, Z152, Z52⟩
end Go.Proofs.Ytcjalfgnnabghaa.H
